import PyProof.Rows.All
import Wide.All
import OpenK.AllK
import Wide.FinOn
import HandS.ForMost
import HandS.Exc
import HandS.ExcOwn
import HandS.TryOnly
import HandS.TryMany
import HandS.WordsExc
import HandS.IsInst
import HandS.Wide
import HandS.TupAny
import HandS.Flow
import HandS.Deep
import HandS.TupLe
import HandS.Zip
import HandS.Small
import HandS.Replace
import KE.GoesMore
import HandS.Ends
import PySem.Challenge.RW_fourthword_k01_weavings_are_judged
set_option Elab.async false
set_option linter.all false
set_option maxRecDepth 100000
set_option maxHeartbeats 4000000
namespace FL
open PySem PySem.Spec PyProof.Rows L2

/-! ### data -/
/-- a text that the model can hold and lay -/
def sOk (x : Str) : Prop := x.length ≤ sizeLine ∧ PyData.strOk x = true
instance (x : Str) : Decidable (sOk x) := by unfold sOk; infer_instance
inductive D where
  | non | bl (b : Bool) | int (i : Int) | str (x : Str) | ty (n : String)
  | tup (xs : List D) | lst (xs : List D) | fz (xs : List D)
  | dic (ks : List Key) (vs : List D) | dit (ks : List (List Key)) (vs : List D)

mutual
def Den (K : PySem.W.Frag) (H : Hp) : D → V → Prop
  | .non, v => v = .non
  | .bl b, v => v = .bl b
  | .int i, v => v = .int i
  | .str x, v => v = .str x ∧ sOk x
  | .ty n, v => v = .ty n
  | .tup ds, v => ∃ a vs, v = .ref a ∧ SqT K H a vs ∧ DenL K H ds vs
  | .lst ds, v => ∃ a vs, v = .ref a ∧ H a = some (.lst vs) ∧ DenL K H ds vs
  | .fz ds, v => ∃ a vs, v = .ref a ∧ SqL K H a vs ∧ DenL K H ds vs
  | .dic ks ds, v => ∃ a kv, v = .ref a ∧ H a = some (.dK kv) ∧ kv.map (·.1) = ks ∧ DenL K H ds (kv.map (·.2))
  | .dit ks ds, v => ∃ a kv, v = .ref a ∧ H a = some (.dT kv) ∧ kv.map (·.1) = ks ∧ DenL K H ds (kv.map (·.2))
def DenL (K : PySem.W.Frag) (H : Hp) : List D → List V → Prop
  | [], vs => vs = []
  | d :: ds, vs => ∃ v r, vs = v :: r ∧ Den K H d v ∧ DenL K H ds r
end

theorem _root_.L2.Same.seqT {K : PySem.W.Frag} {H H' : Hp} {a : Addr} {xs : List V} (e : Same H H') (h : SqT K H a xs) : SqT K H' a xs := by
  rcases h with (h | ⟨o, h⟩) | h
  · exact .inl (.inl (e _ _ h))
  · exact .inl (.inr ⟨o, e _ _ h⟩)
  · exact .inr h

mutual
theorem Den.mono {K : PySem.W.Frag} {H H' : Hp} (e : Same H H') : ∀ {d : D} {v : V}, Den K H d v → Den K H' d v
  | .non, _, h => h
  | .bl _, _, h => h
  | .int _, _, h => h
  | .str _, _, h => h
  | .ty _, _, h => h
  | .tup _, _, ⟨a, vs, e1, e2, e3⟩ => ⟨a, vs, e1, e.seqT e2, DenL.mono e e3⟩
  | .lst _, _, ⟨a, vs, e1, e2, e3⟩ => ⟨a, vs, e1, e _ _ e2, DenL.mono e e3⟩
  | .fz _, _, ⟨a, vs, e1, e2, e3⟩ => ⟨a, vs, e1, e.seq e2, DenL.mono e e3⟩
  | .dic _ _, _, ⟨a, kv, e1, e2, e3, e4⟩ => ⟨a, kv, e1, e _ _ e2, e3, DenL.mono e e4⟩
  | .dit _ _, _, ⟨a, kv, e1, e2, e3, e4⟩ => ⟨a, kv, e1, e _ _ e2, e3, DenL.mono e e4⟩
theorem DenL.mono {K : PySem.W.Frag} {H H' : Hp} (e : Same H H') : ∀ {ds : List D} {vs : List V}, DenL K H ds vs → DenL K H' ds vs
  | [], _, h => h
  | _ :: _, _, ⟨v, r, e1, e2, e3⟩ => ⟨v, r, e1, Den.mono e e2, DenL.mono e e3⟩
end

theorem DenL.length {K : PySem.W.Frag} {H : Hp} : ∀ {ds : List D} {vs : List V}, DenL K H ds vs → vs.length = ds.length
  | [], _, h => by cases h; rfl
  | _ :: _, _, ⟨v, r, e1, e2, e3⟩ => by rw [e1]; simp [DenL.length e3]
theorem DenL.get {K : PySem.W.Frag} {H : Hp} : ∀ {ds : List D} {vs : List V} {i : Nat} {d : D}, DenL K H ds vs → ds[i]? = some d → ∃ v, vs[i]? = some v ∧ Den K H d v
  | _ :: _, _, 0, _, ⟨v, r, e1, e2, e3⟩, h => by
    cases (Option.some.inj h)
    exact ⟨v, by rw [e1]; rfl, e2⟩
  | _ :: _, _, i + 1, _, ⟨v, r, e1, e2, e3⟩, h => by
    obtain ⟨w, h1, h2⟩ := DenL.get e3 (by simpa using h)
    exact ⟨w, by rw [e1]; simpa using h1, h2⟩
theorem DenL.append {K : PySem.W.Frag} {H : Hp} : ∀ {ds es : List D} {vs ws : List V}, DenL K H ds vs → DenL K H es ws → DenL K H (ds ++ es) (vs ++ ws)
  | [], _, _, _, h, g => by cases h; exact g
  | _ :: _, _, _, _, ⟨v, r, e1, e2, e3⟩, g => by cases e1; exact ⟨v, r ++ _, rfl, e2, DenL.append e3 g⟩
theorem DenL.take {K : PySem.W.Frag} {H : Hp} : ∀ {ds : List D} {vs : List V} (n : Nat), DenL K H ds vs → DenL K H (ds.take n) (vs.take n)
  | [], _, n, h => by cases h; simp [DenL]
  | _ :: _, _, 0, _ => by simp [DenL]
  | _ :: _, _, n + 1, ⟨v, r, e1, e2, e3⟩ => by cases e1; exact ⟨v, _, rfl, e2, DenL.take n e3⟩
theorem DenL.drop {K : PySem.W.Frag} {H : Hp} : ∀ {ds : List D} {vs : List V} (n : Nat), DenL K H ds vs → DenL K H (ds.drop n) (vs.drop n)
  | [], _, n, h => by cases h; simp [DenL]
  | _ :: _, _, 0, h => h
  | _ :: _, _, n + 1, ⟨v, r, e1, e2, e3⟩ => by cases e1; exact DenL.drop n e3
theorem DenL.set {K : PySem.W.Frag} {H : Hp} {d : D} {v : V} (h0 : Den K H d v) : ∀ {ds : List D} {vs : List V} (n : Nat), DenL K H ds vs → DenL K H (ds.set n d) (vs.set n v)
  | [], _, n, h => by cases h; simp [DenL]
  | _ :: _, _, 0, ⟨v', r, e1, e2, e3⟩ => by cases e1; exact ⟨v, r, rfl, h0, e3⟩
  | _ :: _, _, n + 1, ⟨v', r, e1, e2, e3⟩ => by cases e1; exact ⟨v', _, rfl, e2, DenL.set h0 n e3⟩
theorem DenL.one {K : PySem.W.Frag} {H : Hp} {d : D} {v : V} (h : Den K H d v) : DenL K H [d] [v] := ⟨v, [], rfl, h, rfl⟩
theorem DenL.map {K : PySem.W.Frag} {H : Hp} {α : Type} {f : α → D} {g : α → V} (h : ∀ x, Den K H (f x) (g x)) : ∀ (xs : List α), DenL K H (xs.map f) (xs.map g)
  | [] => rfl
  | x :: xs => ⟨_, _, rfl, h x, DenL.map h xs⟩

/-! ### owned trees -/
inductive T where
  | sh (d : D) | lst (ts : List T) | dic (ks : List Key) (ts : List T) | dit (ks : List (List Key)) (ts : List T)

mutual
def DenT (K : PySem.W.Frag) (Hs H : Hp) : T → V → List Addr → Prop
  | .sh d, v, fp => fp = [] ∧ Den K Hs d v
  | .lst ts, v, fp => ∃ a vs fr, v = .ref a ∧ fp = a :: fr ∧ H a = some (.lst vs) ∧ DenTL K Hs H ts vs fr
  | .dic ks ts, v, fp => ∃ a kv fr, v = .ref a ∧ fp = a :: fr ∧ H a = some (.dK kv) ∧ kv.map (·.1) = ks ∧ DenTL K Hs H ts (kv.map (·.2)) fr
  | .dit ks ts, v, fp => ∃ a kv fr, v = .ref a ∧ fp = a :: fr ∧ H a = some (.dT kv) ∧ kv.map (·.1) = ks ∧ DenTL K Hs H ts (kv.map (·.2)) fr
def DenTL (K : PySem.W.Frag) (Hs H : Hp) : List T → List V → List Addr → Prop
  | [], vs, fp => vs = [] ∧ fp = []
  | t :: ts, vs, fp => ∃ v r f1 f2, vs = v :: r ∧ fp = f1 ++ f2 ∧ DenT K Hs H t v f1 ∧ DenTL K Hs H ts r f2
end

mutual
theorem DenT.mono {K : PySem.W.Frag} {Hs Hs' H H' : Hp} (e : Same Hs Hs') : ∀ {t : T} {v : V} {fp : List Addr}, DenT K Hs H t v fp → (∀ a ∈ fp, H' a = H a) → DenT K Hs' H' t v fp
  | .sh _, _, _, ⟨h1, h2⟩, _ => ⟨h1, h2.mono e⟩
  | .lst _, _, _, ⟨a, vs, fr, e1, e2, e3, e4⟩, h => by
    subst e2
    exact ⟨a, vs, fr, e1, rfl, by rw [h a (by simp)]; exact e3, DenTL.mono e e4 fun b hb => h b (by simp [hb])⟩
  | .dic _ _, _, _, ⟨a, vs, fr, e1, e2, e3, e4, e5⟩, h => by
    subst e2
    exact ⟨a, vs, fr, e1, rfl, by rw [h a (by simp)]; exact e3, e4, DenTL.mono e e5 fun b hb => h b (by simp [hb])⟩
  | .dit _ _, _, _, ⟨a, vs, fr, e1, e2, e3, e4, e5⟩, h => by
    subst e2
    exact ⟨a, vs, fr, e1, rfl, by rw [h a (by simp)]; exact e3, e4, DenTL.mono e e5 fun b hb => h b (by simp [hb])⟩
theorem DenTL.mono {K : PySem.W.Frag} {Hs Hs' H H' : Hp} (e : Same Hs Hs') : ∀ {ts : List T} {vs : List V} {fp : List Addr}, DenTL K Hs H ts vs fp → (∀ a ∈ fp, H' a = H a) → DenTL K Hs' H' ts vs fp
  | [], _, _, h, _ => h
  | _ :: _, _, _, ⟨v, r, f1, f2, e1, e2, e3, e4⟩, h => by
    subst e2
    exact ⟨v, r, f1, f2, e1, rfl, DenT.mono e e3 fun b hb => h b (by simp [hb]), DenTL.mono e e4 fun b hb => h b (by simp [hb])⟩
end
mutual
theorem DenT.there {K : PySem.W.Frag} {Hs H : Hp} : ∀ {t : T} {v : V} {fp : List Addr}, DenT K Hs H t v fp → ∀ a ∈ fp, ∃ o, H a = some o
  | .sh _, _, _, ⟨h1, h2⟩, a, ha => by subst h1; cases ha
  | .lst _, _, _, ⟨a, vs, fr, e1, e2, e3, e4⟩, b, hb => by
    subst e2
    rcases List.mem_cons.mp hb with rfl | hb
    · exact ⟨_, e3⟩
    · exact DenTL.there e4 b hb
  | .dic _ _, _, _, ⟨a, vs, fr, e1, e2, e3, e4, e5⟩, b, hb => by
    subst e2
    rcases List.mem_cons.mp hb with rfl | hb
    · exact ⟨_, e3⟩
    · exact DenTL.there e5 b hb
  | .dit _ _, _, _, ⟨a, vs, fr, e1, e2, e3, e4, e5⟩, b, hb => by
    subst e2
    rcases List.mem_cons.mp hb with rfl | hb
    · exact ⟨_, e3⟩
    · exact DenTL.there e5 b hb
theorem DenTL.there {K : PySem.W.Frag} {Hs H : Hp} : ∀ {ts : List T} {vs : List V} {fp : List Addr}, DenTL K Hs H ts vs fp → ∀ a ∈ fp, ∃ o, H a = some o
  | [], _, _, ⟨h1, h2⟩, a, ha => by subst h2; cases ha
  | _ :: _, _, _, ⟨v, r, f1, f2, e1, e2, e3, e4⟩, b, hb => by
    subst e2
    rcases List.mem_append.mp hb with hb | hb
    · exact DenT.there e3 b hb
    · exact DenTL.there e4 b hb
end
theorem DenTL.length {K : PySem.W.Frag} {Hs H : Hp} : ∀ {ts : List T} {vs : List V} {fp : List Addr}, DenTL K Hs H ts vs fp → vs.length = ts.length
  | [], _, _, h => by rw [h.1]; rfl
  | _ :: _, _, _, ⟨v, r, f1, f2, e1, e2, e3, e4⟩ => by rw [e1]; simp [DenTL.length e4]
theorem DenTL.append {K : PySem.W.Frag} {Hs H : Hp} : ∀ {ts us : List T} {vs ws : List V} {f g : List Addr}, DenTL K Hs H ts vs f → DenTL K Hs H us ws g → DenTL K Hs H (ts ++ us) (vs ++ ws) (f ++ g)
  | [], _, _, _, _, _, h, k => by obtain ⟨rfl, rfl⟩ := h; exact k
  | _ :: _, _, _, _, _, _, ⟨v, r, f1, f2, e1, e2, e3, e4⟩, k => by
    subst e1; subst e2
    exact ⟨v, _, f1, f2 ++ _, rfl, by simp, e3, DenTL.append e4 k⟩

/-- the data of a tree -/
def T.d : T → D
  | .sh d => d
  | .lst ts => .lst (go ts)
  | .dic ks ts => .dic ks (go ts)
  | .dit ks ts => .dit ks (go ts)
where go : List T → List D
  | [] => []
  | t :: ts => t.d :: go ts
theorem T.go_map : ∀ ts : List T, T.d.go ts = ts.map T.d
  | [] => rfl
  | t :: ts => by simp [T.d.go, T.go_map ts]
theorem T.d_lst (ts : List T) : (T.lst ts).d = .lst (ts.map T.d) := by rw [T.d, T.go_map]
theorem T.go_sh : ∀ ds : List D, T.d.go (ds.map T.sh) = ds
  | [] => rfl
  | d :: ds => by simp [T.d.go, T.go_sh ds, T.d]
theorem DenTL.sh {K : PySem.W.Frag} {Hs H : Hp} : ∀ {ds : List D} {vs : List V}, DenL K Hs ds vs → DenTL K Hs H (ds.map T.sh) vs []
  | [], _, h => ⟨h, rfl⟩
  | _ :: _, _, ⟨v, r, e1, e2, e3⟩ => ⟨v, r, [], [], e1, rfl, ⟨rfl, e2⟩, DenTL.sh e3⟩
/-- let go: the tree's data, in any heap that has it all -/
theorem SqL.lst {K : PySem.W.Frag} {H : Hp} {a : Addr} {vs : List V} (h : H a = some (.lst vs)) : SqL K H a vs := .inl (.inl h)
mutual
theorem DenT.den {K : PySem.W.Frag} {Hs H H' : Hp} (e : Same Hs H') : ∀ {t : T} {v : V} {fp : List Addr}, DenT K Hs H t v fp → (∀ a ∈ fp, H' a = H a) → Den K H' t.d v
  | .sh _, _, _, ⟨h1, h2⟩, _ => h2.mono e
  | .lst _, _, _, ⟨a, vs, fr, e1, e2, e3, e4⟩, h => by
    subst e2
    exact ⟨a, vs, e1, by rw [h a (by simp)]; exact e3, DenTL.den e e4 fun b hb => h b (by simp [hb])⟩
  | .dic _ _, _, _, ⟨a, vs, fr, e1, e2, e3, e4, e5⟩, h => by
    subst e2
    exact ⟨a, vs, e1, by rw [h a (by simp)]; exact e3, e4, DenTL.den e e5 fun b hb => h b (by simp [hb])⟩
  | .dit _ _, _, _, ⟨a, vs, fr, e1, e2, e3, e4, e5⟩, h => by
    subst e2
    exact ⟨a, vs, e1, by rw [h a (by simp)]; exact e3, e4, DenTL.den e e5 fun b hb => h b (by simp [hb])⟩
theorem DenTL.den {K : PySem.W.Frag} {Hs H H' : Hp} (e : Same Hs H') : ∀ {ts : List T} {vs : List V} {fp : List Addr}, DenTL K Hs H ts vs fp → (∀ a ∈ fp, H' a = H a) → DenL K H' (T.d.go ts) vs
  | [], _, _, h, _ => h.1
  | _ :: _, _, _, ⟨v, r, f1, f2, e1, e2, e3, e4⟩, h => by
    subst e2
    exact ⟨v, r, e1, DenT.den e e3 fun b hb => h b (by simp [hb]), DenTL.den e e4 fun b hb => h b (by simp [hb])⟩
end

/-! ### environments -/
abbrev Env' := List (Option T)
def DenE (K : PySem.W.Frag) (Hs H : Hp) : Env' → L2.St → List Addr → Prop
  | [], σ, fp => σ = [] ∧ fp = []
  | none :: ρ, σ, fp => ∃ o r, σ = o :: r ∧ DenE K Hs H ρ r fp
  | some t :: ρ, σ, fp => ∃ v r f1 f2, σ = some v :: r ∧ fp = f1 ++ f2 ∧ DenT K Hs H t v f1 ∧ DenE K Hs H ρ r f2
theorem DenE.mono {K : PySem.W.Frag} {Hs Hs' H H' : Hp} (e : Same Hs Hs') : ∀ {ρ : Env'} {σ : L2.St} {fp : List Addr}, DenE K Hs H ρ σ fp → (∀ a ∈ fp, H' a = H a) → DenE K Hs' H' ρ σ fp
  | [], _, _, h, _ => h
  | none :: _, _, _, ⟨o, r, e1, e2⟩, h => ⟨o, r, e1, DenE.mono e e2 h⟩
  | some _ :: _, _, _, ⟨v, r, f1, f2, e1, e2, e3, e4⟩, h => by
    subst e2
    exact ⟨v, r, f1, f2, e1, rfl, e3.mono e fun b hb => h b (by simp [hb]), DenE.mono e e4 fun b hb => h b (by simp [hb])⟩
theorem DenE.there {K : PySem.W.Frag} {Hs H : Hp} : ∀ {ρ : Env'} {σ : L2.St} {fp : List Addr}, DenE K Hs H ρ σ fp → ∀ a ∈ fp, ∃ o, H a = some o
  | [], _, _, h, a, ha => by rw [h.2] at ha; cases ha
  | none :: _, _, _, ⟨o, r, e1, e2⟩, a, ha => DenE.there e2 a ha
  | some _ :: _, _, _, ⟨v, r, f1, f2, e1, e2, e3, e4⟩, a, ha => by
    subst e2
    rcases List.mem_append.mp ha with ha | ha
    · exact e3.there a ha
    · exact DenE.there e4 a ha
/-- a slot: what stands in it, and the rest with another tree (or none) in its place -/
theorem DenE.at {K : PySem.W.Frag} {Hs H : Hp} : ∀ {ρ : Env'} {σ : L2.St} {fp : List Addr} {i : Nat} {t : T}, DenE K Hs H ρ σ fp → ρ[i]? = some (some t) →
    ∃ v f1 f2 f3, σ[i]? = some (some v) ∧ fp = f1 ++ (f2 ++ f3) ∧ DenT K Hs H t v f2 ∧
      (∀ Hs' H', Same Hs Hs' → (∀ a ∈ f1 ++ f3, H' a = H a) → ∀ t' v' f', DenT K Hs' H' t' v' f' → DenE K Hs' H' (ρ.set i (some t')) (σ.set i (some v')) (f1 ++ (f' ++ f3))) ∧
      (∀ Hs' H', Same Hs Hs' → (∀ a ∈ f1 ++ f3, H' a = H a) → ∀ o, DenE K Hs' H' (ρ.set i none) (σ.set i o) (f1 ++ f3))
  | none :: ρ, _, fp, i + 1, t, ⟨o, r, e1, e2⟩, h => by
    obtain ⟨v, f1, f2, f3, h1, h2, h3, h4, h5⟩ := DenE.at e2 (i := i) (by simpa using h)
    subst e1
    exact ⟨v, f1, f2, f3, by simpa using h1, h2, h3, fun Hs' H' s1 s2 t' v' f' d => ⟨o, _, rfl, h4 Hs' H' s1 s2 t' v' f' d⟩, fun Hs' H' s1 s2 o' => ⟨o, _, rfl, h5 Hs' H' s1 s2 o'⟩⟩
  | some t0 :: ρ, _, fp, 0, t, ⟨v, r, f1, f2, e1, e2, e3, e4⟩, h => by
    cases (Option.some.inj (Option.some.inj h))
    subst e1
    exact ⟨v, [], f1, f2, rfl, by simpa using e2, e3, fun Hs' H' s1 s2 t' v' f' d => ⟨v', r, f', f2, rfl, by simp, d, e4.mono s1 (by simpa using s2)⟩,
      fun Hs' H' s1 s2 o' => ⟨o', r, rfl, by simpa using e4.mono s1 (by simpa using s2)⟩⟩
  | some t0 :: ρ, _, fp, i + 1, t, ⟨v, r, g1, g2, e1, e2, e3, e4⟩, h => by
    obtain ⟨v', f1, f2, f3, h1, h2, h3, h4, h5⟩ := DenE.at e4 (i := i) (by simpa using h)
    subst e1; subst h2
    refine ⟨v', g1 ++ f1, f2, f3, by simpa using h1, by rw [e2]; simp, h3, fun Hs' H' s1 s2 t' w' f' d => ?_, fun Hs' H' s1 s2 o' => ?_⟩
    · exact ⟨v, _, g1, f1 ++ (f' ++ f3), rfl, by simp, e3.mono s1 fun b hb => s2 b (by simp [hb]), h4 Hs' H' s1 (fun b hb => s2 b (by
        rcases List.mem_append.mp hb with hb | hb <;> simp [hb])) t' w' f' d⟩
    · exact ⟨v, _, g1, f1 ++ f3, rfl, by simp, e3.mono s1 fun b hb => s2 b (by simp [hb]), h5 Hs' H' s1 (fun b hb => s2 b (by
        rcases List.mem_append.mp hb with hb | hb <;> simp [hb])) o'⟩
/-- a slot in which nothing is known is filled, or what stood in it is forgotten -/
theorem DenE.put {K : PySem.W.Frag} {Hs H : Hp} {t : T} {v : V} {f : List Addr} : ∀ {ρ : Env'} {σ : L2.St} {fp : List Addr} {i : Nat}, DenE K Hs H ρ σ fp → i < ρ.length → DenT K Hs H t v f →
    ∃ f1 f2 f3, fp = f1 ++ (f2 ++ f3) ∧ DenE K Hs H (ρ.set i (some t)) (σ.set i (some v)) (f1 ++ (f ++ f3))
  | [], _, _, _, _, h, _ => by cases h
  | none :: ρ, _, fp, 0, ⟨o, r, e1, e2⟩, h, d => by
    subst e1
    exact ⟨[], [], fp, rfl, ⟨v, r, f, fp, rfl, by simp, d, e2⟩⟩
  | some t0 :: ρ, _, fp, 0, ⟨w, r, g1, g2, e1, e2, e3, e4⟩, h, d => by
    subst e1
    exact ⟨[], g1, g2, by simpa using e2, ⟨v, r, f, g2, rfl, by simp, d, e4⟩⟩
  | none :: ρ, _, fp, i + 1, ⟨o, r, e1, e2⟩, h, d => by
    obtain ⟨f1, f2, f3, h1, h2⟩ := DenE.put e2 (i := i) (by simpa using h) d
    subst e1
    exact ⟨f1, f2, f3, h1, ⟨o, _, rfl, h2⟩⟩
  | some t0 :: ρ, _, fp, i + 1, ⟨w, r, g1, g2, e1, e2, e3, e4⟩, h, d => by
    obtain ⟨f1, f2, f3, h1, h2⟩ := DenE.put e4 (i := i) (by simpa using h) d
    subst e1; subst h1
    exact ⟨g1 ++ f1, f2, f3, by rw [e2]; simp, ⟨w, _, g1, f1 ++ (f ++ f3), rfl, by simp, e3, h2⟩⟩
theorem DenE.wipe {K : PySem.W.Frag} {Hs H : Hp} : ∀ {ρ : Env'} {σ : L2.St} {fp : List Addr} {i : Nat}, DenE K Hs H ρ σ fp →
    ∃ f1 f2 f3, fp = f1 ++ (f2 ++ f3) ∧ ∀ o, DenE K Hs H (ρ.set i none) (σ.set i o) (f1 ++ f3)
  | [], _, fp, _, h => ⟨fp, [], [], by simp, fun o => by rw [h.1, h.2]; exact ⟨rfl, rfl⟩⟩
  | none :: ρ, _, fp, 0, ⟨o, r, e1, e2⟩ => by
    subst e1
    exact ⟨[], [], fp, rfl, fun o => ⟨o, r, rfl, e2⟩⟩
  | some t0 :: ρ, _, fp, 0, ⟨w, r, g1, g2, e1, e2, e3, e4⟩ => by
    subst e1
    exact ⟨[], g1, g2, by simpa using e2, fun o => ⟨o, r, rfl, e4⟩⟩
  | none :: ρ, _, fp, i + 1, ⟨o, r, e1, e2⟩ => by
    obtain ⟨f1, f2, f3, h1, h2⟩ := DenE.wipe e2 (i := i)
    subst e1
    exact ⟨f1, f2, f3, h1, fun o' => ⟨o, _, rfl, h2 o'⟩⟩
  | some t0 :: ρ, _, fp, i + 1, ⟨w, r, g1, g2, e1, e2, e3, e4⟩ => by
    obtain ⟨f1, f2, f3, h1, h2⟩ := DenE.wipe e4 (i := i)
    subst e1; subst h1
    exact ⟨g1 ++ f1, f2, f3, by rw [e2]; simp, fun o' => ⟨w, _, g1, f1 ++ f3, rfl, by simp, e3, h2 o'⟩⟩
theorem DenE.length {K : PySem.W.Frag} {Hs H : Hp} : ∀ {ρ : Env'} {σ : L2.St} {fp : List Addr}, DenE K Hs H ρ σ fp → σ.length = ρ.length
  | [], _, _, h => by rw [h.1]; rfl
  | none :: _, _, _, ⟨o, r, e1, e2⟩ => by rw [e1]; simp [DenE.length e2]
  | some _ :: _, _, _, ⟨v, r, f1, f2, e1, e2, e3, e4⟩ => by rw [e1]; simp [DenE.length e4]

/-! ### the state -/
/-- the ghost: a shared heap at least, and a frame that stays -/
abbrev Gh := Hp × Hp
structure OkAt (K : PySem.W.Frag) (G : Gh) (σ : L2.St) (H : Hp) (ρ : Env') (Hs : Hp) (fp : List Addr) : Prop where
  sh : Same Hs H
  base : Same G.1 Hs
  frame : Same G.2 H
  priv : ∀ a, (G.2 a).isSome = true → G.1 a = none → Hs a = none ∧ a ∉ fp
  disj : ∀ a ∈ fp, Hs a = none
  nd : fp.Nodup
  env : DenE K Hs H ρ σ fp
def Ok (K : PySem.W.Frag) (G : Gh) (σ : L2.St) (H : Hp) (ρ : Env') : Prop := ∃ Hs fp, OkAt K G σ H ρ Hs fp
/-- the whole as a ghost -/
def rem (H : Hp) (fp : List Addr) : Hp := fun a => if a ∈ fp then none else H a
theorem OkAt.self {K G σ H ρ Hs fp} (h : OkAt K G σ H ρ Hs fp) : OkAt K (Hs, rem H fp) σ H ρ Hs fp :=
  ⟨h.sh, Same.refl _, fun b o e => by
    have e : rem H fp b = some o := e
    unfold rem at e
    split at e
    · cases e
    · exact e, fun a e1 e2 => ⟨e2, fun hm => by simp [rem, hm] at e1⟩, h.disj, h.nd, h.env⟩
theorem OkAt.back {K G σ σ' H H' ρ ρ' Hs Hs' fp fp'} (h : OkAt K G σ H ρ Hs fp) (h' : OkAt K (Hs, rem H fp) σ' H' ρ' Hs' fp') : OkAt K G σ' H' ρ' Hs' fp' := by
  have fr : ∀ a o, G.2 a = some o → G.1 a = none → (rem H fp) a = some o ∧ Hs a = none := fun a o e z => by
    obtain ⟨p1, p2⟩ := h.priv a (by rw [e]; rfl) z
    exact ⟨by simp [rem, p2, h.frame a o e], p1⟩
  refine ⟨h'.sh, h.base.trans h'.base, fun a o e => ?_, fun a e1 e2 => ?_, h'.disj, h'.nd, h'.env⟩
  · cases z : G.1 a with
    | some o' =>
      have q := h.frame a o e
      have q2 := h.sh a o' (h.base a o' z)
      rw [q] at q2
      cases q2
      exact h'.sh a _ (h'.base a _ (h.base a _ z))
    | none => exact h'.frame a o (fr a o e z).1
  · obtain ⟨o, eo⟩ := Option.isSome_iff_exists.mp e1
    obtain ⟨q1, q2⟩ := fr a o eo e2
    exact h'.priv a (by show ((rem H fp) a).isSome = true; rw [q1]; rfl) q2
/-- the heap has grown -/
structure Ext (Hs H Hs' H' : Hp) : Prop where
  s : Same Hs Hs'
  sh : Same Hs' H'
  keep : Same H H'
  priv : ∀ a, (H a).isSome = true → Hs a = none → Hs' a = none
theorem Ext.refl {Hs H : Hp} (h : Same Hs H) : Ext Hs H Hs H := ⟨Same.refl _, h, Same.refl _, fun _ _ h => h⟩
theorem Ext.trans {Hs H Hs1 H1 Hs2 H2 : Hp} (a : Ext Hs H Hs1 H1) (b : Ext Hs1 H1 Hs2 H2) : Ext Hs H Hs2 H2 :=
  ⟨a.s.trans b.s, b.sh, a.keep.trans b.keep, fun x e1 e2 => b.priv x (by
    obtain ⟨o, eo⟩ := Option.isSome_iff_exists.mp e1
    rw [a.keep x o eo]; rfl) (a.priv x e1 e2)⟩
theorem Ext.new {Hs H : Hp} {p : Addr} {o : HO} (h : Same Hs H) (n : H p = none) : Ext Hs H (upd Hs p o) (upd H p o) := by
  have np : Hs p = none := h.free n
  refine ⟨fun b u e => ?_, fun b u e => ?_, fun b u e => ?_, fun b e1 e2 => ?_⟩
  · rw [upd_ne (ne_of_none e np)]; exact e
  · by_cases z : b = p
    · subst z; rw [upd_same] at e ⊢; exact e
    · rw [upd_ne z] at e ⊢; exact h b u e
  · rw [upd_ne (ne_of_none e n)]; exact e
  · have z : b ≠ p := fun z => by subst z; rw [n] at e1; cases e1
    rw [upd_ne z]; exact e2
/-- grown outside of the shared part -/
theorem Ext.out {Hs H : Hp} {p : Addr} {o : HO} (h : Same Hs H) (n : H p = none) : Ext Hs H Hs (upd H p o) := by
  have k : Same H (upd H p o) := fun b u e => by rw [upd_ne (ne_of_none e n)]; exact e
  exact ⟨Same.refl _, h.trans k, k, fun _ _ e => e⟩
theorem OkAt.ext {K G σ H ρ Hs fp Hs' H'} (h : OkAt K G σ H ρ Hs fp) (e : Ext Hs H Hs' H') : OkAt K G σ H' ρ Hs' fp := by
  have th : ∀ a ∈ fp, ∃ o, H a = some o := h.env.there
  refine ⟨e.sh, h.base.trans e.s, h.frame.trans e.keep, fun a e1 e2 => ?_, fun a ha => ?_, h.nd, h.env.mono e.s fun a ha => ?_⟩
  · obtain ⟨q1, q2⟩ := h.priv a e1 e2
    obtain ⟨o, eo⟩ := Option.isSome_iff_exists.mp e1
    exact ⟨e.priv a (by rw [h.frame a o eo]; rfl) q1, q2⟩
  · obtain ⟨o, eo⟩ := th a ha
    exact e.priv a (by rw [eo]; rfl) (h.disj a ha)
  · obtain ⟨o, eo⟩ := th a ha
    rw [eo]; exact e.keep a o eo
end FL

namespace FL
open PySem PySem.Spec PyProof.Rows L2

/-! ### results -/
inductive RV where
  | leaf (d : D) | slot (i : Nat)
inductive Res (α : Type) where
  | ok (a : α) | exc (c : Str) (ρ : Env') | bad
def Res.bind {α β : Type} : Res α → (α → Res β) → Res β
  | .ok a, f => f a
  | .exc c ρ, _ => .exc c ρ
  | .bad, _ => .bad
@[simp] theorem bind_ok {α β : Type} (a : α) (f : α → Res β) : (Res.ok a).bind f = f a := rfl
@[simp] theorem bind_exc {α β : Type} (c : Str) (ρ : Env') (f : α → Res β) : (Res.exc c ρ).bind f = .exc c ρ := rfl
@[simp] theorem bind_bad {α β : Type} (f : α → Res β) : (Res.bad).bind f = .bad := rfl
def Res.of {α : Type} : Option α → Res α
  | some a => .ok a
  | none => .bad
@[simp] theorem of_some {α : Type} (a : α) : Res.of (some a) = .ok a := rfl
@[simp] theorem of_none {α : Type} : Res.of (none : Option α) = .bad := rfl

def RVd (K : PySem.W.Frag) (Hs : Hp) (σ : L2.St) : RV → V → Prop
  | .leaf d, v => Den K Hs d v
  | .slot i, v => σ[i]? = some (some v)
theorem RVd.mono {K Hs Hs' σ r v} (e : Same Hs Hs') (h : RVd K Hs σ r v) : RVd K Hs' σ r v := by
  cases r with
  | leaf d => exact Den.mono e h
  | slot i => exact h

/-! ### how a slot is looked at -/
def T.leaves : List T → Option (List D)
  | [] => some []
  | .sh d :: r => (T.leaves r).map (d :: ·)
  | _ :: _ => none
def T.top : T → Option D
  | .sh d => some d
  | .lst ts => (T.leaves ts).map D.lst
  | .dic ks ts => (T.leaves ts).map (D.dic ks)
  | .dit ks ts => (T.leaves ts).map (D.dit ks)
theorem T.leaves_sh : ∀ ds : List D, T.leaves (ds.map T.sh) = some ds
  | [] => rfl
  | d :: ds => by simp [T.leaves, T.leaves_sh ds]
theorem T.leaves_eq : ∀ {ts : List T} {ds : List D}, T.leaves ts = some ds → ts = ds.map T.sh
  | [], ds, h => by cases h; rfl
  | .sh d :: r, ds, h => by
    simp only [T.leaves, Option.map_eq_some_iff] at h
    obtain ⟨es, h1, h2⟩ := h
    subst h2
    simp [T.leaves_eq h1]
def look (ρ : Env') : RV → Option D
  | .leaf d => some d
  | .slot i => match ρ[i]? with
    | some (some t) => t.top
    | _ => none
/-- a thing whose own object may be owned; what is within is shared -/
def Den1 (K : PySem.W.Frag) (Hs H : Hp) : D → V → Prop
  | .lst ds, v => ∃ a vs, v = .ref a ∧ H a = some (.lst vs) ∧ DenL K Hs ds vs
  | .dic ks ds, v => ∃ a kv, v = .ref a ∧ H a = some (.dK kv) ∧ kv.map (·.1) = ks ∧ DenL K Hs ds (kv.map (·.2))
  | .dit ks ds, v => ∃ a kv, v = .ref a ∧ H a = some (.dT kv) ∧ kv.map (·.1) = ks ∧ DenL K Hs ds (kv.map (·.2))
  | d, v => Den K Hs d v
theorem Den.one {K Hs H} (e : Same Hs H) : ∀ {d v}, Den K Hs d v → Den1 K Hs H d v
  | .non, _, h | .bl _, _, h | .int _, _, h | .str _, _, h | .ty _, _, h | .tup _, _, h | .fz _, _, h => h
  | .lst _, _, ⟨a, vs, e1, e2, e3⟩ => ⟨a, vs, e1, e _ _ e2, e3⟩
  | .dic _ _, _, ⟨a, vs, e1, e2, e3, e4⟩ => ⟨a, vs, e1, e _ _ e2, e3, e4⟩
  | .dit _ _, _, ⟨a, vs, e1, e2, e3, e4⟩ => ⟨a, vs, e1, e _ _ e2, e3, e4⟩
theorem DenTL.leaf {K Hs H} : ∀ {ds : List D} {vs : List V} {fp : List Addr}, DenTL K Hs H (ds.map T.sh) vs fp → DenL K Hs ds vs ∧ fp = []
  | [], _, _, h => ⟨h.1, h.2⟩
  | d :: ds, _, _, ⟨v, r, f1, f2, e1, e2, e3, e4⟩ => by
    obtain ⟨h1, h2⟩ := DenTL.leaf e4
    obtain ⟨h3, h4⟩ := e3
    subst h2; subst h3; subst e1
    exact ⟨⟨v, r, rfl, h4, h1⟩, by simpa using e2⟩
theorem DenT.top {K Hs H} (e : Same Hs H) {t : T} {v : V} {fp : List Addr} {d : D} (h : DenT K Hs H t v fp) (q : t.top = some d) : Den1 K Hs H d v := by
  cases t with
  | sh d' =>
    cases q
    exact Den.one e h.2
  | lst ts =>
    simp only [T.top, Option.map_eq_some_iff] at q
    obtain ⟨ds, q1, q2⟩ := q
    subst q2
    rw [T.leaves_eq q1] at h
    obtain ⟨a, vs, fr, e1, e2, e3, e4⟩ := h
    exact ⟨a, vs, e1, e3, (DenTL.leaf e4).1⟩
  | dic ks ts =>
    simp only [T.top, Option.map_eq_some_iff] at q
    obtain ⟨ds, q1, q2⟩ := q
    subst q2
    rw [T.leaves_eq q1] at h
    obtain ⟨a, vs, fr, e1, e2, e3, e4, e5⟩ := h
    exact ⟨a, vs, e1, e3, e4, (DenTL.leaf e5).1⟩
  | dit ks ts =>
    simp only [T.top, Option.map_eq_some_iff] at q
    obtain ⟨ds, q1, q2⟩ := q
    subst q2
    rw [T.leaves_eq q1] at h
    obtain ⟨a, vs, fr, e1, e2, e3, e4, e5⟩ := h
    exact ⟨a, vs, e1, e3, e4, (DenTL.leaf e5).1⟩
theorem look_den {K G σ H ρ Hs fp r v d} (h : OkAt K G σ H ρ Hs fp) (q : RVd K Hs σ r v) (e : look ρ r = some d) : Den1 K Hs H d v := by
  cases r with
  | leaf d' => cases e; exact Den.one h.sh q
  | slot i =>
    simp only [look] at e
    split at e
    · rename_i t hi
      obtain ⟨v', f1, f2, f3, h1, h2, h3, _⟩ := h.env.at hi
      have q' : σ[i]? = some (some v) := q
      rw [h1] at q'
      cases q'
      exact h3.top h.sh e
    · cases e

/-! ### expressions -/
section
variable (K : PySem.W.Frag) (mg : Str → Option Value) (W : WX)
def PoE (G : Gh) (σ : L2.St) (Q : VK) : Res (RV × Env') → Prop
  | .ok (r, ρ') => ∀ v H' Hs fp, OkAt K G σ H' ρ' Hs fp → RVd K Hs σ r v → Q v H'
  | .exc c ρ' => ∀ H' C, mg c = some (.ref C) → Ok K G σ H' ρ' → W (.ref C) none σ H'
  | .bad => False
/-- the reading of an expression by a function of the environment -/
def tFO (f : Env' → Res (RV × Env')) : TE := fun σ H Q => ∃ G ρ, Ok K G σ H ρ ∧ PoE K mg W G σ Q (f ρ)
def PoT (G : Gh) (σ : L2.St) (Q : Bool → Hp → Prop) : Res (Bool × Env') → Prop
  | .ok (b, ρ') => ∀ H', Ok K G σ H' ρ' → Q b H'
  | .exc c ρ' => ∀ H' C, mg c = some (.ref C) → Ok K G σ H' ρ' → W (.ref C) none σ H'
  | .bad => False
def tFB (f : Env' → Res (Bool × Env')) : TT := fun σ H Q => ∃ G ρ, Ok K G σ H ρ ∧ PoT K mg W G σ Q (f ρ)
/-- trees, fresh -/
def PoN (G : Gh) (σ : L2.St) (Q : VK) : Res (T × Env') → Prop
  | .ok (t, ρ') => ∀ v H' Hs fp ft, OkAt K G σ H' ρ' Hs fp → DenT K Hs H' t v ft → ft.Nodup → (∀ a ∈ ft, Hs a = none ∧ a ∉ fp ∧ G.2 a = none) → Q v H'
  | .exc c ρ' => ∀ H' C, mg c = some (.ref C) → Ok K G σ H' ρ' → W (.ref C) none σ H'
  | .bad => False
def tFN (f : Env' → Res (T × Env')) : TE := fun σ H Q => ∃ G ρ, Ok K G σ H ρ ∧ PoN K mg W G σ Q (f ρ)
def RVL (Hs : Hp) (σ : L2.St) : List RV → List V → Prop
  | [], vs => vs = []
  | r :: rs, vs => ∃ v ws, vs = v :: ws ∧ RVd K Hs σ r v ∧ RVL Hs σ rs ws
def PoA (G : Gh) (σ : L2.St) (Q : List V → Hp → Prop) : Res (List RV × Env') → Prop
  | .ok (rs, ρ') => ∀ vs H' Hs fp, OkAt K G σ H' ρ' Hs fp → RVL K Hs σ rs vs → Q vs H'
  | .exc c ρ' => ∀ H' C, mg c = some (.ref C) → Ok K G σ H' ρ' → W (.ref C) none σ H'
  | .bad => False
def tFA (f : Env' → Res (List RV × Env')) : TA := fun σ H Q => ∃ G ρ, Ok K G σ H ρ ∧ PoA K mg W G σ Q (f ρ)
end
theorem RVL.mono {K Hs Hs' σ} (e : Same Hs Hs') : ∀ {rs vs}, RVL K Hs σ rs vs → RVL K Hs' σ rs vs
  | [], _, h => h
  | _ :: _, _, ⟨v, ws, e1, e2, e3⟩ => ⟨v, ws, e1, e2.mono e, RVL.mono e e3⟩
theorem rem_none {K G σ H ρ Hs fp} (h : OkAt K G σ H ρ Hs fp) {a : Addr} (e : rem H fp a = none) : G.2 a = none := by
  cases z : G.2 a with
  | none => rfl
  | some o =>
    have n : a ∉ fp := fun hm => by
      cases y : G.1 a with
      | none => exact (h.priv a (by rw [z]; rfl) y).2 hm
      | some u =>
        have := h.disj a hm
        rw [h.base a u y] at this
        cases this
    simp only [rem, n, if_false] at e
    rw [h.frame a o z] at e
    cases e
theorem Ok.back {K G σ σ' H H' ρ ρ' Hs fp} (h : OkAt K G σ H ρ Hs fp) (h' : Ok K (Hs, rem H fp) σ' H' ρ') : Ok K G σ' H' ρ' := by
  obtain ⟨Hs', fp', k⟩ := h'
  exact ⟨Hs', fp', h.back k⟩
theorem _root_.L2.PE.imp {X : Cx} {e : Expr} {t t' : TE} (h : PE X e t) (i : ∀ σ H Q, t' σ H Q → t σ H Q) : PE X e t' := ⟨fun pins s σ H Q I q => h.run pins s σ H Q I (i σ H Q q)⟩
theorem _root_.L2.PT.imp {X : Cx} {e : Expr} {t t' : TT} (h : PT X e t) (i : ∀ σ H Q, t' σ H Q → t σ H Q) : PT X e t' := ⟨fun pins s σ H Q I q => h.run pins s σ H Q I (i σ H Q q)⟩
theorem _root_.L2.PW.imp {X : Cx} {e : Expr} {t t' : TT} (h : PW X e t) (i : ∀ σ H Q, t' σ H Q → t σ H Q) : PW X e t' := ⟨fun wh pins s σ H Q I q => h.run wh pins s σ H Q I (i σ H Q q)⟩
theorem _root_.L2.PA.imp {X : Cx} {e : List Expr} {t t' : TA} (h : PA X e t) (i : ∀ σ H Q, t' σ H Q → t σ H Q) : PA X e t' := ⟨fun pos pins s σ H Q I q => h.run pos pins s σ H Q I (i σ H Q q)⟩
theorem _root_.L2.PS.imp {X : Cx} {e : Stmt} {t t' : TS} (h : PS X e t) (i : ∀ D σ H, t' D σ H → t D σ H) : PS X e t' := ⟨fun pins s σ H D I q => h.run pins s σ H D I (i D σ H q)⟩
theorem _root_.L2.PSs.imp {X : Cx} {e : List Stmt} {t t' : TS} (h : PSs X e t) (i : ∀ D σ H, t' D σ H → t D σ H) : PSs X e t' := ⟨fun pins s σ H D I q => h.run pins s σ H D I (i D σ H q)⟩

section
variable {K : PySem.W.Frag} {mg : Str → Option Value} {W : WX} {G : Gh} {σ : L2.St} {H : Hp} {ρ : Env'} {Hs : Hp} {fp : List Addr} {β : Type} {P : Res β → Prop}
/-- an expression's reading, then the rest -/
theorem goE {f : Env' → Res (RV × Env')} {k : RV × Env' → Res β} {R : VK} (ok : OkAt K G σ H ρ Hs fp) (po : P ((f ρ).bind k))
    (hx : ∀ c ρ', P (.exc c ρ') → ∀ H' C, mg c = some (.ref C) → Ok K G σ H' ρ' → W (.ref C) none σ H') (hb : ¬ P .bad)
    (cont : ∀ r ρ1 x H1 Hs1 fp1, OkAt K (Hs, rem H fp) σ H1 ρ1 Hs1 fp1 → RVd K Hs1 σ r x → P (k (r, ρ1)) → R x H1) : tFO K mg W f σ H R := by
  refine ⟨_, ρ, ⟨Hs, fp, ok.self⟩, ?_⟩
  cases e : f ρ with
  | ok p =>
    obtain ⟨r, ρ1⟩ := p
    rw [e] at po
    exact fun x H1 Hs1 fp1 ok1 d1 => cont r ρ1 x H1 Hs1 fp1 ok1 d1 po
  | exc c ρ' =>
    rw [e] at po
    exact fun H' C hc o => hx c ρ' po H' C hc (Ok.back ok o)
  | bad =>
    rw [e] at po
    exact hb po
theorem goT {f : Env' → Res (Bool × Env')} {k : Bool × Env' → Res β} {R : Bool → Hp → Prop} (ok : OkAt K G σ H ρ Hs fp) (po : P ((f ρ).bind k))
    (hx : ∀ c ρ', P (.exc c ρ') → ∀ H' C, mg c = some (.ref C) → Ok K G σ H' ρ' → W (.ref C) none σ H') (hb : ¬ P .bad)
    (cont : ∀ b ρ1 H1 Hs1 fp1, OkAt K (Hs, rem H fp) σ H1 ρ1 Hs1 fp1 → P (k (b, ρ1)) → R b H1) : tFB K mg W f σ H R := by
  refine ⟨_, ρ, ⟨Hs, fp, ok.self⟩, ?_⟩
  cases e : f ρ with
  | ok p =>
    obtain ⟨r, ρ1⟩ := p
    rw [e] at po
    exact fun H1 ⟨Hs1, fp1, ok1⟩ => cont r ρ1 H1 Hs1 fp1 ok1 po
  | exc c ρ' =>
    rw [e] at po
    exact fun H' C hc o => hx c ρ' po H' C hc (Ok.back ok o)
  | bad =>
    rw [e] at po
    exact hb po
theorem goN {f : Env' → Res (T × Env')} {k : T × Env' → Res β} {R : VK} (ok : OkAt K G σ H ρ Hs fp) (po : P ((f ρ).bind k))
    (hx : ∀ c ρ', P (.exc c ρ') → ∀ H' C, mg c = some (.ref C) → Ok K G σ H' ρ' → W (.ref C) none σ H') (hb : ¬ P .bad)
    (cont : ∀ t ρ1 x H1 Hs1 fp1 ft, OkAt K (Hs, rem H fp) σ H1 ρ1 Hs1 fp1 → DenT K Hs1 H1 t x ft → ft.Nodup → (∀ a ∈ ft, Hs1 a = none ∧ a ∉ fp1 ∧ rem H fp a = none) → P (k (t, ρ1)) → R x H1) : tFN K mg W f σ H R := by
  refine ⟨_, ρ, ⟨Hs, fp, ok.self⟩, ?_⟩
  cases e : f ρ with
  | ok p =>
    obtain ⟨r, ρ1⟩ := p
    rw [e] at po
    exact fun x H1 Hs1 fp1 ft ok1 d1 n1 q1 => cont r ρ1 x H1 Hs1 fp1 ft ok1 d1 n1 q1 po
  | exc c ρ' =>
    rw [e] at po
    exact fun H' C hc o => hx c ρ' po H' C hc (Ok.back ok o)
  | bad =>
    rw [e] at po
    exact hb po
theorem goA {f : Env' → Res (List RV × Env')} {k : List RV × Env' → Res β} {R : List V → Hp → Prop} (ok : OkAt K G σ H ρ Hs fp) (po : P ((f ρ).bind k))
    (hx : ∀ c ρ', P (.exc c ρ') → ∀ H' C, mg c = some (.ref C) → Ok K G σ H' ρ' → W (.ref C) none σ H') (hb : ¬ P .bad)
    (cont : ∀ rs ρ1 xs H1 Hs1 fp1, OkAt K (Hs, rem H fp) σ H1 ρ1 Hs1 fp1 → RVL K Hs1 σ rs xs → P (k (rs, ρ1)) → R xs H1) : tFA K mg W f σ H R := by
  refine ⟨_, ρ, ⟨Hs, fp, ok.self⟩, ?_⟩
  cases e : f ρ with
  | ok p =>
    obtain ⟨r, ρ1⟩ := p
    rw [e] at po
    exact fun x H1 Hs1 fp1 ok1 d1 => cont r ρ1 x H1 Hs1 fp1 ok1 d1 po
  | exc c ρ' =>
    rw [e] at po
    exact fun H' C hc o => hx c ρ' po H' C hc (Ok.back ok o)
  | bad =>
    rw [e] at po
    exact hb po
end

/-! ### names, constants -/
section
variable {X : Cx} {mg : Str → Option Value} {W : WX}
def eVar (i : Nat) : Env' → Res (RV × Env') := fun ρ => match ρ[i]? with
  | some (some (.sh d)) => .ok (.leaf d, ρ)
  | some (some _) => .ok (.slot i, ρ)
  | _ => .bad
def eC (d : D) : Env' → Res (RV × Env') := fun ρ => .ok (.leaf d, ρ)
theorem fo_var (i : Nat) {x : Str} {pos : Pos} (hN : X.N[i]? = some x := by rfl) (hv : Vis X.env.scope x := by first | exact Or.inl rfl | exact Or.inr (Or.inl rfl) | exact Or.inr (Or.inr rfl)) (hd : (x == ("__debug__" : Str)) = false := by decide)
    (hcd : (x == ("__classdict__" : Str)) = false := by decide) : PE X (.Name x pos) (tFO X.K mg W (eVar i)) := by
  refine (pe_var hN hv hd hcd).imp fun σ H Q ⟨G, ρ, ⟨Hs, fp, ok⟩, po⟩ => ?_
  unfold eVar at po
  split at po
  · rename_i d hi
    obtain ⟨v, f1, f2, f3, h1, h2, h3, _⟩ := ok.env.at hi
    exact ⟨v, h1, po v H Hs fp ok h3.2⟩
  · rename_i t hi
    obtain ⟨v, f1, f2, f3, h1, h2, h3, _⟩ := ok.env.at hi
    exact ⟨v, h1, po v H Hs fp ok h1⟩
  · exact po.elim
theorem fo_c {e : Expr} {v : V} {d : D} (h : PE X e (tC v)) (hd : ∀ H, Den X.K H d v) : PE X e (tFO X.K mg W (eC d)) :=
  h.imp fun σ H Q ⟨G, ρ, ⟨Hs, fp, ok⟩, po⟩ => po v H Hs fp ok (hd Hs)
theorem fo_int {i j pos} : PE X (.Constant (.int i) j pos) (tFO X.K mg W (eC (.int i))) := fo_c pe_int fun _ => rfl
theorem fo_bl {b j pos} : PE X (.Constant (.bool b) j pos) (tFO X.K mg W (eC (.bl b))) := fo_c pe_bl fun _ => rfl
theorem fo_non {j pos} : PE X (.Constant .none j pos) (tFO X.K mg W (eC .non)) := fo_c pe_non fun _ => rfl
theorem fo_str {x j pos} (h : sOk x := by decide +kernel) : PE X (.Constant (.str x) j pos) (tFO X.K mg W (eC (.str x))) := fo_c pe_str fun _ => ⟨rfl, h⟩
/-- a constant of the module -/
theorem fo_glob {x : Str} {d : D} {v : V} {u : Value} {pos : Pos} (hg : Gl X x) (hm : X.mg x = some u) (r : RelV v u) (hd : ∀ H, Den X.K H d v) (hdb : (x == ("__debug__" : Str)) = false := by decide) : PE X (.Name x pos) (tFO X.K mg W (eC d)) :=
  fo_c (pe_glob hg hm r hdb) hd

/-! ### two-place operations -/
/-- an operation on data; its end is shared, new things may have been made -/
def OpD (X : Cx) (f : Value → Value → Sem Value) (g : D → D → Option D) : Prop :=
  OpR X f fun x y H Q => ∃ Hs d1 d2 d, Same Hs H ∧ Den1 X.K Hs H d1 x ∧ Den1 X.K Hs H d2 y ∧ g d1 d2 = some d ∧ ∀ v Hs' H', Ext Hs H Hs' H' → Den X.K Hs' d v → Q v H'
def eBin (g : D → D → Option D) (fa fb : Env' → Res (RV × Env')) : Env' → Res (RV × Env') := fun ρ =>
  (fa ρ).bind fun (r1, ρ1) => (fb ρ1).bind fun (r2, ρ2) => (Res.of (look ρ2 r1)).bind fun d1 => (Res.of (look ρ2 r2)).bind fun d2 => (Res.of (g d1 d2)).bind fun d => .ok (.leaf d, ρ2)
section
variable {a b c : Expr} {fa fb fc : Env' → Res (RV × Env')} {pos : Pos}
theorem bin_go {r : R2} {g : D → D → Option D} (hr : ∀ x y H Q, (∃ Hs d1 d2 d, Same Hs H ∧ Den1 X.K Hs H d1 x ∧ Den1 X.K Hs H d2 y ∧ g d1 d2 = some d ∧ ∀ v Hs' H', Ext Hs H Hs' H' → Den X.K Hs' d v → Q v H') → r x y H Q)
    {σ : L2.St} {H : Hp} {Q : VK} (h : tFO X.K mg W (eBin g fa fb) σ H Q) : tOp r (tFO X.K mg W fa) (tFO X.K mg W fb) σ H Q := by
  obtain ⟨G, ρ, ⟨Hs, fp, ok⟩, po⟩ := h
  refine goE ok po (fun _ _ h => h) id fun r1 ρ1 x H1 Hs1 fp1 ok1 dx po1 => ?_
  have ok1' := ok.back ok1
  refine goE ok1' po1 (fun _ _ h => h) id fun r2 ρ2 y H2 Hs2 fp2 ok2 dy po2 => hr x y H2 Q ?_
  have ok2' := ok1'.back ok2
  have dx' : RVd X.K Hs2 σ r1 x := dx.mono ok2.base
  cases e1 : look ρ2 r1 with
  | none => simp only [e1] at po2; exact po2.elim
  | some d1 =>
    cases e2 : look ρ2 r2 with
    | none => simp only [e1, e2] at po2; exact po2.elim
    | some d2 =>
      cases e3 : g d1 d2 with
      | none => simp only [e1, e2, e3, of_some, bind_ok] at po2; exact po2.elim
      | some d =>
        simp only [e1, e2, e3, of_some, bind_ok] at po2
        exact ⟨Hs2, d1, d2, d, ok2'.sh, look_den ok2' dx' e1, look_den ok2' dy e2, e3, fun v Hs' H' ex dv => po2 v H' Hs' fp2 (ok2'.ext ex) dv⟩
theorem fo_bin {op : Operator} {g : D → D → Option D} (ho : OpD X (binaryOp op) g) (ha : PE X a (tFO X.K mg W fa)) (hb : PE X b (tFO X.K mg W fb)) : PE X (.BinOp a op b pos) (tFO X.K mg W (eBin g fa fb)) :=
  (pe_op ho ha hb).imp fun _ _ _ h => bin_go (fun _ _ _ _ q => q) h
theorem fo_cmp {op : CmpOp} {g : D → D → Option D} (ho : OpD X (compareOp op) g) (ha : PE X a (tFO X.K mg W fa)) (hb : PE X b (tFO X.K mg W fb)) (hm : behindInMarks op b = false) : PE X (.Compare a [op] [b] pos) (tFO X.K mg W (eBin g fa fb)) :=
  (pe_cmpR ho ha hb hm).imp fun _ _ _ h => bin_go (fun _ _ _ _ q => q) h
end
end
end FL

namespace FL
open PySem PySem.Spec PyProof.Rows L2

/-! ### texts -/
theorem strOk_app {x y : Str} (hx : PyData.strOk x = true) (hy : PyData.strOk y = true) : PyData.strOk (x ++ y) = true := by
  unfold PyData.strOk at *
  show (x.cps ++ y.cps).all _ = true
  rw [Array.all_append, hx, hy]; rfl
theorem strOk_sub {x : Str} {l : List Nat} (hx : PyData.strOk x = true) (h : ∀ c ∈ l, c ∈ x.cps.toList) : PyData.strOk ⟨l.toArray⟩ = true := by
  unfold PyData.strOk at *
  simp only [Array.all_eq_true', decide_eq_true_eq] at *
  intro c hc
  exact hx c (by simpa using h c (by simpa using hc))
theorem len_app (x y : Str) : (x ++ y).length = x.length + y.length := by
  show (x.cps ++ y.cps).size = _
  rw [Array.size_append]; rfl
theorem sOk_app {x y : Str} (hx : sOk x) (hy : sOk y) (h : x.length + y.length ≤ sizeLine) : sOk (x ++ y) := ⟨by rw [len_app]; exact h, strOk_app hx.2 hy.2⟩
theorem sOk_sub {x : Str} {l : List Nat} (hx : sOk x) (h : ∀ c ∈ l, c ∈ x.cps.toList) (hl : l.length ≤ x.length) : sOk ⟨l.toArray⟩ := ⟨by show l.toArray.size ≤ _; rw [List.size_toArray]; exact Nat.le_trans hl hx.1, strOk_sub hx.2 h⟩
theorem sOk_sign {x : Str} {c : Nat} (hx : sOk x) (h : c ∈ x.cps.toList) : sOk ⟨#[c]⟩ := sOk_sub (l := [c]) hx (by simpa using h) (by
  have : 0 < x.cps.toList.length := List.length_pos_of_mem h
  simp only [List.length_cons, List.length_nil, Array.length_toList] at this ⊢; exact this)

/-! ### data for == -/
mutual
def D.py : D → PyData
  | .non => .none
  | .bl b => .bool b
  | .int i => .int i
  | .str x => .str x
  | .ty _ => .dict []
  | .tup ds => .tuple (D.pys ds)
  | .lst ds => .list (D.pys ds)
  | .fz ds => .list (D.pys ds)
  | .dic _ _ => .dict []
  | .dit _ _ => .dict []
def D.pys : List D → List PyData
  | [] => []
  | d :: ds => d.py :: D.pys ds
end
mutual
def D.data : D → Bool
  | .non => true
  | .bl _ => true
  | .int _ => true
  | .str _ => true
  | .tup ds => D.datas ds
  | .lst ds => D.datas ds
  | .fz ds => D.datas ds
  | _ => false
def D.datas : List D → Bool
  | [] => true
  | d :: ds => d.data && D.datas ds
end
mutual
def D.deep : D → Nat
  | .tup ds => D.deeps ds + 1
  | .lst ds => D.deeps ds + 1
  | .fz ds => D.deeps ds + 1
  | _ => 0
def D.deeps : List D → Nat
  | [] => 0
  | d :: ds => max d.deep (D.deeps ds)
end
theorem D.pys_map : ∀ ds : List D, D.pys ds = ds.map D.py
  | [] => rfl
  | d :: ds => by rw [D.pys, D.pys_map ds]; rfl
mutual
theorem D.deep_py : ∀ d : D, d.data = true → d.py.depth = d.deep
  | .non, _ | .bl _, _ | .int _, _ | .str _, _ => by simp [D.py, PyData.depth, D.deep]
  | .tup ds, h | .lst ds, h | .fz ds, h => by simp [D.py, PyData.depth, D.deep, D.deeps_py ds (by simpa [D.data] using h)]
  | .ty _, h | .dic _ _, h | .dit _ _, h => by simp [D.data] at h
theorem D.deeps_py : ∀ ds : List D, D.datas ds = true → PyData.depthAll (D.pys ds) = D.deeps ds
  | [], _ => by simp [D.pys, PyData.depthAll, D.deeps]
  | d :: ds, h => by
    simp only [D.datas, Bool.and_eq_true] at h
    simp [D.pys, PyData.depthAll, D.deeps, D.deep_py d h.1, D.deeps_py ds h.2]
end
mutual
theorem Den.dp {K H} : ∀ {d : D} {v : V}, Den K H d v → d.data = true → Dp K H v d.py ∧ d.py.canLay0 = true
  | .non, _, h, _ => by rw [h]; exact ⟨.non, by simp [D.py, PyData.canLay0]⟩
  | .bl _, _, h, _ => by rw [h]; exact ⟨.bl _, by simp [D.py, PyData.canLay0]⟩
  | .int _, _, h, _ => by rw [h]; exact ⟨.int _, by simp [D.py, PyData.canLay0]⟩
  | .str _, _, h, _ => by rw [h.1]; exact ⟨.str _, by simpa [D.py, PyData.canLay0] using h.2.2⟩
  | .tup ds, _, ⟨a, vs, e1, e2, e3⟩, q => by
    obtain ⟨h1, h2⟩ := DenL.dp e3 (by simpa [D.data] using q)
    rw [e1]
    exact ⟨.tup e2 h1, by simpa [D.py, PyData.canLay0] using h2⟩
  | .lst ds, _, ⟨a, vs, e1, e2, e3⟩, q => by
    obtain ⟨h1, h2⟩ := DenL.dp e3 (by simpa [D.data] using q)
    rw [e1]
    exact ⟨.lst (SqL.lst e2) h1, by simpa [D.py, PyData.canLay0] using h2⟩
  | .fz ds, _, ⟨a, vs, e1, e2, e3⟩, q => by
    obtain ⟨h1, h2⟩ := DenL.dp e3 (by simpa [D.data] using q)
    rw [e1]
    exact ⟨.lst e2 h1, by simpa [D.py, PyData.canLay0] using h2⟩
  | .ty _, _, _, h | .dic _ _, _, _, h | .dit _ _, _, _, h => by simp [D.data] at h
theorem DenL.dp {K H} : ∀ {ds : List D} {vs : List V}, DenL K H ds vs → D.datas ds = true → DpAll K H vs (D.pys ds) ∧ PyData.canLayAll0 (D.pys ds) = true
  | [], _, h, _ => by cases h; exact ⟨.nil, by simp [D.pys, PyData.canLayAll0]⟩
  | d :: ds, _, ⟨v, r, e1, e2, e3⟩, q => by
    simp only [D.datas, Bool.and_eq_true] at q
    obtain ⟨h1, h2⟩ := Den.dp e2 q.1
    obtain ⟨h3, h4⟩ := DenL.dp e3 q.2
    subst e1
    exact ⟨.cons h1 h3, by simp [D.pys, PyData.canLayAll0, h2, h4]⟩
end
theorem Den1.full {K Hs H} (e : Same Hs H) : ∀ {d v}, Den1 K Hs H d v → Den K H d v
  | .non, _, h | .bl _, _, h | .int _, _, h | .str _, _, h | .ty _, _, h => h
  | .tup _, _, h | .fz _, _, h => Den.mono e h
  | .lst _, _, ⟨a, vs, e1, e2, e3⟩ => ⟨a, vs, e1, e2, e3.mono e⟩
  | .dic _ _, _, ⟨a, vs, e1, e2, e3, e4⟩ => ⟨a, vs, e1, e2, e3, e4.mono e⟩
  | .dit _ _, _, ⟨a, vs, e1, e2, e3, e4⟩ => ⟨a, vs, e1, e2, e3, e4.mono e⟩
def D.cmpOk (d : D) : Bool := d.data && decide (d.deep ≤ 60)
theorem D.shaped {K H d v} (h : Den K H d v) (q : D.cmpOk d = true) : Dp K H v d.py ∧ SeqAt.shaped d.py = true := by
  simp only [D.cmpOk, Bool.and_eq_true, decide_eq_true_eq] at q
  obtain ⟨h1, h2⟩ := h.dp q.1
  refine ⟨h1, ?_⟩
  unfold SeqAt.shaped
  rw [h2, D.deep_py d q.1]
  simp only [Bool.true_and, decide_eq_true_eq]
  omega
/-- == -/
def D.eqb (d e : D) : Bool := PyData.eqv d.py e.py
def D.eq (d e : D) : Option D := if D.cmpOk d = true ∧ D.cmpOk e = true then some (.bl (D.eqb d e)) else none
def D.ne (d e : D) : Option D := if D.cmpOk d = true ∧ D.cmpOk e = true then some (.bl (!D.eqb d e)) else none
def D.items : D → Option (List D)
  | .lst ds => some ds
  | .tup ds => some ds
  | .fz ds => some ds
  | _ => none
def sIn (x z : Str) : Bool := match x.cps.toList with
  | [c] => decide (c ∈ z.cps.toList)
  | _ => !(Builtin.Str.occurrences z x 0 z.length 1).isEmpty
/-- flat -/
def D.flat : D → Bool
  | .non => true
  | .bl _ => true
  | .int _ => true
  | .str _ => true
  | _ => false
def D.isin (d e : D) : Option D := match e with
  | .str z => match d with
    | .str x => some (.bl (sIn x z))
    | _ => none
  | .lst ds => if D.cmpOk d = true ∧ D.cmpOk (.lst ds) = true then some (.bl (ds.any fun z => D.eqb z d)) else none
  | .fz ds => if D.cmpOk d = true ∧ D.cmpOk (.lst ds) = true then some (.bl (ds.any fun z => D.eqb z d)) else none
  | .tup ds => if d.flat = true ∧ ds.all D.flat = true then some (.bl (ds.any fun z => D.eqb z d)) else none
  | _ => none
def D.notin (d e : D) : Option D := match D.isin d e with
  | some (.bl b) => some (.bl (!b))
  | _ => none
section
variable {X : Cx}
theorem od_eq (hu : X.A.units + 64 < cLine) : OpD X (compareOp .Eq) D.eq := by
  rintro pins s σ H x y v u Q I rx ry ⟨Hs, d1, d2, d, e, h1, h2, g, q⟩
  unfold D.eq at g
  split at g
  · rename_i c
    cases g
    obtain ⟨p1, q1⟩ := D.shaped (h1.full e) c.1
    obtain ⟨p2, q2⟩ := D.shaped (h2.full e) c.2
    exact op_eqD hu pins s σ H x y v u Q I rx ry ⟨_, _, p1, p2, q1, q2, q _ _ _ (.refl e) rfl⟩
  · cases g
theorem od_ne (hu : X.A.units + 64 < cLine) : OpD X (compareOp .NotEq) D.ne := by
  rintro pins s σ H x y v u Q I rx ry ⟨Hs, d1, d2, d, e, h1, h2, g, q⟩
  unfold D.ne at g
  split at g
  · rename_i c
    cases g
    obtain ⟨p1, q1⟩ := D.shaped (h1.full e) c.1
    obtain ⟨p2, q2⟩ := D.shaped (h2.full e) c.2
    exact op_neD hu pins s σ H x y v u Q I rx ry ⟨_, _, p1, p2, q1, q2, q _ _ _ (.refl e) rfl⟩
  · cases g
theorem any_py (d : D) : ∀ ds : List D, (D.pys ds).any (fun z => PyData.eqv z d.py) = ds.any fun z => D.eqb z d
  | [] => rfl
  | e :: ds => by simp [D.pys, any_py d ds, D.eqb]
theorem flat_den {K H} {d : D} {v : V} (h : Den K H d v) (q : d.flat = true) : flatV v = true := by
  cases d with
  | non => rw [show v = _ from h]; rfl
  | bl b => rw [show v = _ from h]; rfl
  | int i => rw [show v = _ from h]; rfl
  | str x => rw [h.1]; rfl
  | _ => cases q
theorem flats_den {K H} : ∀ {ds : List D} {vs : List V}, DenL K H ds vs → ds.all D.flat = true → vs.all flatV = true
  | [], _, h, _ => by rw [h]; rfl
  | d :: ds, _, ⟨v, r, e1, e2, e3⟩, q => by
    rw [List.all_cons, Bool.and_eq_true] at q
    rw [e1, List.all_cons, flat_den e2 q.1, flats_den e3 q.2]; rfl
theorem eqV_den {K H} {d e : D} {v w : V} (h1 : Den K H d v) (h2 : Den K H e w) (f1 : d.flat = true) (f2 : e.flat = true) : eqV v w = D.eqb d e := by
  have z : ∀ {d : D} {v : V}, Den K H d v → d.flat = true → (d = .non ∧ v = .non) ∨ (∃ b, d = .bl b ∧ v = .bl b) ∨ (∃ i, d = .int i ∧ v = .int i) ∨ ∃ x, d = .str x ∧ v = .str x := by
    intro d v h q
    cases d with
    | non => exact .inl ⟨rfl, h⟩
    | bl b => exact .inr (.inl ⟨_, rfl, h⟩)
    | int i => exact .inr (.inr (.inl ⟨_, rfl, h⟩))
    | str x => exact .inr (.inr (.inr ⟨_, rfl, h.1⟩))
    | _ => cases q
  rcases z h1 f1 with ⟨rfl, rfl⟩ | ⟨b, rfl, rfl⟩ | ⟨i, rfl, rfl⟩ | ⟨x, rfl, rfl⟩ <;> rcases z h2 f2 with ⟨rfl, rfl⟩ | ⟨b', rfl, rfl⟩ | ⟨i', rfl, rfl⟩ | ⟨x', rfl, rfl⟩ <;> simp [eqV, D.eqb, D.py, PyData.eqv]
theorem inV_den {K H} {d : D} {v : V} (h1 : Den K H d v) (f1 : d.flat = true) : ∀ {ds : List D} {vs : List V}, DenL K H ds vs → ds.all D.flat = true → inV v vs = ds.any fun z => D.eqb z d
  | [], _, h, _ => by rw [h]; rfl
  | e :: ds, _, ⟨w, r, e1, e2, e3⟩, q => by
    rw [List.all_cons, Bool.and_eq_true] at q
    have := inV_den h1 f1 e3 q.2
    unfold inV at *
    rw [e1, List.any_cons, List.any_cons, this, eqV_den e2 h1 q.1 f1]
theorem sIn_str (x z : Str) (P : Bool → Prop) : P (sIn x z) → (∃ c, x = ⟨#[c]⟩ ∧ P (decide (c ∈ z.cps.toList))) ∨ P (!(Builtin.Str.occurrences z x 0 z.length 1).isEmpty) := by
  intro h
  unfold sIn at h
  split at h
  · rename_i c hc
    refine .inl ⟨c, ?_, h⟩
    cases x with
    | mk a =>
      have : a = #[c] := by
        apply Array.toList_inj.mp
        simpa using hc
      rw [this]
  · exact .inr h
theorem od_in (hu : X.A.units + 65 < cLine) : OpD X (compareOp .In) D.isin := by
  rintro pins s σ H x y v u Q I rx ry ⟨Hs, d1, d2, d, e, h1, h2, g, q⟩
  unfold D.isin at g
  split at g
  · split at g
    · cases g
      obtain ⟨rfl, _⟩ := h1
      obtain ⟨rfl, _⟩ := h2
      have := q _ _ _ (.refl e) rfl
      rcases sIn_str _ _ (fun b => Q (.bl b) H) this with ⟨c, hc, z⟩ | z
      · exact op_in_sign pins s σ H _ _ v u Q I rx ry ⟨c, _, by rw [hc], rfl, z⟩
      · exact op_in_str pins s σ H _ _ v u Q I rx ry ⟨_, _, rfl, rfl, z⟩
    · cases g
  · split at g
    · rename_i ds c
      cases g
      obtain ⟨p1, q1⟩ := D.shaped (h1.full e) c.1
      obtain ⟨p2, q2⟩ := D.shaped (Den1.full (d := .lst ds) e h2) c.2
      exact op_inD hu pins s σ H x y v u Q I rx ry ⟨_, _, p1, p2, q1, q2, by rw [any_py]; exact q _ _ _ (.refl e) rfl⟩
    · cases g
  · split at g
    · rename_i ds c
      cases g
      obtain ⟨p1, q1⟩ := D.shaped (h1.full e) c.1
      have c2 : D.cmpOk (.fz ds) = true := c.2
      obtain ⟨p2, q2⟩ := D.shaped (Den1.full (d := .fz ds) e h2) c2
      exact op_inD hu pins s σ H x y v u Q I rx ry ⟨_, _, p1, p2, q1, q2, by rw [any_py]; exact q _ _ _ (.refl e) rfl⟩
    · cases g
  · split at g
    · rename_i ds c
      cases g
      obtain ⟨a, vs, e1, e2, e3⟩ := (Den1.full (d := .tup ds) e h2)
      have f1 := h1.full e
      refine op_in_seq pins s σ H x y v u Q I rx ry ⟨a, vs, e1, .inr e2, flat_den f1 c.1, flats_den e3 c.2, ?_⟩
      rw [if_neg (by simp), inV_den f1 c.1 e3 c.2]
      exact q _ _ _ (.refl e) rfl
    · cases g
  · cases g
theorem od_notin (hu : X.A.units + 65 < cLine) : OpD X (compareOp .NotIn) D.notin := by
  rintro pins s σ H x y v u Q I rx ry ⟨Hs, d1, d2, d, e, h1, h2, g, q⟩
  unfold D.notin D.isin at g
  split at g
  · rename_i b g2
    cases g
    split at g2
    · split at g2
      · cases g2
        obtain ⟨rfl, _⟩ := h1
        obtain ⟨rfl, _⟩ := h2
        have := q _ _ _ (.refl e) rfl
        rcases sIn_str _ _ (fun b => Q (.bl (!b)) H) this with ⟨c, hc, z⟩ | z
        · exact op_notIn_sign pins s σ H _ _ v u Q I rx ry ⟨c, _, by rw [hc], rfl, z⟩
        · exact op_notIn_str pins s σ H _ _ v u Q I rx ry ⟨_, _, rfl, rfl, z⟩
      · cases g2
    · split at g2
      · rename_i ds c
        cases g2
        obtain ⟨p1, q1⟩ := D.shaped (h1.full e) c.1
        obtain ⟨p2, q2⟩ := D.shaped (Den1.full (d := .lst ds) e h2) c.2
        exact op_notInD hu pins s σ H x y v u Q I rx ry ⟨_, _, p1, p2, q1, q2, by rw [any_py]; exact q _ _ _ (.refl e) rfl⟩
      · cases g2
    · split at g2
      · rename_i ds c
        cases g2
        obtain ⟨p1, q1⟩ := D.shaped (h1.full e) c.1
        have c2 : D.cmpOk (.fz ds) = true := c.2
        obtain ⟨p2, q2⟩ := D.shaped (Den1.full (d := .fz ds) e h2) c2
        exact op_notInD hu pins s σ H x y v u Q I rx ry ⟨_, _, p1, p2, q1, q2, by rw [any_py]; exact q _ _ _ (.refl e) rfl⟩
      · cases g2
    · split at g2
      · rename_i ds c
        cases g2
        obtain ⟨a, vs, e1, e2, e3⟩ := (Den1.full (d := .tup ds) e h2)
        have f1 := h1.full e
        refine op_notIn_seq pins s σ H x y v u Q I rx ry ⟨a, vs, e1, .inr e2, flat_den f1 c.1, flats_den e3 c.2, ?_⟩
        rw [if_pos rfl, inV_den f1 c.1 e3 c.2]
        exact q _ _ _ (.refl e) rfl
      · cases g2
    · cases g2
  · cases g
end
end FL

namespace FL
open PySem PySem.Spec PyProof.Rows L2

/-! ### one-place operations, calls of built-ins, by data -/
noncomputable def UnD (X : Cx) (f : Value → Sem Value) (g : D → Option D) : Prop :=
  UnR X f fun x H Q => ∃ Hs d1 d, Same Hs H ∧ Den1 X.K Hs H d1 x ∧ g d1 = some d ∧ ∀ v Hs' H', Ext Hs H Hs' H' → Den X.K Hs' d v → Q v H'
noncomputable def Den1L (K : PySem.W.Frag) (Hs H : Hp) : List D → List V → Prop
  | [], vs => vs = []
  | d :: ds, vs => ∃ v r, vs = v :: r ∧ Den1 K Hs H d v ∧ Den1L K Hs H ds r
noncomputable def CallD (X : Cx) (f : Value) (g : List D → Option D) : Prop :=
  CallR X f fun xs H Q => ∃ Hs ds d, Same Hs H ∧ Den1L X.K Hs H ds xs ∧ g ds = some d ∧ ∀ v Hs' H', Ext Hs H Hs' H' → Den X.K Hs' d v → Q v H'
/-- a call that makes a list of one's own -/
noncomputable def CallN (X : Cx) (f : Value) (g : List D → Option (List D)) : Prop :=
  CallR X f fun xs H Q => ∃ Hs ds es, Same Hs H ∧ Den1L X.K Hs H ds xs ∧ g ds = some es ∧ ∀ p H' vs, H p = none → H' p = some (.lst vs) → (∀ b o, H b = some o → H' b = some o) → DenL X.K Hs es vs → Q (.ref p) H'
noncomputable def CallD.or {X f g g'} (h : CallD X f g) (h' : CallD X f g') : CallD X f fun ds => (g ds).or (g' ds) := by
  rintro pins s σ H xs us Q I r ⟨Hs, ds, d, e, h1, h2, q⟩
  cases z : g ds with
  | some d' =>
    simp only [z, Option.some_or] at h2
    cases h2
    exact h pins s σ H xs us Q I r ⟨Hs, ds, _, e, h1, z, q⟩
  | none =>
    simp only [z, Option.none_or] at h2
    exact h' pins s σ H xs us Q I r ⟨Hs, ds, _, e, h1, h2, q⟩
theorem Den1L.d1 {K Hs H d xs} (h : Den1L K Hs H [d] xs) : ∃ v, xs = [v] ∧ Den1 K Hs H d v := by
  obtain ⟨v, r, e, h1, h2⟩ := h
  cases h2
  exact ⟨v, e, h1⟩
theorem Den1L.d2 {K Hs H d e xs} (h : Den1L K Hs H [d, e] xs) : ∃ v w, xs = [v, w] ∧ Den1 K Hs H d v ∧ Den1 K Hs H e w := by
  obtain ⟨v, r, e1, h1, h2⟩ := h
  obtain ⟨w, rfl, h3⟩ := Den1L.d1 h2
  exact ⟨v, w, e1, h1, h3⟩
/-- what a list's or tuple's object holds -/
theorem seq_den {K Hs H d v ds} (e : Same Hs H) (h : Den1 K Hs H d v) (q : D.items d = some ds) : ∃ a vs, v = .ref a ∧ (SqL K H a vs ∨ SqT K H a vs) ∧ DenL K Hs ds vs := by
  cases d with
  | lst xs => cases q; obtain ⟨a, vs, e1, e2, e3⟩ := h; exact ⟨a, vs, e1, .inl (SqL.lst e2), e3⟩
  | fz xs => cases q; obtain ⟨a, vs, e1, e2, e3⟩ := h; exact ⟨a, vs, e1, .inl (e.seq e2), e3⟩
  | tup xs => cases q; obtain ⟨a, vs, e1, e2, e3⟩ := h; exact ⟨a, vs, e1, .inr (e.seqT e2), e3⟩
  | _ => cases q
theorem lst_den {K Hs H d v ds} (e : Same Hs H) (h : Den1 K Hs H d v) (q : d = .lst ds ∨ d = .fz ds) : ∃ a vs, v = .ref a ∧ SqL K H a vs ∧ DenL K Hs ds vs := by
  rcases q with rfl | rfl
  · obtain ⟨a, vs, e1, e2, e3⟩ := h; exact ⟨a, vs, e1, SqL.lst e2, e3⟩
  · obtain ⟨a, vs, e1, e2, e3⟩ := h; exact ⟨a, vs, e1, e.seq e2, e3⟩
theorem DenL.ints {K H} : ∀ {ns : List Int} {vs : List V}, DenL K H (ns.map D.int) vs → vs = ns.map V.int
  | [], _, h => h
  | n :: ns, _, ⟨v, r, e1, e2, e3⟩ => by rw [e1, show v = _ from e2, DenL.ints e3]; rfl
theorem DenL.bls {K H} : ∀ {ns : List Bool} {vs : List V}, DenL K H (ns.map D.bl) vs → vs = ns.map V.bl
  | [], _, h => h
  | n :: ns, _, ⟨v, r, e1, e2, e3⟩ => by rw [e1, show v = _ from e2, DenL.bls e3]; rfl
theorem DenL.strs {K H} : ∀ {ns : List Str} {vs : List V}, DenL K H (ns.map D.str) vs → vs = ns.map V.str ∧ ∀ x ∈ ns, sOk x
  | [], _, h => ⟨h, fun _ h => by cases h⟩
  | n :: ns, _, ⟨v, r, e1, e2, e3⟩ => by
    obtain ⟨h1, h2⟩ := DenL.strs e3
    refine ⟨by rw [e1, show v = _ from e2.1, h1]; rfl, fun x hx => ?_⟩
    rcases List.mem_cons.mp hx with rfl | hx
    · exact e2.2
    · exact h2 x hx
theorem DenL.of_ints {K H} (ns : List Int) : DenL K H (ns.map D.int) (ns.map V.int) := DenL.map (f := D.int) (g := V.int) (fun _ => rfl) ns
theorem DenL.of_strs {K H} : ∀ (ns : List Str), (∀ x ∈ ns, sOk x) → DenL K H (ns.map D.str) (ns.map V.str)
  | [], _ => rfl
  | n :: ns, h => ⟨_, _, rfl, ⟨rfl, h n (by simp)⟩, DenL.of_strs ns fun x hx => h x (by simp [hx])⟩
/-- ints of a list of data -/
noncomputable def D.ints : List D → Option (List Int)
  | [] => some []
  | .int i :: r => (D.ints r).map (i :: ·)
  | _ :: _ => none
noncomputable def D.bls : List D → Option (List Bool)
  | [] => some []
  | .bl i :: r => (D.bls r).map (i :: ·)
  | _ :: _ => none
noncomputable def D.strs : List D → Option (List Str)
  | [] => some []
  | .str i :: r => (D.strs r).map (i :: ·)
  | _ :: _ => none
theorem D.ints_eq : ∀ {ds : List D} {ns : List Int}, D.ints ds = some ns → ds = ns.map D.int
  | [], _, h => by cases h; rfl
  | .int i :: r, _, h => by
    simp only [D.ints, Option.map_eq_some_iff] at h
    obtain ⟨es, h1, h2⟩ := h
    subst h2
    simp [D.ints_eq h1]
theorem D.bls_eq : ∀ {ds : List D} {ns : List Bool}, D.bls ds = some ns → ds = ns.map D.bl
  | [], _, h => by cases h; rfl
  | .bl i :: r, _, h => by
    simp only [D.bls, Option.map_eq_some_iff] at h
    obtain ⟨es, h1, h2⟩ := h
    subst h2
    simp [D.bls_eq h1]
theorem D.strs_eq : ∀ {ds : List D} {ns : List Str}, D.strs ds = some ns → ds = ns.map D.str
  | [], _, h => by cases h; rfl
  | .str i :: r, _, h => by
    simp only [D.strs, Option.map_eq_some_iff] at h
    obtain ⟨es, h1, h2⟩ := h
    subst h2
    simp [D.strs_eq h1]
@[simp] theorem D.ints_map (ns : List Int) : D.ints (ns.map D.int) = some ns := by
  induction ns with
  | nil => rfl
  | cons n ns ih => simp [D.ints, ih]
@[simp] theorem D.bls_map (ns : List Bool) : D.bls (ns.map D.bl) = some ns := by
  induction ns with
  | nil => rfl
  | cons n ns ih => simp [D.bls, ih]
@[simp] theorem D.strs_map (ns : List Str) : D.strs (ns.map D.str) = some ns := by
  induction ns with
  | nil => rfl
  | cons n ns ih => simp [D.strs, ih]

/-! ### arithmetic -/
noncomputable def D.add : D → D → Option D
  | .int i, .int j => some (.int (i + j))
  | .int i, .bl k => some (.int (i + b2i k))
  | .str x, .str y => if x.length + y.length ≤ sizeLine then some (.str (x ++ y)) else none
  | .tup xs, .tup ys => if xs.length + ys.length ≤ sizeLine then some (.tup (xs ++ ys)) else none
  | .lst xs, .lst ys => if xs.length + ys.length ≤ sizeLine then some (.lst (xs ++ ys)) else none
  | _, _ => none
noncomputable def D.sub : D → D → Option D
  | .int i, .int j => some (.int (i - j))
  | _, _ => none
noncomputable def mulOk (i j : Int) : Prop := ((-(2 ^ 64) < i ∧ i < 2 ^ 64) ∨ (-(2 ^ 64) < j ∧ j < 2 ^ 64)) ∨ i.natAbs.log2 + j.natAbs.log2 < 1000000
noncomputable instance (i j : Int) : Decidable (mulOk i j) := Classical.propDecidable _
noncomputable def D.mul : D → D → Option D
  | .int i, .int j => if mulOk i j then some (.int (i * j)) else none
  | .lst xs, .int k => if -(2 ^ 63) ≤ k ∧ k < 2 ^ 63 ∧ xs.length * k.toNat ≤ sizeLine then some (.lst (List.replicate k.toNat xs).flatten) else none
  | _, _ => none
noncomputable def D.fdiv : D → D → Option D
  | .int i, .int j => if 0 < j ∧ j.natAbs.log2 < 9000 then some (.int (i / j)) else none
  | _, _ => none
noncomputable def D.mod : D → D → Option D
  | .int i, .int j => if 0 < j then some (.int (i % j)) else none
  | _, _ => none
noncomputable def D.pow : D → D → Option D
  | .int i, .int j => if 0 ≤ j ∧ j ≤ 1000000 ∧ i.natAbs < 2 ^ 64 then some (.int (i ^ j.toNat)) else none
  | _, _ => none
noncomputable def D.lt : D → D → Option D
  | .int i, .int j => some (.bl (decide (i < j)))
  | .str x, .str y => some (.bl (decide (x.cps.toList < y.cps.toList)))
  | _, _ => none
noncomputable def D.le : D → D → Option D
  | .int i, .int j => some (.bl (decide (i ≤ j)))
  | _, _ => none
noncomputable def D.gt : D → D → Option D
  | .int i, .int j => some (.bl (decide (j < i)))
  | _, _ => none
noncomputable def D.ge : D → D → Option D
  | .int i, .int j => some (.bl (decide (j ≤ i)))
  | _, _ => none
noncomputable def D.isNon : D → Bool
  | .non => true
  | _ => false
noncomputable def D.is : D → D → Option D
  | .bl a, .bl b => some (.bl (decide (a = b)))
  | d, .non => some (.bl d.isNon)
  | _, _ => none
noncomputable def D.isnt : D → D → Option D
  | .bl a, .bl b => some (.bl (!decide (a = b)))
  | d, .non => some (.bl (!d.isNon))
  | _, _ => none
noncomputable def D.neg : D → Option D
  | .int i => some (.int (-i))
  | _ => none
section
variable {X : Cx}
theorem DenL.rep {K H} {ds : List D} {vs : List V} (h : DenL K H ds vs) : ∀ n, DenL K H (List.replicate n ds).flatten (List.replicate n vs).flatten
  | 0 => rfl
  | n + 1 => by
    rw [List.replicate_succ, List.replicate_succ, List.flatten_cons, List.flatten_cons]
    exact h.append (DenL.rep h n)
theorem od_add : OpD X (binaryOp .Add) D.add := by
  rintro pins s σ H x y v u Q I rx ry ⟨Hs, d1, d2, d, e, h1, h2, g, q⟩
  unfold D.add at g
  split at g
  · cases g
    cases h1; cases h2
    exact op_add pins s σ H _ _ v u Q I rx ry ⟨_, _, rfl, rfl, q _ _ _ (.refl e) rfl⟩
  · cases g
    cases h1; cases h2
    exact op_add_ib pins s σ H _ _ v u Q I rx ry ⟨_, _, rfl, rfl, q _ _ _ (.refl e) rfl⟩
  · split at g
    · rename_i c
      cases g
      obtain ⟨rfl, k1⟩ := h1
      obtain ⟨rfl, k2⟩ := h2
      exact op_add_str pins s σ H _ _ v u Q I rx ry ⟨_, _, rfl, rfl, c, q _ _ _ (.refl e) ⟨rfl, sOk_app k1 k2 c⟩⟩
    · cases g
  · rename_i xs ys
    split at g
    · rename_i c
      cases g
      obtain ⟨a, vs, e1, e2, e3⟩ := h1
      obtain ⟨b, ws, e4, e5, e6⟩ := h2
      have l1 := e3.length
      have l2 := e6.length
      refine op_catA pins s σ H _ _ v u Q I rx ry ⟨a, b, vs, ws, e1, e4, e.seqT e2, e.seqT e5, by omega, fun z => q _ _ _ (.refl e) ⟨b, ws, rfl, e5, ?_⟩, fun _ z => q _ _ _ (.refl e) ⟨a, vs, rfl, e2, ?_⟩, fun _ _ p hp => q _ _ _ (.new e hp) ⟨p, vs ++ ws, rfl, .inl (.inl upd_same), ?_⟩⟩
      · subst z
        have z1 : xs = [] := List.eq_nil_of_length_eq_zero (by simpa using l1.symm)
        rw [z1, List.nil_append]
        exact e6
      · subst z
        have z1 : ys = [] := List.eq_nil_of_length_eq_zero (by simpa using l2.symm)
        rw [z1, List.append_nil]
        exact e3
      · exact (e3.append e6).mono (Ext.new e hp).s
    · cases g
  · split at g
    · rename_i c
      cases g
      obtain ⟨a, vs, e1, e2, e3⟩ := h1
      obtain ⟨b, ws, e4, e5, e6⟩ := h2
      have l1 := e3.length
      have l2 := e6.length
      exact op_cat pins s σ H _ _ v u Q I rx ry ⟨a, b, vs, ws, e1, e4, e2, e5, by omega, fun p hp => q _ _ _ (.new e hp) ⟨p, vs ++ ws, rfl, upd_same, (e3.append e6).mono (Ext.new e hp).s⟩⟩
    · cases g
  · cases g
theorem od_sub : OpD X (binaryOp .Sub) D.sub := by
  rintro pins s σ H x y v u Q I rx ry ⟨Hs, d1, d2, d, e, h1, h2, g, q⟩
  unfold D.sub at g
  split at g
  · cases g
    cases h1; cases h2
    exact op_sub pins s σ H _ _ v u Q I rx ry ⟨_, _, rfl, rfl, q _ _ _ (.refl e) rfl⟩
  · cases g
theorem od_mul : OpD X (binaryOp .Mult) D.mul := by
  rintro pins s σ H x y v u Q I rx ry ⟨Hs, d1, d2, d, e, h1, h2, g, q⟩
  unfold D.mul at g
  split at g
  · split at g
    · rename_i c
      cases g
      cases h1; cases h2
      rcases c with c | c
      · exact op_mul pins s σ H _ _ v u Q I rx ry ⟨_, _, rfl, rfl, c, q _ _ _ (.refl e) rfl⟩
      · exact op_mulW pins s σ H _ _ v u Q I rx ry ⟨_, _, rfl, rfl, c, q _ _ _ (.refl e) rfl⟩
    · cases g
  · split at g
    · rename_i c
      cases g
      obtain ⟨a, vs, e1, e2, e3⟩ := h1
      cases h2
      have l1 := e3.length
      exact op_rep pins s σ H _ _ v u Q I rx ry ⟨a, _, vs, e1, rfl, e2, c.1, c.2.1, by rw [l1]; exact c.2.2, fun p hp => q _ _ _ (.new e hp) ⟨p, _, rfl, upd_same, (e3.rep _).mono (Ext.new e hp).s⟩⟩
    · cases g
  · cases g
theorem od_fdiv : OpD X (binaryOp .FloorDiv) D.fdiv := by
  rintro pins s σ H x y v u Q I rx ry ⟨Hs, d1, d2, d, e, h1, h2, g, q⟩
  unfold D.fdiv at g
  split at g
  · split at g
    · rename_i c
      cases g
      cases h1; cases h2
      exact op_fdivW pins s σ H _ _ v u Q I rx ry ⟨_, _, rfl, rfl, c, q _ _ _ (.refl e) rfl⟩
    · cases g
  · cases g
theorem od_mod : OpD X (binaryOp .Mod) D.mod := by
  rintro pins s σ H x y v u Q I rx ry ⟨Hs, d1, d2, d, e, h1, h2, g, q⟩
  unfold D.mod at g
  split at g
  · split at g
    · rename_i c
      cases g
      cases h1; cases h2
      exact op_mod pins s σ H _ _ v u Q I rx ry ⟨_, _, rfl, rfl, c, q _ _ _ (.refl e) rfl⟩
    · cases g
  · cases g
theorem od_pow : OpD X (binaryOp .Pow) D.pow := by
  rintro pins s σ H x y v u Q I rx ry ⟨Hs, d1, d2, d, e, h1, h2, g, q⟩
  unfold D.pow at g
  split at g
  · split at g
    · rename_i c
      cases g
      cases h1; cases h2
      exact op_pow pins s σ H _ _ v u Q I rx ry ⟨_, _, rfl, rfl, c, q _ _ _ (.refl e) rfl⟩
    · cases g
  · cases g
theorem od_lt : OpD X (compareOp .Lt) D.lt := by
  rintro pins s σ H x y v u Q I rx ry ⟨Hs, d1, d2, d, e, h1, h2, g, q⟩
  unfold D.lt at g
  split at g
  · cases g
    cases h1; cases h2
    exact op_lt pins s σ H _ _ v u Q I rx ry ⟨_, _, rfl, rfl, q _ _ _ (.refl e) rfl⟩
  · cases g
    obtain ⟨rfl, k1⟩ := h1
    obtain ⟨rfl, k2⟩ := h2
    exact op_lt_str pins s σ H _ _ v u Q I rx ry ⟨_, _, rfl, rfl, q _ _ _ (.refl e) rfl⟩
  · cases g
theorem od_le : OpD X (compareOp .LtE) D.le := by
  rintro pins s σ H x y v u Q I rx ry ⟨Hs, d1, d2, d, e, h1, h2, g, q⟩
  unfold D.le at g
  split at g
  · cases g
    cases h1; cases h2
    exact op_le pins s σ H _ _ v u Q I rx ry ⟨_, _, rfl, rfl, q _ _ _ (.refl e) rfl⟩
  · cases g
theorem od_gt : OpD X (compareOp .Gt) D.gt := by
  rintro pins s σ H x y v u Q I rx ry ⟨Hs, d1, d2, d, e, h1, h2, g, q⟩
  unfold D.gt at g
  split at g
  · cases g
    cases h1; cases h2
    exact op_gt pins s σ H _ _ v u Q I rx ry ⟨_, _, rfl, rfl, q _ _ _ (.refl e) rfl⟩
  · cases g
theorem od_ge : OpD X (compareOp .GtE) D.ge := by
  rintro pins s σ H x y v u Q I rx ry ⟨Hs, d1, d2, d, e, h1, h2, g, q⟩
  unfold D.ge at g
  split at g
  · cases g
    cases h1; cases h2
    exact op_ge pins s σ H _ _ v u Q I rx ry ⟨_, _, rfl, rfl, q _ _ _ (.refl e) rfl⟩
  · cases g
theorem isNon_den {K Hs H d v} (h : Den1 K Hs H d v) : decide (v = .non) = d.isNon := by
  cases d with
  | non => cases h; rfl
  | bl b => cases h; rfl
  | int b => cases h; rfl
  | ty b => cases h; rfl
  | str b => obtain ⟨rfl, _⟩ := h; rfl
  | tup b => obtain ⟨a, vs, rfl, _⟩ := h; rfl
  | lst b => obtain ⟨a, vs, rfl, _⟩ := h; rfl
  | fz b => obtain ⟨a, vs, rfl, _⟩ := h; rfl
  | dic k b => obtain ⟨a, vs, rfl, _⟩ := h; rfl
  | dit k b => obtain ⟨a, vs, rfl, _⟩ := h; rfl
theorem od_is : OpD X (compareOp .Is) D.is := by
  rintro pins s σ H x y v u Q I rx ry ⟨Hs, d1, d2, d, e, h1, h2, g, q⟩
  unfold D.is at g
  split at g
  · cases g
    cases h1; cases h2
    exact op_is_bl pins s σ H _ _ v u Q I rx ry ⟨_, _, rfl, rfl, q _ _ _ (.refl e) rfl⟩
  · cases g
    cases h2
    exact op_isN pins s σ H _ _ v u Q I rx ry ⟨rfl, q _ _ _ (.refl e) (by rw [isNon_den h1]; rfl)⟩
  · cases g
theorem od_isnt : OpD X (compareOp .IsNot) D.isnt := by
  rintro pins s σ H x y v u Q I rx ry ⟨Hs, d1, d2, d, e, h1, h2, g, q⟩
  unfold D.isnt at g
  split at g
  · cases g
    cases h1; cases h2
    exact op_isnot_bl pins s σ H _ _ v u Q I rx ry ⟨_, _, rfl, rfl, q _ _ _ (.refl e) rfl⟩
  · cases g
    cases h2
    exact op_notN pins s σ H _ _ v u Q I rx ry ⟨rfl, q _ _ _ (.refl e) (by rw [isNon_den h1]; rfl)⟩
  · cases g
theorem ud_neg : UnD X (unaryOp .USub) D.neg := by
  rintro pins s σ H x v Q I rx ⟨Hs, d1, d, e, h1, g, q⟩
  unfold D.neg at g
  split at g
  · cases g
    cases h1
    exact un_neg pins s σ H _ v Q I rx ⟨_, rfl, q _ _ _ (.refl e) rfl⟩
  · cases g

/-! ### calls of built-ins -/
noncomputable def D.len : List D → Option D
  | [.str x] => some (.int x.length)
  | [.lst xs] => some (.int xs.length)
  | [.fz xs] => some (.int xs.length)
  | [.tup xs] => some (.int xs.length)
  | _ => none
theorem cd_len : CallD X (.builtin "len") D.len := by
  rintro pins s σ H xs us Q I r ⟨Hs, ds, d, e, h1, h2, q⟩
  unfold D.len at h2
  split at h2
  · cases h2
    obtain ⟨v, rfl, k1, k2⟩ := h1.d1
    subst k1
    exact call_len pins s σ H _ us Q I r ⟨_, _, rfl, ⟨k2.1, rfl⟩, q _ _ _ (.refl e) rfl⟩
  · cases h2
    obtain ⟨v, rfl, a, vs, rfl, k1, k2⟩ := h1.d1
    exact call_len pins s σ H _ us Q I r ⟨_, _, rfl, .inl ⟨vs, SqL.lst k1, rfl⟩, q _ _ _ (.refl e) (by rw [k2.length]; rfl)⟩
  · cases h2
    obtain ⟨v, rfl, a, vs, rfl, k1, k2⟩ := h1.d1
    exact call_len pins s σ H _ us Q I r ⟨_, _, rfl, .inl ⟨vs, e.seq k1, rfl⟩, q _ _ _ (.refl e) (by rw [k2.length]; rfl)⟩
  · cases h2
    obtain ⟨v, rfl, a, vs, rfl, k1, k2⟩ := h1.d1
    exact call_len pins s σ H _ us Q I r ⟨_, _, rfl, .inr ⟨vs, e.seqT k1, rfl⟩, q _ _ _ (.refl e) (by rw [k2.length]; rfl)⟩
  · cases h2
noncomputable def D.toInt : List D → Option D
  | [.int i] => some (.int i)
  | [.bl b] => some (.int (if b then 1 else 0))
  | _ => none
theorem cd_int : CallD X (.type "int") D.toInt := by
  rintro pins s σ H xs us Q I r ⟨Hs, ds, d, e, h1, h2, q⟩
  unfold D.toInt at h2
  split at h2
  · cases h2
    obtain ⟨v, rfl, k1⟩ := h1.d1
    subst k1
    exact call_int1 pins s σ H _ us Q I r (.inl ⟨_, rfl, q _ _ _ (.refl e) rfl⟩)
  · cases h2
    obtain ⟨v, rfl, k1⟩ := h1.d1
    subst k1
    exact call_int1 pins s σ H _ us Q I r (.inr ⟨_, rfl, q _ _ _ (.refl e) rfl⟩)
  · cases h2
noncomputable def D.abs : List D → Option D
  | [.int i] => some (.int (if i < 0 then -i else i))
  | _ => none
theorem cd_abs : CallD X (.builtin "abs") D.abs := by
  rintro pins s σ H xs us Q I r ⟨Hs, ds, d, e, h1, h2, q⟩
  unfold D.abs at h2
  split at h2
  · cases h2
    obtain ⟨v, rfl, k1⟩ := h1.d1
    subst k1
    exact call_abs pins s σ H _ us Q I r ⟨_, rfl, q _ _ _ (.refl e) rfl⟩
  · cases h2
/-- the greatest, the least of some ints -/
noncomputable def maxI : List Int → Option Int
  | [] => none
  | n :: ns => some (ns.foldl (fun a b => if b > a then b else a) n)
noncomputable def minI : List Int → Option Int
  | [] => none
  | n :: ns => some (ns.foldl (fun a b => if b < a then b else a) n)
theorem foldmax : ∀ (ns : List Int) (n : Int), (∀ y ∈ n :: ns, y ≤ ns.foldl (fun a b => if b > a then b else a) n) ∧ ns.foldl (fun a b => if b > a then b else a) n ∈ n :: ns
  | [], n => by simp
  | m :: ns, n => by
    obtain ⟨h1, h2⟩ := foldmax ns (if m > n then m else n)
    refine ⟨fun y hy => ?_, ?_⟩
    · have h0 := h1 _ List.mem_cons_self
      rw [List.foldl_cons]
      generalize List.foldl _ (if m > n then m else n) ns = c at h0 h1 ⊢
      rcases List.mem_cons.mp hy with rfl | hy
      · split at h0 <;> omega
      · rcases List.mem_cons.mp hy with rfl | hy
        · split at h0 <;> omega
        · exact h1 y (List.mem_cons_of_mem _ hy)
    · rw [List.foldl_cons]
      rcases List.mem_cons.mp h2 with h | h
      · rw [h]; split <;> simp
      · simp [h]
theorem foldmin : ∀ (ns : List Int) (n : Int), (∀ y ∈ n :: ns, ns.foldl (fun a b => if b < a then b else a) n ≤ y) ∧ ns.foldl (fun a b => if b < a then b else a) n ∈ n :: ns
  | [], n => by simp
  | m :: ns, n => by
    obtain ⟨h1, h2⟩ := foldmin ns (if m < n then m else n)
    refine ⟨fun y hy => ?_, ?_⟩
    · have h0 := h1 _ List.mem_cons_self
      rw [List.foldl_cons]
      generalize List.foldl _ (if m < n then m else n) ns = c at h0 h1 ⊢
      rcases List.mem_cons.mp hy with rfl | hy
      · split at h0 <;> omega
      · rcases List.mem_cons.mp hy with rfl | hy
        · split at h0 <;> omega
        · exact h1 y (List.mem_cons_of_mem _ hy)
    · rw [List.foldl_cons]
      rcases List.mem_cons.mp h2 with h | h
      · rw [h]; split <;> simp
      · simp [h]
noncomputable def D.max : List D → Option D
  | [.int i, .int j] => some (.int (if j > i then j else i))
  | [.lst ds] => ((D.ints ds).bind maxI).map .int
  | _ => none
noncomputable def D.min : List D → Option D
  | [.int i, .int j] => some (.int (if j < i then j else i))
  | [.lst ds] => ((D.ints ds).bind minI).map .int
  | _ => none
theorem cd_max (hc : X.calm = true) : CallD X (.builtin "max") D.max := by
  rintro pins s σ H xs us Q I r ⟨Hs, ds, d, e, h1, h2, q⟩
  unfold D.max at h2
  split at h2
  · cases h2
    obtain ⟨v, w, rfl, k1, k2⟩ := h1.d2
    subst k1; subst k2
    exact call_max2 hc pins s σ H _ us Q I r ⟨_, _, rfl, q _ _ _ (.refl e) rfl⟩
  · rename_i ds
    simp only [Option.map_eq_some_iff, Option.bind_eq_some_iff] at h2
    obtain ⟨m, ⟨ns, g1, g2⟩, rfl⟩ := h2
    obtain ⟨v, rfl, a, vs, rfl, k1, k2⟩ := h1.d1
    rw [D.ints_eq g1] at k2
    rw [k2.ints] at k1
    cases ns with
    | nil => cases g2
    | cons n ns =>
      cases g2
      refine cr_max hc pins s σ H _ us Q I r ⟨a, _, rfl, SqL.lst k1, by simp, fun m hm hle => ?_⟩
      obtain ⟨f1, f2⟩ := foldmax ns n
      have := Int.le_antisymm (f1 m hm) (hle _ f2)
      subst this
      exact q _ _ _ (.refl e) rfl
  · cases h2
theorem cd_min (hc : X.calm = true) : CallD X (.builtin "min") D.min := by
  rintro pins s σ H xs us Q I r ⟨Hs, ds, d, e, h1, h2, q⟩
  unfold D.min at h2
  split at h2
  · cases h2
    obtain ⟨v, w, rfl, k1, k2⟩ := h1.d2
    subst k1; subst k2
    exact call_min2 hc pins s σ H _ us Q I r ⟨_, _, rfl, q _ _ _ (.refl e) rfl⟩
  · rename_i ds
    simp only [Option.map_eq_some_iff, Option.bind_eq_some_iff] at h2
    obtain ⟨m, ⟨ns, g1, g2⟩, rfl⟩ := h2
    obtain ⟨v, rfl, a, vs, rfl, k1, k2⟩ := h1.d1
    rw [D.ints_eq g1] at k2
    rw [k2.ints] at k1
    cases ns with
    | nil => cases g2
    | cons n ns =>
      cases g2
      refine cr_min hc pins s σ H _ us Q I r ⟨a, _, rfl, SqL.lst k1, by simp, fun m hm hle => ?_⟩
      obtain ⟨f1, f2⟩ := foldmin ns n
      have := Int.le_antisymm (hle _ f2) (f1 m hm)
      subst this
      exact q _ _ _ (.refl e) rfl
  · cases h2
noncomputable def D.sum : List D → Option D
  | [.lst ds] => (D.ints ds).map fun ns => .int ns.sum
  | _ => none
theorem cd_sum (hc : X.calm = true) : CallD X (.builtin "sum") D.sum := by
  rintro pins s σ H xs us Q I r ⟨Hs, ds, d, e, h1, h2, q⟩
  unfold D.sum at h2
  split at h2
  · simp only [Option.map_eq_some_iff] at h2
    obtain ⟨ns, g1, rfl⟩ := h2
    obtain ⟨v, rfl, a, vs, rfl, k1, k2⟩ := h1.d1
    rw [D.ints_eq g1] at k2
    rw [k2.ints] at k1
    exact cr_sum hc pins s σ H _ us Q I r ⟨a, _, rfl, SqL.lst k1, q _ _ _ (.refl e) rfl⟩
  · cases h2
noncomputable def D.all : List D → Option D
  | [.lst ds] => (D.bls ds).map fun ns => .bl (ns.all id)
  | _ => none
noncomputable def D.any : List D → Option D
  | [.lst ds] => (D.bls ds).map fun ns => .bl (ns.any id)
  | _ => none
theorem cd_all (hc : X.calm = true) : CallD X (.builtin "all") D.all := by
  rintro pins s σ H xs us Q I r ⟨Hs, ds, d, e, h1, h2, q⟩
  unfold D.all at h2
  split at h2
  · simp only [Option.map_eq_some_iff] at h2
    obtain ⟨ns, g1, rfl⟩ := h2
    obtain ⟨v, rfl, a, vs, rfl, k1, k2⟩ := h1.d1
    rw [D.bls_eq g1] at k2
    rw [k2.bls] at k1
    exact cr_all hc pins s σ H _ us Q I r ⟨a, _, rfl, SqL.lst k1, q _ _ _ (.refl e) rfl⟩
  · cases h2
theorem cd_any (hc : X.calm = true) : CallD X (.builtin "any") D.any := by
  rintro pins s σ H xs us Q I r ⟨Hs, ds, d, e, h1, h2, q⟩
  unfold D.any at h2
  split at h2
  · simp only [Option.map_eq_some_iff] at h2
    obtain ⟨ns, g1, rfl⟩ := h2
    obtain ⟨v, rfl, a, vs, rfl, k1, k2⟩ := h1.d1
    rw [D.bls_eq g1] at k2
    rw [k2.bls] at k1
    exact cr_any hc pins s σ H _ us Q I r ⟨a, _, rfl, SqL.lst k1, q _ _ _ (.refl e) rfl⟩
  · cases h2
noncomputable def D.toTup : List D → Option D
  | [.lst ds] => some (.tup ds)
  | [.fz ds] => some (.tup ds)
  | [.tup ds] => some (.tup ds)
  | _ => none
theorem cd_tuple : CallD X (.type "tuple") D.toTup := by
  rintro pins s σ H xs us Q I r ⟨Hs, ds, d, e, h1, h2, q⟩
  unfold D.toTup at h2
  split at h2
  · cases h2
    obtain ⟨v, rfl, a, vs, rfl, k1, k2⟩ := h1.d1
    exact call_tuple_of pins s σ H _ us Q I r ⟨a, vs, rfl, .inl ⟨SqL.lst k1, fun l hl => q _ _ _ (.new e hl) ⟨l, vs, rfl, .inl (.inl upd_same), k2.mono (Ext.new e hl).s⟩⟩⟩
  · cases h2
    obtain ⟨v, rfl, a, vs, rfl, k1, k2⟩ := h1.d1
    exact call_tuple_of pins s σ H _ us Q I r ⟨a, vs, rfl, .inl ⟨e.seq k1, fun l hl => q _ _ _ (.new e hl) ⟨l, vs, rfl, .inl (.inl upd_same), k2.mono (Ext.new e hl).s⟩⟩⟩
  · cases h2
    obtain ⟨v, rfl, a, vs, rfl, k1, k2⟩ := h1.d1
    exact call_tuple_of pins s σ H _ us Q I r ⟨a, vs, rfl, .inr ⟨e.seqT k1, q _ _ _ (.refl e) ⟨a, vs, rfl, k1, k2⟩⟩⟩
  · cases h2
noncomputable def D.toLst : List D → Option (List D)
  | [.lst ds] => some ds
  | [.fz ds] => some ds
  | [.tup ds] => some ds
  | _ => none
theorem keep_new {H : Hp} {p : Addr} {o : HO} (n : H p = none) : ∀ b u, H b = some u → (upd H p o) b = some u := fun b u e => by rw [upd_ne (ne_of_none e n)]; exact e
theorem cn_list : CallN X (.type "list") D.toLst := by
  rintro pins s σ H xs us Q I r ⟨Hs, ds, d, e, h1, h2, q⟩
  unfold D.toLst at h2
  split at h2
  · cases h2
    obtain ⟨v, rfl, a, vs, rfl, k1, k2⟩ := h1.d1
    exact call_list_of pins s σ H _ us Q I r ⟨a, vs, rfl, .inl (SqL.lst k1), fun l hl => q l _ vs hl upd_same (keep_new hl) k2⟩
  · cases h2
    obtain ⟨v, rfl, a, vs, rfl, k1, k2⟩ := h1.d1
    exact call_list_of pins s σ H _ us Q I r ⟨a, vs, rfl, .inl (e.seq k1), fun l hl => q l _ vs hl upd_same (keep_new hl) k2⟩
  · cases h2
    obtain ⟨v, rfl, a, vs, rfl, k1, k2⟩ := h1.d1
    exact call_list_of pins s σ H _ us Q I r ⟨a, vs, rfl, .inr (e.seqT k1), fun l hl => q l _ vs hl upd_same (keep_new hl) k2⟩
  · cases h2
end
end FL

namespace FL
open PySem PySem.Spec PyProof.Rows L2

section
variable {K : PySem.W.Frag} {mg : Str → Option Value} {W : WX} {G : Gh} {σ : L2.St} {H : Hp} {ρ : Env'} {Hs : Hp} {fp : List Addr}
/-- a slot's tree is let go: from now on it is shared -/
theorem OkAt.freeze {i : Nat} {t : T} (ok : OkAt K G σ H ρ Hs fp) (hi : ρ[i]? = some (some t)) :
    ∃ Hs' fp' v, OkAt K G σ H (ρ.set i (some (.sh t.d))) Hs' fp' ∧ Same Hs Hs' ∧ σ[i]? = some (some v) ∧ Den K Hs' t.d v := by
  obtain ⟨v, f1, f2, f3, h1, h2, h3, h4, _⟩ := ok.env.at hi
  have sh : ∀ a, a ∈ f2 → Hs a = none := fun a ha => ok.disj a (by rw [h2]; simp [ha])
  let Hs' : Hp := fun a => if a ∈ f2 then H a else Hs a
  have e1 : ∀ a, a ∈ f2 → Hs' a = H a := fun a ha => by show (if a ∈ f2 then H a else Hs a) = _; rw [if_pos ha]
  have e2 : ∀ a, a ∉ f2 → Hs' a = Hs a := fun a ha => by show (if a ∈ f2 then H a else Hs a) = _; rw [if_neg ha]
  have s1 : Same Hs Hs' := fun a o e => by
    have n : a ∉ f2 := fun ha => by rw [sh a ha] at e; cases e
    rw [e2 a n]; exact e
  have s2 : Same Hs' H := fun a o e => by
    by_cases ha : a ∈ f2
    · rw [e1 a ha] at e; exact e
    · rw [e2 a ha] at e; exact ok.sh a o e
  have nd := ok.nd
  rw [h2] at nd
  have d : Den K Hs' t.d v := h3.den s1 e1
  have env := h4 Hs' H s1 (fun _ _ => rfl) (.sh t.d) v [] ⟨rfl, d⟩
  have σe : σ.set i (some v) = σ := by
    apply List.ext_getElem?
    intro j
    by_cases hj : i = j
    · subst hj
      have hl : i < σ.length := by
        rcases Nat.lt_or_ge i σ.length with h | h
        · exact h
        · rw [List.getElem?_eq_none_iff.mpr h] at h1; cases h1
      rw [List.getElem?_set_self hl, h1]
    · rw [List.getElem?_set_ne hj]
  rw [σe] at env
  have nin : ∀ a, a ∈ f1 ++ f3 → a ∉ f2 := fun a ha hb => by
    rw [List.nodup_append] at nd
    obtain ⟨_, n2, n3⟩ := nd
    rw [List.nodup_append] at n2
    rcases List.mem_append.mp ha with ha | ha
    · exact n3 a ha a (List.mem_append_left _ hb) rfl
    · exact n2.2.2 a hb a ha rfl
  refine ⟨Hs', f1 ++ f3, v, ⟨s2, ok.base.trans s1, ok.frame, fun a p1 p2 => ?_, fun a ha => ?_, ?_, by simpa using env⟩, s1, h1, d⟩
  · obtain ⟨q1, q2⟩ := ok.priv a p1 p2
    rw [h2] at q2
    simp only [List.mem_append, not_or] at q2
    exact ⟨by rw [e2 a q2.2.1]; exact q1, by simp [q2.1, q2.2.2]⟩
  · rw [e2 a (nin a ha)]
    exact ok.disj a (by rw [h2]; simp only [List.mem_append] at ha ⊢; rcases ha with h | h <;> simp [h])
  · rw [List.nodup_append] at nd ⊢
    obtain ⟨n1, n2, n3⟩ := nd
    rw [List.nodup_append] at n2
    exact ⟨n1, n2.2.1, fun a ha b hb => n3 a ha b (List.mem_append_right _ hb)⟩
/-- a value that is handed on: an owned slot is let go -/
noncomputable def esc (ρ : Env') : RV → Option (D × Env')
  | .leaf d => some (d, ρ)
  | .slot i => match ρ[i]? with
    | some (some t) => some (t.d, ρ.set i (some (.sh t.d)))
    | _ => none
theorem esc_den {r : RV} {v : V} {d : D} {ρ' : Env'} (ok : OkAt K G σ H ρ Hs fp) (h : RVd K Hs σ r v) (e : esc ρ r = some (d, ρ')) : ∃ Hs' fp', OkAt K G σ H ρ' Hs' fp' ∧ Same Hs Hs' ∧ Den K Hs' d v := by
  cases r with
  | leaf d' =>
    cases e
    exact ⟨Hs, fp, ok, Same.refl _, h⟩
  | slot i =>
    simp only [esc] at e
    split at e
    · rename_i t hi
      cases e
      obtain ⟨Hs', fp', w, h1, h2, h3, h4⟩ := ok.freeze hi
      have h' : σ[i]? = some (some v) := h
      rw [h3] at h'
      cases h'
      exact ⟨Hs', fp', h1, h2, h4⟩
    · cases e
theorem OkAt.leak {Hs' fp' ρ' H'} (ok : OkAt K G σ H ρ Hs fp) (ok' : OkAt K (Hs, rem H fp) σ H' ρ' Hs' fp') : Same Hs Hs' := ok'.base
end

/-! ### one-place operations, built-ins -/
section
variable {X : Cx} {mg : Str → Option Value} {W : WX} {a b c : Expr} {fa fb fc : Env' → Res (RV × Env')} {pos : Pos}
theorem fo_or {e : Expr} {f g : Env' → Res (RV × Env')} (h : PE X e (tFO X.K mg W f)) (h' : PE X e (tFO X.K mg W g)) : PE X e (tFO X.K mg W fun ρ => match f ρ with | .bad => g ρ | r => r) :=
  ⟨fun pins s σ H Q I ⟨G, ρ, ok, po⟩ => by
    cases z : f ρ with
    | ok p =>
      simp only [z] at po
      exact h.run pins s σ H Q I ⟨G, ρ, ok, by rw [z]; exact po⟩
    | exc c r =>
      simp only [z] at po
      exact h.run pins s σ H Q I ⟨G, ρ, ok, by rw [z]; exact po⟩
    | bad =>
      simp only [z] at po
      exact h'.run pins s σ H Q I ⟨G, ρ, ok, po⟩⟩
noncomputable def eUn (g : D → Option D) (fa : Env' → Res (RV × Env')) : Env' → Res (RV × Env') := fun ρ =>
  (fa ρ).bind fun (r1, ρ1) => (Res.of (look ρ1 r1)).bind fun d1 => (Res.of (g d1)).bind fun d => .ok (.leaf d, ρ1)
theorem un_go {r : V → Hp → VK → Prop} {g : D → Option D} (hr : ∀ x H Q, (∃ Hs d1 d, Same Hs H ∧ Den1 X.K Hs H d1 x ∧ g d1 = some d ∧ ∀ v Hs' H', Ext Hs H Hs' H' → Den X.K Hs' d v → Q v H') → r x H Q)
    {σ : L2.St} {H : Hp} {Q : VK} (h : tFO X.K mg W (eUn g fa) σ H Q) : tUn r (tFO X.K mg W fa) σ H Q := by
  obtain ⟨G, ρ, ⟨Hs, fp, ok⟩, po⟩ := h
  refine goE ok po (fun _ _ h => h) id fun r1 ρ1 x H1 Hs1 fp1 ok1 dx po1 => hr x H1 Q ?_
  have ok1' := ok.back ok1
  cases e1 : look ρ1 r1 with
  | none => simp only [e1] at po1; exact po1.elim
  | some d1 =>
    cases e3 : g d1 with
    | none => simp only [e1, e3, of_some, bind_ok] at po1; exact po1.elim
    | some d =>
      simp only [e1, e3, of_some, bind_ok] at po1
      exact ⟨Hs1, d1, d, ok1'.sh, look_den ok1' dx e1, e3, fun v Hs' H' ex dv => po1 v H' Hs' fp1 (ok1'.ext ex) dv⟩
theorem fo_un {op : UnaryOp} {g : D → Option D} (ho : UnD X (unaryOp op) g) (ha : PE X a (tFO X.K mg W fa)) : PE X (.UnaryOp op a pos) (tFO X.K mg W (eUn g fa)) :=
  (pe_un ho ha).imp fun _ _ _ h => un_go (fun _ _ _ q => q) h

/-! argument lists -/
noncomputable def aNil : Env' → Res (List RV × Env') := fun ρ => .ok ([], ρ)
noncomputable def aCons (fa : Env' → Res (RV × Env')) (fr : Env' → Res (List RV × Env')) : Env' → Res (List RV × Env') := fun ρ => (fa ρ).bind fun (r, ρ1) => (fr ρ1).bind fun (rs, ρ2) => .ok (r :: rs, ρ2)
/-- an argument that is handed on -/
noncomputable def aConsE (fa : Env' → Res (RV × Env')) (fr : Env' → Res (List RV × Env')) : Env' → Res (List RV × Env') := fun ρ => (fa ρ).bind fun (r, ρ1) => (Res.of (esc ρ1 r)).bind fun (d, ρ1') => (fr ρ1').bind fun (rs, ρ2) => .ok (.leaf d :: rs, ρ2)
theorem fa_nil : PA X [] (tFA X.K mg W aNil) := pa_nil.imp fun σ H Q ⟨G, ρ, ⟨Hs, fp, ok⟩, po⟩ => po [] H Hs fp ok rfl
theorem fa_cons {es : List Expr} {fr : Env' → Res (List RV × Env')} (ha : PE X a (tFO X.K mg W fa)) (hr : PA X es (tFA X.K mg W fr)) (hs : starEach (a :: es) X.env = (false, eval a X.env) :: starEach es X.env := by rfl) : PA X (a :: es) (tFA X.K mg W (aCons fa fr)) := by
  refine (pa_cons ha hr hs).imp fun σ H Q ⟨G, ρ, ⟨Hs, fp, ok⟩, po⟩ => ?_
  refine goE ok po (fun _ _ h => h) id fun r1 ρ1 x H1 Hs1 fp1 ok1 dx po1 => ?_
  have ok1' := ok.back ok1
  refine goA ok1' po1 (fun _ _ h => h) id fun rs ρ2 ys H2 Hs2 fp2 ok2 dy po2 => ?_
  have ok2' := ok1'.back ok2
  exact po2 _ H2 Hs2 fp2 ok2' ⟨x, ys, rfl, dx.mono ok2.base, dy⟩
theorem fa_consE {es : List Expr} {fr : Env' → Res (List RV × Env')} (ha : PE X a (tFO X.K mg W fa)) (hr : PA X es (tFA X.K mg W fr)) (hs : starEach (a :: es) X.env = (false, eval a X.env) :: starEach es X.env := by rfl) : PA X (a :: es) (tFA X.K mg W (aConsE fa fr)) := by
  refine (pa_cons ha hr hs).imp fun σ H Q ⟨G, ρ, ⟨Hs, fp, ok⟩, po⟩ => ?_
  refine goE ok po (fun _ _ h => h) id fun r1 ρ1 x H1 Hs1 fp1 ok1 dx po1 => ?_
  have ok1' := ok.back ok1
  cases e1 : esc ρ1 r1 with
  | none => simp only [e1] at po1; exact po1.elim
  | some p =>
    obtain ⟨d, ρ1'⟩ := p
    simp only [e1, of_some, bind_ok] at po1
    obtain ⟨Hs1', fp1', okE, sE, dE⟩ := esc_den ok1' dx e1
    refine goA okE po1 (fun _ _ h => h) id fun rs ρ2 ys H2 Hs2 fp2 ok2 dy po2 => ?_
    have ok2' := okE.back ok2
    exact po2 _ H2 Hs2 fp2 ok2' ⟨x, ys, rfl, dE.mono ok2.base, dy⟩
noncomputable def looks (ρ : Env') : List RV → Option (List D)
  | [] => some []
  | r :: rs => (look ρ r).bind fun d => (looks ρ rs).map (d :: ·)
theorem looks_den {K G σ H ρ Hs fp} (ok : OkAt K G σ H ρ Hs fp) : ∀ {rs vs ds}, RVL K Hs σ rs vs → looks ρ rs = some ds → Den1L K Hs H ds vs
  | [], _, _, h, e => by cases e; exact h
  | r :: rs, _, _, ⟨v, ws, e1, e2, e3⟩, e => by
    simp only [looks, Option.bind_eq_some_iff, Option.map_eq_some_iff] at e
    obtain ⟨d, h1, es, h2, h3⟩ := e
    subst h3
    exact ⟨v, ws, e1, look_den ok e2 h1, looks_den ok e3 h2⟩
noncomputable def eB (g : List D → Option D) (fs : Env' → Res (List RV × Env')) : Env' → Res (RV × Env') := fun ρ =>
  (fs ρ).bind fun (rs, ρ1) => (Res.of (looks ρ1 rs)).bind fun ds => (Res.of (g ds)).bind fun d => .ok (.leaf d, ρ1)
theorem b_go {r : List V → Hp → VK → Prop} {g : List D → Option D} {fs : Env' → Res (List RV × Env')} (hr : ∀ xs H Q, (∃ Hs ds d, Same Hs H ∧ Den1L X.K Hs H ds xs ∧ g ds = some d ∧ ∀ v Hs' H', Ext Hs H Hs' H' → Den X.K Hs' d v → Q v H') → r xs H Q)
    {σ : L2.St} {H : Hp} {Q : VK} (h : tFO X.K mg W (eB g fs) σ H Q) : tCB r (tFA X.K mg W fs) σ H Q := by
  obtain ⟨G, ρ, ⟨Hs, fp, ok⟩, po⟩ := h
  refine goA ok po (fun _ _ h => h) id fun rs ρ1 xs H1 Hs1 fp1 ok1 dx po1 => hr xs H1 Q ?_
  have ok1' := ok.back ok1
  cases e1 : looks ρ1 rs with
  | none => simp only [e1] at po1; exact po1.elim
  | some ds =>
    cases e3 : g ds with
    | none => simp only [e1, e3, of_some, bind_ok] at po1; exact po1.elim
    | some d =>
      simp only [e1, e3, of_some, bind_ok] at po1
      exact ⟨Hs1, ds, d, ok1'.sh, looks_den ok1' dx e1, e3, fun v Hs' H' ex dv => po1 v H' Hs' fp1 (ok1'.ext ex) dv⟩
theorem fo_callB {x : Str} {id : String} {p : Pos} {e : Expr} {es : List Expr} {g : List D → Option D} {fs : Env' → Res (List RV × Env')} (hc : CallD X (.builtin id) g) (hg : Gl X x) (hm : X.mg x = none) (hv : bootBuiltins x = some (.builtin id)) (ha : PA X (e :: es) (tFA X.K mg W fs)) (hn : x ≠ "__name__" := by decide) (hdb : (x == ("__debug__" : Str)) = false := by decide)
    (he : starEach (e :: es) X.env = (false, eval e X.env) :: starEach es X.env := by rfl) (hpl : (backTo pos (starEach es X.env)).any (·.1) = false := by rfl) : PE X (.Call (.Name x p) (e :: es) [] pos) (tFO X.K mg W (eB g fs)) :=
  (pe_callB hc hg hm hv ha hn hdb he hpl).imp fun _ _ _ h => b_go (fun _ _ _ q => q) h
theorem fo_callTy {x : Str} {id : String} {p : Pos} {e : Expr} {es : List Expr} {g : List D → Option D} {fs : Env' → Res (List RV × Env')} (hc : CallD X (.type id) g) (hg : Gl X x) (hm : X.mg x = none) (hv : bootBuiltins x = some (.type id)) (ha : PA X (e :: es) (tFA X.K mg W fs)) (hn : x ≠ "__name__" := by decide) (hdb : (x == ("__debug__" : Str)) = false := by decide)
    (he : starEach (e :: es) X.env = (false, eval e X.env) :: starEach es X.env := by rfl) (hpl : (backTo pos (starEach es X.env)).any (·.1) = false := by rfl) : PE X (.Call (.Name x p) (e :: es) [] pos) (tFO X.K mg W (eB g fs)) :=
  (pe_callTy hc hg hm hv ha hn hdb he hpl).imp fun _ _ _ h => b_go (fun _ _ _ q => q) h

/-! tuples -/
noncomputable def eTup (fs : Env' → Res (List RV × Env')) : Env' → Res (RV × Env') := fun ρ =>
  (fs ρ).bind fun (rs, ρ1) => (Res.of (leafs rs)).bind fun ds => if ds.length ≤ sizeLine then .ok (.leaf (.tup ds), ρ1) else .bad
where leafs : List RV → Option (List D)
  | [] => some []
  | .leaf d :: rs => (leafs rs).map (d :: ·)
  | _ :: _ => none
theorem leafs_den {K Hs σ} : ∀ {rs vs ds}, RVL K Hs σ rs vs → eTup.leafs rs = some ds → DenL K Hs ds vs
  | [], _, _, h, e => by cases e; exact h
  | .leaf d :: rs, _, _, ⟨v, ws, e1, e2, e3⟩, e => by
    simp only [eTup.leafs, Option.map_eq_some_iff] at e
    obtain ⟨es, h2, h3⟩ := e
    subst h3
    exact ⟨v, ws, e1, e2, leafs_den e3 h2⟩
theorem fo_tup {es : List Expr} {k : Nat} {fs : Env' → Res (List RV × Env')} (h : PA X es (tFA X.K mg W fs)) : PE X (.Tuple es k pos) (tFO X.K mg W (eTup fs)) := by
  refine (pe_tup h).imp fun σ H Q ⟨G, ρ, ⟨Hs, fp, ok⟩, po⟩ => ?_
  refine goA ok po (fun _ _ h => h) id fun rs ρ1 xs H1 Hs1 fp1 ok1 dx po1 => ?_
  have ok1' := ok.back ok1
  cases e1 : eTup.leafs rs with
  | none => simp only [e1] at po1; exact po1.elim
  | some ds =>
    simp only [e1, of_some, bind_ok] at po1
    have dl := leafs_den dx e1
    split at po1
    · rename_i c
      refine ⟨by rw [dl.length]; exact c, fun p hp => ?_⟩
      have ex := Ext.new (o := .tup xs) ok1'.sh hp
      exact po1 _ _ _ fp1 (ok1'.ext ex) ⟨p, xs, rfl, .inl (.inl upd_same), dl.mono ex.s⟩
    · exact po1.elim

/-! tests -/
noncomputable def tstV (fa : Env' → Res (RV × Env')) : Env' → Res (Bool × Env') := fun ρ => (fa ρ).bind fun (r, ρ1) => match look ρ1 r with
  | some (.bl b) => .ok (b, ρ1)
  | _ => .bad
theorem tst_go {t : TE} {σ H} {Q : Bool → Hp → Prop} (ht : ∀ σ H Q, tFO X.K mg W fa σ H Q → t σ H Q) (h : tFB X.K mg W (tstV fa) σ H Q) : t σ H fun x H' => ∃ k, x = .bl k ∧ Q k H' := by
  obtain ⟨G, ρ, ⟨Hs, fp, ok⟩, po⟩ := h
  refine ht _ _ _ (goE ok po (fun _ _ h => h) id fun r1 ρ1 x H1 Hs1 fp1 ok1 dx po1 => ?_)
  have ok1' := ok.back ok1
  simp only at po1
  split at po1
  · rename_i b e1
    have := look_den ok1' dx e1
    exact ⟨b, this, po1 H1 ⟨Hs1, fp1, ok1'⟩⟩
  · exact po1.elim
/-- a bool's value as a test -/
theorem ft_val (h : PE X a (tFO X.K mg W fa)) (he : ∀ whole, isTrue a X.env whole = (do let v ← whole; standAt a.pos; holding [v] (truthy v)) := by intro _; rfl) : PT X a (tFB X.K mg W (tstV fa)) :=
  (pt_val h he).imp fun σ H Q q => tst_go (fun _ _ _ h => h) q
theorem ft_cmp {op : CmpOp} {g : D → D → Option D} (ho : OpD X (compareOp op) g) (ha : PE X a (tFO X.K mg W fa)) (hb : PE X b (tFO X.K mg W fb)) (hm : behindInMarks op b = false) : PT X (.Compare a [op] [b] pos) (tFB X.K mg W (tstV (eBin g fa fb))) :=
  (pt_cmpR ho ha hb hm).imp fun σ H Q q => tst_go (fun _ _ _ h => bin_go (fun _ _ _ _ q => q) h) q
noncomputable def D.truth : D → Option Bool
  | .non => some false
  | .bl b => some b
  | .int i => some (i != 0)
  | .str x => some ((x.length : Int) != 0)
  | .lst xs => some (!xs.isEmpty)
  | .fz xs => some (!xs.isEmpty)
  | .tup xs => some (!xs.isEmpty)
  | .dic ks vs => some (!ks.isEmpty)
  | _ => none
theorem DenL.empty {K H} {ds vs} (h : DenL K H ds vs) : ds.isEmpty = vs.isEmpty := by
  have := h.length
  cases ds <;> cases vs <;> simp_all
theorem truth_den {K Hs H d v k} (e : Same Hs H) (h : Den1 K Hs H d v) (q : d.truth = some k) : TruV K v H k := by
  cases d with
  | non => cases h; cases q; rfl
  | bl b => cases h; cases q; rfl
  | int b => cases h; cases q; rfl
  | str b => obtain ⟨rfl, h1⟩ := h; cases q; exact ⟨h1.1, rfl⟩
  | tup b => obtain ⟨a, vs, rfl, h1, h2⟩ := h; cases q; exact .inr (.inl ⟨vs, e.seqT h1, by rw [h2.empty]⟩)
  | lst b => obtain ⟨a, vs, rfl, h1, h2⟩ := h; cases q; exact .inl ⟨vs, SqL.lst h1, by rw [h2.empty]⟩
  | fz b => obtain ⟨a, vs, rfl, h1, h2⟩ := h; cases q; exact .inl ⟨vs, e.seq h1, by rw [h2.empty]⟩
  | dic ks b => obtain ⟨a, kv, rfl, h1, h2, h3⟩ := h; cases q; exact .inr (.inr ⟨kv, h1, by subst h2; cases kv <;> rfl⟩)
  | _ => cases q
noncomputable def tstT (fa : Env' → Res (RV × Env')) : Env' → Res (Bool × Env') := fun ρ => (fa ρ).bind fun (r, ρ1) => (Res.of ((look ρ1 r).bind D.truth)).bind fun b => .ok (b, ρ1)
/-- a value's truth as a test -/
theorem ft_truth (h : PE X a (tFO X.K mg W fa)) (he : ∀ whole, isTrue a X.env whole = (do let v ← whole; standAt a.pos; holding [v] (truthy v)) := by intro _; rfl) : PT X a (tFB X.K mg W (tstT fa)) := by
  refine (pt_truth h he).imp fun σ H Q ⟨G, ρ, ⟨Hs, fp, ok⟩, po⟩ => ?_
  refine goE ok po (fun _ _ h => h) id fun r1 ρ1 x H1 Hs1 fp1 ok1 dx po1 => ?_
  have ok1' := ok.back ok1
  cases e1 : look ρ1 r1 with
  | none => simp only [e1, Option.bind] at po1; exact po1.elim
  | some d =>
    cases e2 : d.truth with
    | none => simp only [e1, e2, Option.bind] at po1; exact po1.elim
    | some k =>
      simp only [e1, e2, Option.bind, of_some, bind_ok] at po1
      exact ⟨k, truth_den ok1'.sh (look_den ok1' dx e1) e2, po1 H1 ⟨Hs1, fp1, ok1'⟩⟩
section
variable {ta tb : Env' → Res (Bool × Env')} {rest : List Expr}
noncomputable def tstNot (ta : Env' → Res (Bool × Env')) : Env' → Res (Bool × Env') := fun ρ => (ta ρ).bind fun (b, ρ1) => .ok (!b, ρ1)
noncomputable def tstAnd (ta tb : Env' → Res (Bool × Env')) : Env' → Res (Bool × Env') := fun ρ => (ta ρ).bind fun (b, ρ1) => if b = true then tb ρ1 else .ok (false, ρ1)
noncomputable def tstOr (ta tb : Env' → Res (Bool × Env')) : Env' → Res (Bool × Env') := fun ρ => (ta ρ).bind fun (b, ρ1) => if b = true then .ok (true, ρ1) else tb ρ1
theorem ft_not (h : PT X a (tFB X.K mg W ta)) : PT X (.UnaryOp .Not a pos) (tFB X.K mg W (tstNot ta)) := by
  refine (pt_not h).imp fun σ H Q ⟨G, ρ, ⟨Hs, fp, ok⟩, po⟩ => ?_
  exact goT ok po (fun _ _ h => h) id fun b ρ1 H1 Hs1 fp1 ok1 po1 => po1 H1 ⟨Hs1, fp1, ok.back ok1⟩
theorem fw_and1 (h : PT X a (tFB X.K mg W ta)) : PW X (.BoolOp .And [a] pos) (tFB X.K mg W ta) := pw_and1 h
theorem fw_or1 (h : PT X a (tFB X.K mg W ta)) : PW X (.BoolOp .Or [a] pos) (tFB X.K mg W ta) := pw_or1 h
theorem ok_again {K : PySem.W.Frag} {G : Gh} {σ : L2.St} {H H1 : Hp} {ρ ρ1 : Env'} {Hs Hs1 : Hp} {fp fp1 : List Addr} {f : Env' → Res (Bool × Env')} {Q : Bool → Hp → Prop} (ok1 : OkAt K G σ H1 ρ1 Hs1 fp1) (po : PoT K mg W G σ Q (f ρ1)) : tFB K mg W f σ H1 Q := ⟨G, ρ1, ⟨Hs1, fp1, ok1⟩, po⟩
theorem fw_and (ha : PT X a (tFB X.K mg W ta)) (hb : PW X (.BoolOp .And (b :: rest) pos) (tFB X.K mg W tb)) : PW X (.BoolOp .And (a :: b :: rest) pos) (tFB X.K mg W (tstAnd ta tb)) := by
  refine (pw_and ha hb).imp fun σ H Q ⟨G, ρ, ⟨Hs, fp, ok⟩, po⟩ => ?_
  refine goT ok po (fun _ _ h => h) id fun b ρ1 H1 Hs1 fp1 ok1 po1 => ?_
  have ok1' := ok.back ok1
  cases b with
  | true => exact iteT ⟨G, ρ1, ⟨Hs1, fp1, ok1'⟩, po1⟩
  | false => exact iteF (po1 H1 ⟨Hs1, fp1, ok1'⟩)
theorem fw_or (ha : PT X a (tFB X.K mg W ta)) (hb : PW X (.BoolOp .Or (b :: rest) pos) (tFB X.K mg W tb)) : PW X (.BoolOp .Or (a :: b :: rest) pos) (tFB X.K mg W (tstOr ta tb)) := by
  refine (pw_or ha hb).imp fun σ H Q ⟨G, ρ, ⟨Hs, fp, ok⟩, po⟩ => ?_
  refine goT ok po (fun _ _ h => h) id fun b ρ1 H1 Hs1 fp1 ok1 po1 => ?_
  have ok1' := ok.back ok1
  cases b with
  | true => exact iteT (po1 H1 ⟨Hs1, fp1, ok1'⟩)
  | false => exact iteF ⟨G, ρ1, ⟨Hs1, fp1, ok1'⟩, po1⟩
noncomputable def eIf (tc : Env' → Res (Bool × Env')) (fa fb : Env' → Res (RV × Env')) : Env' → Res (RV × Env') := fun ρ => (tc ρ).bind fun (b, ρ1) => if b = true then fa ρ1 else fb ρ1
theorem fo_if (hc : PT X c (tFB X.K mg W ta)) (ha : PE X a (tFO X.K mg W fa)) (hb : PE X b (tFO X.K mg W fb)) : PE X (.IfExp c a b pos) (tFO X.K mg W (eIf ta fa fb)) := by
  refine (pe_ifExp hc ha hb).imp fun σ H Q ⟨G, ρ, ⟨Hs, fp, ok⟩, po⟩ => ?_
  refine goT ok po (fun _ _ h => h) id fun b ρ1 H1 Hs1 fp1 ok1 po1 => ?_
  have ok1' := ok.back ok1
  cases b with
  | true => exact iteT ⟨G, ρ1, ⟨Hs1, fp1, ok1'⟩, po1⟩
  | false => exact iteF ⟨G, ρ1, ⟨Hs1, fp1, ok1'⟩, po1⟩
end
noncomputable def eAnd (fa fb : Env' → Res (RV × Env')) : Env' → Res (RV × Env') := fun ρ => (fa ρ).bind fun (r, ρ1) => match look ρ1 r with
  | some (.bl true) => fb ρ1
  | some (.bl false) => .ok (.leaf (.bl false), ρ1)
  | _ => .bad
noncomputable def eOr (fa fb : Env' → Res (RV × Env')) : Env' → Res (RV × Env') := fun ρ => (fa ρ).bind fun (r, ρ1) => match look ρ1 r with
  | some (.bl false) => fb ρ1
  | some (.bl true) => .ok (.leaf (.bl true), ρ1)
  | _ => .bad
noncomputable def eNot (fa : Env' → Res (RV × Env')) : Env' → Res (RV × Env') := fun ρ => (fa ρ).bind fun (r, ρ1) => match look ρ1 r with
  | some (.bl b) => .ok (.leaf (.bl (!b)), ρ1)
  | _ => .bad
theorem fo_one {op} (h : PE X a (tFO X.K mg W fa)) : PE X (.BoolOp op [a] pos) (tFO X.K mg W fa) := pe_one h
theorem fo_and {rest : List Expr} (ha : PE X a (tFO X.K mg W fa)) (hb : PE X (.BoolOp .And (b :: rest) pos) (tFO X.K mg W fb)) : PE X (.BoolOp .And (a :: b :: rest) pos) (tFO X.K mg W (eAnd fa fb)) := by
  refine (pe_and ha hb).imp fun σ H Q ⟨G, ρ, ⟨Hs, fp, ok⟩, po⟩ => ?_
  refine goE ok po (fun _ _ h => h) id fun r1 ρ1 x H1 Hs1 fp1 ok1 dx po1 => ?_
  have ok1' := ok.back ok1
  simp only at po1
  split at po1
  · rename_i e1
    exact ⟨true, look_den ok1' dx e1, iteT ⟨G, ρ1, ⟨Hs1, fp1, ok1'⟩, po1⟩⟩
  · rename_i e1
    exact ⟨false, look_den ok1' dx e1, iteF (po1 _ _ Hs1 fp1 ok1' rfl)⟩
  · exact po1.elim
theorem fo_or2 {rest : List Expr} (ha : PE X a (tFO X.K mg W fa)) (hb : PE X (.BoolOp .Or (b :: rest) pos) (tFO X.K mg W fb)) : PE X (.BoolOp .Or (a :: b :: rest) pos) (tFO X.K mg W (eOr fa fb)) := by
  refine (pe_or ha hb).imp fun σ H Q ⟨G, ρ, ⟨Hs, fp, ok⟩, po⟩ => ?_
  refine goE ok po (fun _ _ h => h) id fun r1 ρ1 x H1 Hs1 fp1 ok1 dx po1 => ?_
  have ok1' := ok.back ok1
  simp only at po1
  split at po1
  · rename_i e1
    exact ⟨false, look_den ok1' dx e1, iteF ⟨G, ρ1, ⟨Hs1, fp1, ok1'⟩, po1⟩⟩
  · rename_i e1
    exact ⟨true, look_den ok1' dx e1, iteT (po1 _ _ Hs1 fp1 ok1' rfl)⟩
  · exact po1.elim
theorem fo_not (ha : PE X a (tFO X.K mg W fa)) : PE X (.UnaryOp .Not a pos) (tFO X.K mg W (eNot fa)) := by
  refine (pe_not ha).imp fun σ H Q ⟨G, ρ, ⟨Hs, fp, ok⟩, po⟩ => ?_
  refine goE ok po (fun _ _ h => h) id fun r1 ρ1 x H1 Hs1 fp1 ok1 dx po1 => ?_
  have ok1' := ok.back ok1
  simp only at po1
  split at po1
  · rename_i b e1
    exact ⟨b, look_den ok1' dx e1, po1 _ _ Hs1 fp1 ok1' rfl⟩
  · exact po1.elim
/-- a op b op' c -/
noncomputable def eChain (g g' : D → D → Option D) (fa fb fc : Env' → Res (RV × Env')) : Env' → Res (RV × Env') := fun ρ =>
  (fa ρ).bind fun (r1, ρ1) => (fb ρ1).bind fun (r2, ρ2) => (Res.of (look ρ2 r1)).bind fun d1 => (Res.of (look ρ2 r2)).bind fun d2 => match g d1 d2 with
    | some (.bl true) => (fc ρ2).bind fun (r3, ρ3) => (Res.of (look ρ3 r2)).bind fun d2 => (Res.of (look ρ3 r3)).bind fun d3 => (Res.of (g' d2 d3)).bind fun d => .ok (.leaf d, ρ3)
    | some (.bl false) => .ok (.leaf (.bl false), ρ2)
    | _ => .bad
theorem chain_go {r r' : R2} {g g' : D → D → Option D} (hr : ∀ x y H Q, (∃ Hs d1 d2 d, Same Hs H ∧ Den1 X.K Hs H d1 x ∧ Den1 X.K Hs H d2 y ∧ g d1 d2 = some d ∧ ∀ v Hs' H', Ext Hs H Hs' H' → Den X.K Hs' d v → Q v H') → r x y H Q)
    (hr' : ∀ x y H Q, (∃ Hs d1 d2 d, Same Hs H ∧ Den1 X.K Hs H d1 x ∧ Den1 X.K Hs H d2 y ∧ g' d1 d2 = some d ∧ ∀ v Hs' H', Ext Hs H Hs' H' → Den X.K Hs' d v → Q v H') → r' x y H Q)
    {σ : L2.St} {H : Hp} {Q : VK} (h : tFO X.K mg W (eChain g g' fa fb fc) σ H Q) : tChain r r' (tFO X.K mg W fa) (tFO X.K mg W fb) (tFO X.K mg W fc) σ H Q := by
  obtain ⟨G, ρ, ⟨Hs, fp, ok⟩, po⟩ := h
  refine goE ok po (fun _ _ h => h) id fun r1 ρ1 x H1 Hs1 fp1 ok1 dx po1 => ?_
  have ok1' := ok.back ok1
  refine goE ok1' po1 (fun _ _ h => h) id fun r2 ρ2 y H2 Hs2 fp2 ok2 dy po2 => hr x y H2 _ ?_
  have ok2' := ok1'.back ok2
  have dx' : RVd X.K Hs2 σ r1 x := dx.mono ok2.base
  cases e1 : look ρ2 r1 with
  | none => simp only [e1] at po2; exact po2.elim
  | some d1 =>
    cases e2 : look ρ2 r2 with
    | none => simp only [e1, e2] at po2; exact po2.elim
    | some d2 =>
      simp only [e1, e2, of_some, bind_ok] at po2
      split at po2
      · rename_i e3
        refine ⟨Hs2, d1, d2, _, ok2'.sh, look_den ok2' dx' e1, look_den ok2' dy e2, e3, fun v Hs' H' ex dv => ⟨true, dv, iteT ?_⟩⟩
        have okx := ok2'.ext ex
        refine goE okx po2 (fun _ _ h => h) id fun r3 ρ3 z H3 Hs3 fp3 ok3 dz po3 => hr' y z H3 Q ?_
        have ok3' := okx.back ok3
        have dy' : RVd X.K Hs3 σ r2 y := (dy.mono ex.s).mono ok3.base
        cases e4 : look ρ3 r2 with
        | none => simp only [e4] at po3; exact po3.elim
        | some d4 =>
          cases e5 : look ρ3 r3 with
          | none => simp only [e4, e5] at po3; exact po3.elim
          | some d5 =>
            cases e6 : g' d4 d5 with
            | none => simp only [e4, e5, e6, of_some, bind_ok] at po3; exact po3.elim
            | some d =>
              simp only [e4, e5, e6, of_some, bind_ok] at po3
              exact ⟨Hs3, d4, d5, d, ok3'.sh, look_den ok3' dy' e4, look_den ok3' dz e5, e6, fun v Hs' H' ex dv => po3 v H' Hs' fp3 (ok3'.ext ex) dv⟩
      · rename_i e3
        exact ⟨Hs2, d1, d2, _, ok2'.sh, look_den ok2' dx' e1, look_den ok2' dy e2, e3, fun v Hs' H' ex dv => ⟨false, dv, iteF (po2 _ _ Hs' fp2 (ok2'.ext ex) rfl)⟩⟩
      · exact po2.elim
theorem fo_chain {op op' : CmpOp} {g g' : D → D → Option D} (ho : OpD X (compareOp op) g) (ho' : OpD X (compareOp op') g') (ha : PE X a (tFO X.K mg W fa)) (hb : PE X b (tFO X.K mg W fb)) (hc : PE X c (tFO X.K mg W fc))
    (hm : lastMarks [op, op'] [b, c] = false := by with_unfolding_all rfl) : PE X (.Compare a [op, op'] [b, c] pos) (tFO X.K mg W (eChain g g' fa fb fc)) :=
  (pe_chain ho ho' ha hb hc hm).imp fun _ _ _ h => chain_go (fun _ _ _ _ q => q) (fun _ _ _ _ q => q) h
theorem ft_chain {op op' : CmpOp} {g g' : D → D → Option D} (ho : OpD X (compareOp op) g) (ho' : OpD X (compareOp op') g') (ha : PE X a (tFO X.K mg W fa)) (hb : PE X b (tFO X.K mg W fb)) (hc : PE X c (tFO X.K mg W fc))
    (hm : lastMarks [op, op'] [b, c] = false := by with_unfolding_all rfl) : PT X (.Compare a [op, op'] [b, c] pos) (tFB X.K mg W (tstV (eChain g g' fa fb fc))) :=
  (pt_chain ho ho' ha hb hc hm).imp fun σ H Q q => tst_go (fun _ _ _ h => chain_go (fun _ _ _ _ q => q) (fun _ _ _ _ q => q) h) q

/-! subscripts, slices -/
noncomputable def IxD (X : Cx) (g : D → D → Option D) : Prop :=
  IxR X fun x y H Q => ∃ Hs d1 d2 d, Same Hs H ∧ Den1 X.K Hs H d1 x ∧ Den1 X.K Hs H d2 y ∧ g d1 d2 = some d ∧ ∀ v Hs' H', Ext Hs H Hs' H' → Den X.K Hs' d v → Q v H'
noncomputable def D.ix : D → D → Option D
  | .lst ds, .int i => atI ds i
  | .fz ds, .int i => atI ds i
  | .tup ds, .int i => atI ds i
  | .str x, .int i => (atI x.cps.toList i).map fun c => .str ⟨#[c]⟩
  | _, _ => none
theorem DenL.atI {K H} {ds : List D} {vs : List V} {i : Int} {d : D} (h : DenL K H ds vs) (e : L2.atI ds i = some d) : ∃ v, L2.atI vs i = some v ∧ Den K H d v := by
  unfold L2.atI at e ⊢
  rw [h.length]
  cases z : ixN ds.length i with
  | none => rw [z] at e; cases e
  | some j =>
    rw [z] at e
    exact h.get (i := j) (by simpa using e)
theorem xd_ix : IxD X D.ix := by
  rintro value slice pins s σ H x y v u Q I rx ry ⟨Hs, d1, d2, d, e, h1, h2, g, q⟩ hs
  unfold D.ix at g
  split at g
  · obtain ⟨a, vs, rfl, k1, k2⟩ := h1
    cases h2
    obtain ⟨w, e1, e2⟩ := k2.atI g
    exact ix_seq value slice pins s σ H _ _ v u Q I rx ry (.inl ⟨a, vs, _, w, rfl, rfl, SqL.lst k1, e1, q _ _ _ (.refl e) e2⟩) hs
  · obtain ⟨a, vs, rfl, k1, k2⟩ := h1
    cases h2
    obtain ⟨w, e1, e2⟩ := k2.atI g
    exact ix_seq value slice pins s σ H _ _ v u Q I rx ry (.inl ⟨a, vs, _, w, rfl, rfl, e.seq k1, e1, q _ _ _ (.refl e) e2⟩) hs
  · obtain ⟨a, vs, rfl, k1, k2⟩ := h1
    cases h2
    obtain ⟨w, e1, e2⟩ := k2.atI g
    exact ix_seq value slice pins s σ H _ _ v u Q I rx ry (.inr (.inl ⟨a, vs, _, w, rfl, rfl, e.seqT k1, e1, q _ _ _ (.refl e) e2⟩)) hs
  · rename_i z i
    obtain ⟨rfl, k1⟩ := h1
    cases h2
    simp only [Option.map_eq_some_iff] at g
    obtain ⟨c, g1, rfl⟩ := g
    refine ix_seq value slice pins s σ H _ _ v u Q I rx ry (.inr (.inr ⟨_, _, c, rfl, rfl, k1.1, g1, q _ _ _ (.refl e) ⟨rfl, sOk_sign k1 ?_⟩⟩)) hs
    unfold L2.atI at g1
    cases z : ixN _ i with
    | none => rw [z] at g1; cases g1
    | some j => rw [z] at g1; exact List.mem_of_getElem? (by simpa using g1)
  · cases g
theorem fo_ix {g : D → D → Option D} (hr : IxD X g) (ha : PE X a (tFO X.K mg W fa)) (hb : PE X b (tFO X.K mg W fb)) (hs : PlainIx b) : PE X (.Subscript a b pos) (tFO X.K mg W (eBin g fa fb)) :=
  (pe_ix hr ha hb hs).imp fun _ _ _ h => bin_go (fun _ _ _ _ q => q) h
/-- a slice's part -/
noncomputable def PoP (K : PySem.W.Frag) (mg : Str → Option Value) (W : WX) (G : Gh) (σ : L2.St) (Q : Option Int → Hp → Prop) : Res (Option Int × Env') → Prop
  | .ok (o, ρ') => ∀ H', Ok K G σ H' ρ' → Q o H'
  | .exc c ρ' => ∀ H' C, mg c = some (.ref C) → Ok K G σ H' ρ' → W (.ref C) none σ H'
  | .bad => False
noncomputable def tFP (K : PySem.W.Frag) (mg : Str → Option Value) (W : WX) (f : Env' → Res (Option Int × Env')) : TO := fun σ H Q => ∃ G ρ, Ok K G σ H ρ ∧ PoP K mg W G σ Q (f ρ)
noncomputable def pNone : Env' → Res (Option Int × Env') := fun ρ => .ok (none, ρ)
noncomputable def pSome (fa : Env' → Res (RV × Env')) : Env' → Res (Option Int × Env') := fun ρ => (fa ρ).bind fun (r, ρ1) => match look ρ1 r with
  | some (.int i) => .ok (some i, ρ1)
  | _ => .bad
theorem _root_.L2.PO.imp {X : Cx} {e : Option Expr} {t t' : TO} (h : PO X e t) (i : ∀ σ H Q, t' σ H Q → t σ H Q) : PO X e t' := ⟨fun pins s σ H Q I q => h.run pins s σ H Q I (i σ H Q q)⟩
theorem fp_none : PO X none (tFP X.K mg W pNone) := po_none.imp fun σ H Q ⟨G, ρ, ok, po⟩ => po H ok
theorem fp_some (h : PE X a (tFO X.K mg W fa)) : PO X (some a) (tFP X.K mg W (pSome fa)) := by
  refine (po_some h).imp fun σ H Q ⟨G, ρ, ⟨Hs, fp, ok⟩, po⟩ => ?_
  refine goE ok po (fun _ _ h => h) id fun r1 ρ1 x H1 Hs1 fp1 ok1 dx po1 => ?_
  have ok1' := ok.back ok1
  simp only at po1
  split at po1
  · rename_i e1
    exact ⟨_, look_den ok1' dx e1, po1 H1 ⟨Hs1, fp1, ok1'⟩⟩
  · exact po1.elim
theorem goP {K : PySem.W.Frag} {G : Gh} {σ : L2.St} {H : Hp} {ρ : Env'} {Hs : Hp} {fp : List Addr} {β : Type} {P : Res β → Prop} {f : Env' → Res (Option Int × Env')} {k : Option Int × Env' → Res β} {R : Option Int → Hp → Prop} (ok : OkAt K G σ H ρ Hs fp) (po : P ((f ρ).bind k))
    (hx : ∀ c ρ', P (.exc c ρ') → ∀ H' C, mg c = some (.ref C) → Ok K G σ H' ρ' → W (.ref C) none σ H') (hb : ¬ P .bad)
    (cont : ∀ b ρ1 H1 Hs1 fp1, OkAt K (Hs, rem H fp) σ H1 ρ1 Hs1 fp1 → P (k (b, ρ1)) → R b H1) : tFP K mg W f σ H R := by
  refine ⟨_, ρ, ⟨Hs, fp, ok.self⟩, ?_⟩
  cases e : f ρ with
  | ok p =>
    obtain ⟨r, ρ1⟩ := p
    rw [e] at po
    exact fun H1 ⟨Hs1, fp1, ok1⟩ => cont r ρ1 H1 Hs1 fp1 ok1 po
  | exc c ρ' =>
    rw [e] at po
    exact fun H' C hc o => hx c ρ' po H' C hc (Ok.back ok o)
  | bad =>
    rw [e] at po
    exact hb po
noncomputable def cutD (xs : List D) (lo hi : Option Int) : List D := (xs.drop (HT.sIx xs.length 0 lo)).take (HT.sIx xs.length xs.length hi - HT.sIx xs.length 0 lo)
theorem DenL.cut {K H} {ds : List D} {vs : List V} (h : DenL K H ds vs) (lo hi : Option Int) : DenL K H (cutD ds lo hi) (cutV vs lo hi) := by
  unfold cutD cutV
  rw [h.length]
  exact (h.drop _).take _
noncomputable def D.sl (lo hi : Option Int) : D → Option D
  | .lst ds => some (.lst (cutD ds lo hi))
  | .fz ds => some (.lst (cutD ds lo hi))
  | .tup ds => some (.tup (cutD ds lo hi))
  | .str x => some (.str (cutS x lo hi))
  | _ => none
noncomputable def eSl (fa : Env' → Res (RV × Env')) (fl fh : Env' → Res (Option Int × Env')) : Env' → Res (RV × Env') := fun ρ =>
  (fa ρ).bind fun (r, ρ1) => (fl ρ1).bind fun (lo, ρ2) => (fh ρ2).bind fun (hi, ρ3) => (Res.of ((look ρ3 r).bind (D.sl lo hi))).bind fun d => .ok (.leaf d, ρ3)
theorem cut_whole (xs : List V) (lo hi : Option Int) (h : HT.sIx xs.length 0 lo = 0 ∧ HT.sIx xs.length xs.length hi = xs.length) : cutV xs lo hi = xs := by
  unfold cutV
  rw [h.1, h.2, List.drop_zero, Nat.sub_zero, List.take_length]
theorem cutS_ok {x : Str} (lo hi : Option Int) (h : sOk x) : sOk (cutS x lo hi) := sOk_sub h (fun c hc => List.mem_of_mem_drop (List.mem_of_mem_take hc)) (by
  have := cutS_length x lo hi
  unfold cutS at this
  simpa [Str.length] using this)
theorem fo_sl {lo hi : Option Expr} {fl fh : Env' → Res (Option Int × Env')} {p2 : Pos} (ha : PE X a (tFO X.K mg W fa)) (hl : PO X lo (tFP X.K mg W fl)) (hh : PO X hi (tFP X.K mg W fh)) : PE X (.Subscript a (.Slice lo hi none p2) pos) (tFO X.K mg W (eSl fa fl fh)) := by
  refine (pe_slice (sl_list.or (sl_tupA.or sl_str)) ha hl hh).imp fun σ H Q ⟨G, ρ, ⟨Hs, fp, ok⟩, po⟩ => ?_
  refine goE ok po (fun _ _ h => h) id fun r1 ρ1 x H1 Hs1 fp1 ok1 dx po1 => ?_
  have ok1' := ok.back ok1
  refine goP ok1' po1 (fun _ _ h => h) id fun lo ρ2 H2 Hs2 fp2 ok2 po2 => ?_
  have ok2' := ok1'.back ok2
  refine goP ok2' po2 (fun _ _ h => h) id fun hi ρ3 H3 Hs3 fp3 ok3 po3 => ?_
  have ok3' := ok2'.back ok3
  have dx3 : RVd X.K Hs3 σ r1 x := (dx.mono ok2.base).mono ok3.base
  cases e1 : look ρ3 r1 with
  | none => simp only [e1, Option.bind] at po3; exact po3.elim
  | some d =>
    have q := look_den ok3' dx3 e1
    simp only [e1, Option.bind] at po3
    cases d with
    | lst ds =>
      obtain ⟨a, vs, rfl, k1, k2⟩ := q
      refine .inl ⟨a, vs, rfl, SqL.lst k1, fun p hp => ?_⟩
      have ex := Ext.new (o := .lst (cutV vs lo hi)) ok3'.sh hp
      exact po3 _ _ _ fp3 (ok3'.ext ex) ⟨p, _, rfl, upd_same, (k2.cut lo hi).mono ex.s⟩
    | fz ds =>
      obtain ⟨a, vs, rfl, k1, k2⟩ := q
      refine .inl ⟨a, vs, rfl, ok3'.sh.seq k1, fun p hp => ?_⟩
      have ex := Ext.new (o := .lst (cutV vs lo hi)) ok3'.sh hp
      exact po3 _ _ _ fp3 (ok3'.ext ex) ⟨p, _, rfl, upd_same, (k2.cut lo hi).mono ex.s⟩
    | tup ds =>
      obtain ⟨a, vs, rfl, k1, k2⟩ := q
      refine .inr (.inl ⟨a, vs, rfl, ok3'.sh.seqT k1, fun z => ?_, fun _ p hp => ?_⟩)
      · have k3 := k2.cut lo hi
        rw [cut_whole vs lo hi z] at k3
        exact po3 _ _ _ fp3 ok3' ⟨a, vs, rfl, k1, k3⟩
      · have ex := Ext.new (o := .tup (cutV vs lo hi)) ok3'.sh hp
        exact po3 _ _ _ fp3 (ok3'.ext ex) ⟨p, _, rfl, .inl (.inl upd_same), (k2.cut lo hi).mono ex.s⟩
    | str z =>
      obtain ⟨rfl, k⟩ := q
      exact .inr (.inr ⟨z, rfl, k.1, po3 _ _ _ fp3 ok3' ⟨rfl, cutS_ok lo hi k⟩⟩)
    | _ => exact po3.elim
end
end FL

namespace FL
open PySem PySem.Spec PyProof.Rows L2

/-! ### fresh trees -/
section
variable {X : Cx} {mg : Str → Option Value} {W : WX} {a b c : Expr} {fa fb fc : Env' → Res (RV × Env')} {na nb : Env' → Res (T × Env')} {pos : Pos}
/-- a new list of shared things -/
theorem OkAt.newList {K G σ H ρ Hs fp H' p vs ds} (ok : OkAt K G σ H ρ Hs fp) (hp : H p = none) (h1 : H' p = some (.lst vs)) (h2 : ∀ b o, H b = some o → H' b = some o) (h3 : DenL K Hs ds vs) :
    OkAt K G σ H' ρ Hs fp ∧ DenT K Hs H' (.lst (ds.map T.sh)) (.ref p) [p] ∧ [p].Nodup ∧ ∀ a ∈ [p], Hs a = none ∧ a ∉ fp ∧ G.2 a = none := by
  refine ⟨ok.ext ⟨Same.refl _, ok.sh.trans h2, h2, fun _ _ e => e⟩, ⟨p, vs, [], rfl, rfl, h1, DenTL.sh h3⟩, by simp, fun a ha => ?_⟩
  have e : a = p := by simpa using ha
  subst e
  refine ⟨ok.sh.free hp, fun hm => ?_, Same.free ok.frame hp⟩
  obtain ⟨o, eo⟩ := ok.env.there a hm
  rw [hp] at eo
  cases eo
noncomputable def nOf (fa : Env' → Res (RV × Env')) : Env' → Res (T × Env') := fun ρ => (fa ρ).bind fun (r, ρ1) => (Res.of (esc ρ1 r)).bind fun (d, ρ2) => .ok (.sh d, ρ2)
theorem fn_of (h : PE X a (tFO X.K mg W fa)) : PE X a (tFN X.K mg W (nOf fa)) := h.imp fun σ H Q ⟨G, ρ, ⟨Hs, fp, ok⟩, po⟩ => by
  refine goE ok po (fun _ _ h => h) id fun r1 ρ1 x H1 Hs1 fp1 ok1 dx po1 => ?_
  have ok1' := ok.back ok1
  cases e1 : esc ρ1 r1 with
  | none => simp only [e1] at po1; exact po1.elim
  | some p =>
    obtain ⟨d, ρ1'⟩ := p
    simp only [e1, of_some, bind_ok] at po1
    obtain ⟨Hs1', fp1', okE, sE, dE⟩ := esc_den ok1' dx e1
    exact po1 x H1 Hs1' fp1' [] okE ⟨rfl, dE⟩ (by simp) (fun a ha => by cases ha)
/-- a fresh tree let go -/
noncomputable def oOf (na : Env' → Res (T × Env')) : Env' → Res (RV × Env') := fun ρ => (na ρ).bind fun (t, ρ1) => .ok (.leaf t.d, ρ1)
theorem OkAt.letGo {K G σ H ρ Hs fp t v ft} (ok : OkAt K G σ H ρ Hs fp) (h : DenT K Hs H t v ft) (h2 : ∀ a ∈ ft, Hs a = none ∧ a ∉ fp ∧ G.2 a = none) : ∃ Hs', OkAt K G σ H ρ Hs' fp ∧ Same Hs Hs' ∧ Den K Hs' t.d v := by
  let Hs' : Hp := fun a => if a ∈ ft then H a else Hs a
  have e1 : ∀ a, a ∈ ft → Hs' a = H a := fun a ha => by show (if a ∈ ft then H a else Hs a) = _; rw [if_pos ha]
  have e2 : ∀ a, a ∉ ft → Hs' a = Hs a := fun a ha => by show (if a ∈ ft then H a else Hs a) = _; rw [if_neg ha]
  have s1 : Same Hs Hs' := fun a o e => by
    have n : a ∉ ft := fun ha => by rw [(h2 a ha).1] at e; cases e
    rw [e2 a n]; exact e
  have s2 : Same Hs' H := fun a o e => by
    by_cases ha : a ∈ ft
    · rw [e1 a ha] at e; exact e
    · rw [e2 a ha] at e; exact ok.sh a o e
  refine ⟨Hs', ⟨s2, ok.base.trans s1, ok.frame, fun a p1 p2 => ?_, fun a ha => ?_, ok.nd, ok.env.mono s1 fun _ _ => rfl⟩, s1, h.den s1 e1⟩
  · obtain ⟨q1, q2⟩ := ok.priv a p1 p2
    have n : a ∉ ft := fun hm => by rw [(h2 a hm).2.2] at p1; cases p1
    exact ⟨by rw [e2 a n]; exact q1, q2⟩
  · have n : a ∉ ft := fun hm => (h2 a hm).2.1 ha
    rw [e2 a n]; exact ok.disj a ha
theorem fo_of (h : PE X a (tFN X.K mg W na)) : PE X a (tFO X.K mg W (oOf na)) := h.imp fun σ H Q ⟨G, ρ, ⟨Hs, fp, ok⟩, po⟩ => by
  refine goN ok po (fun _ _ h => h) id fun t ρ1 x H1 Hs1 fp1 ft ok1 dt nd q po1 => ?_
  have ok1' := ok.back ok1
  obtain ⟨Hs2, okE, sE, dE⟩ := ok1'.letGo dt fun a ha => ⟨(q a ha).1, (q a ha).2.1, rem_none ok (q a ha).2.2⟩
  exact po1 x H1 Hs2 fp1 okE dE
/-- arguments as trees -/
noncomputable def PoAT (K : PySem.W.Frag) (mg : Str → Option Value) (W : WX) (G : Gh) (σ : L2.St) (Q : List V → Hp → Prop) : Res (List T × Env') → Prop
  | .ok (ts, ρ') => ∀ vs H' Hs fp ft, OkAt K G σ H' ρ' Hs fp → DenTL K Hs H' ts vs ft → ft.Nodup → (∀ a ∈ ft, Hs a = none ∧ a ∉ fp ∧ G.2 a = none) → Q vs H'
  | .exc c ρ' => ∀ H' C, mg c = some (.ref C) → Ok K G σ H' ρ' → W (.ref C) none σ H'
  | .bad => False
noncomputable def tFAT (K : PySem.W.Frag) (mg : Str → Option Value) (W : WX) (f : Env' → Res (List T × Env')) : TA := fun σ H Q => ∃ G ρ, Ok K G σ H ρ ∧ PoAT K mg W G σ Q (f ρ)
theorem goAT {K : PySem.W.Frag} {G : Gh} {σ : L2.St} {H : Hp} {ρ : Env'} {Hs : Hp} {fp : List Addr} {β : Type} {P : Res β → Prop} {f : Env' → Res (List T × Env')} {k : List T × Env' → Res β} {R : List V → Hp → Prop} (ok : OkAt K G σ H ρ Hs fp) (po : P ((f ρ).bind k))
    (hx : ∀ c ρ', P (.exc c ρ') → ∀ H' C, mg c = some (.ref C) → Ok K G σ H' ρ' → W (.ref C) none σ H') (hb : ¬ P .bad)
    (cont : ∀ ts ρ1 xs H1 Hs1 fp1 ft, OkAt K (Hs, rem H fp) σ H1 ρ1 Hs1 fp1 → DenTL K Hs1 H1 ts xs ft → ft.Nodup → (∀ a ∈ ft, Hs1 a = none ∧ a ∉ fp1 ∧ rem H fp a = none) → P (k (ts, ρ1)) → R xs H1) : tFAT K mg W f σ H R := by
  refine ⟨_, ρ, ⟨Hs, fp, ok.self⟩, ?_⟩
  cases e : f ρ with
  | ok p =>
    obtain ⟨r, ρ1⟩ := p
    rw [e] at po
    exact fun x H1 Hs1 fp1 ft ok1 d1 n1 q1 => cont r ρ1 x H1 Hs1 fp1 ft ok1 d1 n1 q1 po
  | exc c ρ' =>
    rw [e] at po
    exact fun H' C hc o => hx c ρ' po H' C hc (Ok.back ok o)
  | bad =>
    rw [e] at po
    exact hb po
noncomputable def atNil : Env' → Res (List T × Env') := fun ρ => .ok ([], ρ)
noncomputable def atCons (na : Env' → Res (T × Env')) (nr : Env' → Res (List T × Env')) : Env' → Res (List T × Env') := fun ρ => (na ρ).bind fun (t, ρ1) => (nr ρ1).bind fun (ts, ρ2) => .ok (t :: ts, ρ2)
theorem fat_nil : PA X [] (tFAT X.K mg W atNil) := pa_nil.imp fun σ H Q ⟨G, ρ, ⟨Hs, fp, ok⟩, po⟩ => po [] H Hs fp [] ok ⟨rfl, rfl⟩ (by simp) (fun _ h => by cases h)
theorem fat_cons {es : List Expr} {nr : Env' → Res (List T × Env')} (ha : PE X a (tFN X.K mg W na)) (hr : PA X es (tFAT X.K mg W nr)) (hs : starEach (a :: es) X.env = (false, eval a X.env) :: starEach es X.env := by rfl) : PA X (a :: es) (tFAT X.K mg W (atCons na nr)) := by
  refine (pa_cons ha hr hs).imp fun σ H Q ⟨G, ρ, ⟨Hs, fp, ok⟩, po⟩ => ?_
  refine goN ok po (fun _ _ h => h) id fun t ρ1 x H1 Hs1 fp1 ft ok1 dt nd q po1 => ?_
  have ok1' := ok.back ok1
  refine goAT ok1' po1 (fun _ _ h => h) id fun ts ρ2 ys H2 Hs2 fp2 ft2 ok2 dy nd2 q2 po2 => ?_
  have ok2' := ok1'.back ok2
  have keep : ∀ a ∈ ft, H2 a = H1 a ∧ Hs2 a = none ∧ a ∉ fp2 ∧ a ∉ ft2 := fun a ha => by
    obtain ⟨o, eo⟩ := dt.there a ha
    have r1 : rem H1 fp1 a = some o := by simp [rem, (q a ha).2.1, eo]
    obtain ⟨p1, p2⟩ := ok2.priv a (by show (rem H1 fp1 a).isSome = true; rw [r1]; rfl) (q a ha).1
    refine ⟨by rw [eo]; exact ok2.frame a o r1, p1, p2, fun hm => ?_⟩
    have := (q2 a hm).2.2
    rw [r1] at this
    cases this
  refine po2 _ H2 Hs2 fp2 (ft ++ ft2) ok2' ⟨x, ys, ft, ft2, rfl, rfl, dt.mono ok2.base fun a ha => (keep a ha).1, dy⟩ ?_ fun a ha => ?_
  · rw [List.nodup_append]
    exact ⟨nd, nd2, fun a ha b hb e => (keep a ha).2.2.2 (by rw [e]; exact hb)⟩
  · rcases List.mem_append.mp ha with ha | ha
    · exact ⟨(keep a ha).2.1, (keep a ha).2.2.1, rem_none ok (q a ha).2.2⟩
    · exact ⟨(q2 a ha).1, (q2 a ha).2.1, rem_none ok1' (q2 a ha).2.2⟩
noncomputable def nLst (ns : Env' → Res (List T × Env')) : Env' → Res (T × Env') := fun ρ => (ns ρ).bind fun (ts, ρ1) => if ts.length ≤ sizeLine then .ok (.lst ts, ρ1) else .bad
/-- a tree under a new list's object -/
theorem OkAt.newTree {K G σ H ρ Hs fp p vs ts ft} (ok : OkAt K G σ H ρ Hs fp) (hp : H p = none) (h3 : DenTL K Hs H ts vs ft) (nd : ft.Nodup) (q : ∀ a ∈ ft, Hs a = none ∧ a ∉ fp ∧ G.2 a = none) :
    OkAt K G σ (upd H p (.lst vs)) ρ Hs fp ∧ DenT K Hs (upd H p (.lst vs)) (.lst ts) (.ref p) (p :: ft) ∧ (p :: ft).Nodup ∧ ∀ a ∈ p :: ft, Hs a = none ∧ a ∉ fp ∧ G.2 a = none := by
  have np : p ∉ ft := fun hm => by obtain ⟨o, eo⟩ := h3.there p hm; rw [hp] at eo; cases eo
  refine ⟨ok.ext (.out ok.sh hp), ⟨p, vs, ft, rfl, rfl, upd_same, h3.mono (Same.refl _) fun a ha => upd_ne fun e => np (e ▸ ha)⟩, List.nodup_cons.mpr ⟨np, nd⟩, fun a ha => ?_⟩
  rcases List.mem_cons.mp ha with rfl | ha
  · refine ⟨ok.sh.free hp, fun hm => ?_, Same.free ok.frame hp⟩
    obtain ⟨o, eo⟩ := ok.env.there a hm
    rw [hp] at eo
    cases eo
  · exact q a ha
theorem fn_lst {es : List Expr} {ns : Env' → Res (List T × Env')} (h : PA X es (tFAT X.K mg W ns)) : PE X (.List es pos) (tFN X.K mg W (nLst ns)) := by
  refine (pe_lst h).imp fun σ H Q ⟨G, ρ, ⟨Hs, fp, ok⟩, po⟩ => ?_
  refine goAT ok po (fun _ _ h => h) id fun ts ρ1 xs H1 Hs1 fp1 ft ok1 dx nd q po1 => ?_
  have ok1' := ok.back ok1
  simp only at po1
  split at po1
  · rename_i c
    refine ⟨by rw [dx.length]; exact c, fun p hp => ?_⟩
    obtain ⟨k1, k2, k3, k4⟩ := ok1'.newTree hp dx nd fun a ha => ⟨(q a ha).1, (q a ha).2.1, rem_none ok (q a ha).2.2⟩
    exact po1 _ _ Hs1 fp1 _ k1 k2 k3 k4
  · exact po1.elim
/-- a built-in that makes a list of one's own -/
noncomputable def nB (g : List D → Option (List D)) (fs : Env' → Res (List RV × Env')) : Env' → Res (T × Env') := fun ρ =>
  (fs ρ).bind fun (rs, ρ1) => (Res.of (looks ρ1 rs)).bind fun ds => (Res.of (g ds)).bind fun es => .ok (.lst (es.map T.sh), ρ1)
theorem nb_go {r : List V → Hp → VK → Prop} {g : List D → Option (List D)} {fs : Env' → Res (List RV × Env')}
    (hr : ∀ xs H Q, (∃ Hs ds es, Same Hs H ∧ Den1L X.K Hs H ds xs ∧ g ds = some es ∧ ∀ p H' vs, H p = none → H' p = some (.lst vs) → (∀ b o, H b = some o → H' b = some o) → DenL X.K Hs es vs → Q (.ref p) H') → r xs H Q)
    {σ : L2.St} {H : Hp} {Q : VK} (h : tFN X.K mg W (nB g fs) σ H Q) : tCB r (tFA X.K mg W fs) σ H Q := by
  obtain ⟨G, ρ, ⟨Hs, fp, ok⟩, po⟩ := h
  refine goA ok po (fun _ _ h => h) id fun rs ρ1 xs H1 Hs1 fp1 ok1 dx po1 => hr xs H1 Q ?_
  have ok1' := ok.back ok1
  cases e1 : looks ρ1 rs with
  | none => simp only [e1] at po1; exact po1.elim
  | some ds =>
    cases e3 : g ds with
    | none => simp only [e1, e3, of_some, bind_ok] at po1; exact po1.elim
    | some es =>
      simp only [e1, e3, of_some, bind_ok] at po1
      refine ⟨Hs1, ds, es, ok1'.sh, looks_den ok1' dx e1, e3, fun p H' vs hp h1 h2 h3 => ?_⟩
      obtain ⟨k1, k2, k3, k4⟩ := ok1'.newList hp h1 h2 h3
      exact po1 _ _ Hs1 fp1 _ k1 k2 k3 k4
theorem fn_callTy {x : Str} {id : String} {p : Pos} {e : Expr} {es : List Expr} {g : List D → Option (List D)} {fs : Env' → Res (List RV × Env')} (hc : CallN X (.type id) g) (hg : Gl X x) (hm : X.mg x = none) (hv : bootBuiltins x = some (.type id)) (ha : PA X (e :: es) (tFA X.K mg W fs)) (hn : x ≠ "__name__" := by decide) (hdb : (x == ("__debug__" : Str)) = false := by decide)
    (he : starEach (e :: es) X.env = (false, eval e X.env) :: starEach es X.env := by rfl) (hpl : (backTo pos (starEach es X.env)).any (·.1) = false := by rfl) : PE X (.Call (.Name x p) (e :: es) [] pos) (tFN X.K mg W (nB g fs)) :=
  (pe_callTy hc hg hm hv ha hn hdb he hpl).imp fun _ _ _ h => nb_go (fun _ _ _ q => q) h
theorem fn_callB {x : Str} {id : String} {p : Pos} {e : Expr} {es : List Expr} {g : List D → Option (List D)} {fs : Env' → Res (List RV × Env')} (hc : CallN X (.builtin id) g) (hg : Gl X x) (hm : X.mg x = none) (hv : bootBuiltins x = some (.builtin id)) (ha : PA X (e :: es) (tFA X.K mg W fs)) (hn : x ≠ "__name__" := by decide) (hdb : (x == ("__debug__" : Str)) = false := by decide)
    (he : starEach (e :: es) X.env = (false, eval e X.env) :: starEach es X.env := by rfl) (hpl : (backTo pos (starEach es X.env)).any (·.1) = false := by rfl) : PE X (.Call (.Name x p) (e :: es) [] pos) (tFN X.K mg W (nB g fs)) :=
  (pe_callB hc hg hm hv ha hn hdb he hpl).imp fun _ _ _ h => nb_go (fun _ _ _ q => q) h
/-- a binary operation that makes a list of one's own -/
noncomputable def OpN (X : Cx) (f : Value → Value → Sem Value) (g : D → D → Option (List D)) : Prop :=
  OpR X f fun x y H Q => ∃ Hs d1 d2 es, Same Hs H ∧ Den1 X.K Hs H d1 x ∧ Den1 X.K Hs H d2 y ∧ g d1 d2 = some es ∧ ∀ p H' vs, H p = none → H' p = some (.lst vs) → (∀ b o, H b = some o → H' b = some o) → DenL X.K Hs es vs → Q (.ref p) H'
noncomputable def nBin (g : D → D → Option (List D)) (fa fb : Env' → Res (RV × Env')) : Env' → Res (T × Env') := fun ρ =>
  (fa ρ).bind fun (r1, ρ1) => (fb ρ1).bind fun (r2, ρ2) => (Res.of (look ρ2 r1)).bind fun d1 => (Res.of (look ρ2 r2)).bind fun d2 => (Res.of (g d1 d2)).bind fun es => .ok (.lst (es.map T.sh), ρ2)
theorem fn_bin {op : Operator} {g : D → D → Option (List D)} (ho : OpN X (binaryOp op) g) (ha : PE X a (tFO X.K mg W fa)) (hb : PE X b (tFO X.K mg W fb)) : PE X (.BinOp a op b pos) (tFN X.K mg W (nBin g fa fb)) :=
  (pe_op ho ha hb).imp fun σ H Q ⟨G, ρ, ⟨Hs, fp, ok⟩, po⟩ => by
  refine goE ok po (fun _ _ h => h) id fun r1 ρ1 x H1 Hs1 fp1 ok1 dx po1 => ?_
  have ok1' := ok.back ok1
  refine goE ok1' po1 (fun _ _ h => h) id fun r2 ρ2 y H2 Hs2 fp2 ok2 dy po2 => ?_
  have ok2' := ok1'.back ok2
  have dx' : RVd X.K Hs2 σ r1 x := dx.mono ok2.base
  cases e1 : look ρ2 r1 with
  | none => simp only [e1] at po2; exact po2.elim
  | some d1 =>
    cases e2 : look ρ2 r2 with
    | none => simp only [e1, e2] at po2; exact po2.elim
    | some d2 =>
      cases e3 : g d1 d2 with
      | none => simp only [e1, e2, e3, of_some, bind_ok] at po2; exact po2.elim
      | some es =>
        simp only [e1, e2, e3, of_some, bind_ok] at po2
        refine ⟨Hs2, d1, d2, es, ok2'.sh, look_den ok2' dx' e1, look_den ok2' dy e2, e3, fun p H' vs hp h1 h2 h3 => ?_⟩
        obtain ⟨k1, k2, k3, k4⟩ := ok2'.newList hp h1 h2 h3
        exact po2 _ _ Hs2 fp2 _ k1 k2 k3 k4
noncomputable def D.catN : D → D → Option (List D)
  | .lst xs, .lst ys => if xs.length + ys.length ≤ sizeLine then some (xs ++ ys) else none
  | _, _ => none
noncomputable def D.repN : D → D → Option (List D)
  | .lst xs, .int k => if -(2 ^ 63) ≤ k ∧ k < 2 ^ 63 ∧ xs.length * k.toNat ≤ sizeLine then some (List.replicate k.toNat xs).flatten else none
  | _, _ => none
theorem on_cat : OpN X (binaryOp .Add) D.catN := by
  rintro pins s σ H x y v u Q I rx ry ⟨Hs, d1, d2, d, e, h1, h2, g, q⟩
  unfold D.catN at g
  split at g
  · split at g
    · rename_i c
      cases g
      obtain ⟨a, vs, e1, e2, e3⟩ := h1
      obtain ⟨b, ws, e4, e5, e6⟩ := h2
      have l1 := e3.length
      have l2 := e6.length
      exact op_cat pins s σ H _ _ v u Q I rx ry ⟨a, b, vs, ws, e1, e4, e2, e5, by omega, fun p hp => q p _ _ hp upd_same (keep_new hp) (e3.append e6)⟩
    · cases g
  · cases g
theorem on_rep : OpN X (binaryOp .Mult) D.repN := by
  rintro pins s σ H x y v u Q I rx ry ⟨Hs, d1, d2, d, e, h1, h2, g, q⟩
  unfold D.repN at g
  split at g
  · split at g
    · rename_i c
      cases g
      obtain ⟨a, vs, e1, e2, e3⟩ := h1
      cases h2
      have l1 := e3.length
      exact op_rep pins s σ H _ _ v u Q I rx ry ⟨a, _, vs, e1, rfl, e2, c.1, c.2.1, by rw [l1]; exact c.2.2, fun p hp => q p _ _ hp upd_same (keep_new hp) (e3.rep _)⟩
    · cases g
  · cases g
/-- a slice of a list, one's own -/
noncomputable def nSl (fa : Env' → Res (RV × Env')) (fl fh : Env' → Res (Option Int × Env')) : Env' → Res (T × Env') := fun ρ =>
  (fa ρ).bind fun (r, ρ1) => (fl ρ1).bind fun (lo, ρ2) => (fh ρ2).bind fun (hi, ρ3) => match look ρ3 r with
    | some (.lst ds) => .ok (.lst ((cutD ds lo hi).map T.sh), ρ3)
    | some (.fz ds) => .ok (.lst ((cutD ds lo hi).map T.sh), ρ3)
    | _ => .bad
theorem fn_sl {lo hi : Option Expr} {fl fh : Env' → Res (Option Int × Env')} {p2 : Pos} (ha : PE X a (tFO X.K mg W fa)) (hl : PO X lo (tFP X.K mg W fl)) (hh : PO X hi (tFP X.K mg W fh)) : PE X (.Subscript a (.Slice lo hi none p2) pos) (tFN X.K mg W (nSl fa fl fh)) := by
  refine (pe_slice sl_list ha hl hh).imp fun σ H Q ⟨G, ρ, ⟨Hs, fp, ok⟩, po⟩ => ?_
  refine goE ok po (fun _ _ h => h) id fun r1 ρ1 x H1 Hs1 fp1 ok1 dx po1 => ?_
  have ok1' := ok.back ok1
  refine goP ok1' po1 (fun _ _ h => h) id fun lo ρ2 H2 Hs2 fp2 ok2 po2 => ?_
  have ok2' := ok1'.back ok2
  refine goP ok2' po2 (fun _ _ h => h) id fun hi ρ3 H3 Hs3 fp3 ok3 po3 => ?_
  have ok3' := ok2'.back ok3
  have dx3 : RVd X.K Hs3 σ r1 x := (dx.mono ok2.base).mono ok3.base
  simp only at po3
  split at po3
  · rename_i e1
    obtain ⟨a, vs, rfl, k1, k2⟩ := look_den ok3' dx3 e1
    refine ⟨a, vs, rfl, SqL.lst k1, fun p hp => ?_⟩
    obtain ⟨k1, k2, k3, k4⟩ := ok3'.newList hp upd_same (keep_new hp) (k2.cut lo hi)
    exact po3 _ _ Hs3 fp3 _ k1 k2 k3 k4
  · rename_i e1
    obtain ⟨a, vs, rfl, k1, k2⟩ := look_den ok3' dx3 e1
    refine ⟨a, vs, rfl, ok3'.sh.seq k1, fun p hp => ?_⟩
    obtain ⟨k1, k2, k3, k4⟩ := ok3'.newList hp upd_same (keep_new hp) (k2.cut lo hi)
    exact po3 _ _ Hs3 fp3 _ k1 k2 k3 k4
  · exact po3.elim
noncomputable def nIf (tc : Env' → Res (Bool × Env')) (na nb : Env' → Res (T × Env')) : Env' → Res (T × Env') := fun ρ => (tc ρ).bind fun (b, ρ1) => if b = true then na ρ1 else nb ρ1
theorem fn_if {ta : Env' → Res (Bool × Env')} (hc : PT X c (tFB X.K mg W ta)) (ha : PE X a (tFN X.K mg W na)) (hb : PE X b (tFN X.K mg W nb)) : PE X (.IfExp c a b pos) (tFN X.K mg W (nIf ta na nb)) := by
  refine (pe_ifExp hc ha hb).imp fun σ H Q ⟨G, ρ, ⟨Hs, fp, ok⟩, po⟩ => ?_
  refine goT ok po (fun _ _ h => h) id fun b ρ1 H1 Hs1 fp1 ok1 po1 => ?_
  have ok1' := ok.back ok1
  cases b with
  | true => exact iteT ⟨G, ρ1, ⟨Hs1, fp1, ok1'⟩, po1⟩
  | false => exact iteF ⟨G, ρ1, ⟨Hs1, fp1, ok1'⟩, po1⟩
end

/-! ### what is walked -/
noncomputable def IterOf (K : PySem.W.Frag) (J : It) (ds : List D) (Hs0 : Hp) : Prop :=
  ∀ i Hs H, Same Hs0 Hs → Same Hs H → (i < ds.length → J.go i H ∧ ∀ x H', J.yld i H x H' → ∃ Hs', Ext Hs H Hs' H' ∧ ∀ d, ds[i]? = some d → Den K Hs' d x) ∧ (ds.length ≤ i → J.stop i H)
theorem IterOf.mono {K J ds Hs Hs'} (h : IterOf K J ds Hs) (e : Same Hs Hs') : IterOf K J ds Hs' := fun i H1 H2 a b => h i H1 H2 (e.trans a) b
section
variable {X : Cx} {mg : Str → Option Value} {W : WX} {tg a b c : Expr} {fa fb fc : Env' → Res (RV × Env')} {pos p : Pos}
noncomputable def PoI (K : PySem.W.Frag) (mg : Str → Option Value) (W : WX) (G : Gh) (σ : L2.St) (R : It → Hp → Prop) : Res (List D × Env') → Prop
  | .ok (ds, ρ') => ∀ J H' Hs fp, OkAt K G σ H' ρ' Hs fp → IterOf K J ds Hs → R J H'
  | .exc c ρ' => ∀ H' C, mg c = some (.ref C) → Ok K G σ H' ρ' → W (.ref C) none σ H'
  | .bad => False
noncomputable def tFI (K : PySem.W.Frag) (mg : Str → Option Value) (W : WX) (f : Env' → Res (List D × Env')) : TI := fun σ H R => ∃ G ρ, Ok K G σ H ρ ∧ PoI K mg W G σ R (f ρ)
theorem _root_.L2.PI.imp {X : Cx} {tg e : Expr} {t t' : TI} (h : PI X tg e t) (i : ∀ σ H Q, t' σ H Q → t σ H Q) : PI X tg e t' := ⟨fun pins s σ H Q I q => h.run pins s σ H Q I (i σ H Q q)⟩
theorem _root_.L2.PI.or {X : Cx} {tg e : Expr} {t t' : TI} (h : PI X tg e t) (h' : PI X tg e t') : PI X tg e (fun σ H R => t σ H R ∨ t' σ H R) :=
  ⟨fun pins s σ H Q I q => by
    rcases q with q | q
    · exact h.run pins s σ H Q I q
    · exact h'.run pins s σ H Q I q⟩
theorem goI {K : PySem.W.Frag} {G : Gh} {σ : L2.St} {H : Hp} {ρ : Env'} {Hs : Hp} {fp : List Addr} {β : Type} {P : Res β → Prop} {f : Env' → Res (List D × Env')} {k : List D × Env' → Res β} {R : It → Hp → Prop} (ok : OkAt K G σ H ρ Hs fp) (po : P ((f ρ).bind k))
    (hx : ∀ c ρ', P (.exc c ρ') → ∀ H' C, mg c = some (.ref C) → Ok K G σ H' ρ' → W (.ref C) none σ H') (hb : ¬ P .bad)
    (cont : ∀ ds ρ1 J H1 Hs1 fp1, OkAt K (Hs, rem H fp) σ H1 ρ1 Hs1 fp1 → IterOf K J ds Hs1 → P (k (ds, ρ1)) → R J H1) : tFI K mg W f σ H R := by
  refine ⟨_, ρ, ⟨Hs, fp, ok.self⟩, ?_⟩
  cases e : f ρ with
  | ok p =>
    obtain ⟨r, ρ1⟩ := p
    rw [e] at po
    exact fun J H1 Hs1 fp1 ok1 d1 => cont r ρ1 J H1 Hs1 fp1 ok1 d1 po
  | exc c ρ' =>
    rw [e] at po
    exact fun H' C hc o => hx c ρ' po H' C hc (Ok.back ok o)
  | bad =>
    rw [e] at po
    exact hb po
theorem iter_list {K Hs a vs ds} (h : SqL K Hs a vs) (hd : DenL K Hs ds vs) : IterOf K (Itl K a) ds Hs := fun i Hs1 H e1 e2 => by
  have s1 := e2.seq (e1.seq h)
  have l := hd.length
  refine ⟨fun hi => ?_, fun hi => ⟨vs, s1, by omega⟩⟩
  obtain ⟨v, hv, dv⟩ := (hd.mono e1).get (List.getElem?_eq_getElem hi)
  refine ⟨⟨vs, v, s1, hv⟩, fun x H' ⟨eH, q⟩ => ⟨Hs1, by rw [eH]; exact .refl e2, fun d hd => ?_⟩⟩
  have := q vs s1
  rw [hv] at this
  cases this
  rw [List.getElem?_eq_getElem hi] at hd
  cases hd
  exact dv
theorem iter_tup {K Hs a vs ds} (h : SqT K Hs a vs) (hd : DenL K Hs ds vs) : IterOf K (Itt K a) ds Hs := fun i Hs1 H e1 e2 => by
  have s1 := e2.seqT (e1.seqT h)
  have l := hd.length
  refine ⟨fun hi => ?_, fun hi => ⟨vs, s1, by omega⟩⟩
  obtain ⟨v, hv, dv⟩ := (hd.mono e1).get (List.getElem?_eq_getElem hi)
  refine ⟨⟨vs, v, s1, hv⟩, fun x H' ⟨eH, q⟩ => ⟨Hs1, by rw [eH]; exact .refl e2, fun d hd => ?_⟩⟩
  have := q vs s1
  rw [hv] at this
  cases this
  rw [List.getElem?_eq_getElem hi] at hd
  cases hd
  exact dv
noncomputable def signs (x : Str) : List D := x.cps.toList.map fun c => .str ⟨#[c]⟩
theorem iter_str {K Hs x} (h : sOk x) : IterOf K (Its x) (signs x) Hs := fun i Hs1 H e1 e2 => by
  have l : (signs x).length = x.cps.size := by simp [signs]
  refine ⟨fun hi => ⟨by show i < x.cps.size; omega, fun v H' ⟨eH, c, hc, hv⟩ => ⟨Hs1, by rw [eH]; exact .refl e2, fun d hd => ?_⟩⟩, fun hi => by show x.cps.size ≤ i; omega⟩
  subst hv
  have hc' : x.cps.toList[i]? = some c := by simpa using hc
  simp only [signs, List.getElem?_map, hc', Option.map_some, Option.some.injEq] at hd
  subst hd
  exact ⟨rfl, sOk_sign h (List.mem_of_getElem? hc')⟩
noncomputable def D.walk : D → Option (List D)
  | .lst ds => some ds
  | .fz ds => some ds
  | .tup ds => some ds
  | .str x => some (signs x)
  | _ => none
noncomputable def iSeq (fa : Env' → Res (RV × Env')) : Env' → Res (List D × Env') := fun ρ => (fa ρ).bind fun (r, ρ1) => (Res.of (esc ρ1 r)).bind fun (d, ρ2) => (Res.of d.walk).bind fun ds => .ok (ds, ρ2)
theorem goE' {K : PySem.W.Frag} {G : Gh} {σ : L2.St} {H : Hp} {ρ : Env'} {Hs : Hp} {fp : List Addr} {β : Type} {P : Res β → Prop} {f : Env' → Res (RV × Env')} {k : RV × Env' → Res β} {R : VK} (ok : OkAt K G σ H ρ Hs fp) (po : P ((f ρ).bind k))
    (hx : ∀ c ρ', P (.exc c ρ') → ∀ H' C, mg c = some (.ref C) → Ok K G σ H' ρ' → W (.ref C) none σ H') (hb : ¬ P .bad)
    (cont : ∀ r ρ1 x H1 Hs1 fp1, f ρ = .ok (r, ρ1) → OkAt K (Hs, rem H fp) σ H1 ρ1 Hs1 fp1 → RVd K Hs1 σ r x → P (k (r, ρ1)) → R x H1) : tFO K mg W f σ H R := by
  refine ⟨_, ρ, ⟨Hs, fp, ok.self⟩, ?_⟩
  cases e : f ρ with
  | ok p =>
    obtain ⟨r, ρ1⟩ := p
    rw [e] at po
    exact fun x H1 Hs1 fp1 ok1 d1 => cont r ρ1 x H1 Hs1 fp1 e ok1 d1 po
  | exc c ρ' =>
    rw [e] at po
    exact fun H' C hc o => hx c ρ' po H' C hc (Ok.back ok o)
  | bad =>
    rw [e] at po
    exact hb po
theorem fi_seq (ha : PE X a (tFO X.K mg W fa)) : PI X tg a (tFI X.K mg W (iSeq fa)) := by
  refine ((pi_list ha).or ((pi_tup ha).or (pi_str ha))).imp fun σ H R ⟨G, ρ, ⟨Hs, fp, ok⟩, po⟩ => ?_
  cases e0 : fa ρ with
  | exc c ρ' => exact .inl (goE' ok po (fun _ _ h => h) id fun r1 ρ1 x H1 Hs1 fp1 e => by rw [e0] at e; cases e)
  | bad => simp only [iSeq, e0] at po; exact po.elim
  | ok p =>
    obtain ⟨r0, ρ0⟩ := p
    cases e1 : esc ρ0 r0 with
    | none => rw [show iSeq fa ρ = .bad from by simp [iSeq, e0, e1]] at po; exact po.elim
    | some p =>
      obtain ⟨d, ρ2⟩ := p
      have fin : ∀ r1 ρ1 x H1 Hs1 fp1, fa ρ = .ok (r1, ρ1) → OkAt X.K (Hs, rem H fp) σ H1 ρ1 Hs1 fp1 → RVd X.K Hs1 σ r1 x → ∃ Hs2 fp2, OkAt X.K G σ H1 ρ2 Hs2 fp2 ∧ Den X.K Hs2 d x := by
        intro r1 ρ1 x H1 Hs1 fp1 e ok1 dx
        rw [e0] at e
        cases e
        obtain ⟨Hs1', fp1', okE, sE, dE⟩ := esc_den (ok.back ok1) dx e1
        exact ⟨Hs1', fp1', okE, dE⟩
      cases d with
      | lst ds =>
        refine .inl (goE' ok po (fun _ _ h => h) id fun r1 ρ1 x H1 Hs1 fp1 e ok1 dx po1 => ?_)
        obtain ⟨Hs2, fp2, okE, a, vs, rfl, k1, k2⟩ := fin r1 ρ1 x H1 Hs1 fp1 e ok1 dx
        rw [e0] at e
        cases e
        simp only [e1, of_some, bind_ok, D.walk] at po1
        exact ⟨a, rfl, ⟨vs, SqL.lst (okE.sh _ _ k1)⟩, po1 _ _ _ _ okE (iter_list (SqL.lst k1) k2)⟩
      | fz ds =>
        refine .inl (goE' ok po (fun _ _ h => h) id fun r1 ρ1 x H1 Hs1 fp1 e ok1 dx po1 => ?_)
        obtain ⟨Hs2, fp2, okE, a, vs, rfl, k1, k2⟩ := fin r1 ρ1 x H1 Hs1 fp1 e ok1 dx
        rw [e0] at e
        cases e
        simp only [e1, of_some, bind_ok, D.walk] at po1
        exact ⟨a, rfl, ⟨vs, okE.sh.seq k1⟩, po1 _ _ _ _ okE (iter_list k1 k2)⟩
      | tup ds =>
        refine .inr (.inl (goE' ok po (fun _ _ h => h) id fun r1 ρ1 x H1 Hs1 fp1 e ok1 dx po1 => ?_))
        obtain ⟨Hs2, fp2, okE, a, vs, rfl, k1, k2⟩ := fin r1 ρ1 x H1 Hs1 fp1 e ok1 dx
        rw [e0] at e
        cases e
        simp only [e1, of_some, bind_ok, D.walk] at po1
        exact ⟨a, rfl, ⟨vs, okE.sh.seqT k1⟩, po1 _ _ _ _ okE (iter_tup k1 k2)⟩
      | str z =>
        refine .inr (.inr (goE' ok po (fun _ _ h => h) id fun r1 ρ1 x H1 Hs1 fp1 e ok1 dx po1 => ?_))
        obtain ⟨Hs2, fp2, okE, rfl, k1⟩ := fin r1 ρ1 x H1 Hs1 fp1 e ok1 dx
        rw [e0] at e
        cases e
        simp only [e1, of_some, bind_ok, D.walk] at po1
        exact ⟨z, rfl, po1 _ _ _ _ okE (iter_str k1)⟩
      | _ => rw [show iSeq fa ρ = .bad from by simp [iSeq, e0, e1, D.walk]] at po; exact po.elim
/-- range -/
noncomputable def rangeD (lo : Int) (n : Nat) : List D := (List.range n).map fun k => .int (lo + (k : Nat))
theorem iter_range {K Hs lo n} : IterOf K (Itr lo n) (rangeD lo n) Hs := fun i Hs1 H e1 e2 => by
  have l : (rangeD lo n).length = n := by simp [rangeD]
  refine ⟨fun hi => ⟨by show i < n; omega, fun v H' ⟨eH, hv⟩ => ⟨Hs1, by rw [eH]; exact .refl e2, fun d hd => ?_⟩⟩, fun hi => by show n ≤ i; omega⟩
  have hin : i < n := by omega
  simp only [rangeD, List.getElem?_map, List.getElem?_range hin, Option.map_some, Option.some.injEq] at hd
  subst hd
  exact hv
noncomputable def rOk (i : Int) : Prop := -(2 ^ 62) ≤ i ∧ i < 2 ^ 62
noncomputable instance (i : Int) : Decidable (rOk i) := Classical.propDecidable _
noncomputable def iRange1 (fs : Env' → Res (List RV × Env')) : Env' → Res (List D × Env') := fun ρ => (fs ρ).bind fun (rs, ρ1) => match looks ρ1 rs with
  | some [.int j] => if rOk j then .ok (rangeD 0 j.toNat, ρ1) else .bad
  | _ => .bad
noncomputable def iRange2 (fs : Env' → Res (List RV × Env')) : Env' → Res (List D × Env') := fun ρ => (fs ρ).bind fun (rs, ρ1) => match looks ρ1 rs with
  | some [.int i, .int j] => if rOk i ∧ rOk j then .ok (rangeD i (j - i).toNat, ρ1) else .bad
  | _ => .bad
theorem fi_range1 {fs : Env' → Res (List RV × Env')} (hg : Gl X "range") (hm : X.mg "range" = none) (ha : PA X [a] (tFA X.K mg W fs)) (hs : starEach [a] X.env = [(false, eval a X.env)] := by rfl) : PI X tg (.Call (.Name "range" p) [a] [] pos) (tFI X.K mg W (iRange1 fs)) := by
  refine (pi_range1 hg hm ha hs).imp fun σ H R ⟨G, ρ, ⟨Hs, fp, ok⟩, po⟩ => ?_
  refine goA ok po (fun _ _ h => h) id fun rs ρ1 xs H1 Hs1 fp1 ok1 dx po1 => ?_
  have ok1' := ok.back ok1
  simp only at po1
  split at po1
  · rename_i j e1
    split at po1
    · rename_i c
      obtain ⟨v, rfl, k1⟩ := (looks_den ok1' dx e1).d1
      cases k1
      exact ⟨j, rfl, c.1, c.2, po1 _ _ _ _ ok1' iter_range⟩
    · exact po1.elim
  · exact po1.elim
theorem fi_range2 {fs : Env' → Res (List RV × Env')} (hg : Gl X "range") (hm : X.mg "range" = none) (ha : PA X [a, b] (tFA X.K mg W fs)) (hs : starEach [a, b] X.env = [(false, eval a X.env), (false, eval b X.env)] := by rfl) (hs2 : starEach [b] X.env = [(false, eval b X.env)] := by rfl) : PI X tg (.Call (.Name "range" p) [a, b] [] pos) (tFI X.K mg W (iRange2 fs)) := by
  refine (pi_range2 hg hm ha hs hs2).imp fun σ H R ⟨G, ρ, ⟨Hs, fp, ok⟩, po⟩ => ?_
  refine goA ok po (fun _ _ h => h) id fun rs ρ1 xs H1 Hs1 fp1 ok1 dx po1 => ?_
  have ok1' := ok.back ok1
  simp only at po1
  split at po1
  · rename_i i j e1
    split at po1
    · rename_i c
      obtain ⟨v, w, rfl, k1, k2⟩ := (looks_den ok1' dx e1).d2
      cases k1
      cases k2
      exact ⟨i, j, rfl, ⟨c.1.1, c.1.2, c.2.1, c.2.2⟩, po1 _ _ _ _ ok1' iter_range⟩
    · exact po1.elim
  · exact po1.elim
/-- enumerate, zip of lists -/
noncomputable def pairs (K : PySem.W.Frag) : List D → Nat → List D
  | [], _ => []
  | d :: ds, n => .tup [.int (n : Nat), d] :: pairs K ds (n + 1)
end

/-! ### targets -/
section
variable {X : Cx} {mg : Str → Option Value} {W : WX} {pos : Pos}
/-- a target's store, by data; vs: the slots that it may turn -/
noncomputable def tFG (K : PySem.W.Frag) (vs : List Nat) (g : D → Env' → Option Env') : TG := fun v σ H Q => ∃ G ρ Hs fp d ρ', OkAt K G σ H ρ Hs fp ∧ Den K Hs d v ∧ g d ρ = some ρ' ∧ ∀ σ' H', Ok K G σ' H' ρ' → L2.wipe σ' vs = L2.wipe σ vs → Q σ' H'
theorem wipe_get (σ : L2.St) : ∀ (vs : List Nat) (k : Nat), (L2.wipe σ vs)[k]? = if k ∈ vs then (σ[k]?.map fun _ => none) else σ[k]?
  | [], k => by simp [L2.wipe]
  | v :: vs, k => by
    rw [L2.wipe]
    have ih := wipe_get σ vs k
    by_cases h : v = k
    · subst h
      rcases Nat.lt_or_ge v σ.length with hv | hv
      · rw [List.getElem?_set_self (by rw [L2.wipe_length]; exact hv), List.getElem?_eq_getElem hv]
        simp
      · rw [List.getElem?_eq_none_iff.mpr (by rw [List.length_set, L2.wipe_length]; exact hv), List.getElem?_eq_none_iff.mpr hv]
        simp
    · rw [List.getElem?_set_ne h, ih]
      simp [Ne.symm h]
theorem wipe_eq_set (σ : L2.St) (vs : List Nat) (i : Nat) (o : Option V) (h : i ∈ vs) : L2.wipe (σ.set i o) vs = L2.wipe σ vs := by
  apply List.ext_getElem?
  intro k
  rw [wipe_get, wipe_get]
  by_cases hk : k ∈ vs
  · rw [if_pos hk, if_pos hk]
    by_cases hi : i = k
    · subst hi
      rcases Nat.lt_or_ge i σ.length with hv | hv
      · rw [List.getElem?_set_self hv, List.getElem?_eq_getElem hv]; rfl
      · rw [List.getElem?_eq_none_iff.mpr (by rw [List.length_set]; exact hv), List.getElem?_eq_none_iff.mpr hv]
    · rw [List.getElem?_set_ne hi]
  · rw [if_neg hk, if_neg hk, List.getElem?_set_ne (fun e => hk (by rw [← e]; exact h))]
theorem wipe_wipe (σ : L2.St) (vs : List Nat) : L2.wipe (L2.wipe σ vs) vs = L2.wipe σ vs := by
  apply List.ext_getElem?
  intro k
  rw [wipe_get, wipe_get]
  by_cases hk : k ∈ vs
  · rw [if_pos hk, if_pos hk, Option.map_map]; rfl
  · rw [if_neg hk, if_neg hk]
theorem _root_.L2.PG.imp {X : Cx} {e : Expr} {t t' : TG} (h : PG X e t) (i : ∀ v σ H Q, t' v σ H Q → t v σ H Q) : PG X e t' := ⟨fun pins s σ H v u Q I r q => h.run pins s σ H v u Q I r (i v σ H Q q)⟩
theorem OkAt.put {K G σ H ρ Hs fp i t v f} (ok : OkAt K G σ H ρ Hs fp) (hi : i < ρ.length) (d : DenT K Hs H t v f) (nd : f.Nodup) (q : ∀ a ∈ f, Hs a = none ∧ a ∉ fp ∧ G.2 a = none) : Ok K G (σ.set i (some v)) H (ρ.set i (some t)) := by
  obtain ⟨f1, f2, f3, e, env⟩ := ok.env.put hi d
  have nfp := ok.nd
  refine ⟨Hs, f1 ++ (f ++ f3), ok.sh, ok.base, ok.frame, fun a p1 p2 => ?_, fun a ha => ?_, ?_, env⟩
  · obtain ⟨q1, q2⟩ := ok.priv a p1 p2
    refine ⟨q1, fun hm => ?_⟩
    rw [e] at q2
    simp only [List.mem_append, not_or] at q2 hm
    rcases hm with h | h | h
    · exact q2.1 h
    · rw [(q a h).2.2] at p1; cases p1
    · exact q2.2.2 h
  · simp only [List.mem_append] at ha
    rcases ha with h | h | h
    · exact ok.disj a (by rw [e]; simp [h])
    · exact (q a h).1
    · exact ok.disj a (by rw [e]; simp [h])
  · rw [e, List.nodup_append] at nfp
    obtain ⟨n1, n2, n3⟩ := nfp
    rw [List.nodup_append] at n2
    rw [List.nodup_append, List.nodup_append]
    refine ⟨n1, ⟨nd, n2.2.1, fun a ha b hb z => ?_⟩, fun a ha b hb z => ?_⟩
    · subst z
      exact (q a ha).2.1 (by rw [e]; simp [hb])
    · subst z
      rcases List.mem_append.mp hb with hb | hb
      · exact (q a hb).2.1 (by rw [e]; simp [ha])
      · exact n3 a ha a (List.mem_append_right _ hb) rfl
noncomputable def gN (i : Nat) : D → Env' → Option Env' := fun d ρ => if i < ρ.length then some (ρ.set i (some (.sh d))) else none
theorem fg_name {i : Nat} {x : Str} {vs : List Nat} (hv : i ∈ vs) (hN : X.N.Nodup) (hi : X.N[i]? = some x) (hx : Loc X.env.scope x) (hf : X.fn x = true ∨ X.env.scope.names.lookup x = some .local := by first | exact .inl rfl | exact .inr rfl | assumption) : PG X (.Name x pos) (tFG X.K vs (gN i)) := by
  refine (pg_name hN hi hx hf).imp fun v σ H Q ⟨G, ρ, Hs, fp, d, ρ', ok, dv, e, q⟩ => ?_
  unfold gN at e
  split at e
  · rename_i hl
    cases e
    exact q _ _ (ok.put hl (t := .sh d) (f := []) ⟨rfl, dv⟩ (by simp) (fun _ h => by cases h)) (wipe_eq_set _ _ _ _ hv)
  · cases e
noncomputable def tFGs (K : PySem.W.Frag) (ws : List Nat) (g : List D → Env' → Option Env') : TGs := fun vs σ H Q => ∃ G ρ Hs fp ds ρ', OkAt K G σ H ρ Hs fp ∧ DenL K Hs ds vs ∧ g ds ρ = some ρ' ∧ ∀ σ' H', Ok K G σ' H' ρ' → L2.wipe σ' ws = L2.wipe σ ws → Q σ' H'
theorem _root_.L2.PGs.imp {X : Cx} {e : List Expr} {t t' : TGs} (h : PGs X e t) (i : ∀ v σ H Q, t' v σ H Q → t v σ H Q) : PGs X e t' := ⟨fun pins s σ H v u Q I r q => h.run pins s σ H v u Q I r (i v σ H Q q)⟩
noncomputable def gsNil : List D → Env' → Option Env' := fun ds ρ => match ds with
  | [] => some ρ
  | _ => none
noncomputable def gsCons (g : D → Env' → Option Env') (gs : List D → Env' → Option Env') : List D → Env' → Option Env' := fun ds ρ => match ds with
  | d :: r => (g d ρ).bind (gs r)
  | [] => none
theorem fgs_nil {us : List Nat} : PGs X [] (tFGs X.K us gsNil) := pgs_nil.imp fun vs σ H Q ⟨G, ρ, Hs, fp, ds, ρ', ok, dv, e, q⟩ => by
  unfold gsNil at e
  split at e
  · cases e
    exact ⟨dv, q _ _ ⟨Hs, fp, ok⟩ rfl⟩
  · cases e
theorem fgs_cons {e : Expr} {es : List Expr} {i : Nat} {us : List Nat} {gs : List D → Env' → Option Env'} (hu : i ∈ us) (h0 : PG X e (gName i)) (h2 : PGs X es (tFGs X.K us gs))
    (hs : (assignEach (e :: es) X.env).map (·.2) = assign e X.env :: (assignEach es X.env).map (·.2) := by rfl) : PGs X (e :: es) (tFGs X.K us (gsCons (gN i) gs)) := (pgs_cons h0 h2 hs).imp fun vs σ H Q ⟨G, ρ, Hs, fp, ds, ρ', ok, dv, e, q⟩ => by
  unfold gsCons at e
  split at e
  · rename_i d r
    obtain ⟨v, ws, rfl, d1, d2⟩ := dv
    simp only [Option.bind_eq_some_iff] at e
    obtain ⟨ρ1, e1, e2⟩ := e
    unfold gN at e1
    split at e1
    · rename_i hl
      cases e1
      refine ⟨v, ws, rfl, ?_⟩
      obtain ⟨f1, f2, f3, e, env⟩ := ok.env.put hl (t := .sh d) (f := []) ⟨rfl, d1⟩
      refine ⟨G, _, Hs, f1 ++ ([] ++ f3), r, ρ', ⟨ok.sh, ok.base, ok.frame, fun a p1 p2 => ?_, fun a ha => ok.disj a ?_, ?_, env⟩, d2, e2, fun σ' H' o w => q σ' H' o (w.trans (wipe_eq_set _ _ _ _ hu))⟩
      · obtain ⟨q1, q2⟩ := ok.priv a p1 p2
        rw [e] at q2
        simp only [List.mem_append, not_or] at q2 ⊢
        exact ⟨q1, q2.1, by simp, q2.2.2⟩
      · rw [e]
        simp only [List.mem_append] at ha ⊢
        rcases ha with h | h | h
        · exact .inl h
        · cases h
        · exact .inr (.inr h)
      · have nfp := ok.nd
        rw [e, List.nodup_append] at nfp
        obtain ⟨n1, n2, n3⟩ := nfp
        rw [List.nodup_append] at n2
        rw [List.nil_append, List.nodup_append]
        exact ⟨n1, n2.2.1, fun a ha b hb => n3 a ha b (List.mem_append_right _ hb)⟩
    · cases e1
  · cases e
noncomputable def gT (gs : List D → Env' → Option Env') (n : Nat) : D → Env' → Option Env' := fun d ρ => match d with
  | .tup ds => if ds.length = n then gs ds ρ else none
  | _ => none
theorem fg_tup {es : List Expr} {k : Nat} {gs : List D → Env' → Option Env'} {n : Nat} {us : List Nat} (hc : X.calm = true) (h : PGs X es (tFGs X.K us gs))
    (hn : (assignEach es X.env).length = n := by rfl) (hst : (assignEach es X.env).findIdx? (·.1) = none := by rfl) : PG X (.Tuple es k pos) (tFG X.K us (gT gs n)) := by
  refine (pg_tup (n := n) hc h hn hst).imp fun v σ H Q ⟨G, ρ, Hs, fp, d, ρ', ok, dv, e, q⟩ => ?_
  unfold gT at e
  split at e
  · split at e
    · rename_i hl
      obtain ⟨a, vs, rfl, k1, k2⟩ := dv
      exact ⟨a, vs, rfl, ok.sh.seqT k1, by rw [k2.length]; exact hl, G, ρ, Hs, fp, _, ρ', ok, k2, e, q⟩
    · cases e
  · cases e

/-! ### comprehensions -/
noncomputable def Res.nx {α : Type} : Res α → Res α
  | .exc _ _ => .bad
  | r => r
noncomputable def W0 : WX := fun _ _ _ _ => False
noncomputable def wipeE (ρ : Env') : List Nat → Env'
  | [] => ρ
  | v :: vs => (wipeE ρ vs).set v none
theorem wipeE_length (ρ : Env') : ∀ vs, (wipeE ρ vs).length = ρ.length
  | [] => rfl
  | v :: vs => by simp [wipeE, wipeE_length ρ vs]
theorem OkAt.wipe1 {K G σ H ρ Hs fp} (ok : OkAt K G σ H ρ Hs fp) (i : Nat) : ∃ fp', (∀ a ∈ fp', a ∈ fp) ∧ ∀ o, OkAt K G (σ.set i o) H (ρ.set i none) Hs fp' := by
  obtain ⟨f1, f2, f3, e, env⟩ := ok.env.wipe (i := i)
  have nfp := ok.nd
  rw [e, List.nodup_append] at nfp
  obtain ⟨n1, n2, n3⟩ := nfp
  rw [List.nodup_append] at n2
  refine ⟨f1 ++ f3, fun a ha => by rw [e]; simp only [List.mem_append] at ha ⊢; rcases ha with h | h <;> simp [h], fun o => ⟨ok.sh, ok.base, ok.frame, fun a p1 p2 => ?_, fun a ha => ok.disj a ?_, ?_, env o⟩⟩
  · obtain ⟨q1, q2⟩ := ok.priv a p1 p2
    rw [e] at q2
    simp only [List.mem_append, not_or] at q2 ⊢
    exact ⟨q1, q2.1, q2.2.2⟩
  · rw [e]
    simp only [List.mem_append] at ha ⊢
    rcases ha with h | h
    · exact .inl h
    · exact .inr (.inr h)
  · rw [List.nodup_append]
    exact ⟨n1, n2.2.1, fun a ha b hb => n3 a ha b (List.mem_append_right _ hb)⟩
theorem OkAt.wipe {K G σ H ρ Hs fp} (ok : OkAt K G σ H ρ Hs fp) : ∀ vs : List Nat, ∃ fp', (∀ a ∈ fp', a ∈ fp) ∧ OkAt K G (L2.wipe σ vs) H (wipeE ρ vs) Hs fp'
  | [] => ⟨fp, fun _ h => h, ok⟩
  | v :: vs => by
    obtain ⟨fp1, k1, ok1⟩ := OkAt.wipe ok vs
    obtain ⟨fp2, k2, ok2⟩ := ok1.wipe1 v
    exact ⟨fp2, fun a h => k1 a (k2 a h), ok2 none⟩
theorem Ok.wipe {K G σ H ρ} (ok : Ok K G σ H ρ) (vs : List Nat) : Ok K G (L2.wipe σ vs) H (wipeE ρ vs) := by
  obtain ⟨Hs, fp, ok⟩ := ok
  obtain ⟨fp', _, ok'⟩ := ok.wipe vs
  exact ⟨Hs, fp', ok'⟩
/-- behind a comprehension: its own names are as they were, where that was shared -/
noncomputable def back1 (ρ0 ρ : Env') (i : Nat) : Env' := match ρ0[i]? with
  | some (some (.sh d)) => ρ.set i (some (.sh d))
  | _ => ρ.set i none
noncomputable def backE (ρ0 ρ : Env') : List Nat → Env'
  | [] => ρ
  | v :: vs => back1 ρ0 (backE ρ0 ρ vs) v
theorem wipe_set (σ : L2.St) (v : Nat) (vs : List Nat) (h : v ∉ vs) : (L2.wipe σ vs)[v]? = σ[v]? := by
  induction vs with
  | nil => rfl
  | cons w vs ih =>
    simp only [List.mem_cons, not_or] at h
    simp only [L2.wipe]
    rw [List.getElem?_set_ne (fun e => h.1 e.symm)]
    exact ih h.2
theorem back1_ok {K G σ H ρ ρ0 Hs Hs0 fp i} {w : Option V} (ok : OkAt K G σ H ρ Hs fp) (hs : Same Hs0 Hs) (h0 : ∀ d, ρ0[i]? = some (some (.sh d)) → ∃ v, w = some v ∧ Den K Hs0 d v) (hl : ρ0.length = ρ.length) : ∃ fp', (∀ a ∈ fp', a ∈ fp) ∧ OkAt K G (σ.set i w) H (back1 ρ0 ρ i) Hs fp' := by
  unfold back1
  obtain ⟨fp', sb, ok'⟩ := ok.wipe1 i
  split
  · rename_i d hd
    obtain ⟨v, rfl, dv⟩ := h0 d hd
    have hi : i < (ρ.set i none).length := by
      rw [List.length_set, ← hl]
      rcases Nat.lt_or_ge i ρ0.length with h | h
      · exact h
      · rw [List.getElem?_eq_none_iff.mpr h] at hd; cases hd
    obtain ⟨f1, f2, f3, e, env⟩ := (ok' none).env.put hi (t := .sh d) (f := []) ⟨rfl, dv.mono hs⟩
    have z := ok' none
    have nfp := z.nd
    rw [e, List.nodup_append] at nfp
    obtain ⟨n1, n2, n3⟩ := nfp
    rw [List.nodup_append] at n2
    refine ⟨f1 ++ f3, fun a ha => sb a (by rw [e]; simp only [List.mem_append] at ha ⊢; rcases ha with h | h <;> simp [h]), z.sh, z.base, z.frame, fun a p1 p2 => ?_, fun a ha => z.disj a ?_, ?_, by simpa using env⟩
    · obtain ⟨q1, q2⟩ := z.priv a p1 p2
      rw [e] at q2
      simp only [List.mem_append, not_or] at q2 ⊢
      exact ⟨q1, q2.1, q2.2.2⟩
    · rw [e]
      simp only [List.mem_append] at ha ⊢
      rcases ha with h | h
      · exact .inl h
      · exact .inr (.inr h)
    · rw [List.nodup_append]
      exact ⟨n1, n2.2.1, fun a ha b hb => n3 a ha b (List.mem_append_right _ hb)⟩
  · exact ⟨fp', sb, ok' w⟩
theorem set_back (σ : L2.St) (v : Nat) (τ : L2.St) : (τ.set v none).set v (σ[v]?.getD none) = τ.set v (σ[v]?.getD none) := by simp
theorem backE_ok {K G G0 σ H H0 ρ0 Hs Hs0 fp0} (ok0 : OkAt K G0 σ H0 ρ0 Hs0 fp0) (hs : Same Hs0 Hs) : ∀ (vs : List Nat) {τ : L2.St} {ρ : Env'} {fp : List Addr}, OkAt K G τ H ρ Hs fp → ρ0.length = ρ.length → ∃ fp', (∀ a ∈ fp', a ∈ fp) ∧ OkAt K G (vs.foldr (fun v τ => τ.set v (σ[v]?.getD none)) τ) H (backE ρ0 ρ vs) Hs fp' ∧ (backE ρ0 ρ vs).length = ρ.length
  | [], τ, ρ, fp, ok, hl => ⟨fp, fun _ h => h, ok, rfl⟩
  | v :: vs, τ, ρ, fp, ok, hl => by
    obtain ⟨fp1, k1, ok1, l1⟩ := backE_ok ok0 hs vs ok hl
    obtain ⟨fp2, k2, ok2⟩ := back1_ok (i := v) (w := σ[v]?.getD none) ok1 hs (fun d hd => by
      obtain ⟨w, f1, f2, f3, h1, _, h3, _⟩ := ok0.env.at hd
      exact ⟨w, by rw [h1]; rfl, h3.2⟩) (by rw [l1]; exact hl)
    refine ⟨fp2, fun a h => k1 a (k2 a h), ok2, ?_⟩
    simp only [backE]
    unfold back1
    split <;> rw [List.length_set, l1]
theorem unwipe (σ : L2.St) : ∀ vs : List Nat, (vs.foldr (fun v τ => τ.set v (σ[v]?.getD none)) (L2.wipe σ vs)) = σ := by
  intro vs
  apply List.ext_getElem?
  intro j
  have key : ∀ (vs : List Nat) (τ : L2.St), τ.length = σ.length → (∀ k, k ∉ vs → τ[k]? = σ[k]?) → (vs.foldr (fun v τ => τ.set v (σ[v]?.getD none)) τ)[j]? = σ[j]? := by
    intro vs
    induction vs with
    | nil => intro τ _ h; exact h j (by simp)
    | cons v vs ih =>
      intro τ hl h
      have ll : ∀ (vs : List Nat) (τ : L2.St), (vs.foldr (fun v τ => τ.set v (σ[v]?.getD none)) τ).length = τ.length := by
        intro vs
        induction vs with
        | nil => intro τ; rfl
        | cons w ws ih => intro τ; rw [List.foldr_cons, List.length_set, ih]
      rw [List.foldr_cons]
      by_cases hj : v = j
      · subst hj
        rcases Nat.lt_or_ge v σ.length with hv | hv
        · rw [List.getElem?_set_self (by rw [ll, hl]; exact hv), List.getElem?_eq_getElem hv]
          rfl
        · rw [List.getElem?_eq_none_iff.mpr hv, List.getElem?_eq_none_iff.mpr (by rw [List.length_set, ll, hl]; exact hv)]
      · rw [List.getElem?_set_ne hj]
        have st : ∀ (vs : List Nat) (τ τ' : L2.St), τ.length = τ'.length → (∀ k, k ≠ v → τ[k]? = τ'[k]?) → ∀ k, k ≠ v → (vs.foldr (fun v τ => τ.set v (σ[v]?.getD none)) τ)[k]? = (vs.foldr (fun v τ => τ.set v (σ[v]?.getD none)) τ')[k]? := by
          intro vs
          induction vs with
          | nil => intro τ τ' _ h; exact h
          | cons w ws ih =>
            intro τ τ' hl h k hk
            rw [List.foldr_cons, List.foldr_cons]
            by_cases hw : w = k
            · subst hw
              rcases Nat.lt_or_ge w τ.length with hv | hv
              · rw [List.getElem?_set_self (by rw [ll]; exact hv), List.getElem?_set_self (by rw [ll, ← hl]; exact hv)]
              · rw [List.getElem?_eq_none_iff.mpr (by rw [List.length_set, ll]; exact hv), List.getElem?_eq_none_iff.mpr (by rw [List.length_set, ll, ← hl]; exact hv)]
            · rw [List.getElem?_set_ne hw, List.getElem?_set_ne hw]
              exact ih τ τ' hl h k hk
        have e1 := st vs τ (τ.set v (σ[v]?.getD none)) (by simp) (fun k hk => by rw [List.getElem?_set_ne (Ne.symm hk)]) j (Ne.symm hj)
        rw [e1]
        refine ih _ (by simp [hl]) fun k hk => ?_
        by_cases hkv : v = k
        · subst hkv
          rcases Nat.lt_or_ge v σ.length with hv | hv
          · rw [List.getElem?_set_self (by rw [hl]; exact hv), List.getElem?_eq_getElem hv]; rfl
          · rw [List.getElem?_eq_none_iff.mpr hv, List.getElem?_eq_none_iff.mpr (by rw [List.length_set, hl]; exact hv)]
        · rw [List.getElem?_set_ne hkv]
          exact h k (by simp [hk, Ne.symm hkv])
  exact key vs _ (L2.wipe_length σ vs) (fun k hk => wipe_set σ k vs hk)
/-- a thing of one's own that is held while more runs -/
theorem held {K σ σ' H H' ρ ρ' Hs Hs' fp fp' G t v ft} (ok : OkAt K G σ H ρ Hs fp) (h : DenT K Hs H t v ft) (q : ∀ a ∈ ft, Hs a = none ∧ a ∉ fp) (ok' : OkAt K (Hs, rem H fp) σ' H' ρ' Hs' fp') :
    DenT K Hs' H' t v ft ∧ ∀ a ∈ ft, Hs' a = none ∧ a ∉ fp' ∧ H' a = H a ∧ (rem H fp a).isSome = true := by
  have keep : ∀ a ∈ ft, Hs' a = none ∧ a ∉ fp' ∧ H' a = H a ∧ (rem H fp a).isSome = true := fun a ha => by
    obtain ⟨o, eo⟩ := h.there a ha
    have r1 : rem H fp a = some o := by simp [rem, (q a ha).2, eo]
    obtain ⟨p1, p2⟩ := ok'.priv a (by show (rem H fp a).isSome = true; rw [r1]; rfl) (q a ha).1
    exact ⟨p1, p2, by rw [eo]; exact ok'.frame a o r1, by rw [r1]; rfl⟩
  exact ⟨h.mono ok'.base fun a ha => (keep a ha).2.2.1, keep⟩
theorem OkAt.updOut {K G σ H ρ Hs fp p o} (ok : OkAt K G σ H ρ Hs fp) (h1 : Hs p = none) (h2 : p ∉ fp) (h3 : G.2 p = none) : OkAt K G σ (upd H p o) ρ Hs fp :=
  ⟨fun a u e => by rw [upd_ne (ne_of_none e h1)]; exact ok.sh a u e, ok.base, fun a u e => by rw [upd_ne (ne_of_none e h3)]; exact ok.frame a u e, ok.priv, ok.disj, ok.nd, ok.env.mono (Same.refl _) fun a ha => upd_ne fun e => h2 (e ▸ ha)⟩
section
variable {K : PySem.W.Frag} {mg : Str → Option Value} {G : Gh} {σ : L2.St} {H : Hp} {ρ : Env'} {Hs : Hp} {fp : List Addr} {β : Type} {P : Res β → Prop}
theorem goT0 {f : Env' → Res (Bool × Env')} {k : Bool × Env' → Res β} {R : Bool → Hp → Prop} (ok : OkAt K G σ H ρ Hs fp) (po : P ((f ρ).nx.bind k)) (hb : ¬ P .bad)
    (cont : ∀ b ρ1 H1 Hs1 fp1, OkAt K (Hs, rem H fp) σ H1 ρ1 Hs1 fp1 → P (k (b, ρ1)) → R b H1) : tFB K mg W0 f σ H R := by
  refine ⟨_, ρ, ⟨Hs, fp, ok.self⟩, ?_⟩
  cases e : f ρ with
  | ok p =>
    obtain ⟨r, ρ1⟩ := p
    rw [e] at po
    exact fun H1 ⟨Hs1, fp1, ok1⟩ => cont r ρ1 H1 Hs1 fp1 ok1 po
  | exc c ρ' => rw [e] at po; exact (hb po).elim
  | bad => rw [e] at po; exact hb po
theorem goN0 {f : Env' → Res (T × Env')} {k : T × Env' → Res β} {R : VK} (ok : OkAt K G σ H ρ Hs fp) (po : P ((f ρ).nx.bind k)) (hb : ¬ P .bad)
    (cont : ∀ t ρ1 x H1 Hs1 fp1 ft, OkAt K (Hs, rem H fp) σ H1 ρ1 Hs1 fp1 → DenT K Hs1 H1 t x ft → ft.Nodup → (∀ a ∈ ft, Hs1 a = none ∧ a ∉ fp1 ∧ rem H fp a = none) → P (k (t, ρ1)) → R x H1) : tFN K mg W0 f σ H R := by
  refine ⟨_, ρ, ⟨Hs, fp, ok.self⟩, ?_⟩
  cases e : f ρ with
  | ok p =>
    obtain ⟨r, ρ1⟩ := p
    rw [e] at po
    exact fun x H1 Hs1 fp1 ft ok1 d1 n1 q1 => cont r ρ1 x H1 Hs1 fp1 ft ok1 d1 n1 q1 po
  | exc c ρ' => rw [e] at po; exact (hb po).elim
  | bad => rw [e] at po; exact hb po
end
noncomputable def lcGo (gt : D → Env' → Option Env') (tt : Env' → Res (Bool × Env')) (ne : Env' → Res (T × Env')) (vs : List Nat) : List D → Env' → Res (List T × Env')
  | [], ρ => .ok ([], ρ)
  | d :: ds, ρ => (Res.of (gt d ρ)).bind fun ρ1 => (tt ρ1).nx.bind fun (b, ρ2) => if b = true then (ne ρ2).nx.bind fun (t, ρ3) => (lcGo gt tt ne vs ds (wipeE ρ3 vs)).bind fun (ts, ρ4) => .ok (t :: ts, ρ4) else lcGo gt tt ne vs ds (wipeE ρ2 vs)
noncomputable def nLc (fi : Env' → Res (List D × Env')) (gt : D → Env' → Option Env') (tt : Env' → Res (Bool × Env')) (ne : Env' → Res (T × Env')) (vs : List Nat) : Env' → Res (T × Env') := fun ρ =>
  (fi ρ).bind fun (ds, ρ1) => if ds.length ≤ sizeLine then (lcGo gt tt ne vs ds (wipeE ρ1 vs)).bind fun (ts, ρ2) => .ok (.lst ts, backE ρ1 ρ2 vs) else .bad
theorem DenT.lst_upd {K Hs H t y ft pre acc p f} (h : DenT K Hs H (.lst pre) (.ref p) (p :: f)) (hH : H p = some (.lst acc)) (hy : DenT K Hs H t y ft) (h1 : p ∉ f) (h2 : p ∉ ft) : DenT K Hs (upd H p (.lst (acc ++ [y]))) (.lst (pre ++ [t])) (.ref p) (p :: (f ++ ft)) := by
  obtain ⟨a, vs, fr, e1, e2, e3, e4⟩ := h
  cases e1
  cases e2
  rw [hH] at e3
  cases e3
  have m1 := e4.mono (H' := upd H p (.lst (acc ++ [y]))) (Same.refl _) fun a ha => upd_ne fun e => h1 (e ▸ ha)
  have m2 := hy.mono (H' := upd H p (.lst (acc ++ [y]))) (Same.refl _) fun a ha => upd_ne fun e => h2 (e ▸ ha)
  exact ⟨p, _, _, rfl, rfl, upd_same, m1.append ⟨y, [], ft, [], rfl, by simp, m2, rfl, rfl⟩⟩
theorem lc_go {K : PySem.W.Frag} {fi : Env' → Res (List D × Env')} {gt : D → Env' → Option Env'} {tt : Env' → Res (Bool × Env')} {ne : Env' → Res (T × Env')} {vs : List Nat} {σ : L2.St} {H : Hp} {Q : VK}
    (h : tFN K mg W (nLc fi gt tt ne vs) σ H Q) : tLc (tFI K mg W fi) (tFG K vs gt) (tFB K mg W0 tt) (tFN K mg W0 ne) vs σ H Q := by
  obtain ⟨G, ρ, ⟨Hs, fp, ok⟩, po⟩ := h
  refine goI ok po (fun _ _ h => h) id fun ds ρ1 J H1 Hs1 fp1 ok1 it po1 => ?_
  have ok1' := ok.back ok1
  simp only at po1
  split at po1
  · rename_i hlen
    intro Dl hD
    obtain ⟨fpw, sbw, okw⟩ := ok1'.wipe vs
    refine ⟨fun i m H => ∃ ρi Hsi fpi pre f acc, i + m = ds.length ∧ OkAt K G (L2.wipe σ vs) H ρi Hsi fpi ∧ Same Hs1 Hsi ∧ H Dl = some (.lst acc) ∧ DenT K Hsi H (.lst pre) (.ref Dl) (Dl :: f) ∧ (Dl :: f).Nodup ∧ (∀ a ∈ Dl :: f, Hsi a = none ∧ a ∉ fpi ∧ G.2 a = none) ∧
      acc.length ≤ i ∧ ρi.length = ρ1.length ∧ PoN K mg W G σ Q ((lcGo gt tt ne vs (ds.drop i) ρi).bind fun (ts, ρ2) => .ok (.lst (pre ++ ts), backE ρ1 ρ2 vs)),
      ⟨ds.length, wipeE ρ1 vs, Hs1, fpw, [], [], [], by omega, okw.ext (.out okw.sh hD), Same.refl _, upd_same, ⟨Dl, [], [], rfl, rfl, upd_same, rfl, rfl⟩, by simp, fun a ha => ?_, by simp, wipeE_length _ _, by simpa using po1⟩, ?_⟩
    · have e : a = Dl := by simpa using ha
      subst e
      refine ⟨okw.sh.free hD, fun hm => ?_, Same.free okw.frame hD⟩
      obtain ⟨o, eo⟩ := okw.env.there a hm
      rw [hD] at eo
      cases eo
    · rintro i m H5 ⟨ρi, Hsi, fpi, pre, f, acc, em, oki, sm, hacc, dt, nd, qs, hl, hρ, pi⟩
      have dl : acc.length = pre.length := by
        obtain ⟨a, vs', fr, e1, e2, e3, e4⟩ := dt
        cases e1
        rw [hacc] at e3
        cases e3
        exact e4.length
      by_cases hi : i < ds.length
      · obtain ⟨go, yl⟩ := (it i Hsi H5 sm oki.sh).1 hi
        refine .inr ⟨go, fun H' => _, fun H' h => ⟨m - 1, by omega, h⟩, fun x H6 hy => ?_⟩
        obtain ⟨Hs6, ex, dd⟩ := yl x H6 hy
        have dx := dd _ (List.getElem?_eq_getElem hi)
        have ok6 := oki.ext ex
        have dt6 : DenT K Hs6 H6 (.lst pre) (.ref Dl) (Dl :: f) := dt.mono ex.s fun a ha => by
          obtain ⟨o, eo⟩ := dt.there a ha
          rw [eo]; exact ex.keep a o eo
        have q6 : ∀ a ∈ Dl :: f, Hs6 a = none ∧ a ∉ fpi := fun a ha => by
          obtain ⟨o, eo⟩ := dt.there a ha
          exact ⟨ex.priv a (by rw [eo]; rfl) (qs a ha).1, (qs a ha).2.1⟩
        rw [List.drop_eq_getElem_cons hi, lcGo] at pi
        cases eg : gt ds[i] ρi with
        | none => rw [eg] at pi; exact pi.elim
        | some ρa =>
          rw [eg] at pi
          simp only [of_some, bind_ok] at pi
          refine ⟨_, ρi, Hs6, fpi, ds[i], ρa, ok6.self, dx, eg, fun σ2 H7 ⟨Hs7, fp7, ok7⟩ ew => ⟨by rw [ew, wipe_wipe], ?_⟩⟩
          have ew' : L2.wipe σ2 vs = L2.wipe σ vs := by rw [ew, wipe_wipe]
          obtain ⟨dt7, k7⟩ := held ok6 dt6 q6 ok7
          have b7 := ok6.back ok7
          have acc7 : H7 Dl = some (.lst acc) := by
            rw [(k7 Dl (by simp)).2.2.1, ← hacc]
            exact (ex.keep Dl _ hacc).trans hacc.symm
          have pi' : PoN K mg W G σ Q ((tt ρa).nx.bind fun x => (if x.1 = true then (ne x.2).nx.bind fun (t, ρ3) => (lcGo gt tt ne vs (ds.drop (i + 1)) (wipeE ρ3 vs)).bind fun (ts, ρ4) => .ok (t :: ts, ρ4) else lcGo gt tt ne vs (ds.drop (i + 1)) (wipeE x.2 vs)).bind fun (ts, ρ2) => .ok (.lst (pre ++ ts), backE ρ1 ρ2 vs)) := by
            cases et : tt ρa with
            | ok p => rw [et] at pi; exact pi
            | exc c r => rw [et] at pi; exact pi
            | bad => rw [et] at pi; exact pi
          refine goT0 b7 pi' id fun b ρb H8 Hs8 fp8 ok8 pb => ?_
          obtain ⟨dt8, k8⟩ := held b7 dt7 (fun a ha => ⟨(k7 a ha).1, (k7 a ha).2.1⟩) ok8
          have b8 := b7.back ok8
          have acc8 : H8 Dl = some (.lst acc) := by rw [(k8 Dl (by simp)).2.2.1, acc7]
          have sm8 : Same Hs1 Hs8 := (sm.trans ex.s).trans (ok7.base.trans ok8.base)
          cases b with
          | false =>
            simp only [Bool.false_eq_true, if_false] at pb ⊢
            obtain ⟨fp9, sb9, ok9⟩ := b8.wipe vs
            rw [ew'] at ok9
            refine ⟨wipeE ρb vs, Hs8, fp9, pre, f, acc, by omega, ok9, sm8, acc8, dt8, nd, fun a ha => ⟨(k8 a ha).1, fun hm => (k8 a ha).2.1 (sb9 a hm), (qs a ha).2.2⟩, by omega, ?_, pb⟩
            rw [wipeE_length]
            have z1 := b8.env.length
            have z2 := oki.env.length
            have z3 := congrArg List.length ew'
            rw [L2.wipe_length, L2.wipe_length] at z3
            rw [L2.wipe_length] at z2
            omega
          | true =>
            simp only [if_true] at pb ⊢
            have pb' : PoN K mg W G σ Q ((ne ρb).nx.bind fun x => ((lcGo gt tt ne vs (ds.drop (i + 1)) (wipeE x.2 vs)).bind fun (ts, ρ4) => .ok (x.1 :: ts, ρ4)).bind fun (ts, ρ2) => .ok (.lst (pre ++ ts), backE ρ1 ρ2 vs)) := by
              cases et : ne ρb with
              | ok p => rw [et] at pb; exact pb
              | exc c r => rw [et] at pb; exact pb
              | bad => rw [et] at pb; exact pb
            refine goN0 b8 pb' id fun t ρc y H9 Hs9 fp9 ft ok9 dy ndy qy pc => ?_
            obtain ⟨dt9, k9⟩ := held b8 dt8 (fun a ha => ⟨(k8 a ha).1, (k8 a ha).2.1⟩) ok9
            have b9 := b8.back ok9
            have acc9 : H9 Dl = some (.lst acc) := by rw [(k9 Dl (by simp)).2.2.1, acc8]
            refine ⟨acc, acc9, by omega, ?_⟩
            have dis : ∀ a ∈ Dl :: f, a ∉ ft := fun a ha hm => by
              have := (qy a hm).2.2
              have z := (k9 a ha).2.2.2
              rw [this] at z
              cases z
            have nd2 := List.nodup_cons.mp nd
            have dt10 := dt9.lst_upd acc9 dy nd2.1 (dis Dl (by simp))
            have ok10 : OkAt K G σ2 (upd H9 Dl (.lst (acc ++ [y]))) ρc Hs9 fp9 := b9.updOut (k9 Dl (by simp)).1 (k9 Dl (by simp)).2.1 (qs Dl (by simp)).2.2
            obtain ⟨fp11, sb11, ok11⟩ := ok10.wipe vs
            rw [ew'] at ok11
            refine ⟨wipeE ρc vs, Hs9, fp11, pre ++ [t], f ++ ft, acc ++ [y], by omega, ok11, sm8.trans ok9.base, upd_same, dt10, ?_, fun a ha => ?_, by simp; omega, ?_, ?_⟩
            · rw [List.nodup_cons, List.mem_append, List.nodup_append]
              exact ⟨fun hm => hm.elim nd2.1 (dis Dl (by simp)), nd2.2, ndy, fun a ha b hb e => dis a (by simp [ha]) (e ▸ hb)⟩
            · rw [List.mem_cons, List.mem_append] at ha
              have old : a ∈ Dl :: f → Hs9 a = none ∧ a ∉ fp11 ∧ G.2 a = none := fun ha => ⟨(k9 a ha).1, fun hm => (k9 a ha).2.1 (sb11 a hm), (qs a ha).2.2⟩
              rcases ha with h | h | h
              · exact old (by simp [h])
              · exact old (by simp [h])
              · exact ⟨(qy a h).1, fun hm => (qy a h).2.1 (sb11 a hm), rem_none b8 (qy a h).2.2⟩
            · rw [wipeE_length]
              have z1 := ok10.env.length
              have z2 := oki.env.length
              have z3 := congrArg List.length ew'
              rw [L2.wipe_length, L2.wipe_length] at z3
              rw [L2.wipe_length] at z2
              omega
            · have e2 : ∀ r : Res (List T × Env'), ((r.bind fun (ts, ρ4) => Res.ok (t :: ts, ρ4)).bind fun (ts, ρ2) => Res.ok (T.lst (pre ++ ts), backE ρ1 ρ2 vs)) = r.bind fun (ts, ρ2) => Res.ok (T.lst (pre ++ [t] ++ ts), backE ρ1 ρ2 vs) := by
                intro r
                cases r with
                | ok p => simp
                | exc c r => rfl
                | bad => rfl
              rw [← e2]
              exact pc
      · refine .inl ⟨(it i Hsi H5 sm oki.sh).2 (by omega), ?_⟩
        rw [List.drop_eq_nil_of_le (by omega), lcGo] at pi
        simp only [bind_ok, List.append_nil] at pi
        obtain ⟨fp', sb', okB, _⟩ := backE_ok (σ := σ) ok1' sm vs oki hρ.symm
        rw [unwipe] at okB
        exact pi _ _ Hsi fp' (Dl :: f) okB dt nd fun a ha => ⟨(qs a ha).1, fun hm => (qs a ha).2.1 (sb' a hm), (qs a ha).2.2⟩
  · exact po1.elim
end
end FL

namespace FL
open PySem PySem.Spec PyProof.Rows L2

section
variable {X : Cx} {mg : Str → Option Value} {W : WX} {a b c : Expr} {fa fb fc : Env' → Res (RV × Env')} {na nb : Env' → Res (T × Env')} {ta : Env' → Res (Bool × Env')} {pos : Pos}
/-- a list comprehension -/
theorem fn_lc {elt tg iter : Expr} {ifs : List Expr} {scope : Scope} {own : List (Str × Nat)} {fi : Env' → Res (List D × Env')} {gt : D → Env' → Option Env'} {tt : Env' → Res (Bool × Env')} {ne : Env' → Res (T × Env')} (hc : X.calm = true) (hN : X.N.Nodup) (hi : PI X tg iter (tFI X.K mg W fi)) (ok : BlkOk X.N X.env.scope scope own)
    (hg : ∀ (s : Shared) (H : Hp) (C : Addr) (cl : List (Str × Addr)) (fp : List Addr), PG (X.blk s H scope (compEnvC scope cl C X.env) fp) tg (tFG X.K (own.map (·.2)) gt)) (ht : ∀ (s : Shared) (H : Hp) (C : Addr) (cl : List (Str × Addr)) (fp : List Addr), PTs (X.blk s H scope (compEnvC scope cl C X.env) fp) ifs (tFB X.K mg W0 tt))
    (he : ∀ (s : Shared) (H : Hp) (C : Addr) (cl : List (Str × Addr)) (fp : List Addr), PE (X.blk s H scope (compEnvC scope cl C X.env) fp) elt (tFN X.K mg W0 ne)) (hs : ∀ x, foldedSetIterable iter X.env x = pure x := by intro _; rfl) :
    PE X (.ListComp elt [⟨tg, iter, ifs, 0⟩] scope pos) (tFN X.K mg W (nLc fi gt tt ne (own.map (·.2)))) := (pe_lc hc hN hi ok hg ht he hs).imp fun σ H Q h => lc_go h
noncomputable def ttYes : Env' → Res (Bool × Env') := fun ρ => .ok (true, ρ)
theorem fts_nil : PTs X [] (tFB X.K mg W ttYes) := ⟨fun pins s σ H Q I ⟨G, ρ, ok, po⟩ => pts_nil.run pins s σ H Q I (po H ok)⟩
theorem fts_one (h : PT X c (tFB X.K mg W ta)) : PTs X [c] (tFB X.K mg W ta) := pts_one h

/-! ### statements -/
inductive Fl where
  | nx (ρ : Env') | rt (t : T) (ρ : Env') | bk (ρ : Env') | ct (ρ : Env')
noncomputable def PoS (K : PySem.W.Frag) (mg : Str → Option Value) (W : WX) (G : Gh) (D : Ends) : Res Fl → Prop
  | .ok (.nx ρ') => ∀ σ' H', Ok K G σ' H' ρ' → D.nx σ' H'
  | .ok (.rt t ρ') => ∀ v σ' H' Hs fp ft, OkAt K G σ' H' ρ' Hs fp → DenT K Hs H' t v ft → ft.Nodup → (∀ a ∈ ft, Hs a = none ∧ a ∉ fp ∧ G.2 a = none) → D.rt v H'
  | .ok (.bk ρ') => ∀ σ' H', Ok K G σ' H' ρ' → D.bk σ' H'
  | .ok (.ct ρ') => ∀ σ' H', Ok K G σ' H' ρ' → D.ct σ' H'
  | .exc c ρ' => ∀ σ' H' C, mg c = some (.ref C) → Ok K G σ' H' ρ' → W (.ref C) none σ' H'
  | .bad => False
noncomputable def tFS (K : PySem.W.Frag) (mg : Str → Option Value) (W : WX) (f : Env' → Res Fl) : TS := fun D σ H => ∃ G ρ, Ok K G σ H ρ ∧ PoS K mg W G D (f ρ)
noncomputable def sNil : Env' → Res Fl := fun ρ => .ok (.nx ρ)
noncomputable def sSeq (f g : Env' → Res Fl) : Env' → Res Fl := fun ρ => (f ρ).bind fun r => match r with
  | .nx ρ' => g ρ'
  | r => .ok r
theorem fss_nil : PSs X [] (tFS X.K mg W sNil) := pss_nil.imp fun D σ H ⟨G, ρ, ok, po⟩ => po σ H ok
theorem fss_cons {st : Stmt} {rest : List Stmt} {f g : Env' → Res Fl} (h1 : PS X st (tFS X.K mg W f)) (h2 : PSs X rest (tFS X.K mg W g)) : PSs X (st :: rest) (tFS X.K mg W (sSeq f g)) := by
  refine (pss_cons h1 h2).imp fun D σ H ⟨G, ρ, ok, po⟩ => ?_
  obtain ⟨Hs, fp, ok⟩ := ok
  refine ⟨(Hs, rem H fp), ρ, ⟨Hs, fp, ok.self⟩, ?_⟩
  unfold sSeq at po
  cases e : f ρ with
  | ok r =>
    rw [e] at po
    cases r with
    | nx ρ' => exact fun σ' H' o => ⟨G, ρ', Ok.back ok o, po⟩
    | rt t ρ' => exact fun v σ' H' Hs' fp' ft o d n q => po v σ' H' Hs' fp' ft (ok.back o) d n fun a ha => ⟨(q a ha).1, (q a ha).2.1, rem_none ok (q a ha).2.2⟩
    | bk ρ' => exact fun σ' H' o => po σ' H' (Ok.back ok o)
    | ct ρ' => exact fun σ' H' o => po σ' H' (Ok.back ok o)
  | exc c ρ' =>
    rw [e] at po
    exact fun σ' H' C hc o => po σ' H' C hc (Ok.back ok o)
  | bad => rw [e] at po; exact po
theorem fss_one {st : Stmt} {f : Env' → Res Fl} (h1 : PS X st (tFS X.K mg W f)) : PSs X [st] (tFS X.K mg W f) := pss_one h1
noncomputable def sExpr (fa : Env' → Res (RV × Env')) : Env' → Res Fl := fun ρ => (fa ρ).bind fun (_, ρ1) => .ok (.nx ρ1)
theorem fs_expr (he : PE X a (tFO X.K mg W fa)) (hs : swapsWith a none pos.line X.env = pure false := by rfl) : PS X (.Expr a pos) (tFS X.K mg W (sExpr fa)) :=
  (ps_expr he hs).imp fun D σ H ⟨G, ρ, ⟨Hs, fp, ok⟩, po⟩ => goE (P := PoS X.K mg W G D) ok po (fun c ρ' h => h σ) id fun r1 ρ1 x H1 Hs1 fp1 ok1 dx po1 => po1 σ H1 ⟨Hs1, fp1, ok.back ok1⟩
noncomputable def sSet (i : Nat) (na : Env' → Res (T × Env')) : Env' → Res Fl := fun ρ => (na ρ).bind fun (t, ρ1) => if i < ρ1.length then .ok (.nx (ρ1.set i (some t))) else .bad
theorem set_go {i : Nat} {D : Ends} {σ : L2.St} {H : Hp} (h : tFS X.K mg W (sSet i na) D σ H) : tFN X.K mg W na σ H fun x H1 => D.nx (σ.set i (some x)) H1 := by
  obtain ⟨G, ρ, ⟨Hs, fp, ok⟩, po⟩ := h
  refine goN (P := PoS X.K mg W G D) ok po (fun c ρ' h => h σ) id fun t ρ1 x H1 Hs1 fp1 ft ok1 dt nd q po1 => ?_
  simp only at po1
  split at po1
  · rename_i hl
    exact po1 _ _ ((ok.back ok1).put hl dt nd fun a ha => ⟨(q a ha).1, (q a ha).2.1, rem_none ok (q a ha).2.2⟩)
  · exact po1.elim
theorem fs_set {i : Nat} {x : Str} {pos' : Pos} (hN : X.N.Nodup) (hi : X.N[i]? = some x) (hx : Loc X.env.scope x) (he : PE X a (tFN X.K mg W na)) (hs : swapsWith a (some (.Name x pos')) pos.line X.env = pure false := by rfl) (hf : X.fn x = true ∨ X.env.scope.names.lookup x = some .local := by first | exact .inl rfl | exact .inr rfl | assumption) :
    PS X (.Assign [.Name x pos'] a pos) (tFS X.K mg W (sSet i na)) := (ps_set hN hi hx he hs hf).imp fun D σ H h => set_go h
theorem fs_setLc {i : Nat} {y : Str} {py : Pos} {elt tg iter : Expr} {ifs : List Expr} {scope : Scope} {own : List (Str × Nat)} {pos spos : Pos} {fi : Env' → Res (List D × Env')} {gt : D → Env' → Option Env'} {tt : Env' → Res (Bool × Env')} {ne : Env' → Res (T × Env')} (hc : X.calm = true) (hN : X.N.Nodup) (hy : X.N[i]? = some y) (hyl : X.env.scope.names.lookup y = some .local)
    (hsw : swapsWith (.ListComp elt [⟨tg, iter, ifs, 0⟩] scope pos) (some (.Name y py)) spos.line X.env = pure true) (hi : PI X tg iter (tFI X.K mg W fi)) (ok : BlkOk X.N X.env.scope scope own)
    (hg : ∀ (s : Shared) (H : Hp) (C : Addr) (cl : List (Str × Addr)) (fp : List Addr), PG (X.blk s H scope (compEnvC scope cl C X.env) fp) tg (tFG X.K (own.map (·.2)) gt)) (ht : ∀ (s : Shared) (H : Hp) (C : Addr) (cl : List (Str × Addr)) (fp : List Addr), PTs (X.blk s H scope (compEnvC scope cl C X.env) fp) ifs (tFB X.K mg W0 tt))
    (he : ∀ (s : Shared) (H : Hp) (C : Addr) (cl : List (Str × Addr)) (fp : List Addr), PE (X.blk s H scope (compEnvC scope cl C X.env) fp) elt (tFN X.K mg W0 ne)) (hs : ∀ x, foldedSetIterable iter X.env x = pure x := by intro _; rfl) :
    PS X (.Assign [.Name y py] (.ListComp elt [⟨tg, iter, ifs, 0⟩] scope pos) spos) (tFS X.K mg W (sSet i (nLc fi gt tt ne (own.map (·.2))))) :=
  (ps_setLc hc hN hy hyl hsw hi ok hg ht he hs).imp fun D σ H h => by
    have := set_go h
    obtain ⟨G, ρ, ok, po⟩ := this
    exact lc_go ⟨G, ρ, ok, po⟩
noncomputable def sRet (na : Env' → Res (T × Env')) : Env' → Res Fl := fun ρ => (na ρ).bind fun (t, ρ1) => .ok (.rt t ρ1)
theorem fs_ret (he : PE X a (tFN X.K mg W na)) : PS X (.Return (some a) pos) (tFS X.K mg W (sRet na)) :=
  (ps_ret he).imp fun D σ H ⟨G, ρ, ⟨Hs, fp, ok⟩, po⟩ => goN (P := PoS X.K mg W G D) ok po (fun c ρ' h => h σ) id fun t ρ1 x H1 Hs1 fp1 ft ok1 dt nd q po1 =>
    po1 x σ H1 Hs1 fp1 ft (ok.back ok1) dt nd fun a ha => ⟨(q a ha).1, (q a ha).2.1, rem_none ok (q a ha).2.2⟩
noncomputable def sRetN : Env' → Res Fl := fun ρ => .ok (.rt (.sh .non) ρ)
theorem fs_retN : PS X (.Return none pos) (tFS X.K mg W sRetN) := ps_retN.imp fun D σ H ⟨G, ρ, ⟨Hs, fp, ok⟩, po⟩ => po .non σ H Hs fp [] ok ⟨rfl, rfl⟩ (by simp) (fun _ h => by cases h)
/-- return x, x a tree of one's own: it goes out as it is -/
noncomputable def sRetOwn (i : Nat) : Env' → Res Fl := fun ρ => match ρ[i]? with
  | some (some t) => .ok (.rt t (ρ.set i none))
  | _ => .bad
theorem fs_retOwn (i : Nat) {x : Str} {p : Pos} (hN : X.N[i]? = some x := by rfl) (hv : Vis X.env.scope x := by first | exact Or.inl rfl | exact Or.inr (Or.inl rfl) | exact Or.inr (Or.inr rfl)) (hd : (x == ("__debug__" : Str)) = false := by decide)
    (hcd : (x == ("__classdict__" : Str)) = false := by decide) : PS X (.Return (some (.Name x p)) pos) (tFS X.K mg W (sRetOwn i)) := by
  refine (ps_ret (pe_var hN hv hd hcd)).imp fun D σ H ⟨G, ρ, ⟨Hs, fp, ok⟩, po⟩ => ?_
  unfold sRetOwn at po
  split at po
  · rename_i t hi
    obtain ⟨v, f1, f2, f3, h1, h2, h3, _, h5⟩ := ok.env.at hi
    have env := h5 Hs H (Same.refl _) (fun _ _ => rfl) none
    have nd := ok.nd
    rw [h2, List.nodup_append] at nd
    obtain ⟨n1, n2, n3⟩ := nd
    rw [List.nodup_append] at n2
    refine ⟨v, h1, po v (σ.set i none) H Hs (f1 ++ f3) f2 ⟨ok.sh, ok.base, ok.frame, fun a p1 p2 => ?_, fun a ha => ok.disj a ?_, ?_, env⟩ h3 n2.1 fun a ha => ?_⟩
    · obtain ⟨q1, q2⟩ := ok.priv a p1 p2
      rw [h2] at q2
      simp only [List.mem_append, not_or] at q2 ⊢
      exact ⟨q1, q2.1, q2.2.2⟩
    · rw [h2]
      simp only [List.mem_append] at ha ⊢
      rcases ha with h | h
      · exact .inl h
      · exact .inr (.inr h)
    · rw [List.nodup_append]
      exact ⟨n1, n2.2.1, fun a ha b hb => n3 a ha b (List.mem_append_right _ hb)⟩
    · refine ⟨ok.disj a (by rw [h2]; simp [ha]), fun hm => ?_, ?_⟩
      · rcases List.mem_append.mp hm with h | h
        · exact n3 a h a (List.mem_append_left _ ha) rfl
        · exact n2.2.2 a ha a h rfl
      · refine rem_none ok ?_
        simp [rem, h2, ha]
  · exact po.elim
noncomputable def sIf (ta : Env' → Res (Bool × Env')) (f g : Env' → Res Fl) : Env' → Res Fl := fun ρ => (ta ρ).bind fun (b, ρ1) => if b = true then f ρ1 else g ρ1
theorem fs_if {sa sb : List Stmt} {f g : Env' → Res Fl} (hc : PT X c (tFB X.K mg W ta)) (ha : PSs X sa (tFS X.K mg W f)) (hb : PSs X sb (tFS X.K mg W g)) : PS X (.If c sa sb pos) (tFS X.K mg W (sIf ta f g)) := by
  refine (ps_if hc ha hb).imp fun D σ H ⟨G, ρ, ⟨Hs, fp, ok⟩, po⟩ => ?_
  refine goT (P := PoS X.K mg W G D) ok po (fun c ρ' h => h σ) id fun b ρ1 H1 Hs1 fp1 ok1 po1 => ?_
  have ok1' := ok.back ok1
  cases b with
  | true => exact iteT ⟨G, ρ1, ⟨Hs1, fp1, ok1'⟩, po1⟩
  | false => exact iteF ⟨G, ρ1, ⟨Hs1, fp1, ok1'⟩, po1⟩
noncomputable def sBk : Env' → Res Fl := fun ρ => .ok (.bk ρ)
noncomputable def sCt : Env' → Res Fl := fun ρ => .ok (.ct ρ)
theorem fs_pass : PS X (.Pass pos) (tFS X.K mg W sNil) := ps_pass.imp fun D σ H ⟨G, ρ, ok, po⟩ => po σ H ok
theorem fs_break : PS X (.Break pos) (tFS X.K mg W sBk) := ps_break.imp fun D σ H ⟨G, ρ, ok, po⟩ => po σ H ok
theorem fs_continue : PS X (.Continue pos) (tFS X.K mg W sCt) := ps_continue.imp fun D σ H ⟨G, ρ, ok, po⟩ => po σ H ok

/-! loops -/
noncomputable def forGo (gt : D → Env' → Option Env') (f : Env' → Res Fl) : List D → Env' → Res Fl
  | [], ρ => .ok (.nx ρ)
  | d :: ds, ρ => (Res.of (gt d ρ)).bind fun ρ1 => (f ρ1).bind fun r => match r with
    | .nx ρ' => forGo gt f ds ρ'
    | .ct ρ' => forGo gt f ds ρ'
    | .bk ρ' => .ok (.nx ρ')
    | .rt t ρ' => .ok (.rt t ρ')
noncomputable def sFor (fi : Env' → Res (List D × Env')) (gt : D → Env' → Option Env') (f : Env' → Res Fl) : Env' → Res Fl := fun ρ => (fi ρ).bind fun (ds, ρ1) => forGo gt f ds ρ1
theorem fs_for {tg iter : Expr} {body : List Stmt} {vs : List Nat} {fi : Env' → Res (List D × Env')} {gt : D → Env' → Option Env'} {f : Env' → Res Fl} (hp : PassesOwn (model X.prog X.w) X.A X.env X.xe) (hc : X.calm = true) (hi : PI X tg iter (tFI X.K mg W fi)) (hg : PG X tg (tFG X.K vs gt)) (hb : PSs X body (tFS X.K mg W f))
    (hs : ∀ x, foldedSetIterable iter X.env x = pure x := by intro _; rfl) : PS X (.For tg iter body [] pos) (tFS X.K mg W (sFor fi gt f)) := by
  refine (ps_for hp hc hi hg hb hs).imp fun D σ H ⟨G, ρ, ⟨Hs, fp, ok⟩, po⟩ => ?_
  refine goI (P := PoS X.K mg W G D) ok po (fun c ρ' h => h σ) id fun ds ρ1 J H1 Hs1 fp1 ok1 it po1 => ?_
  have ok1' := ok.back ok1
  refine ⟨fun i m σ H => ∃ ρi Hsi fpi, i + m = ds.length ∧ OkAt X.K G σ H ρi Hsi fpi ∧ Same Hs1 Hsi ∧ PoS X.K mg W G D (forGo gt f (ds.drop i) ρi), ⟨ds.length, ρ1, Hs1, fp1, by omega, ok1', Same.refl _, po1⟩, ?_⟩
  rintro i m σ5 H5 ⟨ρi, Hsi, fpi, em, oki, sm, pi⟩
  by_cases hi : i < ds.length
  · obtain ⟨go, yl⟩ := (it i Hsi H5 sm oki.sh).1 hi
    refine .inr ⟨go, fun σ' H' => ∃ ρi Hsi fpi, i + 1 + (m - 1) = ds.length ∧ OkAt X.K G σ' H' ρi Hsi fpi ∧ Same Hs1 Hsi ∧ PoS X.K mg W G D (forGo gt f (ds.drop (i + 1)) ρi), fun σ' H' h => ⟨m - 1, by omega, h⟩, fun x H6 hy => ?_⟩
    obtain ⟨Hs6, ex, dd⟩ := yl x H6 hy
    have dx := dd _ (List.getElem?_eq_getElem hi)
    have ok6 := oki.ext ex
    rw [List.drop_eq_getElem_cons hi, forGo] at pi
    cases eg : gt ds[i] ρi with
    | none => rw [eg] at pi; exact pi.elim
    | some ρa =>
      rw [eg] at pi
      simp only [of_some, bind_ok] at pi
      refine ⟨_, ρi, Hs6, fpi, ds[i], ρa, ok6.self, dx, eg, fun σ2 H7 ⟨Hs7, fp7, ok7⟩ _ => ?_⟩
      have b7 := ok6.back ok7
      have sm7 : Same Hs1 Hs7 := (sm.trans ex.s).trans ok7.base
      refine ⟨_, ρa, ⟨Hs7, fp7, b7.self⟩, ?_⟩
      cases e : f ρa with
      | ok r =>
        rw [e] at pi
        cases r with
        | nx ρ' => exact fun σ' H' ⟨Hs8, fp8, o⟩ => ⟨ρ', Hs8, fp8, by omega, b7.back o, sm7.trans o.base, pi⟩
        | rt t ρ' => exact fun v σ' H' Hs' fp' ft o d n q => pi v σ' H' Hs' fp' ft (b7.back o) d n fun a ha => ⟨(q a ha).1, (q a ha).2.1, rem_none b7 (q a ha).2.2⟩
        | bk ρ' => exact fun σ' H' o => pi σ' H' (Ok.back b7 o)
        | ct ρ' => exact fun σ' H' ⟨Hs8, fp8, o⟩ => ⟨ρ', Hs8, fp8, by omega, b7.back o, sm7.trans o.base, pi⟩
      | exc c ρ' =>
        rw [e] at pi
        exact fun σ' H' C hc o => pi σ' H' C hc (Ok.back b7 o)
      | bad => rw [e] at pi; exact pi
  · refine .inl ⟨(it i Hsi H5 sm oki.sh).2 (by omega), ?_⟩
    rw [List.drop_eq_nil_of_le (by omega), forGo] at pi
    exact pi σ5 H5 ⟨Hsi, fpi, oki⟩
/-- a while, so many turns at most -/
noncomputable def whGo (ta : Env' → Res (Bool × Env')) (f : Env' → Res Fl) : Nat → Env' → Res Fl
  | 0, _ => .bad
  | n + 1, ρ => (ta ρ).bind fun (b, ρ1) => if b = true then (f ρ1).bind fun r => match r with
    | .nx ρ' => whGo ta f n ρ'
    | .ct ρ' => whGo ta f n ρ'
    | .bk ρ' => .ok (.nx ρ')
    | .rt t ρ' => .ok (.rt t ρ')
    else .ok (.nx ρ1)
/-- a while: the first number of turns with which it comes to an end -/
noncomputable def sWhile (ta : Env' → Res (Bool × Env')) (f : Env' → Res Fl) : Env' → Res Fl := fun ρ =>
  open Classical in if h : ∃ n, whGo ta f n ρ ≠ .bad then whGo ta f h.choose ρ else .bad
theorem fs_while {c : Expr} {body : List Stmt} {f : Env' → Res Fl} (hp : PassesOwn (model X.prog X.w) X.A X.env X.xe) (hc : PT X c (tFB X.K mg W ta)) (hb : PSs X body (tFS X.K mg W f)) : PS X (.While c body [] pos) (tFS X.K mg W (sWhile ta f)) := by
  refine (ps_while hp hc hb).imp fun D σ H ⟨G, ρ, ⟨Hs, fp, ok⟩, po⟩ => ?_
  unfold sWhile at po
  split at po
  · rename_i h
    generalize h.choose = n at po
    refine ⟨fun m σ H => ∃ ρi Hsi fpi, OkAt X.K G σ H ρi Hsi fpi ∧ PoS X.K mg W G D (whGo ta f m ρi), ⟨n, ρ, Hs, fp, ok, po⟩, ?_⟩
    rintro m σ5 H5 ⟨ρi, Hsi, fpi, oki, pi⟩
    cases m with
    | zero => exact pi.elim
    | succ m =>
      rw [whGo] at pi
      refine goT (P := PoS X.K mg W G D) oki pi (fun c ρ' h => h σ5) id fun b ρ1 H1 Hs1 fp1 ok1 po1 => ?_
      have b7 := oki.back ok1
      cases b with
      | true =>
        refine iteT ⟨fun σ' H' => ∃ ρi Hsi fpi, OkAt X.K G σ' H' ρi Hsi fpi ∧ PoS X.K mg W G D (whGo ta f m ρi), fun σ' H' h => ⟨m, by omega, h⟩, ?_⟩
        simp only [if_true] at po1
        refine ⟨_, ρ1, ⟨Hs1, fp1, b7.self⟩, ?_⟩
        cases e : f ρ1 with
        | ok r =>
          rw [e] at po1
          cases r with
          | nx ρ' => exact fun σ' H' ⟨Hs8, fp8, o⟩ => ⟨ρ', Hs8, fp8, b7.back o, po1⟩
          | rt t ρ' => exact fun v σ' H' Hs' fp' ft o d n q => po1 v σ' H' Hs' fp' ft (b7.back o) d n fun a ha => ⟨(q a ha).1, (q a ha).2.1, rem_none b7 (q a ha).2.2⟩
          | bk ρ' => exact fun σ' H' o => po1 σ' H' (Ok.back b7 o)
          | ct ρ' => exact fun σ' H' ⟨Hs8, fp8, o⟩ => ⟨ρ', Hs8, fp8, b7.back o, po1⟩
        | exc c ρ' =>
          rw [e] at po1
          exact fun σ' H' C hc o => po1 σ' H' C hc (Ok.back b7 o)
        | bad => rw [e] at po1; exact po1
      | false =>
        simp only [Bool.false_eq_true, if_false] at po1 ⊢
        exact po1 _ _ ⟨Hs1, fp1, b7⟩
  · exact po.elim
theorem whGo_mono (ta : Env' → Res (Bool × Env')) (f : Env' → Res Fl) : ∀ (n : Nat) (ρ : Env'), whGo ta f n ρ ≠ .bad → whGo ta f (n + 1) ρ = whGo ta f n ρ
  | 0, ρ, h => absurd rfl h
  | n + 1, ρ, h => by
    rw [whGo] at h ⊢
    conv => rhs; rw [whGo]
    cases e : ta ρ with
    | ok p =>
      obtain ⟨b, ρ1⟩ := p
      rw [e] at h
      cases b with
      | false => rfl
      | true =>
        simp only [bind_ok, if_true] at h ⊢
        cases e2 : f ρ1 with
        | ok r =>
          rw [e2] at h
          cases r with
          | nx ρ' => exact whGo_mono ta f n ρ' h
          | ct ρ' => exact whGo_mono ta f n ρ' h
          | bk ρ' => rfl
          | rt t ρ' => rfl
        | exc c ρ' => rfl
        | bad => rfl
    | exc c ρ' => rfl
    | bad => rfl
theorem whGo_le (ta : Env' → Res (Bool × Env')) (f : Env' → Res Fl) (ρ : Env') (n : Nat) (h : whGo ta f n ρ ≠ .bad) : ∀ k, whGo ta f (n + k) ρ = whGo ta f n ρ
  | 0 => rfl
  | k + 1 => by
    have ih := whGo_le ta f ρ n h k
    rw [← ih]
    exact whGo_mono ta f (n + k) ρ (by rw [ih]; exact h)
theorem sWhile_eq {ta : Env' → Res (Bool × Env')} {f : Env' → Res Fl} {ρ : Env'} {n : Nat} (h : whGo ta f n ρ ≠ .bad) : sWhile ta f ρ = whGo ta f n ρ := by
  have hx : ∃ n, whGo ta f n ρ ≠ .bad := ⟨n, h⟩
  unfold sWhile
  rw [dif_pos hx]
  have h2 := hx.choose_spec
  generalize hx.choose = m at h2
  rcases Nat.le_total m n with q | q
  · obtain ⟨k, rfl⟩ := Nat.exists_eq_add_of_le q
    exact (whGo_le ta f ρ m h2 k).symm
  · obtain ⟨k, rfl⟩ := Nat.exists_eq_add_of_le q
    exact whGo_le ta f ρ n h k
/-- one turn of a while -/
theorem sWhile_step (ta : Env' → Res (Bool × Env')) (f : Env' → Res Fl) (ρ : Env') : sWhile ta f ρ = (ta ρ).bind fun (b, ρ1) => if b = true then (f ρ1).bind fun r => match r with
    | .nx ρ' => sWhile ta f ρ'
    | .ct ρ' => sWhile ta f ρ'
    | .bk ρ' => .ok (.nx ρ')
    | .rt t ρ' => .ok (.rt t ρ')
    else .ok (.nx ρ1) := by
  have key : ∀ ρ', (∀ n, whGo ta f n ρ' = .bad) → sWhile ta f ρ' = .bad := fun ρ' h => by
    unfold sWhile
    rw [dif_neg (by rintro ⟨n, q⟩; exact q (h n))]
  cases e : ta ρ with
  | ok p =>
    obtain ⟨b, ρ1⟩ := p
    cases b with
    | false =>
      rw [sWhile_eq (n := 1) (by rw [whGo, e]; simp)]
      rw [whGo, e]
      simp
    | true =>
      simp only [bind_ok, if_true]
      cases e2 : f ρ1 with
      | ok r =>
        have go : ∀ ρ', (r = .nx ρ' ∨ r = .ct ρ') → sWhile ta f ρ = sWhile ta f ρ' := fun ρ' hr => by
          by_cases h : ∃ n, whGo ta f n ρ' ≠ .bad
          · obtain ⟨n, hn⟩ := h
            have e3 : whGo ta f (n + 1) ρ = whGo ta f n ρ' := by
              rw [whGo, e]
              simp only [bind_ok, if_true, e2]
              rcases hr with rfl | rfl <;> rfl
            rw [sWhile_eq hn, sWhile_eq (n := n + 1) (by rw [e3]; exact hn), e3]
          · have h' : ∀ n, whGo ta f n ρ' = .bad := fun n => Classical.byContradiction fun q => h ⟨n, q⟩
            rw [key ρ' h', key ρ fun n => by
              cases n with
              | zero => rfl
              | succ n =>
                rw [whGo, e]
                simp only [bind_ok, if_true, e2]
                rcases hr with rfl | rfl <;> exact h' n]
        cases r with
        | nx ρ' => exact go ρ' (.inl rfl)
        | ct ρ' => exact go ρ' (.inr rfl)
        | bk ρ' =>
          rw [sWhile_eq (n := 1) (by rw [whGo, e]; simp [e2]), whGo, e]
          simp [e2]
        | rt t ρ' =>
          rw [sWhile_eq (n := 1) (by rw [whGo, e]; simp [e2]), whGo, e]
          simp [e2]
      | exc c ρ' =>
        rw [sWhile_eq (n := 1) (by rw [whGo, e]; simp [e2]), whGo, e]
        simp [e2]
      | bad =>
        rw [key ρ fun n => by
          cases n with
          | zero => rfl
          | succ n => rw [whGo, e]; simp [e2]]
        rfl
  | exc c ρ' =>
    rw [sWhile_eq (n := 1) (by rw [whGo, e]; simp), whGo, e]
    simp
  | bad =>
    rw [key ρ fun n => by
      cases n with
      | zero => rfl
      | succ n => rw [whGo, e]; simp]
    rfl

/-! unpacking -/
noncomputable def sUnpack (fa : Env' → Res (RV × Env')) (gt : D → Env' → Option Env') : Env' → Res Fl := fun ρ => (fa ρ).bind fun (r, ρ1) => (Res.of (esc ρ1 r)).bind fun (d, ρ2) => (Res.of (gt d ρ2)).bind fun ρ3 => .ok (.nx ρ3)
theorem fs_unpack {tg : Expr} {vs : List Nat} {gt : D → Env' → Option Env'} (he : PE X a (tFO X.K mg W fa)) (hg : PG X tg (tFG X.K vs gt)) (hs : swapsWithSole [tg] a pos.line X.env = pure false := by rfl) (hw : swappedStores [tg] a X.env = pure none := by rfl)
    (h1 : (assignEach [tg] X.env).map (·.2) = [assign tg X.env] := by rfl) : PS X (.Assign [tg] a pos) (tFS X.K mg W (sUnpack fa gt)) := by
  refine (ps_asg he hg hs hw h1).imp fun D σ H ⟨G, ρ, ⟨Hs, fp, ok⟩, po⟩ => ?_
  refine goE (P := PoS X.K mg W G D) ok po (fun c ρ' h => h σ) id fun r1 ρ1 x H1 Hs1 fp1 ok1 dx po1 => ?_
  have ok1' := ok.back ok1
  cases e1 : esc ρ1 r1 with
  | none => simp only [e1] at po1; exact po1.elim
  | some p =>
    obtain ⟨d, ρ2⟩ := p
    simp only [e1, of_some, bind_ok] at po1
    obtain ⟨Hs1', fp1', okE, sE, dE⟩ := esc_den ok1' dx e1
    cases e2 : gt d ρ2 with
    | none => simp only [e2] at po1; exact po1.elim
    | some ρ3 =>
      simp only [e2, of_some, bind_ok] at po1
      exact ⟨G, ρ2, Hs1', fp1', d, ρ3, okE, dE, e2, fun σ' H' o _ => po1 σ' H' o⟩
noncomputable def sPar (i j : Nat) (fs : Env' → Res (List RV × Env')) : Env' → Res Fl := fun ρ => (fs ρ).bind fun (rs, ρ1) => match rs with
  | [.leaf d, .leaf e] => if i < ρ1.length ∧ j < ρ1.length then .ok (.nx ((ρ1.set i (some (.sh d))).set j (some (.sh e)))) else .bad
  | _ => .bad
theorem fs_par {i j : Nat} {x y : Str} {fs : Env' → Res (List RV × Env')} {px py pt : Pos} {kt k2 pt2} (hc : X.calm = true) (hN : X.N.Nodup) (hi : X.N[i]? = some x) (hj : X.N[j]? = some y) (hij : i ≠ j)
    (hx : X.env.scope.names.lookup x = some .local) (hy : X.env.scope.names.lookup y = some .local) (ha : PA X [a, b] (tFA X.K mg W fs))
    (hw : swappedStores [.Tuple [.Name x px, .Name y py] kt pt] (.Tuple [a, b] k2 pt2) X.env = pure (some [x, y]))
    (hs : swapsWithSole [.Tuple [.Name x px, .Name y py] kt pt] (.Tuple [a, b] k2 pt2) pos.line X.env = pure false := by rfl) :
    PS X (.Assign [.Tuple [.Name x px, .Name y py] kt pt] (.Tuple [a, b] k2 pt2) pos) (tFS X.K mg W (sPar i j fs)) := by
  refine (ps_par hc hN hi hj hij hx hy ha hw hs).imp fun D σ H ⟨G, ρ, ⟨Hs, fp, ok⟩, po⟩ => ?_
  refine goA (P := PoS X.K mg W G D) ok po (fun c ρ' h => h σ) id fun rs ρ1 xs H1 Hs1 fp1 ok1 dx po1 => ?_
  have ok1' := ok.back ok1
  simp only at po1
  split at po1
  · split at po1
    · rename_i d e c
      obtain ⟨v, ws, rfl, d1, w, us, rfl, d2, rfl⟩ := dx
      refine ⟨v, w, rfl, ?_⟩
      have k1 := ok1'.put c.1 (t := .sh d) (f := []) ⟨rfl, d1⟩ (by simp) (fun _ h => by cases h)
      -- the second, over the same shared heap
      obtain ⟨f1, f2, f3, e1, env⟩ := ok1'.env.put c.1 (t := .sh d) (f := []) ⟨rfl, d1⟩
      have okm : OkAt X.K G (σ.set i (some v)) H1 (ρ1.set i (some (.sh d))) Hs1 (f1 ++ ([] ++ f3)) := by
        refine ⟨ok1'.sh, ok1'.base, ok1'.frame, fun a p1 p2 => ?_, fun a ha => ok1'.disj a ?_, ?_, env⟩
        · obtain ⟨q1, q2⟩ := ok1'.priv a p1 p2
          rw [e1] at q2
          simp only [List.mem_append, not_or] at q2 ⊢
          exact ⟨q1, q2.1, by simp, q2.2.2⟩
        · rw [e1]
          simp only [List.mem_append] at ha ⊢
          rcases ha with h | h | h
          · exact .inl h
          · cases h
          · exact .inr (.inr h)
        · have nfp := ok1'.nd
          rw [e1, List.nodup_append] at nfp
          obtain ⟨n1, n2, n3⟩ := nfp
          rw [List.nodup_append] at n2
          rw [List.nil_append, List.nodup_append]
          exact ⟨n1, n2.2.1, fun a ha b hb => n3 a ha b (List.mem_append_right _ hb)⟩
      exact po1 _ _ (okm.put (by rw [List.length_set]; exact c.2) (t := .sh e) (f := []) ⟨rfl, d2⟩ (by simp) (fun _ h => by cases h))
    · exact po1.elim
  · exact po1.elim

/-! x op= e -/
noncomputable def IpD (X : Cx) (op : Operator) (g : D → D → Option D) : Prop :=
  PIp X op fun x y H Q => ∃ Hs d1 d2 d, Same Hs H ∧ Den1 X.K Hs H d1 x ∧ Den1 X.K Hs H d2 y ∧ g d1 d2 = some d ∧ ∀ v Hs' H', Ext Hs H Hs' H' → Den X.K Hs' d v → Q v H'
noncomputable def D.iadd : D → D → Option D
  | .int i, .int j => some (.int (i + j))
  | .str x, .str y => if x.length + y.length ≤ sizeLine then some (.str (x ++ y)) else none
  | _, _ => none
theorem id_add : IpD X .Add D.iadd := by
  rintro pins s σ H x y v u Q I rx ry ⟨Hs, d1, d2, d, e, h1, h2, g, q⟩
  unfold D.iadd at g
  split at g
  · cases g
    cases h1; cases h2
    exact ip_add pins s σ H _ _ v u Q I rx ry ⟨_, _, rfl, rfl, q _ _ _ (.refl e) rfl⟩
  · split at g
    · rename_i c
      cases g
      obtain ⟨rfl, k1⟩ := h1
      obtain ⟨rfl, k2⟩ := h2
      exact iop_add_str pins s σ H _ _ v u Q I rx ry ⟨_, _, rfl, rfl, c, q _ _ _ (.refl e) ⟨rfl, sOk_app k1 k2 c⟩⟩
    · cases g
  · cases g
theorem id_sub : IpD X .Sub D.sub := by
  rintro pins s σ H x y v u Q I rx ry ⟨Hs, d1, d2, d, e, h1, h2, g, q⟩
  unfold D.sub at g
  split at g
  · cases g
    cases h1; cases h2
    exact ip_sub pins s σ H _ _ v u Q I rx ry ⟨_, _, rfl, rfl, q _ _ _ (.refl e) rfl⟩
  · cases g
/-- (the value of x ahead of e) -/
noncomputable def sAug (i : Nat) (g : D → D → Option D) (fa : Env' → Res (RV × Env')) : Env' → Res Fl := fun ρ => match ρ[i]? with
  | some (some (.sh d1)) => (fa ρ).bind fun (r, ρ1) => (Res.of (look ρ1 r)).bind fun d2 => (Res.of (g d1 d2)).bind fun d => if i < ρ1.length then .ok (.nx (ρ1.set i (some (.sh d)))) else .bad
  | _ => .bad
theorem fs_aug {i : Nat} {x : Str} {op : Operator} {g : D → D → Option D} {pos' : Pos} (hN : X.N.Nodup) (hi : X.N[i]? = some x) (hx : Loc X.env.scope x) (he : PE X a (tFO X.K mg W fa)) (ho : IpD X op g) (hf : X.fn x = true ∨ X.env.scope.names.lookup x = some .local := by first | exact .inl rfl | exact .inr rfl | assumption) :
    PS X (.AugAssign (.Name x pos') op a pos) (tFS X.K mg W (sAug i g fa)) := by
  refine (ps_aug hN hi hx he ho hf).imp fun D σ H ⟨G, ρ, ⟨Hs, fp, ok⟩, po⟩ => ?_
  unfold sAug at po
  split at po
  · rename_i d1 hi
    obtain ⟨v, f1, f2, f3, h1, h2, h3, _⟩ := ok.env.at hi
    refine ⟨v, h1, goE (P := PoS X.K mg W G D) ok po (fun c ρ' h => h σ) id fun r1 ρ1 y H1 Hs1 fp1 ok1 dy po1 => ?_⟩
    have ok1' := ok.back ok1
    cases e1 : look ρ1 r1 with
    | none => simp only [e1] at po1; exact po1.elim
    | some d2 =>
      cases e3 : g d1 d2 with
      | none => simp only [e1, e3, of_some, bind_ok] at po1; exact po1.elim
      | some d =>
        simp only [e1, e3, of_some, bind_ok] at po1
        split at po1
        · rename_i hl
          refine ⟨Hs1, d1, d2, d, ok1'.sh, Den.one ok1'.sh (h3.2.mono ok1.base), look_den ok1' dy e1, e3, fun w Hs' H' ex dw => po1 _ _ ?_⟩
          exact (ok1'.ext ex).put hl (t := .sh d) (f := []) ⟨rfl, dw⟩ (by simp) (fun _ h => by cases h)
        · exact po1.elim
  · exact po.elim

/-! lists of one's own, changed -/
theorem OkAt.turn {K G σ H ρ Hs fp i t v f1 f2 f3 t' f' H'} (ok : OkAt K G σ H ρ Hs fp) (hi : ρ[i]? = some (some t)) (h1 : σ[i]? = some (some v)) (hf : fp = f1 ++ (f2 ++ f3))
    (up : ∀ Hs' H', Same Hs Hs' → (∀ a ∈ f1 ++ f3, H' a = H a) → ∀ t' v' f', DenT K Hs' H' t' v' f' → DenE K Hs' H' (ρ.set i (some t')) (σ.set i (some v')) (f1 ++ (f' ++ f3)))
    (h2 : ∀ a, a ∉ f2 → H' a = H a) (d : DenT K Hs H' t' v f') (nd : f'.Nodup) (hn : ∀ a ∈ f', a ∈ f2 ∨ (Hs a = none ∧ a ∉ fp ∧ G.2 a = none)) : OkAt K G σ H' (ρ.set i (some t')) Hs (f1 ++ (f' ++ f3)) := by
  have n0 := ok.nd
  rw [hf, List.nodup_append] at n0
  obtain ⟨n1, n2, n3⟩ := n0
  rw [List.nodup_append] at n2
  have out : ∀ a ∈ f1 ++ f3, a ∉ f2 := fun a ha hb => by
    rcases List.mem_append.mp ha with h | h
    · exact n3 a h a (List.mem_append_left _ hb) rfl
    · exact n2.2.2 a hb a h rfl
  have dj2 : ∀ a ∈ f2, Hs a = none := fun a ha => ok.disj a (by rw [hf]; simp [ha])
  have σe : σ.set i (some v) = σ := by
    apply List.ext_getElem?
    intro j
    by_cases hj : i = j
    · subst hj
      have hl : i < σ.length := by
        rcases Nat.lt_or_ge i σ.length with h | h
        · exact h
        · rw [List.getElem?_eq_none_iff.mpr h] at h1; cases h1
      rw [List.getElem?_set_self hl, h1]
    · rw [List.getElem?_set_ne hj]
  have env := up Hs H' (Same.refl _) (fun a ha => h2 a (out a ha)) t' v f' d
  rw [σe] at env
  have gp : ∀ a, (G.2 a).isSome = true → a ∉ f2 := fun a p1 hb => by
    cases z : G.1 a with
    | none => exact (ok.priv a p1 z).2 (by rw [hf]; simp [hb])
    | some u =>
      have := dj2 a hb
      rw [ok.base a u z] at this
      cases this
  refine ⟨fun a u e => ?_, ok.base, fun a u e => ?_, fun a p1 p2 => ?_, fun a ha => ?_, ?_, env⟩
  · rw [h2 a (fun hb => by rw [dj2 a hb] at e; cases e)]; exact ok.sh a u e
  · rw [h2 a (gp a (by rw [e]; rfl))]; exact ok.frame a u e
  · obtain ⟨q1, q2⟩ := ok.priv a p1 p2
    refine ⟨q1, fun hm => ?_⟩
    rw [hf] at q2
    simp only [List.mem_append, not_or] at q2 hm
    rcases hm with h | h | h
    · exact q2.1 h
    · rcases hn a h with z | z
      · exact q2.2.1 z
      · rw [z.2.2] at p1; cases p1
    · exact q2.2.2 h
  · simp only [List.mem_append] at ha
    rcases ha with h | h | h
    · exact ok.disj a (by rw [hf]; simp [h])
    · rcases hn a h with z | z
      · exact dj2 a z
      · exact z.1
    · exact ok.disj a (by rw [hf]; simp [h])
  · have fr : ∀ a ∈ f', a ∉ f1 ∧ a ∉ f3 := fun a ha => by
      rcases hn a ha with z | z
      · exact ⟨fun h => out a (by simp [h]) z, fun h => out a (by simp [h]) z⟩
      · have := z.2.1
        rw [hf] at this
        simp only [List.mem_append, not_or] at this
        exact ⟨this.1, this.2.2⟩
    rw [List.nodup_append, List.nodup_append]
    refine ⟨n1, ⟨nd, n2.2.1, fun a ha b hb e => (fr a ha).2 (e ▸ hb)⟩, fun a ha b hb e => ?_⟩
    rcases List.mem_append.mp hb with h | h
    · exact (fr b h).1 (e ▸ ha)
    · exact n3 a ha b (List.mem_append_right _ h) e
/-- a list of one's own, and what becomes of it -/
theorem OkAt.own {K G σ H ρ Hs fp i ts} (ok : OkAt K G σ H ρ Hs fp) (hi : ρ[i]? = some (some (.lst ts))) :
    ∃ l vs fr, σ[i]? = some (some (.ref l)) ∧ H l = some (.lst vs) ∧ DenTL K Hs H ts vs fr ∧ (l :: fr).Nodup ∧ (∀ a ∈ l :: fr, a ∈ fp) ∧
      ∀ vs' ts' fr', DenTL K Hs H ts' vs' fr' → fr'.Nodup → (∀ a ∈ fr', a ∈ fr ∨ (Hs a = none ∧ a ∉ fp ∧ G.2 a = none)) → ∃ fp', OkAt K G σ (upd H l (.lst vs')) (ρ.set i (some (.lst ts'))) Hs fp' := by
  obtain ⟨v, f1, f2, f3, h1, h2, h3, h4, _⟩ := ok.env.at hi
  obtain ⟨l, vs, fr, e1, e2, e3, e4⟩ := h3
  subst e1
  subst e2
  have nd := ok.nd
  rw [h2, List.nodup_append] at nd
  obtain ⟨n1, n2, n3⟩ := nd
  rw [List.nodup_append] at n2
  refine ⟨l, vs, fr, h1, e3, e4, n2.1, fun a ha => by rw [h2]; simp only [List.mem_append]; exact .inr (.inl ha), fun vs' ts' fr' d nd' hn => ?_⟩
  have nl : l ∉ fr' := fun hm => by
    rcases hn l hm with z | z
    · exact (List.nodup_cons.mp n2.1).1 z
    · exact z.2.1 (by rw [h2]; simp)
  refine ⟨f1 ++ ((l :: fr') ++ f3), ok.turn (t' := .lst ts') (f' := l :: fr') hi h1 h2 h4 (fun a ha => upd_ne fun e => ha (by simp [e])) ⟨l, vs', fr', rfl, rfl, upd_same, d.mono (Same.refl _) fun a ha => upd_ne fun e => nl (e ▸ ha)⟩ (List.nodup_cons.mpr ⟨nl, nd'⟩) fun a ha => ?_⟩
  rcases List.mem_cons.mp ha with rfl | ha
  · exact .inl (by simp)
  · rcases hn a ha with z | z
    · exact .inl (by simp [z])
    · exact .inr z
theorem own_go {K : PySem.W.Frag} {β : Type} {P : Res β → Prop} {G : Gh} {σ : L2.St} {H : Hp} {ρ : Env'} {Hs : Hp} {fp : List Addr} {i : Nat} {ts0 : List T} {r : V → List V → Hp → VK → Prop} {k : T × Env' → Res β} {Q : VK} (ok : OkAt K G σ H ρ Hs fp) (hi : ρ[i]? = some (some (.lst ts0))) (po : P ((na ρ).bind k))
    (hx : ∀ c ρ', P (.exc c ρ') → ∀ H' C, mg c = some (.ref C) → Ok K G σ H' ρ' → W (.ref C) none σ H') (hb : ¬ P .bad)
    (cont : ∀ v t ρ1 y H1 Hs1 fp1 ft, σ[i]? = some (some v) → OkAt K G σ H1 ρ1 Hs1 fp1 → DenT K Hs1 H1 t y ft → ft.Nodup → (∀ a ∈ ft, Hs1 a = none ∧ a ∉ fp1 ∧ G.2 a = none) → P (k (t, ρ1)) → r v [y] H1 Q) :
    tBM K "list" r (tVar i) (tCons (tFN K mg W na) tNil) σ H Q := by
  obtain ⟨l, vs, fr, h1, h2, _⟩ := ok.own hi
  refine ⟨.ref l, h1, .inl ⟨rfl, vs, SqL.lst h2⟩, goN ok po hx hb fun t ρ1 y H1 Hs1 fp1 ft ok1 dt nd q po1 => ?_⟩
  exact cont _ t ρ1 y H1 Hs1 fp1 ft h1 (ok.back ok1) dt nd (fun a ha => ⟨(q a ha).1, (q a ha).2.1, rem_none ok (q a ha).2.2⟩) po1
/-- x.append(e) -/
noncomputable def sAppend (i : Nat) (na : Env' → Res (T × Env')) : Env' → Res Fl := fun ρ => match ρ[i]? with
  | some (some (.lst _)) => (na ρ).bind fun (t, ρ1) => match ρ1[i]? with
    | some (some (.lst ts)) => if ts.length < sizeLine then .ok (.nx (ρ1.set i (some (.lst (ts ++ [t]))))) else .bad
    | _ => .bad
  | _ => .bad
section
variable {i : Nat} {x name : Str} {p apos cpos : Pos}
theorem fs_append (i : Nat) (ha : PE X a (tFN X.K mg W na)) (hname : name = "append") (hN : X.N[i]? = some x := by rfl) (hv : Vis X.env.scope x := by first | exact Or.inl rfl | exact Or.inr (Or.inl rfl) | exact Or.inr (Or.inr rfl)) (hd : (x == ("__debug__" : Str)) = false := by decide) (hcd : (x == ("__classdict__" : Str)) = false := by decide)
    (hbase : attributeBase (.Name x p) name X.env (eval (.Name x p) X.env) = eval (.Name x p) X.env := by rfl)
    (hfew : ((backTo cpos (starEach [a] X.env)).all (fun x => !x.1) && (backToKw cpos (keywordEach [] X.env)).all (fun x => x.1.isSome)
      && decide ([a].length + ([] : List Keyword).length + (if ([] : List Keyword).isEmpty then 0 else 1) < 30)) = true := by rfl)
    (hline : (apos.endLine == cpos.line) = true := by rfl) (hst : starEach [a] X.env = (false, eval a X.env) :: starEach [] X.env := by rfl) (hplain : (backTo cpos (starEach [] X.env)).any (·.1) = false := by rfl)
    (hs : swapsWith (.Call (.Attribute (.Name x p) name apos) [a] [] cpos) none pos.line X.env = pure false := by rfl) :
    PS X (.Expr (.Call (.Attribute (.Name x p) name apos) [a] [] cpos) pos) (tFS X.K mg W (sAppend i na)) := by
  subst hname
  refine (ps_expr (pe_bm PySem.F.plainAttrs_list PySem.F.slot_list_append PySem.F.type_list_append mt_append (pe_var hN hv hd hcd) (pa_cons ha pa_nil hst) hbase hfew hline hst hplain) hs).imp fun D σ H ⟨G, ρ, ⟨Hs, fp, ok⟩, po⟩ => ?_
  unfold sAppend at po
  split at po
  · rename_i ts0 hi0
    refine own_go (P := PoS X.K mg W G D) ok hi0 po (fun c ρ' h => h σ) id fun v t ρ1 y H1 Hs1 fp1 ft e1 ok1 dt nd q po1 => ?_
    simp only at po1
    split at po1
    · rename_i ts hi
      split at po1
      · rename_i hl
        obtain ⟨l, vs, fr, h1, h2, h3, h4, h5, h6⟩ := ok1.own hi
        rw [e1] at h1
        cases h1
        refine ⟨l, vs, y, rfl, rfl, h2, by rw [h3.length]; exact hl, ?_⟩
        obtain ⟨fp', ok2⟩ := h6 (vs ++ [y]) (ts ++ [t]) (fr ++ ft) (h3.append ⟨y, [], ft, [], rfl, by simp, dt, rfl, rfl⟩) (by
          rw [List.nodup_append]
          exact ⟨(List.nodup_cons.mp h4).2, nd, fun a ha b hb e => (q b hb).2.1 (e ▸ h5 a (by simp [ha]))⟩) fun a ha => (List.mem_append.mp ha).elim .inl fun h => .inr (q a h)
        exact po1 _ _ ⟨Hs1, fp', ok2⟩
      · exact po1.elim
    · exact po1.elim
  · exact po.elim
/-- x.extend(e), e a list -/
noncomputable def sExtend (i : Nat) (fa : Env' → Res (RV × Env')) : Env' → Res Fl := fun ρ => match ρ[i]? with
  | some (some (.lst _)) => (fa ρ).bind fun (r, ρ1) => match look ρ1 r with
    | some (.lst ds) => match ρ1[i]? with
      | some (some (.lst ts)) => if ts.length + ds.length ≤ sizeLine then .ok (.nx (ρ1.set i (some (.lst (ts ++ ds.map T.sh))))) else .bad
      | _ => .bad
    | _ => .bad
  | _ => .bad
theorem fs_extend (i : Nat) (ha : PE X a (tFO X.K mg W fa)) (hname : name = "extend") (hN : X.N[i]? = some x := by rfl) (hv : Vis X.env.scope x := by first | exact Or.inl rfl | exact Or.inr (Or.inl rfl) | exact Or.inr (Or.inr rfl)) (hd : (x == ("__debug__" : Str)) = false := by decide) (hcd : (x == ("__classdict__" : Str)) = false := by decide)
    (hbase : attributeBase (.Name x p) name X.env (eval (.Name x p) X.env) = eval (.Name x p) X.env := by rfl)
    (hfew : ((backTo cpos (starEach [a] X.env)).all (fun x => !x.1) && (backToKw cpos (keywordEach [] X.env)).all (fun x => x.1.isSome)
      && decide ([a].length + ([] : List Keyword).length + (if ([] : List Keyword).isEmpty then 0 else 1) < 30)) = true := by rfl)
    (hline : (apos.endLine == cpos.line) = true := by rfl) (hst : starEach [a] X.env = (false, eval a X.env) :: starEach [] X.env := by rfl) (hplain : (backTo cpos (starEach [] X.env)).any (·.1) = false := by rfl)
    (hs : swapsWith (.Call (.Attribute (.Name x p) name apos) [a] [] cpos) none pos.line X.env = pure false := by rfl) :
    PS X (.Expr (.Call (.Attribute (.Name x p) name apos) [a] [] cpos) pos) (tFS X.K mg W (sExtend i fa)) := by
  subst hname
  refine (ps_expr (pe_bm PySem.F.plainAttrs_list PySem.F.slot_list_extend PySem.F.type_list_extend mt_extend (pe_var hN hv hd hcd) (pa_cons ha pa_nil hst) hbase hfew hline hst hplain) hs).imp fun D σ H ⟨G, ρ, ⟨Hs, fp, ok⟩, po⟩ => ?_
  unfold sExtend at po
  split at po
  · rename_i ts0 hi0
    obtain ⟨l0, vs0, fr0, h10, h20, _⟩ := ok.own hi0
    refine ⟨.ref l0, h10, .inl ⟨rfl, vs0, SqL.lst h20⟩, goE (P := PoS X.K mg W G D) ok po (fun c ρ' h => h σ) id fun r1 ρ1 y H1 Hs1 fp1 ok1 dy po1 => ?_⟩
    have ok1' := ok.back ok1
    simp only at po1
    split at po1
    · rename_i ds e1
      obtain ⟨b, zs, rfl, k1, k2⟩ := look_den ok1' dy e1
      split at po1
      · rename_i ts hi
        split at po1
        · rename_i hl
          obtain ⟨l, vs, fr, h1, h2, h3, h4, h5, h6⟩ := ok1'.own hi
          rw [h10] at h1
          cases h1
          refine ⟨l0, b, vs, zs, rfl, rfl, h2, k1, by rw [h3.length, k2.length]; exact hl, ?_⟩
          obtain ⟨fp', ok2⟩ := h6 (vs ++ zs) (ts ++ ds.map T.sh) (fr ++ []) (h3.append (DenTL.sh k2)) (by
            rw [List.append_nil]
            exact (List.nodup_cons.mp h4).2) fun a ha => .inl (by simpa using ha)
          exact po1 _ _ ⟨Hs1, fp', ok2⟩
        · exact po1.elim
      · exact po1.elim
    · exact po1.elim
  · exact po.elim
/-- x.pop() -/
noncomputable def ePop (i : Nat) : Env' → Res (RV × Env') := fun ρ => match ρ[i]? with
  | some (some (.lst ts)) => match ts[ts.length - 1]? with
    | some (.sh d) => .ok (.leaf d, ρ.set i (some (.lst ts.dropLast)))
    | _ => .bad
  | _ => .bad
theorem DenTL.split {K Hs H} : ∀ {ts us : List T} {vs : List V} {f : List Addr}, DenTL K Hs H (ts ++ us) vs f → ∃ v1 v2 f1 f2, vs = v1 ++ v2 ∧ f = f1 ++ f2 ∧ DenTL K Hs H ts v1 f1 ∧ DenTL K Hs H us v2 f2
  | [], us, vs, f, h => ⟨[], vs, [], f, rfl, rfl, ⟨rfl, rfl⟩, h⟩
  | t :: ts, us, vs, f, ⟨v, r, g1, g2, e1, e2, e3, e4⟩ => by
    obtain ⟨v1, v2, f1, f2, h1, h2, h3, h4⟩ := DenTL.split e4
    subst e1; subst e2; subst h1; subst h2
    exact ⟨v :: v1, v2, g1 ++ f1, f2, rfl, by simp, ⟨v, v1, g1, f1, rfl, rfl, e3, h3⟩, h4⟩
theorem fo_pop (i : Nat) (hname : name = "pop") (hN : X.N[i]? = some x := by rfl) (hv : Vis X.env.scope x := by first | exact Or.inl rfl | exact Or.inr (Or.inl rfl) | exact Or.inr (Or.inr rfl)) (hd : (x == ("__debug__" : Str)) = false := by decide) (hcd : (x == ("__classdict__" : Str)) = false := by decide)
    (hbase : attributeBase (.Name x p) name X.env (eval (.Name x p) X.env) = eval (.Name x p) X.env := by rfl) (hline : (apos.endLine == cpos.line) = true := by rfl) :
    PE X (.Call (.Attribute (.Name x p) name apos) [] [] cpos) (tFO X.K mg W (ePop i)) := by
  subst hname
  refine (pe_bm0 PySem.F.plainAttrs_list PySem.F.slot_list_pop PySem.F.type_list_pop mt_pop (pe_var hN hv hd hcd) hbase hline).imp fun σ H Q ⟨G, ρ, ⟨Hs, fp, ok⟩, po⟩ => ?_
  unfold ePop at po
  split at po
  · rename_i ts hi
    split at po
    · rename_i d hd
      obtain ⟨l, vs, fr, h1, h2, h3, h4, h5, h6⟩ := ok.own hi
      have hne : ts ≠ [] := fun z => by subst z; cases hd
      have hl : ts.dropLast ++ [T.sh d] = ts := by
        have := List.dropLast_concat_getLast hne
        rw [← this]
        congr 1
        · simp
        · rw [List.getLast_eq_getElem]
          have hlt : ts.length - 1 < ts.length := by have := List.length_pos_iff.mpr hne; omega
          rw [List.getElem?_eq_getElem hlt] at hd
          simpa using (Option.some.inj hd).symm
      rw [← hl] at h3
      obtain ⟨v1, v2, g1, g2, e1, e2, e3, e4⟩ := h3.split
      obtain ⟨w, r, f1, f2, k1, k2, k3, k4⟩ := e4
      obtain ⟨rfl, rfl⟩ := k4
      obtain ⟨rfl, dw⟩ := k3
      subst k1
      refine ⟨.ref l, h1, .inl ⟨rfl, vs, SqL.lst h2⟩, l, vs, w, rfl, rfl, h2, by rw [e1]; simp, ?_⟩
      obtain ⟨fp', ok2⟩ := h6 v1 ts.dropLast g1 e3 (by
        have := (List.nodup_cons.mp h4).2
        rw [e2, List.nodup_append] at this
        exact this.1) fun a ha => .inl (by rw [e2]; simp [ha])
      rw [show vs.dropLast = v1 from by rw [e1]; simp]
      exact po _ _ Hs fp' ok2 dw
    · exact po.elim
  · exact po.elim
/-- x[e1] = e2 -/
noncomputable def sSetIx (i : Nat) (na : Env' → Res (T × Env')) (fb : Env' → Res (RV × Env')) : Env' → Res Fl := fun ρ => (na ρ).bind fun (t, ρ1) => match t, ρ1[i]? with
  | .sh d, some (some _) => (fb ρ1).bind fun (r, ρ2) => match look ρ2 r, ρ2[i]? with
    | some (.int k), some (some (.lst ts)) => match ixN ts.length k with
      | some j => match ts[j]? with
        | some (.sh _) => .ok (.nx (ρ2.set i (some (.lst (ts.set j (.sh d))))))
        | _ => .bad
      | none => .bad
    | _, _ => .bad
  | _, _ => .bad
theorem DenTL.setSh {K Hs H} {d : D} {v : V} (hd : Den K Hs d v) : ∀ {ts : List T} {vs : List V} {f : List Addr} {j : Nat} {e : D}, DenTL K Hs H ts vs f → ts[j]? = some (.sh e) → DenTL K Hs H (ts.set j (.sh d)) (vs.set j v) f
  | _ :: ts, _, _, 0, _, ⟨w, r, f1, f2, e1, e2, e3, e4⟩, h => by
    cases (Option.some.inj h)
    obtain ⟨rfl, _⟩ := e3
    subst e1; subst e2
    exact ⟨v, r, [], _, rfl, rfl, ⟨rfl, hd⟩, e4⟩
  | _ :: ts, _, _, j + 1, _, ⟨w, r, f1, f2, e1, e2, e3, e4⟩, h => by
    subst e1; subst e2
    exact ⟨w, _, f1, f2, rfl, rfl, e3, DenTL.setSh hd e4 (by simpa using h)⟩
theorem fs_setIx (i : Nat) {p tpos : Pos} (ha : PE X a (tFN X.K mg W na)) (hb : PE X b (tFO X.K mg W fb)) (hN : X.N[i]? = some x := by rfl) (hv : Vis X.env.scope x := by first | exact Or.inl rfl | exact Or.inr (Or.inl rfl) | exact Or.inr (Or.inr rfl)) (hd : (x == ("__debug__" : Str)) = false := by decide) (hcd : (x == ("__classdict__" : Str)) = false := by decide)
    (hs : swapsWithSole [.Subscript (.Name x p) b tpos] a pos.line X.env = pure false := by rfl) (hw : swappedStores [.Subscript (.Name x p) b tpos] a X.env = pure none := by rfl)
    (h1 : (assignEach [.Subscript (.Name x p) b tpos] X.env).map (·.2) = [assign (.Subscript (.Name x p) b tpos) X.env] := by rfl)
    (hg : ∀ v, assign (.Subscript (.Name x p) b tpos) X.env v = (do
      let ov ← holding [v] (eval (.Name x p) X.env)
      let iv ← holding [v, ov] (eval b X.env)
      standAt tpos
      holding [v, ov, iv] (setItem ov iv v)
      release [v, ov, iv] []) := by intro _; rfl) :
    PS X (.Assign [.Subscript (.Name x p) b tpos] a pos) (tFS X.K mg W (sSetIx i na fb)) := by
  refine (ps_asg ha (pg_sub (pe_var hN hv hd hcd) hb set_list hg) hs hw h1).imp fun D σ H ⟨G, ρ, ⟨Hs, fp, ok⟩, po⟩ => ?_
  refine goN (P := PoS X.K mg W G D) ok po (fun c ρ' h => h σ) id fun t ρ1 y H1 Hs1 fp1 ft ok1 dt nd q po1 => ?_
  have ok1' := ok.back ok1
  simp only at po1
  split at po1
  · rename_i d t0 hi0
    obtain ⟨v, _, _, _, hv, _⟩ := ok1'.env.at hi0
    refine ⟨v, hv, goE (P := PoS X.K mg W G D) ok1' po1 (fun c ρ' h => h σ) id fun r2 ρ2 w H2 Hs2 fp2 ok2 dw po2 => ?_⟩
    have ok2' := ok1'.back ok2
    simp only at po2
    split at po2
    · rename_i k ts e1 hi
      cases (show w = .int k from look_den ok2' dw e1)
      split at po2
      · rename_i j hj
        split at po2
        · rename_i e0 ht
          obtain ⟨l, vs, fr, h1, h2, h3, h4, h5, h6⟩ := ok2'.own hi
          rw [hv] at h1
          cases h1
          refine ⟨l, vs, k, j, rfl, rfl, h2, by rw [h3.length]; exact hj, ?_⟩
          obtain ⟨fp', ok3⟩ := h6 (vs.set j y) (ts.set j (.sh d)) fr (DenTL.setSh (dt.2.mono ok2.base) h3 ht) (List.nodup_cons.mp h4).2 fun a ha => .inl ha
          exact po2 _ _ ⟨Hs2, fp', ok3⟩
        · exact po2.elim
      · exact po2.elim
    · exact po2.elim
  · exact po1.elim
/-- x[e1] op= e2 -/
theorem pget_list : PGet X (fun o i H Q => ∃ p xs k v, o = .ref p ∧ i = .int k ∧ H p = some (.lst xs) ∧ atI xs k = some v ∧ Q v H) := by
  rintro pins s σ H o i ov iv Q I ro ri ⟨p, xs, k, v, rfl, rfl, hp, hk, q⟩
  cases ro
  obtain ⟨t, rfl⟩ := ri
  obtain ⟨its, r, pl, hz⟩ := I.list (SqL.lst hp)
  obtain ⟨j, h1, h2, h3, h4, h5⟩ := atI_get hk
  obtain ⟨w, ew, rw'⟩ := r.get h2
  have hl := r.length
  have hn := line63
  have fin : EP X pins σ Q w s := ⟨v, H, I, rw', q⟩
  by_cases h0 : 0 ≤ k
  · have hj : k.toNat = j := by
      rw [seqIndex_of h0 h5] at h1
      exact Option.some.inj h1
    exact wpAny_getItem_list pl.isList h0 (by omega) (by rw [hj]; simpa using ew) fin
  · have hj : (k + (its.toArray.size : Int)).toNat = j := by
      rw [seqIndex_neg (by omega) h4] at h1
      rw [List.size_toArray, ← hl]
      exact Option.some.inj h1
    exact wpAny_getItem_list_neg pl.isList (by omega) (by rw [List.size_toArray] <;> omega) (by omega) (by rw [hj]; simpa using ew) fin
noncomputable def sAugIx (i : Nat) (g : D → D → Option D) (fb fa : Env' → Res (RV × Env')) : Env' → Res Fl := fun ρ => match ρ[i]? with
  | some (some _) => (fb ρ).bind fun (r, ρ1) => match look ρ1 r, ρ1[i]? with
    | some (.int k), some (some (.lst ts)) => match (ixN ts.length k).bind fun j => ts[j]? with
      | some (.sh d1) => (fa ρ1).bind fun (r2, ρ2) => (Res.of (look ρ2 r2)).bind fun d2 => (Res.of (g d1 d2)).bind fun d => match ρ2[i]? with
        | some (some (.lst ts2)) => match ixN ts2.length k with
          | some j => match ts2[j]? with
            | some (.sh _) => .ok (.nx (ρ2.set i (some (.lst (ts2.set j (.sh d))))))
            | _ => .bad
          | none => .bad
        | _ => .bad
      | _ => .bad
    | _, _ => .bad
  | _ => .bad
theorem DenTL.getSh {K Hs H} : ∀ {ts : List T} {vs : List V} {f : List Addr} {j : Nat} {e : D}, DenTL K Hs H ts vs f → ts[j]? = some (.sh e) → ∃ v, vs[j]? = some v ∧ Den K Hs e v
  | _ :: ts, _, _, 0, _, ⟨w, r, f1, f2, e1, e2, e3, e4⟩, h => by
    cases (Option.some.inj h)
    exact ⟨w, by rw [e1]; rfl, e3.2⟩
  | _ :: ts, _, _, j + 1, _, ⟨w, r, f1, f2, e1, e2, e3, e4⟩, h => by
    obtain ⟨v, h1, h2⟩ := DenTL.getSh e4 (by simpa using h)
    exact ⟨v, by rw [e1]; simpa using h1, h2⟩
theorem fs_augIx (i : Nat) {op : Operator} {g : D → D → Option D} {p tpos : Pos} (ho : IpD X op g) (hb : PE X b (tFO X.K mg W fb)) (ha : PE X a (tFO X.K mg W fa)) (hN : X.N[i]? = some x := by rfl) (hv : Vis X.env.scope x := by first | exact Or.inl rfl | exact Or.inr (Or.inl rfl) | exact Or.inr (Or.inr rfl)) (hd : (x == ("__debug__" : Str)) = false := by decide) (hcd : (x == ("__classdict__" : Str)) = false := by decide)
    (hg : ∀ ov iv new, augStore b ov iv new = (do holding [new, ov, iv] (setItem ov iv new); release [new, ov, iv] []; pure .next) := by intros; rfl) :
    PS X (.AugAssign (.Subscript (.Name x p) b tpos) op a pos) (tFS X.K mg W (sAugIx i g fb fa)) := by
  refine (ps_augS (pe_var hN hv hd hcd) hb pget_list ha ho set_list hg).imp fun D σ H ⟨G, ρ, ⟨Hs, fp, ok⟩, po⟩ => ?_
  unfold sAugIx at po
  split at po
  · rename_i t0 hi0
    obtain ⟨v, _, _, _, hv, _⟩ := ok.env.at hi0
    refine ⟨v, hv, goE (P := PoS X.K mg W G D) ok po (fun c ρ' h => h σ) id fun r1 ρ1 w H1 Hs1 fp1 ok1 dw po1 => ?_⟩
    have ok1' := ok.back ok1
    simp only at po1
    split at po1
    · rename_i k ts e1 hi
      cases (show w = .int k from look_den ok1' dw e1)
      split at po1
      · rename_i d1 hj
        simp only [Option.bind_eq_some_iff] at hj
        obtain ⟨j, hj1, hj2⟩ := hj
        obtain ⟨l, vs, fr, h1, h2, h3, _⟩ := ok1'.own hi
        rw [hv] at h1
        cases h1
        obtain ⟨w1, hw1, dw1⟩ := h3.getSh hj2
        refine ⟨l, vs, k, w1, rfl, rfl, h2, by unfold L2.atI; rw [h3.length, hj1]; exact hw1, ?_⟩
        refine goE (P := PoS X.K mg W G D) ok1' po1 (fun c ρ' h => h σ) id fun r2 ρ2 u H2 Hs2 fp2 ok2 du po2 => ?_
        have ok2' := ok1'.back ok2
        cases e2 : look ρ2 r2 with
        | none => simp only [e2] at po2; exact po2.elim
        | some d2 =>
          cases e3 : g d1 d2 with
          | none => simp only [e2, e3, of_some, bind_ok] at po2; exact po2.elim
          | some d =>
            simp only [e2, e3, of_some, bind_ok] at po2
            refine ⟨Hs2, d1, d2, d, ok2'.sh, Den.one ok2'.sh (dw1.mono ok2.base), look_den ok2' du e2, e3, fun z Hs3 H3 ex dz => ?_⟩
            split at po2
            · rename_i ts2 hi2
              split at po2
              · rename_i j2 hj3
                split at po2
                · rename_i e0 ht
                  obtain ⟨l2, vs2, fr2, g1, g2, g3, g4, g5, g6⟩ := (ok2'.ext ex).own hi2
                  rw [hv] at g1
                  cases g1
                  refine ⟨l, vs2, k, j2, rfl, rfl, g2, by rw [g3.length]; exact hj3, ?_⟩
                  obtain ⟨fp', ok3⟩ := g6 (vs2.set j2 z) (ts2.set j2 (.sh d)) fr2 (DenTL.setSh dz g3 ht) (List.nodup_cons.mp g4).2 fun a ha => .inl ha
                  exact po2 _ _ ⟨Hs3, fp', ok3⟩
                · exact po2.elim
              · exact po2.elim
            · exact po2.elim
      · exact po1.elim
    · exact po1.elim
  · exact po.elim
end

/-! exceptions -/
theorem pmk_own0 {x : Str} {C : Addr} {bmB : List Value} {B newId initId : String} {p pos : Pos} (F : ExcBaseFacts B newId initId bmB) (q : PySem.W.excIn X.K C bmB newId = true) (gC : X.mg x = some (.ref C)) (kC : PySem.W.keepIn X.K (.ref C) = true) (r : Raises X (.ref C)) (hg : Gl X x)
    (hdb : (x == ("__debug__" : Str)) = false := by decide) : PMk X (.Call (.Name x p) [] [] pos) (fun _ H Q => Q (.ref C) none H) := by
  intro pins s σ H Q I h
  refine wpAny_Call_Name_kw (ld_glob I hg gC ?_ hdb)
  refine PySem.W.callWith_K0 I.kIn kC ?_
  show wpAny _ _ (call (.ref C) []) _ _ _
  obtain ⟨bm, N, nm, qn, bs, hdct, sn, sub, ab, col, dd, k0, k1, k2, k3, k5, mN, hC, hN, hni, T⟩ := exc_obj I.kIn q
  refine wpAny_call_exc_subT F T hC hN hni (fun h' e hm => ?_) (Nat.zero_le _)
  exact mk_of I hm r h (I.hok.gone hm.new)
/-- what is known of an own exception class without fields -/
structure ExT (K : PySem.W.Frag) (mg : Str → Option Value) (x : Str) (C : Addr) : Prop where
  gC : mg x = some (.ref C)
  q : PySem.W.excIn K C [.type "ValueError", .type "Exception", .type "BaseException", .type "object"] "ValueError.__new__" = true
  kC : PySem.W.keepIn K (.ref C) = true
  b : PySem.W.subIn K (.ref C) (.type "BaseException") = some true
  t : PySem.W.typeIn K (.ref C) = some (.type "type")
noncomputable def sRaise (x : Str) : Env' → Res Fl := fun ρ => .exc x ρ
theorem fs_raise {x : Str} {C : Addr} {p pos2 : Pos} (hc : X.calm = true) (tk : Takes X W) (E : ExT X.K X.mg x C) (hm : X.mg = mg) (hg : Gl X x) (hdb : (x == ("__debug__" : Str)) = false := by decide) : PS X (.Raise (some (.Call (.Name x p) [] [] pos2)) none pos) (tFS X.K mg W (sRaise x)) := by
  subst hm
  exact (ps_raise hc tk (pmk_own0 PySem.F.excBase_ValueError E.q E.gC E.kC (raises_own E.b E.t) hg hdb)).imp fun D σ H ⟨G, ρ, ok, po⟩ => po σ H C E.gC ok

/-! calls of one's own defs -/
inductive Out (α : Type) where
  | ok (a : α) | exc (c : Str) | bad
/-- a def's promise: shared arguments, a shared answer -/
noncomputable def spP (K : PySem.W.Frag) (mg : Str → Option Value) (np : Nat) (m : List D → Out D) : Sp := fun vs H Q E => vs.length = np ∧ ∃ Hs ds, Same Hs H ∧ DenL K Hs ds vs ∧ match m ds with
  | .ok d => ∀ v Hs' H', Ext Hs H Hs' H' → Den K Hs' d v → Q v H'
  | .exc c => ∀ C Hs' H', mg c = some (.ref C) → Ext Hs H Hs' H' → E (.ref C) none H'
  | .bad => False
/-- .. an answer that is one's own -/
noncomputable def spT (K : PySem.W.Frag) (mg : Str → Option Value) (np : Nat) (m : List D → Out T) : Sp := fun vs H Q E => vs.length = np ∧ ∃ Hs ds, Same Hs H ∧ DenL K Hs ds vs ∧ match m ds with
  | .ok t => ∀ v Hs' H' ft, Ext Hs H Hs' H' → DenT K Hs' H' t v ft → ft.Nodup → (∀ a ∈ ft, Hs' a = none ∧ H a = none) → Q v H'
  | .exc c => ∀ C Hs' H', mg c = some (.ref C) → Ext Hs H Hs' H' → E (.ref C) none H'
  | .bad => False
/-- shared values of all arguments -/
noncomputable def leafs := eTup.leafs
noncomputable def eCall (m : List D → Out D) (fs : Env' → Res (List RV × Env')) : Env' → Res (RV × Env') := fun ρ => (fs ρ).bind fun (rs, ρ1) => (Res.of (leafs rs)).bind fun ds => match m ds with
  | .ok d => .ok (.leaf d, ρ1)
  | .exc c => .exc c ρ1
  | .bad => .bad
noncomputable def nCall (m : List D → Out T) (fs : Env' → Res (List RV × Env')) : Env' → Res (T × Env') := fun ρ => (fs ρ).bind fun (rs, ρ1) => (Res.of (leafs rs)).bind fun ds => match m ds with
  | .ok t => .ok (t, ρ1)
  | .exc c => .exc c ρ1
  | .bad => .bad
section
variable {k np : Nat} {f : Addr} {fd : FuncData} {ps : List Str} {x : Str} {p : Pos} {e : Expr} {es : List Expr} {fs : Env' → Res (List RV × Env')}
theorem fo_call {m : List D → Out D} (F : FnOk X.prog X.w X.K X.mg X.base (L2.CX X.prog X.w) k f fd ps (spP X.K mg np m)) (hr : Room k X.A) (hg : Gl X x) (hm : X.mg x = some (.ref f)) (hk : PySem.W.keepIn X.K (.ref f) = true) (hb : Binds X.K fd ps []) (tk : Takes X W)
    (hl : (e :: es).length = np) (ha : PA X (e :: es) (tFA X.K mg W fs)) (hlen : ∀ ρ rs ρ', fs ρ = .ok (rs, ρ') → rs.length = np) (hdb : (x == ("__debug__" : Str)) = false := by decide) (he : starEach (e :: es) X.env = (false, eval e X.env) :: starEach es X.env := by rfl) (hpl : (backTo pos (starEach es X.env)).any (·.1) = false := by rfl) :
    PE X (.Call (.Name x p) (e :: es) [] pos) (tFO X.K mg W (eCall m fs)) := by
  refine (pe_callS F hr hg hm hk hb (fun σ => passAt tk σ) ha hdb he hpl).imp fun σ H Q ⟨G, ρ, ⟨Hs, fp, ok⟩, po⟩ => ?_
  refine ⟨_, ρ, ⟨Hs, fp, ok.self⟩, ?_⟩
  unfold eCall at po
  cases e0 : fs ρ with
  | bad => rw [e0] at po; exact po
  | exc c ρ' => rw [e0] at po; exact fun H' C hc o => po H' C hc (Ok.back ok o)
  | ok q =>
    obtain ⟨rs, ρ1⟩ := q
    rw [e0] at po
    intro xs H1 Hs1 fp1 ok1 dx
    have ok1' := ok.back ok1
    cases e1 : eTup.leafs rs with
    | none => simp only [leafs, bind_ok, e1] at po; exact po.elim
    | some ds =>
      simp only [leafs, e1, of_some, bind_ok] at po
      have dl := leafs_den dx e1
      have ll : ∀ {rs : List RV} {ds : List D}, eTup.leafs rs = some ds → ds.length = rs.length := by
        intro rs
        induction rs with
        | nil => intro ds h; cases h; rfl
        | cons r rs ih =>
          intro ds h
          cases r with
          | slot i => cases h
          | leaf d =>
            simp only [eTup.leafs, Option.map_eq_some_iff] at h
            obtain ⟨es, h1, rfl⟩ := h
            simp [ih h1]
      refine ⟨by rw [dl.length, ll e1, hlen _ _ _ e0], Hs1, ds, ok1'.sh, dl, ?_⟩
      cases e2 : m ds with
      | ok d =>
        rw [e2] at po
        exact fun v Hs' H' ex dv => po v H' Hs' fp1 (ok1'.ext ex) dv
      | exc c =>
        rw [e2] at po
        exact fun C Hs' H' hc ex => po H' C hc ⟨Hs', fp1, ok1'.ext ex⟩
      | bad => rw [e2] at po; exact po
theorem fn_call {m : List D → Out T} (F : FnOk X.prog X.w X.K X.mg X.base (L2.CX X.prog X.w) k f fd ps (spT X.K mg np m)) (hr : Room k X.A) (hg : Gl X x) (hm : X.mg x = some (.ref f)) (hk : PySem.W.keepIn X.K (.ref f) = true) (hb : Binds X.K fd ps []) (tk : Takes X W)
    (hl : (e :: es).length = np) (ha : PA X (e :: es) (tFA X.K mg W fs)) (hlen : ∀ ρ rs ρ', fs ρ = .ok (rs, ρ') → rs.length = np) (hdb : (x == ("__debug__" : Str)) = false := by decide) (he : starEach (e :: es) X.env = (false, eval e X.env) :: starEach es X.env := by rfl) (hpl : (backTo pos (starEach es X.env)).any (·.1) = false := by rfl) :
    PE X (.Call (.Name x p) (e :: es) [] pos) (tFN X.K mg W (nCall m fs)) := by
  refine (pe_callS F hr hg hm hk hb (fun σ => passAt tk σ) ha hdb he hpl).imp fun σ H Q ⟨G, ρ, ⟨Hs, fp, ok⟩, po⟩ => ?_
  refine ⟨_, ρ, ⟨Hs, fp, ok.self⟩, ?_⟩
  unfold nCall at po
  cases e0 : fs ρ with
  | bad => rw [e0] at po; exact po
  | exc c ρ' => rw [e0] at po; exact fun H' C hc o => po H' C hc (Ok.back ok o)
  | ok q =>
    obtain ⟨rs, ρ1⟩ := q
    rw [e0] at po
    intro xs H1 Hs1 fp1 ok1 dx
    have ok1' := ok.back ok1
    cases e1 : eTup.leafs rs with
    | none => simp only [leafs, bind_ok, e1] at po; exact po.elim
    | some ds =>
      simp only [leafs, e1, of_some, bind_ok] at po
      have dl := leafs_den dx e1
      have ll : ∀ {rs : List RV} {ds : List D}, eTup.leafs rs = some ds → ds.length = rs.length := by
        intro rs
        induction rs with
        | nil => intro ds h; cases h; rfl
        | cons r rs ih =>
          intro ds h
          cases r with
          | slot i => cases h
          | leaf d =>
            simp only [eTup.leafs, Option.map_eq_some_iff] at h
            obtain ⟨es, h1, rfl⟩ := h
            simp [ih h1]
      refine ⟨by rw [dl.length, ll e1, hlen _ _ _ e0], Hs1, ds, ok1'.sh, dl, ?_⟩
      cases e2 : m ds with
      | ok t =>
        rw [e2] at po
        refine fun v Hs' H' ft ex dv nd q => po v H' Hs' fp1 ft (ok1'.ext ex) dv nd fun a ha => ?_
        obtain ⟨q1, q2⟩ := q a ha
        refine ⟨q1, fun hm => ?_, Same.free ok1'.frame q2⟩
        obtain ⟨o, eo⟩ := ok1'.env.there a hm
        rw [q2] at eo
        cases eo
      | exc c =>
        rw [e2] at po
        exact fun C Hs' H' hc ex => po H' C hc ⟨Hs', fp1, ok1'.ext ex⟩
      | bad => rw [e2] at po; exact po
end

/-! a def by its body -/
noncomputable def startE (nN : Nat) (ds : List D) : Env' := ds.map (fun d => some (.sh d)) ++ List.replicate (nN - ds.length) none
noncomputable def mirP (np nN : Nat) (body : Env' → Res Fl) (ds : List D) : Out D := if ds.length = np then match body (startE nN ds) with
  | .ok (.nx _) => .ok .non
  | .ok (.rt (.sh d) _) => .ok d
  | .exc c _ => .exc c
  | _ => .bad
  else .bad
noncomputable def mirT (np nN : Nat) (body : Env' → Res Fl) (ds : List D) : Out T := if ds.length = np then match body (startE nN ds) with
  | .ok (.rt t _) => .ok t
  | .exc c _ => .exc c
  | _ => .bad
  else .bad
theorem start_ok {K Hs H} {N : List Str} : ∀ {ds : List D} {vs : List V}, DenL K Hs ds vs → ∀ (n : Nat), DenE K Hs H (ds.map (fun d => some (.sh d)) ++ List.replicate n none) (vs.map some ++ List.replicate n none) []
  | [], _, h, n => by
    cases h
    show DenE K Hs H (List.replicate n none) (List.replicate n none) []
    induction n with
    | zero => exact ⟨rfl, rfl⟩
    | succ n ih => exact ⟨none, _, rfl, ih⟩
  | d :: ds, _, ⟨v, r, e1, e2, e3⟩, n => by
    subst e1
    exact ⟨v, _, [], [], rfl, rfl, ⟨rfl, e2⟩, start_ok (N := N) e3 n⟩
section
variable {P : Program} {w : World} {K : PySem.W.Frag} {base : Heap}
theorem def_ok {x qual : Str} {st : Stmt} {f : Addr} {fd : FuncData} {N ps : List Str} {k : Nat} {b : Env' → Res Fl} (F : Fun K x qual st f fd) (S : FnScope N ps (defScope st)) (hN : ps.length ≤ N.length)
    (hb : ∀ (cdv : Value) (A : Around) (outer : List Env) (s : Shared) (H : Hp) (E : XK), Room k (A.deeper (envOfC qual (defScope st) s.heap.objs.size f cdv)) →
      Takes (cxOf (L2.CX P w) P w K mg base N qual (defScope st) f cdv A outer s H E) (fun cls d _ H => E cls d H) → PSs (cxOf (L2.CX P w) P w K mg base N qual (defScope st) f cdv A outer s H E) (defBody st) (tFS K mg (fun cls d _ H => E cls d H) b)) :
    FnOk P w K mg base (L2.CX P w) (k + 1) f fd ps (spP K mg ps.length (mirP ps.length N.length b)) := by
  refine F.okX S (fun vs H Q E h => h.1) fun cdv A outer s H vs Q E hr h => ⟨_, hb cdv A outer s H E hr (takes_of rfl rfl rfl rfl), ?_⟩
  obtain ⟨hl, Hs, ds, e, dl, po⟩ := h
  have l := dl.length
  refine ⟨(Hs, H), startE N.length ds, ⟨Hs, [], ⟨e, Same.refl _, Same.refl _, fun a _ h => ⟨h, by simp⟩, fun a ha => (by cases ha), by simp, ?_⟩⟩, ?_⟩
  · unfold startE L2.start
    rw [← l]
    exact start_ok (N := N) dl _
  · unfold mirP at po
    rw [if_pos (by omega)] at po
    have ext : ∀ {σ' H' ρ' Hs' fp'}, OkAt K (Hs, H) σ' H' ρ' Hs' fp' → Ext Hs H Hs' H' := fun ok => ⟨ok.base, ok.sh, ok.frame, fun a p1 p2 => (ok.priv a p1 p2).1⟩
    cases e0 : b (startE N.length ds) with
    | bad => rw [e0] at po; exact po
    | exc c ρ' => rw [e0] at po; exact fun σ' H' C hc ⟨Hs', fp', ok⟩ => po C Hs' H' hc (ext ok)
    | ok r =>
      rw [e0] at po
      cases r with
      | nx ρ' => exact fun σ' H' ⟨Hs', fp', ok⟩ => po _ Hs' H' (ext ok) rfl
      | rt t ρ' =>
        cases t with
        | sh d => exact fun v σ' H' Hs' fp' ft ok dt _ _ => po v Hs' H' (ext ok) dt.2
        | _ => exact po.elim
      | bk ρ' => exact po.elim
      | ct ρ' => exact po.elim
theorem def_okT {x qual : Str} {st : Stmt} {f : Addr} {fd : FuncData} {N ps : List Str} {k : Nat} {b : Env' → Res Fl} (F : Fun K x qual st f fd) (S : FnScope N ps (defScope st)) (hN : ps.length ≤ N.length)
    (hb : ∀ (cdv : Value) (A : Around) (outer : List Env) (s : Shared) (H : Hp) (E : XK), Room k (A.deeper (envOfC qual (defScope st) s.heap.objs.size f cdv)) →
      Takes (cxOf (L2.CX P w) P w K mg base N qual (defScope st) f cdv A outer s H E) (fun cls d _ H => E cls d H) → PSs (cxOf (L2.CX P w) P w K mg base N qual (defScope st) f cdv A outer s H E) (defBody st) (tFS K mg (fun cls d _ H => E cls d H) b)) :
    FnOk P w K mg base (L2.CX P w) (k + 1) f fd ps (spT K mg ps.length (mirT ps.length N.length b)) := by
  refine F.okX S (fun vs H Q E h => h.1) fun cdv A outer s H vs Q E hr h => ⟨_, hb cdv A outer s H E hr (takes_of rfl rfl rfl rfl), ?_⟩
  obtain ⟨hl, Hs, ds, e, dl, po⟩ := h
  have l := dl.length
  refine ⟨(Hs, H), startE N.length ds, ⟨Hs, [], ⟨e, Same.refl _, Same.refl _, fun a _ h => ⟨h, by simp⟩, fun a ha => (by cases ha), by simp, ?_⟩⟩, ?_⟩
  · unfold startE L2.start
    rw [← l]
    exact start_ok (N := N) dl _
  · unfold mirT at po
    rw [if_pos (by omega)] at po
    have ext : ∀ {σ' H' ρ' Hs' fp'}, OkAt K (Hs, H) σ' H' ρ' Hs' fp' → Ext Hs H Hs' H' := fun ok => ⟨ok.base, ok.sh, ok.frame, fun a p1 p2 => (ok.priv a p1 p2).1⟩
    cases e0 : b (startE N.length ds) with
    | bad => rw [e0] at po; exact po
    | exc c ρ' => rw [e0] at po; exact fun σ' H' C hc ⟨Hs', fp', ok⟩ => po C Hs' H' hc (ext ok)
    | ok r =>
      rw [e0] at po
      cases r with
      | nx ρ' => exact po.elim
      | rt t ρ' => exact fun v σ' H' Hs' fp' ft ok dt nd q => po v Hs' H' ft (ext ok) dt nd fun a ha => ⟨(q a ha).1, (q a ha).2.2⟩
      | bk ρ' => exact po.elim
      | ct ρ' => exact po.elim
end
end
end FL

namespace FL
open PySem PySem.Spec PyProof.Rows L2

section
variable {X : Cx} {mg : Str → Option Value} {W : WX} {a b c : Expr} {fa fb fc : Env' → Res (RV × Env')} {na nb : Env' → Res (T × Env')} {ta : Env' → Res (Bool × Env')} {pos p : Pos}
/-! ### isinstance -/
noncomputable def D.tyN : D → Option String
  | .non => some "NoneType"
  | .bl _ => some "bool"
  | .int _ => some "int"
  | .str _ => some "str"
  | .lst _ => some "list"
  | .fz _ => some "list"
  | .tup _ => some "tuple"
  | .dic _ _ => some "dict"
  | .dit _ _ => some "dict"
  | .ty _ => none
noncomputable def isT : String → String → Bool
  | "bool", "int" => true
  | a, b => a == b
noncomputable def D.isinst : List D → Option D
  | [d, .ty n] => if n = "int" ∨ n = "bool" ∨ n = "str" ∨ n = "tuple" ∨ n = "list" ∨ n = "dict" then d.tyN.map fun m => .bl (isT m n) else none
  | _ => none
theorem tyX_den {K Hs H d v m} (e : Same Hs H) (h : Den1 K Hs H d v) (q : d.tyN = some m) : TyX K H v (.type m) := by
  cases d with
  | non => cases h; cases q; exact .base .non
  | bl b => cases h; cases q; exact .base (.bl _)
  | int b => cases h; cases q; exact .base (.int _)
  | ty b => cases q
  | str b => obtain ⟨rfl, _⟩ := h; cases q; exact .base (.str _)
  | tup b =>
    obtain ⟨a, vs, rfl, h1, h2⟩ := h
    cases q
    rcases e.seqT h1 with (h | ⟨o, h⟩) | ⟨o, its, n, h1, h2, _⟩
    · exact .base (.tup h)
    · exact .fTuple h
    · exact .kTuple h1 h2
  | lst b => obtain ⟨a, vs, rfl, h1, h2⟩ := h; cases q; exact .base (.lst h1)
  | fz b =>
    obtain ⟨a, vs, rfl, h1, h2⟩ := h
    cases q
    rcases e.seq h1 with (h | ⟨o, h⟩) | ⟨o, its, n, h1, h2, _⟩
    · exact .base (.lst h)
    · exact .base (.frz h)
    · exact .kList h1 h2
  | dic ks b => obtain ⟨a, kv, rfl, h1, h2, h3⟩ := h; cases q; exact .base (.dK h1)
  | dit ks b => obtain ⟨a, kv, rfl, h1, h2, h3⟩ := h; cases q; exact .base (.dT h1)
theorem kit_isT {m n : String} (hm : m = "NoneType" ∨ m = "bool" ∨ m = "int" ∨ m = "str" ∨ m = "list" ∨ m = "tuple" ∨ m = "dict") (hn : n = "int" ∨ n = "bool" ∨ n = "str" ∨ n = "tuple" ∨ n = "list" ∨ n = "dict") : kitB m n = some (isT m n) := by
  rcases hm with rfl | rfl | rfl | rfl | rfl | rfl | rfl <;> rcases hn with rfl | rfl | rfl | rfl | rfl | rfl <;> decide +kernel
theorem cd_isinst : CallD X (.builtin "isinstance") D.isinst := by
  rintro pins s σ H xs us Q I r ⟨Hs, ds, d, e, h1, h2, q⟩
  unfold D.isinst at h2
  split at h2
  · split at h2
    · rename_i d0 n hn
      simp only [Option.map_eq_some_iff] at h2
      obtain ⟨m, h3, rfl⟩ := h2
      obtain ⟨v, w, rfl, k1, k2⟩ := h1.d2
      cases (show w = .ty n from k2)
      refine call_isi pins s σ H _ us Q I r ⟨v, .ty n, .type m, .type n, isT m n, rfl, .ty n, tyX_den e k1 h3, kit_ty (kit_isT ?_ hn), q _ _ _ (.refl e) rfl⟩
      cases d0 <;> cases h3 <;> simp
    · cases h2
  · cases h2
/-- a built-in class as a value -/
theorem fo_ty {x : Str} {n : String} (hg : Gl X x) (hm : X.mg x = none) (hv : bootBuiltins x = some (.type n)) (hn : x ≠ "__name__" := by decide) (hdb : (x == ("__debug__" : Str)) = false := by decide) : PE X (.Name x pos) (tFO X.K mg W (eC (.ty n))) :=
  fo_c (pe_bltn hg hm hv (v := .ty n) rfl hn hdb) fun _ => rfl

/-! ### methods of built-in types -/
noncomputable def MtD (X : Cx) (id : String) (g : D → List D → Option D) : Prop :=
  MtR X id fun x xs H Q => ∃ Hs d ds e, Same Hs H ∧ Den1 X.K Hs H d x ∧ Den1L X.K Hs H ds xs ∧ g d ds = some e ∧ ∀ v Hs' H', Ext Hs H Hs' H' → Den X.K Hs' e v → Q v H'
noncomputable def D.isTy : String → D → Bool
  | "str", .str _ => true
  | "list", .lst _ => true
  | "list", .fz _ => true
  | _, _ => false
theorem tyV_den {K Hs H T d v} (e : Same Hs H) (h : Den1 K Hs H d v) (q : D.isTy T d = true) : tyV K T v H := by
  unfold D.isTy at q
  split at q
  · obtain ⟨rfl, _⟩ := h; rfl
  · obtain ⟨a, vs, rfl, h1, h2⟩ := h; exact .inl ⟨rfl, vs, SqL.lst h1⟩
  · obtain ⟨a, vs, rfl, h1, h2⟩ := h; exact .inl ⟨rfl, vs, e.seq h1⟩
  · cases q
noncomputable def eM (T : String) (g : D → List D → Option D) (fa : Env' → Res (RV × Env')) (fs : Env' → Res (List RV × Env')) : Env' → Res (RV × Env') := fun ρ =>
  (fa ρ).bind fun (r, ρ1) => (Res.of (look ρ1 r)).bind fun d0 => if D.isTy T d0 = true then (fs ρ1).bind fun (rs, ρ2) => (Res.of (look ρ2 r)).bind fun d => (Res.of (looks ρ2 rs)).bind fun ds => (Res.of (g d ds)).bind fun e => .ok (.leaf e, ρ2) else .bad
section
variable {T id : String} {name : Str} {apos cpos : Pos} {o e : Expr} {es : List Expr} {g : D → List D → Option D} {fs : Env' → Res (List RV × Env')}
theorem fo_m (pa : PlainAttrs T) (slot : Slot T name id) (hty : typeOf (.builtin id) = pure (.type "method_descriptor")) (hm : MtD X id g) (ho : PE X o (tFO X.K mg W fa)) (ha : PA X (e :: es) (tFA X.K mg W fs))
    (hbase : attributeBase o name X.env (eval o X.env) = eval o X.env := by rfl)
    (hfew : ((backTo cpos (starEach (e :: es) X.env)).all (fun x => !x.1) && (backToKw cpos (keywordEach [] X.env)).all (fun x => x.1.isSome)
      && decide ((e :: es).length + ([] : List Keyword).length + (if ([] : List Keyword).isEmpty then 0 else 1) < 30)) = true := by rfl)
    (hline : (apos.endLine == cpos.line) = true := by rfl) (hs : starEach (e :: es) X.env = (false, eval e X.env) :: starEach es X.env := by rfl) (hplain : (backTo cpos (starEach es X.env)).any (·.1) = false := by rfl) :
    PE X (.Call (.Attribute o name apos) (e :: es) [] cpos) (tFO X.K mg W (eM T g fa fs)) := by
  refine (pe_bm pa slot hty hm ho ha hbase hfew hline hs hplain).imp fun σ H Q ⟨G, ρ, ⟨Hs, fp, ok⟩, po⟩ => ?_
  refine goE ok po (fun _ _ h => h) (fun h => h) fun r1 ρ1 x H1 Hs1 fp1 ok1 dx po1 => ?_
  have ok1' := ok.back ok1
  cases e0 : look ρ1 r1 with
  | none => simp only [e0] at po1; exact po1.elim
  | some d0 =>
    simp only [e0, of_some, bind_ok] at po1
    split at po1
    · rename_i ht
      refine ⟨tyV_den ok1'.sh (look_den ok1' dx e0) ht, goA ok1' po1 (fun _ _ h => h) (fun h => h) fun rs ρ2 ys H2 Hs2 fp2 ok2 dy po2 => ?_⟩
      have ok2' := ok1'.back ok2
      have dx' : RVd X.K Hs2 σ r1 x := dx.mono ok2.base
      cases e1 : look ρ2 r1 with
      | none => simp only [e1] at po2; exact po2.elim
      | some d =>
        cases e2 : looks ρ2 rs with
        | none => simp only [e1, e2] at po2; exact po2.elim
        | some ds =>
          cases e3 : g d ds with
          | none => simp only [e1, e2, e3, of_some, bind_ok] at po2; exact po2.elim
          | some z =>
            simp only [e1, e2, e3, of_some, bind_ok] at po2
            exact ⟨Hs2, d, ds, z, ok2'.sh, look_den ok2' dx' e1, looks_den ok2' dy e2, e3, fun v Hs' H' ex dv => po2 v H' Hs' fp2 (ok2'.ext ex) dv⟩
    · exact po1.elim
end
noncomputable def D.lindex : D → List D → Option D
  | .lst ds, [d] => if d.flat = true ∧ ds.all D.flat = true then (ds.findIdx? fun z => D.eqb z d).map fun j => .int (j : Nat) else none
  | _, _ => none
theorem md_lindex : MtD X "list.index" D.lindex := by
  rintro pins s σ H x xs v us Q I rx rxs ⟨Hs, d, ds, e, hs, h1, h2, g, q⟩
  unfold D.lindex at g
  split at g
  · rename_i es d0
    split at g
    · rename_i hc
      simp only [Option.map_eq_some_iff] at g
      obtain ⟨j, hj, rfl⟩ := g
      obtain ⟨a, vs, rfl, k1, k2⟩ := h1
      obtain ⟨w, rfl, dw⟩ := h2.d1
      have dw' := dw.full hs
      have k3 := k2.mono hs
      obtain ⟨hlt, hp, hbefore⟩ := List.findIdx?_eq_some_iff_getElem.mp hj
      obtain ⟨z, hz, dz⟩ := k3.get (List.getElem?_eq_getElem hlt)
      have fl : ∀ z ∈ es, D.flat z = true := List.all_eq_true.mp hc.2
      refine mt_index pins s σ H _ _ v us Q I rx rxs ⟨a, vs, w, j, z, rfl, rfl, SqL.lst k1, flat_den dw' hc.1, flats_den k3 hc.2, hz, by rw [eqV_den dz dw' (fl _ (List.getElem_mem hlt)) hc.1]; exact hp, fun m z' hm hz' => ?_, q _ _ _ (.refl hs) rfl⟩
      have hml : m < es.length := by omega
      obtain ⟨z2, hz2, dz2⟩ := k3.get (List.getElem?_eq_getElem hml)
      rw [hz'] at hz2
      cases hz2
      rw [eqV_den dz2 dw' (fl _ (List.getElem_mem hml)) hc.1]
      simpa using hbefore m hm
    · cases g
  · cases g
noncomputable def D.sindex : D → List D → Option D
  | .str x, [.str y] => match Builtin.Str.occurrences x y 0 x.length 1 with
    | i :: _ => some (.int (i : Nat))
    | [] => none
  | _, _ => none
theorem md_sindex : MtD X "str.index" D.sindex := by
  rintro pins s σ H x xs v us Q I rx rxs ⟨Hs, d, ds, e, hs, h1, h2, g, q⟩
  unfold D.sindex at g
  split at g
  · split at g
    · rename_i i r ho
      cases g
      obtain ⟨rfl, _⟩ := h1
      obtain ⟨w, rfl, rfl, _⟩ := h2.d1
      exact mt_sindex pins s σ H _ _ v us Q I rx rxs ⟨_, _, i, r, rfl, rfl, ho, q _ _ _ (.refl hs) rfl⟩
    · cases g
  · cases g
noncomputable def D.scount : D → List D → Option D
  | .str x, [.str y] => some (.int (Txt.count x y))
  | _, _ => none
theorem md_scount : MtD X "str.count" D.scount := by
  rintro pins s σ H x xs v us Q I rx rxs ⟨Hs, d, ds, e, hs, h1, h2, g, q⟩
  unfold D.scount at g
  split at g
  · cases g
    obtain ⟨rfl, _⟩ := h1
    obtain ⟨w, rfl, rfl, _⟩ := h2.d1
    exact mt_count pins s σ H _ _ v us Q I rx rxs ⟨_, _, rfl, rfl, q _ _ _ (.refl hs) rfl⟩
  · cases g
end

/-! ### enumerate of a tuple, of a text -/
end FL
namespace PySem
open PySem.Spec AutoSeq1
theorem meets_enumerate_newT (l : Addr) (items : Array Value) (o : Obj) (hc : o.cls = .type "tuple") (n : Nat) (hd : o.data = .seq items n) :
    Meets (Builtin.«enumerate.__new__» ⟨[.type "enumerate", .ref l], []⟩) (fun _ R s => s.heap.get? l = some o ∧
      R (.ok (.ret (.ref (s.heap.push { cls := .type "tuple_iterator", data := .fields #[.ref l, .int 0 0] }).objs.size)))
        { s with heap := (s.heap.push { cls := .type "tuple_iterator", data := .fields #[.ref l, .int 0 0] }).push { cls := .type "enumerate", data := .fields #[.none, .bool false, .ref s.heap.objs.size, rawInt 0, .none, .none] } }) :=
  .of_wp fun prog w A R s h => by
    obtain ⟨hp, g, d, tk, os⟩ := s; obtain ⟨hl, h⟩ := h
    have hsub := sub_enumerate
    have hL : Heap.IsTuple (Shared.heap ⟨hp, g, d, tk, os⟩) l items := ⟨_, hl, hc, n, hd⟩
    wp_walk
    refine wpAny_stack_any fun st => wpAny_pure ?_
    split
    · rename_i c _ _ _ _ _
      cases (c == Value.type "enumerate")
      · wp_walk using wpAny_pyIter_tuple hL
        exact ⟨_, rfl, h⟩
      · wp_walk using wpAny_pyIter_tuple hL
        exact ⟨_, rfl, h⟩
    · wp_walk using wpAny_pyIter_tuple hL
      exact ⟨_, rfl, h⟩
end PySem
namespace PySem
open PySem.Spec AutoSeq1
section
variable {prog : Program} {w : World} {A : Around} {E : Value → Shared → Prop} {s : Shared}
theorem call_enumerate_tuple {l : Addr} {items : Array Value} {Q : Value → Shared → Prop} (hL : s.heap.IsTuple l items)
    (h : ∀ h', IsEnum h' (s.heap.objs.size + 1) s.heap.objs.size 0 .none → h'.IsTupleIter s.heap.objs.size l 0 → h'.objs.size = s.heap.objs.size + 2 →
      (∀ b o, s.heap.get? b = some o → h'.get? b = some o) → Q (.ref (s.heap.objs.size + 1)) { s with heap := h' }) :
    wpAny (model prog w) A (call (.type "enumerate") [.ref l]) Q E s := by
  obtain ⟨o, hl, hc, n, hd⟩ := hL
  refine callType_new F.called_enumerate (by decide) (F.typeCall_enumerate_1 _) (F.newCall_enumerate_1 _) (fun obj => F.args_object_init_2 obj _) F.entry_enumerate_new
    (meets_enumerate_newT l items o hc n hd) ⟨hl, ?_⟩
  have hz : (s.heap.push { cls := .type "tuple_iterator", data := .fields #[.ref l, .int 0 0] }).objs.size = s.heap.objs.size + 1 := Heap.size_push ..
  show _ ∧ _
  rw [hz]
  have he : IsEnum ((s.heap.push { cls := .type "tuple_iterator", data := .fields #[.ref l, .int 0 0] }).push
      { cls := .type "enumerate", data := .fields #[.none, .bool false, .ref s.heap.objs.size, rawInt 0, .none, .none] }) (s.heap.objs.size + 1) s.heap.objs.size 0 .none := by
    have := Heap.get?_push_size (s.heap.push { cls := .type "tuple_iterator", data := .fields #[.ref l, .int 0 0] })
      (o := { cls := .type "enumerate", data := .fields #[.none, .bool false, .ref s.heap.objs.size, rawInt 0, .none, .none] }) rfl
    rw [hz] at this; exact this
  refine ⟨⟨_, he, rfl⟩, h _ he ⟨_, Heap.get?_push_of_some _ (Heap.get?_push_size _ rfl), rfl, rfl⟩ (by rw [Heap.size_push, hz]) fun b o x => Heap.get?_push_of_some _ (Heap.get?_push_of_some _ x)⟩
theorem wpAny_pyNext_enum_endT {e it l : Addr} {i : Nat} {items : Array Value} {old : Value} {Q : Option Value → Shared → Prop} (hh : A.handled = none)
    (he : IsEnum s.heap e it i old) (hit : s.heap.IsTupleIter it l i) (hl : s.heap.IsTuple l items) (hx : items[i]? = none)
    (hQ : ∀ h', Heap.ExtBut it s.heap h' → Q none { s with heap := h' }) : wpAny (model prog w) A (pyNext (.ref e)) Q E s := by
  have hT : s.TypeIs (.ref e) "enumerate" := ⟨_, he, rfl⟩
  unfold pyNext
  refine wpAny_bind (wpAny_attempt (wpAny_callSpecial?_slot (name := Str.ofString "__next__") hT F.slot_enumerate_next
    (wpAny_call_entry F.slot_enumerate_next hT F.entry_enumerate_next ?_ (F.args_enumerate_next_1 _))))
  show wpAny _ _ (field (.ref e) 2 >>= _) _ _ _
  refine wpAny_bind (wpAny_field he rfl (x := .ref it) rfl ?_)
  refine wpAny_bind (wpAny_nextOf_tuple_end hh hit hl hx fun h' x he' hx' => ?_)
  obtain ⟨o, ho, hc⟩ := hx'
  refine wpAny_bind (wpAny_isInstance (T := "StopIteration") (b := true) ⟨o, ho, hc⟩ isSubtype_stop ?_)
  exact wpAny_pure (hQ _ he')
end
end PySem
namespace FL
open PySem PySem.Spec PyProof.Rows L2
noncomputable def ItEt (K : PySem.W.Frag) (a : Addr) : It :=
  ⟨fun i H => ∃ (xs : List V) (x : V), SqT K H a xs ∧ xs[i]? = some x, fun i H v H' => ∃ T x, v = .ref T ∧ H T = none ∧ H' = upd H T (.tup [.int (i : Nat), x]) ∧ ∀ xs, SqT K H a xs → xs[i]? = some x, fun i H => ∃ xs : List V, SqT K H a xs ∧ xs.length ≤ i⟩
theorem turn_enumT {P : Program} {w : World} {K : PySem.W.Frag} {elts : List Expr} {kk : Nat} {tpos : Pos} (a e it : Addr) :
    Turn P w K (.Tuple elts kk tpos) (ItEt K a) [e, it] e (fun i h => (∃ old, IsEnum h e it ((i : Nat) : Int) old) ∧ h.IsTupleIter it a i ∧ e ≠ it) where
  mem := by simp
  obj := fun i h st b hb => by
    obtain ⟨⟨old, he⟩, ⟨o, ho, hc, hd⟩, _⟩ := st
    have e' : b = e ∨ b = it := by simpa using hb
    rcases e' with z | z
    · rw [z]; exact ⟨_, he, fun v q => nomatch q⟩
    · rw [z]; exact ⟨o, ho, fun v q => by rw [hd] at q; cases q⟩
  keep := fun i h h' st k => let ⟨⟨old, he⟩, hi, hne⟩ := st; ⟨⟨old, k e (by simp) _ he⟩, hi.at fun o q => k it (by simp) o q, hne⟩
  item := by
    intro X hP hw hK hc i pins s σ H E I hf st hg
    subst hP hw hK
    obtain ⟨⟨old, he⟩, hit, hne⟩ := st
    obtain ⟨xs, x, hq, hx⟩ := hg
    obtain ⟨its, rv, p, hz⟩ := I.tuple hq
    obtain ⟨u, hu, ru⟩ := rv.get hx
    have hel : e < s.heap.objs.size := Heap.lt_size he
    have hil : it < s.heap.objs.size := by obtain ⟨_, q, _⟩ := hit; exact Heap.lt_size q
    have pt : s.heap.IsTuple a its.toArray := p
    have hai : a ≠ it := fun z => by
      obtain ⟨o1, q1, c1, _⟩ := pt
      obtain ⟨o2, q2, c2, _⟩ := hit
      rw [z, q2] at q1
      cases q1
      rw [c2] at c1
      exact absurd c1 (by simp)
    have hae : e ≠ a := fun z => by
      obtain ⟨o1, q1, c1, _⟩ := pt
      rw [← z, show s.heap.get? e = _ from he] at q1
      cases q1
      exact absurd c1 (by simp)
    refine wpAny_pyNext_enum_itemD (Draws.tuple (A := X.A.in1) (I.ok.hd hc) it a hai its.toArray) he ⟨hit, pt⟩ (by
      have := (List.getElem?_eq_some_iff.mp hu).1
      simpa using this) hne (by simp [hne, hae]) fun u' h' tk hP ho hit' hT hsz hk => ?_
    have eu : u' = u := by
      have : its[i]? = some u' := by simpa using hP
      rw [hu] at this
      exact (Option.some.inj this).symm
    subst eu
    refine ⟨_, rfl, wpAny_letOwnedTupleGo_enum (s := { s with heap := h', toks := tk + 1 }) ho fun h'' he' sb => ?_⟩
    have hT2 : h''.get? s.heap.objs.size = some { cls := .type "tuple", data := .seq #[.int i tk, u'] } := (sb.2 _ (Nat.ne_of_gt hel)).trans hT
    have new : ObjOk X.prog X.w (upd H s.heap.objs.size (.tup [.int (i : Nat), x])) h'' s.heap.objs.size (.tup [.int (i : Nat), x]) :=
      ⟨by show 2 ≤ sizeLine; decide, [.int i tk, u'], .cons ⟨_, rfl⟩ (.cons ru .nil), ⟨_, hT2, rfl, _, rfl⟩⟩
    have I1 : Inv X pins σ (upd H s.heap.objs.size (.tup [.int (i : Nat), x])) { s with heap := h'', toks := tk + 1 } :=
      I.turnedNew (ch := [e, it]) (fun b ob hb q => (sb.2 b (fun z => hb (by simp [z]))).trans (hk b ob (fun z => hb (by simp [z])) (fun z => hb (by simp [z])) q)) hf (Nat.le_refl _) new
    refine ⟨.ref s.heap.objs.size, _, I1, rfl, ⟨_, x, rfl, I.hok.fresh (Nat.le_refl _), rfl, fun ys hy => by rw [I.tuple_inj hy hq]; exact hx⟩, ⟨⟨u', ?_⟩, hit'.1.at fun o q => (sb.2 it (Ne.symm hne)).trans q, hne⟩, fun b hb => ?_⟩
    · have e1 : ((i + 1 : Nat) : Int) = (i : Int) + 1 := by omega
      rw [e1]; exact he'
    · have hb' : b < s.heap.objs.size := by
        have e' : b = e ∨ b = it := by simpa using hb
        rcases e' with z | z
        · rw [z]; exact hel
        · rw [z]; exact hil
      rw [upd_ne (Nat.ne_of_lt hb')]
      exact (hf b hb).1
  done := by
    intro X hP hw hK hc i pins s σ H E I hf st hg
    subst hP hw hK
    obtain ⟨⟨old, he⟩, hit, hne⟩ := st
    obtain ⟨xs, hq, hx⟩ := hg
    obtain ⟨its, rv, p, hz⟩ := I.tuple hq
    have pt : s.heap.IsTuple a its.toArray := p
    have hai : a ≠ it := fun z => by
      obtain ⟨o1, q1, c1, _⟩ := pt
      obtain ⟨o2, q2, c2, _⟩ := hit
      rw [z, q2] at q1
      cases q1
      rw [c2] at c1
      exact absurd c1 (by simp)
    obtain ⟨f0, f1, f2, f3, f4, f5⟩ := hf it (by simp)
    have hl := rv.length
    refine wpAny_pyNext_enum_endT (I.ok.hd hc) he hit pt (by simp; omega) fun h' eb => ⟨rfl, I.turned (t' := s.toks) (fun b o hb q => eb b o hb q) f0 f1 f3 f4 f5⟩
  self := fun A i s Q E st h => let ⟨⟨_, he⟩, _⟩ := st; wpAny_pyIter_enum he h
noncomputable def iEnumT (K : PySem.W.Frag) (ta : TA) : TI := fun σ H R => ta σ H fun vs H1 => ∃ a xs, vs = [.ref a] ∧ SqT K H1 a xs ∧ R (ItEt K a) H1
theorem pi_enumT {X : Cx} {e : Expr} {ta : TA} {p pos tpos : Pos} {elts : List Expr} {kk : Nat} (hg : Gl X "enumerate") (hm : X.mg "enumerate" = none) (ha : PA X [e] ta) (hs : starEach [e] X.env = [(false, eval e X.env)] := by rfl) :
    PI X (.Tuple elts kk tpos) (.Call (.Name "enumerate" p) [e] [] pos) (iEnumT X.K ta) := by
  refine ⟨fun pins s σ H R I h => ?_⟩
  refine Call_ (ld_blt I hg hm boot_enumerate (PyProof.Rows.callWith_type1 (thn (ha.run pos pins s σ H _ I h) fun us s1 ⟨vs, H1, I1, r1, q1⟩ => ?_) hs rfl))
  obtain ⟨a, xs, ex, hq, q⟩ := q1
  subst ex
  cases r1 with
  | cons r rr =>
    cases rr
    cases r
    obtain ⟨its, rv, p', hz⟩ := I1.tuple hq
    refine call_enumerate_tuple (items := its.toArray) p' fun h' he hit hsz hk => wpAny_pyIter_enum he ?_
    have I2 : Inv X pins σ H1 { s1 with heap := h' } := I1.kept (t' := s1.toks) hk
    refine ⟨s1.heap.objs.size + 1, [s1.heap.objs.size + 1, s1.heap.objs.size], _, _, H1, rfl, I2, turn_enumT a (s1.heap.objs.size + 1) s1.heap.objs.size, ⟨⟨.none, he⟩, hit, Nat.succ_ne_self _⟩, fun b hb => ?_, q⟩
    have e' : b = s1.heap.objs.size + 1 ∨ b = s1.heap.objs.size := by simpa using hb
    have hle : s1.heap.objs.size ≤ b := by
      rcases e' with z | z
      · rw [z]; exact Nat.le_add_right _ _
      · rw [z]; exact Nat.le_refl _
    exact I1.fpOk hle (I1.hok.fresh hle)
/-- a text's signs with their numbers -/
noncomputable def ItEs (x : Str) : It := ⟨fun i _ => i < x.cps.size, fun i H v H' => ∃ T c, v = .ref T ∧ H T = none ∧ H' = upd H T (.tup [.int (i : Nat), .str ⟨#[c]⟩]) ∧ x.cps[i]? = some c, fun i _ => x.cps.size ≤ i⟩
theorem turn_enumS {P : Program} {w : World} {K : PySem.W.Frag} {elts : List Expr} {kk : Nat} {tpos : Pos} (x : Str) (t : Tok) (e it : Addr) :
    Turn P w K (.Tuple elts kk tpos) (ItEs x) [e, it] e (fun i h => (∃ old, IsEnum h e it ((i : Nat) : Int) old) ∧ h.IsStrIter it (strIterType x) x t i ∧ e ≠ it) where
  mem := by simp
  obj := fun i h st b hb => by
    obtain ⟨⟨old, he⟩, ⟨o, ho, hc, hd⟩, _⟩ := st
    have e' : b = e ∨ b = it := by simpa using hb
    rcases e' with z | z
    · rw [z]; exact ⟨_, he, fun v q => nomatch q⟩
    · rw [z]; exact ⟨o, ho, fun v q => by rw [hd] at q; cases q⟩
  keep := fun i h h' st k => let ⟨⟨old, he⟩, ⟨o, ho, r⟩, hne⟩ := st; ⟨⟨old, k e (by simp) _ he⟩, ⟨o, k it (by simp) o ho, r⟩, hne⟩
  item := by
    intro X hP hw hK hc i pins s σ H E I hf st hg
    subst hP hw hK
    obtain ⟨⟨old, he⟩, hit, hne⟩ := st
    have hel : e < s.heap.objs.size := Heap.lt_size he
    have hil : it < s.heap.objs.size := by obtain ⟨_, q, _⟩ := hit; exact Heap.lt_size q
    refine wpAny_pyNext_enum_itemD (Draws.text (A := X.A.in1) (I.ok.hd hc) it x t) he hit hg hne (by simp [hne]) fun u' h' tk hP ho hit' hT hsz hk => ?_
    obtain ⟨c, u, hcx, rfl⟩ := hP
    refine ⟨_, rfl, wpAny_letOwnedTupleGo_enum (s := { s with heap := h', toks := tk + 1 }) ho fun h'' he' sb => ?_⟩
    have hT2 : h''.get? s.heap.objs.size = some { cls := .type "tuple", data := .seq #[.int i tk, .str ⟨#[c]⟩ u] } := (sb.2 _ (Nat.ne_of_gt hel)).trans hT
    have new : ObjOk X.prog X.w (upd H s.heap.objs.size (.tup [.int (i : Nat), .str ⟨#[c]⟩])) h'' s.heap.objs.size (.tup [.int (i : Nat), .str ⟨#[c]⟩]) :=
      ⟨by show 2 ≤ sizeLine; decide, [.int i tk, .str ⟨#[c]⟩ u], .cons ⟨_, rfl⟩ (.cons ⟨_, rfl⟩ .nil), ⟨_, hT2, rfl, _, rfl⟩⟩
    have I1 : Inv X pins σ (upd H s.heap.objs.size (.tup [.int (i : Nat), .str ⟨#[c]⟩])) { s with heap := h'', toks := tk + 1 } :=
      I.turnedNew (ch := [e, it]) (fun b ob hb q => (sb.2 b (fun z => hb (by simp [z]))).trans (hk b ob (fun z => hb (by simp [z])) (fun z => hb (by simp [z])) q)) hf (Nat.le_refl _) new
    refine ⟨.ref s.heap.objs.size, _, I1, rfl, ⟨_, c, rfl, I.hok.fresh (Nat.le_refl _), rfl, hcx⟩, ⟨⟨.str ⟨#[c]⟩ u, ?_⟩, ?_, hne⟩, fun b hb => ?_⟩
    · have e1 : ((i + 1 : Nat) : Int) = (i : Int) + 1 := by omega
      rw [e1]; exact he'
    · obtain ⟨o, ho, r⟩ := hit'
      exact ⟨o, (sb.2 it (Ne.symm hne)).trans ho, r⟩
    · have hb' : b < s.heap.objs.size := by
        have e' : b = e ∨ b = it := by simpa using hb
        rcases e' with z | z
        · rw [z]; exact hel
        · rw [z]; exact hil
      rw [upd_ne (Nat.ne_of_lt hb')]
      exact (hf b hb).1
  done := by
    intro X hP hw hK hc i pins s σ H E I hf st hg
    subst hP hw hK
    obtain ⟨⟨old, he⟩, hit, hne⟩ := st
    obtain ⟨f0, f1, f2, f3, f4, f5⟩ := hf it (by simp)
    have hlt : it < s.heap.objs.size := by obtain ⟨_, q, _⟩ := hit; exact Heap.lt_size q
    have D := Draws.text (prog := X.prog) (w := X.w) (A := X.A.in1) (I.ok.hd hc) it x t
    have hi : i = x.cps.size ∨ x.cps.size < i := by
      have : x.cps.size ≤ i := hg
      omega
    have D' : Draws X.prog X.w X.A.in1 it [it] i (fun i v => ∃ c u, x.cps[i]? = some c ∧ v = .str ⟨#[c]⟩ u ∧ False) (fun j h => j = i ∧ h.IsStrIter it (strIterType x) x t i) := by
      refine ⟨fun _ _ st => let ⟨_, o, ho, _⟩ := st; ⟨o, ho⟩, fun _ _ _ st hk => let ⟨e1, o, ho, r⟩ := st; ⟨e1, o, hk it (by simp) o ho, r⟩, fun j s Q E hj st => absurd st.1 (Nat.ne_of_lt hj), fun s Q E st hE => ?_⟩
      have hx : x.cps[i]? = none := Array.getElem?_eq_none hg
      have st2 := st.2
      cases ha : x.cps.all (· < 128)
      · simp only [strIterType, ha, Bool.false_eq_true, if_false] at st2
        exact wpAny_nextOf_wide_end (I.ok.hd hc) st2 hx hE
      · simp only [strIterType, ha, if_true] at st2
        exact wpAny_nextOf_ascii_end (I.ok.hd hc) st2 hx hE
    exact wpAny_pyNext_enum_endD D' he ⟨rfl, hit⟩ fun h' eb => ⟨rfl, I.turned (t' := s.toks) (fun b o hb q => eb b o hb q) f0 f1 f3 f4 f5⟩
  self := fun A i s Q E st h => let ⟨⟨_, he⟩, _⟩ := st; wpAny_pyIter_enum he h
noncomputable def iEnumS (ta : TA) : TI := fun σ H R => ta σ H fun vs H1 => ∃ x, vs = [.str x] ∧ R (ItEs x) H1
theorem pi_enumS {X : Cx} {e : Expr} {ta : TA} {p pos tpos : Pos} {elts : List Expr} {kk : Nat} (hg : Gl X "enumerate") (hm : X.mg "enumerate" = none) (ha : PA X [e] ta) (hs : starEach [e] X.env = [(false, eval e X.env)] := by rfl) :
    PI X (.Tuple elts kk tpos) (.Call (.Name "enumerate" p) [e] [] pos) (iEnumS ta) := by
  refine ⟨fun pins s σ H R I h => ?_⟩
  refine Call_ (ld_blt I hg hm boot_enumerate (PyProof.Rows.callWith_type1 (thn (ha.run pos pins s σ H _ I h) fun us s1 ⟨vs, H1, I1, r1, q1⟩ => ?_) hs rfl))
  obtain ⟨x, ex, q⟩ := q1
  subst ex
  cases r1 with
  | cons r rr =>
    cases rr
    obtain ⟨t, rfl⟩ := r
    refine call_enumerate_str (x := x) (t := t) fun h' he hit hsz hk => wpAny_pyIter_enum he ?_
    have I2 : Inv X pins σ H1 { s1 with heap := h' } := I1.kept (t' := s1.toks) hk
    refine ⟨s1.heap.objs.size + 1, [s1.heap.objs.size + 1, s1.heap.objs.size], _, _, H1, rfl, I2, turn_enumS x t (s1.heap.objs.size + 1) s1.heap.objs.size, ⟨⟨.none, he⟩, hit, Nat.succ_ne_self _⟩, fun b hb => ?_, q⟩
    have e' : b = s1.heap.objs.size + 1 ∨ b = s1.heap.objs.size := by simpa using hb
    have hle : s1.heap.objs.size ≤ b := by
      rcases e' with z | z
      · rw [z]; exact Nat.le_add_right _ _
      · rw [z]; exact Nat.le_refl _
    exact I1.fpOk hle (I1.hok.fresh hle)
noncomputable def enumFrom : Nat → List D → List D
  | _, [] => []
  | n, d :: ds => .tup [.int (n : Nat), d] :: enumFrom (n + 1) ds
theorem enumFrom_length : ∀ (n : Nat) (ds : List D), (enumFrom n ds).length = ds.length
  | _, [] => rfl
  | n, d :: ds => by simp [enumFrom, enumFrom_length (n + 1) ds]
theorem enumFrom_get : ∀ (n : Nat) (ds : List D) (i : Nat), (enumFrom n ds)[i]? = ds[i]?.map fun d => .tup [.int ((n + i : Nat) : Int), d]
  | n, [], i => by simp [enumFrom]
  | n, d :: ds, 0 => by simp [enumFrom]
  | n, d :: ds, i + 1 => by
    simp only [enumFrom, List.getElem?_cons_succ, enumFrom_get (n + 1) ds i]
    congr 2
    funext d
    congr 3
    omega
/-- a new pair of shared things -/
theorem ext_pair {K Hs H T i x d} (e : Same Hs H) (hT : H T = none) (dx : Den K Hs d x) : Ext Hs H (upd Hs T (.tup [.int i, x])) (upd H T (.tup [.int i, x])) ∧ Den K (upd Hs T (.tup [.int i, x])) (.tup [.int i, d]) (.ref T) := by
  have ex := Ext.new (o := .tup [.int i, x]) e hT
  exact ⟨ex, T, _, rfl, .inl (.inl upd_same), .int i, [x], rfl, rfl, x, [], rfl, dx.mono ex.s, rfl⟩
theorem iter_enumL {K Hs a vs ds} (h : SqL K Hs a vs) (hd : DenL K Hs ds vs) : IterOf K (Ite K a) (enumFrom 0 ds) Hs := fun i Hs1 H e1 e2 => by
  have s1 := e2.seq (e1.seq h)
  have l := hd.length
  rw [enumFrom_length]
  refine ⟨fun hi => ?_, fun hi => ⟨vs, s1, by omega⟩⟩
  obtain ⟨v, hv, dv⟩ := (hd.mono e1).get (List.getElem?_eq_getElem hi)
  refine ⟨⟨vs, v, s1, hv⟩, fun x H' ⟨T, y, ex, hT, eH, q⟩ => ?_⟩
  have := q vs s1
  rw [hv] at this
  cases this
  subst ex; subst eH
  obtain ⟨k1, k2⟩ := ext_pair (i := (i : Nat)) e2 hT dv
  refine ⟨_, k1, fun d hd => ?_⟩
  rw [enumFrom_get, List.getElem?_eq_getElem hi] at hd
  simp only [Option.map_some, Nat.zero_add, Option.some.injEq] at hd
  subst hd
  exact k2
theorem iter_enumT {K Hs a vs ds} (h : SqT K Hs a vs) (hd : DenL K Hs ds vs) : IterOf K (ItEt K a) (enumFrom 0 ds) Hs := fun i Hs1 H e1 e2 => by
  have s1 := e2.seqT (e1.seqT h)
  have l := hd.length
  rw [enumFrom_length]
  refine ⟨fun hi => ?_, fun hi => ⟨vs, s1, by omega⟩⟩
  obtain ⟨v, hv, dv⟩ := (hd.mono e1).get (List.getElem?_eq_getElem hi)
  refine ⟨⟨vs, v, s1, hv⟩, fun x H' ⟨T, y, ex, hT, eH, q⟩ => ?_⟩
  have := q vs s1
  rw [hv] at this
  cases this
  subst ex; subst eH
  obtain ⟨k1, k2⟩ := ext_pair (i := (i : Nat)) e2 hT dv
  refine ⟨_, k1, fun d hd => ?_⟩
  rw [enumFrom_get, List.getElem?_eq_getElem hi] at hd
  simp only [Option.map_some, Nat.zero_add, Option.some.injEq] at hd
  subst hd
  exact k2
theorem iter_enumS {K Hs x} (h : sOk x) : IterOf K (ItEs x) (enumFrom 0 (signs x)) Hs := fun i Hs1 H e1 e2 => by
  have l : (signs x).length = x.cps.size := by simp [signs]
  rw [enumFrom_length]
  refine ⟨fun hi => ⟨by show i < x.cps.size; omega, fun v H' ⟨T, c, ev, hT, eH, hc⟩ => ?_⟩, fun hi => by show x.cps.size ≤ i; omega⟩
  subst ev; subst eH
  have hc' : x.cps.toList[i]? = some c := by simpa using hc
  obtain ⟨k1, k2⟩ := ext_pair (K := K) (i := (i : Nat)) (d := .str ⟨#[c]⟩) e2 hT ⟨rfl, sOk_sign h (List.mem_of_getElem? hc')⟩
  refine ⟨_, k1, fun d hd => ?_⟩
  rw [enumFrom_get] at hd
  simp only [signs, List.getElem?_map, hc', Option.map_some, Option.some.injEq, Nat.zero_add] at hd
  subst hd
  exact k2
section
variable {X : Cx} {mg : Str → Option Value} {W : WX} {a : Expr} {fa : Env' → Res (RV × Env')} {pos p tpos : Pos}
noncomputable def iEnum (fa : Env' → Res (RV × Env')) : Env' → Res (List D × Env') := fun ρ => (aConsE fa aNil ρ).bind fun (rs, ρ1) => match rs with
  | [.leaf d] => (Res.of d.walk).bind fun ds => .ok (enumFrom 0 ds, ρ1)
  | _ => .bad
theorem fi_enum {elts : List Expr} {kk : Nat} (hg : Gl X "enumerate") (hm : X.mg "enumerate" = none) (ha : PE X a (tFO X.K mg W fa)) (hs : starEach [a] X.env = [(false, eval a X.env)] := by rfl) (hs' : starEach (a :: []) X.env = (false, eval a X.env) :: starEach [] X.env := by rfl) :
    PI X (.Tuple elts kk tpos) (.Call (.Name "enumerate" p) [a] [] pos) (tFI X.K mg W (iEnum fa)) := by
  have pa : PA X [a] (tFA X.K mg W (aConsE fa aNil)) := fa_consE ha fa_nil hs'
  refine ((pi_enum hg hm pa hs).or ((pi_enumT hg hm pa hs).or (pi_enumS hg hm pa hs))).imp fun σ H R ⟨G, ρ, ⟨Hs, fp, ok⟩, po⟩ => ?_
  unfold iEnum at po
  cases e0 : aConsE fa aNil ρ with
  | exc c ρ' => exact .inl ⟨_, ρ, ⟨Hs, fp, ok.self⟩, by rw [e0] at po ⊢; exact fun H' C hc o => po H' C hc (Ok.back ok o)⟩
  | bad => rw [e0] at po; exact po.elim
  | ok q =>
    obtain ⟨rs, ρ1⟩ := q
    rw [e0] at po
    simp only [bind_ok] at po
    split at po
    · rename_i d
      cases d with
      | lst ds =>
        refine .inl ⟨_, ρ, ⟨Hs, fp, ok.self⟩, ?_⟩
        rw [e0]
        intro vs H1 Hs1 fp1 ok1 ⟨v, ws, ev, dv, ew⟩
        subst ev
        cases ew
        obtain ⟨l, us, rfl, k1, k2⟩ := dv
        exact ⟨l, us, rfl, SqL.lst (ok1.sh _ _ k1), po _ _ _ _ (ok.back ok1) (iter_enumL (SqL.lst k1) k2)⟩
      | fz ds =>
        refine .inl ⟨_, ρ, ⟨Hs, fp, ok.self⟩, ?_⟩
        rw [e0]
        intro vs H1 Hs1 fp1 ok1 ⟨v, ws, ev, dv, ew⟩
        subst ev
        cases ew
        obtain ⟨l, us, rfl, k1, k2⟩ := dv
        exact ⟨l, us, rfl, ok1.sh.seq k1, po _ _ _ _ (ok.back ok1) (iter_enumL k1 k2)⟩
      | tup ds =>
        refine .inr (.inl ⟨_, ρ, ⟨Hs, fp, ok.self⟩, ?_⟩)
        rw [e0]
        intro vs H1 Hs1 fp1 ok1 ⟨v, ws, ev, dv, ew⟩
        subst ev
        cases ew
        obtain ⟨l, us, rfl, k1, k2⟩ := dv
        exact ⟨l, us, rfl, ok1.sh.seqT k1, po _ _ _ _ (ok.back ok1) (iter_enumT k1 k2)⟩
      | str z =>
        refine .inr (.inr ⟨_, ρ, ⟨Hs, fp, ok.self⟩, ?_⟩)
        rw [e0]
        intro vs H1 Hs1 fp1 ok1 ⟨v, ws, ev, dv, ew⟩
        subst ev
        cases ew
        obtain ⟨rfl, k⟩ := dv
        exact ⟨z, rfl, po _ _ _ _ (ok.back ok1) (iter_enumS k)⟩
      | _ => exact po.elim
    · exact po.elim
end
/-! ### what a printed walk uses -/
/-- a constant of the module -/
noncomputable def GC (K : PySem.W.Frag) (mg : Str → Option Value) (x : Str) (d : D) : Prop := ∃ v u, mg x = some u ∧ RelV v u ∧ ∀ H, Den K H d v
theorem fo_gc {X : Cx} {mg : Str → Option Value} {W : WX} {x : Str} {d : D} {pos : Pos} (hg : Gl X x) (h : GC X.K X.mg x d) (hdb : (x == ("__debug__" : Str)) = false := by decide) : PE X (.Name x pos) (tFO X.K mg W (eC d)) := by
  obtain ⟨v, u, h1, h2, h3⟩ := h
  exact fo_glob hg h1 h2 h3 hdb
theorem u65 {k : Nat} {A : Around} (r : Room k A) : A.units + 65 < cLine := by have := r.un; omega
theorem alen_nil : ∀ (ρ : Env') (rs : List RV) (ρ' : Env'), aNil ρ = .ok (rs, ρ') → rs.length = 0 := fun ρ rs ρ' h => by
  cases h; rfl
theorem alen_cons {n : Nat} {fa : Env' → Res (RV × Env')} {fr : Env' → Res (List RV × Env')} (h : ∀ ρ rs ρ', fr ρ = .ok (rs, ρ') → rs.length = n) : ∀ (ρ : Env') (rs : List RV) (ρ' : Env'), aConsE fa fr ρ = .ok (rs, ρ') → rs.length = n + 1 := fun ρ rs ρ' e => by
  unfold aConsE at e
  cases e1 : fa ρ with
  | exc c r => rw [e1] at e; cases e
  | bad => rw [e1] at e; cases e
  | ok p =>
    obtain ⟨r, ρ1⟩ := p
    rw [e1] at e
    simp only [bind_ok] at e
    cases e2 : esc ρ1 r with
    | none => rw [e2] at e; cases e
    | some q =>
      obtain ⟨d, ρ2⟩ := q
      rw [e2] at e
      simp only [of_some, bind_ok] at e
      cases e3 : fr ρ2 with
      | exc c r => rw [e3] at e; cases e
      | bad => rw [e3] at e; cases e
      | ok q =>
        obtain ⟨rs', ρ3⟩ := q
        rw [e3] at e
        cases e
        simp [h _ _ _ e3]
end FL

namespace FL
open PySem PySem.Spec PyProof.Rows L2
/-! ### what the top has written -/
def DI (K : PySem.W.Frag) (x : Str) (st : Stmt) : Prop := ∃ f fd, PySem.W.nsIn K mainGlobals x = some (some (.ref f)) ∧ Fun K x x st f fd
theorem di_mk {K : PySem.W.Frag} {x : Str} {st : Stmt} {f : Addr} {oc : Value} {od an : Option Addr} {osl : Array (Option Value)} {kV doc pm cdv ct : Value} (a : PySem.W.nsIn K mainGlobals x = some (some (.ref f)))
    (l : K.lookup f = some ⟨oc, od, .func (PySem.W.fnOf x x (defArgs st) (defBody st) (defScope st) .none kV doc pm an cdv ct), osl⟩) (c : PySem.W.codeIn K cdv x = true) (k : PySem.W.keepIn K (.ref f) = true) : DI K x st := ⟨f, _, a, fun_mk l c k⟩
def XI (K : PySem.W.Frag) (x : Str) : Prop := ∃ C, PySem.W.nsIn K mainGlobals x = some (some (.ref C)) ∧ PySem.W.excIn K C [.type "ValueError", .type "Exception", .type "BaseException", .type "object"] "ValueError.__new__" = true ∧ PySem.W.keepIn K (.ref C) = true ∧
  PySem.W.subIn K (.ref C) (.type "BaseException") = some true ∧ PySem.W.typeIn K (.ref C) = some (.type "type")
theorem xi_mk {K : PySem.W.Frag} {x : Str} {C : Addr} (a : PySem.W.nsIn K mainGlobals x = some (some (.ref C))) (q : PySem.W.excIn K C [.type "ValueError", .type "Exception", .type "BaseException", .type "object"] "ValueError.__new__" = true) (k : PySem.W.keepIn K (.ref C) = true)
    (b : PySem.W.subIn K (.ref C) (.type "BaseException") = some true) (t : PySem.W.typeIn K (.ref C) = some (.type "type")) : XI K x := ⟨C, a, q, k, b, t⟩
def GI (K : PySem.W.Frag) (x : Str) (d : D) : Prop := ∃ v u, PySem.W.nsIn K mainGlobals x = some (some u) ∧ RelV v u ∧ ∀ H, Den K H d v
theorem gi_str {K : PySem.W.Frag} {x s : Str} {t : Tok} (a : PySem.W.nsIn K mainGlobals x = some (some (.str s t))) (h : sOk s := by decide +kernel) : GI K x (.str s) := ⟨.str s, _, a, ⟨t, rfl⟩, fun _ => ⟨rfl, h⟩⟩
theorem gi_int {K : PySem.W.Frag} {x : Str} {i : Int} {t : Tok} (a : PySem.W.nsIn K mainGlobals x = some (some (.int i t))) : GI K x (.int i) := ⟨.int i, _, a, ⟨t, rfl⟩, fun _ => rfl⟩
theorem gi_tup {K : PySem.W.Frag} {x : Str} {a : Addr} {od : Option Addr} {its : Array Value} {n : Nat} {sl : Array (Option Value)} {ds : List D} {vs : List V} (e : PySem.W.nsIn K mainGlobals x = some (some (.ref a))) (l : K.lookup a = some ⟨.type "tuple", od, .seq its n, sl⟩)
    (h1 : Vals vs its.toList) (h2 : ∀ H, DenL K H ds vs) (h3 : its.size ≤ sizeLine) : GI K x (.tup ds) := ⟨.ref a, _, e, rfl, fun H => ⟨a, vs, rfl, .inr ⟨_, its, n, l, rfl, rfl, h3, h1⟩, h2 H⟩⟩
theorem gi_tup4 {K : PySem.W.Frag} {x s1 s2 s3 s4 : Str} {a : Addr} {od : Option Addr} {t1 t2 t3 t4 : Tok} {n : Nat} {sl : Array (Option Value)} (e : PySem.W.nsIn K mainGlobals x = some (some (.ref a))) (l : K.lookup a = some ⟨.type "tuple", od, .seq #[.str s1 t1, .str s2 t2, .str s3 t3, .str s4 t4] n, sl⟩)
    (h : sOk s1 ∧ sOk s2 ∧ sOk s3 ∧ sOk s4 := by decide +kernel) : GI K x (.tup [.str s1, .str s2, .str s3, .str s4]) :=
  gi_tup (vs := [.str s1, .str s2, .str s3, .str s4]) e l (.cons ⟨_, rfl⟩ (.cons ⟨_, rfl⟩ (.cons ⟨_, rfl⟩ (.cons ⟨_, rfl⟩ .nil)))) (fun H => ⟨_, _, rfl, ⟨rfl, h.1⟩, _, _, rfl, ⟨rfl, h.2.1⟩, _, _, rfl, ⟨rfl, h.2.2.1⟩, _, _, rfl, ⟨rfl, h.2.2.2⟩, rfl⟩) (show (4:Nat) ≤ sizeLine by decide)
theorem gi_tup1 {K : PySem.W.Frag} {x s1 : Str} {a : Addr} {od : Option Addr} {t1 : Tok} {n : Nat} {sl : Array (Option Value)} (e : PySem.W.nsIn K mainGlobals x = some (some (.ref a))) (l : K.lookup a = some ⟨.type "tuple", od, .seq #[.str s1 t1] n, sl⟩)
    (h : sOk s1 := by decide +kernel) : GI K x (.tup [.str s1]) :=
  gi_tup (vs := [.str s1]) e l (.cons ⟨_, rfl⟩ .nil) (fun H => ⟨_, _, rfl, ⟨rfl, h⟩, rfl⟩) (show (1:Nat) ≤ sizeLine by decide)
/-! ### the law's own end -/
def spL (K : PySem.W.Frag) : Sp := fun vs H Q _ => ∃ (a : Addr) (ns : List Int), vs = [.ref a] ∧ SqL K H a (ns.map V.int) ∧ ns.length ≤ 63 ∧ ∀ H', Q (.bl true) H'
theorem law_imp {K : PySem.W.Frag} {mg : Str → Option Value} {m : List D → Out D} (h : ∀ ns : List Int, ns.length ≤ 63 → m [.fz (ns.map .int)] = .ok (.bl true)) : ∀ vs H Q E, spL K vs H Q E → spP K mg 1 m vs H Q E := by
  rintro vs H Q E ⟨a, ns, rfl, hS, hl, q⟩
  refine ⟨rfl, H, [.fz (ns.map .int)], Same.refl _, ⟨.ref a, [], rfl, ⟨a, _, rfl, hS, DenL.of_ints ns⟩, rfl⟩, ?_⟩
  rw [h ns hl]
  intro v Hs' H' _ dv
  cases dv
  exact q H'
theorem noCX {P : Program} {w : World} {H : Hp} {s : Shared} {e : Value} {s' : Shared} (h : L2.CX P w [] H s (fun _ _ _ => False) e s') : False := by
  obtain ⟨_, _, _, _, _, _, _, _, _, _, _, _, z⟩ := h
  exact z
end FL

namespace FL
open PySem PySem.Spec PyProof.Rows L2
/-! ### reckoning with mirrors: from the left, a step at a time -/
@[simp ↓] theorem bind_bind {α β γ : Type} (x : Res α) (f : α → Res β) (k : β → Res γ) : (x.bind f).bind k = x.bind fun a => (f a).bind k := by cases x <;> rfl
@[simp ↓] theorem bind_okp {α β : Type} (a : α) (k : α → Res β) : (Res.ok a).bind k = k a := rfl
@[simp ↓] theorem of_bind_some {α β : Type} (a : α) (k : α → Res β) : (Res.of (some a)).bind k = k a := rfl
@[simp ↓] theorem of_bind_none {α β : Type} (k : α → Res β) : (Res.of (none : Option α)).bind k = .bad := rfl
theorem bind_id {α : Type} (x : Res α) : x = x.bind Res.ok := by cases x <;> rfl
section
@[simp ↓] theorem eC_bind {β : Type} (d : D) (ρ : Env') (k : _ → Res β) : (eC d ρ).bind k = Res.bind (.ok (.leaf d, ρ)) k := rfl
theorem eC_ap (d : D) (ρ : Env') : eC d ρ = (.ok (.leaf d, ρ)) := rfl
@[simp ↓] theorem eVar_bind {β : Type} (i : Nat) (ρ : Env') (k : _ → Res β) : (eVar i ρ).bind k = Res.bind (match ρ[i]? with
  | some (some (.sh d)) => .ok (.leaf d, ρ)
  | some (some _) => .ok (.slot i, ρ)
  | _ => .bad) k := rfl
theorem eVar_ap (i : Nat) (ρ : Env') : eVar i ρ = (match ρ[i]? with
  | some (some (.sh d)) => .ok (.leaf d, ρ)
  | some (some _) => .ok (.slot i, ρ)
  | _ => .bad) := rfl
@[simp ↓] theorem eBin_bind {β : Type} (g : D → D → Option D) (fa fb : Env' → Res (RV × Env')) (ρ : Env') (k : _ → Res β) : (eBin g fa fb ρ).bind k = Res.bind ((fa ρ).bind fun (r1, ρ1) => (fb ρ1).bind fun (r2, ρ2) => (Res.of (look ρ2 r1)).bind fun d1 => (Res.of (look ρ2 r2)).bind fun d2 => (Res.of (g d1 d2)).bind fun d => .ok (.leaf d, ρ2)) k := rfl
theorem eBin_ap (g : D → D → Option D) (fa fb : Env' → Res (RV × Env')) (ρ : Env') : eBin g fa fb ρ = ((fa ρ).bind fun (r1, ρ1) => (fb ρ1).bind fun (r2, ρ2) => (Res.of (look ρ2 r1)).bind fun d1 => (Res.of (look ρ2 r2)).bind fun d2 => (Res.of (g d1 d2)).bind fun d => .ok (.leaf d, ρ2)) := rfl
@[simp ↓] theorem eUn_bind {β : Type} (g : D → Option D) (fa : Env' → Res (RV × Env')) (ρ : Env') (k : _ → Res β) : (eUn g fa ρ).bind k = Res.bind ((fa ρ).bind fun (r1, ρ1) => (Res.of (look ρ1 r1)).bind fun d1 => (Res.of (g d1)).bind fun d => .ok (.leaf d, ρ1)) k := rfl
theorem eUn_ap (g : D → Option D) (fa : Env' → Res (RV × Env')) (ρ : Env') : eUn g fa ρ = ((fa ρ).bind fun (r1, ρ1) => (Res.of (look ρ1 r1)).bind fun d1 => (Res.of (g d1)).bind fun d => .ok (.leaf d, ρ1)) := rfl
@[simp ↓] theorem eB_bind {β : Type} (g : List D → Option D) (fs : Env' → Res (List RV × Env')) (ρ : Env') (k : _ → Res β) : (eB g fs ρ).bind k = Res.bind ((fs ρ).bind fun (rs, ρ1) => (Res.of (looks ρ1 rs)).bind fun ds => (Res.of (g ds)).bind fun d => .ok (.leaf d, ρ1)) k := rfl
theorem eB_ap (g : List D → Option D) (fs : Env' → Res (List RV × Env')) (ρ : Env') : eB g fs ρ = ((fs ρ).bind fun (rs, ρ1) => (Res.of (looks ρ1 rs)).bind fun ds => (Res.of (g ds)).bind fun d => .ok (.leaf d, ρ1)) := rfl
@[simp ↓] theorem eTup_bind {β : Type} (fs : Env' → Res (List RV × Env')) (ρ : Env') (k : _ → Res β) : (eTup fs ρ).bind k = Res.bind ((fs ρ).bind fun (rs, ρ1) => (Res.of (leafs rs)).bind fun ds => if ds.length ≤ sizeLine then .ok (.leaf (.tup ds), ρ1) else .bad) k := rfl
theorem eTup_ap (fs : Env' → Res (List RV × Env')) (ρ : Env') : eTup fs ρ = ((fs ρ).bind fun (rs, ρ1) => (Res.of (leafs rs)).bind fun ds => if ds.length ≤ sizeLine then .ok (.leaf (.tup ds), ρ1) else .bad) := rfl
@[simp ↓] theorem eAnd_bind {β : Type} (fa fb : Env' → Res (RV × Env')) (ρ : Env') (k : _ → Res β) : (eAnd fa fb ρ).bind k = Res.bind ((fa ρ).bind fun (r, ρ1) => match look ρ1 r with
  | some (.bl true) => fb ρ1
  | some (.bl false) => .ok (.leaf (.bl false), ρ1)
  | _ => .bad) k := rfl
theorem eAnd_ap (fa fb : Env' → Res (RV × Env')) (ρ : Env') : eAnd fa fb ρ = ((fa ρ).bind fun (r, ρ1) => match look ρ1 r with
  | some (.bl true) => fb ρ1
  | some (.bl false) => .ok (.leaf (.bl false), ρ1)
  | _ => .bad) := rfl
@[simp ↓] theorem eOr_bind {β : Type} (fa fb : Env' → Res (RV × Env')) (ρ : Env') (k : _ → Res β) : (eOr fa fb ρ).bind k = Res.bind ((fa ρ).bind fun (r, ρ1) => match look ρ1 r with
  | some (.bl false) => fb ρ1
  | some (.bl true) => .ok (.leaf (.bl true), ρ1)
  | _ => .bad) k := rfl
theorem eOr_ap (fa fb : Env' → Res (RV × Env')) (ρ : Env') : eOr fa fb ρ = ((fa ρ).bind fun (r, ρ1) => match look ρ1 r with
  | some (.bl false) => fb ρ1
  | some (.bl true) => .ok (.leaf (.bl true), ρ1)
  | _ => .bad) := rfl
@[simp ↓] theorem eNot_bind {β : Type} (fa : Env' → Res (RV × Env')) (ρ : Env') (k : _ → Res β) : (eNot fa ρ).bind k = Res.bind ((fa ρ).bind fun (r, ρ1) => match look ρ1 r with
  | some (.bl b) => .ok (.leaf (.bl (!b)), ρ1)
  | _ => .bad) k := rfl
theorem eNot_ap (fa : Env' → Res (RV × Env')) (ρ : Env') : eNot fa ρ = ((fa ρ).bind fun (r, ρ1) => match look ρ1 r with
  | some (.bl b) => .ok (.leaf (.bl (!b)), ρ1)
  | _ => .bad) := rfl
@[simp ↓] theorem eIf_bind {β : Type} (tc : Env' → Res (Bool × Env')) (fa fb : Env' → Res (RV × Env')) (ρ : Env') (k : _ → Res β) : (eIf tc fa fb ρ).bind k = Res.bind ((tc ρ).bind fun (b, ρ1) => if b = true then fa ρ1 else fb ρ1) k := rfl
theorem eIf_ap (tc : Env' → Res (Bool × Env')) (fa fb : Env' → Res (RV × Env')) (ρ : Env') : eIf tc fa fb ρ = ((tc ρ).bind fun (b, ρ1) => if b = true then fa ρ1 else fb ρ1) := rfl
@[simp ↓] theorem eChain_bind {β : Type} (g g' : D → D → Option D) (fa fb fc : Env' → Res (RV × Env')) (ρ : Env') (k : _ → Res β) : (eChain g g' fa fb fc ρ).bind k = Res.bind ((fa ρ).bind fun (r1, ρ1) => (fb ρ1).bind fun (r2, ρ2) => (Res.of (look ρ2 r1)).bind fun d1 => (Res.of (look ρ2 r2)).bind fun d2 => match g d1 d2 with
    | some (.bl true) => (fc ρ2).bind fun (r3, ρ3) => (Res.of (look ρ3 r2)).bind fun d2 => (Res.of (look ρ3 r3)).bind fun d3 => (Res.of (g' d2 d3)).bind fun d => .ok (.leaf d, ρ3)
    | some (.bl false) => .ok (.leaf (.bl false), ρ2)
    | _ => .bad) k := rfl
theorem eChain_ap (g g' : D → D → Option D) (fa fb fc : Env' → Res (RV × Env')) (ρ : Env') : eChain g g' fa fb fc ρ = ((fa ρ).bind fun (r1, ρ1) => (fb ρ1).bind fun (r2, ρ2) => (Res.of (look ρ2 r1)).bind fun d1 => (Res.of (look ρ2 r2)).bind fun d2 => match g d1 d2 with
    | some (.bl true) => (fc ρ2).bind fun (r3, ρ3) => (Res.of (look ρ3 r2)).bind fun d2 => (Res.of (look ρ3 r3)).bind fun d3 => (Res.of (g' d2 d3)).bind fun d => .ok (.leaf d, ρ3)
    | some (.bl false) => .ok (.leaf (.bl false), ρ2)
    | _ => .bad) := rfl
@[simp ↓] theorem eSl_bind {β : Type} (fa : Env' → Res (RV × Env')) (fl fh : Env' → Res (Option Int × Env')) (ρ : Env') (k : _ → Res β) : (eSl fa fl fh ρ).bind k = Res.bind ((fa ρ).bind fun (r, ρ1) => (fl ρ1).bind fun (lo, ρ2) => (fh ρ2).bind fun (hi, ρ3) => (Res.of ((look ρ3 r).bind (D.sl lo hi))).bind fun d => .ok (.leaf d, ρ3)) k := rfl
theorem eSl_ap (fa : Env' → Res (RV × Env')) (fl fh : Env' → Res (Option Int × Env')) (ρ : Env') : eSl fa fl fh ρ = ((fa ρ).bind fun (r, ρ1) => (fl ρ1).bind fun (lo, ρ2) => (fh ρ2).bind fun (hi, ρ3) => (Res.of ((look ρ3 r).bind (D.sl lo hi))).bind fun d => .ok (.leaf d, ρ3)) := rfl
@[simp ↓] theorem oOf_bind {β : Type} (na : Env' → Res (T × Env')) (ρ : Env') (k : _ → Res β) : (oOf na ρ).bind k = Res.bind ((na ρ).bind fun (t, ρ1) => .ok (.leaf t.d, ρ1)) k := rfl
theorem oOf_ap (na : Env' → Res (T × Env')) (ρ : Env') : oOf na ρ = ((na ρ).bind fun (t, ρ1) => .ok (.leaf t.d, ρ1)) := rfl
@[simp ↓] theorem nOf_bind {β : Type} (fa : Env' → Res (RV × Env')) (ρ : Env') (k : _ → Res β) : (nOf fa ρ).bind k = Res.bind ((fa ρ).bind fun (r, ρ1) => (Res.of (esc ρ1 r)).bind fun (d, ρ2) => .ok (.sh d, ρ2)) k := rfl
theorem nOf_ap (fa : Env' → Res (RV × Env')) (ρ : Env') : nOf fa ρ = ((fa ρ).bind fun (r, ρ1) => (Res.of (esc ρ1 r)).bind fun (d, ρ2) => .ok (.sh d, ρ2)) := rfl
@[simp ↓] theorem nB_bind {β : Type} (g : List D → Option (List D)) (fs : Env' → Res (List RV × Env')) (ρ : Env') (k : _ → Res β) : (nB g fs ρ).bind k = Res.bind ((fs ρ).bind fun (rs, ρ1) => (Res.of (looks ρ1 rs)).bind fun ds => (Res.of (g ds)).bind fun es => .ok (.lst (es.map T.sh), ρ1)) k := rfl
theorem nB_ap (g : List D → Option (List D)) (fs : Env' → Res (List RV × Env')) (ρ : Env') : nB g fs ρ = ((fs ρ).bind fun (rs, ρ1) => (Res.of (looks ρ1 rs)).bind fun ds => (Res.of (g ds)).bind fun es => .ok (.lst (es.map T.sh), ρ1)) := rfl
@[simp ↓] theorem nLst_bind {β : Type} (ns : Env' → Res (List T × Env')) (ρ : Env') (k : _ → Res β) : (nLst ns ρ).bind k = Res.bind ((ns ρ).bind fun (ts, ρ1) => if ts.length ≤ sizeLine then .ok (.lst ts, ρ1) else .bad) k := rfl
theorem nLst_ap (ns : Env' → Res (List T × Env')) (ρ : Env') : nLst ns ρ = ((ns ρ).bind fun (ts, ρ1) => if ts.length ≤ sizeLine then .ok (.lst ts, ρ1) else .bad) := rfl
@[simp ↓] theorem nBin_bind {β : Type} (g : D → D → Option (List D)) (fa fb : Env' → Res (RV × Env')) (ρ : Env') (k : _ → Res β) : (nBin g fa fb ρ).bind k = Res.bind ((fa ρ).bind fun (r1, ρ1) => (fb ρ1).bind fun (r2, ρ2) => (Res.of (look ρ2 r1)).bind fun d1 => (Res.of (look ρ2 r2)).bind fun d2 => (Res.of (g d1 d2)).bind fun es => .ok (.lst (es.map T.sh), ρ2)) k := rfl
theorem nBin_ap (g : D → D → Option (List D)) (fa fb : Env' → Res (RV × Env')) (ρ : Env') : nBin g fa fb ρ = ((fa ρ).bind fun (r1, ρ1) => (fb ρ1).bind fun (r2, ρ2) => (Res.of (look ρ2 r1)).bind fun d1 => (Res.of (look ρ2 r2)).bind fun d2 => (Res.of (g d1 d2)).bind fun es => .ok (.lst (es.map T.sh), ρ2)) := rfl
@[simp ↓] theorem nSl_bind {β : Type} (fa : Env' → Res (RV × Env')) (fl fh : Env' → Res (Option Int × Env')) (ρ : Env') (k : _ → Res β) : (nSl fa fl fh ρ).bind k = Res.bind ((fa ρ).bind fun (r, ρ1) => (fl ρ1).bind fun (lo, ρ2) => (fh ρ2).bind fun (hi, ρ3) => match look ρ3 r with
    | some (.lst ds) => .ok (.lst ((cutD ds lo hi).map T.sh), ρ3)
    | some (.fz ds) => .ok (.lst ((cutD ds lo hi).map T.sh), ρ3)
    | _ => .bad) k := rfl
theorem nSl_ap (fa : Env' → Res (RV × Env')) (fl fh : Env' → Res (Option Int × Env')) (ρ : Env') : nSl fa fl fh ρ = ((fa ρ).bind fun (r, ρ1) => (fl ρ1).bind fun (lo, ρ2) => (fh ρ2).bind fun (hi, ρ3) => match look ρ3 r with
    | some (.lst ds) => .ok (.lst ((cutD ds lo hi).map T.sh), ρ3)
    | some (.fz ds) => .ok (.lst ((cutD ds lo hi).map T.sh), ρ3)
    | _ => .bad) := rfl
@[simp ↓] theorem nIf_bind {β : Type} (tc : Env' → Res (Bool × Env')) (na nb : Env' → Res (T × Env')) (ρ : Env') (k : _ → Res β) : (nIf tc na nb ρ).bind k = Res.bind ((tc ρ).bind fun (b, ρ1) => if b = true then na ρ1 else nb ρ1) k := rfl
theorem nIf_ap (tc : Env' → Res (Bool × Env')) (na nb : Env' → Res (T × Env')) (ρ : Env') : nIf tc na nb ρ = ((tc ρ).bind fun (b, ρ1) => if b = true then na ρ1 else nb ρ1) := rfl
@[simp ↓] theorem nLc_bind {β : Type} (fi : Env' → Res (List D × Env')) (gt : D → Env' → Option Env') (tt : Env' → Res (Bool × Env')) (ne : Env' → Res (T × Env')) (vs : List Nat) (ρ : Env') (k : _ → Res β) : (nLc fi gt tt ne vs ρ).bind k = Res.bind ((fi ρ).bind fun (ds, ρ1) => if ds.length ≤ sizeLine then (lcGo gt tt ne vs ds (wipeE ρ1 vs)).bind fun (ts, ρ2) => .ok (.lst ts, backE ρ1 ρ2 vs) else .bad) k := rfl
theorem nLc_ap (fi : Env' → Res (List D × Env')) (gt : D → Env' → Option Env') (tt : Env' → Res (Bool × Env')) (ne : Env' → Res (T × Env')) (vs : List Nat) (ρ : Env') : nLc fi gt tt ne vs ρ = ((fi ρ).bind fun (ds, ρ1) => if ds.length ≤ sizeLine then (lcGo gt tt ne vs ds (wipeE ρ1 vs)).bind fun (ts, ρ2) => .ok (.lst ts, backE ρ1 ρ2 vs) else .bad) := rfl
@[simp ↓] theorem eM_bind {β : Type} (T : String) (g : D → List D → Option D) (fa : Env' → Res (RV × Env')) (fs : Env' → Res (List RV × Env')) (ρ : Env') (k : _ → Res β) : (eM T g fa fs ρ).bind k = Res.bind ((fa ρ).bind fun (r, ρ1) => (Res.of (look ρ1 r)).bind fun d0 => if D.isTy T d0 = true then (fs ρ1).bind fun (rs, ρ2) => (Res.of (look ρ2 r)).bind fun d => (Res.of (looks ρ2 rs)).bind fun ds => (Res.of (g d ds)).bind fun e => .ok (.leaf e, ρ2) else .bad) k := rfl
theorem eM_ap (T : String) (g : D → List D → Option D) (fa : Env' → Res (RV × Env')) (fs : Env' → Res (List RV × Env')) (ρ : Env') : eM T g fa fs ρ = ((fa ρ).bind fun (r, ρ1) => (Res.of (look ρ1 r)).bind fun d0 => if D.isTy T d0 = true then (fs ρ1).bind fun (rs, ρ2) => (Res.of (look ρ2 r)).bind fun d => (Res.of (looks ρ2 rs)).bind fun ds => (Res.of (g d ds)).bind fun e => .ok (.leaf e, ρ2) else .bad) := rfl
@[simp ↓] theorem eCall_bind {β : Type} (m : List D → Out D) (fs : Env' → Res (List RV × Env')) (ρ : Env') (k : _ → Res β) : (eCall m fs ρ).bind k = Res.bind ((fs ρ).bind fun (rs, ρ1) => (Res.of (leafs rs)).bind fun ds => match m ds with
  | .ok d => .ok (.leaf d, ρ1)
  | .exc c => .exc c ρ1
  | .bad => .bad) k := rfl
theorem eCall_ap (m : List D → Out D) (fs : Env' → Res (List RV × Env')) (ρ : Env') : eCall m fs ρ = ((fs ρ).bind fun (rs, ρ1) => (Res.of (leafs rs)).bind fun ds => match m ds with
  | .ok d => .ok (.leaf d, ρ1)
  | .exc c => .exc c ρ1
  | .bad => .bad) := rfl
@[simp ↓] theorem nCall_bind {β : Type} (m : List D → Out T) (fs : Env' → Res (List RV × Env')) (ρ : Env') (k : _ → Res β) : (nCall m fs ρ).bind k = Res.bind ((fs ρ).bind fun (rs, ρ1) => (Res.of (leafs rs)).bind fun ds => match m ds with
  | .ok t => .ok (t, ρ1)
  | .exc c => .exc c ρ1
  | .bad => .bad) k := rfl
theorem nCall_ap (m : List D → Out T) (fs : Env' → Res (List RV × Env')) (ρ : Env') : nCall m fs ρ = ((fs ρ).bind fun (rs, ρ1) => (Res.of (leafs rs)).bind fun ds => match m ds with
  | .ok t => .ok (t, ρ1)
  | .exc c => .exc c ρ1
  | .bad => .bad) := rfl
@[simp ↓] theorem ePop_bind {β : Type} (i : Nat) (ρ : Env') (k : _ → Res β) : (ePop i ρ).bind k = Res.bind (match ρ[i]? with
  | some (some (.lst ts)) => match ts[ts.length - 1]? with
    | some (.sh d) => .ok (.leaf d, ρ.set i (some (.lst ts.dropLast)))
    | _ => .bad
  | _ => .bad) k := rfl
theorem ePop_ap (i : Nat) (ρ : Env') : ePop i ρ = (match ρ[i]? with
  | some (some (.lst ts)) => match ts[ts.length - 1]? with
    | some (.sh d) => .ok (.leaf d, ρ.set i (some (.lst ts.dropLast)))
    | _ => .bad
  | _ => .bad) := rfl
@[simp ↓] theorem aNil_bind {β : Type} (ρ : Env') (k : _ → Res β) : (aNil  ρ).bind k = Res.bind (.ok ([], ρ)) k := rfl
theorem aNil_ap (ρ : Env') : aNil  ρ = (.ok ([], ρ)) := rfl
@[simp ↓] theorem aCons_bind {β : Type} (fa : Env' → Res (RV × Env')) (fr : Env' → Res (List RV × Env')) (ρ : Env') (k : _ → Res β) : (aCons fa fr ρ).bind k = Res.bind ((fa ρ).bind fun (r, ρ1) => (fr ρ1).bind fun (rs, ρ2) => .ok (r :: rs, ρ2)) k := rfl
theorem aCons_ap (fa : Env' → Res (RV × Env')) (fr : Env' → Res (List RV × Env')) (ρ : Env') : aCons fa fr ρ = ((fa ρ).bind fun (r, ρ1) => (fr ρ1).bind fun (rs, ρ2) => .ok (r :: rs, ρ2)) := rfl
@[simp ↓] theorem aConsE_bind {β : Type} (fa : Env' → Res (RV × Env')) (fr : Env' → Res (List RV × Env')) (ρ : Env') (k : _ → Res β) : (aConsE fa fr ρ).bind k = Res.bind ((fa ρ).bind fun (r, ρ1) => (Res.of (esc ρ1 r)).bind fun (d, ρ1') => (fr ρ1').bind fun (rs, ρ2) => .ok (.leaf d :: rs, ρ2)) k := rfl
theorem aConsE_ap (fa : Env' → Res (RV × Env')) (fr : Env' → Res (List RV × Env')) (ρ : Env') : aConsE fa fr ρ = ((fa ρ).bind fun (r, ρ1) => (Res.of (esc ρ1 r)).bind fun (d, ρ1') => (fr ρ1').bind fun (rs, ρ2) => .ok (.leaf d :: rs, ρ2)) := rfl
@[simp ↓] theorem atNil_bind {β : Type} (ρ : Env') (k : _ → Res β) : (atNil  ρ).bind k = Res.bind (.ok ([], ρ)) k := rfl
theorem atNil_ap (ρ : Env') : atNil  ρ = (.ok ([], ρ)) := rfl
@[simp ↓] theorem atCons_bind {β : Type} (na : Env' → Res (T × Env')) (nr : Env' → Res (List T × Env')) (ρ : Env') (k : _ → Res β) : (atCons na nr ρ).bind k = Res.bind ((na ρ).bind fun (t, ρ1) => (nr ρ1).bind fun (ts, ρ2) => .ok (t :: ts, ρ2)) k := rfl
theorem atCons_ap (na : Env' → Res (T × Env')) (nr : Env' → Res (List T × Env')) (ρ : Env') : atCons na nr ρ = ((na ρ).bind fun (t, ρ1) => (nr ρ1).bind fun (ts, ρ2) => .ok (t :: ts, ρ2)) := rfl
@[simp ↓] theorem tstV_bind {β : Type} (fa : Env' → Res (RV × Env')) (ρ : Env') (k : _ → Res β) : (tstV fa ρ).bind k = Res.bind ((fa ρ).bind fun (r, ρ1) => match look ρ1 r with
  | some (.bl b) => .ok (b, ρ1)
  | _ => .bad) k := rfl
theorem tstV_ap (fa : Env' → Res (RV × Env')) (ρ : Env') : tstV fa ρ = ((fa ρ).bind fun (r, ρ1) => match look ρ1 r with
  | some (.bl b) => .ok (b, ρ1)
  | _ => .bad) := rfl
@[simp ↓] theorem tstT_bind {β : Type} (fa : Env' → Res (RV × Env')) (ρ : Env') (k : _ → Res β) : (tstT fa ρ).bind k = Res.bind ((fa ρ).bind fun (r, ρ1) => (Res.of ((look ρ1 r).bind D.truth)).bind fun b => .ok (b, ρ1)) k := rfl
theorem tstT_ap (fa : Env' → Res (RV × Env')) (ρ : Env') : tstT fa ρ = ((fa ρ).bind fun (r, ρ1) => (Res.of ((look ρ1 r).bind D.truth)).bind fun b => .ok (b, ρ1)) := rfl
@[simp ↓] theorem tstNot_bind {β : Type} (ta : Env' → Res (Bool × Env')) (ρ : Env') (k : _ → Res β) : (tstNot ta ρ).bind k = Res.bind ((ta ρ).bind fun (b, ρ1) => .ok (!b, ρ1)) k := rfl
theorem tstNot_ap (ta : Env' → Res (Bool × Env')) (ρ : Env') : tstNot ta ρ = ((ta ρ).bind fun (b, ρ1) => .ok (!b, ρ1)) := rfl
@[simp ↓] theorem tstAnd_bind {β : Type} (ta tb : Env' → Res (Bool × Env')) (ρ : Env') (k : _ → Res β) : (tstAnd ta tb ρ).bind k = Res.bind ((ta ρ).bind fun (b, ρ1) => if b = true then tb ρ1 else .ok (false, ρ1)) k := rfl
theorem tstAnd_ap (ta tb : Env' → Res (Bool × Env')) (ρ : Env') : tstAnd ta tb ρ = ((ta ρ).bind fun (b, ρ1) => if b = true then tb ρ1 else .ok (false, ρ1)) := rfl
@[simp ↓] theorem tstOr_bind {β : Type} (ta tb : Env' → Res (Bool × Env')) (ρ : Env') (k : _ → Res β) : (tstOr ta tb ρ).bind k = Res.bind ((ta ρ).bind fun (b, ρ1) => if b = true then .ok (true, ρ1) else tb ρ1) k := rfl
theorem tstOr_ap (ta tb : Env' → Res (Bool × Env')) (ρ : Env') : tstOr ta tb ρ = ((ta ρ).bind fun (b, ρ1) => if b = true then .ok (true, ρ1) else tb ρ1) := rfl
@[simp ↓] theorem pNone_bind {β : Type} (ρ : Env') (k : _ → Res β) : (pNone  ρ).bind k = Res.bind (.ok (none, ρ)) k := rfl
theorem pNone_ap (ρ : Env') : pNone  ρ = (.ok (none, ρ)) := rfl
@[simp ↓] theorem pSome_bind {β : Type} (fa : Env' → Res (RV × Env')) (ρ : Env') (k : _ → Res β) : (pSome fa ρ).bind k = Res.bind ((fa ρ).bind fun (r, ρ1) => match look ρ1 r with
  | some (.int i) => .ok (some i, ρ1)
  | _ => .bad) k := rfl
theorem pSome_ap (fa : Env' → Res (RV × Env')) (ρ : Env') : pSome fa ρ = ((fa ρ).bind fun (r, ρ1) => match look ρ1 r with
  | some (.int i) => .ok (some i, ρ1)
  | _ => .bad) := rfl
@[simp ↓] theorem ttYes_bind {β : Type} (ρ : Env') (k : _ → Res β) : (ttYes  ρ).bind k = Res.bind (.ok (true, ρ)) k := rfl
theorem ttYes_ap (ρ : Env') : ttYes  ρ = (.ok (true, ρ)) := rfl
@[simp ↓] theorem sNil_bind {β : Type} (ρ : Env') (k : _ → Res β) : (sNil  ρ).bind k = Res.bind (.ok (.nx ρ)) k := rfl
theorem sNil_ap (ρ : Env') : sNil  ρ = (.ok (.nx ρ)) := rfl
@[simp ↓] theorem sSeq_bind {β : Type} (f g : Env' → Res Fl) (ρ : Env') (k : _ → Res β) : (sSeq f g ρ).bind k = Res.bind ((f ρ).bind fun r => match r with
  | .nx ρ' => g ρ'
  | r => .ok r) k := rfl
theorem sSeq_ap (f g : Env' → Res Fl) (ρ : Env') : sSeq f g ρ = ((f ρ).bind fun r => match r with
  | .nx ρ' => g ρ'
  | r => .ok r) := rfl
@[simp ↓] theorem sExpr_bind {β : Type} (fa : Env' → Res (RV × Env')) (ρ : Env') (k : _ → Res β) : (sExpr fa ρ).bind k = Res.bind ((fa ρ).bind fun (_, ρ1) => .ok (.nx ρ1)) k := rfl
theorem sExpr_ap (fa : Env' → Res (RV × Env')) (ρ : Env') : sExpr fa ρ = ((fa ρ).bind fun (_, ρ1) => .ok (.nx ρ1)) := rfl
@[simp ↓] theorem sSet_bind {β : Type} (i : Nat) (na : Env' → Res (T × Env')) (ρ : Env') (k : _ → Res β) : (sSet i na ρ).bind k = Res.bind ((na ρ).bind fun (t, ρ1) => if i < ρ1.length then .ok (.nx (ρ1.set i (some t))) else .bad) k := rfl
theorem sSet_ap (i : Nat) (na : Env' → Res (T × Env')) (ρ : Env') : sSet i na ρ = ((na ρ).bind fun (t, ρ1) => if i < ρ1.length then .ok (.nx (ρ1.set i (some t))) else .bad) := rfl
@[simp ↓] theorem sRet_bind {β : Type} (na : Env' → Res (T × Env')) (ρ : Env') (k : _ → Res β) : (sRet na ρ).bind k = Res.bind ((na ρ).bind fun (t, ρ1) => .ok (.rt t ρ1)) k := rfl
theorem sRet_ap (na : Env' → Res (T × Env')) (ρ : Env') : sRet na ρ = ((na ρ).bind fun (t, ρ1) => .ok (.rt t ρ1)) := rfl
@[simp ↓] theorem sRetN_bind {β : Type} (ρ : Env') (k : _ → Res β) : (sRetN  ρ).bind k = Res.bind (.ok (.rt (.sh .non) ρ)) k := rfl
theorem sRetN_ap (ρ : Env') : sRetN  ρ = (.ok (.rt (.sh .non) ρ)) := rfl
@[simp ↓] theorem sRetOwn_bind {β : Type} (i : Nat) (ρ : Env') (k : _ → Res β) : (sRetOwn i ρ).bind k = Res.bind (match ρ[i]? with
  | some (some t) => .ok (.rt t (ρ.set i none))
  | _ => .bad) k := rfl
theorem sRetOwn_ap (i : Nat) (ρ : Env') : sRetOwn i ρ = (match ρ[i]? with
  | some (some t) => .ok (.rt t (ρ.set i none))
  | _ => .bad) := rfl
@[simp ↓] theorem sIf_bind {β : Type} (ta : Env' → Res (Bool × Env')) (f g : Env' → Res Fl) (ρ : Env') (k : _ → Res β) : (sIf ta f g ρ).bind k = Res.bind ((ta ρ).bind fun (b, ρ1) => if b = true then f ρ1 else g ρ1) k := rfl
theorem sIf_ap (ta : Env' → Res (Bool × Env')) (f g : Env' → Res Fl) (ρ : Env') : sIf ta f g ρ = ((ta ρ).bind fun (b, ρ1) => if b = true then f ρ1 else g ρ1) := rfl
@[simp ↓] theorem sBk_bind {β : Type} (ρ : Env') (k : _ → Res β) : (sBk  ρ).bind k = Res.bind (.ok (.bk ρ)) k := rfl
theorem sBk_ap (ρ : Env') : sBk  ρ = (.ok (.bk ρ)) := rfl
@[simp ↓] theorem sCt_bind {β : Type} (ρ : Env') (k : _ → Res β) : (sCt  ρ).bind k = Res.bind (.ok (.ct ρ)) k := rfl
theorem sCt_ap (ρ : Env') : sCt  ρ = (.ok (.ct ρ)) := rfl
@[simp ↓] theorem sFor_bind {β : Type} (fi : Env' → Res (List D × Env')) (gt : D → Env' → Option Env') (f : Env' → Res Fl) (ρ : Env') (k : _ → Res β) : (sFor fi gt f ρ).bind k = Res.bind ((fi ρ).bind fun (ds, ρ1) => forGo gt f ds ρ1) k := rfl
theorem sFor_ap (fi : Env' → Res (List D × Env')) (gt : D → Env' → Option Env') (f : Env' → Res Fl) (ρ : Env') : sFor fi gt f ρ = ((fi ρ).bind fun (ds, ρ1) => forGo gt f ds ρ1) := rfl
@[simp ↓] theorem sUnpack_bind {β : Type} (fa : Env' → Res (RV × Env')) (gt : D → Env' → Option Env') (ρ : Env') (k : _ → Res β) : (sUnpack fa gt ρ).bind k = Res.bind ((fa ρ).bind fun (r, ρ1) => (Res.of (esc ρ1 r)).bind fun (d, ρ2) => (Res.of (gt d ρ2)).bind fun ρ3 => .ok (.nx ρ3)) k := rfl
theorem sUnpack_ap (fa : Env' → Res (RV × Env')) (gt : D → Env' → Option Env') (ρ : Env') : sUnpack fa gt ρ = ((fa ρ).bind fun (r, ρ1) => (Res.of (esc ρ1 r)).bind fun (d, ρ2) => (Res.of (gt d ρ2)).bind fun ρ3 => .ok (.nx ρ3)) := rfl
@[simp ↓] theorem sPar_bind {β : Type} (i j : Nat) (fs : Env' → Res (List RV × Env')) (ρ : Env') (k : _ → Res β) : (sPar i j fs ρ).bind k = Res.bind ((fs ρ).bind fun (rs, ρ1) => match rs with
  | [.leaf d, .leaf e] => if i < ρ1.length ∧ j < ρ1.length then .ok (.nx ((ρ1.set i (some (.sh d))).set j (some (.sh e)))) else .bad
  | _ => .bad) k := rfl
theorem sPar_ap (i j : Nat) (fs : Env' → Res (List RV × Env')) (ρ : Env') : sPar i j fs ρ = ((fs ρ).bind fun (rs, ρ1) => match rs with
  | [.leaf d, .leaf e] => if i < ρ1.length ∧ j < ρ1.length then .ok (.nx ((ρ1.set i (some (.sh d))).set j (some (.sh e)))) else .bad
  | _ => .bad) := rfl
@[simp ↓] theorem sAug_bind {β : Type} (i : Nat) (g : D → D → Option D) (fa : Env' → Res (RV × Env')) (ρ : Env') (k : _ → Res β) : (sAug i g fa ρ).bind k = Res.bind (match ρ[i]? with
  | some (some (.sh d1)) => (fa ρ).bind fun (r, ρ1) => (Res.of (look ρ1 r)).bind fun d2 => (Res.of (g d1 d2)).bind fun d => if i < ρ1.length then .ok (.nx (ρ1.set i (some (.sh d)))) else .bad
  | _ => .bad) k := rfl
theorem sAug_ap (i : Nat) (g : D → D → Option D) (fa : Env' → Res (RV × Env')) (ρ : Env') : sAug i g fa ρ = (match ρ[i]? with
  | some (some (.sh d1)) => (fa ρ).bind fun (r, ρ1) => (Res.of (look ρ1 r)).bind fun d2 => (Res.of (g d1 d2)).bind fun d => if i < ρ1.length then .ok (.nx (ρ1.set i (some (.sh d)))) else .bad
  | _ => .bad) := rfl
@[simp ↓] theorem sAppend_bind {β : Type} (i : Nat) (na : Env' → Res (T × Env')) (ρ : Env') (k : _ → Res β) : (sAppend i na ρ).bind k = Res.bind (match ρ[i]? with
  | some (some (.lst _)) => (na ρ).bind fun (t, ρ1) => match ρ1[i]? with
    | some (some (.lst ts)) => if ts.length < sizeLine then .ok (.nx (ρ1.set i (some (.lst (ts ++ [t]))))) else .bad
    | _ => .bad
  | _ => .bad) k := rfl
theorem sAppend_ap (i : Nat) (na : Env' → Res (T × Env')) (ρ : Env') : sAppend i na ρ = (match ρ[i]? with
  | some (some (.lst _)) => (na ρ).bind fun (t, ρ1) => match ρ1[i]? with
    | some (some (.lst ts)) => if ts.length < sizeLine then .ok (.nx (ρ1.set i (some (.lst (ts ++ [t]))))) else .bad
    | _ => .bad
  | _ => .bad) := rfl
@[simp ↓] theorem sExtend_bind {β : Type} (i : Nat) (fa : Env' → Res (RV × Env')) (ρ : Env') (k : _ → Res β) : (sExtend i fa ρ).bind k = Res.bind (match ρ[i]? with
  | some (some (.lst _)) => (fa ρ).bind fun (r, ρ1) => match look ρ1 r with
    | some (.lst ds) => match ρ1[i]? with
      | some (some (.lst ts)) => if ts.length + ds.length ≤ sizeLine then .ok (.nx (ρ1.set i (some (.lst (ts ++ ds.map T.sh))))) else .bad
      | _ => .bad
    | _ => .bad
  | _ => .bad) k := rfl
theorem sExtend_ap (i : Nat) (fa : Env' → Res (RV × Env')) (ρ : Env') : sExtend i fa ρ = (match ρ[i]? with
  | some (some (.lst _)) => (fa ρ).bind fun (r, ρ1) => match look ρ1 r with
    | some (.lst ds) => match ρ1[i]? with
      | some (some (.lst ts)) => if ts.length + ds.length ≤ sizeLine then .ok (.nx (ρ1.set i (some (.lst (ts ++ ds.map T.sh))))) else .bad
      | _ => .bad
    | _ => .bad
  | _ => .bad) := rfl
@[simp ↓] theorem sSetIx_bind {β : Type} (i : Nat) (na : Env' → Res (T × Env')) (fb : Env' → Res (RV × Env')) (ρ : Env') (k : _ → Res β) : (sSetIx i na fb ρ).bind k = Res.bind ((na ρ).bind fun (t, ρ1) => match t, ρ1[i]? with
  | .sh d, some (some _) => (fb ρ1).bind fun (r, ρ2) => match look ρ2 r, ρ2[i]? with
    | some (.int k), some (some (.lst ts)) => match ixN ts.length k with
      | some j => match ts[j]? with
        | some (.sh _) => .ok (.nx (ρ2.set i (some (.lst (ts.set j (.sh d))))))
        | _ => .bad
      | none => .bad
    | _, _ => .bad
  | _, _ => .bad) k := rfl
theorem sSetIx_ap (i : Nat) (na : Env' → Res (T × Env')) (fb : Env' → Res (RV × Env')) (ρ : Env') : sSetIx i na fb ρ = ((na ρ).bind fun (t, ρ1) => match t, ρ1[i]? with
  | .sh d, some (some _) => (fb ρ1).bind fun (r, ρ2) => match look ρ2 r, ρ2[i]? with
    | some (.int k), some (some (.lst ts)) => match ixN ts.length k with
      | some j => match ts[j]? with
        | some (.sh _) => .ok (.nx (ρ2.set i (some (.lst (ts.set j (.sh d))))))
        | _ => .bad
      | none => .bad
    | _, _ => .bad
  | _, _ => .bad) := rfl
@[simp ↓] theorem sAugIx_bind {β : Type} (i : Nat) (g : D → D → Option D) (fb fa : Env' → Res (RV × Env')) (ρ : Env') (k : _ → Res β) : (sAugIx i g fb fa ρ).bind k = Res.bind (match ρ[i]? with
  | some (some _) => (fb ρ).bind fun (r, ρ1) => match look ρ1 r, ρ1[i]? with
    | some (.int k), some (some (.lst ts)) => match (ixN ts.length k).bind fun j => ts[j]? with
      | some (.sh d1) => (fa ρ1).bind fun (r2, ρ2) => (Res.of (look ρ2 r2)).bind fun d2 => (Res.of (g d1 d2)).bind fun d => match ρ2[i]? with
        | some (some (.lst ts2)) => match ixN ts2.length k with
          | some j => match ts2[j]? with
            | some (.sh _) => .ok (.nx (ρ2.set i (some (.lst (ts2.set j (.sh d))))))
            | _ => .bad
          | none => .bad
        | _ => .bad
      | _ => .bad
    | _, _ => .bad
  | _ => .bad) k := rfl
theorem sAugIx_ap (i : Nat) (g : D → D → Option D) (fb fa : Env' → Res (RV × Env')) (ρ : Env') : sAugIx i g fb fa ρ = (match ρ[i]? with
  | some (some _) => (fb ρ).bind fun (r, ρ1) => match look ρ1 r, ρ1[i]? with
    | some (.int k), some (some (.lst ts)) => match (ixN ts.length k).bind fun j => ts[j]? with
      | some (.sh d1) => (fa ρ1).bind fun (r2, ρ2) => (Res.of (look ρ2 r2)).bind fun d2 => (Res.of (g d1 d2)).bind fun d => match ρ2[i]? with
        | some (some (.lst ts2)) => match ixN ts2.length k with
          | some j => match ts2[j]? with
            | some (.sh _) => .ok (.nx (ρ2.set i (some (.lst (ts2.set j (.sh d))))))
            | _ => .bad
          | none => .bad
        | _ => .bad
      | _ => .bad
    | _, _ => .bad
  | _ => .bad) := rfl
@[simp ↓] theorem sRaise_bind {β : Type} (x : Str) (ρ : Env') (k : _ → Res β) : (sRaise x ρ).bind k = Res.bind (.exc x ρ) k := rfl
theorem sRaise_ap (x : Str) (ρ : Env') : sRaise x ρ = (.exc x ρ) := rfl
@[simp ↓] theorem iSeq_bind {β : Type} (fa : Env' → Res (RV × Env')) (ρ : Env') (k : _ → Res β) : (iSeq fa ρ).bind k = Res.bind ((fa ρ).bind fun (r, ρ1) => (Res.of (esc ρ1 r)).bind fun (d, ρ2) => (Res.of d.walk).bind fun ds => .ok (ds, ρ2)) k := rfl
theorem iSeq_ap (fa : Env' → Res (RV × Env')) (ρ : Env') : iSeq fa ρ = ((fa ρ).bind fun (r, ρ1) => (Res.of (esc ρ1 r)).bind fun (d, ρ2) => (Res.of d.walk).bind fun ds => .ok (ds, ρ2)) := rfl
@[simp ↓] theorem iRange1_bind {β : Type} (fs : Env' → Res (List RV × Env')) (ρ : Env') (k : _ → Res β) : (iRange1 fs ρ).bind k = Res.bind ((fs ρ).bind fun (rs, ρ1) => match looks ρ1 rs with
  | some [.int j] => if rOk j then .ok (rangeD 0 j.toNat, ρ1) else .bad
  | _ => .bad) k := rfl
theorem iRange1_ap (fs : Env' → Res (List RV × Env')) (ρ : Env') : iRange1 fs ρ = ((fs ρ).bind fun (rs, ρ1) => match looks ρ1 rs with
  | some [.int j] => if rOk j then .ok (rangeD 0 j.toNat, ρ1) else .bad
  | _ => .bad) := rfl
@[simp ↓] theorem iRange2_bind {β : Type} (fs : Env' → Res (List RV × Env')) (ρ : Env') (k : _ → Res β) : (iRange2 fs ρ).bind k = Res.bind ((fs ρ).bind fun (rs, ρ1) => match looks ρ1 rs with
  | some [.int i, .int j] => if rOk i ∧ rOk j then .ok (rangeD i (j - i).toNat, ρ1) else .bad
  | _ => .bad) k := rfl
theorem iRange2_ap (fs : Env' → Res (List RV × Env')) (ρ : Env') : iRange2 fs ρ = ((fs ρ).bind fun (rs, ρ1) => match looks ρ1 rs with
  | some [.int i, .int j] => if rOk i ∧ rOk j then .ok (rangeD i (j - i).toNat, ρ1) else .bad
  | _ => .bad) := rfl
@[simp ↓] theorem iEnum_bind {β : Type} (fa : Env' → Res (RV × Env')) (ρ : Env') (k : _ → Res β) : (iEnum fa ρ).bind k = Res.bind ((aConsE fa aNil ρ).bind fun (rs, ρ1) => match rs with
  | [.leaf d] => (Res.of d.walk).bind fun ds => .ok (enumFrom 0 ds, ρ1)
  | _ => .bad) k := rfl
theorem iEnum_ap (fa : Env' → Res (RV × Env')) (ρ : Env') : iEnum fa ρ = ((aConsE fa aNil ρ).bind fun (rs, ρ1) => match rs with
  | [.leaf d] => (Res.of d.walk).bind fun ds => .ok (enumFrom 0 ds, ρ1)
  | _ => .bad) := rfl
end
@[simp] theorem look_leaf (ρ : Env') (d : D) : look ρ (.leaf d) = some d := rfl
@[simp] theorem look_slot (ρ : Env') (i : Nat) : look ρ (.slot i) = (match ρ[i]? with | some (some t) => t.top | _ => none) := rfl
@[simp] theorem looks_nil (ρ : Env') : looks ρ [] = some [] := rfl
@[simp] theorem looks_cons (ρ : Env') (r : RV) (rs : List RV) : looks ρ (r :: rs) = (look ρ r).bind fun d => (looks ρ rs).map (d :: ·) := rfl
@[simp] theorem esc_leaf (ρ : Env') (d : D) : esc ρ (.leaf d) = some (d, ρ) := rfl
@[simp] theorem esc_slot (ρ : Env') (i : Nat) : esc ρ (.slot i) = (match ρ[i]? with | some (some t) => some (t.d, ρ.set i (some (.sh t.d))) | _ => none) := rfl
@[simp] theorem top_sh (d : D) : (T.sh d).top = some d := rfl
theorem top_lst (ds : List D) : (T.lst (ds.map T.sh)).top = some (.lst ds) := by simp [T.top, T.leaves_sh]
@[simp] theorem d_sh (d : D) : (T.sh d).d = d := rfl
theorem d_lst (ds : List D) : (T.lst (ds.map T.sh)).d = .lst ds := by rw [T.d, T.go_sh]
@[simp] theorem leafs_nil : eTup.leafs [] = some [] := rfl
@[simp] theorem leafs_cons (d : D) (rs : List RV) : eTup.leafs (.leaf d :: rs) = (eTup.leafs rs).map (d :: ·) := rfl
@[simp] theorem leafs_eq (rs : List RV) : leafs rs = eTup.leafs rs := rfl
/-! ### what comes of a mirror, where it comes to an end -/
structure Res.sat {α : Type} (r : Res α) (P : α → Prop) : Prop where
  of :: (h : match r with
    | .ok a => P a
    | _ => False)
@[simp] theorem sat_ok {α : Type} (a : α) (P : α → Prop) : (Res.ok a).sat P = P a := propext ⟨fun h => h.h, fun h => ⟨h⟩⟩
@[simp] theorem sat_bad {α : Type} (P : α → Prop) : (Res.bad : Res α).sat P = False := propext ⟨fun h => h.h, fun h => h.elim⟩
@[simp] theorem sat_exc {α : Type} (c : Str) (ρ : Env') (P : α → Prop) : (Res.exc c ρ : Res α).sat P = False := propext ⟨fun h => h.h, fun h => h.elim⟩
@[simp ↓] theorem eC_sat (d : D) (ρ : Env') (P : _ → Prop) : (eC d ρ).sat P = Res.sat (.ok (.leaf d, ρ)) P := rfl
@[simp ↓] theorem eVar_sat (i : Nat) (ρ : Env') (P : _ → Prop) : (eVar i ρ).sat P = Res.sat (match ρ[i]? with
  | some (some (.sh d)) => .ok (.leaf d, ρ)
  | some (some _) => .ok (.slot i, ρ)
  | _ => .bad) P := rfl
@[simp ↓] theorem eBin_sat (g : D → D → Option D) (fa fb : Env' → Res (RV × Env')) (ρ : Env') (P : _ → Prop) : (eBin g fa fb ρ).sat P = Res.sat ((fa ρ).bind fun (r1, ρ1) => (fb ρ1).bind fun (r2, ρ2) => (Res.of (look ρ2 r1)).bind fun d1 => (Res.of (look ρ2 r2)).bind fun d2 => (Res.of (g d1 d2)).bind fun d => .ok (.leaf d, ρ2)) P := rfl
@[simp ↓] theorem eUn_sat (g : D → Option D) (fa : Env' → Res (RV × Env')) (ρ : Env') (P : _ → Prop) : (eUn g fa ρ).sat P = Res.sat ((fa ρ).bind fun (r1, ρ1) => (Res.of (look ρ1 r1)).bind fun d1 => (Res.of (g d1)).bind fun d => .ok (.leaf d, ρ1)) P := rfl
@[simp ↓] theorem eB_sat (g : List D → Option D) (fs : Env' → Res (List RV × Env')) (ρ : Env') (P : _ → Prop) : (eB g fs ρ).sat P = Res.sat ((fs ρ).bind fun (rs, ρ1) => (Res.of (looks ρ1 rs)).bind fun ds => (Res.of (g ds)).bind fun d => .ok (.leaf d, ρ1)) P := rfl
@[simp ↓] theorem eTup_sat (fs : Env' → Res (List RV × Env')) (ρ : Env') (P : _ → Prop) : (eTup fs ρ).sat P = Res.sat ((fs ρ).bind fun (rs, ρ1) => (Res.of (leafs rs)).bind fun ds => if ds.length ≤ sizeLine then .ok (.leaf (.tup ds), ρ1) else .bad) P := rfl
@[simp ↓] theorem eAnd_sat (fa fb : Env' → Res (RV × Env')) (ρ : Env') (P : _ → Prop) : (eAnd fa fb ρ).sat P = Res.sat ((fa ρ).bind fun (r, ρ1) => match look ρ1 r with
  | some (.bl true) => fb ρ1
  | some (.bl false) => .ok (.leaf (.bl false), ρ1)
  | _ => .bad) P := rfl
@[simp ↓] theorem eOr_sat (fa fb : Env' → Res (RV × Env')) (ρ : Env') (P : _ → Prop) : (eOr fa fb ρ).sat P = Res.sat ((fa ρ).bind fun (r, ρ1) => match look ρ1 r with
  | some (.bl false) => fb ρ1
  | some (.bl true) => .ok (.leaf (.bl true), ρ1)
  | _ => .bad) P := rfl
@[simp ↓] theorem eNot_sat (fa : Env' → Res (RV × Env')) (ρ : Env') (P : _ → Prop) : (eNot fa ρ).sat P = Res.sat ((fa ρ).bind fun (r, ρ1) => match look ρ1 r with
  | some (.bl b) => .ok (.leaf (.bl (!b)), ρ1)
  | _ => .bad) P := rfl
@[simp ↓] theorem eIf_sat (tc : Env' → Res (Bool × Env')) (fa fb : Env' → Res (RV × Env')) (ρ : Env') (P : _ → Prop) : (eIf tc fa fb ρ).sat P = Res.sat ((tc ρ).bind fun (b, ρ1) => if b = true then fa ρ1 else fb ρ1) P := rfl
@[simp ↓] theorem eChain_sat (g g' : D → D → Option D) (fa fb fc : Env' → Res (RV × Env')) (ρ : Env') (P : _ → Prop) : (eChain g g' fa fb fc ρ).sat P = Res.sat ((fa ρ).bind fun (r1, ρ1) => (fb ρ1).bind fun (r2, ρ2) => (Res.of (look ρ2 r1)).bind fun d1 => (Res.of (look ρ2 r2)).bind fun d2 => match g d1 d2 with
    | some (.bl true) => (fc ρ2).bind fun (r3, ρ3) => (Res.of (look ρ3 r2)).bind fun d2 => (Res.of (look ρ3 r3)).bind fun d3 => (Res.of (g' d2 d3)).bind fun d => .ok (.leaf d, ρ3)
    | some (.bl false) => .ok (.leaf (.bl false), ρ2)
    | _ => .bad) P := rfl
@[simp ↓] theorem eSl_sat (fa : Env' → Res (RV × Env')) (fl fh : Env' → Res (Option Int × Env')) (ρ : Env') (P : _ → Prop) : (eSl fa fl fh ρ).sat P = Res.sat ((fa ρ).bind fun (r, ρ1) => (fl ρ1).bind fun (lo, ρ2) => (fh ρ2).bind fun (hi, ρ3) => (Res.of ((look ρ3 r).bind (D.sl lo hi))).bind fun d => .ok (.leaf d, ρ3)) P := rfl
@[simp ↓] theorem oOf_sat (na : Env' → Res (T × Env')) (ρ : Env') (P : _ → Prop) : (oOf na ρ).sat P = Res.sat ((na ρ).bind fun (t, ρ1) => .ok (.leaf t.d, ρ1)) P := rfl
@[simp ↓] theorem nOf_sat (fa : Env' → Res (RV × Env')) (ρ : Env') (P : _ → Prop) : (nOf fa ρ).sat P = Res.sat ((fa ρ).bind fun (r, ρ1) => (Res.of (esc ρ1 r)).bind fun (d, ρ2) => .ok (.sh d, ρ2)) P := rfl
@[simp ↓] theorem nB_sat (g : List D → Option (List D)) (fs : Env' → Res (List RV × Env')) (ρ : Env') (P : _ → Prop) : (nB g fs ρ).sat P = Res.sat ((fs ρ).bind fun (rs, ρ1) => (Res.of (looks ρ1 rs)).bind fun ds => (Res.of (g ds)).bind fun es => .ok (.lst (es.map T.sh), ρ1)) P := rfl
@[simp ↓] theorem nLst_sat (ns : Env' → Res (List T × Env')) (ρ : Env') (P : _ → Prop) : (nLst ns ρ).sat P = Res.sat ((ns ρ).bind fun (ts, ρ1) => if ts.length ≤ sizeLine then .ok (.lst ts, ρ1) else .bad) P := rfl
@[simp ↓] theorem nBin_sat (g : D → D → Option (List D)) (fa fb : Env' → Res (RV × Env')) (ρ : Env') (P : _ → Prop) : (nBin g fa fb ρ).sat P = Res.sat ((fa ρ).bind fun (r1, ρ1) => (fb ρ1).bind fun (r2, ρ2) => (Res.of (look ρ2 r1)).bind fun d1 => (Res.of (look ρ2 r2)).bind fun d2 => (Res.of (g d1 d2)).bind fun es => .ok (.lst (es.map T.sh), ρ2)) P := rfl
@[simp ↓] theorem nSl_sat (fa : Env' → Res (RV × Env')) (fl fh : Env' → Res (Option Int × Env')) (ρ : Env') (P : _ → Prop) : (nSl fa fl fh ρ).sat P = Res.sat ((fa ρ).bind fun (r, ρ1) => (fl ρ1).bind fun (lo, ρ2) => (fh ρ2).bind fun (hi, ρ3) => match look ρ3 r with
    | some (.lst ds) => .ok (.lst ((cutD ds lo hi).map T.sh), ρ3)
    | some (.fz ds) => .ok (.lst ((cutD ds lo hi).map T.sh), ρ3)
    | _ => .bad) P := rfl
@[simp ↓] theorem nIf_sat (tc : Env' → Res (Bool × Env')) (na nb : Env' → Res (T × Env')) (ρ : Env') (P : _ → Prop) : (nIf tc na nb ρ).sat P = Res.sat ((tc ρ).bind fun (b, ρ1) => if b = true then na ρ1 else nb ρ1) P := rfl
@[simp ↓] theorem nLc_sat (fi : Env' → Res (List D × Env')) (gt : D → Env' → Option Env') (tt : Env' → Res (Bool × Env')) (ne : Env' → Res (T × Env')) (vs : List Nat) (ρ : Env') (P : _ → Prop) : (nLc fi gt tt ne vs ρ).sat P = Res.sat ((fi ρ).bind fun (ds, ρ1) => if ds.length ≤ sizeLine then (lcGo gt tt ne vs ds (wipeE ρ1 vs)).bind fun (ts, ρ2) => .ok (.lst ts, backE ρ1 ρ2 vs) else .bad) P := rfl
@[simp ↓] theorem eM_sat (T : String) (g : D → List D → Option D) (fa : Env' → Res (RV × Env')) (fs : Env' → Res (List RV × Env')) (ρ : Env') (P : _ → Prop) : (eM T g fa fs ρ).sat P = Res.sat ((fa ρ).bind fun (r, ρ1) => (Res.of (look ρ1 r)).bind fun d0 => if D.isTy T d0 = true then (fs ρ1).bind fun (rs, ρ2) => (Res.of (look ρ2 r)).bind fun d => (Res.of (looks ρ2 rs)).bind fun ds => (Res.of (g d ds)).bind fun e => .ok (.leaf e, ρ2) else .bad) P := rfl
@[simp ↓] theorem eCall_sat (m : List D → Out D) (fs : Env' → Res (List RV × Env')) (ρ : Env') (P : _ → Prop) : (eCall m fs ρ).sat P = Res.sat ((fs ρ).bind fun (rs, ρ1) => (Res.of (leafs rs)).bind fun ds => match m ds with
  | .ok d => .ok (.leaf d, ρ1)
  | .exc c => .exc c ρ1
  | .bad => .bad) P := rfl
@[simp ↓] theorem nCall_sat (m : List D → Out T) (fs : Env' → Res (List RV × Env')) (ρ : Env') (P : _ → Prop) : (nCall m fs ρ).sat P = Res.sat ((fs ρ).bind fun (rs, ρ1) => (Res.of (leafs rs)).bind fun ds => match m ds with
  | .ok t => .ok (t, ρ1)
  | .exc c => .exc c ρ1
  | .bad => .bad) P := rfl
@[simp ↓] theorem ePop_sat (i : Nat) (ρ : Env') (P : _ → Prop) : (ePop i ρ).sat P = Res.sat (match ρ[i]? with
  | some (some (.lst ts)) => match ts[ts.length - 1]? with
    | some (.sh d) => .ok (.leaf d, ρ.set i (some (.lst ts.dropLast)))
    | _ => .bad
  | _ => .bad) P := rfl
@[simp ↓] theorem aNil_sat (ρ : Env') (P : _ → Prop) : (aNil  ρ).sat P = Res.sat (.ok ([], ρ)) P := rfl
@[simp ↓] theorem aCons_sat (fa : Env' → Res (RV × Env')) (fr : Env' → Res (List RV × Env')) (ρ : Env') (P : _ → Prop) : (aCons fa fr ρ).sat P = Res.sat ((fa ρ).bind fun (r, ρ1) => (fr ρ1).bind fun (rs, ρ2) => .ok (r :: rs, ρ2)) P := rfl
@[simp ↓] theorem aConsE_sat (fa : Env' → Res (RV × Env')) (fr : Env' → Res (List RV × Env')) (ρ : Env') (P : _ → Prop) : (aConsE fa fr ρ).sat P = Res.sat ((fa ρ).bind fun (r, ρ1) => (Res.of (esc ρ1 r)).bind fun (d, ρ1') => (fr ρ1').bind fun (rs, ρ2) => .ok (.leaf d :: rs, ρ2)) P := rfl
@[simp ↓] theorem atNil_sat (ρ : Env') (P : _ → Prop) : (atNil  ρ).sat P = Res.sat (.ok ([], ρ)) P := rfl
@[simp ↓] theorem atCons_sat (na : Env' → Res (T × Env')) (nr : Env' → Res (List T × Env')) (ρ : Env') (P : _ → Prop) : (atCons na nr ρ).sat P = Res.sat ((na ρ).bind fun (t, ρ1) => (nr ρ1).bind fun (ts, ρ2) => .ok (t :: ts, ρ2)) P := rfl
@[simp ↓] theorem tstV_sat (fa : Env' → Res (RV × Env')) (ρ : Env') (P : _ → Prop) : (tstV fa ρ).sat P = Res.sat ((fa ρ).bind fun (r, ρ1) => match look ρ1 r with
  | some (.bl b) => .ok (b, ρ1)
  | _ => .bad) P := rfl
@[simp ↓] theorem tstT_sat (fa : Env' → Res (RV × Env')) (ρ : Env') (P : _ → Prop) : (tstT fa ρ).sat P = Res.sat ((fa ρ).bind fun (r, ρ1) => (Res.of ((look ρ1 r).bind D.truth)).bind fun b => .ok (b, ρ1)) P := rfl
@[simp ↓] theorem tstNot_sat (ta : Env' → Res (Bool × Env')) (ρ : Env') (P : _ → Prop) : (tstNot ta ρ).sat P = Res.sat ((ta ρ).bind fun (b, ρ1) => .ok (!b, ρ1)) P := rfl
@[simp ↓] theorem tstAnd_sat (ta tb : Env' → Res (Bool × Env')) (ρ : Env') (P : _ → Prop) : (tstAnd ta tb ρ).sat P = Res.sat ((ta ρ).bind fun (b, ρ1) => if b = true then tb ρ1 else .ok (false, ρ1)) P := rfl
@[simp ↓] theorem tstOr_sat (ta tb : Env' → Res (Bool × Env')) (ρ : Env') (P : _ → Prop) : (tstOr ta tb ρ).sat P = Res.sat ((ta ρ).bind fun (b, ρ1) => if b = true then .ok (true, ρ1) else tb ρ1) P := rfl
@[simp ↓] theorem pNone_sat (ρ : Env') (P : _ → Prop) : (pNone  ρ).sat P = Res.sat (.ok (none, ρ)) P := rfl
@[simp ↓] theorem pSome_sat (fa : Env' → Res (RV × Env')) (ρ : Env') (P : _ → Prop) : (pSome fa ρ).sat P = Res.sat ((fa ρ).bind fun (r, ρ1) => match look ρ1 r with
  | some (.int i) => .ok (some i, ρ1)
  | _ => .bad) P := rfl
@[simp ↓] theorem ttYes_sat (ρ : Env') (P : _ → Prop) : (ttYes  ρ).sat P = Res.sat (.ok (true, ρ)) P := rfl
@[simp ↓] theorem sNil_sat (ρ : Env') (P : _ → Prop) : (sNil  ρ).sat P = Res.sat (.ok (.nx ρ)) P := rfl
@[simp ↓] theorem sSeq_sat (f g : Env' → Res Fl) (ρ : Env') (P : _ → Prop) : (sSeq f g ρ).sat P = Res.sat ((f ρ).bind fun r => match r with
  | .nx ρ' => g ρ'
  | r => .ok r) P := rfl
@[simp ↓] theorem sExpr_sat (fa : Env' → Res (RV × Env')) (ρ : Env') (P : _ → Prop) : (sExpr fa ρ).sat P = Res.sat ((fa ρ).bind fun (_, ρ1) => .ok (.nx ρ1)) P := rfl
@[simp ↓] theorem sSet_sat (i : Nat) (na : Env' → Res (T × Env')) (ρ : Env') (P : _ → Prop) : (sSet i na ρ).sat P = Res.sat ((na ρ).bind fun (t, ρ1) => if i < ρ1.length then .ok (.nx (ρ1.set i (some t))) else .bad) P := rfl
@[simp ↓] theorem sRet_sat (na : Env' → Res (T × Env')) (ρ : Env') (P : _ → Prop) : (sRet na ρ).sat P = Res.sat ((na ρ).bind fun (t, ρ1) => .ok (.rt t ρ1)) P := rfl
@[simp ↓] theorem sRetN_sat (ρ : Env') (P : _ → Prop) : (sRetN  ρ).sat P = Res.sat (.ok (.rt (.sh .non) ρ)) P := rfl
@[simp ↓] theorem sRetOwn_sat (i : Nat) (ρ : Env') (P : _ → Prop) : (sRetOwn i ρ).sat P = Res.sat (match ρ[i]? with
  | some (some t) => .ok (.rt t (ρ.set i none))
  | _ => .bad) P := rfl
@[simp ↓] theorem sIf_sat (ta : Env' → Res (Bool × Env')) (f g : Env' → Res Fl) (ρ : Env') (P : _ → Prop) : (sIf ta f g ρ).sat P = Res.sat ((ta ρ).bind fun (b, ρ1) => if b = true then f ρ1 else g ρ1) P := rfl
@[simp ↓] theorem sBk_sat (ρ : Env') (P : _ → Prop) : (sBk  ρ).sat P = Res.sat (.ok (.bk ρ)) P := rfl
@[simp ↓] theorem sCt_sat (ρ : Env') (P : _ → Prop) : (sCt  ρ).sat P = Res.sat (.ok (.ct ρ)) P := rfl
@[simp ↓] theorem sFor_sat (fi : Env' → Res (List D × Env')) (gt : D → Env' → Option Env') (f : Env' → Res Fl) (ρ : Env') (P : _ → Prop) : (sFor fi gt f ρ).sat P = Res.sat ((fi ρ).bind fun (ds, ρ1) => forGo gt f ds ρ1) P := rfl
@[simp ↓] theorem sUnpack_sat (fa : Env' → Res (RV × Env')) (gt : D → Env' → Option Env') (ρ : Env') (P : _ → Prop) : (sUnpack fa gt ρ).sat P = Res.sat ((fa ρ).bind fun (r, ρ1) => (Res.of (esc ρ1 r)).bind fun (d, ρ2) => (Res.of (gt d ρ2)).bind fun ρ3 => .ok (.nx ρ3)) P := rfl
@[simp ↓] theorem sPar_sat (i j : Nat) (fs : Env' → Res (List RV × Env')) (ρ : Env') (P : _ → Prop) : (sPar i j fs ρ).sat P = Res.sat ((fs ρ).bind fun (rs, ρ1) => match rs with
  | [.leaf d, .leaf e] => if i < ρ1.length ∧ j < ρ1.length then .ok (.nx ((ρ1.set i (some (.sh d))).set j (some (.sh e)))) else .bad
  | _ => .bad) P := rfl
@[simp ↓] theorem sAug_sat (i : Nat) (g : D → D → Option D) (fa : Env' → Res (RV × Env')) (ρ : Env') (P : _ → Prop) : (sAug i g fa ρ).sat P = Res.sat (match ρ[i]? with
  | some (some (.sh d1)) => (fa ρ).bind fun (r, ρ1) => (Res.of (look ρ1 r)).bind fun d2 => (Res.of (g d1 d2)).bind fun d => if i < ρ1.length then .ok (.nx (ρ1.set i (some (.sh d)))) else .bad
  | _ => .bad) P := rfl
@[simp ↓] theorem sAppend_sat (i : Nat) (na : Env' → Res (T × Env')) (ρ : Env') (P : _ → Prop) : (sAppend i na ρ).sat P = Res.sat (match ρ[i]? with
  | some (some (.lst _)) => (na ρ).bind fun (t, ρ1) => match ρ1[i]? with
    | some (some (.lst ts)) => if ts.length < sizeLine then .ok (.nx (ρ1.set i (some (.lst (ts ++ [t]))))) else .bad
    | _ => .bad
  | _ => .bad) P := rfl
@[simp ↓] theorem sExtend_sat (i : Nat) (fa : Env' → Res (RV × Env')) (ρ : Env') (P : _ → Prop) : (sExtend i fa ρ).sat P = Res.sat (match ρ[i]? with
  | some (some (.lst _)) => (fa ρ).bind fun (r, ρ1) => match look ρ1 r with
    | some (.lst ds) => match ρ1[i]? with
      | some (some (.lst ts)) => if ts.length + ds.length ≤ sizeLine then .ok (.nx (ρ1.set i (some (.lst (ts ++ ds.map T.sh))))) else .bad
      | _ => .bad
    | _ => .bad
  | _ => .bad) P := rfl
@[simp ↓] theorem sSetIx_sat (i : Nat) (na : Env' → Res (T × Env')) (fb : Env' → Res (RV × Env')) (ρ : Env') (P : _ → Prop) : (sSetIx i na fb ρ).sat P = Res.sat ((na ρ).bind fun (t, ρ1) => match t, ρ1[i]? with
  | .sh d, some (some _) => (fb ρ1).bind fun (r, ρ2) => match look ρ2 r, ρ2[i]? with
    | some (.int k), some (some (.lst ts)) => match ixN ts.length k with
      | some j => match ts[j]? with
        | some (.sh _) => .ok (.nx (ρ2.set i (some (.lst (ts.set j (.sh d))))))
        | _ => .bad
      | none => .bad
    | _, _ => .bad
  | _, _ => .bad) P := rfl
@[simp ↓] theorem sAugIx_sat (i : Nat) (g : D → D → Option D) (fb fa : Env' → Res (RV × Env')) (ρ : Env') (P : _ → Prop) : (sAugIx i g fb fa ρ).sat P = Res.sat (match ρ[i]? with
  | some (some _) => (fb ρ).bind fun (r, ρ1) => match look ρ1 r, ρ1[i]? with
    | some (.int k), some (some (.lst ts)) => match (ixN ts.length k).bind fun j => ts[j]? with
      | some (.sh d1) => (fa ρ1).bind fun (r2, ρ2) => (Res.of (look ρ2 r2)).bind fun d2 => (Res.of (g d1 d2)).bind fun d => match ρ2[i]? with
        | some (some (.lst ts2)) => match ixN ts2.length k with
          | some j => match ts2[j]? with
            | some (.sh _) => .ok (.nx (ρ2.set i (some (.lst (ts2.set j (.sh d))))))
            | _ => .bad
          | none => .bad
        | _ => .bad
      | _ => .bad
    | _, _ => .bad
  | _ => .bad) P := rfl
@[simp ↓] theorem sRaise_sat (x : Str) (ρ : Env') (P : _ → Prop) : (sRaise x ρ).sat P = Res.sat (.exc x ρ) P := rfl
@[simp ↓] theorem iSeq_sat (fa : Env' → Res (RV × Env')) (ρ : Env') (P : _ → Prop) : (iSeq fa ρ).sat P = Res.sat ((fa ρ).bind fun (r, ρ1) => (Res.of (esc ρ1 r)).bind fun (d, ρ2) => (Res.of d.walk).bind fun ds => .ok (ds, ρ2)) P := rfl
@[simp ↓] theorem iRange1_sat (fs : Env' → Res (List RV × Env')) (ρ : Env') (P : _ → Prop) : (iRange1 fs ρ).sat P = Res.sat ((fs ρ).bind fun (rs, ρ1) => match looks ρ1 rs with
  | some [.int j] => if rOk j then .ok (rangeD 0 j.toNat, ρ1) else .bad
  | _ => .bad) P := rfl
@[simp ↓] theorem iRange2_sat (fs : Env' → Res (List RV × Env')) (ρ : Env') (P : _ → Prop) : (iRange2 fs ρ).sat P = Res.sat ((fs ρ).bind fun (rs, ρ1) => match looks ρ1 rs with
  | some [.int i, .int j] => if rOk i ∧ rOk j then .ok (rangeD i (j - i).toNat, ρ1) else .bad
  | _ => .bad) P := rfl
@[simp ↓] theorem iEnum_sat (fa : Env' → Res (RV × Env')) (ρ : Env') (P : _ → Prop) : (iEnum fa ρ).sat P = Res.sat ((aConsE fa aNil ρ).bind fun (rs, ρ1) => match rs with
  | [.leaf d] => (Res.of d.walk).bind fun ds => .ok (enumFrom 0 ds, ρ1)
  | _ => .bad) P := rfl
@[simp ↓] theorem sat_ite_bind {α β : Type} (c : Prop) [Decidable c] (x y : Res α) (k : α → Res β) (P : β → Prop) : ((if c then x else y).bind k).sat P = ((c → (x.bind k).sat P) ∧ (¬ c → (y.bind k).sat P)) := by
  by_cases h : c <;> simp [h]
@[simp ↓] theorem sat_ite2 {α : Type} (c : Prop) [Decidable c] (x y : Res α) (P : α → Prop) : (if c then x else y).sat P = ((c → x.sat P) ∧ (¬ c → y.sat P)) := by
  by_cases h : c <;> simp [h]
@[simp ↓ high] theorem sat_if_bind {α β : Type} (c : Prop) [Decidable c] (x : Res α) (k : α → Res β) (P : β → Prop) : ((if c then x else Res.bad).bind k).sat P = (c ∧ (x.bind k).sat P) := by
  by_cases h : c <;> simp [h]
@[simp ↓ high] theorem sat_if2 {α : Type} (c : Prop) [Decidable c] (x : Res α) (P : α → Prop) : (if c then x else Res.bad).sat P = (c ∧ x.sat P) := by
  by_cases h : c <;> simp [h]
@[simp ↓ high] theorem sat_of_if {α β : Type} (c : Prop) [Decidable c] (x : α) (k : α → Res β) (P : β → Prop) : ((Res.of (if c then some x else none)).bind k).sat P = (c ∧ (k x).sat P) := by
  by_cases h : c <;> simp [h]
theorem sat_bind {α β : Type} {x : Res α} {k : α → Res β} {P : β → Prop} (Q : α → Prop) (h : x.sat Q) (h2 : ∀ a, Q a → (k a).sat P) : (x.bind k).sat P := by
  cases x with
  | ok a => exact h2 a h.h
  | exc c ρ => exact h.h.elim
  | bad => exact h.h.elim
theorem sat_mono {α : Type} {x : Res α} {P Q : α → Prop} (h : x.sat Q) (i : ∀ a, Q a → P a) : x.sat P := by
  cases x with
  | ok a => exact ⟨i a h.h⟩
  | exc c ρ => exact h.h.elim
  | bad => exact h.h.elim
theorem sat_eq {α : Type} {x : Res α} {P : α → Prop} (h : x.sat P) : ∃ a, x = .ok a ∧ P a := by
  cases x with
  | ok a => exact ⟨a, rfl, h.h⟩
  | exc c ρ => exact h.h.elim
  | bad => exact h.h.elim
/-- a statement, then the rest; Q: where the statement is passed -/
theorem sat_seq {f g : Env' → Res Fl} {ρ : Env'} {P : Fl → Prop} (Q : Env' → Prop) (h : (f ρ).sat fun r => ∃ ρ', r = .nx ρ' ∧ Q ρ') (h2 : ∀ ρ', Q ρ' → (g ρ').sat P) : (sSeq f g ρ).sat P := by
  rw [sSeq_ap]
  exact sat_bind _ h fun a ⟨ρ', e, q⟩ => by subst e; exact h2 ρ' q
theorem sat_seqR {f g : Env' → Res Fl} {ρ : Env'} {P : Fl → Prop} (Q : Env' → Prop) (h : (f ρ).sat fun r => match r with
    | .nx ρ' => Q ρ'
    | r => P r) (h2 : ∀ ρ', Q ρ' → (g ρ').sat P) : (sSeq f g ρ).sat P := by
  rw [sSeq_ap]
  refine sat_bind _ h fun a h => ?_
  cases a with
  | nx ρ' => exact h2 ρ' h
  | rt t ρ' => exact ⟨h⟩
  | bk ρ' => exact ⟨h⟩
  | ct ρ' => exact ⟨h⟩
/-- a loop: I at each turn; R what is told when it returns; B behind a break -/
theorem sat_for {gt : D → Env' → Option Env'} {f : Env' → Res Fl} {P : Fl → Prop} (I : Nat → Env' → Prop) : ∀ {ds : List D} {ρ : Env'} (n : Nat), I n ρ →
    (∀ i d ρ, ds[i]? = some d → I (n + i) ρ → ∃ ρ1, gt d ρ = some ρ1 ∧ (f ρ1).sat fun r => match r with
      | .nx ρ' => I (n + i + 1) ρ'
      | .ct ρ' => I (n + i + 1) ρ'
      | .bk ρ' => P (.nx ρ')
      | .rt t ρ' => P (.rt t ρ')) →
    (∀ ρ, I (n + ds.length) ρ → P (.nx ρ)) → (forGo gt f ds ρ).sat P
  | [], ρ, n, h0, _, h2 => ⟨h2 ρ h0⟩
  | d :: ds, ρ, n, h0, h1, h2 => by
    rw [forGo]
    obtain ⟨ρ1, e1, s1⟩ := h1 0 d ρ rfl h0
    rw [e1]
    simp only [of_some, bind_ok]
    refine sat_bind _ s1 fun r hr => ?_
    have next : ∀ ρ', I (n + 0 + 1) ρ' → (forGo gt f ds ρ').sat P := fun ρ' q => sat_for I (n + 1) (by simpa using q) (fun i d' ρ2 hd hi => by
      have := h1 (i + 1) d' ρ2 (by simpa using hd) (by rw [show n + (i + 1) = n + 1 + i by omega]; exact hi)
      rw [show n + (i + 1) = n + 1 + i by omega] at this
      exact this) (fun ρ q => h2 ρ (by rw [List.length_cons, show n + (ds.length + 1) = n + 1 + ds.length by omega]; exact q))
    cases r with
    | nx ρ' => exact next ρ' hr
    | ct ρ' => exact next ρ' hr
    | bk ρ' => exact ⟨hr⟩
    | rt t ρ' => exact ⟨hr⟩
theorem range_get {lo : Int} {n i : Nat} {d : D} (h : (rangeD lo n)[i]? = some d) : d = .int (lo + i) ∧ i < n := by
  unfold rangeD at h
  rw [List.getElem?_map] at h
  cases e : (List.range n)[i]? with
  | none => rw [e] at h; cases h
  | some k =>
    rw [e] at h
    obtain ⟨hk, ek⟩ := List.getElem?_eq_some_iff.mp e
    rw [List.getElem_range] at ek
    subst ek
    cases h
    exact ⟨rfl, by simpa using hk⟩
@[simp] theorem range_length (lo : Int) (n : Nat) : (rangeD lo n).length = n := by simp [rangeD]
/-- a while by a measure -/
theorem sat_while {ta : Env' → Res (Bool × Env')} {f : Env' → Res Fl} {P : Fl → Prop} (I : Nat → Env' → Prop) (h : ∀ n ρ, I n ρ → (ta ρ).sat fun (b, ρ1) => if b = true then (f ρ1).sat fun r => match r with
      | .nx ρ' => ∃ m, m < n ∧ I m ρ'
      | .ct ρ' => ∃ m, m < n ∧ I m ρ'
      | .bk ρ' => P (.nx ρ')
      | .rt t ρ' => P (.rt t ρ') else P (.nx ρ1)) : ∀ (n : Nat) {ρ : Env'}, I n ρ → (sWhile ta f ρ).sat P := by
  intro n
  induction n using Nat.strongRecOn with
  | ind n ih =>
    intro ρ hi
    rw [sWhile_step]
    refine sat_bind _ (h n ρ hi) fun (b, ρ1) q => ?_
    cases b with
    | false => simpa using q
    | true =>
      simp only [if_true] at q ⊢
      refine sat_bind _ q fun r hr => ?_
      cases r with
      | nx ρ' => obtain ⟨m, hm, hi'⟩ := hr; exact ih m hm hi'
      | ct ρ' => obtain ⟨m, hm, hi'⟩ := hr; exact ih m hm hi'
      | bk ρ' => exact ⟨hr⟩
      | rt t ρ' => exact ⟨hr⟩
theorem mirP_sat {np nN : Nat} {b : Env' → Res Fl} {ds : List D} {P : D → Prop} (hl : ds.length = np) (h : (b (startE nN ds)).sat fun r => match r with
    | .nx _ => P .non
    | .rt (.sh d) _ => P d
    | _ => False) : ∃ d, mirP np nN b ds = .ok d ∧ P d := by
  obtain ⟨r, e, q⟩ := sat_eq h
  unfold mirP
  rw [if_pos hl, e]
  cases r with
  | nx ρ => exact ⟨_, rfl, q⟩
  | rt t ρ =>
    cases t with
    | sh d => exact ⟨_, rfl, q⟩
    | _ => exact q.elim
  | bk ρ => exact q.elim
  | ct ρ => exact q.elim
theorem atI_pos {α : Type} (xs : List α) (i : Int) (h : 0 ≤ i) : L2.atI xs i = xs[i.toNat]? := by
  unfold L2.atI L2.ixN
  rw [if_pos h]
  split
  · rfl
  · rename_i q
    rw [List.getElem?_eq_none_iff.mpr (by omega)]
    rfl
theorem mulOk_l {i j : Int} (h : -(2 ^ 64) < i ∧ i < 2 ^ 64) : mulOk i j := .inl (.inl h)
theorem mulOk_r {i j : Int} (h : -(2 ^ 64) < j ∧ j < 2 ^ 64) : mulOk i j := .inl (.inr h)
theorem log_small {j : Int} (h0 : 0 < j) (h : j < 2 ^ 64) : j.natAbs.log2 < 9000 := by
  have : j.natAbs < 2 ^ 64 := by omega
  exact Nat.lt_trans (PySem.Flt.log2_lt_of (by decide) this) (by decide)
/-! ### operations on data, kind by kind -/
@[simp] theorem add_int (i j : Int) : D.add (.int i) (.int j) = some (.int (i + j)) := rfl
@[simp] theorem sub_int (i j : Int) : D.sub (.int i) (.int j) = some (.int (i - j)) := rfl
@[simp] theorem mul_int (i j : Int) : D.mul (.int i) (.int j) = if mulOk i j then some (.int (i * j)) else none := rfl
@[simp] theorem fdiv_int (i j : Int) : D.fdiv (.int i) (.int j) = if 0 < j ∧ j.natAbs.log2 < 9000 then some (.int (i / j)) else none := rfl
@[simp] theorem mod_int (i j : Int) : D.mod (.int i) (.int j) = if 0 < j then some (.int (i % j)) else none := rfl
@[simp] theorem pow_int (i j : Int) : D.pow (.int i) (.int j) = if 0 ≤ j ∧ j ≤ 1000000 ∧ i.natAbs < 2 ^ 64 then some (.int (i ^ j.toNat)) else none := rfl
@[simp] theorem lt_int (i j : Int) : D.lt (.int i) (.int j) = some (.bl (decide (i < j))) := rfl
@[simp] theorem le_int (i j : Int) : D.le (.int i) (.int j) = some (.bl (decide (i ≤ j))) := rfl
@[simp] theorem gt_int (i j : Int) : D.gt (.int i) (.int j) = some (.bl (decide (j < i))) := rfl
@[simp] theorem ge_int (i j : Int) : D.ge (.int i) (.int j) = some (.bl (decide (j ≤ i))) := rfl
@[simp] theorem neg_int (i : Int) : D.neg (.int i) = some (.int (-i)) := rfl
@[simp] theorem is_non (d : D) : D.is d .non = some (.bl d.isNon) := by cases d <;> rfl
@[simp] theorem isnt_non (d : D) : D.isnt d .non = some (.bl (!d.isNon)) := by cases d <;> rfl
@[simp] theorem is_bl (a b : Bool) : D.is (.bl a) (.bl b) = some (.bl (decide (a = b))) := rfl
@[simp] theorem isnt_bl (a b : Bool) : D.isnt (.bl a) (.bl b) = some (.bl (!decide (a = b))) := rfl
@[simp] theorem isNon_non : D.isNon .non = true := rfl
@[simp] theorem isNon_int (i : Int) : D.isNon (.int i) = false := rfl
@[simp] theorem isNon_str (x : Str) : D.isNon (.str x) = false := rfl
@[simp] theorem isNon_bl (x : Bool) : D.isNon (.bl x) = false := rfl
@[simp] theorem isNon_tup (x : List D) : D.isNon (.tup x) = false := rfl
@[simp] theorem isNon_lst (x : List D) : D.isNon (.lst x) = false := rfl
@[simp] theorem len_lst (ds : List D) : D.len [.lst ds] = some (.int ds.length) := rfl
@[simp] theorem len_fz (ds : List D) : D.len [.fz ds] = some (.int ds.length) := rfl
@[simp] theorem len_tup (ds : List D) : D.len [.tup ds] = some (.int ds.length) := rfl
@[simp] theorem len_str (x : Str) : D.len [.str x] = some (.int x.length) := rfl
@[simp] theorem toInt_int (i : Int) : D.toInt [.int i] = some (.int i) := rfl
@[simp] theorem toInt_bl (b : Bool) : D.toInt [.bl b] = some (.int (if b then 1 else 0)) := rfl
@[simp] theorem toTup_lst (ds : List D) : D.toTup [.lst ds] = some (.tup ds) := rfl
@[simp] theorem toTup_tup (ds : List D) : D.toTup [.tup ds] = some (.tup ds) := rfl
@[simp] theorem toLst_lst (ds : List D) : D.toLst [.lst ds] = some ds := rfl
@[simp] theorem toLst_tup (ds : List D) : D.toLst [.tup ds] = some ds := rfl
@[simp] theorem toLst_fz (ds : List D) : D.toLst [.fz ds] = some ds := rfl
@[simp] theorem ix_lst (ds : List D) (i : Int) : D.ix (.lst ds) (.int i) = L2.atI ds i := rfl
@[simp] theorem ix_fz (ds : List D) (i : Int) : D.ix (.fz ds) (.int i) = L2.atI ds i := rfl
@[simp] theorem ix_tup (ds : List D) (i : Int) : D.ix (.tup ds) (.int i) = L2.atI ds i := rfl
@[simp] theorem ix_str (x : Str) (i : Int) : D.ix (.str x) (.int i) = (L2.atI x.cps.toList i).map fun c => .str ⟨#[c]⟩ := rfl
@[simp] theorem walk_lst (ds : List D) : D.walk (.lst ds) = some ds := rfl
@[simp] theorem walk_fz (ds : List D) : D.walk (.fz ds) = some ds := rfl
@[simp] theorem walk_tup (ds : List D) : D.walk (.tup ds) = some ds := rfl
@[simp] theorem walk_str (x : Str) : D.walk (.str x) = some (signs x) := rfl
@[simp] theorem truth_bl (b : Bool) : D.truth (.bl b) = some b := rfl
@[simp] theorem truth_int (i : Int) : D.truth (.int i) = some (i != 0) := rfl
@[simp] theorem truth_non : D.truth .non = some false := rfl
@[simp] theorem truth_lst (xs : List D) : D.truth (.lst xs) = some (!xs.isEmpty) := rfl
@[simp] theorem iadd_int (i j : Int) : D.iadd (.int i) (.int j) = some (.int (i + j)) := rfl
@[simp] theorem all_bls (bs : List Bool) : D.all [.lst (bs.map D.bl)] = some (.bl (bs.all id)) := by simp [D.all]
@[simp] theorem any_bls (bs : List Bool) : D.any [.lst (bs.map D.bl)] = some (.bl (bs.any id)) := by simp [D.any]
theorem atI_map {α β : Type} (f : α → β) (xs : List α) (i : Int) : L2.atI (xs.map f) i = (L2.atI xs i).map f := by
  unfold L2.atI
  rw [List.length_map]
  cases L2.ixN xs.length i with
  | none => rfl
  | some j => simp
theorem atI_in {α : Type} {xs : List α} {i : Int} (h : 0 ≤ i) (h2 : i < xs.length) : L2.atI xs i = some (xs[i.toNat]'(by omega)) := by
  rw [atI_pos xs i h]
  exact List.getElem?_eq_getElem _
theorem atI_neg1 {α : Type} {xs : List α} (h : 0 < xs.length) : L2.atI xs (-1) = some (xs[xs.length - 1]'(by omega)) := by
  unfold L2.atI L2.ixN
  rw [if_neg (by omega), if_pos (by omega)]
  simp only [Option.bind]
  rw [show (-1 + (xs.length : Int)).toNat = xs.length - 1 by omega]
  exact List.getElem?_eq_getElem _
@[simp] theorem atI_cons0 {α : Type} (x : α) (xs : List α) : L2.atI (x :: xs) 0 = some x := by rw [atI_pos _ _ (by omega)]; rfl
@[simp] theorem gN_ap (i : Nat) (d : D) (ρ : Env') : gN i d ρ = if i < ρ.length then some (ρ.set i (some (.sh d))) else none := rfl
@[simp] theorem gsNil_ap (ρ : Env') : gsNil [] ρ = some ρ := rfl
@[simp] theorem gsCons_ap (g : D → Env' → Option Env') (gs : List D → Env' → Option Env') (d : D) (r : List D) (ρ : Env') : gsCons g gs (d :: r) ρ = (g d ρ).bind (gs r) := rfl
@[simp] theorem gT_ap (gs : List D → Env' → Option Env') (n : Nat) (ds : List D) (ρ : Env') : gT gs n (.tup ds) ρ = if ds.length = n then gs ds ρ else none := rfl
@[simp high] theorem mul_int' {i j : Int} (h : (-(2 ^ 64) < i ∧ i < 2 ^ 64) ∨ (-(2 ^ 64) < j ∧ j < 2 ^ 64)) : D.mul (.int i) (.int j) = some (.int (i * j)) := by rw [mul_int, if_pos (.inl h)]
@[simp high] theorem fdiv_int' {i j : Int} (h : 0 < j ∧ j < 2 ^ 64) : D.fdiv (.int i) (.int j) = some (.int (i / j)) := by rw [fdiv_int, if_pos ⟨h.1, log_small h.1 h.2⟩]
@[simp high] theorem mod_int' {i j : Int} (h : 0 < j) : D.mod (.int i) (.int j) = some (.int (i % j)) := by rw [mod_int, if_pos h]
/-! ### texts as lists of signs -/
def S (l : List Nat) : Str := ⟨l.toArray⟩
theorem S_of (x : Str) : x = S x.cps.toList := by cases x; simp [S]
@[simp] theorem S_cps (l : List Nat) : (S l).cps.toList = l := rfl
@[simp] theorem S_length (l : List Nat) : (S l).length = l.length := by simp [S, Str.length]
@[simp] theorem S_app (a b : List Nat) : S a ++ S b = S (a ++ b) := by
  show (⟨a.toArray ++ b.toArray⟩ : Str) = _
  simp [S]
@[simp] theorem S_inj (a b : List Nat) : S a = S b ↔ a = b := by
  constructor
  · intro h
    have := congrArg (fun x : Str => x.cps.toList) h
    simpa using this
  · intro h; rw [h]
@[simp] theorem S_beq (a b : List Nat) : (S a == S b) = (a == b) := by
  rw [Bool.eq_iff_iff]
  simp
@[simp] theorem sign_S (c : Nat) : (⟨#[c]⟩ : Str) = S [c] := rfl
@[simp] theorem ix_S (l : List Nat) (i : Int) : D.ix (.str (S l)) (.int i) = (L2.atI l i).map fun c => .str (S [c]) := rfl
@[simp] theorem signs_S (l : List Nat) : signs (S l) = l.map fun c => .str (S [c]) := rfl
@[simp] theorem add_S (a b : List Nat) : D.add (.str (S a)) (.str (S b)) = if a.length + b.length ≤ sizeLine then some (.str (S (a ++ b))) else none := by simp [D.add]
@[simp] theorem iadd_S (a b : List Nat) : D.iadd (.str (S a)) (.str (S b)) = if a.length + b.length ≤ sizeLine then some (.str (S (a ++ b))) else none := by simp [D.iadd]
@[simp] theorem sIn_S1 (c : Nat) (z : List Nat) : sIn (S [c]) (S z) = decide (c ∈ z) := by
  unfold sIn
  simp only [S_cps]
  exact decide_eq_decide.mpr Iff.rfl
@[simp] theorem isin_S (a z : List Nat) : D.isin (.str (S a)) (.str (S z)) = some (.bl (sIn (S a) (S z))) := rfl
@[simp] theorem notin_S (a z : List Nat) : D.notin (.str (S a)) (.str (S z)) = some (.bl (!sIn (S a) (S z))) := rfl
theorem sIx_pos (n d : Nat) (i : Int) (h : 0 ≤ i) : HT.sIx n d (some i) = min i.toNat n := by
  show (if i < 0 then _ else _) = _
  rw [if_neg (by omega)]
/-- the items from one place to another -/
def sub {α : Type} (xs : List α) (i j : Nat) : List α := (xs.take j).drop i
theorem cut_gen {α : Type} (xs : List α) (i j : Nat) (hj : j ≤ xs.length) : (xs.drop i).take (j - i) = (xs.take j).drop i := by
  rw [List.drop_take]
@[simp] theorem cutD_from (xs : List D) (i : Int) (h : 0 ≤ i) : cutD xs (some i) none = xs.drop i.toNat := by
  unfold cutD
  rw [sIx_pos _ _ _ h, HT.sIx_none]
  apply List.ext_getElem?
  intro k
  rw [List.getElem?_take, List.getElem?_drop, List.getElem?_drop]
  split
  · rw [show min i.toNat xs.length = i.toNat by omega]
  · rw [List.getElem?_eq_none_iff.mpr (by omega)]
@[simp] theorem cutD_to (xs : List D) (i : Int) (h : 0 ≤ i) : cutD xs none (some i) = xs.take i.toNat := by
  unfold cutD
  rw [sIx_pos _ _ _ h, HT.sIx_none]
  apply List.ext_getElem?
  intro k
  rw [List.getElem?_take, List.getElem?_drop, List.getElem?_take]
  split
  · rw [if_pos (by omega)]; simp
  · split
    · rw [List.getElem?_eq_none_iff.mpr (by omega)]
    · rfl
@[simp] theorem cutD_fromto (xs : List D) (i j : Int) (h : 0 ≤ i) (h2 : 0 ≤ j) : cutD xs (some i) (some j) = (xs.take j.toNat).drop i.toNat := by
  unfold cutD
  rw [sIx_pos _ _ _ h, sIx_pos _ _ _ h2]
  apply List.ext_getElem?
  intro k
  rw [List.getElem?_take, List.getElem?_drop, List.getElem?_drop, List.getElem?_take]
  split
  · rw [if_pos (by omega), show min i.toNat xs.length = i.toNat by omega]
  · split
    · rw [List.getElem?_eq_none_iff.mpr (by omega)]
    · rfl
@[simp] theorem cutS_from (l : List Nat) (i : Int) (h : 0 ≤ i) : cutS (S l) (some i) none = S (l.drop i.toNat) := by
  unfold cutS
  rw [S_length, sIx_pos _ _ _ h, HT.sIx_none, S_cps]
  show S _ = S _
  rw [S_inj]
  apply List.ext_getElem?
  intro k
  rw [List.getElem?_take, List.getElem?_drop, List.getElem?_drop]
  split
  · rw [show min i.toNat l.length = i.toNat by omega]
  · rw [List.getElem?_eq_none_iff.mpr (by omega)]
@[simp] theorem cutS_to (l : List Nat) (i : Int) (h : 0 ≤ i) : cutS (S l) none (some i) = S (l.take i.toNat) := by
  unfold cutS
  rw [S_length, sIx_pos _ _ _ h, HT.sIx_none, S_cps]
  show S _ = S _
  rw [S_inj]
  apply List.ext_getElem?
  intro k
  rw [List.getElem?_take, List.getElem?_drop, List.getElem?_take]
  split
  · rw [if_pos (by omega)]; simp
  · split
    · rw [List.getElem?_eq_none_iff.mpr (by omega)]
    · rfl
@[simp] theorem cutS_fromto (l : List Nat) (i j : Int) (h : 0 ≤ i) (h2 : 0 ≤ j) : cutS (S l) (some i) (some j) = S ((l.take j.toNat).drop i.toNat) := by
  unfold cutS
  rw [S_length, sIx_pos _ _ _ h, sIx_pos _ _ _ h2, S_cps]
  show S _ = S _
  rw [S_inj]
  apply List.ext_getElem?
  intro k
  rw [List.getElem?_take, List.getElem?_drop, List.getElem?_drop, List.getElem?_take]
  split
  · rw [if_pos (by omega), show min i.toNat l.length = i.toNat by omega]
  · split
    · rw [List.getElem?_eq_none_iff.mpr (by omega)]
    · rfl
@[simp] theorem sl_S (l : List Nat) (lo hi : Option Int) : D.sl lo hi (.str (S l)) = some (.str (cutS (S l) lo hi)) := rfl
@[simp] theorem sl_lst (l : List D) (lo hi : Option Int) : D.sl lo hi (.lst l) = some (.lst (cutD l lo hi)) := rfl
@[simp] theorem sl_tup (l : List D) (lo hi : Option Int) : D.sl lo hi (.tup l) = some (.tup (cutD l lo hi)) := rfl
/-! == of data -/
@[simp] theorem cmpOk_int (i : Int) : D.cmpOk (.int i) = true := rfl
@[simp] theorem cmpOk_str (x : Str) : D.cmpOk (.str x) = true := rfl
@[simp] theorem cmpOk_bl (x : Bool) : D.cmpOk (.bl x) = true := rfl
@[simp] theorem cmpOk_non : D.cmpOk .non = true := rfl
@[simp] theorem flat_int (i : Int) : D.flat (.int i) = true := rfl
@[simp] theorem flat_str (i : Str) : D.flat (.str i) = true := rfl
@[simp] theorem flat_bl (i : Bool) : D.flat (.bl i) = true := rfl
@[simp] theorem flat_non : D.flat .non = true := rfl
@[simp] theorem eqb_int (i j : Int) : D.eqb (.int i) (.int j) = (i == j) := by simp [D.eqb, D.py, PyData.eqv]
@[simp] theorem eqb_str (i j : Str) : D.eqb (.str i) (.str j) = (i == j) := by simp [D.eqb, D.py, PyData.eqv]
@[simp] theorem eqb_bl (i j : Bool) : D.eqb (.bl i) (.bl j) = (i == j) := by simp [D.eqb, D.py, PyData.eqv]
@[simp] theorem eqb_non : D.eqb .non .non = true := by simp [D.eqb, D.py, PyData.eqv]
theorem eqb_tup (xs ys : List D) : D.eqb (.tup xs) (.tup ys) = PyData.eqvAll (D.pys xs) (D.pys ys) := by simp [D.eqb, D.py, PyData.eqv]
theorem eqb_lst (xs ys : List D) : D.eqb (.lst xs) (.lst ys) = PyData.eqvAll (D.pys xs) (D.pys ys) := by simp [D.eqb, D.py, PyData.eqv]
@[simp] theorem eqs_nil : PyData.eqvAll (D.pys []) (D.pys []) = true := by simp [D.pys, PyData.eqvAll]
@[simp] theorem eqs_nil_cons (y : D) (ys : List D) : PyData.eqvAll (D.pys []) (D.pys (y :: ys)) = false := by simp [D.pys, PyData.eqvAll]
@[simp] theorem eqs_cons_nil (x : D) (xs : List D) : PyData.eqvAll (D.pys (x :: xs)) (D.pys []) = false := by simp [D.pys, PyData.eqvAll]
@[simp] theorem eqs_cons (x y : D) (xs ys : List D) : PyData.eqvAll (D.pys (x :: xs)) (D.pys (y :: ys)) = (D.eqb x y && PyData.eqvAll (D.pys xs) (D.pys ys)) := by simp [D.pys, PyData.eqvAll, D.eqb]
theorem eq_ap (d e : D) : D.eq d e = if D.cmpOk d = true ∧ D.cmpOk e = true then some (.bl (D.eqb d e)) else none := rfl
theorem ne_ap (d e : D) : D.ne d e = if D.cmpOk d = true ∧ D.cmpOk e = true then some (.bl (!D.eqb d e)) else none := rfl
@[simp] theorem eq_int (i j : Int) : D.eq (.int i) (.int j) = some (.bl (i == j)) := by simp [eq_ap]
@[simp] theorem ne_int (i j : Int) : D.ne (.int i) (.int j) = some (.bl (!(i == j))) := by simp [ne_ap]
@[simp] theorem eq_str (i j : Str) : D.eq (.str i) (.str j) = some (.bl (i == j)) := by simp [eq_ap]
@[simp] theorem ne_str (i j : Str) : D.ne (.str i) (.str j) = some (.bl (!(i == j))) := by simp [ne_ap]
@[simp] theorem eq_bl (i j : Bool) : D.eq (.bl i) (.bl j) = some (.bl (i == j)) := by simp [eq_ap]
@[simp] theorem ne_bl (i j : Bool) : D.ne (.bl i) (.bl j) = some (.bl (!(i == j))) := by simp [ne_ap]
theorem cmpOk_tup (ds : List D) : D.cmpOk (.tup ds) = (D.datas ds && decide (D.deeps ds + 1 ≤ 60)) := rfl
theorem cmpOk_lst (ds : List D) : D.cmpOk (.lst ds) = (D.datas ds && decide (D.deeps ds + 1 ≤ 60)) := rfl
@[simp] theorem datas_nil : D.datas [] = true := rfl
@[simp] theorem datas_cons (d : D) (ds : List D) : D.datas (d :: ds) = (d.data && D.datas ds) := rfl
@[simp] theorem deeps_nil : D.deeps [] = 0 := rfl
@[simp] theorem deeps_cons (d : D) (ds : List D) : D.deeps (d :: ds) = max d.deep (D.deeps ds) := rfl
@[simp] theorem data_int (i : Int) : D.data (.int i) = true := rfl
@[simp] theorem data_str (i : Str) : D.data (.str i) = true := rfl
@[simp] theorem data_bl (i : Bool) : D.data (.bl i) = true := rfl
@[simp] theorem data_non : D.data .non = true := rfl
@[simp] theorem data_tup (ds : List D) : D.data (.tup ds) = D.datas ds := rfl
@[simp] theorem data_lst (ds : List D) : D.data (.lst ds) = D.datas ds := rfl
@[simp] theorem deep_int (i : Int) : D.deep (.int i) = 0 := rfl
@[simp] theorem deep_str (i : Str) : D.deep (.str i) = 0 := rfl
@[simp] theorem deep_bl (i : Bool) : D.deep (.bl i) = 0 := rfl
@[simp] theorem deep_non : D.deep .non = 0 := rfl
@[simp] theorem deep_tup (ds : List D) : D.deep (.tup ds) = D.deeps ds + 1 := rfl
@[simp] theorem deep_lst (ds : List D) : D.deep (.lst ds) = D.deeps ds + 1 := rfl
theorem datas_map {α : Type} (f : α → D) (h : ∀ a, (f a).data = true) : ∀ xs : List α, D.datas (xs.map f) = true
  | [] => rfl
  | x :: xs => by simp [h, datas_map f h xs]
theorem deeps_map {α : Type} (f : α → D) (n : Nat) (h : ∀ a, (f a).deep ≤ n) : ∀ xs : List α, D.deeps (xs.map f) ≤ n
  | [] => by simp
  | x :: xs => by
    have := deeps_map f n h xs
    have := h x
    simp only [List.map_cons, deeps_cons]
    omega
theorem eqs_map {α : Type} [BEq α] (f : α → D) (h : ∀ a b, D.eqb (f a) (f b) = (a == b)) : ∀ xs ys : List α, PyData.eqvAll (D.pys (xs.map f)) (D.pys (ys.map f)) = (xs == ys)
  | [], [] => by simp
  | [], y :: ys => by simp
  | x :: xs, [] => by simp
  | x :: xs, y :: ys => by simp only [List.map_cons, eqs_cons, h, eqs_map f h xs ys]; rfl
/-- lists of flat things of one kind -/
theorem cmpOk_map {α : Type} (f : α → D) (h : ∀ a, (f a).data = true ∧ (f a).deep = 0) (xs : List α) : D.cmpOk (.lst (xs.map f)) = true ∧ D.cmpOk (.tup (xs.map f)) = true := by
  have h1 := datas_map f (fun a => (h a).1) xs
  have h2 := deeps_map f 0 (fun a => Nat.le_of_eq (h a).2) xs
  rw [cmpOk_lst, cmpOk_tup, h1]
  simp only [Bool.true_and, decide_eq_true_eq]
  omega
@[simp] theorem tyN_int (i : Int) : D.tyN (.int i) = some "int" := rfl
@[simp] theorem tyN_str (i : Str) : D.tyN (.str i) = some "str" := rfl
@[simp] theorem tyN_bl (i : Bool) : D.tyN (.bl i) = some "bool" := rfl
@[simp] theorem tyN_non : D.tyN .non = some "NoneType" := rfl
@[simp] theorem tyN_tup (i : List D) : D.tyN (.tup i) = some "tuple" := rfl
@[simp] theorem tyN_lst (i : List D) : D.tyN (.lst i) = some "list" := rfl
@[simp] theorem isinst_int (d : D) : D.isinst [d, .ty "int"] = d.tyN.map fun m => .bl (isT m "int") := by simp [D.isinst]
@[simp] theorem isinst_str (d : D) : D.isinst [d, .ty "str"] = d.tyN.map fun m => .bl (isT m "str") := by simp [D.isinst]
@[simp] theorem isinst_bool (d : D) : D.isinst [d, .ty "bool"] = d.tyN.map fun m => .bl (isT m "bool") := by simp [D.isinst]
@[simp] theorem isinst_tuple (d : D) : D.isinst [d, .ty "tuple"] = d.tyN.map fun m => .bl (isT m "tuple") := by simp [D.isinst]
@[simp] theorem isinst_list (d : D) : D.isinst [d, .ty "list"] = d.tyN.map fun m => .bl (isT m "list") := by simp [D.isinst]
@[simp] theorem isinst_dict (d : D) : D.isinst [d, .ty "dict"] = d.tyN.map fun m => .bl (isT m "dict") := by simp [D.isinst]
/-- the letters -/
def L26 : List Nat := [97, 98, 99, 100, 101, 102, 103, 104, 105, 106, 107, 108, 109, 110, 111, 112, 113, 114, 115, 116, 117, 118, 119, 120, 121, 122]
theorem letters_S : (Str.ofString "abcdefghijklmnopqrstuvwxyz") = S L26 := by decide +kernel
theorem L26_nodup : L26.Nodup := by decide +kernel
theorem L26_len : L26.length = 26 := rfl
/-- letters alone -/
def AllL (l : List Nat) : Prop := ∀ c ∈ l, c ∈ L26
theorem AllL.nil : AllL [] := fun _ h => by cases h
theorem AllL.app {a b : List Nat} (h : AllL a) (k : AllL b) : AllL (a ++ b) := fun c hc => (List.mem_append.mp hc).elim (h c) (k c)
theorem AllL.one {c : Nat} (h : c ∈ L26) : AllL [c] := fun d hd => by rw [List.mem_singleton.mp hd]; exact h
theorem AllL.drop {a : List Nat} (h : AllL a) (n : Nat) : AllL (a.drop n) := fun c hc => h c (List.mem_of_mem_drop hc)
theorem AllL.take {a : List Nat} (h : AllL a) (n : Nat) : AllL (a.take n) := fun c hc => h c (List.mem_of_mem_take hc)
@[simp] theorem wipeE_nil (ρ : Env') : wipeE ρ [] = ρ := rfl
@[simp] theorem wipeE_cons (ρ : Env') (v : Nat) (vs : List Nat) : wipeE ρ (v :: vs) = (wipeE ρ vs).set v none := rfl
@[simp] theorem backE_nil (ρ0 ρ : Env') : backE ρ0 ρ [] = ρ := rfl
@[simp] theorem backE_cons (ρ0 ρ : Env') (v : Nat) (vs : List Nat) : backE ρ0 ρ (v :: vs) = back1 ρ0 (backE ρ0 ρ vs) v := rfl
@[simp] theorem back1_ap (ρ0 ρ : Env') (i : Nat) : back1 ρ0 ρ i = (match ρ0[i]? with | some (some (.sh d)) => ρ.set i (some (.sh d)) | _ => ρ.set i none) := rfl
@[simp] theorem ofString_nil : Str.ofString "" = S [] := rfl
/-- a comprehension whose turns leave all as it was -/
theorem lc_pure {gt : D → Env' → Option Env'} {tt : Env' → Res (Bool × Env')} {ne : Env' → Res (T × Env')} {vs : List Nat} {ρ : Env'} (p : D → Bool) (g : D → T) : ∀ {ds : List D},
    (∀ d ∈ ds, ∃ ρ1, gt d ρ = some ρ1 ∧ tt ρ1 = .ok (p d, ρ1) ∧ (p d = true → ne ρ1 = .ok (g d, ρ1)) ∧ wipeE ρ1 vs = ρ) → lcGo gt tt ne vs ds ρ = .ok ((ds.filter p).map g, ρ)
  | [], _ => rfl
  | d :: ds, h => by
    obtain ⟨ρ1, e1, e2, e3, e4⟩ := h d (by simp)
    have ih := lc_pure (ds := ds) p g fun d' hd => h d' (by simp [hd])
    rw [lcGo, e1]
    simp only [of_some, bind_ok, e2, Res.nx]
    by_cases hp : p d = true
    · simp [hp, e3 hp, e4, ih]
    · simp [hp, e4, ih]
abbrev iI (i : Int) : Option T := some (.sh (.int i))
abbrev sS (l : List Nat) : Option T := some (.sh (.str (S l)))
abbrev dD (d : D) : Option T := some (.sh d)
@[simp high] theorem add_S' {a b : List Nat} (h : a.length + b.length ≤ 16777216) : D.add (.str (S a)) (.str (S b)) = some (.str (S (a ++ b))) := by rw [add_S, if_pos (by rw [sizeLine_eq]; exact h)]
theorem size_le {n : Nat} (h : n ≤ 16777216) : n ≤ sizeLine := by rw [sizeLine_eq]; exact h
theorem size_lt {n : Nat} (h : n < 16777216) : n < sizeLine := by rw [sizeLine_eq]; exact h
abbrev oIs (xs : List Int) : Option T := some (.lst (xs.map fun i => .sh (.int i)))
theorem d_ints (xs : List Int) : (T.lst (xs.map fun i => T.sh (.int i))).d = .lst (xs.map .int) := by
  have := d_lst (xs.map D.int)
  rw [List.map_map] at this
  exact this
theorem top_ints (xs : List Int) : (T.lst (xs.map fun i => T.sh (.int i))).top = some (.lst (xs.map .int)) := by
  have := top_lst (xs.map D.int)
  rw [List.map_map] at this
  exact this
theorem nodup_le {α : Type} [DecidableEq α] : ∀ {xs ys : List α}, xs.Nodup → (∀ x ∈ xs, x ∈ ys) → xs.length ≤ ys.length
  | [], _, _, _ => Nat.zero_le _
  | x :: xs, ys, nd, h => by
    obtain ⟨n1, n2⟩ := List.nodup_cons.mp nd
    have := nodup_le (ys := ys.erase x) n2 fun y hy => (List.mem_erase_of_ne (fun e => n1 (by rw [← e]; exact hy))).mpr (h y (by simp [hy]))
    rw [List.length_erase_of_mem (h x (by simp))] at this
    have := List.length_pos_of_mem (h x (by simp))
    rw [List.length_cons]
    omega
@[simp] theorem top_lst' (ts : List T) : (T.lst ts).top = (T.leaves ts).map D.lst := rfl
@[simp] theorem leaves_nil : T.leaves [] = some [] := rfl
@[simp] theorem leaves_cons (d : D) (ts : List T) : T.leaves (.sh d :: ts) = (T.leaves ts).map (d :: ·) := rfl
@[simp] theorem leaves_map {α : Type} (f : α → D) (xs : List α) : T.leaves (xs.map fun a => T.sh (f a)) = some (xs.map f) := by
  have := T.leaves_sh (xs.map f)
  rw [List.map_map] at this
  exact this
@[simp] theorem leaves_comp {α : Type} (f : α → D) (xs : List α) : T.leaves (xs.map (T.sh ∘ f)) = some (xs.map f) := leaves_map f xs
@[simp] theorem leaves_sh' (ds : List D) : T.leaves (ds.map T.sh) = some ds := T.leaves_sh ds
@[simp] theorem leaves_app : ∀ (xs ys : List T), T.leaves (xs ++ ys) = (T.leaves xs).bind fun a => (T.leaves ys).map (a ++ ·)
  | [], ys => by simp
  | .sh d :: xs, ys => by
    simp only [List.cons_append, leaves_cons, leaves_app xs ys]
    cases T.leaves xs <;> cases T.leaves ys <;> rfl
  | .lst _ :: xs, ys => rfl
  | .dic _ _ :: xs, ys => rfl
  | .dit _ _ :: xs, ys => rfl
@[simp] theorem d_lst' (ts : List T) : (T.lst ts).d = .lst (T.d.go ts) := rfl
@[simp] theorem go_nil : T.d.go [] = [] := rfl
@[simp] theorem go_cons (t : T) (ts : List T) : T.d.go (t :: ts) = t.d :: T.d.go ts := rfl
@[simp] theorem go_map {α : Type} (f : α → D) (xs : List α) : T.d.go (xs.map fun a => T.sh (f a)) = xs.map f := by
  have := T.go_sh (xs.map f)
  rw [List.map_map] at this
  exact this
@[simp] theorem go_comp {α : Type} (f : α → D) (xs : List α) : T.d.go (xs.map (T.sh ∘ f)) = xs.map f := go_map f xs
@[simp] theorem go_sh' (ds : List D) : T.d.go (ds.map T.sh) = ds := T.go_sh ds
@[simp] theorem go_app (xs ys : List T) : T.d.go (xs ++ ys) = T.d.go xs ++ T.d.go ys := by rw [T.go_map, T.go_map, T.go_map, List.map_append]
theorem atI_ex {α β : Type} (f : α → β) {xs : List α} {i : Int} (h : 0 ≤ i) (h2 : i < xs.length) : ∃ x ∈ xs, L2.atI (xs.map f) i = some (f x) :=
  ⟨xs[i.toNat]'(by omega), List.getElem_mem _, by rw [atI_map, atI_in h h2]; rfl⟩
@[simp] theorem size_le' {n : Nat} (h : n ≤ 16777216) : (n ≤ sizeLine) = True := eq_true (size_le h)
@[simp] theorem size_lt' {n : Nat} (h : n < 16777216) : (n < sizeLine) = True := eq_true (size_lt h)
@[simp] theorem rOk' {i : Int} (h : -4611686018427387904 < i ∧ i < 4611686018427387904) : rOk i = True := eq_true (by unfold rOk; omega)
@[simp] theorem log_small' {j : Int} (h : 0 < j ∧ j < 18446744073709551616) : (j.natAbs.log2 < 9000) = True := eq_true (log_small h.1 h.2)
@[simp] theorem atI_lit {α : Type} (x : α) (xs : List α) (n : Nat) : L2.atI (x :: xs) (no_index (@OfNat.ofNat Int n instOfNat)) = (x :: xs)[(@OfNat.ofNat Nat n (instOfNatNat n))]? := by
  rw [atI_pos _ _ (by exact Int.natCast_nonneg n)]
  rfl
@[simp] theorem ixN_lit (m n : Nat) : L2.ixN m (no_index (@OfNat.ofNat Int n instOfNat)) = if (@OfNat.ofNat Nat n (instOfNatNat n)) < m then some (@OfNat.ofNat Nat n (instOfNatNat n)) else none := by
  show L2.ixN m (n : Int) = if n < m then some n else none
  unfold L2.ixN
  rw [if_pos (by omega)]
  simp
theorem ixN_in {n : Nat} {i : Int} (h : 0 ≤ i ∧ i < n) : L2.ixN n i = some i.toNat := by
  unfold L2.ixN
  rw [if_pos (by omega), if_pos (by omega)]
/-- what is told is this; so all that holds of this -/
theorem sat_is {α : Type} {x : Res α} {P : α → Prop} (a : α) (h : x.sat fun r => r = a) (h2 : P a) : x.sat P :=
  sat_mono h fun b e => by subst e; exact h2
theorem sat_for0 {gt : D → Env' → Option Env'} {f : Env' → Res Fl} {P : Fl → Prop} (I : Nat → Env' → Prop) {ds : List D} {ρ : Env'} (h0 : I 0 ρ)
    (h1 : ∀ i d ρ, ds[i]? = some d → I i ρ → ∃ ρ1, gt d ρ = some ρ1 ∧ (f ρ1).sat fun r => match r with
      | .nx ρ' => I (i + 1) ρ'
      | .ct ρ' => I (i + 1) ρ'
      | .bk ρ' => P (.nx ρ')
      | .rt t ρ' => P (.rt t ρ'))
    (h2 : ∀ ρ, I ds.length ρ → P (.nx ρ)) : (forGo gt f ds ρ).sat P :=
  sat_for I 0 h0 (fun i d ρ hd hi => by rw [Nat.zero_add] at hi ⊢; exact h1 i d ρ hd hi) (fun ρ h => h2 ρ (by rwa [Nat.zero_add] at h))
/-- over a range from 0 -/
theorem sat_range {i : Nat} {f : Env' → Res Fl} {P : Fl → Prop} {n : Nat} (I : Nat → Env' → Prop) {ρ : Env'} (h0 : I 0 ρ)
    (h1 : ∀ k ρ, k < n → I k ρ → i < ρ.length ∧ (f (ρ.set i (iI k))).sat fun r => match r with
      | .nx ρ' => I (k + 1) ρ'
      | .ct ρ' => I (k + 1) ρ'
      | .bk ρ' => P (.nx ρ')
      | .rt t ρ' => P (.rt t ρ'))
    (h2 : ∀ ρ, I n ρ → P (.nx ρ)) : (forGo (gN i) f (rangeD 0 n) ρ).sat P :=
  sat_for0 I h0 (fun k d ρ hd hi => by
    obtain ⟨rfl, hk⟩ := range_get hd
    obtain ⟨a, b⟩ := h1 k ρ hk hi
    exact ⟨_, by rw [gN_ap, if_pos a], by rw [Int.zero_add]; exact b⟩) (fun ρ h => h2 ρ (by simpa using h))
/-! the same, with what is to hold left unread -/
theorem mirP_v {np nN : Nat} {b : Env' → Res Fl} {ds : List D} (P : D → Prop) (hl : ds.length = np) (h : ∀ Q : D → Prop, (∀ d, P d → Q d) → (b (startE nN ds)).sat fun r => match r with
    | .nx _ => Q .non
    | .rt (.sh d) _ => Q d
    | _ => False) : ∃ d, mirP np nN b ds = .ok d ∧ P d := mirP_sat hl (h P fun _ => id)
theorem seq_v {f g : Env' → Res Fl} {ρ : Env'} {P : Fl → Prop} (I : Env' → Prop) (h : ∀ Q : Env' → Prop, (∀ ρ, I ρ → Q ρ) → (f ρ).sat fun r => match r with
    | .nx ρ' => Q ρ'
    | r => P r) (h2 : ∀ ρ', I ρ' → (g ρ').sat P) : (sSeq f g ρ).sat P := sat_seqR I (h I fun _ => id) h2
theorem for_v {gt : D → Env' → Option Env'} {f : Env' → Res Fl} {P : Fl → Prop} (I : Nat → Env' → Prop) {ds : List D} {ρ : Env'} (h0 : I 0 ρ)
    (h1 : ∀ i d ρ, ds[i]? = some d → I i ρ → ∀ Q : Env' → Prop, (∀ ρ, I (i + 1) ρ → Q ρ) → ∃ ρ1, gt d ρ = some ρ1 ∧ (f ρ1).sat fun r => match r with
      | .nx ρ' => Q ρ'
      | .ct ρ' => Q ρ'
      | .bk ρ' => P (.nx ρ')
      | .rt t ρ' => P (.rt t ρ'))
    (h2 : ∀ ρ, I ds.length ρ → P (.nx ρ)) : (forGo gt f ds ρ).sat P :=
  sat_for0 I h0 (fun i d ρ hd hi => h1 i d ρ hd hi _ fun _ => id) h2
theorem range_v {i : Nat} {f : Env' → Res Fl} {P : Fl → Prop} {n : Nat} (I : Nat → Env' → Prop) {ρ : Env'} (h0 : I 0 ρ)
    (h1 : ∀ k ρ, k < n → I k ρ → ∀ Q : Env' → Prop, (∀ ρ, I (k + 1) ρ → Q ρ) → i < ρ.length ∧ (f (ρ.set i (iI k))).sat fun r => match r with
      | .nx ρ' => Q ρ'
      | .ct ρ' => Q ρ'
      | .bk ρ' => P (.nx ρ')
      | .rt t ρ' => P (.rt t ρ'))
    (h2 : ∀ ρ, I n ρ → P (.nx ρ)) : (forGo (gN i) f (rangeD 0 n) ρ).sat P :=
  sat_range I h0 (fun k ρ hk hi => h1 k ρ hk hi _ fun _ => id) h2
theorem while_v {ta : Env' → Res (Bool × Env')} {f : Env' → Res Fl} {P : Fl → Prop} (I : Nat → Env' → Prop) (h : ∀ n ρ, I n ρ → ∀ Q : Env' → Prop, (∀ m ρ, m < n → I m ρ → Q ρ) → (ta ρ).sat fun (b, ρ1) => if b = true then (f ρ1).sat fun r => match r with
      | .nx ρ' => Q ρ'
      | .ct ρ' => Q ρ'
      | .bk ρ' => P (.nx ρ')
      | .rt t ρ' => P (.rt t ρ') else P (.nx ρ1)) (n : Nat) {ρ : Env'} (hi : I n ρ) : (sWhile ta f ρ).sat P :=
  sat_while I (fun n ρ hi => h n ρ hi _ fun m ρ hm hI => ⟨m, hm, hI⟩) n hi
@[simp] theorem isTy_lst (ds : List D) : D.isTy "list" (.lst ds) = true := rfl
@[simp] theorem isTy_str (x : Str) : D.isTy "str" (.str x) = true := rfl
theorem go_set (L : List T) (j : Nat) (t : T) : T.d.go (L.set j t) = (T.d.go L).set j t.d := by
  rw [T.go_map, T.go_map, List.map_set]
theorem atI_n {α : Type} (xs : List α) (i : Nat) : L2.atI xs (i : Int) = xs[i]? := by
  rw [atI_pos _ _ (by omega)]
  rfl
theorem ixN_n (n i : Nat) : L2.ixN n (i : Int) = if i < n then some i else none := by
  unfold L2.ixN
  rw [if_pos (by omega)]
  simp
@[simp] theorem isin_tup (d : D) (ds : List D) : D.isin d (.tup ds) = if d.flat = true ∧ ds.all D.flat = true then some (.bl (ds.any fun z => D.eqb z d)) else none := rfl
@[simp] theorem isin_lst (d : D) (ds : List D) : D.isin d (.lst ds) = if D.cmpOk d = true ∧ D.cmpOk (.lst ds) = true then some (.bl (ds.any fun z => D.eqb z d)) else none := rfl
@[simp] theorem notin_tup (d : D) (ds : List D) : D.notin d (.tup ds) = if d.flat = true ∧ ds.all D.flat = true then some (.bl (!ds.any fun z => D.eqb z d)) else none := by
  unfold D.notin
  rw [isin_tup]
  split <;> simp_all
@[simp] theorem notin_lst (d : D) (ds : List D) : D.notin d (.lst ds) = if D.cmpOk d = true ∧ D.cmpOk (.lst ds) = true then some (.bl (!ds.any fun z => D.eqb z d)) else none := by
  unfold D.notin
  rw [isin_lst]
  split <;> simp_all
@[simp] theorem add_lst (a b : List D) : D.add (.lst a) (.lst b) = if a.length + b.length ≤ sizeLine then some (.lst (a ++ b)) else none := rfl
@[simp high] theorem add_lst' {a b : List D} (h : a.length + b.length ≤ 16777216) : D.add (.lst a) (.lst b) = some (.lst (a ++ b)) := by rw [add_lst, if_pos (size_le h)]
@[simp] theorem catN_lst (a b : List D) : D.catN (.lst a) (.lst b) = if a.length + b.length ≤ sizeLine then some (a ++ b) else none := rfl
@[simp high] theorem catN_lst' {a b : List D} (h : a.length + b.length ≤ 16777216) : D.catN (.lst a) (.lst b) = some (a ++ b) := by rw [catN_lst, if_pos (size_le h)]
theorem L26_size : L26.length ≤ sizeLine := by rw [L26_len, sizeLine_eq]; decide
end FL

namespace W_k01
open PySem PySem.Spec PyProof.Rows L2 FL
def topS (i : Nat) : Stmt := PySem.Challenge.pw_fourthword_k01_weavings_are_judged.main.body.getD i (.Pass ⟨0, 0, 0, 0⟩)
abbrev s_is_word : Stmt := topS 6
abbrev N_is_word : List Str := ["thing", "sign"]
theorem sc_is_word : FnScope N_is_word ["thing"] (defScope s_is_word) := ⟨rfl, rfl, rfl, by decide +kernel, rfl, by decide +kernel, by decide +kernel⟩
abbrev s_check_words : Stmt := topS 7
abbrev N_check_words : List Str := ["words", "word"]
theorem sc_check_words : FnScope N_check_words ["words"] (defScope s_check_words) := ⟨rfl, rfl, rfl, by decide +kernel, rfl, by decide +kernel, by decide +kernel⟩
abbrev s_is_weaving : Stmt := topS 11
abbrev N_is_weaving : List Str := ["thing", "move"]
theorem sc_is_weaving : FnScope N_is_weaving ["thing"] (defScope s_is_weaving) := ⟨rfl, rfl, rfl, by decide +kernel, rfl, by decide +kernel, by decide +kernel⟩
abbrev s_check_weaving : Stmt := topS 12
abbrev N_check_weaving : List Str := ["weaving"]
theorem sc_check_weaving : FnScope N_check_weaving ["weaving"] (defScope s_check_weaving) := ⟨rfl, rfl, rfl, by decide +kernel, rfl, by decide +kernel, by decide +kernel⟩
abbrev s_raw_judged : Stmt := topS 13
abbrev N_raw_judged : List Str := ["words", "weaving", "taken", "at", "move", "one", "other", "word"]
theorem sc_raw_judged : FnScope N_raw_judged ["words", "weaving"] (defScope s_raw_judged) := ⟨rfl, rfl, rfl, by decide +kernel, rfl, by decide +kernel, by decide +kernel⟩
abbrev s_judged : Stmt := topS 14
abbrev N_judged : List Str := ["x", "y", "z", "t", "weaving"]
theorem sc_judged : FnScope N_judged ["x", "y", "z", "t", "weaving"] (defScope s_judged) := ⟨rfl, rfl, rfl, by decide +kernel, rfl, by decide +kernel, by decide +kernel⟩
abbrev s__law_numbers : Stmt := topS 16
abbrev N__law_numbers : List Str := ["script", "thing", "cell", "rest", "found", "k", "number"]
theorem sc__law_numbers : FnScope N__law_numbers ["script", "thing"] (defScope s__law_numbers) := ⟨rfl, rfl, rfl, by decide +kernel, rfl, by decide +kernel, by decide +kernel⟩
abbrev s__law_letters : Stmt := topS 17
abbrev N__law_letters : List Str := ["number", "found", "rest", "k", "left", "letter"]
theorem sc__law_letters : FnScope N__law_letters ["number"] (defScope s__law_letters) := ⟨rfl, rfl, rfl, by decide +kernel, rfl, by decide +kernel, by decide +kernel⟩
abbrev s__law_word : Stmt := topS 18
abbrev N__law_word : List Str := ["xs", "start", "size", "letters", "word", "k"]
theorem sc__law_word : FnScope N__law_word ["xs", "start", "size", "letters"] (defScope s__law_word) := ⟨rfl, rfl, rfl, by decide +kernel, rfl, by decide +kernel, by decide +kernel⟩
abbrev s__law_woven : Stmt := topS 19
abbrev N__law_woven : List Str := ["xs", "many", "letters", "words", "moves", "k", "number", "one", "other", "letter"]
theorem sc__law_woven : FnScope N__law_woven ["xs", "many", "letters"] (defScope s__law_woven) := ⟨rfl, rfl, rfl, by decide +kernel, rfl, by decide +kernel, by decide +kernel⟩
abbrev s__law_judged : Stmt := topS 20
abbrev N__law_judged : List Str := ["words", "moves", "left", "at", "one", "other"]
theorem sc__law_judged : FnScope N__law_judged ["words", "moves"] (defScope s__law_judged) := ⟨rfl, rfl, rfl, by decide +kernel, rfl, by decide +kernel, by decide +kernel⟩
abbrev s__law_same : Stmt := topS 21
abbrev N__law_same : List Str := ["found", "due", "pairs", "depth", "below", "one", "other", "k"]
theorem sc__law_same : FnScope N__law_same ["found", "due"] (defScope s__law_same) := ⟨rfl, rfl, rfl, by decide +kernel, rfl, by decide +kernel, by decide +kernel⟩
abbrev s__law_changed : Stmt := topS 22
abbrev N__law_changed : List Str := ["words", "moves", "number", "letters", "way", "at", "move", "side", "place", "letter"]
theorem sc__law_changed : FnScope N__law_changed ["words", "moves", "number", "letters"] (defScope s__law_changed) := ⟨rfl, rfl, rfl, by decide +kernel, rfl, by decide +kernel, by decide +kernel⟩
abbrev s_law : Stmt := topS 23
abbrev N_law : List Str := ["script", "k", "xs", "ys", "letters", "words", "moves", "m", "told"]
theorem sc_law : FnScope N_law ["script"] (defScope s_law) := ⟨rfl, rfl, rfl, by decide +kernel, rfl, by decide +kernel, by decide +kernel⟩
def c_LETTERS : D := (.str "abcdefghijklmnopqrstuvwxyz")
def c_MOVES : D := (.tup [(.str "xy"), (.str "xz"), (.str "ty"), (.str "tz")])
def c_PLACES : D := (.str "xyzt")
noncomputable def b_is_word : Env' → Res Fl := sRet (nOf (eAnd (eB D.isinst (aCons (eVar 0) (aCons (eC (.ty "str")) (aNil)))) (eB D.all (aCons (oOf (nLc (iSeq (eVar 0)) (gN 1) (ttYes) (nOf (eBin D.isin (eVar 1) (eC c_LETTERS))) [1])) (aNil)))))
noncomputable def m_is_word : List D → Out D := mirP 1 2 b_is_word
noncomputable def b_check_words : Env' → Res Fl := sFor (iSeq (eVar 0)) (gN 1) (sIf (tstNot (tstT (eCall m_is_word (aConsE (eVar 1) (aNil))))) (sRaise "NoWord") (sNil))
noncomputable def m_check_words : List D → Out D := mirP 1 2 b_check_words
noncomputable def b_is_weaving : Env' → Res Fl := sRet (nOf (eAnd (eB D.isinst (aCons (eVar 0) (aCons (eC (.ty "tuple")) (aNil)))) (eB D.all (aCons (oOf (nLc (iSeq (eVar 0)) (gN 1) (ttYes) (nOf (eAnd (eB D.isinst (aCons (eVar 1) (aCons (eC (.ty "str")) (aNil)))) (eBin D.isin (eVar 1) (eC c_MOVES)))) [1])) (aNil)))))
noncomputable def m_is_weaving : List D → Out D := mirP 1 2 b_is_weaving
noncomputable def b_check_weaving : Env' → Res Fl := sIf (tstNot (tstT (eCall m_is_weaving (aConsE (eVar 0) (aNil))))) (sRaise "NoWeaving") (sNil)
noncomputable def m_check_weaving : List D → Out D := mirP 1 1 b_check_weaving
noncomputable def b_raw_judged : Env' → Res Fl := sSeq (sSet 2 (nLst (atCons (nOf (eC (.int 0))) (atCons (nOf (eC (.int 0))) (atCons (nOf (eC (.int 0))) (atCons (nOf (eC (.int 0))) (atNil))))))) (sSeq (sFor (iEnum (eVar 1)) (gT (gsCons (gN 3) (gsCons (gN 4) (gsNil))) 2) (sSeq (sPar 5 6 (aConsE (eM "str" D.sindex (eC c_PLACES) (aCons (eBin D.ix (eVar 4) (eC (.int 0))) (aNil))) (aConsE (eM "str" D.sindex (eC c_PLACES) (aCons (eBin D.ix (eVar 4) (eC (.int 1))) (aNil))) (aNil)))) (sSeq (sIf (tstOr (tstV (eBin D.eq (eBin D.ix (eVar 2) (eVar 5)) (eB D.len (aCons (eBin D.ix (eVar 0) (eVar 5)) (aNil))))) (tstV (eBin D.eq (eBin D.ix (eVar 2) (eVar 6)) (eB D.len (aCons (eBin D.ix (eVar 0) (eVar 6)) (aNil)))))) (sRet (nOf (eTup (aConsE (eC (.str "refused")) (aConsE (eVar 3) (aConsE (eC (.str "end")) (aNil))))))) (sNil)) (sSeq (sIf (tstV (eBin D.ne (eBin D.ix (eBin D.ix (eVar 0) (eVar 5)) (eBin D.ix (eVar 2) (eVar 5))) (eBin D.ix (eBin D.ix (eVar 0) (eVar 6)) (eBin D.ix (eVar 2) (eVar 6))))) (sRet (nOf (eTup (aConsE (eC (.str "refused")) (aConsE (eVar 3) (aConsE (eC (.str "unlike")) (aNil))))))) (sNil)) (sSeq (sAugIx 2 D.iadd (eVar 5) (eC (.int 1))) (sAugIx 2 D.iadd (eVar 6) (eC (.int 1)))))))) (sSeq (sIf (tstV (eBin D.ne (eVar 2) (oOf (nLc (iSeq (eVar 0)) (gN 7) (ttYes) (nOf (eB D.len (aCons (eVar 7) (aNil)))) [7])))) (sRet (nOf (eTup (aConsE (eC (.str "refused")) (aConsE (eB D.len (aCons (eVar 1) (aNil))) (aConsE (eC (.str "left")) (aNil))))))) (sNil)) (sRet (nOf (eTup (aConsE (eC (.str "woven")) (aNil)))))))
noncomputable def m_raw_judged : List D → Out D := mirP 2 8 b_raw_judged
noncomputable def b_judged : Env' → Res Fl := sSeq (sExpr (eCall m_check_words (aConsE (oOf (nLst (atCons (nOf (eVar 0)) (atCons (nOf (eVar 1)) (atCons (nOf (eVar 2)) (atCons (nOf (eVar 3)) (atNil))))))) (aNil)))) (sSeq (sExpr (eCall m_check_weaving (aConsE (eVar 4) (aNil)))) (sRet (nOf (eCall m_raw_judged (aConsE (oOf (nLst (atCons (nOf (eVar 0)) (atCons (nOf (eVar 1)) (atCons (nOf (eVar 2)) (atCons (nOf (eVar 3)) (atNil))))))) (aConsE (eVar 4) (aNil)))))))
noncomputable def m_judged : List D → Out D := mirP 5 5 b_judged
noncomputable def b__law_numbers : Env' → Res Fl := sSeq (sSet 2 (nOf (eC (.int 0)))) (sSeq (sIf (tstV (eBin D.gt (eB D.len (aCons (eVar 0) (aNil))) (eC (.int 0)))) (sSet 2 (nOf (eB D.toInt (aCons (eBin D.ix (eVar 0) (eBin D.mod (eVar 1) (eB D.len (aCons (eVar 0) (aNil))))) (aNil))))) (sNil)) (sSeq (sSet 3 (nOf (eC (.int 0)))) (sSeq (sIf (tstAnd (tstV (eBin D.lt (eVar 1) (eB D.len (aCons (eVar 0) (aNil))))) (tstV (eBin D.ge (eVar 2) (eBin D.pow (eC (.int 10)) (eC (.int 18)))))) (sSet 3 (nOf (eVar 2))) (sNil)) (sSeq (sSet 4 (nLst (atNil))) (sSeq (sFor (iRange1 (aCons (eC (.int 40)) (aNil))) (gN 5) (sSeq (sSet 6 (nOf (eBin D.mod (eBin D.mul (eBin D.add (eBin D.add (eBin D.add (eBin D.mod (eVar 2) (eC (.int 2147483629))) (eBin D.mul (eC (.int 7919)) (eVar 5))) (eBin D.mul (eC (.int 611953)) (eVar 1))) (eC (.int 1))) (eC (.int 48271))) (eC (.int 2147483647))))) (sSeq (sSet 6 (nOf (eBin D.mod (eBin D.mul (eVar 6) (eBin D.add (eBin D.fdiv (eVar 6) (eC (.int 1009))) (eC (.int 69621)))) (eC (.int 2147483647))))) (sSeq (sSet 6 (nOf (eBin D.mod (eBin D.mul (eVar 6) (eBin D.add (eBin D.fdiv (eVar 6) (eC (.int 2003))) (eC (.int 40692)))) (eC (.int 2147483399))))) (sSeq (sIf (tstV (eBin D.gt (eVar 3) (eC (.int 0)))) (sSeq (sSet 6 (nOf (eBin D.mod (eVar 3) (eC (.int 1000000007))))) (sSet 3 (nOf (eBin D.fdiv (eVar 3) (eC (.int 1000000007)))))) (sNil)) (sAppend 4 (nOf (eVar 6)))))))) (sRet (nOf (eVar 4))))))))
noncomputable def m__law_numbers : List D → Out D := mirP 2 7 b__law_numbers
noncomputable def b__law_letters : Env' → Res Fl := sSeq (sSet 1 (nOf (eC (.str "")))) (sSeq (sSet 2 (nOf (eBin D.fdiv (eVar 0) (eC (.int 3))))) (sSeq (sFor (iRange1 (aCons (eBin D.add (eC (.int 2)) (eBin D.mod (eVar 0) (eC (.int 2)))) (aNil))) (gN 3) (sSeq (sSet 4 (nLc (iSeq (eC (.str "abcdefghijklmnopqrstuvwxyz"))) (gN 5) (tstV (eBin D.notin (eVar 5) (eVar 1))) (nOf (eVar 5)) [5])) (sSeq (sSet 1 (nOf (eBin D.add (eVar 1) (eBin D.ix (eVar 4) (eBin D.mod (eVar 2) (eB D.len (aCons (eVar 4) (aNil)))))))) (sSet 2 (nOf (eBin D.fdiv (eVar 2) (eC (.int 26)))))))) (sRet (nOf (eVar 1)))))
noncomputable def m__law_letters : List D → Out D := mirP 1 6 b__law_letters
noncomputable def b__law_word : Env' → Res Fl := sSeq (sSet 4 (nOf (eC (.str "")))) (sSeq (sFor (iRange2 (aCons (eVar 1) (aCons (eBin D.add (eVar 1) (eVar 2)) (aNil)))) (gN 5) (sSet 4 (nOf (eBin D.add (eVar 4) (eBin D.ix (eVar 3) (eBin D.mod (eBin D.fdiv (eBin D.ix (eVar 0) (eBin D.mod (eVar 5) (eC (.int 40)))) (eBin D.ix (oOf (nLst (atCons (nOf (eC (.int 1))) (atCons (nOf (eC (.int 101))) (atCons (nOf (eC (.int 10007))) (atNil)))))) (eBin D.mod (eBin D.fdiv (eVar 5) (eC (.int 40))) (eC (.int 3))))) (eB D.len (aCons (eVar 3) (aNil))))))))) (sRet (nOf (eVar 4))))
noncomputable def m__law_word : List D → Out D := mirP 4 6 b__law_word
noncomputable def b__law_woven : Env' → Res Fl := sSeq (sSet 3 (nLst (atCons (nOf (eC (.str ""))) (atCons (nOf (eC (.str ""))) (atCons (nOf (eC (.str ""))) (atCons (nOf (eC (.str ""))) (atNil))))))) (sSeq (sSet 4 (nLst (atNil))) (sSeq (sFor (iRange1 (aCons (eVar 1) (aNil))) (gN 5) (sSeq (sSet 6 (nOf (eBin D.fdiv (eBin D.ix (eVar 0) (eBin D.mod (eVar 5) (eC (.int 40)))) (eBin D.ix (oOf (nLst (atCons (nOf (eC (.int 1))) (atCons (nOf (eC (.int 101))) (atCons (nOf (eC (.int 10007))) (atNil)))))) (eBin D.mod (eBin D.fdiv (eVar 5) (eC (.int 40))) (eC (.int 3))))))) (sSeq (sUnpack (eBin D.ix (oOf (nLst (atCons (nOf (eTup (aConsE (eC (.int 0)) (aConsE (eC (.int 1)) (aNil))))) (atCons (nOf (eTup (aConsE (eC (.int 0)) (aConsE (eC (.int 2)) (aNil))))) (atCons (nOf (eTup (aConsE (eC (.int 3)) (aConsE (eC (.int 1)) (aNil))))) (atCons (nOf (eTup (aConsE (eC (.int 3)) (aConsE (eC (.int 2)) (aNil))))) (atNil))))))) (eBin D.mod (eVar 6) (eC (.int 4)))) (gT (gsCons (gN 7) (gsCons (gN 8) (gsNil))) 2)) (sSeq (sSet 9 (nOf (eBin D.ix (eVar 2) (eBin D.mod (eBin D.fdiv (eVar 6) (eC (.int 4))) (eB D.len (aCons (eVar 2) (aNil))))))) (sSeq (sSetIx 3 (nOf (eBin D.add (eBin D.ix (eVar 3) (eVar 7)) (eVar 9))) (eVar 7)) (sSeq (sSetIx 3 (nOf (eBin D.add (eBin D.ix (eVar 3) (eVar 8)) (eVar 9))) (eVar 8)) (sAppend 4 (nOf (eBin D.ix (oOf (nLst (atCons (nOf (eC (.str "xy"))) (atCons (nOf (eC (.str "xz"))) (atCons (nOf (eC (.str "ty"))) (atCons (nOf (eC (.str "tz"))) (atNil))))))) (eBin D.mod (eVar 6) (eC (.int 4)))))))))))) (sRet (nOf (eTup (aConsE (eVar 3) (aConsE (eVar 4) (aNil))))))))
noncomputable def m__law_woven : List D → Out D := mirP 3 10 b__law_woven
noncomputable def b__law_judged : Env' → Res Fl := sSeq (sSet 2 (nB D.toLst (aCons (eVar 0) (aNil)))) (sSeq (sFor (iRange1 (aCons (eB D.len (aCons (eVar 1) (aNil))) (aNil))) (gN 3) (sSeq (sUnpack (eBin D.ix (oOf (nLst (atCons (nOf (eTup (aConsE (eC (.int 0)) (aConsE (eC (.int 1)) (aNil))))) (atCons (nOf (eTup (aConsE (eC (.int 0)) (aConsE (eC (.int 2)) (aNil))))) (atCons (nOf (eTup (aConsE (eC (.int 3)) (aConsE (eC (.int 1)) (aNil))))) (atCons (nOf (eTup (aConsE (eC (.int 3)) (aConsE (eC (.int 2)) (aNil))))) (atNil))))))) (eM "list" D.lindex (oOf (nLst (atCons (nOf (eC (.str "xy"))) (atCons (nOf (eC (.str "xz"))) (atCons (nOf (eC (.str "ty"))) (atCons (nOf (eC (.str "tz"))) (atNil))))))) (aCons (eBin D.ix (eVar 1) (eVar 3)) (aNil)))) (gT (gsCons (gN 4) (gsCons (gN 5) (gsNil))) 2)) (sSeq (sIf (tstOr (tstV (eBin D.eq (eBin D.ix (eVar 2) (eVar 4)) (eC (.str "")))) (tstV (eBin D.eq (eBin D.ix (eVar 2) (eVar 5)) (eC (.str ""))))) (sRet (nOf (eTup (aConsE (eC (.str "refused")) (aConsE (eVar 3) (aConsE (eC (.str "end")) (aNil))))))) (sNil)) (sSeq (sIf (tstV (eBin D.ne (eBin D.ix (eBin D.ix (eVar 2) (eVar 4)) (eC (.int 0))) (eBin D.ix (eBin D.ix (eVar 2) (eVar 5)) (eC (.int 0))))) (sRet (nOf (eTup (aConsE (eC (.str "refused")) (aConsE (eVar 3) (aConsE (eC (.str "unlike")) (aNil))))))) (sNil)) (sSeq (sSetIx 2 (nOf (eSl (eBin D.ix (eVar 2) (eVar 4)) (pSome (eC (.int 1))) (pNone))) (eVar 4)) (sSetIx 2 (nOf (eSl (eBin D.ix (eVar 2) (eVar 5)) (pSome (eC (.int 1))) (pNone))) (eVar 5))))))) (sSeq (sIf (tstV (eBin D.ne (eVar 2) (oOf (nLst (atCons (nOf (eC (.str ""))) (atCons (nOf (eC (.str ""))) (atCons (nOf (eC (.str ""))) (atCons (nOf (eC (.str ""))) (atNil))))))))) (sRet (nOf (eTup (aConsE (eC (.str "refused")) (aConsE (eB D.len (aCons (eVar 1) (aNil))) (aConsE (eC (.str "left")) (aNil))))))) (sNil)) (sRet (nOf (eTup (aConsE (eC (.str "woven")) (aNil)))))))
noncomputable def m__law_judged : List D → Out D := mirP 2 6 b__law_judged
noncomputable def b__law_same : Env' → Res Fl := sSeq (sSet 2 (nLst (atCons (nOf (eTup (aConsE (eVar 0) (aConsE (eVar 1) (aNil))))) (atNil)))) (sSeq (sFor (iRange1 (aCons (eC (.int 30)) (aNil))) (gN 3) (sSeq (sSet 4 (nLst (atNil))) (sSeq (sFor (iSeq (eVar 2)) (gT (gsCons (gN 5) (gsCons (gN 6) (gsNil))) 2) (sIf (tstT (eB D.isinst (aCons (eVar 6) (aCons (eC (.ty "tuple")) (aNil))))) (sSeq (sIf (tstOr (tstNot (tstT (eB D.isinst (aCons (eVar 5) (aCons (eC (.ty "tuple")) (aNil)))))) (tstV (eBin D.ne (eB D.len (aCons (eVar 5) (aNil))) (eB D.len (aCons (eVar 6) (aNil)))))) (sRet (nOf (eC (.bl false)))) (sNil)) (sExtend 4 (oOf (nLc (iRange1 (aCons (eB D.len (aCons (eVar 6) (aNil))) (aNil))) (gN 7) (ttYes) (nOf (eTup (aConsE (eBin D.ix (eVar 5) (eVar 7)) (aConsE (eBin D.ix (eVar 6) (eVar 7)) (aNil))))) [7])))) (sIf (tstV (eBin D.is (eVar 6) (eC .non))) (sIf (tstV (eBin D.isnt (eVar 5) (eC .non))) (sRet (nOf (eC (.bl false)))) (sNil)) (sIf (tstV (eBin D.ne (eB D.isinst (aCons (eVar 5) (aCons (eC (.ty "bool")) (aNil)))) (eB D.isinst (aCons (eVar 6) (aCons (eC (.ty "bool")) (aNil)))))) (sRet (nOf (eC (.bl false)))) (sIf (tstV (eBin D.ne (eB D.isinst (aCons (eVar 5) (aCons (eC (.ty "str")) (aNil)))) (eB D.isinst (aCons (eVar 6) (aCons (eC (.ty "str")) (aNil)))))) (sRet (nOf (eC (.bl false)))) (sIf (tstOr (tstV (eBin D.ne (eB D.isinst (aCons (eVar 5) (aCons (eC (.ty "int")) (aNil)))) (eB D.isinst (aCons (eVar 6) (aCons (eC (.ty "int")) (aNil)))))) (tstV (eBin D.ne (eVar 5) (eVar 6)))) (sRet (nOf (eC (.bl false)))) (sNil))))))) (sSet 2 (nOf (eVar 4)))))) (sRet (nOf (eBin D.eq (eVar 2) (oOf (nLst (atNil)))))))
noncomputable def m__law_same : List D → Out D := mirP 2 8 b__law_same
noncomputable def b__law_changed : Env' → Res Fl := sSeq (sSet 0 (nB D.toLst (aCons (eVar 0) (aNil)))) (sSeq (sSet 1 (nB D.toLst (aCons (eVar 1) (aNil)))) (sSeq (sSet 4 (nOf (eBin D.mod (eVar 2) (eC (.int 8))))) (sSeq (sSet 5 (nOf (eBin D.mod (eBin D.fdiv (eVar 2) (eC (.int 8))) (eBin D.add (eB D.len (aCons (eVar 1) (aNil))) (eC (.int 1)))))) (sSeq (sSet 6 (nOf (eBin D.ix (oOf (nLst (atCons (nOf (eC (.str "xy"))) (atCons (nOf (eC (.str "xz"))) (atCons (nOf (eC (.str "ty"))) (atCons (nOf (eC (.str "tz"))) (atNil))))))) (eBin D.mod (eBin D.fdiv (eVar 2) (eC (.int 1024))) (eC (.int 4)))))) (sSeq (sSet 7 (nOf (eBin D.mod (eBin D.fdiv (eVar 2) (eC (.int 4096))) (eC (.int 4))))) (sSeq (sSet 8 (nOf (eBin D.mod (eBin D.fdiv (eVar 2) (eC (.int 8))) (eBin D.add (eB D.len (aCons (eBin D.ix (eVar 0) (eVar 7)) (aNil))) (eC (.int 1)))))) (sSeq (sSet 9 (nOf (eBin D.ix (eVar 3) (eBin D.mod (eBin D.fdiv (eVar 2) (eC (.int 16384))) (eB D.len (aCons (eVar 3) (aNil))))))) (sSeq (sIf (tstV (eBin D.eq (eVar 4) (eC (.int 0)))) (sSet 1 (nBin D.catN (eSl (eVar 1) (pNone) (pSome (eVar 5))) (eSl (eVar 1) (pSome (eBin D.add (eVar 5) (eC (.int 1)))) (pNone)))) (sNil)) (sSeq (sIf (tstV (eBin D.eq (eVar 4) (eC (.int 1)))) (sSet 1 (nBin D.catN (eBin D.add (eSl (eVar 1) (pNone) (pSome (eVar 5))) (oOf (nLst (atCons (nOf (eVar 6)) (atNil))))) (eSl (eVar 1) (pSome (eVar 5)) (pNone)))) (sNil)) (sSeq (sIf (tstAnd (tstV (eBin D.eq (eVar 4) (eC (.int 2)))) (tstV (eBin D.lt (eVar 5) (eB D.len (aCons (eVar 1) (aNil)))))) (sSetIx 1 (nOf (eVar 6)) (eVar 5)) (sNil)) (sSeq (sIf (tstAnd (tstV (eBin D.eq (eVar 4) (eC (.int 3)))) (tstV (eBin D.lt (eBin D.add (eVar 5) (eC (.int 1))) (eB D.len (aCons (eVar 1) (aNil)))))) (sSet 1 (nBin D.catN (eBin D.add (eSl (eVar 1) (pNone) (pSome (eVar 5))) (oOf (nLst (atCons (nOf (eBin D.ix (eVar 1) (eBin D.add (eVar 5) (eC (.int 1))))) (atCons (nOf (eBin D.ix (eVar 1) (eVar 5))) (atNil)))))) (eSl (eVar 1) (pSome (eBin D.add (eVar 5) (eC (.int 2)))) (pNone)))) (sNil)) (sSeq (sIf (tstAnd (tstV (eBin D.eq (eVar 4) (eC (.int 4)))) (tstV (eBin D.lt (eVar 8) (eB D.len (aCons (eBin D.ix (eVar 0) (eVar 7)) (aNil)))))) (sSetIx 0 (nOf (eBin D.add (eBin D.add (eSl (eBin D.ix (eVar 0) (eVar 7)) (pNone) (pSome (eVar 8))) (eVar 9)) (eSl (eBin D.ix (eVar 0) (eVar 7)) (pSome (eBin D.add (eVar 8) (eC (.int 1)))) (pNone)))) (eVar 7)) (sNil)) (sSeq (sIf (tstAnd (tstV (eBin D.eq (eVar 4) (eC (.int 5)))) (tstV (eBin D.lt (eB D.len (aCons (eBin D.ix (eVar 0) (eVar 7)) (aNil))) (eC (.int 40))))) (sSetIx 0 (nOf (eBin D.add (eBin D.add (eSl (eBin D.ix (eVar 0) (eVar 7)) (pNone) (pSome (eVar 8))) (eVar 9)) (eSl (eBin D.ix (eVar 0) (eVar 7)) (pSome (eVar 8)) (pNone)))) (eVar 7)) (sNil)) (sSeq (sIf (tstV (eBin D.eq (eVar 4) (eC (.int 6)))) (sSetIx 0 (nOf (eBin D.add (eSl (eBin D.ix (eVar 0) (eVar 7)) (pNone) (pSome (eVar 8))) (eSl (eBin D.ix (eVar 0) (eVar 7)) (pSome (eBin D.add (eVar 8) (eC (.int 1)))) (pNone)))) (eVar 7)) (sNil)) (sRet (nOf (eTup (aConsE (eVar 0) (aConsE (eVar 1) (aNil))))))))))))))))))))
noncomputable def m__law_changed : List D → Out D := mirP 4 10 b__law_changed
noncomputable def b_law : Env' → Res Fl := sSeq (sFor (iRange1 (aCons (eC (.int 6)) (aNil))) (gN 1) (sSeq (sSet 2 (nOf (eCall m__law_numbers (aConsE (eVar 0) (aConsE (eBin D.mul (eC (.int 3)) (eVar 1)) (aNil)))))) (sSeq (sSet 3 (nOf (eCall m__law_numbers (aConsE (eVar 0) (aConsE (eBin D.add (eBin D.mul (eC (.int 3)) (eVar 1)) (eC (.int 1))) (aNil)))))) (sSeq (sSet 4 (nOf (eCall m__law_letters (aConsE (eBin D.ix (eVar 3) (eC (.int 0))) (aNil))))) (sSeq (sUnpack (eCall m__law_woven (aConsE (eVar 2) (aConsE (eBin D.ix (oOf (nLst (atCons (nOf (eC (.int 0))) (atCons (nOf (eC (.int 1))) (atCons (nOf (eC (.int 3))) (atCons (nOf (eC (.int 6))) (atCons (nOf (eC (.int 12))) (atCons (nOf (eC (.int 40))) (atNil))))))))) (eBin D.mod (eBin D.ix (eVar 3) (eC (.int 1))) (eC (.int 6)))) (aConsE (eVar 4) (aNil))))) (gT (gsCons (gN 5) (gsCons (gN 6) (gsNil))) 2)) (sSeq (sIf (tstV (eBin D.ne (eCall m__law_judged (aConsE (eVar 5) (aConsE (eVar 6) (aNil)))) (eTup (aConsE (eC (.str "woven")) (aNil))))) (sRet (nOf (eC (.bl false)))) (sNil)) (sSeq (sFor (iRange1 (aCons (eC (.int 5)) (aNil))) (gN 7) (sSeq (sIf (tstV (eBin D.gt (eVar 7) (eC (.int 0)))) (sUnpack (eCall m__law_changed (aConsE (eVar 5) (aConsE (eVar 6) (aConsE (eBin D.ix (eVar 3) (eBin D.add (eC (.int 2)) (eVar 7))) (aConsE (eVar 4) (aNil)))))) (gT (gsCons (gN 5) (gsCons (gN 6) (gsNil))) 2)) (sNil)) (sSeq (sSet 8 (nOf (eCall m_judged (aConsE (eBin D.ix (eVar 5) (eC (.int 0))) (aConsE (eBin D.ix (eVar 5) (eC (.int 1))) (aConsE (eBin D.ix (eVar 5) (eC (.int 2))) (aConsE (eBin D.ix (eVar 5) (eC (.int 3))) (aConsE (eB D.toTup (aCons (eVar 6) (aNil))) (aNil))))))))) (sIf (tstNot (tstT (eCall m__law_same (aConsE (eVar 8) (aConsE (eCall m__law_judged (aConsE (eVar 5) (aConsE (eVar 6) (aNil)))) (aNil)))))) (sRet (nOf (eC (.bl false)))) (sNil))))) (sSeq (sSet 5 (nLc (iRange1 (aCons (eC (.int 4)) (aNil))) (gN 7) (ttYes) (nOf (eCall m__law_word (aConsE (eVar 3) (aConsE (eBin D.add (eC (.int 10)) (eBin D.mul (eC (.int 7)) (eVar 7))) (aConsE (eBin D.mod (eBin D.ix (eVar 3) (eBin D.add (eC (.int 30)) (eVar 7))) (eC (.int 7))) (aConsE (eVar 4) (aNil))))))) [7])) (sSeq (sSet 8 (nOf (eCall m_judged (aConsE (eBin D.ix (eVar 5) (eC (.int 0))) (aConsE (eBin D.ix (eVar 5) (eC (.int 1))) (aConsE (eBin D.ix (eVar 5) (eC (.int 2))) (aConsE (eBin D.ix (eVar 5) (eC (.int 3))) (aConsE (eB D.toTup (aCons (eVar 6) (aNil))) (aNil))))))))) (sIf (tstNot (tstT (eCall m__law_same (aConsE (eVar 8) (aConsE (eCall m__law_judged (aConsE (eVar 5) (aConsE (eVar 6) (aNil)))) (aNil)))))) (sRet (nOf (eC (.bl false)))) (sNil))))))))))) (sRet (nOf (eCall m__law_same (aConsE (eCall m_judged (aConsE (eC (.str "")) (aConsE (eC (.str "")) (aConsE (eC (.str "")) (aConsE (eC (.str "")) (aConsE (eTup (aNil)) (aNil))))))) (aConsE (eTup (aConsE (eC (.str "woven")) (aNil))) (aNil))))))
noncomputable def m_law : List D → Out D := mirP 1 9 b_law
/-- what the top has written -/
structure Txt (K : PySem.W.Frag) (mg : Str → Option Value) (A : Nat → Addr) (FD : Nat → FuncData) : Prop where
  n_all : mg "all" = none
  n_bool : mg "bool" = none
  n_enumerate : mg "enumerate" = none
  n_int : mg "int" = none
  n_isinstance : mg "isinstance" = none
  n_len : mg "len" = none
  n_list : mg "list" = none
  n_range : mg "range" = none
  n_str : mg "str" = none
  n_tuple : mg "tuple" = none
  F_is_word : Fun K "is_word" "is_word" s_is_word (A 0) (FD 0)
  g_is_word : mg "is_word" = some (.ref (A 0))
  b_is_word : Binds K (FD 0) ["thing"] []
  F_check_words : Fun K "check_words" "check_words" s_check_words (A 1) (FD 1)
  g_check_words : mg "check_words" = some (.ref (A 1))
  b_check_words : Binds K (FD 1) ["words"] []
  F_is_weaving : Fun K "is_weaving" "is_weaving" s_is_weaving (A 2) (FD 2)
  g_is_weaving : mg "is_weaving" = some (.ref (A 2))
  b_is_weaving : Binds K (FD 2) ["thing"] []
  F_check_weaving : Fun K "check_weaving" "check_weaving" s_check_weaving (A 3) (FD 3)
  g_check_weaving : mg "check_weaving" = some (.ref (A 3))
  b_check_weaving : Binds K (FD 3) ["weaving"] []
  F_raw_judged : Fun K "raw_judged" "raw_judged" s_raw_judged (A 4) (FD 4)
  g_raw_judged : mg "raw_judged" = some (.ref (A 4))
  b_raw_judged : Binds K (FD 4) ["words", "weaving"] []
  F_judged : Fun K "judged" "judged" s_judged (A 5) (FD 5)
  g_judged : mg "judged" = some (.ref (A 5))
  b_judged : Binds K (FD 5) ["x", "y", "z", "t", "weaving"] []
  F__law_numbers : Fun K "_law_numbers" "_law_numbers" s__law_numbers (A 6) (FD 6)
  g__law_numbers : mg "_law_numbers" = some (.ref (A 6))
  b__law_numbers : Binds K (FD 6) ["script", "thing"] []
  F__law_letters : Fun K "_law_letters" "_law_letters" s__law_letters (A 7) (FD 7)
  g__law_letters : mg "_law_letters" = some (.ref (A 7))
  b__law_letters : Binds K (FD 7) ["number"] []
  F__law_word : Fun K "_law_word" "_law_word" s__law_word (A 8) (FD 8)
  g__law_word : mg "_law_word" = some (.ref (A 8))
  b__law_word : Binds K (FD 8) ["xs", "start", "size", "letters"] []
  F__law_woven : Fun K "_law_woven" "_law_woven" s__law_woven (A 9) (FD 9)
  g__law_woven : mg "_law_woven" = some (.ref (A 9))
  b__law_woven : Binds K (FD 9) ["xs", "many", "letters"] []
  F__law_judged : Fun K "_law_judged" "_law_judged" s__law_judged (A 10) (FD 10)
  g__law_judged : mg "_law_judged" = some (.ref (A 10))
  b__law_judged : Binds K (FD 10) ["words", "moves"] []
  F__law_same : Fun K "_law_same" "_law_same" s__law_same (A 11) (FD 11)
  g__law_same : mg "_law_same" = some (.ref (A 11))
  b__law_same : Binds K (FD 11) ["found", "due"] []
  F__law_changed : Fun K "_law_changed" "_law_changed" s__law_changed (A 12) (FD 12)
  g__law_changed : mg "_law_changed" = some (.ref (A 12))
  b__law_changed : Binds K (FD 12) ["words", "moves", "number", "letters"] []
  F_law : Fun K "law" "law" s_law (A 13) (FD 13)
  g_law : mg "law" = some (.ref (A 13))
  b_law : Binds K (FD 13) ["script"] []
  X_NoWeaving : ExT K mg "NoWeaving" (A 14)
  X_NoWord : ExT K mg "NoWord" (A 15)
  c_LETTERS : GC K mg "LETTERS" c_LETTERS
  c_MOVES : GC K mg "MOVES" c_MOVES
  c_PLACES : GC K mg "PLACES" c_PLACES
section
variable {P : Program} {w : World} {K : PySem.W.Frag} {mg : Str → Option Value} {base : Heap} {A : Nat → Addr} {FD : Nat → FuncData}
theorem ok_is_word (T : Txt K mg A FD) : FnOk P w K mg base (L2.CX P w) 1 (A 0) (FD 0) ["thing"] (spP K mg 1 m_is_word) :=
  def_ok T.F_is_word sc_is_word (by decide) fun cdv Ar outer s H E hr tk => by
    have hu65 := u65 hr
    exact fss_one (fs_ret (fn_of (fo_and (fo_callB cd_isinst (by rfl) T.n_isinstance (by decide +kernel) (fa_cons (fo_var 0) (fa_cons (fo_ty (by rfl) T.n_str (by decide +kernel)) (fa_nil)))) (fo_one (fo_callB (cd_all rfl) (by rfl) T.n_all (by decide +kernel) (fa_cons (fo_of (fn_lc (own := [("sign", 1)]) rfl sc_is_word.nd (fi_seq (fo_var 0)) (blkOk_by (N := N_is_word) (sc := defScope s_is_word) (by decide +kernel)) (fun _ _ _ _ _ => fg_name (by simp) sc_is_word.nd rfl (.inl rfl)) (fun _ _ _ _ _ => fts_nil) (fun _ _ _ _ _ => fn_of (fo_cmp (od_in hu65) (fo_var 1) (fo_gc (by rfl) T.c_LETTERS) (by rfl))))) (fa_nil)))))))
theorem ok_check_words (T : Txt K mg A FD) : FnOk P w K mg base (L2.CX P w) 2 (A 1) (FD 1) ["words"] (spP K mg 1 m_check_words) :=
  def_ok T.F_check_words sc_check_words (by decide) fun cdv Ar outer s H E hr tk => by
    exact fss_one (fs_for (vs := [1]) (passes_of rfl) rfl (fi_seq (fo_var 0)) (fg_name (by simp) sc_check_words.nd rfl (.inl rfl)) (fss_one (fs_if (ft_not (ft_truth (fo_call (ok_is_word T) (hr.mono (by decide)) (by rfl) T.g_is_word T.F_is_word.kp T.b_is_word tk rfl (fa_consE (fo_var 1) (fa_nil)) (alen_cons (alen_nil))))) (fss_one (fs_raise rfl tk T.X_NoWord rfl (by rfl))) (fss_nil))))
theorem ok_is_weaving (T : Txt K mg A FD) : FnOk P w K mg base (L2.CX P w) 1 (A 2) (FD 2) ["thing"] (spP K mg 1 m_is_weaving) :=
  def_ok T.F_is_weaving sc_is_weaving (by decide) fun cdv Ar outer s H E hr tk => by
    have hu65 := u65 hr
    exact fss_one (fs_ret (fn_of (fo_and (fo_callB cd_isinst (by rfl) T.n_isinstance (by decide +kernel) (fa_cons (fo_var 0) (fa_cons (fo_ty (by rfl) T.n_tuple (by decide +kernel)) (fa_nil)))) (fo_one (fo_callB (cd_all rfl) (by rfl) T.n_all (by decide +kernel) (fa_cons (fo_of (fn_lc (own := [("move", 1)]) rfl sc_is_weaving.nd (fi_seq (fo_var 0)) (blkOk_by (N := N_is_weaving) (sc := defScope s_is_weaving) (by decide +kernel)) (fun _ _ _ _ _ => fg_name (by simp) sc_is_weaving.nd rfl (.inl rfl)) (fun _ _ _ _ _ => fts_nil) (fun _ _ _ _ _ => fn_of (fo_and (fo_callB cd_isinst (by rfl) T.n_isinstance (by decide +kernel) (fa_cons (fo_var 1) (fa_cons (fo_ty (by rfl) T.n_str (by decide +kernel)) (fa_nil)))) (fo_one (fo_cmp (od_in hu65) (fo_var 1) (fo_gc (by rfl) T.c_MOVES) (by rfl))))))) (fa_nil)))))))
theorem ok_check_weaving (T : Txt K mg A FD) : FnOk P w K mg base (L2.CX P w) 2 (A 3) (FD 3) ["weaving"] (spP K mg 1 m_check_weaving) :=
  def_ok T.F_check_weaving sc_check_weaving (by decide) fun cdv Ar outer s H E hr tk => by
    exact fss_one (fs_if (ft_not (ft_truth (fo_call (ok_is_weaving T) (hr.mono (by decide)) (by rfl) T.g_is_weaving T.F_is_weaving.kp T.b_is_weaving tk rfl (fa_consE (fo_var 0) (fa_nil)) (alen_cons (alen_nil))))) (fss_one (fs_raise rfl tk T.X_NoWeaving rfl (by rfl))) (fss_nil))
theorem ok_raw_judged (T : Txt K mg A FD) : FnOk P w K mg base (L2.CX P w) 1 (A 4) (FD 4) ["words", "weaving"] (spP K mg 2 m_raw_judged) :=
  def_ok T.F_raw_judged sc_raw_judged (by decide) fun cdv Ar outer s H E hr tk => by
    have hu64 := hr.units
    exact fss_cons (fs_set (i := 2) sc_raw_judged.nd rfl (.inl rfl) (fn_lst (fat_cons (fn_of (fo_int)) (fat_cons (fn_of (fo_int)) (fat_cons (fn_of (fo_int)) (fat_cons (fn_of (fo_int)) (fat_nil))))))) (fss_cons (fs_for (vs := [3, 4]) (passes_of rfl) rfl (fi_enum (by rfl) T.n_enumerate (fo_var 1)) (fg_tup (us := [3, 4]) rfl (fgs_cons (by simp) (pg_name (i := 3) sc_raw_judged.nd rfl (.inl rfl)) (fgs_cons (by simp) (pg_name (i := 4) sc_raw_judged.nd rfl (.inl rfl)) (fgs_nil)))) (fss_cons (fs_par (i := 5) (j := 6) rfl sc_raw_judged.nd rfl rfl (by decide) rfl rfl (fa_consE (fo_m PySem.F.plainAttrs_str PySem.F.slot_str_index PySem.F.type_str_index md_sindex (fo_gc (by rfl) T.c_PLACES) (fa_cons (fo_ix xd_ix (fo_var 4) (fo_int) (fun _ _ => rfl)) (fa_nil))) (fa_consE (fo_m PySem.F.plainAttrs_str PySem.F.slot_str_index PySem.F.type_str_index md_sindex (fo_gc (by rfl) T.c_PLACES) (fa_cons (fo_ix xd_ix (fo_var 4) (fo_int) (fun _ _ => rfl)) (fa_nil))) (fa_nil))) (by rfl)) (fss_cons (fs_if (PW.pt (fw_or (ft_cmp (od_eq hu64) (fo_ix xd_ix (fo_var 2) (fo_var 5) (fun _ _ => rfl)) (fo_callB cd_len (by rfl) T.n_len (by decide +kernel) (fa_cons (fo_ix xd_ix (fo_var 0) (fo_var 5) (fun _ _ => rfl)) (fa_nil))) (nomark _)) (fw_or1 (ft_cmp (od_eq hu64) (fo_ix xd_ix (fo_var 2) (fo_var 6) (fun _ _ => rfl)) (fo_callB cd_len (by rfl) T.n_len (by decide +kernel) (fa_cons (fo_ix xd_ix (fo_var 0) (fo_var 6) (fun _ _ => rfl)) (fa_nil))) (nomark _))))) (fss_one (fs_ret (fn_of (fo_tup (fa_consE (fo_str) (fa_consE (fo_var 3) (fa_consE (fo_str) (fa_nil)))))))) (fss_nil)) (fss_cons (fs_if (ft_cmp (od_ne hu64) (fo_ix xd_ix (fo_ix xd_ix (fo_var 0) (fo_var 5) (fun _ _ => rfl)) (fo_ix xd_ix (fo_var 2) (fo_var 5) (fun _ _ => rfl)) (fun _ _ => rfl)) (fo_ix xd_ix (fo_ix xd_ix (fo_var 0) (fo_var 6) (fun _ _ => rfl)) (fo_ix xd_ix (fo_var 2) (fo_var 6) (fun _ _ => rfl)) (fun _ _ => rfl)) (nomark _)) (fss_one (fs_ret (fn_of (fo_tup (fa_consE (fo_str) (fa_consE (fo_var 3) (fa_consE (fo_str) (fa_nil)))))))) (fss_nil)) (fss_cons (fs_augIx 2 id_add (fo_var 5) (fo_int)) (fss_one (fs_augIx 2 id_add (fo_var 6) (fo_int)))))))) (fss_cons (fs_if (ft_cmp (od_ne hu64) (fo_var 2) (fo_of (fn_lc (own := [("word", 7)]) rfl sc_raw_judged.nd (fi_seq (fo_var 0)) (blkOk_by (N := N_raw_judged) (sc := defScope s_raw_judged) (by decide +kernel)) (fun _ _ _ _ _ => fg_name (by simp) sc_raw_judged.nd rfl (.inl rfl)) (fun _ _ _ _ _ => fts_nil) (fun _ _ _ _ _ => fn_of (fo_callB cd_len (by rfl) T.n_len (by decide +kernel) (fa_cons (fo_var 7) (fa_nil)))))) (nomark _)) (fss_one (fs_ret (fn_of (fo_tup (fa_consE (fo_str) (fa_consE (fo_callB cd_len (by rfl) T.n_len (by decide +kernel) (fa_cons (fo_var 1) (fa_nil))) (fa_consE (fo_str) (fa_nil)))))))) (fss_nil)) (fss_one (fs_ret (fn_of (fo_tup (fa_consE (fo_str) (fa_nil))))))))
theorem ok_judged (T : Txt K mg A FD) : FnOk P w K mg base (L2.CX P w) 3 (A 5) (FD 5) ["x", "y", "z", "t", "weaving"] (spP K mg 5 m_judged) :=
  def_ok T.F_judged sc_judged (by decide) fun cdv Ar outer s H E hr tk => by
    exact fss_cons (fs_expr (fo_call (ok_check_words T) (hr.mono (by decide)) (by rfl) T.g_check_words T.F_check_words.kp T.b_check_words tk rfl (fa_consE (fo_of (fn_lst (fat_cons (fn_of (fo_var 0)) (fat_cons (fn_of (fo_var 1)) (fat_cons (fn_of (fo_var 2)) (fat_cons (fn_of (fo_var 3)) (fat_nil))))))) (fa_nil)) (alen_cons (alen_nil)))) (fss_cons (fs_expr (fo_call (ok_check_weaving T) (hr.mono (by decide)) (by rfl) T.g_check_weaving T.F_check_weaving.kp T.b_check_weaving tk rfl (fa_consE (fo_var 4) (fa_nil)) (alen_cons (alen_nil)))) (fss_one (fs_ret (fn_of (fo_call (ok_raw_judged T) (hr.mono (by decide)) (by rfl) T.g_raw_judged T.F_raw_judged.kp T.b_raw_judged tk rfl (fa_consE (fo_of (fn_lst (fat_cons (fn_of (fo_var 0)) (fat_cons (fn_of (fo_var 1)) (fat_cons (fn_of (fo_var 2)) (fat_cons (fn_of (fo_var 3)) (fat_nil))))))) (fa_consE (fo_var 4) (fa_nil))) (alen_cons (alen_cons (alen_nil))))))))
theorem ok__law_numbers (T : Txt K mg A FD) : FnOk P w K mg base (L2.CX P w) 1 (A 6) (FD 6) ["script", "thing"] (spP K mg 2 m__law_numbers) :=
  def_ok T.F__law_numbers sc__law_numbers (by decide) fun cdv Ar outer s H E hr tk => by
    exact fss_cons (fs_set (i := 2) sc__law_numbers.nd rfl (.inl rfl) (fn_of (fo_int))) (fss_cons (fs_if (ft_cmp od_gt (fo_callB cd_len (by rfl) T.n_len (by decide +kernel) (fa_cons (fo_var 0) (fa_nil))) (fo_int) (nomark _)) (fss_one (fs_set (i := 2) sc__law_numbers.nd rfl (.inl rfl) (fn_of (fo_callTy cd_int (by rfl) T.n_int (by decide +kernel) (fa_cons (fo_ix xd_ix (fo_var 0) (fo_bin od_mod (fo_var 1) (fo_callB cd_len (by rfl) T.n_len (by decide +kernel) (fa_cons (fo_var 0) (fa_nil)))) (fun _ _ => rfl)) (fa_nil)))))) (fss_nil)) (fss_cons (fs_set (i := 3) sc__law_numbers.nd rfl (.inl rfl) (fn_of (fo_int))) (fss_cons (fs_if (PW.pt (fw_and (ft_cmp od_lt (fo_var 1) (fo_callB cd_len (by rfl) T.n_len (by decide +kernel) (fa_cons (fo_var 0) (fa_nil))) (nomark _)) (fw_and1 (ft_cmp od_ge (fo_var 2) (fo_bin od_pow (fo_int) (fo_int)) (nomark _))))) (fss_one (fs_set (i := 3) sc__law_numbers.nd rfl (.inl rfl) (fn_of (fo_var 2)))) (fss_nil)) (fss_cons (fs_set (i := 4) sc__law_numbers.nd rfl (.inl rfl) (fn_lst (fat_nil))) (fss_cons (fs_for (vs := [5]) (passes_of rfl) rfl (fi_range1 (by rfl) T.n_range (fa_cons (fo_int) (fa_nil))) (fg_name (by simp) sc__law_numbers.nd rfl (.inl rfl)) (fss_cons (fs_set (i := 6) sc__law_numbers.nd rfl (.inl rfl) (fn_of (fo_bin od_mod (fo_bin od_mul (fo_bin od_add (fo_bin od_add (fo_bin od_add (fo_bin od_mod (fo_var 2) (fo_int)) (fo_bin od_mul (fo_int) (fo_var 5))) (fo_bin od_mul (fo_int) (fo_var 1))) (fo_int)) (fo_int)) (fo_int)))) (fss_cons (fs_set (i := 6) sc__law_numbers.nd rfl (.inl rfl) (fn_of (fo_bin od_mod (fo_bin od_mul (fo_var 6) (fo_bin od_add (fo_bin od_fdiv (fo_var 6) (fo_int)) (fo_int))) (fo_int)))) (fss_cons (fs_set (i := 6) sc__law_numbers.nd rfl (.inl rfl) (fn_of (fo_bin od_mod (fo_bin od_mul (fo_var 6) (fo_bin od_add (fo_bin od_fdiv (fo_var 6) (fo_int)) (fo_int))) (fo_int)))) (fss_cons (fs_if (ft_cmp od_gt (fo_var 3) (fo_int) (nomark _)) (fss_cons (fs_set (i := 6) sc__law_numbers.nd rfl (.inl rfl) (fn_of (fo_bin od_mod (fo_var 3) (fo_int)))) (fss_one (fs_set (i := 3) sc__law_numbers.nd rfl (.inl rfl) (fn_of (fo_bin od_fdiv (fo_var 3) (fo_int)))))) (fss_nil)) (fss_one (fs_append 4 (fn_of (fo_var 6)) rfl))))))) (fss_one (fs_ret (fn_of (fo_var 4)))))))))
theorem ok__law_letters (T : Txt K mg A FD) : FnOk P w K mg base (L2.CX P w) 1 (A 7) (FD 7) ["number"] (spP K mg 1 m__law_letters) :=
  def_ok T.F__law_letters sc__law_letters (by decide) fun cdv Ar outer s H E hr tk => by
    have hu65 := u65 hr
    exact fss_cons (fs_set (i := 1) sc__law_letters.nd rfl (.inr rfl) (fn_of (fo_str))) (fss_cons (fs_set (i := 2) sc__law_letters.nd rfl (.inl rfl) (fn_of (fo_bin od_fdiv (fo_var 0) (fo_int)))) (fss_cons (fs_for (vs := [3]) (passes_of rfl) rfl (fi_range1 (by rfl) T.n_range (fa_cons (fo_bin od_add (fo_int) (fo_bin od_mod (fo_var 0) (fo_int))) (fa_nil))) (fg_name (by simp) sc__law_letters.nd rfl (.inl rfl)) (fss_cons (fs_setLc (i := 4) (own := [("letter", 5)]) rfl sc__law_letters.nd rfl rfl (sw_true rfl rfl rfl (by decide +kernel)) (fi_seq (fo_str)) (blkOk_by (N := N__law_letters) (sc := defScope s__law_letters) (by decide +kernel)) (fun _ _ _ _ _ => fg_name (by simp) sc__law_letters.nd rfl (.inl rfl)) (fun _ _ _ _ _ => fts_one (ft_cmp (od_notin hu65) (fo_var 5) (fo_var 1) (by rfl))) (fun _ _ _ _ _ => fn_of (fo_var 5))) (fss_cons (fs_set (i := 1) sc__law_letters.nd rfl (.inr rfl) (fn_of (fo_bin od_add (fo_var 1) (fo_ix xd_ix (fo_var 4) (fo_bin od_mod (fo_var 2) (fo_callB cd_len (by rfl) T.n_len (by decide +kernel) (fa_cons (fo_var 4) (fa_nil)))) (fun _ _ => rfl))))) (fss_one (fs_set (i := 2) sc__law_letters.nd rfl (.inl rfl) (fn_of (fo_bin od_fdiv (fo_var 2) (fo_int)))))))) (fss_one (fs_ret (fn_of (fo_var 1))))))
theorem ok__law_word (T : Txt K mg A FD) : FnOk P w K mg base (L2.CX P w) 1 (A 8) (FD 8) ["xs", "start", "size", "letters"] (spP K mg 4 m__law_word) :=
  def_ok T.F__law_word sc__law_word (by decide) fun cdv Ar outer s H E hr tk => by
    exact fss_cons (fs_set (i := 4) sc__law_word.nd rfl (.inl rfl) (fn_of (fo_str))) (fss_cons (fs_for (vs := [5]) (passes_of rfl) rfl (fi_range2 (by rfl) T.n_range (fa_cons (fo_var 1) (fa_cons (fo_bin od_add (fo_var 1) (fo_var 2)) (fa_nil)))) (fg_name (by simp) sc__law_word.nd rfl (.inl rfl)) (fss_one (fs_set (i := 4) sc__law_word.nd rfl (.inl rfl) (fn_of (fo_bin od_add (fo_var 4) (fo_ix xd_ix (fo_var 3) (fo_bin od_mod (fo_bin od_fdiv (fo_ix xd_ix (fo_var 0) (fo_bin od_mod (fo_var 5) (fo_int)) (fun _ _ => rfl)) (fo_ix xd_ix (fo_of (fn_lst (fat_cons (fn_of (fo_int)) (fat_cons (fn_of (fo_int)) (fat_cons (fn_of (fo_int)) (fat_nil)))))) (fo_bin od_mod (fo_bin od_fdiv (fo_var 5) (fo_int)) (fo_int)) (fun _ _ => rfl))) (fo_callB cd_len (by rfl) T.n_len (by decide +kernel) (fa_cons (fo_var 3) (fa_nil)))) (fun _ _ => rfl))))))) (fss_one (fs_ret (fn_of (fo_var 4)))))
theorem ok__law_woven (T : Txt K mg A FD) : FnOk P w K mg base (L2.CX P w) 1 (A 9) (FD 9) ["xs", "many", "letters"] (spP K mg 3 m__law_woven) :=
  def_ok T.F__law_woven sc__law_woven (by decide) fun cdv Ar outer s H E hr tk => by
    exact fss_cons (fs_set (i := 3) sc__law_woven.nd rfl (.inl rfl) (fn_lst (fat_cons (fn_of (fo_str)) (fat_cons (fn_of (fo_str)) (fat_cons (fn_of (fo_str)) (fat_cons (fn_of (fo_str)) (fat_nil))))))) (fss_cons (fs_set (i := 4) sc__law_woven.nd rfl (.inl rfl) (fn_lst (fat_nil))) (fss_cons (fs_for (vs := [5]) (passes_of rfl) rfl (fi_range1 (by rfl) T.n_range (fa_cons (fo_var 1) (fa_nil))) (fg_name (by simp) sc__law_woven.nd rfl (.inl rfl)) (fss_cons (fs_set (i := 6) sc__law_woven.nd rfl (.inl rfl) (fn_of (fo_bin od_fdiv (fo_ix xd_ix (fo_var 0) (fo_bin od_mod (fo_var 5) (fo_int)) (fun _ _ => rfl)) (fo_ix xd_ix (fo_of (fn_lst (fat_cons (fn_of (fo_int)) (fat_cons (fn_of (fo_int)) (fat_cons (fn_of (fo_int)) (fat_nil)))))) (fo_bin od_mod (fo_bin od_fdiv (fo_var 5) (fo_int)) (fo_int)) (fun _ _ => rfl))))) (fss_cons (fs_unpack (vs := [7, 8]) (fo_ix xd_ix (fo_of (fn_lst (fat_cons (fn_of (fo_tup (fa_consE (fo_int) (fa_consE (fo_int) (fa_nil))))) (fat_cons (fn_of (fo_tup (fa_consE (fo_int) (fa_consE (fo_int) (fa_nil))))) (fat_cons (fn_of (fo_tup (fa_consE (fo_int) (fa_consE (fo_int) (fa_nil))))) (fat_cons (fn_of (fo_tup (fa_consE (fo_int) (fa_consE (fo_int) (fa_nil))))) (fat_nil))))))) (fo_bin od_mod (fo_var 6) (fo_int)) (fun _ _ => rfl)) (fg_tup (us := [7, 8]) rfl (fgs_cons (by simp) (pg_name (i := 7) sc__law_woven.nd rfl (.inl rfl)) (fgs_cons (by simp) (pg_name (i := 8) sc__law_woven.nd rfl (.inl rfl)) (fgs_nil))))) (fss_cons (fs_set (i := 9) sc__law_woven.nd rfl (.inl rfl) (fn_of (fo_ix xd_ix (fo_var 2) (fo_bin od_mod (fo_bin od_fdiv (fo_var 6) (fo_int)) (fo_callB cd_len (by rfl) T.n_len (by decide +kernel) (fa_cons (fo_var 2) (fa_nil)))) (fun _ _ => rfl)))) (fss_cons (fs_setIx 3 (fn_of (fo_bin od_add (fo_ix xd_ix (fo_var 3) (fo_var 7) (fun _ _ => rfl)) (fo_var 9))) (fo_var 7)) (fss_cons (fs_setIx 3 (fn_of (fo_bin od_add (fo_ix xd_ix (fo_var 3) (fo_var 8) (fun _ _ => rfl)) (fo_var 9))) (fo_var 8)) (fss_one (fs_append 4 (fn_of (fo_ix xd_ix (fo_of (fn_lst (fat_cons (fn_of (fo_str)) (fat_cons (fn_of (fo_str)) (fat_cons (fn_of (fo_str)) (fat_cons (fn_of (fo_str)) (fat_nil))))))) (fo_bin od_mod (fo_var 6) (fo_int)) (fun _ _ => rfl))) rfl)))))))) (fss_one (fs_ret (fn_of (fo_tup (fa_consE (fo_var 3) (fa_consE (fo_var 4) (fa_nil)))))))))
theorem ok__law_judged (T : Txt K mg A FD) : FnOk P w K mg base (L2.CX P w) 1 (A 10) (FD 10) ["words", "moves"] (spP K mg 2 m__law_judged) :=
  def_ok T.F__law_judged sc__law_judged (by decide) fun cdv Ar outer s H E hr tk => by
    have hu64 := hr.units
    exact fss_cons (fs_set (i := 2) sc__law_judged.nd rfl (.inl rfl) (fn_callTy cn_list (by rfl) T.n_list (by decide +kernel) (fa_cons (fo_var 0) (fa_nil)))) (fss_cons (fs_for (vs := [3]) (passes_of rfl) rfl (fi_range1 (by rfl) T.n_range (fa_cons (fo_callB cd_len (by rfl) T.n_len (by decide +kernel) (fa_cons (fo_var 1) (fa_nil))) (fa_nil))) (fg_name (by simp) sc__law_judged.nd rfl (.inl rfl)) (fss_cons (fs_unpack (vs := [4, 5]) (fo_ix xd_ix (fo_of (fn_lst (fat_cons (fn_of (fo_tup (fa_consE (fo_int) (fa_consE (fo_int) (fa_nil))))) (fat_cons (fn_of (fo_tup (fa_consE (fo_int) (fa_consE (fo_int) (fa_nil))))) (fat_cons (fn_of (fo_tup (fa_consE (fo_int) (fa_consE (fo_int) (fa_nil))))) (fat_cons (fn_of (fo_tup (fa_consE (fo_int) (fa_consE (fo_int) (fa_nil))))) (fat_nil))))))) (fo_m PySem.F.plainAttrs_list PySem.F.slot_list_index PySem.F.type_list_index md_lindex (fo_of (fn_lst (fat_cons (fn_of (fo_str)) (fat_cons (fn_of (fo_str)) (fat_cons (fn_of (fo_str)) (fat_cons (fn_of (fo_str)) (fat_nil))))))) (fa_cons (fo_ix xd_ix (fo_var 1) (fo_var 3) (fun _ _ => rfl)) (fa_nil))) (fun _ _ => rfl)) (fg_tup (us := [4, 5]) rfl (fgs_cons (by simp) (pg_name (i := 4) sc__law_judged.nd rfl (.inl rfl)) (fgs_cons (by simp) (pg_name (i := 5) sc__law_judged.nd rfl (.inl rfl)) (fgs_nil))))) (fss_cons (fs_if (PW.pt (fw_or (ft_cmp (od_eq hu64) (fo_ix xd_ix (fo_var 2) (fo_var 4) (fun _ _ => rfl)) (fo_str) (nomark _)) (fw_or1 (ft_cmp (od_eq hu64) (fo_ix xd_ix (fo_var 2) (fo_var 5) (fun _ _ => rfl)) (fo_str) (nomark _))))) (fss_one (fs_ret (fn_of (fo_tup (fa_consE (fo_str) (fa_consE (fo_var 3) (fa_consE (fo_str) (fa_nil)))))))) (fss_nil)) (fss_cons (fs_if (ft_cmp (od_ne hu64) (fo_ix xd_ix (fo_ix xd_ix (fo_var 2) (fo_var 4) (fun _ _ => rfl)) (fo_int) (fun _ _ => rfl)) (fo_ix xd_ix (fo_ix xd_ix (fo_var 2) (fo_var 5) (fun _ _ => rfl)) (fo_int) (fun _ _ => rfl)) (nomark _)) (fss_one (fs_ret (fn_of (fo_tup (fa_consE (fo_str) (fa_consE (fo_var 3) (fa_consE (fo_str) (fa_nil)))))))) (fss_nil)) (fss_cons (fs_setIx 2 (fn_of (fo_sl (fo_ix xd_ix (fo_var 2) (fo_var 4) (fun _ _ => rfl)) (fp_some (fo_int)) (fp_none))) (fo_var 4)) (fss_one (fs_setIx 2 (fn_of (fo_sl (fo_ix xd_ix (fo_var 2) (fo_var 5) (fun _ _ => rfl)) (fp_some (fo_int)) (fp_none))) (fo_var 5)))))))) (fss_cons (fs_if (ft_cmp (od_ne hu64) (fo_var 2) (fo_of (fn_lst (fat_cons (fn_of (fo_str)) (fat_cons (fn_of (fo_str)) (fat_cons (fn_of (fo_str)) (fat_cons (fn_of (fo_str)) (fat_nil))))))) (nomark _)) (fss_one (fs_ret (fn_of (fo_tup (fa_consE (fo_str) (fa_consE (fo_callB cd_len (by rfl) T.n_len (by decide +kernel) (fa_cons (fo_var 1) (fa_nil))) (fa_consE (fo_str) (fa_nil)))))))) (fss_nil)) (fss_one (fs_ret (fn_of (fo_tup (fa_consE (fo_str) (fa_nil))))))))
theorem ok__law_same (T : Txt K mg A FD) : FnOk P w K mg base (L2.CX P w) 1 (A 11) (FD 11) ["found", "due"] (spP K mg 2 m__law_same) :=
  def_ok T.F__law_same sc__law_same (by decide) fun cdv Ar outer s H E hr tk => by
    have hu64 := hr.units
    exact fss_cons (fs_set (i := 2) sc__law_same.nd rfl (.inl rfl) (fn_lst (fat_cons (fn_of (fo_tup (fa_consE (fo_var 0) (fa_consE (fo_var 1) (fa_nil))))) (fat_nil)))) (fss_cons (fs_for (vs := [3]) (passes_of rfl) rfl (fi_range1 (by rfl) T.n_range (fa_cons (fo_int) (fa_nil))) (fg_name (by simp) sc__law_same.nd rfl (.inl rfl)) (fss_cons (fs_set (i := 4) sc__law_same.nd rfl (.inl rfl) (fn_lst (fat_nil))) (fss_cons (fs_for (vs := [5, 6]) (passes_of rfl) rfl (fi_seq (fo_var 2)) (fg_tup (us := [5, 6]) rfl (fgs_cons (by simp) (pg_name (i := 5) sc__law_same.nd rfl (.inr rfl)) (fgs_cons (by simp) (pg_name (i := 6) sc__law_same.nd rfl (.inr rfl)) (fgs_nil)))) (fss_one (fs_if (ft_truth (fo_callB cd_isinst (by rfl) T.n_isinstance (by decide +kernel) (fa_cons (fo_var 6) (fa_cons (fo_ty (by rfl) T.n_tuple (by decide +kernel)) (fa_nil))))) (fss_cons (fs_if (PW.pt (fw_or (ft_not (ft_truth (fo_callB cd_isinst (by rfl) T.n_isinstance (by decide +kernel) (fa_cons (fo_var 5) (fa_cons (fo_ty (by rfl) T.n_tuple (by decide +kernel)) (fa_nil)))))) (fw_or1 (ft_cmp (od_ne hu64) (fo_callB cd_len (by rfl) T.n_len (by decide +kernel) (fa_cons (fo_var 5) (fa_nil))) (fo_callB cd_len (by rfl) T.n_len (by decide +kernel) (fa_cons (fo_var 6) (fa_nil))) (nomark _))))) (fss_one (fs_ret (fn_of (fo_bl)))) (fss_nil)) (fss_one (fs_extend 4 (fo_of (fn_lc (own := [("k", 7)]) rfl sc__law_same.nd (fi_range1 (by rfl) T.n_range (fa_cons (fo_callB cd_len (by rfl) T.n_len (by decide +kernel) (fa_cons (fo_var 6) (fa_nil))) (fa_nil))) (blkOk_by (N := N__law_same) (sc := defScope s__law_same) (by decide +kernel)) (fun _ _ _ _ _ => fg_name (by simp) sc__law_same.nd rfl (.inl rfl)) (fun _ _ _ _ _ => fts_nil) (fun _ _ _ _ _ => fn_of (fo_tup (fa_consE (fo_ix xd_ix (fo_var 5) (fo_var 7) (fun _ _ => rfl)) (fa_consE (fo_ix xd_ix (fo_var 6) (fo_var 7) (fun _ _ => rfl)) (fa_nil))))))) rfl))) (fss_one (fs_if (ft_cmp od_is (fo_var 6) (fo_non) (nomark _)) (fss_one (fs_if (ft_cmp od_isnt (fo_var 5) (fo_non) (nomark _)) (fss_one (fs_ret (fn_of (fo_bl)))) (fss_nil))) (fss_one (fs_if (ft_cmp (od_ne hu64) (fo_callB cd_isinst (by rfl) T.n_isinstance (by decide +kernel) (fa_cons (fo_var 5) (fa_cons (fo_ty (by rfl) T.n_bool (by decide +kernel)) (fa_nil)))) (fo_callB cd_isinst (by rfl) T.n_isinstance (by decide +kernel) (fa_cons (fo_var 6) (fa_cons (fo_ty (by rfl) T.n_bool (by decide +kernel)) (fa_nil)))) (nomark _)) (fss_one (fs_ret (fn_of (fo_bl)))) (fss_one (fs_if (ft_cmp (od_ne hu64) (fo_callB cd_isinst (by rfl) T.n_isinstance (by decide +kernel) (fa_cons (fo_var 5) (fa_cons (fo_ty (by rfl) T.n_str (by decide +kernel)) (fa_nil)))) (fo_callB cd_isinst (by rfl) T.n_isinstance (by decide +kernel) (fa_cons (fo_var 6) (fa_cons (fo_ty (by rfl) T.n_str (by decide +kernel)) (fa_nil)))) (nomark _)) (fss_one (fs_ret (fn_of (fo_bl)))) (fss_one (fs_if (PW.pt (fw_or (ft_cmp (od_ne hu64) (fo_callB cd_isinst (by rfl) T.n_isinstance (by decide +kernel) (fa_cons (fo_var 5) (fa_cons (fo_ty (by rfl) T.n_int (by decide +kernel)) (fa_nil)))) (fo_callB cd_isinst (by rfl) T.n_isinstance (by decide +kernel) (fa_cons (fo_var 6) (fa_cons (fo_ty (by rfl) T.n_int (by decide +kernel)) (fa_nil)))) (nomark _)) (fw_or1 (ft_cmp (od_ne hu64) (fo_var 5) (fo_var 6) (nomark _))))) (fss_one (fs_ret (fn_of (fo_bl)))) (fss_nil)))))))))))) (fss_one (fs_set (i := 2) sc__law_same.nd rfl (.inl rfl) (fn_of (fo_var 4))))))) (fss_one (fs_ret (fn_of (fo_cmp (od_eq hu64) (fo_var 2) (fo_of (fn_lst (fat_nil))) (nomark _))))))
theorem ok__law_changed (T : Txt K mg A FD) : FnOk P w K mg base (L2.CX P w) 1 (A 12) (FD 12) ["words", "moves", "number", "letters"] (spP K mg 4 m__law_changed) :=
  def_ok T.F__law_changed sc__law_changed (by decide) fun cdv Ar outer s H E hr tk => by
    have hu64 := hr.units
    exact fss_cons (fs_set (i := 0) sc__law_changed.nd rfl (.inl rfl) (fn_callTy cn_list (by rfl) T.n_list (by decide +kernel) (fa_cons (fo_var 0) (fa_nil)))) (fss_cons (fs_set (i := 1) sc__law_changed.nd rfl (.inl rfl) (fn_callTy cn_list (by rfl) T.n_list (by decide +kernel) (fa_cons (fo_var 1) (fa_nil)))) (fss_cons (fs_set (i := 4) sc__law_changed.nd rfl (.inl rfl) (fn_of (fo_bin od_mod (fo_var 2) (fo_int)))) (fss_cons (fs_set (i := 5) sc__law_changed.nd rfl (.inl rfl) (fn_of (fo_bin od_mod (fo_bin od_fdiv (fo_var 2) (fo_int)) (fo_bin od_add (fo_callB cd_len (by rfl) T.n_len (by decide +kernel) (fa_cons (fo_var 1) (fa_nil))) (fo_int))))) (fss_cons (fs_set (i := 6) sc__law_changed.nd rfl (.inl rfl) (fn_of (fo_ix xd_ix (fo_of (fn_lst (fat_cons (fn_of (fo_str)) (fat_cons (fn_of (fo_str)) (fat_cons (fn_of (fo_str)) (fat_cons (fn_of (fo_str)) (fat_nil))))))) (fo_bin od_mod (fo_bin od_fdiv (fo_var 2) (fo_int)) (fo_int)) (fun _ _ => rfl)))) (fss_cons (fs_set (i := 7) sc__law_changed.nd rfl (.inl rfl) (fn_of (fo_bin od_mod (fo_bin od_fdiv (fo_var 2) (fo_int)) (fo_int)))) (fss_cons (fs_set (i := 8) sc__law_changed.nd rfl (.inl rfl) (fn_of (fo_bin od_mod (fo_bin od_fdiv (fo_var 2) (fo_int)) (fo_bin od_add (fo_callB cd_len (by rfl) T.n_len (by decide +kernel) (fa_cons (fo_ix xd_ix (fo_var 0) (fo_var 7) (fun _ _ => rfl)) (fa_nil))) (fo_int))))) (fss_cons (fs_set (i := 9) sc__law_changed.nd rfl (.inl rfl) (fn_of (fo_ix xd_ix (fo_var 3) (fo_bin od_mod (fo_bin od_fdiv (fo_var 2) (fo_int)) (fo_callB cd_len (by rfl) T.n_len (by decide +kernel) (fa_cons (fo_var 3) (fa_nil)))) (fun _ _ => rfl)))) (fss_cons (fs_if (ft_cmp (od_eq hu64) (fo_var 4) (fo_int) (nomark _)) (fss_one (fs_set (i := 1) sc__law_changed.nd rfl (.inl rfl) (fn_bin on_cat (fo_sl (fo_var 1) (fp_none) (fp_some (fo_var 5))) (fo_sl (fo_var 1) (fp_some (fo_bin od_add (fo_var 5) (fo_int))) (fp_none))))) (fss_nil)) (fss_cons (fs_if (ft_cmp (od_eq hu64) (fo_var 4) (fo_int) (nomark _)) (fss_one (fs_set (i := 1) sc__law_changed.nd rfl (.inl rfl) (fn_bin on_cat (fo_bin od_add (fo_sl (fo_var 1) (fp_none) (fp_some (fo_var 5))) (fo_of (fn_lst (fat_cons (fn_of (fo_var 6)) (fat_nil))))) (fo_sl (fo_var 1) (fp_some (fo_var 5)) (fp_none))))) (fss_nil)) (fss_cons (fs_if (PW.pt (fw_and (ft_cmp (od_eq hu64) (fo_var 4) (fo_int) (nomark _)) (fw_and1 (ft_cmp od_lt (fo_var 5) (fo_callB cd_len (by rfl) T.n_len (by decide +kernel) (fa_cons (fo_var 1) (fa_nil))) (nomark _))))) (fss_one (fs_setIx 1 (fn_of (fo_var 6)) (fo_var 5))) (fss_nil)) (fss_cons (fs_if (PW.pt (fw_and (ft_cmp (od_eq hu64) (fo_var 4) (fo_int) (nomark _)) (fw_and1 (ft_cmp od_lt (fo_bin od_add (fo_var 5) (fo_int)) (fo_callB cd_len (by rfl) T.n_len (by decide +kernel) (fa_cons (fo_var 1) (fa_nil))) (nomark _))))) (fss_one (fs_set (i := 1) sc__law_changed.nd rfl (.inl rfl) (fn_bin on_cat (fo_bin od_add (fo_sl (fo_var 1) (fp_none) (fp_some (fo_var 5))) (fo_of (fn_lst (fat_cons (fn_of (fo_ix xd_ix (fo_var 1) (fo_bin od_add (fo_var 5) (fo_int)) (fun _ _ => rfl))) (fat_cons (fn_of (fo_ix xd_ix (fo_var 1) (fo_var 5) (fun _ _ => rfl))) (fat_nil)))))) (fo_sl (fo_var 1) (fp_some (fo_bin od_add (fo_var 5) (fo_int))) (fp_none))))) (fss_nil)) (fss_cons (fs_if (PW.pt (fw_and (ft_cmp (od_eq hu64) (fo_var 4) (fo_int) (nomark _)) (fw_and1 (ft_cmp od_lt (fo_var 8) (fo_callB cd_len (by rfl) T.n_len (by decide +kernel) (fa_cons (fo_ix xd_ix (fo_var 0) (fo_var 7) (fun _ _ => rfl)) (fa_nil))) (nomark _))))) (fss_one (fs_setIx 0 (fn_of (fo_bin od_add (fo_bin od_add (fo_sl (fo_ix xd_ix (fo_var 0) (fo_var 7) (fun _ _ => rfl)) (fp_none) (fp_some (fo_var 8))) (fo_var 9)) (fo_sl (fo_ix xd_ix (fo_var 0) (fo_var 7) (fun _ _ => rfl)) (fp_some (fo_bin od_add (fo_var 8) (fo_int))) (fp_none)))) (fo_var 7))) (fss_nil)) (fss_cons (fs_if (PW.pt (fw_and (ft_cmp (od_eq hu64) (fo_var 4) (fo_int) (nomark _)) (fw_and1 (ft_cmp od_lt (fo_callB cd_len (by rfl) T.n_len (by decide +kernel) (fa_cons (fo_ix xd_ix (fo_var 0) (fo_var 7) (fun _ _ => rfl)) (fa_nil))) (fo_int) (nomark _))))) (fss_one (fs_setIx 0 (fn_of (fo_bin od_add (fo_bin od_add (fo_sl (fo_ix xd_ix (fo_var 0) (fo_var 7) (fun _ _ => rfl)) (fp_none) (fp_some (fo_var 8))) (fo_var 9)) (fo_sl (fo_ix xd_ix (fo_var 0) (fo_var 7) (fun _ _ => rfl)) (fp_some (fo_var 8)) (fp_none)))) (fo_var 7))) (fss_nil)) (fss_cons (fs_if (ft_cmp (od_eq hu64) (fo_var 4) (fo_int) (nomark _)) (fss_one (fs_setIx 0 (fn_of (fo_bin od_add (fo_sl (fo_ix xd_ix (fo_var 0) (fo_var 7) (fun _ _ => rfl)) (fp_none) (fp_some (fo_var 8))) (fo_sl (fo_ix xd_ix (fo_var 0) (fo_var 7) (fun _ _ => rfl)) (fp_some (fo_bin od_add (fo_var 8) (fo_int))) (fp_none)))) (fo_var 7))) (fss_nil)) (fss_one (fs_ret (fn_of (fo_tup (fa_consE (fo_var 0) (fa_consE (fo_var 1) (fa_nil)))))))))))))))))))))
theorem ok_law (T : Txt K mg A FD) : FnOk P w K mg base (L2.CX P w) 4 (A 13) (FD 13) ["script"] (spP K mg 1 m_law) :=
  def_ok T.F_law sc_law (by decide) fun cdv Ar outer s H E hr tk => by
    have hu64 := hr.units
    exact fss_cons (fs_for (vs := [1]) (passes_of rfl) rfl (fi_range1 (by rfl) T.n_range (fa_cons (fo_int) (fa_nil))) (fg_name (by simp) sc_law.nd rfl (.inl rfl)) (fss_cons (fs_set (i := 2) sc_law.nd rfl (.inl rfl) (fn_of (fo_call (ok__law_numbers T) (hr.mono (by decide)) (by rfl) T.g__law_numbers T.F__law_numbers.kp T.b__law_numbers tk rfl (fa_consE (fo_var 0) (fa_consE (fo_bin od_mul (fo_int) (fo_var 1)) (fa_nil))) (alen_cons (alen_cons (alen_nil)))))) (fss_cons (fs_set (i := 3) sc_law.nd rfl (.inr rfl) (fn_of (fo_call (ok__law_numbers T) (hr.mono (by decide)) (by rfl) T.g__law_numbers T.F__law_numbers.kp T.b__law_numbers tk rfl (fa_consE (fo_var 0) (fa_consE (fo_bin od_add (fo_bin od_mul (fo_int) (fo_var 1)) (fo_int)) (fa_nil))) (alen_cons (alen_cons (alen_nil)))))) (fss_cons (fs_set (i := 4) sc_law.nd rfl (.inr rfl) (fn_of (fo_call (ok__law_letters T) (hr.mono (by decide)) (by rfl) T.g__law_letters T.F__law_letters.kp T.b__law_letters tk rfl (fa_consE (fo_ix xd_ix (fo_var 3) (fo_int) (fun _ _ => rfl)) (fa_nil)) (alen_cons (alen_nil))))) (fss_cons (fs_unpack (vs := [5, 6]) (fo_call (ok__law_woven T) (hr.mono (by decide)) (by rfl) T.g__law_woven T.F__law_woven.kp T.b__law_woven tk rfl (fa_consE (fo_var 2) (fa_consE (fo_ix xd_ix (fo_of (fn_lst (fat_cons (fn_of (fo_int)) (fat_cons (fn_of (fo_int)) (fat_cons (fn_of (fo_int)) (fat_cons (fn_of (fo_int)) (fat_cons (fn_of (fo_int)) (fat_cons (fn_of (fo_int)) (fat_nil))))))))) (fo_bin od_mod (fo_ix xd_ix (fo_var 3) (fo_int) (fun _ _ => rfl)) (fo_int)) (fun _ _ => rfl)) (fa_consE (fo_var 4) (fa_nil)))) (alen_cons (alen_cons (alen_cons (alen_nil))))) (fg_tup (us := [5, 6]) rfl (fgs_cons (by simp) (pg_name (i := 5) sc_law.nd rfl (.inl rfl)) (fgs_cons (by simp) (pg_name (i := 6) sc_law.nd rfl (.inl rfl)) (fgs_nil))))) (fss_cons (fs_if (ft_cmp (od_ne hu64) (fo_call (ok__law_judged T) (hr.mono (by decide)) (by rfl) T.g__law_judged T.F__law_judged.kp T.b__law_judged tk rfl (fa_consE (fo_var 5) (fa_consE (fo_var 6) (fa_nil))) (alen_cons (alen_cons (alen_nil)))) (fo_tup (fa_consE (fo_str) (fa_nil))) (nomark _)) (fss_one (fs_ret (fn_of (fo_bl)))) (fss_nil)) (fss_cons (fs_for (vs := [7]) (passes_of rfl) rfl (fi_range1 (by rfl) T.n_range (fa_cons (fo_int) (fa_nil))) (fg_name (by simp) sc_law.nd rfl (.inl rfl)) (fss_cons (fs_if (ft_cmp od_gt (fo_var 7) (fo_int) (nomark _)) (fss_one (fs_unpack (vs := [5, 6]) (fo_call (ok__law_changed T) (hr.mono (by decide)) (by rfl) T.g__law_changed T.F__law_changed.kp T.b__law_changed tk rfl (fa_consE (fo_var 5) (fa_consE (fo_var 6) (fa_consE (fo_ix xd_ix (fo_var 3) (fo_bin od_add (fo_int) (fo_var 7)) (fun _ _ => rfl)) (fa_consE (fo_var 4) (fa_nil))))) (alen_cons (alen_cons (alen_cons (alen_cons (alen_nil)))))) (fg_tup (us := [5, 6]) rfl (fgs_cons (by simp) (pg_name (i := 5) sc_law.nd rfl (.inl rfl)) (fgs_cons (by simp) (pg_name (i := 6) sc_law.nd rfl (.inl rfl)) (fgs_nil)))))) (fss_nil)) (fss_cons (fs_set (i := 8) sc_law.nd rfl (.inl rfl) (fn_of (fo_call (ok_judged T) (hr.mono (by decide)) (by rfl) T.g_judged T.F_judged.kp T.b_judged tk rfl (fa_consE (fo_ix xd_ix (fo_var 5) (fo_int) (fun _ _ => rfl)) (fa_consE (fo_ix xd_ix (fo_var 5) (fo_int) (fun _ _ => rfl)) (fa_consE (fo_ix xd_ix (fo_var 5) (fo_int) (fun _ _ => rfl)) (fa_consE (fo_ix xd_ix (fo_var 5) (fo_int) (fun _ _ => rfl)) (fa_consE (fo_callTy cd_tuple (by rfl) T.n_tuple (by decide +kernel) (fa_cons (fo_var 6) (fa_nil))) (fa_nil)))))) (alen_cons (alen_cons (alen_cons (alen_cons (alen_cons (alen_nil))))))))) (fss_one (fs_if (ft_not (ft_truth (fo_call (ok__law_same T) (hr.mono (by decide)) (by rfl) T.g__law_same T.F__law_same.kp T.b__law_same tk rfl (fa_consE (fo_var 8) (fa_consE (fo_call (ok__law_judged T) (hr.mono (by decide)) (by rfl) T.g__law_judged T.F__law_judged.kp T.b__law_judged tk rfl (fa_consE (fo_var 5) (fa_consE (fo_var 6) (fa_nil))) (alen_cons (alen_cons (alen_nil)))) (fa_nil))) (alen_cons (alen_cons (alen_nil)))))) (fss_one (fs_ret (fn_of (fo_bl)))) (fss_nil)))))) (fss_cons (fs_setLc (i := 5) (own := [("m", 7)]) rfl sc_law.nd rfl rfl (sw_true rfl rfl rfl (by decide +kernel)) (fi_range1 (by rfl) T.n_range (fa_cons (fo_int) (fa_nil))) (blkOk_by (N := N_law) (sc := defScope s_law) (by decide +kernel)) (fun _ _ _ _ _ => fg_name (by simp) sc_law.nd rfl (.inl rfl)) (fun _ _ _ _ _ => fts_nil) (fun _ _ _ _ _ => fn_of (fo_call (ok__law_word T) (hr.mono (by decide)) (by rfl) T.g__law_word T.F__law_word.kp T.b__law_word takes0 rfl (fa_consE (fo_var 3) (fa_consE (fo_bin od_add (fo_int) (fo_bin od_mul (fo_int) (fo_var 7))) (fa_consE (fo_bin od_mod (fo_ix xd_ix (fo_var 3) (fo_bin od_add (fo_int) (fo_var 7)) (fun _ _ => rfl)) (fo_int)) (fa_consE (fo_var 4) (fa_nil))))) (alen_cons (alen_cons (alen_cons (alen_cons (alen_nil)))))))) (fss_cons (fs_set (i := 8) sc_law.nd rfl (.inl rfl) (fn_of (fo_call (ok_judged T) (hr.mono (by decide)) (by rfl) T.g_judged T.F_judged.kp T.b_judged tk rfl (fa_consE (fo_ix xd_ix (fo_var 5) (fo_int) (fun _ _ => rfl)) (fa_consE (fo_ix xd_ix (fo_var 5) (fo_int) (fun _ _ => rfl)) (fa_consE (fo_ix xd_ix (fo_var 5) (fo_int) (fun _ _ => rfl)) (fa_consE (fo_ix xd_ix (fo_var 5) (fo_int) (fun _ _ => rfl)) (fa_consE (fo_callTy cd_tuple (by rfl) T.n_tuple (by decide +kernel) (fa_cons (fo_var 6) (fa_nil))) (fa_nil)))))) (alen_cons (alen_cons (alen_cons (alen_cons (alen_cons (alen_nil))))))))) (fss_one (fs_if (ft_not (ft_truth (fo_call (ok__law_same T) (hr.mono (by decide)) (by rfl) T.g__law_same T.F__law_same.kp T.b__law_same tk rfl (fa_consE (fo_var 8) (fa_consE (fo_call (ok__law_judged T) (hr.mono (by decide)) (by rfl) T.g__law_judged T.F__law_judged.kp T.b__law_judged tk rfl (fa_consE (fo_var 5) (fa_consE (fo_var 6) (fa_nil))) (alen_cons (alen_cons (alen_nil)))) (fa_nil))) (alen_cons (alen_cons (alen_nil)))))) (fss_one (fs_ret (fn_of (fo_bl)))) (fss_nil)))))))))))) (fss_one (fs_ret (fn_of (fo_call (ok__law_same T) (hr.mono (by decide)) (by rfl) T.g__law_same T.F__law_same.kp T.b__law_same tk rfl (fa_consE (fo_call (ok_judged T) (hr.mono (by decide)) (by rfl) T.g_judged T.F_judged.kp T.b_judged tk rfl (fa_consE (fo_str) (fa_consE (fo_str) (fa_consE (fo_str) (fa_consE (fo_str) (fa_consE (fo_tup (fa_nil)) (fa_nil)))))) (alen_cons (alen_cons (alen_cons (alen_cons (alen_cons (alen_nil))))))) (fa_consE (fo_tup (fa_consE (fo_str) (fa_nil))) (fa_nil))) (alen_cons (alen_cons (alen_nil)))))))
end
/-! ### the end -/
theorem all_mk {P : Program} {w : World} {K : PySem.W.Frag} {h : Heap} {mg : Str → Option Value} {fa : Addr} (X : K.In h) (G : h.Ns mainGlobals mg) (hfa : mg "law" = some (.ref fa))
    (D_is_word : DI K "is_word" s_is_word)
    (D_check_words : DI K "check_words" s_check_words)
    (D_is_weaving : DI K "is_weaving" s_is_weaving)
    (D_check_weaving : DI K "check_weaving" s_check_weaving)
    (D_raw_judged : DI K "raw_judged" s_raw_judged)
    (D_judged : DI K "judged" s_judged)
    (D__law_numbers : DI K "_law_numbers" s__law_numbers)
    (D__law_letters : DI K "_law_letters" s__law_letters)
    (D__law_word : DI K "_law_word" s__law_word)
    (D__law_woven : DI K "_law_woven" s__law_woven)
    (D__law_judged : DI K "_law_judged" s__law_judged)
    (D__law_same : DI K "_law_same" s__law_same)
    (D__law_changed : DI K "_law_changed" s__law_changed)
    (D_law : DI K "law" s_law)
    (D_NoWeaving : XI K "NoWeaving")
    (D_NoWord : XI K "NoWord")
    (D_LETTERS : GI K "LETTERS" c_LETTERS)
    (D_MOVES : GI K "MOVES" c_MOVES)
    (D_PLACES : GI K "PLACES" c_PLACES)
    (z_all : PySem.W.nsIn K mainGlobals "all" = some none)
    (z_bool : PySem.W.nsIn K mainGlobals "bool" = some none)
    (z_enumerate : PySem.W.nsIn K mainGlobals "enumerate" = some none)
    (z_int : PySem.W.nsIn K mainGlobals "int" = some none)
    (z_isinstance : PySem.W.nsIn K mainGlobals "isinstance" = some none)
    (z_len : PySem.W.nsIn K mainGlobals "len" = some none)
    (z_list : PySem.W.nsIn K mainGlobals "list" = some none)
    (z_range : PySem.W.nsIn K mainGlobals "range" = some none)
    (z_str : PySem.W.nsIn K mainGlobals "str" = some none)
    (z_tuple : PySem.W.nsIn K mainGlobals "tuple" = some none)
    (hm : ∀ ns : List Int, ns.length ≤ 63 → m_law [.fz (ns.map .int)] = .ok (.bl true))
    : ∃ fd : FuncData, (∀ (s : Shared) (u : Value), BindsTo s fd ⟨[u], []⟩ [("script", u)]) ∧ ∀ base : Heap, K.In base → base.Ns mainGlobals mg → FnOk P w K mg base (L2.CX P w) 4 fa fd ["script"] (spL K) := by
  obtain ⟨f_is_word, fd_is_word, a_is_word, F_is_word⟩ := D_is_word
  obtain ⟨f_check_words, fd_check_words, a_check_words, F_check_words⟩ := D_check_words
  obtain ⟨f_is_weaving, fd_is_weaving, a_is_weaving, F_is_weaving⟩ := D_is_weaving
  obtain ⟨f_check_weaving, fd_check_weaving, a_check_weaving, F_check_weaving⟩ := D_check_weaving
  obtain ⟨f_raw_judged, fd_raw_judged, a_raw_judged, F_raw_judged⟩ := D_raw_judged
  obtain ⟨f_judged, fd_judged, a_judged, F_judged⟩ := D_judged
  obtain ⟨f__law_numbers, fd__law_numbers, a__law_numbers, F__law_numbers⟩ := D__law_numbers
  obtain ⟨f__law_letters, fd__law_letters, a__law_letters, F__law_letters⟩ := D__law_letters
  obtain ⟨f__law_word, fd__law_word, a__law_word, F__law_word⟩ := D__law_word
  obtain ⟨f__law_woven, fd__law_woven, a__law_woven, F__law_woven⟩ := D__law_woven
  obtain ⟨f__law_judged, fd__law_judged, a__law_judged, F__law_judged⟩ := D__law_judged
  obtain ⟨f__law_same, fd__law_same, a__law_same, F__law_same⟩ := D__law_same
  obtain ⟨f__law_changed, fd__law_changed, a__law_changed, F__law_changed⟩ := D__law_changed
  obtain ⟨f_law, fd_law, a_law, F_law⟩ := D_law
  obtain ⟨f_NoWeaving, a_NoWeaving, q_NoWeaving, k_NoWeaving, b_NoWeaving, t_NoWeaving⟩ := D_NoWeaving
  obtain ⟨f_NoWord, a_NoWord, q_NoWord, k_NoWord, b_NoWord, t_NoWord⟩ := D_NoWord
  obtain ⟨v_LETTERS, u_LETTERS, a_LETTERS, r_LETTERS, d_LETTERS⟩ := D_LETTERS
  obtain ⟨v_MOVES, u_MOVES, a_MOVES, r_MOVES, d_MOVES⟩ := D_MOVES
  obtain ⟨v_PLACES, u_PLACES, a_PLACES, r_PLACES, d_PLACES⟩ := D_PLACES
  have B_is_word := F_is_word.binds (ps := ["thing"]) fun _ _ _ _ _ _ us hl => match us, hl with | [_], _ => rfl
  have B_check_words := F_check_words.binds (ps := ["words"]) fun _ _ _ _ _ _ us hl => match us, hl with | [_], _ => rfl
  have B_is_weaving := F_is_weaving.binds (ps := ["thing"]) fun _ _ _ _ _ _ us hl => match us, hl with | [_], _ => rfl
  have B_check_weaving := F_check_weaving.binds (ps := ["weaving"]) fun _ _ _ _ _ _ us hl => match us, hl with | [_], _ => rfl
  have B_raw_judged := F_raw_judged.binds (ps := ["words", "weaving"]) fun _ _ _ _ _ _ us hl => match us, hl with | [_, _], _ => rfl
  have B_judged := F_judged.binds (ps := ["x", "y", "z", "t", "weaving"]) fun _ _ _ _ _ _ us hl => match us, hl with | [_, _, _, _, _], _ => rfl
  have B__law_numbers := F__law_numbers.binds (ps := ["script", "thing"]) fun _ _ _ _ _ _ us hl => match us, hl with | [_, _], _ => rfl
  have B__law_letters := F__law_letters.binds (ps := ["number"]) fun _ _ _ _ _ _ us hl => match us, hl with | [_], _ => rfl
  have B__law_word := F__law_word.binds (ps := ["xs", "start", "size", "letters"]) fun _ _ _ _ _ _ us hl => match us, hl with | [_, _, _, _], _ => rfl
  have B__law_woven := F__law_woven.binds (ps := ["xs", "many", "letters"]) fun _ _ _ _ _ _ us hl => match us, hl with | [_, _, _], _ => rfl
  have B__law_judged := F__law_judged.binds (ps := ["words", "moves"]) fun _ _ _ _ _ _ us hl => match us, hl with | [_, _], _ => rfl
  have B__law_same := F__law_same.binds (ps := ["found", "due"]) fun _ _ _ _ _ _ us hl => match us, hl with | [_, _], _ => rfl
  have B__law_changed := F__law_changed.binds (ps := ["words", "moves", "number", "letters"]) fun _ _ _ _ _ _ us hl => match us, hl with | [_, _, _, _], _ => rfl
  have B_law := F_law.binds (ps := ["script"]) fun _ _ _ _ _ _ us hl => match us, hl with | [_], _ => rfl
  have T : Txt K mg (fun i => ([f_is_word, f_check_words, f_is_weaving, f_check_weaving, f_raw_judged, f_judged, f__law_numbers, f__law_letters, f__law_word, f__law_woven, f__law_judged, f__law_same, f__law_changed, f_law, f_NoWeaving, f_NoWord] : List Addr).getD i 0) (fun i => ([fd_is_word, fd_check_words, fd_is_weaving, fd_check_weaving, fd_raw_judged, fd_judged, fd__law_numbers, fd__law_letters, fd__law_word, fd__law_woven, fd__law_judged, fd__law_same, fd__law_changed, fd_law] : List FuncData).getD i fd_law) := {
    n_all := PySem.W.mg_none_of X G z_all
    n_bool := PySem.W.mg_none_of X G z_bool
    n_enumerate := PySem.W.mg_none_of X G z_enumerate
    n_int := PySem.W.mg_none_of X G z_int
    n_isinstance := PySem.W.mg_none_of X G z_isinstance
    n_len := PySem.W.mg_none_of X G z_len
    n_list := PySem.W.mg_none_of X G z_list
    n_range := PySem.W.mg_none_of X G z_range
    n_str := PySem.W.mg_none_of X G z_str
    n_tuple := PySem.W.mg_none_of X G z_tuple
    F_is_word := F_is_word
    g_is_word := PySem.W.mg_of X G a_is_word
    b_is_word := B_is_word
    F_check_words := F_check_words
    g_check_words := PySem.W.mg_of X G a_check_words
    b_check_words := B_check_words
    F_is_weaving := F_is_weaving
    g_is_weaving := PySem.W.mg_of X G a_is_weaving
    b_is_weaving := B_is_weaving
    F_check_weaving := F_check_weaving
    g_check_weaving := PySem.W.mg_of X G a_check_weaving
    b_check_weaving := B_check_weaving
    F_raw_judged := F_raw_judged
    g_raw_judged := PySem.W.mg_of X G a_raw_judged
    b_raw_judged := B_raw_judged
    F_judged := F_judged
    g_judged := PySem.W.mg_of X G a_judged
    b_judged := B_judged
    F__law_numbers := F__law_numbers
    g__law_numbers := PySem.W.mg_of X G a__law_numbers
    b__law_numbers := B__law_numbers
    F__law_letters := F__law_letters
    g__law_letters := PySem.W.mg_of X G a__law_letters
    b__law_letters := B__law_letters
    F__law_word := F__law_word
    g__law_word := PySem.W.mg_of X G a__law_word
    b__law_word := B__law_word
    F__law_woven := F__law_woven
    g__law_woven := PySem.W.mg_of X G a__law_woven
    b__law_woven := B__law_woven
    F__law_judged := F__law_judged
    g__law_judged := PySem.W.mg_of X G a__law_judged
    b__law_judged := B__law_judged
    F__law_same := F__law_same
    g__law_same := PySem.W.mg_of X G a__law_same
    b__law_same := B__law_same
    F__law_changed := F__law_changed
    g__law_changed := PySem.W.mg_of X G a__law_changed
    b__law_changed := B__law_changed
    F_law := F_law
    g_law := PySem.W.mg_of X G a_law
    b_law := B_law
    X_NoWeaving := ⟨PySem.W.mg_of X G a_NoWeaving, q_NoWeaving, k_NoWeaving, b_NoWeaving, t_NoWeaving⟩
    X_NoWord := ⟨PySem.W.mg_of X G a_NoWord, q_NoWord, k_NoWord, b_NoWord, t_NoWord⟩
    c_LETTERS := ⟨v_LETTERS, u_LETTERS, PySem.W.mg_of X G a_LETTERS, r_LETTERS, d_LETTERS⟩
    c_MOVES := ⟨v_MOVES, u_MOVES, PySem.W.mg_of X G a_MOVES, r_MOVES, d_MOVES⟩
    c_PLACES := ⟨v_PLACES, u_PLACES, PySem.W.mg_of X G a_PLACES, r_PLACES, d_PLACES⟩ }
  have e := hfa.symm.trans (PySem.W.mg_of X G a_law)
  cases e
  obtain ⟨oc, od, kV, doc, pm, an, cdv, ct, osl, rfl, lk, hcd⟩ := id F_law.ex
  exact ⟨_, fun s u => .of_eq rfl, fun base _ _ => (ok_law T).imp (law_imp hm)⟩
end W_k01

namespace W_k01
open PySem PySem.Spec PyProof.Rows L2 FL
theorem numbers_ok (ns : List Int) (thing : Int) (h0 : 0 ≤ thing) (h1 : thing < 1000) : ∃ d, m__law_numbers [.fz (ns.map .int), .int thing] = .ok d ∧ ∃ xs : List Int, d = .lst (xs.map .int) ∧ xs.length = 40 ∧ ∀ x ∈ xs, 0 ≤ x := by
  refine mirP_sat rfl ?_
  unfold b__law_numbers
  simp only [startE, List.map, List.length, List.replicate, List.cons_append, List.nil_append]
  refine sat_seq (fun ρ => ρ = [dD (.fz (ns.map .int)), iI thing, iI 0, none, none, none, none]) ?_ ?_
  · simp
  rintro _ rfl
  refine sat_seq (fun ρ => ∃ c : Int, ρ = [dD (.fz (ns.map .int)), iI thing, iI c, none, none, none, none]) ?_ ?_
  · simp
    intro hl
    have hl' : (0 : Int) < ns.length := by omega
    have a1 := Int.emod_nonneg thing (b := ns.length) (by omega)
    have a2 := Int.emod_lt_of_pos thing hl'
    simp [hl, hl', atI_map, atI_in a1 a2]
  rintro _ ⟨c, rfl⟩
  refine sat_seq (fun ρ => ρ = [dD (.fz (ns.map .int)), iI thing, iI c, iI 0, none, none, none]) ?_ ?_
  · simp
  rintro _ rfl
  refine sat_seq (fun ρ => ∃ r : Int, ρ = [dD (.fz (ns.map .int)), iI thing, iI c, iI r, none, none, none] ∧ 0 ≤ r) ?_ ?_
  · simp
    intro _ h
    omega
  rintro _ ⟨r, rfl, hr⟩
  refine sat_seq (fun ρ => ρ = [dD (.fz (ns.map .int)), iI thing, iI c, iI r, some (.lst (([] : List Int).map fun i => .sh (.int i))), none, none]) ?_ ?_
  · simp
  rintro _ rfl
  refine sat_seq (fun ρ => ∃ r xs o1 o2, ρ = [dD (.fz (ns.map .int)), iI thing, iI c, iI r, some (.lst ((xs : List Int).map fun i => .sh (.int i))), o1, o2] ∧ xs.length = 40 ∧ ∀ x ∈ xs, 0 ≤ x) ?_ ?_
  · simp [rOk]
    refine sat_for (fun n ρ => ∃ r xs o1 o2, ρ = [dD (.fz (ns.map .int)), iI thing, iI c, iI r, some (.lst ((xs : List Int).map fun i => .sh (.int i))), o1, o2] ∧ xs.length = n ∧ (∀ x ∈ xs, 0 ≤ x) ∧ 0 ≤ r) 0 ⟨r, [], none, none, rfl, rfl, by simp, hr⟩ ?_ ?_
    · rintro i d _ hd ⟨r, xs, o1, o2, rfl, hl, hx, hr⟩
      obtain ⟨rfl, hi⟩ := range_get hd
      refine ⟨[dD (.fz (ns.map .int)), iI thing, iI c, iI r, some (.lst ((xs : List Int).map fun i => .sh (.int i))), iI i, o2], by simp, ?_⟩
      have hs : xs.length < sizeLine := size_lt (by omega)
      simp (disch := first | omega | simp) [hs, -List.map_append]
      refine ⟨fun hr0 => ⟨r / 1000000007, xs ++ [r % 1000000007], ⟨rfl, by simp⟩, by simp; omega, fun x hx' => ?_, by omega⟩, fun hr0 => ⟨r, xs ++ [_], ⟨rfl, by simp; rfl⟩, by simp; omega, fun x hx' => ?_, hr⟩⟩
      · rcases List.mem_append.mp hx' with h | h
        · exact hx x h
        · have : x = r % 1000000007 := by simpa using h
          omega
      · rcases List.mem_append.mp hx' with h | h
        · exact hx x h
        · rw [List.mem_singleton] at h
          omega
    · rintro _ ⟨r, xs, o1, o2, rfl, hl, hx, hr⟩
      simp
      exact ⟨r, xs, ⟨rfl, rfl⟩, by simpa using hl, hx⟩
  · rintro _ ⟨r, xs, o1, o2, rfl, hl, hx⟩
    simp
    exact ⟨xs, rfl, hl, hx⟩
end W_k01

namespace W_k01
open PySem PySem.Spec PyProof.Rows L2 FL
theorem letters_ok (number : Int) (h0 : 0 ≤ number) : ∃ d, m__law_letters [.int number] = .ok d ∧ ∃ l : List Nat, d = .str (S l) ∧ 2 ≤ l.length ∧ l.length ≤ 3 ∧ AllL l := by
  refine mirP_sat rfl ?_
  unfold b__law_letters
  simp only [startE, List.map, List.length, List.replicate, List.cons_append, List.nil_append]
  refine sat_seq (fun ρ => ρ = [iI number, sS [], none, none, none, none]) ?_ ?_
  · simp
  rintro _ rfl
  refine sat_seq (fun ρ => ∃ r, ρ = [iI number, sS [], iI r, none, none, none] ∧ 0 ≤ r) ?_ ?_
  · simp (disch := first | omega | simp)
    omega
  rintro _ ⟨r, rfl, hr⟩
  refine sat_seq (fun ρ => ∃ r l o3 o4, ρ = [iI number, sS l, iI r, o3, o4, none] ∧ 2 ≤ l.length ∧ l.length ≤ 3 ∧ AllL l) ?_ ?_
  · have hk : rOk (2 + number % 2) := by unfold rOk; omega
    simp (disch := first | omega | simp) [hk]
    refine sat_for (fun n ρ => ∃ r l o3 o4, ρ = [iI number, sS l, iI r, o3, o4, none] ∧ l.length = n ∧ (AllL l) ∧ 0 ≤ r) 0 ⟨r, [], none, none, rfl, rfl, .nil, hr⟩ ?_ ?_
    · rintro i d _ hd ⟨r, l, o3, o4, rfl, hl, hc, hr⟩
      obtain ⟨rfl, hi⟩ := range_get hd
      refine ⟨[iI number, sS l, iI r, iI i, o4, none], by simp, ?_⟩
      have hf : ∃ t ts, (L26.filter fun c => !decide (c ∈ l)) = t :: ts := by
        cases e : L26.filter fun c => !decide (c ∈ l) with
        | cons t ts => exact ⟨t, ts, rfl⟩
        | nil =>
          exfalso
          have sub : ∀ c ∈ L26, c ∈ l := fun c hc => by
            have := List.filter_eq_nil_iff.mp e c hc
            simpa using this
          have := nodup_le L26_nodup sub
          rw [L26_len] at this
          omega
      obtain ⟨t, ts, hf⟩ := hf
      have hlc : lcGo (gN 5) (tstV (eBin D.notin (eVar 5) (eVar 1))) (nOf (eVar 5)) [5] (L26.map fun c => D.str (S [c])) [iI number, sS l, iI r, iI i, o4, none] = .ok ((L26.map fun c => D.str (S [c])).filter (fun d => match d with | .str x => !sIn x (S l) | _ => false) |>.map T.sh, [iI number, sS l, iI r, iI i, o4, none]) := by
        refine lc_pure _ _ fun d hd => ?_
        obtain ⟨c, hc, rfl⟩ := List.mem_map.mp hd
        refine ⟨[iI number, sS l, iI r, iI i, o4, sS [c]], by simp, ?_, fun _ => ?_, by simp⟩
        · rw [tstV_ap]; simp
        · rw [nOf_ap]; simp
      have htl : (t :: ts).length ≤ 26 := by
        rw [← hf]
        exact List.length_filter_le _ _
      have ht : ∀ c ∈ t :: ts, c ∈ L26 := fun c hc => by
        rw [← hf] at hc
        exact (List.mem_filter.mp hc).1
      have hm : (L26.map fun c => D.str (S [c])).filter (fun d => match d with | .str x => !sIn x (S l) | _ => false) = (L26.filter fun c => !decide (c ∈ l)).map fun c => D.str (S [c]) := by
        rw [List.filter_map]
        congr 1
      rw [hm, hf] at hlc
      have a1 := Int.emod_nonneg r (b := ((t :: ts).length : Int)) (by simp only [List.length_cons]; omega)
      have a2 := Int.emod_lt_of_pos r (b := ((t :: ts).length : Int)) (by simp only [List.length_cons]; omega)
      obtain ⟨c, hcm, hat⟩ := atI_ex (fun c => D.str (S [c])) a1 a2
      simp only [List.length_cons, Int.natCast_add, Int.cast_ofNat_Int, List.map_cons] at hat
      simp (disch := first | omega | (simp; done) | (simp; omega)) [letters_S, hlc, hat, L26_size]
      exact ⟨_, _, ⟨rfl, rfl⟩, by simp; omega, hc.app (.one (ht c hcm)), by omega⟩
    · rintro _ ⟨r, l, o3, o4, rfl, hl, hc, hr⟩
      simp at hl ⊢
      refine ⟨r, l, ⟨⟨rfl, rfl⟩, by omega, by omega, hc⟩⟩
  · rintro _ ⟨r, l, o3, o4, rfl, h1, h2, hc⟩
    simp
    exact ⟨h1, h2, hc⟩
end W_k01

namespace W_k01
open PySem PySem.Spec PyProof.Rows L2 FL
theorem int_range {i n : Int} {k : Nat} (h : 0 ≤ i) (h2 : i < n) : True := trivial
/-- a word drawn: so many letters, of those given -/
theorem word_ok (xs : List Int) (hx : xs.length = 40) (hp : ∀ x ∈ xs, 0 ≤ x) (start size : Int) (h0 : 0 ≤ start) (h1 : 0 ≤ size) (h2 : start + size ≤ 10000) (l : List Nat) (hl : l ≠ []) (h26 : l.length ≤ 26) :
    ∃ d, m__law_word [.lst (xs.map .int), .int start, .int size, .str (S l)] = .ok d ∧ ∃ w : List Nat, d = .str (S w) ∧ w.length = size.toNat ∧ ∀ c ∈ w, c ∈ l := by
  refine mirP_sat rfl ?_
  unfold b__law_word
  simp only [startE, List.map, List.length, List.replicate, List.cons_append, List.nil_append]
  refine sat_seq (fun ρ => ρ = [dD (.lst (xs.map .int)), iI start, iI size, sS l, sS [], none]) ?_ ?_
  · simp
  rintro _ rfl
  refine sat_seq (fun ρ => ∃ w o, ρ = [dD (.lst (xs.map .int)), iI start, iI size, sS l, sS w, o] ∧ w.length = size.toNat ∧ ∀ c ∈ w, c ∈ l) ?_ ?_
  · have r1 : rOk start := by unfold rOk; omega
    have r2 : rOk (start + size) := by unfold rOk; omega
    simp [r1, r2]
    refine sat_for (fun n ρ => ∃ w o, ρ = [dD (.lst (xs.map .int)), iI start, iI size, sS l, sS w, o] ∧ w.length = n ∧ ∀ c ∈ w, c ∈ l) 0 ⟨[], none, rfl, rfl, by simp⟩ ?_ ?_
    · rintro i d _ hd ⟨w, o, rfl, hw, hc⟩
      obtain ⟨rfl, hi⟩ := range_get hd
      refine ⟨[dD (.lst (xs.map .int)), iI start, iI size, sS l, sS w, iI (start + i)], by simp, ?_⟩
      obtain ⟨x, hxm, hat⟩ := atI_ex D.int (xs := xs) (i := (start + i) % 40) (by omega) (by omega)
      obtain ⟨m, hm, hat2⟩ := atI_ex D.int (xs := [1, 101, 10007]) (i := (start + i) / 40 % 3) (by omega) (by simp; omega)
      have hm0 : 0 < m ∧ m < 2 ^ 64 := by
        simp at hm
        omega
      have hl0 : 0 < l.length := List.length_pos_iff.mpr hl
      have e0 := Int.emod_nonneg (x / m) (b := (l.length : Int)) (by omega)
      have e1 := Int.emod_lt_of_pos (x / m) (b := (l.length : Int)) (by omega)
      have hat3 := atI_in (xs := l) e0 e1
      generalize hcc : l[(x / m % (l.length : Int)).toNat]'(by omega) = c at hat3
      have hcm : c ∈ l := hcc ▸ List.getElem_mem _
      simp only [List.map_cons, List.map_nil] at hat2
      have hsz : 3 ≤ sizeLine := size_le (by decide)
      simp (disch := first | omega | (simp; done) | (simp; omega)) [hat, hat2, hat3, hsz, hl0]
      refine ⟨by omega, ?_⟩
      rintro d (h | rfl)
      · exact hc d h
      · exact hcm
    · rintro _ ⟨w, o, rfl, hw, hc⟩
      have hw' : w.length = size.toNat := by rw [hw]; simp; try omega
      simp
      exact ⟨hw', hc⟩
  · rintro _ ⟨w, o, rfl, hw, hc⟩
    simp
    exact ⟨hw, hc⟩
end W_k01

namespace W_k01
open PySem PySem.Spec PyProof.Rows L2 FL
/-! ### the verdict of an own walk, on lists of letters -/
/-- a move's name -/
def mv (m : Nat) : D := match m with
  | 0 => .str "xy" | 1 => .str "xz" | 2 => .str "ty" | _ => .str "tz"
def wovenD : D := .tup [.str "woven"]
def refD (at' : Nat) (why : Str) : D := .tup [.str "refused", .int at', .str why]
def stp (n : Nat) (a b : List Nat) (k : List Nat → List Nat → D) : D := match a, b with
  | [], _ => refD n "end"
  | _, [] => refD n "end"
  | c :: a, d :: b => if c = d then k a b else refD n "unlike"
def vd (n : Nat) (x y z t : List Nat) : List Nat → D
  | [] => if x = [] ∧ y = [] ∧ z = [] ∧ t = [] then wovenD else refD n "left"
  | m :: ms => match m with
    | 0 => stp n x y fun x y => vd (n + 1) x y z t ms
    | 1 => stp n x z fun x z => vd (n + 1) x y z t ms
    | 2 => stp n t y fun t y => vd (n + 1) x y z t ms
    | _ => stp n t z fun t z => vd (n + 1) x y z t ms
theorem ref_ne (n : Nat) (w : Str) : refD n w ≠ wovenD := by simp [refD, wovenD]
theorem stp_woven {n : Nat} {a b : List Nat} {k : List Nat → List Nat → D} (h : stp n a b k = wovenD) : ∃ c a' b', a = c :: a' ∧ b = c :: b' ∧ k a' b' = wovenD := by
  unfold stp at h
  split at h
  · exact absurd h (ref_ne _ _)
  · exact absurd h (ref_ne _ _)
  · split at h
    · rename_i e; subst e; exact ⟨_, _, _, rfl, rfl, h⟩
    · exact absurd h (ref_ne _ _)
theorem stp_cons (n : Nat) (c : Nat) (a b : List Nat) (k : List Nat → List Nat → D) : stp n (c :: a) (c :: b) k = k a b := by simp [stp]
def addx (m c : Nat) (x : List Nat) : List Nat := if m = 0 ∨ m = 1 then x ++ [c] else x
def addy (m c : Nat) (x : List Nat) : List Nat := if m = 0 ∨ m = 2 then x ++ [c] else x
def addz (m c : Nat) (x : List Nat) : List Nat := if m = 1 ∨ m = 3 then x ++ [c] else x
def addt (m c : Nat) (x : List Nat) : List Nat := if m = 2 ∨ m = 3 then x ++ [c] else x
theorem vd_snoc (m c : Nat) (hm : m < 4) : ∀ (ms : List Nat) (n : Nat) (x y z t : List Nat), vd n x y z t ms = wovenD → vd n (addx m c x) (addy m c y) (addz m c z) (addt m c t) (ms ++ [m]) = wovenD
  | [], n, x, y, z, t, h => by
    unfold vd at h
    split at h
    · rename_i e
      obtain ⟨rfl, rfl, rfl, rfl⟩ := e
      have hm' : m = 0 ∨ m = 1 ∨ m = 2 ∨ m = 3 := by omega
      rcases hm' with rfl | rfl | rfl | rfl <;> simp [vd, stp, addx, addy, addz, addt]
    · exact absurd h (ref_ne _ _)
  | k :: ms, n, x, y, z, t, h => by
    have hm' : m = 0 ∨ m = 1 ∨ m = 2 ∨ m = 3 := by omega
    have ih := vd_snoc m c hm ms (n + 1)
    have hc : ∀ (e : Nat) (l : List Nat), (addx m c (e :: l) = e :: addx m c l) ∧ (addy m c (e :: l) = e :: addy m c l) ∧ (addz m c (e :: l) = e :: addz m c l) ∧ (addt m c (e :: l) = e :: addt m c l) := by
      intro e l
      rcases hm' with rfl | rfl | rfl | rfl <;> simp [addx, addy, addz, addt]
    unfold vd at h
    rw [List.cons_append]
    unfold vd
    split at h <;> (obtain ⟨e, a, b, rfl, rfl, q⟩ := stp_woven h; simp only [hc, stp_cons]; exact ih _ _ _ _ q)
/-- four words as a list of texts -/
abbrev ws (x y z t : List Nat) : List D := [.str (S x), .str (S y), .str (S z), .str (S t)]
abbrev oW (x y z t : List Nat) : Option T := some (.lst [.sh (.str (S x)), .sh (.str (S y)), .sh (.str (S z)), .sh (.str (S t))])
abbrev oM (ms : List Nat) : Option T := some (.lst (ms.map fun m => .sh (mv m)))
theorem woven_ok (xs : List Int) (hx : xs.length = 40) (many : Int) (h0 : 0 ≤ many) (h1 : many ≤ 40) (l : List Nat) (hl : l ≠ []) (h26 : l.length ≤ 26) :
    ∃ d, m__law_woven [.lst (xs.map .int), .int many, .str (S l)] = .ok d ∧ ∃ x y z t ms, d = .tup [.lst (ws x y z t), .lst (ms.map mv)] ∧ vd 0 x y z t ms = wovenD ∧ (∀ m ∈ ms, m < 4) ∧ ms.length ≤ 40 ∧ (x.length ≤ 40 ∧ y.length ≤ 40 ∧ z.length ≤ 40 ∧ t.length ≤ 40) ∧ (∀ c ∈ x ++ y ++ z ++ t, c ∈ l) := by
  refine mirP_v _ rfl fun Q hQ => ?_
  unfold b__law_woven
  simp only [startE, List.map, List.length, List.replicate, List.cons_append, List.nil_append]
  refine seq_v (fun ρ => ρ = [dD (.lst (xs.map .int)), iI many, sS l, oW [] [] [] [], none, none, none, none, none, none]) (fun Q1 h => ?_) ?_
  · simp [h]
  rintro _ rfl
  refine seq_v (fun ρ => ρ = [dD (.lst (xs.map .int)), iI many, sS l, oW [] [] [] [], oM [], none, none, none, none, none]) (fun Q1 h => ?_) ?_
  · simp [h]
  rintro _ rfl
  refine seq_v (fun ρ => ∃ x y z t ms o1 o2 o3 o4 o5, ρ = [dD (.lst (xs.map .int)), iI many, sS l, oW x y z t, oM ms, o1, o2, o3, o4, o5] ∧ vd 0 x y z t ms = wovenD ∧ (∀ m ∈ ms, m < 4) ∧ ms.length ≤ 40 ∧ (x.length ≤ 40 ∧ y.length ≤ 40 ∧ z.length ≤ 40 ∧ t.length ≤ 40) ∧ (∀ c ∈ x ++ y ++ z ++ t, c ∈ l)) (fun Q1 hQ1 => ?_) ?_
  · have r1 : rOk many := by unfold rOk; omega
    simp [r1]
    refine range_v (fun n ρ => ∃ x y z t ms o1 o2 o3 o4 o5, ρ = [dD (.lst (xs.map .int)), iI many, sS l, oW x y z t, oM ms, o1, o2, o3, o4, o5] ∧ vd 0 x y z t ms = wovenD ∧ (∀ m ∈ ms, m < 4) ∧ ms.length ≤ n ∧ (x.length ≤ n ∧ y.length ≤ n ∧ z.length ≤ n ∧ t.length ≤ n) ∧ (∀ c ∈ x ++ y ++ z ++ t, c ∈ l)) ⟨[], [], [], [], [], none, none, none, none, none, rfl, rfl, by simp⟩ ?_ ?_
    · rintro i _ hi ⟨x, y, z, t, ms, o1, o2, o3, o4, o5, rfl, hv, hm, hml, hw, hc⟩ Q2 hQ2
      refine ⟨by simp, ?_⟩
      simp only [List.set]
      obtain ⟨a, ham, hat⟩ := atI_ex D.int (xs := xs) (i := (i : Int) % 40) (by omega) (by omega)
      obtain ⟨b, hb, hat2⟩ := atI_ex D.int (xs := [1, 101, 10007]) (i := (i : Int) / 40 % 3) (by omega) (by simp; omega)
      have hm0 : 0 < b ∧ b < 2 ^ 64 := by
        simp at hb
        omega
      have hl0 : 0 < l.length := List.length_pos_iff.mpr hl
      simp only [List.map_cons, List.map_nil] at hat2
      refine seq_v (fun ρ => ∃ q : Int, ρ = [dD (.lst (xs.map .int)), iI many, sS l, oW x y z t, oM ms, iI i, iI q, o3, o4, o5]) (fun Q3 hQ3 => ?_) ?_
      · simp (disch := first | omega | (simp; done) | (simp; omega)) [hat, hat2]
        exact hQ3 _ ⟨_, rfl⟩
      rintro _ ⟨q, rfl⟩
      have e0 := Int.emod_nonneg (q / 4) (b := (l.length : Int)) (by omega)
      have e1 := Int.emod_lt_of_pos (q / 4) (b := (l.length : Int)) (by omega)
      have hat3 := atI_in (xs := l) e0 e1
      generalize hcc : l[(q / 4 % (l.length : Int)).toNat]'(by omega) = c at hat3
      have hcm : c ∈ l := hcc ▸ List.getElem_mem _
      obtain ⟨m, hm4, hqm⟩ : ∃ m : Nat, m < 4 ∧ q % 4 = m := ⟨(q % 4).toNat, by omega, by omega⟩
      have hv' := vd_snoc m c hm4 ms 0 x y z t hv
      have fin : ∀ x' y' z' t' : List Nat, (x' = addx m c x ∧ y' = addy m c y ∧ z' = addz m c z ∧ t' = addt m c t) → Q2 [dD (.lst (xs.map .int)), iI many, sS l, oW x' y' z' t', oM (ms ++ [m]), iI i, iI q, iI (if m < 2 then 0 else 3), iI (if m % 2 = 0 then 1 else 2), sS [c]] := by
        rintro _ _ _ _ ⟨rfl, rfl, rfl, rfl⟩
        refine hQ2 _ ⟨_, _, _, _, _, _, _, _, _, _, rfl, hv', ?_, by simp; omega, ?_, ?_⟩
        · intro k hk
          rcases List.mem_append.mp hk with h | h
          · exact hm k h
          · rw [List.mem_singleton.mp h]; exact hm4
        · simp only [addx, addy, addz, addt]
          (repeat' split) <;> (try simp only [List.length_append, List.length_singleton]) <;> omega
        · intro k hk
          simp only [List.mem_append, addx, addy, addz, addt] at hk hc
          have : (k ∈ x ∨ k ∈ y ∨ k ∈ z ∨ k ∈ t) ∨ k = c := by
            (repeat' split at hk) <;> grind
          rcases this with h | rfl
          · exact hc k (by grind)
          · exact hcm
      clear hv hc hm hx ham hat hb hat2 hl h26 hQ2 hv'
      have hm' : m = 0 ∨ m = 1 ∨ m = 2 ∨ m = 3 := by omega
      rcases hm' with rfl | rfl | rfl | rfl
      · have hqm' : q % 4 = 0 := by omega
        have f := fin (x ++ [c]) (y ++ [c]) z t (by simp [addx, addy, addz, addt])
        clear fin
        simp [mv, oM] at f
        simp (disch := first | omega | (simp; done) | (simp; omega)) [hqm', hat3, hl0]
        exact f
      · have hqm' : q % 4 = 1 := by omega
        have f := fin (x ++ [c]) y (z ++ [c]) t (by simp [addx, addy, addz, addt])
        clear fin
        simp [mv, oM] at f
        simp (disch := first | omega | (simp; done) | (simp; omega)) [hqm', hat3, hl0]
        exact f
      · have hqm' : q % 4 = 2 := by omega
        have f := fin x (y ++ [c]) z (t ++ [c]) (by simp [addx, addy, addz, addt])
        clear fin
        simp [mv, oM] at f
        simp (disch := first | omega | (simp; done) | (simp; omega)) [hqm', hat3, hl0]
        exact f
      · have hqm' : q % 4 = 3 := by omega
        have f := fin x y (z ++ [c]) (t ++ [c]) (by simp [addx, addy, addz, addt])
        clear fin
        simp [mv, oM] at f
        simp (disch := first | omega | (simp; done) | (simp; omega)) [hqm', hat3, hl0]
        exact f
    · rintro _ ⟨x, y, z, t, ms, o1, o2, o3, o4, o5, rfl, hv, hm, hml, hw, hc⟩
      exact hQ1 _ ⟨x, y, z, t, ms, o1, o2, o3, o4, o5, rfl, hv, hm, by omega, by omega, hc⟩
  · rintro _ ⟨x, y, z, t, ms, o1, o2, o3, o4, o5, rfl, hv, hm, hml, hw, hc⟩
    simp
    exact hQ _ ⟨x, y, z, t, ms, rfl, hv, hm, hml, hw, hc⟩
end W_k01

namespace W_k01
open PySem PySem.Spec PyProof.Rows L2 FL
/-- the sides of a move -/
def pa (m : Nat) : Nat := if m < 2 then 0 else 3
def pb (m : Nat) : Nat := if m % 2 = 0 then 1 else 2
theorem mv_index (m : Nat) (hm : m < 4) : D.lindex (.lst [.str "xy", .str "xz", .str "ty", .str "tz"]) [mv m] = some (.int m) := by
  have hm' : m = 0 ∨ m = 1 ∨ m = 2 ∨ m = 3 := by omega
  rcases hm' with rfl | rfl | rfl | rfl <;> rfl
theorem mv_pair (m : Nat) (hm : m < 4) : L2.atI [D.tup [.int 0, .int 1], .tup [.int 0, .int 2], .tup [.int 3, .int 1], .tup [.int 3, .int 2]] (m : Int) = some (.tup [.int (pa m), .int (pb m)]) := by
  have hm' : m = 0 ∨ m = 1 ∨ m = 2 ∨ m = 3 := by omega
  rcases hm' with rfl | rfl | rfl | rfl <;> rfl
/-- a step of the walk, by place -/
theorem vd_cons (n : Nat) (w : List (List Nat)) (hw : w.length = 4) (m : Nat) (hm : m < 4) (ms : List Nat) : ∃ a b, w[pa m]? = some a ∧ w[pb m]? = some b := by
  have hm' : m = 0 ∨ m = 1 ∨ m = 2 ∨ m = 3 := by omega
  exact ⟨w[pa m]'(by unfold pa; split <;> omega), w[pb m]'(by unfold pb; split <;> omega), List.getElem?_eq_getElem _, List.getElem?_eq_getElem _⟩
/-- the verdict, words by place -/
def vdw (n : Nat) (w : List (List Nat)) : List Nat → D
  | [] => if w = [[], [], [], []] then wovenD else refD n "left"
  | m :: ms => match w[pa m]?, w[pb m]? with
    | some (c :: a), some (d :: b) => if c = d then vdw (n + 1) ((w.set (pa m) a).set (pb m) b) ms else refD n "unlike"
    | _, _ => refD n "end"
theorem vdw_eq : ∀ (ms : List Nat) (n : Nat) (x y z t : List Nat), (∀ m ∈ ms, m < 4) → vdw n [x, y, z, t] ms = vd n x y z t ms
  | [], n, x, y, z, t, _ => by simp [vdw, vd]
  | m :: ms, n, x, y, z, t, h => by
    have hm := h m (by simp)
    have ih := fun n x y z t => vdw_eq ms n x y z t fun k hk => h k (by simp [hk])
    have hm' : m = 0 ∨ m = 1 ∨ m = 2 ∨ m = 3 := by omega
    unfold vdw vd
    rcases hm' with rfl | rfl | rfl | rfl <;> simp [pa, pb, stp, ih]
    · cases x <;> cases y <;> simp
    · cases x <;> cases z <;> simp
    · cases t <;> cases y <;> simp
    · cases t <;> cases z <;> simp
abbrev oL (w : List (List Nat)) : Option T := some (.lst (w.map fun a => .sh (.str (S a))))
end W_k01

namespace W_k01
open PySem PySem.Spec PyProof.Rows L2 FL
theorem law_judged_ok (w : List (List Nat)) (h4 : w.length = 4) (ms : List Nat) (hm : ∀ m ∈ ms, m < 4) (hl : ms.length ≤ 1000) :
    ∃ d, m__law_judged [.lst (w.map fun a => .str (S a)), .lst (ms.map mv)] = .ok d ∧ d = vdw 0 w ms := by
  generalize hv0 : vdw 0 w ms = v0
  refine mirP_v _ rfl fun Q hQ => ?_
  unfold b__law_judged
  simp only [startE, List.map, List.length, List.replicate, List.cons_append, List.nil_append]
  refine seq_v (fun ρ => ρ = [dD (.lst (w.map fun a => .str (S a))), dD (.lst (ms.map mv)), oL w, none, none, none]) (fun Q1 h => ?_) ?_
  · simp [-sign_S]
    exact h _ rfl
  rintro _ rfl
  refine seq_v (fun ρ => ∃ w' o1 o2 o3, ρ = [dD (.lst (w.map fun a => .str (S a))), dD (.lst (ms.map mv)), oL w', o1, o2, o3] ∧ w'.length = 4 ∧ v0 = vdw ms.length w' []) (fun Q1 hQ1 => ?_) ?_
  · have r1 : rOk (ms.length : Int) := by unfold rOk; omega
    simp [r1]
    refine range_v (fun n ρ => ∃ w' o1 o2 o3, ρ = [dD (.lst (w.map fun a => .str (S a))), dD (.lst (ms.map mv)), oL w', o1, o2, o3] ∧ w'.length = 4 ∧ v0 = vdw n w' (ms.drop n)) ⟨w, _, _, _, rfl, h4, hv0.symm⟩ ?_ ?_
    · rintro i _ hi ⟨w', o1, o2, o3, rfl, h4', hv⟩ Q2 hQ2
      refine ⟨by simp, ?_⟩
      simp only [List.set]
      obtain ⟨m, hm0, hmi⟩ : ∃ m, ms[i]? = some m ∧ m < 4 := ⟨ms[i], List.getElem?_eq_getElem _, hm _ (List.getElem_mem _)⟩
      have hdrop : ms.drop i = m :: ms.drop (i + 1) := by
        rw [List.drop_eq_getElem_cons hi]
        congr 1
        rw [List.getElem?_eq_getElem hi] at hm0
        exact Option.some.inj hm0
      have hat : L2.atI (ms.map mv) (i : Int) = some (mv m) := by rw [atI_n, List.getElem?_map, hm0]; rfl
      refine seq_v (fun ρ => ρ = [dD (.lst (w.map fun a => .str (S a))), dD (.lst (ms.map mv)), oL w', iI i, iI (pa m), iI (pb m)]) (fun Q3 hQ3 => ?_) ?_
      · simp [hat, mv_index m hmi, mv_pair m hmi]
        exact hQ3 _ rfl
      rintro _ rfl
      obtain ⟨a, b, ha, hb⟩ := vd_cons i w' h4' m hmi []
      have pab : pa m ≠ pb m := by unfold pa pb; split <;> split <;> omega
      have pa4 : pa m < 4 := by unfold pa; split <;> omega
      have pb4 : pb m < 4 := by unfold pb; split <;> omega
      have hata : L2.atI (w'.map fun a => D.str (S a)) (pa m : Int) = some (.str (S a)) := by rw [atI_n, List.getElem?_map, ha]; rfl
      have hatb : L2.atI (w'.map fun a => D.str (S a)) (pb m : Int) = some (.str (S b)) := by rw [atI_n, List.getElem?_map, hb]; rfl
      rw [hdrop] at hv
      unfold vdw at hv
      rw [ha, hb] at hv
      have hix : ∀ k : Nat, k < 4 → L2.ixN 4 (k : Int) = some k := fun k hk => by rw [ixN_n, if_pos hk]
      have fin : ∀ c a' d b', a = c :: a' → b = d :: b' → c = d → Q2 [dD (.lst (w.map fun a => .str (S a))), dD (.lst (ms.map mv)), oL ((w'.set (pa m) a').set (pb m) b'), iI i, iI (pa m), iI (pb m)] := by
        rintro c a' d b' rfl rfl rfl
        exact hQ2 _ ⟨_, _, _, _, rfl, by simp [h4'], by simpa using hv⟩
      have ret1 : (a = [] ∨ b = []) → Q (.tup [.str "refused", .int i, .str "end"]) := by
        intro h
        rcases a with _ | ⟨c, a⟩
        · exact hQ _ (by rw [hv]; rfl)
        · rcases b with _ | ⟨d, b⟩
          · exact hQ _ (by rw [hv]; rfl)
          · simp at h
      have ret2 : ∀ c a' d b', a = c :: a' → b = d :: b' → c ≠ d → Q (.tup [.str "refused", .int i, .str "unlike"]) := by
        rintro c a' d b' rfl rfl h
        exact hQ _ (by rw [hv]; simp [h, refD])
      have hwl : (w'.map fun a => T.sh (.str (S a))).length = 4 := by simp [h4']
      have hgo : T.d.go (w'.map fun a => T.sh (.str (S a))) = w'.map fun a => D.str (S a) := go_map _ _
      have hga : (w'.map fun a => T.sh (.str (S a)))[pa m]? = some (.sh (.str (S a))) := by rw [List.getElem?_map, ha]; rfl
      have hb2 : ∀ a' : List Nat, (w'.set (pa m) a')[pb m]? = some b := fun a' => by rw [List.getElem?_set_ne pab, hb]
      have hgb : ∀ a', ((w'.set (pa m) a').map fun a => T.sh (.str (S a)))[pb m]? = some (.sh (.str (S b))) := fun a' => by rw [List.getElem?_map, hb2]; rfl
      have hatb2 : ∀ a', L2.atI ((w'.set (pa m) a').map fun a => D.str (S a)) (pb m : Int) = some (.str (S b)) := fun a' => by rw [atI_n, List.getElem?_map, hb2]; rfl
      have hset : ∀ (v : List (List Nat)) (k : Nat) (a' : List Nat), (v.map fun a => T.sh (.str (S a))).set k (.sh (.str (S a'))) = (v.set k a').map fun a => T.sh (.str (S a)) := fun v k a' => by rw [List.map_set]
      have hae : ∀ h, w'[pa m]'h = a := fun h => by rw [List.getElem?_eq_getElem h] at ha; exact Option.some.inj ha
      have hbe : ∀ a' h, (w'.set (pa m) a')[pb m]'h = b := fun a' h => by have := hb2 a'; rw [List.getElem?_eq_getElem h] at this; exact Option.some.inj this
      clear hv hm0 hdrop hat hQ2 hQ1 hQ ha hb
      rcases a with _ | ⟨c, a⟩
      · simp [hata, ret1]
      rcases b with _ | ⟨d, b⟩
      · simp [hata, hatb, ret1]
      by_cases hcd : c = d
      · subst hcd
        have f := fin c a c b rfl rfl rfl
        simp [hata, hatb, hix, hwl, hgo, hae, hbe, hatb2, hset, pa4, pb4, h4', -List.map_set]
        exact f
      · have r := ret2 c a d b rfl rfl hcd
        simp [hata, hatb, hcd, r]
    · rintro _ ⟨w', o1, o2, o3, rfl, h4', hv⟩
      rw [List.drop_length] at hv
      exact hQ1 _ ⟨w', o1, o2, o3, rfl, h4', hv⟩
  · rintro _ ⟨w', o1, o2, o3, rfl, h4', hv⟩
    obtain ⟨x, y, z, t, rfl⟩ : ∃ x y z t, w' = [x, y, z, t] := by
      match w', h4' with
      | [x, y, z, t], _ => exact ⟨x, y, z, t, rfl⟩
    have r := hQ _ hv.symm
    by_cases hw : x = [] ∧ y = [] ∧ z = [] ∧ t = []
    · obtain ⟨rfl, rfl, rfl, rfl⟩ := hw
      simp [ne_ap, eqb_lst, cmpOk_lst]
      simpa [vdw, wovenD] using r
    · simp [ne_ap, eqb_lst, cmpOk_lst]
      refine ⟨fun h => ?_, fun a b c d => absurd ⟨a, b, c, d⟩ hw⟩
      simpa [vdw, hw, refD] using r
end W_k01

namespace W_k01
open PySem PySem.Spec PyProof.Rows L2 FL
theorem mvS0 : Str.ofString "xy" = S [120, 121] := by decide +kernel
theorem mvS1 : Str.ofString "xz" = S [120, 122] := by decide +kernel
theorem mvS2 : Str.ofString "ty" = S [116, 121] := by decide +kernel
theorem mvS3 : Str.ofString "tz" = S [116, 122] := by decide +kernel
theorem plS : c_PLACES = .str (S [120, 121, 122, 116]) := congrArg D.str (by decide +kernel)
theorem isTy_places : D.isTy "str" c_PLACES = true := rfl
theorem sindex_of {x y : Str} {i : Nat} {is : List Nat} (h : Builtin.Str.occurrences x y 0 x.length 1 = i :: is) : D.sindex (.str x) [.str y] = some (.int i) := by
  simp only [D.sindex, h]
theorem mv_places (m : Nat) (hm : m < 4) : ∃ d e, D.ix (mv m) (.int 0) = some d ∧ D.ix (mv m) (.int 1) = some e ∧ D.sindex c_PLACES [d] = some (.int (pa m)) ∧ D.sindex c_PLACES [e] = some (.int (pb m)) := by
  have hm' : m = 0 ∨ m = 1 ∨ m = 2 ∨ m = 3 := by omega
  rw [plS]
  rcases hm' with rfl | rfl | rfl | rfl
  · exact ⟨.str (S [120]), .str (S [121]), by simp [mv, mvS0], by simp [mv, mvS0], sindex_of (is := []) (by decide +kernel), sindex_of (is := []) (by decide +kernel)⟩
  · exact ⟨.str (S [120]), .str (S [122]), by simp [mv, mvS1], by simp [mv, mvS1], sindex_of (is := []) (by decide +kernel), sindex_of (is := []) (by decide +kernel)⟩
  · exact ⟨.str (S [116]), .str (S [121]), by simp [mv, mvS2], by simp [mv, mvS2], sindex_of (is := []) (by decide +kernel), sindex_of (is := []) (by decide +kernel)⟩
  · exact ⟨.str (S [116]), .str (S [122]), by simp [mv, mvS3], by simp [mv, mvS3], sindex_of (is := []) (by decide +kernel), sindex_of (is := []) (by decide +kernel)⟩
abbrev oN (tk : List Nat) : Option T := some (.lst (tk.map fun (k : Nat) => .sh (.int (k : Int))))
abbrev rest (w : List (List Nat)) (tk : List Nat) : List (List Nat) := List.zipWith (fun a k => a.drop k) w tk
theorem rest_set {w : List (List Nat)} {tk : List Nat} {p : Nat} {a : List Nat} (k : Nat) (ha : w[p]? = some a) : rest w (tk.set p k) = (rest w tk).set p (a.drop k) := by
  apply List.ext_getElem?
  intro j
  by_cases hj : p = j
  · subst hj
    have hw : p < w.length := (List.getElem?_eq_some_iff.mp ha).1
    by_cases hp : p < tk.length
    · have e : w[p] = a := by rw [List.getElem?_eq_getElem hw] at ha; exact Option.some.inj ha
      simp [rest, List.getElem?_zipWith, List.getElem?_set, hp, hw, e]
      omega
    · simp [rest, List.getElem?_zipWith, List.getElem?_set, ha, hp]
      omega
  · simp [rest, List.getElem?_zipWith, List.getElem?_set, hj]
theorem raw_judged_ok (w : List (List Nat)) (h4 : w.length = 4) (hw : ∀ a ∈ w, a.length ≤ 1000) (ms : List Nat) (hm : ∀ m ∈ ms, m < 4) (hl : ms.length ≤ 1000) :
    ∃ d, m_raw_judged [.lst (w.map fun a => .str (S a)), .tup (ms.map mv)] = .ok d ∧ d = vdw 0 w ms := by
  generalize hv0 : vdw 0 w ms = v0
  refine mirP_v _ rfl fun Q hQ => ?_
  unfold b_raw_judged
  simp only [startE, List.map, List.length, List.replicate, List.cons_append, List.nil_append]
  refine seq_v (fun ρ => ρ = [dD (.lst (w.map fun a => .str (S a))), dD (.tup (ms.map mv)), oN [0, 0, 0, 0], none, none, none, none, none]) (fun Q1 h => ?_) ?_
  · simp
    exact h _ (by simp)
  rintro _ rfl
  refine seq_v (fun ρ => ∃ tk o1 o2 o3 o4, ρ = [dD (.lst (w.map fun a => .str (S a))), dD (.tup (ms.map mv)), oN tk, o1, o2, o3, o4, none] ∧ tk.length = 4 ∧ (∀ (j : Nat) (a : List Nat) (k : Nat), w[j]? = some a → tk[j]? = some k → k ≤ a.length) ∧ v0 = vdw ms.length (rest w tk) []) (fun Q1 hQ1 => ?_) ?_
  · simp
    refine for_v (fun n ρ => ∃ tk o1 o2 o3 o4, ρ = [dD (.lst (w.map fun a => .str (S a))), dD (.tup (ms.map mv)), oN tk, o1, o2, o3, o4, none] ∧ tk.length = 4 ∧ (∀ (j : Nat) (a : List Nat) (k : Nat), w[j]? = some a → tk[j]? = some k → k ≤ a.length) ∧ v0 = vdw n (rest w tk) (ms.drop n)) ⟨[0, 0, 0, 0], _, _, _, _, rfl, rfl, ?_, ?_⟩ ?_ ?_
    · intro j a k _ hk
      match j, hk with
      | 0, hk => simp at hk; omega
      | 1, hk => simp at hk; omega
      | 2, hk => simp at hk; omega
      | 3, hk => simp at hk; omega
    · have e : rest w [0, 0, 0, 0] = w := by
        match w, h4 with
        | [x, y, z, t], _ => simp [rest]
      rw [e]
      exact hv0.symm
    · rintro i d _ hd ⟨tk, o1, o2, o3, o4, rfl, ht4, htk, hv⟩ Q2 hQ2
      rw [enumFrom_get, List.getElem?_map] at hd
      obtain ⟨m, hm0, rfl⟩ : ∃ m, ms[i]? = some m ∧ d = .tup [.int i, mv m] := by
        cases e : ms[i]? with
        | none => rw [e] at hd; simp at hd
        | some m =>
          rw [e] at hd
          simp at hd
          exact ⟨m, rfl, hd.symm⟩
      have hi : i < ms.length := (List.getElem?_eq_some_iff.mp hm0).1
      have hmi : m < 4 := hm m (List.mem_of_getElem? hm0)
      refine ⟨[dD (.lst (w.map fun a => .str (S a))), dD (.tup (ms.map mv)), oN tk, iI i, dD (mv m), o3, o4, none], by simp, ?_⟩
      have hdrop : ms.drop i = m :: ms.drop (i + 1) := by
        rw [List.drop_eq_getElem_cons hi]
        congr 1
        rw [List.getElem?_eq_getElem hi] at hm0
        exact Option.some.inj hm0
      obtain ⟨e1, e2, he1, he2, hs1, hs2⟩ := mv_places m hmi
      refine seq_v (fun ρ => ρ = [dD (.lst (w.map fun a => .str (S a))), dD (.tup (ms.map mv)), oN tk, iI i, dD (mv m), iI (pa m), iI (pb m), none]) (fun Q3 hQ3 => ?_) ?_
      · simp [he1, he2, hs1, hs2, isTy_places]
        exact hQ3 _ rfl
      rintro _ rfl
      obtain ⟨a, b, ha, hb⟩ := vd_cons i w h4 m hmi []
      have pab : pa m ≠ pb m := by unfold pa pb; split <;> split <;> omega
      have pa4 : pa m < 4 := by unfold pa; split <;> omega
      have pb4 : pb m < 4 := by unfold pb; split <;> omega
      obtain ⟨k, hk⟩ : ∃ k, tk[pa m]? = some k := ⟨_, List.getElem?_eq_getElem (by omega)⟩
      obtain ⟨l, hl2⟩ : ∃ l, tk[pb m]? = some l := ⟨_, List.getElem?_eq_getElem (by omega)⟩
      have hka := htk _ _ _ ha hk
      have hlb := htk _ _ _ hb hl2
      have hra : (rest w tk)[pa m]? = some (a.drop k) := by rw [List.getElem?_zipWith, ha, hk]
      have hrb : (rest w tk)[pb m]? = some (b.drop l) := by rw [List.getElem?_zipWith, hb, hl2]
      have ea : L2.atI (w.map fun a => D.str (S a)) (pa m : Int) = some (.str (S a)) := by rw [atI_n, List.getElem?_map, ha]; rfl
      have eb : L2.atI (w.map fun a => D.str (S a)) (pb m : Int) = some (.str (S b)) := by rw [atI_n, List.getElem?_map, hb]; rfl
      have ek : L2.atI (tk.map fun (k : Nat) => D.int k) (pa m : Int) = some (.int k) := by rw [atI_n, List.getElem?_map, hk]; rfl
      have el : L2.atI (tk.map fun (k : Nat) => D.int k) (pb m : Int) = some (.int l) := by rw [atI_n, List.getElem?_map, hl2]; rfl
      have hix : ∀ k : Nat, k < 4 → L2.ixN 4 (k : Int) = some k := fun k hk => by rw [ixN_n, if_pos hk]
      have hset : ∀ (v : List Nat) (k : Nat) (a' : Nat), (v.map fun (k : Nat) => T.sh (.int k)).set k (.sh (.int (a' : Int))) = (v.set k a').map fun (k : Nat) => T.sh (.int k) := fun v k a' => by rw [List.map_set]
      have hset' : ∀ (v : List Nat) (k : Nat) (a' : Nat), (v.map fun (k : Nat) => T.sh (.int k)).set k (.sh (.int ((a' : Int) + 1))) = (v.set k (a' + 1)).map fun (k : Nat) => T.sh (.int k) := fun v k a' => by rw [List.map_set]; rfl
      have hke : ∀ h, tk[pa m]'h = k := fun h => by rw [List.getElem?_eq_getElem h] at hk; exact Option.some.inj hk
      have hl3 : ∀ a', (tk.set (pa m) a')[pb m]? = some l := fun a' => by rw [List.getElem?_set_ne pab, hl2]
      have hle : ∀ a' h, (tk.set (pa m) a')[pb m]'h = l := fun a' h => by have := hl3 a'; rw [List.getElem?_eq_getElem h] at this; exact Option.some.inj this
      rw [hdrop, vdw, hra, hrb] at hv
      rcases Nat.lt_or_ge k a.length with ka | ka
      · have hda : a.drop k = a[k] :: a.drop (k + 1) := List.drop_eq_getElem_cons ka
        have eac : L2.atI a (k : Int) = some a[k] := by rw [atI_n]; exact List.getElem?_eq_getElem ka
        have kne : (k : Int) ≠ a.length := by omega
        rcases Nat.lt_or_ge l b.length with lb | lb
        · have hdb : b.drop l = b[l] :: b.drop (l + 1) := List.drop_eq_getElem_cons lb
          have ebc : L2.atI b (l : Int) = some b[l] := by rw [atI_n]; exact List.getElem?_eq_getElem lb
          have lne : (l : Int) ≠ b.length := by omega
          rw [hda, hdb] at hv
          by_cases hcd : a[k] = b[l]
          · simp only [hcd, if_true] at hv
            have f := hQ2 [dD (.lst (w.map fun a => .str (S a))), dD (.tup (ms.map mv)), oN ((tk.set (pa m) (k + 1)).set (pb m) (l + 1)), iI i, dD (mv m), iI (pa m), iI (pb m), none] ⟨_, _, _, _, _, rfl, by simp [ht4], ?_, ?_⟩
            · clear hv htk hdrop hQ2 hQ1 hQ he1 he2 hs1 hs2
              simp [ea, eb, ek, el, eac, ebc, kne, lne, hcd, hix, hset, hset', hke, hle, pa4, pb4, ht4, -List.map_set]
              exact f
            · intro j x y hx hy
              rw [List.getElem?_set] at hy
              split at hy
              · rename_i h
                subst h
                rw [hb] at hx
                cases hx
                split at hy <;> cases hy
                omega
              · rw [List.getElem?_set] at hy
                split at hy
                · rename_i h
                  subst h
                  rw [ha] at hx
                  cases hx
                  split at hy <;> cases hy
                  omega
                · exact htk _ _ _ hx hy
            · rw [rest_set _ hb, rest_set _ ha]
              exact hv
          · simp only [if_neg hcd] at hv
            have r := hQ _ hv.symm
            unfold refD at r
            clear hv htk hdrop hQ2 hQ1 hQ he1 he2 hs1 hs2
            simp [ea, eb, ek, el, eac, ebc, kne, lne, hcd, r]
        · rw [hda, List.drop_eq_nil_iff.mpr lb] at hv
          have r := hQ _ hv.symm
          unfold refD at r
          have le : (l : Int) = b.length := by omega
          clear hv htk hdrop hQ2 hQ1 hQ he1 he2 hs1 hs2
          simp [ea, eb, ek, el, kne, le, r]
      · rw [List.drop_eq_nil_iff.mpr ka] at hv
        have r := hQ _ hv.symm
        unfold refD at r
        have ke : (k : Int) = a.length := by omega
        clear hv htk hdrop hQ2 hQ1 hQ he1 he2 hs1 hs2
        simp [ea, eb, ek, el, ke, r]
    · rintro _ ⟨tk, o1, o2, o3, o4, rfl, ht4, htk, hv⟩
      rw [enumFrom_length, List.length_map] at hv
      rw [List.drop_length] at hv
      exact hQ1 _ ⟨_, _, _, _, _, rfl, ht4, htk, hv⟩
  · rintro _ ⟨tk, o1, o2, o3, o4, rfl, ht4, htk, hv⟩
    have r := hQ _ hv.symm
    have hlc : lcGo (gN 7) ttYes (nOf (eB D.len (aCons (eVar 7) aNil))) [7] (w.map fun a => D.str (S a)) [dD (.lst (w.map fun a => .str (S a))), dD (.tup (ms.map mv)), oN tk, o1, o2, o3, o4, none] = .ok (((w.map fun a => D.str (S a)).filter fun _ => true).map (fun d => match d with | .str x => T.sh (.int x.length) | _ => T.sh .non), [dD (.lst (w.map fun a => .str (S a))), dD (.tup (ms.map mv)), oN tk, o1, o2, o3, o4, none]) := by
      refine lc_pure _ _ fun d hd => ?_
      obtain ⟨a, _, rfl⟩ := List.mem_map.mp hd
      refine ⟨[dD (.lst (w.map fun a => .str (S a))), dD (.tup (ms.map mv)), oN tk, o1, o2, o3, o4, sS a], by simp, by simp [ttYes_ap], fun _ => ?_, by simp⟩
      rw [nOf_ap]
      simp
    have hlc2 : ((w.map fun a => D.str (S a)).filter fun _ => true).map (fun d => match d with | .str x => T.sh (.int x.length) | _ => T.sh .non) = (w.map List.length).map fun (k : Nat) => T.sh (.int k) := by
      rw [List.filter_eq_self.mpr fun _ _ => rfl, List.map_map, List.map_map]
      exact List.map_congr_left fun a _ => by simp
    rw [hlc2] at hlc
    have hc := fun xs : List Nat => cmpOk_map (fun k : Nat => D.int k) (fun _ => ⟨rfl, rfl⟩) xs
    have he := eqs_map (fun k : Nat => D.int k) (fun a b => by rw [eqb_int]; rw [Bool.eq_iff_iff]; simp; omega) tk (w.map List.length)
    have hsame : rest w tk = [[], [], [], []] ↔ tk = w.map List.length := by
      clear hlc hlc2 he r hv
      match w, h4, tk, ht4, htk with
      | [x, y, z, t], _, [i, j, k, l], _, htk =>
        have h0 := htk 0 x i rfl rfl
        have h1 := htk 1 y j rfl rfl
        have h2 := htk 2 z k rfl rfl
        have h3 := htk 3 t l rfl rfl
        simp [rest, List.drop_eq_nil_iff]
        omega
    generalize w.map List.length = lens at hlc he hsame
    clear hlc2
    by_cases ht : tk = lens
    · rw [vdw, if_pos (hsame.mpr ht)] at r
      subst ht
      simp at he
      simp [h4, hlc, ne_ap, hc, eqb_lst, he]
      exact r
    · rw [vdw, if_neg (fun h => ht (hsame.mp h))] at r
      have he' : (tk == lens) = false := by simpa using ht
      rw [he'] at he
      simp [h4, hlc, ne_ap, hc, eqb_lst, he]
      exact r
end W_k01

namespace W_k01
open PySem PySem.Spec PyProof.Rows L2 FL
theorem letS : c_LETTERS = .str (S L26) := congrArg D.str (by decide +kernel)
theorem is_word_ok (a : List Nat) (ha : AllL a) (h : a.length ≤ 1000) : ∃ d, m_is_word [.str (S a)] = .ok d ∧ d = .bl true := by
  refine mirP_v _ rfl fun Q hQ => ?_
  unfold b_is_word
  simp only [startE, List.map, List.length, List.replicate, List.cons_append, List.nil_append]
  have hQ := hQ _ rfl
  have hlc : lcGo (gN 1) ttYes (nOf (eBin D.isin (eVar 1) (eC c_LETTERS))) [1] (a.map fun c => D.str (S [c])) [sS a, none] = .ok (((a.map fun c => D.str (S [c])).filter fun _ => true).map (fun _ => T.sh (.bl true)), [sS a, none]) := by
    refine lc_pure _ _ fun d hd => ?_
    obtain ⟨c, hc, rfl⟩ := List.mem_map.mp hd
    refine ⟨[sS a, sS [c]], by simp, by simp [ttYes_ap], fun _ => ?_, by simp⟩
    rw [nOf_ap]
    simp [letS, ha c hc]
  have h2 : (a.map fun c => D.str (S [c])).length ≤ sizeLine := size_le (by simp; omega)
  rw [List.filter_eq_self.mpr fun _ _ => rfl, List.map_map] at hlc
  have e : (a.map ((fun _ => T.sh (.bl true)) ∘ fun c => D.str (S [c]))) = (a.map fun _ => true).map (fun b => T.sh (.bl b)) := by rw [List.map_map]; rfl
  rw [e] at hlc
  have e2 : (a.map fun _ => true).all id = true := by simp
  generalize (a.map fun _ => true) = bs at hlc e2
  simp at h2
  simp [isT, hlc, h2, e2]
  exact hQ
theorem check_words_ok (x y z t : List Nat) (hx : AllL x) (hy : AllL y) (hz : AllL z) (ht : AllL t) (h : x.length ≤ 1000 ∧ y.length ≤ 1000 ∧ z.length ≤ 1000 ∧ t.length ≤ 1000) : ∃ d, m_check_words [.lst (ws x y z t)] = .ok d ∧ d = .non := by
  refine mirP_v _ rfl fun Q hQ => ?_
  unfold b_check_words
  simp only [startE, List.map, List.length, List.replicate, List.cons_append, List.nil_append]
  have hQ := hQ _ rfl
  obtain ⟨_, ex, rfl⟩ := is_word_ok x hx (by omega)
  obtain ⟨_, ey, rfl⟩ := is_word_ok y hy (by omega)
  obtain ⟨_, ez, rfl⟩ := is_word_ok z hz (by omega)
  obtain ⟨_, et, rfl⟩ := is_word_ok t ht (by omega)
  simp [forGo, ex, ey, ez, et]
  exact hQ
theorem is_weaving_ok (ms : List Nat) (hm : ∀ m ∈ ms, m < 4) (h : ms.length ≤ 1000) : ∃ d, m_is_weaving [.tup (ms.map mv)] = .ok d ∧ d = .bl true := by
  refine mirP_v _ rfl fun Q hQ => ?_
  unfold b_is_weaving
  simp only [startE, List.map, List.length, List.replicate, List.cons_append, List.nil_append]
  have hQ := hQ _ rfl
  have hlc : lcGo (gN 1) ttYes (nOf (eAnd (eB D.isinst (aCons (eVar 1) (aCons (eC (.ty "str")) (aNil)))) (eBin D.isin (eVar 1) (eC c_MOVES)))) [1] (ms.map mv) [dD (.tup (ms.map mv)), none] = .ok (((ms.map mv).filter fun _ => true).map (fun _ => T.sh (.bl true)), [dD (.tup (ms.map mv)), none]) := by
    refine lc_pure _ _ fun d hd => ?_
    obtain ⟨m, hmm, rfl⟩ := List.mem_map.mp hd
    refine ⟨[dD (.tup (ms.map mv)), dD (mv m)], by simp, by simp [ttYes_ap], fun _ => ?_, by simp⟩
    rw [nOf_ap]
    have hm4 := hm m hmm
    have hm' : m = 0 ∨ m = 1 ∨ m = 2 ∨ m = 3 := by omega
    rcases hm' with rfl | rfl | rfl | rfl <;> simp [mv, isT, c_MOVES, mvS0, mvS1, mvS2, mvS3]
  have h2 : (ms.map mv).length ≤ sizeLine := size_le (by simp; omega)
  rw [List.filter_eq_self.mpr fun _ _ => rfl, List.map_map] at hlc
  have e : (ms.map ((fun _ => T.sh (.bl true)) ∘ mv)) = (ms.map fun _ => true).map (fun b => T.sh (.bl b)) := by rw [List.map_map]; rfl
  rw [e] at hlc
  have e2 : (ms.map fun _ => true).all id = true := by simp
  generalize (ms.map fun _ => true) = bs at hlc e2
  simp at h2
  simp [isT, hlc, h2, e2]
  exact hQ
theorem check_weaving_ok (ms : List Nat) (hm : ∀ m ∈ ms, m < 4) (h : ms.length ≤ 1000) : ∃ d, m_check_weaving [.tup (ms.map mv)] = .ok d ∧ d = .non := by
  refine mirP_v _ rfl fun Q hQ => ?_
  unfold b_check_weaving
  simp only [startE, List.map, List.length, List.replicate, List.cons_append, List.nil_append]
  have hQ := hQ _ rfl
  obtain ⟨_, ex, rfl⟩ := is_weaving_ok ms hm h
  simp [ex]
  exact hQ
theorem judged_ok (x y z t : List Nat) (hx : AllL x) (hy : AllL y) (hz : AllL z) (ht : AllL t) (h : x.length ≤ 1000 ∧ y.length ≤ 1000 ∧ z.length ≤ 1000 ∧ t.length ≤ 1000) (ms : List Nat) (hm : ∀ m ∈ ms, m < 4) (hl : ms.length ≤ 1000) : ∃ d, m_judged [.str (S x), .str (S y), .str (S z), .str (S t), .tup (ms.map mv)] = .ok d ∧ d = vdw 0 [x, y, z, t] ms := by
  refine mirP_v _ rfl fun Q hQ => ?_
  unfold b_judged
  simp only [startE, List.map, List.length, List.replicate, List.cons_append, List.nil_append]
  have hQ := hQ _ rfl
  obtain ⟨_, e1, rfl⟩ := check_words_ok x y z t hx hy hz ht h
  obtain ⟨_, e2, rfl⟩ := check_weaving_ok ms hm hl
  obtain ⟨_, e3, rfl⟩ := raw_judged_ok [x, y, z, t] rfl (by simp; omega) ms hm hl
  simp only [List.map] at e3
  simp [e1, e2, e3]
  exact hQ
end W_k01

namespace W_k01
open PySem PySem.Spec PyProof.Rows L2 FL
/-! ### a thing is the same as itself, level by level -/
def kids : D → List D
  | .tup ds => ds
  | _ => []
def lev : Nat → List D → List D
  | 0, ds => ds
  | k + 1, ds => (lev k ds).flatMap kids
def okK : D → Bool
  | .tup _ => true | .int _ => true | .str _ => true | .bl _ => true | .non => true | _ => false
def pp (es : List D) : List D := es.map fun e => .tup [e, e]
theorem pp_range (ds : List D) : ((rangeD 0 ds.length).filter fun _ => true).map (fun d => match d with | .int i => T.sh (.tup [ds.getD i.toNat .non, ds.getD i.toNat .non]) | _ => T.sh .non) = (pp ds).map T.sh := by
  rw [List.filter_eq_self.mpr fun _ _ => rfl]
  apply List.ext_getElem
  · simp [pp]
  · intro i h1 h2
    simp [rangeD, pp] at h1 h2 ⊢
    simp [List.getElem?_eq_getElem h1]
theorem same_ok (d : D) (hp : ∀ k, k < 30 → ∀ e ∈ lev k [d], okK e = true) (hs : ∀ k, k ≤ 30 → (lev k [d]).length ≤ 16777216) (he : lev 30 [d] = []) : ∃ r, m__law_same [d, d] = .ok r ∧ r = .bl true := by
  refine mirP_v _ rfl fun Q hQ => ?_
  unfold b__law_same
  simp only [startE, List.map, List.length, List.replicate, List.cons_append, List.nil_append]
  have hQ := hQ _ rfl
  refine seq_v (fun ρ => ρ = [dD d, dD d, some (.lst [.sh (.tup [d, d])]), none, none, none, none, none]) (fun Q1 h => ?_) ?_
  · simp
    exact h _ rfl
  rintro _ rfl
  refine seq_v (fun ρ => ∃ o2 o3 o4 o5 o6, ρ = [dD d, dD d, o2, o3, o4, o5, o6, none] ∧ (o2 = dD (.lst (pp (lev 30 [d]))) ∨ o2 = some (.lst ((pp (lev 30 [d])).map .sh)))) (fun Q1 hQ1 => ?_) ?_
  · simp
    refine range_v (fun n ρ => ∃ o2 o3 o4 o5 o6, ρ = [dD d, dD d, o2, o3, o4, o5, o6, none] ∧ (o2 = dD (.lst (pp (lev n [d]))) ∨ o2 = some (.lst ((pp (lev n [d])).map .sh)))) ⟨_, _, _, _, _, rfl, .inr rfl⟩ ?_ ?_
    · rintro n _ hn ⟨o2, o3, o4, o5, o6, rfl, ho⟩ Q2 hQ2
      refine ⟨by simp, ?_⟩
      simp only [List.set]
      refine seq_v (fun ρ => ρ = [dD d, dD d, o2, iI n, some (.lst []), o5, o6, none]) (fun Q3 hQ3 => ?_) ?_
      · simp
        exact hQ3 _ rfl
      rintro _ rfl
      refine seq_v (fun ρ => ∃ o2 o5 o6, ρ = [dD d, dD d, o2, iI n, some (.lst ((pp (lev (n + 1) [d])).map .sh)), o5, o6, none]) (fun Q3 hQ3 => ?_) ?_
      · have hlv : (lev n [d]).length ≤ 16777216 := hs n (by omega)
        have hlv1 : (lev (n + 1) [d]).length ≤ 16777216 := hs (n + 1) (by omega)
        have hpn := hp n hn
        have e1 : lev (n + 1) [d] = (lev n [d]).flatMap kids := rfl
        rw [e1] at hlv1 hQ3
        clear hp hs he hQ2 e1
        generalize lev n [d] = es at ho hlv hlv1 hpn hQ3
        obtain ⟨o2', hse⟩ : ∃ o2', ∀ {P : Fl → Prop} {f : Env' → Res Fl}, (forGo (gT (gsCons (gN 5) (gsCons (gN 6) gsNil)) 2) f (pp es) [dD d, dD d, o2', iI n, some (.lst []), o5, o6, none]).sat P → (sFor (iSeq (eVar 2)) (gT (gsCons (gN 5) (gsCons (gN 6) gsNil)) 2) f [dD d, dD d, o2, iI n, some (.lst []), o5, o6, none]).sat P := by
          rcases ho with rfl | rfl
          · exact ⟨dD (.lst (pp es)), fun h => by simpa using h⟩
          · exact ⟨dD (.lst (pp es)), fun h => by simpa using h⟩
        refine hse ?_
        clear hse
        refine for_v (fun j ρ => ∃ o5 o6, ρ = [dD d, dD d, o2', iI n, some (.lst ((pp ((es.take j).flatMap kids)).map .sh)), o5, o6, none]) ⟨_, _, rfl⟩ ?_ ?_
        · rintro j x _ hx ⟨o5, o6, rfl⟩ Q4 hQ4
          obtain ⟨e, he, rfl⟩ : ∃ e, es[j]? = some e ∧ x = .tup [e, e] := by
            unfold pp at hx
            rw [List.getElem?_map] at hx
            cases e : es[j]? with
            | none => rw [e] at hx; cases hx
            | some y => rw [e] at hx; cases hx; exact ⟨y, rfl, rfl⟩
          refine ⟨[dD d, dD d, o2', iI n, some (.lst ((pp ((es.take j).flatMap kids)).map .sh)), dD e, dD e, none], by simp, ?_⟩
          have hj : j < es.length := (List.getElem?_eq_some_iff.mp he).1
          have hek := hpn e (List.mem_of_getElem? he)
          have htake : es.take (j + 1) = es.take j ++ [e] := by rw [List.take_add_one, he]; rfl
          have hlen : ((es.take (j + 1)).flatMap kids).length ≤ 16777216 := by
            refine Nat.le_trans ?_ hlv1
            conv => rhs; rw [← List.take_append_drop (j + 1) es, List.flatMap_append, List.length_append]
            omega
          rw [htake, List.flatMap_append] at hlen hQ4
          generalize (es.take j).flatMap kids = bs at hlen hQ4
          cases e with
          | tup ds =>
            have f := hQ4 [dD d, dD d, o2', iI n, some (.lst ((pp (bs ++ ds)).map .sh)), dD (.tup ds), dD (.tup ds), none] ⟨dD (.tup ds), dD (.tup ds), by simp [kids]⟩
            simp [kids] at hlen
            have hlc : lcGo (gN 7) ttYes (nOf (eTup (aConsE (eBin D.ix (eVar 5) (eVar 7)) (aConsE (eBin D.ix (eVar 6) (eVar 7)) (aNil))))) [7] (rangeD 0 ds.length) [dD d, dD d, o2', iI n, some (.lst ((pp bs).map .sh)), dD (.tup ds), dD (.tup ds), none] = .ok ((pp ds).map .sh, [dD d, dD d, o2', iI n, some (.lst ((pp bs).map .sh)), dD (.tup ds), dD (.tup ds), none]) := by
              rw [← pp_range ds]
              refine lc_pure _ _ fun x hx => ?_
              obtain ⟨k, hk, rfl⟩ : ∃ k : Nat, k < ds.length ∧ x = .int k := by
                simp [rangeD] at hx
                obtain ⟨k, hk, rfl⟩ := hx
                exact ⟨k, hk, rfl⟩
              refine ⟨[dD d, dD d, o2', iI n, some (.lst ((pp bs).map .sh)), dD (.tup ds), dD (.tup ds), iI k], by simp, by simp [ttYes_ap], fun _ => ?_, by simp⟩
              rw [nOf_ap]
              simp [atI_n, List.getElem?_eq_getElem hk]
            have r1 : rOk (ds.length : Int) := by unfold rOk; omega
            have s1 : ds.length ≤ sizeLine := size_le (by omega)
            have s2 : bs.length + ds.length ≤ sizeLine := size_le (by omega)
            have pl : ∀ l, (pp l).length = l.length := fun l => by simp [pp]
            have pa : pp (bs ++ ds) = pp bs ++ pp ds := by simp [pp]
            rw [pa, List.map_append] at f
            simp [isT, hlc, r1, s1, s2, pl]
            exact f
          | _ =>
            first
            | (simp [okK] at hek; done)
            | (have f := fun a b => hQ4 [dD d, dD d, o2', iI n, some (.lst ((pp bs).map .sh)), a, b, none] ⟨a, b, by simp [kids]⟩
               simp [isT, eq_ap, ne_ap]
               exact f _ _)
        · rintro _ ⟨o5, o6, rfl⟩
          rw [show (pp es).length = es.length by simp [pp], List.take_length]
          exact hQ3 _ ⟨_, _, _, rfl⟩
      · rintro _ ⟨o2, o5, o6, rfl⟩
        simp
        exact hQ2 _ ⟨_, _, _, _, _, rfl, .inl rfl⟩
    · rintro _ ⟨o2, o3, o4, o5, o6, rfl, ho⟩
      exact hQ1 _ ⟨_, _, _, _, _, rfl, ho⟩
  · rintro _ ⟨o2, o3, o4, o5, o6, rfl, ho⟩
    rw [he] at ho
    rcases ho with rfl | rfl <;> simp [pp, eq_ap, eqb_lst, cmpOk_lst] <;> exact hQ
end W_k01

namespace W_k01
open PySem PySem.Spec PyProof.Rows L2 FL
structure Good (w : List (List Nat)) (ms : List Nat) (B : Nat) : Prop where
  four : w.length = 4
  word : ∀ a ∈ w, AllL a ∧ a.length ≤ 40
  move : ∀ m ∈ ms, m < 4
  many : ms.length ≤ B
theorem Good.mono {w ms B C} (h : Good w ms B) (q : B ≤ C) : Good w ms C := ⟨h.four, h.word, h.move, Nat.le_trans h.many q⟩
theorem Good.moves {w ms B} (ms' : List Nat) (C : Nat) (h : Good w ms B) (h1 : ∀ m ∈ ms', m < 4) (h2 : ms'.length ≤ C) : Good w ms' C := ⟨h.four, h.word, h1, h2⟩
theorem Good.set {w ms B} (s : Nat) (a : List Nat) (h : Good w ms B) (ha : AllL a) (hl : a.length ≤ 40) : Good (w.set s a) ms B :=
  ⟨by simp [h.four], fun b hb => (List.mem_or_eq_of_mem_set hb).elim (h.word b) fun e => by subst e; exact ⟨ha, hl⟩, h.move, h.many⟩
theorem changed_ok (w : List (List Nat)) (ms : List Nat) (B : Nat) (hB : B ≤ 500) (hg : Good w ms B) (number : Int) (hn : 0 ≤ number) (l : List Nat) (hl : l ≠ []) (h26 : l.length ≤ 26) (hL : AllL l) :
    ∃ d, m__law_changed [.lst (w.map fun a => .str (S a)), .lst (ms.map mv), .int number, .str (S l)] = .ok d ∧ ∃ w' ms', d = .tup [.lst (w'.map fun a => .str (S a)), .lst (ms'.map mv)] ∧ Good w' ms' (B + 1) := by
  refine mirP_v _ rfl fun Q hQ => ?_
  unfold b__law_changed
  simp only [startE, List.map, List.length, List.replicate, List.cons_append, List.nil_append]
  refine seq_v (fun ρ => ρ = [oL w, dD (.lst (ms.map mv)), iI number, sS l, none, none, none, none, none, none]) (fun Q1 h => ?_) ?_
  · simp
    exact h _ rfl
  rintro _ rfl
  refine seq_v (fun ρ => ρ = [oL w, oM ms, iI number, sS l, none, none, none, none, none, none]) (fun Q1 h => ?_) ?_
  · simp
    exact h _ rfl
  rintro _ rfl
  refine seq_v (fun ρ => ∃ way, ρ = [oL w, oM ms, iI number, sS l, iI way, none, none, none, none, none]) (fun Q1 h => ?_) ?_
  · simp
    exact h _ ⟨_, rfl⟩
  rintro _ ⟨way, rfl⟩
  refine seq_v (fun ρ => ∃ at' : Nat, ρ = [oL w, oM ms, iI number, sS l, iI way, iI at', none, none, none, none]) (fun Q1 h => ?_) ?_
  · have e0 := Int.emod_nonneg (number / 8) (b := (ms.length : Int) + 1) (by omega)
    have f := h [oL w, oM ms, iI number, sS l, iI way, iI ((number / 8 % ((ms.length : Int) + 1)).toNat : Nat), none, none, none, none] ⟨_, rfl⟩
    rw [Int.toNat_of_nonneg e0] at f
    simp (disch := first | omega | (simp; done) | (simp; omega))
    exact f
  rintro _ ⟨at', rfl⟩
  refine seq_v (fun ρ => ∃ k, k < 4 ∧ ρ = [oL w, oM ms, iI number, sS l, iI way, iI at', dD (mv k), none, none, none]) (fun Q1 h => ?_) ?_
  · obtain ⟨k, hk4, hk⟩ : ∃ k : Nat, k < 4 ∧ number / 1024 % 4 = k := ⟨(number / 1024 % 4).toNat, by omega, by omega⟩
    have f := h _ ⟨k, hk4, rfl⟩
    have e : L2.atI [D.str (Str.ofString "xy"), .str (Str.ofString "xz"), .str (Str.ofString "ty"), .str (Str.ofString "tz")] (k : Int) = some (mv k) := by
      have hm' : k = 0 ∨ k = 1 ∨ k = 2 ∨ k = 3 := by omega
      rcases hm' with rfl | rfl | rfl | rfl <;> rfl
    simp [hk, e]
    exact f
  rintro _ ⟨k, hk4, rfl⟩
  refine seq_v (fun ρ => ∃ s : Nat, s < 4 ∧ ρ = [oL w, oM ms, iI number, sS l, iI way, iI at', dD (mv k), iI s, none, none]) (fun Q1 h => ?_) ?_
  · obtain ⟨s, hk4, hk⟩ : ∃ k : Nat, k < 4 ∧ number / 4096 % 4 = k := ⟨(number / 4096 % 4).toNat, by omega, by omega⟩
    have f := h _ ⟨s, hk4, rfl⟩
    simp [hk]
    exact f
  rintro _ ⟨s, hs4, rfl⟩
  have h4 := hg.four
  refine seq_v (fun ρ => ∃ p : Nat, ρ = [oL w, oM ms, iI number, sS l, iI way, iI at', dD (mv k), iI s, iI p, none]) (fun Q1 h => ?_) ?_
  · obtain ⟨a, ha⟩ : ∃ a, w[s]? = some a := ⟨_, List.getElem?_eq_getElem (by omega)⟩
    have ea : L2.atI (w.map fun a => D.str (S a)) (s : Int) = some (.str (S a)) := by rw [atI_n, List.getElem?_map, ha]; rfl
    have e0 := Int.emod_nonneg (number / 8) (b := (a.length : Int) + 1) (by omega)
    have f := h _ ⟨(number / 8 % ((a.length : Int) + 1)).toNat, rfl⟩
    rw [Int.toNat_of_nonneg e0] at f
    simp (disch := first | omega | (simp; done) | (simp; omega)) [ea]
    exact f
  rintro _ ⟨p, rfl⟩
  refine seq_v (fun ρ => ∃ c, c ∈ L26 ∧ ρ = [oL w, oM ms, iI number, sS l, iI way, iI at', dD (mv k), iI s, iI p, sS [c]]) (fun Q1 h => ?_) ?_
  · have hl0 : 0 < l.length := List.length_pos_iff.mpr hl
    have e0 := Int.emod_nonneg (number / 16384) (b := (l.length : Int)) (by omega)
    have e1 := Int.emod_lt_of_pos (number / 16384) (b := (l.length : Int)) (by omega)
    have hat3 := atI_in (xs := l) e0 e1
    generalize hcc : l[(number / 16384 % (l.length : Int)).toNat]'(by omega) = c at hat3
    have hcm : c ∈ l := hcc ▸ List.getElem_mem _
    have f := h _ ⟨c, hL c hcm, rfl⟩
    simp (disch := first | omega | (simp; done) | (simp; omega)) [hat3, hl0]
    exact f
  rintro _ ⟨c, hc, rfl⟩
  clear h4
  have hmv : ∀ ms' : List Nat, (ms'.map mv).map T.sh = ms'.map fun m => T.sh (mv m) := fun ms' => by rw [List.map_map]; rfl
  refine seq_v (fun ρ => ∃ ms, Good w ms (B) ∧ ρ = [oL w, oM ms, iI number, sS l, iI way, iI at', dD (mv k), iI s, iI p, sS [c]]) (fun Q1 h => ?_) ?_
  · have hb := hg.many
    have same := h _ ⟨ms, hg.mono (by omega), rfl⟩
    by_cases hw : way = 0
    · have f := h _ ⟨ms.take at' ++ ms.drop (at' + 1), hg.moves _ _ (fun m hm => ?_) ?_, rfl⟩
      · clear h same
        simp only [oM, List.map_append, List.map_take, List.map_drop, List.map_set, List.map_cons, List.map_nil, List.append_assoc, List.cons_append, List.nil_append, hw] at f
        simp (disch := first | omega | (simp; done) | (simp; omega)) [hw]
        exact f
      · rcases List.mem_append.mp hm with h | h
        · exact hg.move m (List.mem_of_mem_take h)
        · exact hg.move m (List.mem_of_mem_drop h)
      · simp
        omega
    · simp [hw]
      exact same
  clear hg ms
  rintro _ ⟨ms, hg, rfl⟩
  refine seq_v (fun ρ => ∃ ms, Good w ms (B + 1) ∧ ρ = [oL w, oM ms, iI number, sS l, iI way, iI at', dD (mv k), iI s, iI p, sS [c]]) (fun Q1 h => ?_) ?_
  · have hb := hg.many
    have same := h _ ⟨ms, hg.mono (by omega), rfl⟩
    by_cases hw : way = 1
    · have f := h _ ⟨ms.take at' ++ [k] ++ ms.drop at', hg.moves _ _ (fun m hm => ?_) ?_, rfl⟩
      · clear h same
        simp only [oM, List.map_append, List.map_take, List.map_drop, List.map_set, List.map_cons, List.map_nil, List.append_assoc, List.cons_append, List.nil_append, hw] at f
        simp (disch := first | omega | (simp; done) | (simp; omega)) [hw]
        exact f
      · simp only [List.mem_append, List.mem_singleton] at hm
        rcases hm with (h | h) | h
        · exact hg.move m (List.mem_of_mem_take h)
        · omega
        · exact hg.move m (List.mem_of_mem_drop h)
      · simp
        omega
    · simp [hw]
      exact same
  clear hg ms
  rintro _ ⟨ms, hg, rfl⟩
  refine seq_v (fun ρ => ∃ ms, Good w ms (B + 1) ∧ ρ = [oL w, oM ms, iI number, sS l, iI way, iI at', dD (mv k), iI s, iI p, sS [c]]) (fun Q1 h => ?_) ?_
  · have hb := hg.many
    have same := h _ ⟨ms, hg.mono (by omega), rfl⟩
    by_cases hw : way = 2
    · by_cases hi : at' < ms.length
      · have f := h _ ⟨ms.set at' k, hg.moves _ _ (fun m hm => ?_) ?_, rfl⟩
        · clear h same
          have hi' : (at' : Int) < ms.length := by omega
          simp only [oM, List.map_append, List.map_take, List.map_drop, List.map_set, List.map_cons, List.map_nil, List.append_assoc, List.cons_append, List.nil_append, hw] at f
          simp (disch := first | omega | (simp; done) | (simp; omega)) [hw, hi', hi, ixN_n, -List.map_set]
          exact f
        · exact (List.mem_or_eq_of_mem_set hm).elim (hg.move m) fun e => by omega
        · simp
          omega
      · have hi' : ¬ (at' : Int) < ms.length := by omega
        simp [hw, hi']
        simpa [hw] using same
    · simp [hw]
      exact same
  clear hg ms
  rintro _ ⟨ms, hg, rfl⟩
  refine seq_v (fun ρ => ∃ ms, Good w ms (B + 1) ∧ ρ = [oL w, oM ms, iI number, sS l, iI way, iI at', dD (mv k), iI s, iI p, sS [c]]) (fun Q1 h => ?_) ?_
  · have hb := hg.many
    have same := h _ ⟨ms, hg.mono (by omega), rfl⟩
    by_cases hw : way = 3
    · by_cases hi : at' + 1 < ms.length
      · have f := h _ ⟨ms.take at' ++ [ms[at' + 1], ms[at']] ++ ms.drop (at' + 2), hg.moves _ _ (fun m hm => ?_) ?_, rfl⟩
        · clear h same
          have hi' : (at' : Int) + 1 < ms.length := by omega
          have x1 : L2.atI (ms.map mv) (at' : Int) = some (mv ms[at']) := by rw [atI_n, List.getElem?_map, List.getElem?_eq_getElem]; rfl
          have x2 : L2.atI (ms.map mv) ((at' : Int) + 1) = some (mv ms[at' + 1]) := by
            have := atI_n (ms.map mv) (at' + 1)
            rw [List.getElem?_map, List.getElem?_eq_getElem hi] at this
            simpa using this
          simp only [oM, List.map_append, List.map_take, List.map_drop, List.map_set, List.map_cons, List.map_nil, List.append_assoc, List.cons_append, List.nil_append, hw] at f
          simp (disch := first | omega | (simp; done) | (simp; omega)) [hw, hi', x1, x2, show ((at' : Int) + 2).toNat = at' + 2 by omega]
          exact f
        · simp only [List.mem_append, List.mem_cons, List.not_mem_nil, or_false] at hm
          rcases hm with (h | h | h) | h
          · exact hg.move m (List.mem_of_mem_take h)
          · exact hg.move m (h ▸ List.getElem_mem _)
          · exact hg.move m (h ▸ List.getElem_mem _)
          · exact hg.move m (List.mem_of_mem_drop h)
        · simp
          omega
      · have hi' : ¬ (at' : Int) + 1 < ms.length := by omega
        simp [hw, hi']
        simpa [hw] using same
    · simp [hw]
      exact same
  clear hg ms
  rintro _ ⟨ms, hg, rfl⟩
  refine seq_v (fun ρ => ∃ w, Good w ms (B + 1) ∧ ρ = [oL w, oM ms, iI number, sS l, iI way, iI at', dD (mv k), iI s, iI p, sS [c]]) (fun Q1 h => ?_) ?_
  · have hb := hg.many
    have h4 := hg.four
    have same := h _ ⟨w, hg, rfl⟩
    obtain ⟨a, ha⟩ : ∃ a, w[s]? = some a := ⟨_, List.getElem?_eq_getElem (by omega)⟩
    have ea : L2.atI (w.map fun a => D.str (S a)) (s : Int) = some (.str (S a)) := by rw [atI_n, List.getElem?_map, ha]; rfl
    obtain ⟨hA, hA40⟩ := hg.word a (List.mem_of_getElem? ha)
    have hix : L2.ixN 4 (s : Int) = some s := by rw [ixN_n, if_pos hs4]
    by_cases hw : way = 4
    · by_cases hi : p < a.length
      · have f := h _ ⟨w.set s (a.take p ++ [c] ++ a.drop (p + 1)), hg.set _ _ (((hA.take _).app (.one hc)).app (hA.drop _)) ?_, rfl⟩
        · clear h same
          have hi' : (p : Int) < a.length := by omega
          simp only [oL, List.map_set, List.append_assoc, List.cons_append, List.nil_append, hw] at f
          simp (disch := first | omega | (simp; done) | (simp; omega)) [hw, ea, hix, hs4, h4, hi']
          exact f
        · simp
          omega
      · have hi' : ¬ (p : Int) < a.length := by omega
        simp [hw, ea, hi']
        simpa [hw] using same
    · simp [hw]
      exact same
  clear hg w
  rintro _ ⟨w, hg, rfl⟩
  refine seq_v (fun ρ => ∃ w, Good w ms (B + 1) ∧ ρ = [oL w, oM ms, iI number, sS l, iI way, iI at', dD (mv k), iI s, iI p, sS [c]]) (fun Q1 h => ?_) ?_
  · have hb := hg.many
    have h4 := hg.four
    have same := h _ ⟨w, hg, rfl⟩
    obtain ⟨a, ha⟩ : ∃ a, w[s]? = some a := ⟨_, List.getElem?_eq_getElem (by omega)⟩
    have ea : L2.atI (w.map fun a => D.str (S a)) (s : Int) = some (.str (S a)) := by rw [atI_n, List.getElem?_map, ha]; rfl
    obtain ⟨hA, hA40⟩ := hg.word a (List.mem_of_getElem? ha)
    have hix : L2.ixN 4 (s : Int) = some s := by rw [ixN_n, if_pos hs4]
    by_cases hw : way = 5
    · by_cases hi : a.length < 40
      · have f := h _ ⟨w.set s (a.take p ++ [c] ++ a.drop p), hg.set _ _ (((hA.take _).app (.one hc)).app (hA.drop _)) ?_, rfl⟩
        · clear h same
          have hi' : (a.length : Int) < 40 := by omega
          simp only [oL, List.map_set, List.append_assoc, List.cons_append, List.nil_append, hw] at f
          simp (disch := first | omega | (simp; done) | (simp; omega)) [hw, ea, hix, hs4, h4, hi']
          exact f
        · simp
          omega
      · have hi' : ¬ (a.length : Int) < 40 := by omega
        simp [hw, ea, hi']
        simpa [hw] using same
    · simp [hw]
      exact same
  clear hg w
  rintro _ ⟨w, hg, rfl⟩
  refine seq_v (fun ρ => ∃ w, Good w ms (B + 1) ∧ ρ = [oL w, oM ms, iI number, sS l, iI way, iI at', dD (mv k), iI s, iI p, sS [c]]) (fun Q1 h => ?_) ?_
  · have hb := hg.many
    have h4 := hg.four
    have same := h _ ⟨w, hg, rfl⟩
    obtain ⟨a, ha⟩ : ∃ a, w[s]? = some a := ⟨_, List.getElem?_eq_getElem (by omega)⟩
    have ea : L2.atI (w.map fun a => D.str (S a)) (s : Int) = some (.str (S a)) := by rw [atI_n, List.getElem?_map, ha]; rfl
    obtain ⟨hA, hA40⟩ := hg.word a (List.mem_of_getElem? ha)
    have hix : L2.ixN 4 (s : Int) = some s := by rw [ixN_n, if_pos hs4]
    by_cases hw : way = 6
    · have f := h _ ⟨w.set s (a.take p ++ a.drop (p + 1)), hg.set _ _ ((hA.take _).app (hA.drop _)) ?_, rfl⟩
      · clear h same
        simp only [oL, List.map_set, List.append_assoc, List.cons_append, List.nil_append, hw] at f
        simp (disch := first | omega | (simp; done) | (simp; omega)) [hw, ea, hix, hs4, h4]
        exact f
      · simp
        omega
    · simp [hw]
      exact same
  clear hg w
  rintro _ ⟨w, hg, rfl⟩
  simp
  exact hQ _ ⟨w, ms, rfl, hg⟩
end W_k01

namespace W_k01
open PySem PySem.Spec PyProof.Rows L2 FL
theorem lev_flat (ds : List D) (h : ∀ e ∈ ds, kids e = []) : ∀ k, lev (k + 2) [.tup ds] = []
  | 0 => by simp [lev, kids]; exact h
  | k + 1 => by rw [lev, lev_flat ds h k]; rfl
theorem same_flat (ds : List D) (h : ∀ e ∈ ds, okK e = true ∧ kids e = []) (hl : ds.length ≤ 1000) : m__law_same [.tup ds, .tup ds] = .ok (.bl true) := by
  have h0 := lev_flat ds fun e he => (h e he).2
  have h1 : lev 1 [.tup ds] = ds := by simp [lev, kids]
  obtain ⟨_, e, rfl⟩ := same_ok (.tup ds) (fun k hk e he => by
    match k, he with
    | 0, he => simp [lev] at he; subst he; rfl
    | 1, he => rw [h1] at he; exact (h e he).1
    | k + 2, he => rw [h0] at he; cases he) (fun k hk => by
    match k with
    | 0 => simp [lev]
    | 1 => rw [h1]; omega
    | k + 2 => rw [h0]; simp) (h0 28)
  exact e
theorem vdw_flat : ∀ (ms : List Nat) (n : Nat) (w : List (List Nat)), vdw n w ms = wovenD ∨ ∃ i why, vdw n w ms = refD i why
  | [], n, w => by
    unfold vdw
    split
    · exact .inl rfl
    · exact .inr ⟨_, _, rfl⟩
  | m :: ms, n, w => by
    unfold vdw
    split
    · split
      · exact vdw_flat ms _ _
      · exact .inr ⟨_, _, rfl⟩
    · exact .inr ⟨_, _, rfl⟩
theorem same_vdw (n : Nat) (w : List (List Nat)) (ms : List Nat) : m__law_same [vdw n w ms, vdw n w ms] = .ok (.bl true) := by
  rcases vdw_flat ms n w with e | ⟨i, why, e⟩
  · rw [e]
    exact same_flat _ (by simp [okK, kids]) (by simp)
  · rw [e]
    exact same_flat _ (by simp [okK, kids]) (by simp)
theorem four {α : Type} {w : List α} (h : w.length = 4) : ∃ x y z t, w = [x, y, z, t] := by
  match w, h with
  | [x, y, z, t], _ => exact ⟨x, y, z, t, rfl⟩
/-- the verdicts agree at any good words and moves -/
theorem judge2 {w : List (List Nat)} {ms : List Nat} {B : Nat} (hg : Good w ms B) (hB : B ≤ 1000) : ∃ x y z t d, (w.map fun a => D.str (S a)) = [.str (S x), .str (S y), .str (S z), .str (S t)] ∧ m_judged [.str (S x), .str (S y), .str (S z), .str (S t), .tup (ms.map mv)] = .ok d ∧ m__law_judged [.lst [.str (S x), .str (S y), .str (S z), .str (S t)], .lst (ms.map mv)] = .ok d ∧ m__law_same [d, d] = .ok (.bl true) := by
  obtain ⟨x, y, z, t, rfl⟩ := four hg.four
  have hx := hg.word x (by simp)
  have hy := hg.word y (by simp)
  have hz := hg.word z (by simp)
  have ht := hg.word t (by simp)
  obtain ⟨_, e1, rfl⟩ := judged_ok x y z t hx.1 hy.1 hz.1 ht.1 (by omega) ms hg.move (Nat.le_trans hg.many hB)
  obtain ⟨_, e2, rfl⟩ := law_judged_ok [x, y, z, t] rfl ms hg.move (Nat.le_trans hg.many hB)
  exact ⟨x, y, z, t, _, rfl, e1, e2, same_vdw _ _ _⟩
theorem law_t (ns : List Int) (hn : ns.length ≤ 63) : ∃ d, m_law [.fz (ns.map .int)] = .ok d ∧ d = .bl true := by
  refine mirP_v _ rfl fun Q hQ => ?_
  unfold b_law
  simp only [startE, List.map, List.length, List.replicate, List.cons_append, List.nil_append]
  have hQ := hQ _ rfl
  refine seq_v (fun ρ => ∃ o1 o2 o3 o4 o5 o6 o7 o8, ρ = [dD (.fz (ns.map .int)), o1, o2, o3, o4, o5, o6, o7, o8]) (fun Q1 hQ1 => ?_) ?_
  · simp (disch := first | omega | (simp; done) | (simp; omega))
    refine range_v (fun n ρ => ∃ o1 o2 o3 o4 o5 o6 o7 o8, ρ = [dD (.fz (ns.map .int)), o1, o2, o3, o4, o5, o6, o7, o8]) ⟨_, _, _, _, _, _, _, _, rfl⟩ ?_ ?_
    · rintro n _ hn ⟨o1, o2, o3, o4, o5, o6, o7, o8, rfl⟩ Q2 hQ2
      refine ⟨by simp, ?_⟩
      simp only [List.set]
      refine seq_v (fun ρ => ∃ xs : List Int, ρ = [dD (.fz (ns.map .int)), iI n, dD (.lst (xs.map .int)), o3, o4, o5, o6, o7, o8] ∧ xs.length = 40 ∧ ∀ x ∈ xs, 0 ≤ x) (fun Q3 hQ3 => ?_) ?_
      · obtain ⟨_, e, xs, rfl, hl, hp⟩ := numbers_ok ns (3 * n) (by omega) (by omega)
        have f := hQ3 _ ⟨xs, rfl, hl, hp⟩
        simp (disch := first | omega | (simp; done) | (simp; omega)) [e]
        exact f
      rintro _ ⟨xs, rfl, hxl, hxp⟩
      refine seq_v (fun ρ => ∃ ys : List Int, ρ = [dD (.fz (ns.map .int)), iI n, dD (.lst (xs.map .int)), dD (.lst (ys.map .int)), o4, o5, o6, o7, o8] ∧ ys.length = 40 ∧ ∀ x ∈ ys, 0 ≤ x) (fun Q3 hQ3 => ?_) ?_
      · obtain ⟨_, e, ys, rfl, hl, hp⟩ := numbers_ok ns (3 * n + 1) (by omega) (by omega)
        have f := hQ3 _ ⟨ys, rfl, hl, hp⟩
        simp (disch := first | omega | (simp; done) | (simp; omega)) [e]
        exact f
      rintro _ ⟨ys, rfl, hyl, hyp⟩
      have hy : ∀ i : Int, 0 ≤ i → i < 40 → ∃ y, L2.atI (ys.map D.int) i = some (.int y) ∧ 0 ≤ y := fun i h0 h1 => by
        obtain ⟨y, hy, e⟩ := atI_ex D.int (xs := ys) h0 (by omega)
        exact ⟨y, e, hyp y hy⟩
      refine seq_v (fun ρ => ∃ l : List Nat, ρ = [dD (.fz (ns.map .int)), iI n, dD (.lst (xs.map .int)), dD (.lst (ys.map .int)), sS l, o5, o6, o7, o8] ∧ l ≠ [] ∧ l.length ≤ 26 ∧ AllL l) (fun Q3 hQ3 => ?_) ?_
      · obtain ⟨y, hy0, hp⟩ := hy 0 (by omega) (by omega)
        obtain ⟨_, e, l, rfl, h2, h3, hL⟩ := letters_ok y hp
        have f := hQ3 _ ⟨l, rfl, by intro q; subst q; simp at h2, by omega, hL⟩
        simp [hy0, e]
        exact f
      rintro _ ⟨l, rfl, hl0, hl26, hL⟩
      refine seq_v (fun ρ => ∃ w ms, ρ = [dD (.fz (ns.map .int)), iI n, dD (.lst (xs.map .int)), dD (.lst (ys.map .int)), sS l, dD (.lst (w.map fun a => .str (S a))), dD (.lst (ms.map mv)), o7, o8] ∧ Good w ms 40 ∧ vdw 0 w ms = wovenD) (fun Q3 hQ3 => ?_) ?_
      · obtain ⟨y, hy1, hp⟩ := hy 1 (by omega) (by omega)
        obtain ⟨many, hmm, hmi⟩ := atI_ex D.int (xs := [0, 1, 3, 6, 12, 40]) (i := y % 6) (by omega) (by simp; omega)
        simp at hmm
        obtain ⟨_, e, x, y', z, t, ms, rfl, hv, hm, hml, hwl, hc⟩ := woven_ok xs hxl many (by omega) (by omega) l hl0 hl26
        simp only [List.mem_append] at hc
        have f := hQ3 _ ⟨[x, y', z, t], ms, rfl, ⟨rfl, by
          intro a ha
          simp at ha
          rcases ha with rfl | rfl | rfl | rfl
          · exact ⟨fun c h => hL c (hc c (by simp [h])), by omega⟩
          · exact ⟨fun c h => hL c (hc c (by simp [h])), by omega⟩
          · exact ⟨fun c h => hL c (hc c (by simp [h])), by omega⟩
          · exact ⟨fun c h => hL c (hc c (by simp [h])), by omega⟩, hm, hml⟩, by rw [vdw_eq _ _ _ _ _ _ hm]; exact hv⟩
        simp only [List.map_cons, List.map_nil] at hmi
        simp [hy1, hmi, e]
        exact f
      rintro _ ⟨w, ms, rfl, hg, hv⟩
      refine seq_v (fun ρ => ∃ w ms, ρ = [dD (.fz (ns.map .int)), iI n, dD (.lst (xs.map .int)), dD (.lst (ys.map .int)), sS l, dD (.lst (w.map fun a => .str (S a))), dD (.lst (ms.map mv)), o7, o8] ∧ Good w ms 40) (fun Q3 hQ3 => ?_) ?_
      · obtain ⟨_, e2, rfl⟩ := law_judged_ok w hg.four ms hg.move (Nat.le_trans hg.many (by omega))
        have f := hQ3 _ ⟨w, ms, rfl, hg⟩
        rw [hv] at e2
        simp [e2, wovenD, ne_ap, eqb_tup, cmpOk_tup]
        exact f
      clear hv hg w ms
      rintro _ ⟨w, ms, rfl, hg⟩
      refine seq_v (fun ρ => ∃ w ms o7 o8, ρ = [dD (.fz (ns.map .int)), iI n, dD (.lst (xs.map .int)), dD (.lst (ys.map .int)), sS l, dD (.lst (w.map fun a => .str (S a))), dD (.lst (ms.map mv)), o7, o8] ∧ Good w ms 100) (fun Q3 hQ3 => ?_) ?_
      · simp (disch := first | omega | (simp; done) | (simp; omega))
        refine range_v (fun j ρ => ∃ w ms o7 o8, ρ = [dD (.fz (ns.map .int)), iI n, dD (.lst (xs.map .int)), dD (.lst (ys.map .int)), sS l, dD (.lst (w.map fun a => .str (S a))), dD (.lst (ms.map mv)), o7, o8] ∧ Good w ms (40 + j)) ⟨w, ms, _, _, rfl, hg⟩ ?_ ?_
        · clear hg w ms
          rintro j _ hj ⟨w, ms, p7, p8, rfl, hg⟩ Q4 hQ4
          refine ⟨by simp, ?_⟩
          simp only [List.set]
          refine seq_v (fun ρ => ∃ w ms, ρ = [dD (.fz (ns.map .int)), iI n, dD (.lst (xs.map .int)), dD (.lst (ys.map .int)), sS l, dD (.lst (w.map fun a => .str (S a))), dD (.lst (ms.map mv)), iI j, p8] ∧ Good w ms (40 + j + 1)) (fun Q5 hQ5 => ?_) ?_
          · by_cases hj0 : j = 0
            · have f := hQ5 _ ⟨w, ms, rfl, hg.mono (by omega)⟩
              subst hj0
              simp
              exact f
            · obtain ⟨y, hy1, hp⟩ := hy (2 + j) (by omega) (by omega)
              obtain ⟨_, e, w', ms', rfl, hg'⟩ := changed_ok w ms (40 + j) (by omega) hg y hp l hl0 hl26 hL
              have f := hQ5 _ ⟨w', ms', rfl, hg'⟩
              have hj1 : (0 : Int) < j := by omega
              have hj2 : 0 < j := by omega
              simp [hj1, hj2, hy1, e]
              exact f
          clear hg w ms
          rintro _ ⟨w, ms, rfl, hg⟩
          have f := fun d => hQ4 _ ⟨w, ms, iI j, dD d, rfl, hg⟩
          obtain ⟨x, y, z, t, d, hw, e1, e2, e3⟩ := judge2 hg (by omega)
          have f := f d
          rw [hw] at f ⊢
          simp [e1, e2, e3]
          exact f
        · rintro _ ⟨w, ms, o7, o8, rfl, hg⟩
          exact hQ3 _ ⟨w, ms, _, _, rfl, hg.mono (by omega)⟩
      clear hg w ms o7 o8
      rintro _ ⟨w, ms, o7, o8, rfl, hg⟩
      refine seq_v (fun ρ => ∃ w o7, ρ = [dD (.fz (ns.map .int)), iI n, dD (.lst (xs.map .int)), dD (.lst (ys.map .int)), sS l, some (.lst (w.map fun a => .sh (.str (S a)))), dD (.lst (ms.map mv)), o7, o8] ∧ Good w ms 100) (fun Q3 hQ3 => ?_) ?_
      · have wd : ∀ j : Nat, j < 4 → ∃ a, (AllL a ∧ a.length ≤ 40) ∧ ∀ ρ : Env', ρ = [dD (.fz (ns.map .int)), iI n, dD (.lst (xs.map .int)), dD (.lst (ys.map .int)), sS l, dD (.lst (w.map fun a => .str (S a))), dD (.lst (ms.map mv)), iI j, o8] → nOf (eCall m__law_word (aConsE (eVar 3) (aConsE (eBin D.add (eC (.int 10)) (eBin D.mul (eC (.int 7)) (eVar 7))) (aConsE (eBin D.mod (eBin D.ix (eVar 3) (eBin D.add (eC (.int 30)) (eVar 7))) (eC (.int 7))) (aConsE (eVar 4) (aNil)))))) ρ = .ok (.sh (.str (S a)), ρ) := by
          rintro j hj
          obtain ⟨y, hy1, hp⟩ := hy (30 + j) (by omega) (by omega)
          obtain ⟨_, e, a, rfl, ha, hc⟩ := word_ok ys hyl hyp (10 + 7 * j) (y % 7) (by omega) (by omega) (by omega) l hl0 hl26
          refine ⟨a, ⟨fun c h => hL c (hc c h), by omega⟩, ?_⟩
          rintro _ rfl
          rw [nOf_ap]
          simp (disch := first | omega | (simp; done) | (simp; omega)) [hy1, e]
        obtain ⟨a0, g0, h0⟩ := wd 0 (by omega)
        obtain ⟨a1, g1, h1⟩ := wd 1 (by omega)
        obtain ⟨a2, g2, h2⟩ := wd 2 (by omega)
        obtain ⟨a3, g3, h3⟩ := wd 3 (by omega)
        have f := fun o7 => hQ3 _ ⟨[a0, a1, a2, a3], o7, rfl, rfl, by simp [g0, g1, g2, g3], hg.move, hg.many⟩
        have hlc : lcGo (gN 7) ttYes (nOf (eCall m__law_word (aConsE (eVar 3) (aConsE (eBin D.add (eC (.int 10)) (eBin D.mul (eC (.int 7)) (eVar 7))) (aConsE (eBin D.mod (eBin D.ix (eVar 3) (eBin D.add (eC (.int 30)) (eVar 7))) (eC (.int 7))) (aConsE (eVar 4) (aNil))))))) [7] (rangeD 0 4) [dD (.fz (ns.map .int)), iI n, dD (.lst (xs.map .int)), dD (.lst (ys.map .int)), sS l, dD (.lst (w.map fun a => .str (S a))), dD (.lst (ms.map mv)), none, o8] = .ok (((rangeD 0 4).filter fun _ => true).map (fun d => match d with | .int i => T.sh (.str (S (([a0, a1, a2, a3][i.toNat]?).getD []))) | _ => T.sh .non), [dD (.fz (ns.map .int)), iI n, dD (.lst (xs.map .int)), dD (.lst (ys.map .int)), sS l, dD (.lst (w.map fun a => .str (S a))), dD (.lst (ms.map mv)), none, o8]) := by
          refine lc_pure _ _ fun x hx => ?_
          have hx' : x = .int (0 : Nat) ∨ x = .int (1 : Nat) ∨ x = .int (2 : Nat) ∨ x = .int (3 : Nat) := by simpa [rangeD, List.range, List.range.loop] using hx
          rcases hx' with rfl | rfl | rfl | rfl
          · exact ⟨_, rfl, by simp [ttYes_ap], fun _ => h0 _ rfl, by simp⟩
          · exact ⟨_, rfl, by simp [ttYes_ap], fun _ => h1 _ rfl, by simp⟩
          · exact ⟨_, rfl, by simp [ttYes_ap], fun _ => h2 _ rfl, by simp⟩
          · exact ⟨_, rfl, by simp [ttYes_ap], fun _ => h3 _ rfl, by simp⟩
        have hr : ((rangeD 0 4).filter fun _ => true).map (fun d => match d with | .int i => T.sh (.str (S (([a0, a1, a2, a3][i.toNat]?).getD []))) | _ => T.sh .non) = [.sh (.str (S a0)), .sh (.str (S a1)), .sh (.str (S a2)), .sh (.str (S a3))] := rfl
        rw [hr] at hlc
        rcases o7 with _ | (_ | _ | _ | _) <;> simp (disch := first | omega | (simp; done) | (simp; omega)) [hlc] <;> exact f _
      clear hg w
      rintro _ ⟨w, o7', rfl, hg⟩
      have f := fun d => hQ2 _ ⟨iI n, dD (.lst (xs.map .int)), dD (.lst (ys.map .int)), sS l, dD (.lst (w.map fun a => .str (S a))), dD (.lst (ms.map mv)), o7', dD d, rfl⟩
      obtain ⟨x, y, z, t, d, hw, e1, e2, e3⟩ := judge2 hg (by omega)
      have f := f d
      have hw2 : (w.map fun a => T.sh (.str (S a))) = [.sh (.str (S x)), .sh (.str (S y)), .sh (.str (S z)), .sh (.str (S t))] := by
        have := congrArg (List.map T.sh) hw
        rw [List.map_map] at this
        exact this
      rw [hw] at f
      rw [hw2]
      simp [e1, e2, e3]
      exact f
    · rintro _ ⟨o1, o2, o3, o4, o5, o6, o7, o8, rfl⟩
      exact hQ1 _ ⟨_, _, _, _, _, _, _, _, rfl⟩
  · rintro _ ⟨o1, o2, o3, o4, o5, o6, o7, o8, rfl⟩
    obtain ⟨_, e, rfl⟩ := judged_ok [] [] [] [] .nil .nil .nil .nil (by simp) [] (by simp) (by simp)
    have e2 := same_vdw 0 [[], [], [], []] []
    simp [vdw, wovenD] at e e2
    simp [e, e2]
    exact hQ
theorem law_true (ns : List Int) (hn : ns.length ≤ 63) : m_law [.fz (ns.map .int)] = .ok (.bl true) := by
  obtain ⟨_, e, rfl⟩ := law_t ns hn
  exact e
end W_k01

open PySem PySem.W PyProof.Rows
set_option maxHeartbeats 0 in
theorem PySem.Challenge.cw_fourthword_k01_weavings_are_judged_holds : PySem.Challenge.rw_fourthword_k01_weavings_are_judged.Holds := by
  w_on; o_law; k_head; (case hw => w_witness2)
  k_fill
  refine L2.walk_of (l := PySem.Challenge.rw_fourthword_k01_weavings_are_judged) (n := 63) (k := 4) (x := "script") (CX := fun w => L2.CX PySem.Challenge.rw_fourthword_k01_weavings_are_judged.prog w) (sp := fun w => FL.spL _) rfl (by decide) rfl ⟨rfl, by decide, by decide⟩ (fun w h Y => PySem.W.kIn_of Y) ?F (fun _ _ a ns hl _ hS => ⟨a, ns, rfl, hS, hl, fun _ => rfl⟩) (fun _ _ _ _ _ h => FL.noCX h)
  case F =>
    intro w mg fa h KX G hmg
    refine' W_k01.all_mk KX G hmg (FL.di_mk ?a_is_word ?l_is_word ?c_is_word ?k_is_word) (FL.di_mk ?a_check_words ?l_check_words ?c_check_words ?k_check_words) (FL.di_mk ?a_is_weaving ?l_is_weaving ?c_is_weaving ?k_is_weaving) (FL.di_mk ?a_check_weaving ?l_check_weaving ?c_check_weaving ?k_check_weaving) (FL.di_mk ?a_raw_judged ?l_raw_judged ?c_raw_judged ?k_raw_judged) (FL.di_mk ?a_judged ?l_judged ?c_judged ?k_judged) (FL.di_mk ?a__law_numbers ?l__law_numbers ?c__law_numbers ?k__law_numbers) (FL.di_mk ?a__law_letters ?l__law_letters ?c__law_letters ?k__law_letters) (FL.di_mk ?a__law_word ?l__law_word ?c__law_word ?k__law_word) (FL.di_mk ?a__law_woven ?l__law_woven ?c__law_woven ?k__law_woven) (FL.di_mk ?a__law_judged ?l__law_judged ?c__law_judged ?k__law_judged) (FL.di_mk ?a__law_same ?l__law_same ?c__law_same ?k__law_same) (FL.di_mk ?a__law_changed ?l__law_changed ?c__law_changed ?k__law_changed) (FL.di_mk ?a_law ?l_law ?c_law ?k_law) (FL.xi_mk ?a_NoWeaving ?q_NoWeaving ?k_NoWeaving ?b_NoWeaving ?t_NoWeaving) (FL.xi_mk ?a_NoWord ?q_NoWord ?k_NoWord ?b_NoWord ?t_NoWord) (FL.gi_str ?a_LETTERS) (FL.gi_tup4 ?a_MOVES ?l_MOVES) (FL.gi_str ?a_PLACES) ?z_all ?z_bool ?z_enumerate ?z_int ?z_isinstance ?z_len ?z_list ?z_range ?z_str ?z_tuple W_k01.law_true
    (case a_is_word => k_is); (case l_is_word => k_is); (case c_is_word => k_is); (case k_is_word => k_is); (case a_check_words => k_is); (case l_check_words => k_is)
    (case c_check_words => k_is); (case k_check_words => k_is); (case a_is_weaving => k_is); (case l_is_weaving => k_is); (case c_is_weaving => k_is); (case k_is_weaving => k_is)
    (case a_check_weaving => k_is); (case l_check_weaving => k_is); (case c_check_weaving => k_is); (case k_check_weaving => k_is); (case a_raw_judged => k_is); (case l_raw_judged => k_is)
    (case c_raw_judged => k_is); (case k_raw_judged => k_is); (case a_judged => k_is); (case l_judged => k_is); (case c_judged => k_is); (case k_judged => k_is)
    (case a__law_numbers => k_is); (case l__law_numbers => k_is); (case c__law_numbers => k_is); (case k__law_numbers => k_is); (case a__law_letters => k_is); (case l__law_letters => k_is)
    (case c__law_letters => k_is); (case k__law_letters => k_is); (case a__law_word => k_is); (case l__law_word => k_is); (case c__law_word => k_is); (case k__law_word => k_is)
    (case a__law_woven => k_is); (case l__law_woven => k_is); (case c__law_woven => k_is); (case k__law_woven => k_is); (case a__law_judged => k_is); (case l__law_judged => k_is)
    (case c__law_judged => k_is); (case k__law_judged => k_is); (case a__law_same => k_is); (case l__law_same => k_is); (case c__law_same => k_is); (case k__law_same => k_is)
    (case a__law_changed => k_is); (case l__law_changed => k_is); (case c__law_changed => k_is); (case k__law_changed => k_is); (case a_law => k_is); (case l_law => k_is)
    (case c_law => k_is); (case k_law => k_is); (case a_NoWeaving => k_is); (case q_NoWeaving => k_exc); (case k_NoWeaving => k_is); (case b_NoWeaving => k_is)
    (case t_NoWeaving => k_is); (case a_NoWord => k_is); (case q_NoWord => k_exc); (case k_NoWord => k_is); (case b_NoWord => k_is); (case t_NoWord => k_is)
    (case a_LETTERS => k_is); (case a_MOVES => k_is); (case l_MOVES => k_is); (case a_PLACES => k_is); (case z_all => k_is); (case z_bool => k_is)
    (case z_enumerate => k_is); (case z_int => k_is); (case z_isinstance => k_is); (case z_len => k_is); (case z_list => k_is); (case z_range => k_is)
    (case z_str => k_is); (case z_tuple => k_is)
