import PyProof.Rows.All
import Wide.All
import OpenK.AllK
import Wide.FinOn
import HandS.ForMost
import HandS.Exc
import HandS.ExcOwn
import HandS.TryOnly
import HandS.TryMany
import HandS.WordsExc
import HandS.IsInst
import HandS.Wide
import HandS.TupAny
import HandS.Flow
import HandS.Deep
import HandS.TupLe
import HandS.Zip
import KE.KUnpack
import HandS.Small
import HandS.Replace
import KE.GoesMore
import HandS.Ends
import HandS.Rev
import HandS.Dict
import KE.KDictDisplayH
import HandS.Style
import PySem.Challenge.RW_fourthword_k30_whole_sums_and_shares
set_option Elab.async false
set_option linter.all false
set_option maxRecDepth 100000
set_option maxHeartbeats 4000000
namespace FL
open PySem PySem.Spec PyProof.Rows L2

/-! ### data -/
/-- a text that the model can hold and lay -/
def sOk (x : Str) : Prop := x.length ≤ sizeLine ∧ PyData.strOk x = true
instance (x : Str) : Decidable (sOk x) := by unfold sOk; infer_instance
inductive D where
  | non | bl (b : Bool) | int (i : Int) | str (x : Str) | ty (n : String)
  | tup (xs : List D) | ftup (xs : List D) | lst (xs : List D) | fz (xs : List D)
  | dic (ks : List Key) (vs : List D) | dit (ks : List (List Key)) (vs : List D)

mutual
def Den (K : PySem.W.Frag) (H : Hp) : D → V → Prop
  | .non, v => v = .non
  | .bl b, v => v = .bl b
  | .int i, v => v = .int i
  | .str x, v => v = .str x ∧ sOk x
  | .ty n, v => v = .ty n
  | .tup ds, v => ∃ a vs, v = .ref a ∧ H a = some (.tup vs) ∧ DenL K H ds vs
  | .ftup ds, v => ∃ a vs, v = .ref a ∧ SqT K H a vs ∧ DenL K H ds vs
  | .lst ds, v => ∃ a vs, v = .ref a ∧ H a = some (.lst vs) ∧ DenL K H ds vs
  | .fz ds, v => ∃ a vs, v = .ref a ∧ SqL K H a vs ∧ DenL K H ds vs
  | .dic ks ds, v => ∃ a kv, v = .ref a ∧ H a = some (.dK kv) ∧ kv.map (·.1) = ks ∧ DenL K H ds (kv.map (·.2))
  | .dit ks ds, v => ∃ a kv, v = .ref a ∧ H a = some (.dT kv) ∧ kv.map (·.1) = ks ∧ DenL K H ds (kv.map (·.2))
def DenL (K : PySem.W.Frag) (H : Hp) : List D → List V → Prop
  | [], vs => vs = []
  | d :: ds, vs => ∃ v r, vs = v :: r ∧ Den K H d v ∧ DenL K H ds r
end

theorem _root_.L2.Same.seqT {K : PySem.W.Frag} {H H' : Hp} {a : Addr} {xs : List V} (e : Same H H') (h : SqT K H a xs) : SqT K H' a xs := by
  rcases h with (h | ⟨o, h⟩) | h
  · exact .inl (.inl (e _ _ h))
  · exact .inl (.inr ⟨o, e _ _ h⟩)
  · exact .inr h

mutual
theorem Den.mono {K : PySem.W.Frag} {H H' : Hp} (e : Same H H') : ∀ {d : D} {v : V}, Den K H d v → Den K H' d v
  | .non, _, h => h
  | .bl _, _, h => h
  | .int _, _, h => h
  | .str _, _, h => h
  | .ty _, _, h => h
  | .tup _, _, ⟨a, vs, e1, e2, e3⟩ => ⟨a, vs, e1, e _ _ e2, DenL.mono e e3⟩
  | .ftup _, _, ⟨a, vs, e1, e2, e3⟩ => ⟨a, vs, e1, e.seqT e2, DenL.mono e e3⟩
  | .lst _, _, ⟨a, vs, e1, e2, e3⟩ => ⟨a, vs, e1, e _ _ e2, DenL.mono e e3⟩
  | .fz _, _, ⟨a, vs, e1, e2, e3⟩ => ⟨a, vs, e1, e.seq e2, DenL.mono e e3⟩
  | .dic _ _, _, ⟨a, kv, e1, e2, e3, e4⟩ => ⟨a, kv, e1, e _ _ e2, e3, DenL.mono e e4⟩
  | .dit _ _, _, ⟨a, kv, e1, e2, e3, e4⟩ => ⟨a, kv, e1, e _ _ e2, e3, DenL.mono e e4⟩
theorem DenL.mono {K : PySem.W.Frag} {H H' : Hp} (e : Same H H') : ∀ {ds : List D} {vs : List V}, DenL K H ds vs → DenL K H' ds vs
  | [], _, h => h
  | _ :: _, _, ⟨v, r, e1, e2, e3⟩ => ⟨v, r, e1, Den.mono e e2, DenL.mono e e3⟩
end

theorem DenL.length {K : PySem.W.Frag} {H : Hp} : ∀ {ds : List D} {vs : List V}, DenL K H ds vs → vs.length = ds.length
  | [], _, h => by cases h; rfl
  | _ :: _, _, ⟨v, r, e1, e2, e3⟩ => by rw [e1]; simp [DenL.length e3]
theorem DenL.get {K : PySem.W.Frag} {H : Hp} : ∀ {ds : List D} {vs : List V} {i : Nat} {d : D}, DenL K H ds vs → ds[i]? = some d → ∃ v, vs[i]? = some v ∧ Den K H d v
  | _ :: _, _, 0, _, ⟨v, r, e1, e2, e3⟩, h => by
    cases (Option.some.inj h)
    exact ⟨v, by rw [e1]; rfl, e2⟩
  | _ :: _, _, i + 1, _, ⟨v, r, e1, e2, e3⟩, h => by
    obtain ⟨w, h1, h2⟩ := DenL.get e3 (by simpa using h)
    exact ⟨w, by rw [e1]; simpa using h1, h2⟩
theorem DenL.append {K : PySem.W.Frag} {H : Hp} : ∀ {ds es : List D} {vs ws : List V}, DenL K H ds vs → DenL K H es ws → DenL K H (ds ++ es) (vs ++ ws)
  | [], _, _, _, h, g => by cases h; exact g
  | _ :: _, _, _, _, ⟨v, r, e1, e2, e3⟩, g => by cases e1; exact ⟨v, r ++ _, rfl, e2, DenL.append e3 g⟩
theorem DenL.take {K : PySem.W.Frag} {H : Hp} : ∀ {ds : List D} {vs : List V} (n : Nat), DenL K H ds vs → DenL K H (ds.take n) (vs.take n)
  | [], _, n, h => by cases h; simp [DenL]
  | _ :: _, _, 0, _ => by simp [DenL]
  | _ :: _, _, n + 1, ⟨v, r, e1, e2, e3⟩ => by cases e1; exact ⟨v, _, rfl, e2, DenL.take n e3⟩
theorem DenL.drop {K : PySem.W.Frag} {H : Hp} : ∀ {ds : List D} {vs : List V} (n : Nat), DenL K H ds vs → DenL K H (ds.drop n) (vs.drop n)
  | [], _, n, h => by cases h; simp [DenL]
  | _ :: _, _, 0, h => h
  | _ :: _, _, n + 1, ⟨v, r, e1, e2, e3⟩ => by cases e1; exact DenL.drop n e3
theorem DenL.set {K : PySem.W.Frag} {H : Hp} {d : D} {v : V} (h0 : Den K H d v) : ∀ {ds : List D} {vs : List V} (n : Nat), DenL K H ds vs → DenL K H (ds.set n d) (vs.set n v)
  | [], _, n, h => by cases h; simp [DenL]
  | _ :: _, _, 0, ⟨v', r, e1, e2, e3⟩ => by cases e1; exact ⟨v, r, rfl, h0, e3⟩
  | _ :: _, _, n + 1, ⟨v', r, e1, e2, e3⟩ => by cases e1; exact ⟨v', _, rfl, e2, DenL.set h0 n e3⟩
theorem DenL.one {K : PySem.W.Frag} {H : Hp} {d : D} {v : V} (h : Den K H d v) : DenL K H [d] [v] := ⟨v, [], rfl, h, rfl⟩
theorem DenL.map {K : PySem.W.Frag} {H : Hp} {α : Type} {f : α → D} {g : α → V} (h : ∀ x, Den K H (f x) (g x)) : ∀ (xs : List α), DenL K H (xs.map f) (xs.map g)
  | [] => rfl
  | x :: xs => ⟨_, _, rfl, h x, DenL.map h xs⟩

/-! ### owned trees -/
inductive T where
  | sh (d : D) | lst (ts : List T) | dic (ks : List Key) (ts : List T) | dit (ks : List (List Key)) (ts : List T) | at (b : Addr) (ts : List T)

mutual
def DenT (K : PySem.W.Frag) (Hs H : Hp) : T → V → List Addr → Prop
  | .sh d, v, fp => fp = [] ∧ Den K Hs d v
  | .lst ts, v, fp => ∃ a vs fr, v = .ref a ∧ fp = a :: fr ∧ H a = some (.lst vs) ∧ DenTL K Hs H ts vs fr
  | .dic ks ts, v, fp => ∃ a kv fr, v = .ref a ∧ fp = a :: fr ∧ H a = some (.dK kv) ∧ kv.map (·.1) = ks ∧ DenTL K Hs H ts (kv.map (·.2)) fr
  | .dit ks ts, v, fp => ∃ a kv fr, v = .ref a ∧ fp = a :: fr ∧ H a = some (.dT kv) ∧ kv.map (·.1) = ks ∧ DenTL K Hs H ts (kv.map (·.2)) fr
  | .at b ts, v, fp => ∃ a vs fr, v = .ref a ∧ fp = a :: fr ∧ H a = some (.lst vs) ∧ a = b ∧ DenTL K Hs H ts vs fr
def DenTL (K : PySem.W.Frag) (Hs H : Hp) : List T → List V → List Addr → Prop
  | [], vs, fp => vs = [] ∧ fp = []
  | t :: ts, vs, fp => ∃ v r f1 f2, vs = v :: r ∧ fp = f1 ++ f2 ∧ DenT K Hs H t v f1 ∧ DenTL K Hs H ts r f2
end

mutual
theorem DenT.mono {K : PySem.W.Frag} {Hs Hs' H H' : Hp} (e : Same Hs Hs') : ∀ {t : T} {v : V} {fp : List Addr}, DenT K Hs H t v fp → (∀ a ∈ fp, H' a = H a) → DenT K Hs' H' t v fp
  | .sh _, _, _, ⟨h1, h2⟩, _ => ⟨h1, h2.mono e⟩
  | .lst _, _, _, ⟨a, vs, fr, e1, e2, e3, e4⟩, h => by
    subst e2
    exact ⟨a, vs, fr, e1, rfl, by rw [h a (by simp)]; exact e3, DenTL.mono e e4 fun b hb => h b (by simp [hb])⟩
  | .dic _ _, _, _, ⟨a, vs, fr, e1, e2, e3, e4, e5⟩, h => by
    subst e2
    exact ⟨a, vs, fr, e1, rfl, by rw [h a (by simp)]; exact e3, e4, DenTL.mono e e5 fun b hb => h b (by simp [hb])⟩
  | .dit _ _, _, _, ⟨a, vs, fr, e1, e2, e3, e4, e5⟩, h => by
    subst e2
    exact ⟨a, vs, fr, e1, rfl, by rw [h a (by simp)]; exact e3, e4, DenTL.mono e e5 fun b hb => h b (by simp [hb])⟩
  | .at _ _, _, _, ⟨a, vs, fr, e1, e2, e3, e4, e5⟩, h => by
    subst e2
    exact ⟨a, vs, fr, e1, rfl, by rw [h a (by simp)]; exact e3, e4, DenTL.mono e e5 fun b hb => h b (by simp [hb])⟩
theorem DenTL.mono {K : PySem.W.Frag} {Hs Hs' H H' : Hp} (e : Same Hs Hs') : ∀ {ts : List T} {vs : List V} {fp : List Addr}, DenTL K Hs H ts vs fp → (∀ a ∈ fp, H' a = H a) → DenTL K Hs' H' ts vs fp
  | [], _, _, h, _ => h
  | _ :: _, _, _, ⟨v, r, f1, f2, e1, e2, e3, e4⟩, h => by
    subst e2
    exact ⟨v, r, f1, f2, e1, rfl, DenT.mono e e3 fun b hb => h b (by simp [hb]), DenTL.mono e e4 fun b hb => h b (by simp [hb])⟩
end
mutual
theorem DenT.there {K : PySem.W.Frag} {Hs H : Hp} : ∀ {t : T} {v : V} {fp : List Addr}, DenT K Hs H t v fp → ∀ a ∈ fp, ∃ o, H a = some o
  | .sh _, _, _, ⟨h1, h2⟩, a, ha => by subst h1; cases ha
  | .lst _, _, _, ⟨a, vs, fr, e1, e2, e3, e4⟩, b, hb => by
    subst e2
    rcases List.mem_cons.mp hb with rfl | hb
    · exact ⟨_, e3⟩
    · exact DenTL.there e4 b hb
  | .dic _ _, _, _, ⟨a, vs, fr, e1, e2, e3, e4, e5⟩, b, hb => by
    subst e2
    rcases List.mem_cons.mp hb with rfl | hb
    · exact ⟨_, e3⟩
    · exact DenTL.there e5 b hb
  | .dit _ _, _, _, ⟨a, vs, fr, e1, e2, e3, e4, e5⟩, b, hb => by
    subst e2
    rcases List.mem_cons.mp hb with rfl | hb
    · exact ⟨_, e3⟩
    · exact DenTL.there e5 b hb
  | .at _ _, _, _, ⟨a, vs, fr, e1, e2, e3, e4, e5⟩, b, hb => by
    subst e2
    rcases List.mem_cons.mp hb with rfl | hb
    · exact ⟨_, e3⟩
    · exact DenTL.there e5 b hb
theorem DenTL.there {K : PySem.W.Frag} {Hs H : Hp} : ∀ {ts : List T} {vs : List V} {fp : List Addr}, DenTL K Hs H ts vs fp → ∀ a ∈ fp, ∃ o, H a = some o
  | [], _, _, ⟨h1, h2⟩, a, ha => by subst h2; cases ha
  | _ :: _, _, _, ⟨v, r, f1, f2, e1, e2, e3, e4⟩, b, hb => by
    subst e2
    rcases List.mem_append.mp hb with hb | hb
    · exact DenT.there e3 b hb
    · exact DenTL.there e4 b hb
end
theorem DenTL.length {K : PySem.W.Frag} {Hs H : Hp} : ∀ {ts : List T} {vs : List V} {fp : List Addr}, DenTL K Hs H ts vs fp → vs.length = ts.length
  | [], _, _, h => by rw [h.1]; rfl
  | _ :: _, _, _, ⟨v, r, f1, f2, e1, e2, e3, e4⟩ => by rw [e1]; simp [DenTL.length e4]
theorem DenTL.append {K : PySem.W.Frag} {Hs H : Hp} : ∀ {ts us : List T} {vs ws : List V} {f g : List Addr}, DenTL K Hs H ts vs f → DenTL K Hs H us ws g → DenTL K Hs H (ts ++ us) (vs ++ ws) (f ++ g)
  | [], _, _, _, _, _, h, k => by obtain ⟨rfl, rfl⟩ := h; exact k
  | _ :: _, _, _, _, _, _, ⟨v, r, f1, f2, e1, e2, e3, e4⟩, k => by
    subst e1; subst e2
    exact ⟨v, _, f1, f2 ++ _, rfl, by simp, e3, DenTL.append e4 k⟩

/-- the data of a tree -/
def T.d : T → D
  | .sh d => d
  | .lst ts => .lst (go ts)
  | .dic ks ts => .dic ks (go ts)
  | .dit ks ts => .dit ks (go ts)
  | .at _ ts => .lst (go ts)
where go : List T → List D
  | [] => []
  | t :: ts => t.d :: go ts
theorem T.go_map : ∀ ts : List T, T.d.go ts = ts.map T.d
  | [] => rfl
  | t :: ts => by simp [T.d.go, T.go_map ts]
theorem T.d_lst (ts : List T) : (T.lst ts).d = .lst (ts.map T.d) := by rw [T.d, T.go_map]
theorem T.go_sh : ∀ ds : List D, T.d.go (ds.map T.sh) = ds
  | [] => rfl
  | d :: ds => by simp [T.d.go, T.go_sh ds, T.d]
theorem DenTL.sh {K : PySem.W.Frag} {Hs H : Hp} : ∀ {ds : List D} {vs : List V}, DenL K Hs ds vs → DenTL K Hs H (ds.map T.sh) vs []
  | [], _, h => ⟨h, rfl⟩
  | _ :: _, _, ⟨v, r, e1, e2, e3⟩ => ⟨v, r, [], [], e1, rfl, ⟨rfl, e2⟩, DenTL.sh e3⟩
/-- let go: the tree's data, in any heap that has it all -/
theorem SqL.lst {K : PySem.W.Frag} {H : Hp} {a : Addr} {vs : List V} (h : H a = some (.lst vs)) : SqL K H a vs := .inl (.inl h)
mutual
theorem DenT.den {K : PySem.W.Frag} {Hs H H' : Hp} (e : Same Hs H') : ∀ {t : T} {v : V} {fp : List Addr}, DenT K Hs H t v fp → (∀ a ∈ fp, H' a = H a) → Den K H' t.d v
  | .sh _, _, _, ⟨h1, h2⟩, _ => h2.mono e
  | .lst _, _, _, ⟨a, vs, fr, e1, e2, e3, e4⟩, h => by
    subst e2
    exact ⟨a, vs, e1, by rw [h a (by simp)]; exact e3, DenTL.den e e4 fun b hb => h b (by simp [hb])⟩
  | .dic _ _, _, _, ⟨a, vs, fr, e1, e2, e3, e4, e5⟩, h => by
    subst e2
    exact ⟨a, vs, e1, by rw [h a (by simp)]; exact e3, e4, DenTL.den e e5 fun b hb => h b (by simp [hb])⟩
  | .dit _ _, _, _, ⟨a, vs, fr, e1, e2, e3, e4, e5⟩, h => by
    subst e2
    exact ⟨a, vs, e1, by rw [h a (by simp)]; exact e3, e4, DenTL.den e e5 fun b hb => h b (by simp [hb])⟩
  | .at _ _, _, _, ⟨a, vs, fr, e1, e2, e3, e4, e5⟩, h => by
    subst e2
    exact ⟨a, vs, e1, by rw [h a (by simp)]; exact e3, DenTL.den e e5 fun b hb => h b (by simp [hb])⟩
theorem DenTL.den {K : PySem.W.Frag} {Hs H H' : Hp} (e : Same Hs H') : ∀ {ts : List T} {vs : List V} {fp : List Addr}, DenTL K Hs H ts vs fp → (∀ a ∈ fp, H' a = H a) → DenL K H' (T.d.go ts) vs
  | [], _, _, h, _ => h.1
  | _ :: _, _, _, ⟨v, r, f1, f2, e1, e2, e3, e4⟩, h => by
    subst e2
    exact ⟨v, r, e1, DenT.den e e3 fun b hb => h b (by simp [hb]), DenTL.den e e4 fun b hb => h b (by simp [hb])⟩
end

/-! ### environments -/
abbrev Env' := List (Option T)
def DenE (K : PySem.W.Frag) (Hs H : Hp) : Env' → L2.St → List Addr → Prop
  | [], σ, fp => σ = [] ∧ fp = []
  | none :: ρ, σ, fp => ∃ o r, σ = o :: r ∧ DenE K Hs H ρ r fp
  | some t :: ρ, σ, fp => ∃ v r f1 f2, σ = some v :: r ∧ fp = f1 ++ f2 ∧ DenT K Hs H t v f1 ∧ DenE K Hs H ρ r f2
theorem DenE.mono {K : PySem.W.Frag} {Hs Hs' H H' : Hp} (e : Same Hs Hs') : ∀ {ρ : Env'} {σ : L2.St} {fp : List Addr}, DenE K Hs H ρ σ fp → (∀ a ∈ fp, H' a = H a) → DenE K Hs' H' ρ σ fp
  | [], _, _, h, _ => h
  | none :: _, _, _, ⟨o, r, e1, e2⟩, h => ⟨o, r, e1, DenE.mono e e2 h⟩
  | some _ :: _, _, _, ⟨v, r, f1, f2, e1, e2, e3, e4⟩, h => by
    subst e2
    exact ⟨v, r, f1, f2, e1, rfl, e3.mono e fun b hb => h b (by simp [hb]), DenE.mono e e4 fun b hb => h b (by simp [hb])⟩
theorem DenE.there {K : PySem.W.Frag} {Hs H : Hp} : ∀ {ρ : Env'} {σ : L2.St} {fp : List Addr}, DenE K Hs H ρ σ fp → ∀ a ∈ fp, ∃ o, H a = some o
  | [], _, _, h, a, ha => by rw [h.2] at ha; cases ha
  | none :: _, _, _, ⟨o, r, e1, e2⟩, a, ha => DenE.there e2 a ha
  | some _ :: _, _, _, ⟨v, r, f1, f2, e1, e2, e3, e4⟩, a, ha => by
    subst e2
    rcases List.mem_append.mp ha with ha | ha
    · exact e3.there a ha
    · exact DenE.there e4 a ha
/-- a slot: what stands in it, and the rest with another tree (or none) in its place -/
theorem DenE.at {K : PySem.W.Frag} {Hs H : Hp} : ∀ {ρ : Env'} {σ : L2.St} {fp : List Addr} {i : Nat} {t : T}, DenE K Hs H ρ σ fp → ρ[i]? = some (some t) →
    ∃ v f1 f2 f3, σ[i]? = some (some v) ∧ fp = f1 ++ (f2 ++ f3) ∧ DenT K Hs H t v f2 ∧
      (∀ Hs' H', Same Hs Hs' → (∀ a ∈ f1 ++ f3, H' a = H a) → ∀ t' v' f', DenT K Hs' H' t' v' f' → DenE K Hs' H' (ρ.set i (some t')) (σ.set i (some v')) (f1 ++ (f' ++ f3))) ∧
      (∀ Hs' H', Same Hs Hs' → (∀ a ∈ f1 ++ f3, H' a = H a) → ∀ o, DenE K Hs' H' (ρ.set i none) (σ.set i o) (f1 ++ f3))
  | none :: ρ, _, fp, i + 1, t, ⟨o, r, e1, e2⟩, h => by
    obtain ⟨v, f1, f2, f3, h1, h2, h3, h4, h5⟩ := DenE.at e2 (i := i) (by simpa using h)
    subst e1
    exact ⟨v, f1, f2, f3, by simpa using h1, h2, h3, fun Hs' H' s1 s2 t' v' f' d => ⟨o, _, rfl, h4 Hs' H' s1 s2 t' v' f' d⟩, fun Hs' H' s1 s2 o' => ⟨o, _, rfl, h5 Hs' H' s1 s2 o'⟩⟩
  | some t0 :: ρ, _, fp, 0, t, ⟨v, r, f1, f2, e1, e2, e3, e4⟩, h => by
    cases (Option.some.inj (Option.some.inj h))
    subst e1
    exact ⟨v, [], f1, f2, rfl, by simpa using e2, e3, fun Hs' H' s1 s2 t' v' f' d => ⟨v', r, f', f2, rfl, by simp, d, e4.mono s1 (by simpa using s2)⟩,
      fun Hs' H' s1 s2 o' => ⟨o', r, rfl, by simpa using e4.mono s1 (by simpa using s2)⟩⟩
  | some t0 :: ρ, _, fp, i + 1, t, ⟨v, r, g1, g2, e1, e2, e3, e4⟩, h => by
    obtain ⟨v', f1, f2, f3, h1, h2, h3, h4, h5⟩ := DenE.at e4 (i := i) (by simpa using h)
    subst e1; subst h2
    refine ⟨v', g1 ++ f1, f2, f3, by simpa using h1, by rw [e2]; simp, h3, fun Hs' H' s1 s2 t' w' f' d => ?_, fun Hs' H' s1 s2 o' => ?_⟩
    · exact ⟨v, _, g1, f1 ++ (f' ++ f3), rfl, by simp, e3.mono s1 fun b hb => s2 b (by simp [hb]), h4 Hs' H' s1 (fun b hb => s2 b (by
        rcases List.mem_append.mp hb with hb | hb <;> simp [hb])) t' w' f' d⟩
    · exact ⟨v, _, g1, f1 ++ f3, rfl, by simp, e3.mono s1 fun b hb => s2 b (by simp [hb]), h5 Hs' H' s1 (fun b hb => s2 b (by
        rcases List.mem_append.mp hb with hb | hb <;> simp [hb])) o'⟩
/-- a slot in which nothing is known is filled, or what stood in it is forgotten -/
theorem DenE.put {K : PySem.W.Frag} {Hs H : Hp} {t : T} {v : V} {f : List Addr} : ∀ {ρ : Env'} {σ : L2.St} {fp : List Addr} {i : Nat}, DenE K Hs H ρ σ fp → i < ρ.length → DenT K Hs H t v f →
    ∃ f1 f2 f3, fp = f1 ++ (f2 ++ f3) ∧ DenE K Hs H (ρ.set i (some t)) (σ.set i (some v)) (f1 ++ (f ++ f3))
  | [], _, _, _, _, h, _ => by cases h
  | none :: ρ, _, fp, 0, ⟨o, r, e1, e2⟩, h, d => by
    subst e1
    exact ⟨[], [], fp, rfl, ⟨v, r, f, fp, rfl, by simp, d, e2⟩⟩
  | some t0 :: ρ, _, fp, 0, ⟨w, r, g1, g2, e1, e2, e3, e4⟩, h, d => by
    subst e1
    exact ⟨[], g1, g2, by simpa using e2, ⟨v, r, f, g2, rfl, by simp, d, e4⟩⟩
  | none :: ρ, _, fp, i + 1, ⟨o, r, e1, e2⟩, h, d => by
    obtain ⟨f1, f2, f3, h1, h2⟩ := DenE.put e2 (i := i) (by simpa using h) d
    subst e1
    exact ⟨f1, f2, f3, h1, ⟨o, _, rfl, h2⟩⟩
  | some t0 :: ρ, _, fp, i + 1, ⟨w, r, g1, g2, e1, e2, e3, e4⟩, h, d => by
    obtain ⟨f1, f2, f3, h1, h2⟩ := DenE.put e4 (i := i) (by simpa using h) d
    subst e1; subst h1
    exact ⟨g1 ++ f1, f2, f3, by rw [e2]; simp, ⟨w, _, g1, f1 ++ (f ++ f3), rfl, by simp, e3, h2⟩⟩
theorem DenE.wipe {K : PySem.W.Frag} {Hs H : Hp} : ∀ {ρ : Env'} {σ : L2.St} {fp : List Addr} {i : Nat}, DenE K Hs H ρ σ fp →
    ∃ f1 f2 f3, fp = f1 ++ (f2 ++ f3) ∧ ∀ o, DenE K Hs H (ρ.set i none) (σ.set i o) (f1 ++ f3)
  | [], _, fp, _, h => ⟨fp, [], [], by simp, fun o => by rw [h.1, h.2]; exact ⟨rfl, rfl⟩⟩
  | none :: ρ, _, fp, 0, ⟨o, r, e1, e2⟩ => by
    subst e1
    exact ⟨[], [], fp, rfl, fun o => ⟨o, r, rfl, e2⟩⟩
  | some t0 :: ρ, _, fp, 0, ⟨w, r, g1, g2, e1, e2, e3, e4⟩ => by
    subst e1
    exact ⟨[], g1, g2, by simpa using e2, fun o => ⟨o, r, rfl, e4⟩⟩
  | none :: ρ, _, fp, i + 1, ⟨o, r, e1, e2⟩ => by
    obtain ⟨f1, f2, f3, h1, h2⟩ := DenE.wipe e2 (i := i)
    subst e1
    exact ⟨f1, f2, f3, h1, fun o' => ⟨o, _, rfl, h2 o'⟩⟩
  | some t0 :: ρ, _, fp, i + 1, ⟨w, r, g1, g2, e1, e2, e3, e4⟩ => by
    obtain ⟨f1, f2, f3, h1, h2⟩ := DenE.wipe e4 (i := i)
    subst e1; subst h1
    exact ⟨g1 ++ f1, f2, f3, by rw [e2]; simp, fun o' => ⟨w, _, g1, f1 ++ f3, rfl, by simp, e3, h2 o'⟩⟩
theorem DenE.length {K : PySem.W.Frag} {Hs H : Hp} : ∀ {ρ : Env'} {σ : L2.St} {fp : List Addr}, DenE K Hs H ρ σ fp → σ.length = ρ.length
  | [], _, _, h => by rw [h.1]; rfl
  | none :: _, _, _, ⟨o, r, e1, e2⟩ => by rw [e1]; simp [DenE.length e2]
  | some _ :: _, _, _, ⟨v, r, f1, f2, e1, e2, e3, e4⟩ => by rw [e1]; simp [DenE.length e4]

/-! ### the state -/
/-- the ghost: a shared heap at least, and a frame that stays -/
abbrev Gh := Hp × Hp
structure OkAt (K : PySem.W.Frag) (G : Gh) (σ : L2.St) (H : Hp) (ρ : Env') (Hs : Hp) (fp : List Addr) : Prop where
  sh : Same Hs H
  base : Same G.1 Hs
  frame : Same G.2 H
  priv : ∀ a, (G.2 a).isSome = true → G.1 a = none → Hs a = none ∧ a ∉ fp
  disj : ∀ a ∈ fp, Hs a = none
  nd : fp.Nodup
  env : DenE K Hs H ρ σ fp
def Ok (K : PySem.W.Frag) (G : Gh) (σ : L2.St) (H : Hp) (ρ : Env') : Prop := ∃ Hs fp, OkAt K G σ H ρ Hs fp
/-- the whole as a ghost -/
def rem (H : Hp) (fp : List Addr) : Hp := fun a => if a ∈ fp then none else H a
theorem OkAt.self {K G σ H ρ Hs fp} (h : OkAt K G σ H ρ Hs fp) : OkAt K (Hs, rem H fp) σ H ρ Hs fp :=
  ⟨h.sh, Same.refl _, fun b o e => by
    have e : rem H fp b = some o := e
    unfold rem at e
    split at e
    · cases e
    · exact e, fun a e1 e2 => ⟨e2, fun hm => by simp [rem, hm] at e1⟩, h.disj, h.nd, h.env⟩
theorem OkAt.back {K G σ σ' H H' ρ ρ' Hs Hs' fp fp'} (h : OkAt K G σ H ρ Hs fp) (h' : OkAt K (Hs, rem H fp) σ' H' ρ' Hs' fp') : OkAt K G σ' H' ρ' Hs' fp' := by
  have fr : ∀ a o, G.2 a = some o → G.1 a = none → (rem H fp) a = some o ∧ Hs a = none := fun a o e z => by
    obtain ⟨p1, p2⟩ := h.priv a (by rw [e]; rfl) z
    exact ⟨by simp [rem, p2, h.frame a o e], p1⟩
  refine ⟨h'.sh, h.base.trans h'.base, fun a o e => ?_, fun a e1 e2 => ?_, h'.disj, h'.nd, h'.env⟩
  · cases z : G.1 a with
    | some o' =>
      have q := h.frame a o e
      have q2 := h.sh a o' (h.base a o' z)
      rw [q] at q2
      cases q2
      exact h'.sh a _ (h'.base a _ (h.base a _ z))
    | none => exact h'.frame a o (fr a o e z).1
  · obtain ⟨o, eo⟩ := Option.isSome_iff_exists.mp e1
    obtain ⟨q1, q2⟩ := fr a o eo e2
    exact h'.priv a (by show ((rem H fp) a).isSome = true; rw [q1]; rfl) q2
/-- the heap has grown -/
structure Ext (Hs H Hs' H' : Hp) : Prop where
  s : Same Hs Hs'
  sh : Same Hs' H'
  keep : Same H H'
  priv : ∀ a, (H a).isSome = true → Hs a = none → Hs' a = none
theorem Ext.refl {Hs H : Hp} (h : Same Hs H) : Ext Hs H Hs H := ⟨Same.refl _, h, Same.refl _, fun _ _ h => h⟩
theorem Ext.trans {Hs H Hs1 H1 Hs2 H2 : Hp} (a : Ext Hs H Hs1 H1) (b : Ext Hs1 H1 Hs2 H2) : Ext Hs H Hs2 H2 :=
  ⟨a.s.trans b.s, b.sh, a.keep.trans b.keep, fun x e1 e2 => b.priv x (by
    obtain ⟨o, eo⟩ := Option.isSome_iff_exists.mp e1
    rw [a.keep x o eo]; rfl) (a.priv x e1 e2)⟩
theorem Ext.new {Hs H : Hp} {p : Addr} {o : HO} (h : Same Hs H) (n : H p = none) : Ext Hs H (upd Hs p o) (upd H p o) := by
  have np : Hs p = none := h.free n
  refine ⟨fun b u e => ?_, fun b u e => ?_, fun b u e => ?_, fun b e1 e2 => ?_⟩
  · rw [upd_ne (ne_of_none e np)]; exact e
  · by_cases z : b = p
    · subst z; rw [upd_same] at e ⊢; exact e
    · rw [upd_ne z] at e ⊢; exact h b u e
  · rw [upd_ne (ne_of_none e n)]; exact e
  · have z : b ≠ p := fun z => by subst z; rw [n] at e1; cases e1
    rw [upd_ne z]; exact e2
/-- grown outside of the shared part -/
theorem Ext.out {Hs H : Hp} {p : Addr} {o : HO} (h : Same Hs H) (n : H p = none) : Ext Hs H Hs (upd H p o) := by
  have k : Same H (upd H p o) := fun b u e => by rw [upd_ne (ne_of_none e n)]; exact e
  exact ⟨Same.refl _, h.trans k, k, fun _ _ e => e⟩
theorem OkAt.ext {K G σ H ρ Hs fp Hs' H'} (h : OkAt K G σ H ρ Hs fp) (e : Ext Hs H Hs' H') : OkAt K G σ H' ρ Hs' fp := by
  have th : ∀ a ∈ fp, ∃ o, H a = some o := h.env.there
  refine ⟨e.sh, h.base.trans e.s, h.frame.trans e.keep, fun a e1 e2 => ?_, fun a ha => ?_, h.nd, h.env.mono e.s fun a ha => ?_⟩
  · obtain ⟨q1, q2⟩ := h.priv a e1 e2
    obtain ⟨o, eo⟩ := Option.isSome_iff_exists.mp e1
    exact ⟨e.priv a (by rw [h.frame a o eo]; rfl) q1, q2⟩
  · obtain ⟨o, eo⟩ := th a ha
    exact e.priv a (by rw [eo]; rfl) (h.disj a ha)
  · obtain ⟨o, eo⟩ := th a ha
    rw [eo]; exact e.keep a o eo
end FL

namespace FL
open PySem PySem.Spec PyProof.Rows L2

/-! ### results -/
inductive RV where
  | leaf (d : D) | slot (i : Nat)
inductive Res (α : Type) where
  | ok (a : α) | exc (c : Str) (ρ : Env') | bad
def Res.bind {α β : Type} : Res α → (α → Res β) → Res β
  | .ok a, f => f a
  | .exc c ρ, _ => .exc c ρ
  | .bad, _ => .bad
@[simp] theorem bind_ok {α β : Type} (a : α) (f : α → Res β) : (Res.ok a).bind f = f a := rfl
@[simp] theorem bind_exc {α β : Type} (c : Str) (ρ : Env') (f : α → Res β) : (Res.exc c ρ).bind f = .exc c ρ := rfl
@[simp] theorem bind_bad {α β : Type} (f : α → Res β) : (Res.bad).bind f = .bad := rfl
def Res.of {α : Type} : Option α → Res α
  | some a => .ok a
  | none => .bad
@[simp] theorem of_some {α : Type} (a : α) : Res.of (some a) = .ok a := rfl
@[simp] theorem of_none {α : Type} : Res.of (none : Option α) = .bad := rfl

def RVd (K : PySem.W.Frag) (Hs : Hp) (σ : L2.St) : RV → V → Prop
  | .leaf d, v => Den K Hs d v
  | .slot i, v => σ[i]? = some (some v)
theorem RVd.mono {K Hs Hs' σ r v} (e : Same Hs Hs') (h : RVd K Hs σ r v) : RVd K Hs' σ r v := by
  cases r with
  | leaf d => exact Den.mono e h
  | slot i => exact h

/-! ### how a slot is looked at -/
def T.leaves : List T → Option (List D)
  | [] => some []
  | .sh d :: r => (T.leaves r).map (d :: ·)
  | _ :: _ => none
def T.top : T → Option D
  | .sh d => some d
  | .lst ts => (T.leaves ts).map D.lst
  | .dic ks ts => (T.leaves ts).map (D.dic ks)
  | .dit ks ts => (T.leaves ts).map (D.dit ks)
  | .at _ ts => (T.leaves ts).map D.lst
theorem T.leaves_sh : ∀ ds : List D, T.leaves (ds.map T.sh) = some ds
  | [] => rfl
  | d :: ds => by simp [T.leaves, T.leaves_sh ds]
theorem T.leaves_eq : ∀ {ts : List T} {ds : List D}, T.leaves ts = some ds → ts = ds.map T.sh
  | [], ds, h => by cases h; rfl
  | .sh d :: r, ds, h => by
    simp only [T.leaves, Option.map_eq_some_iff] at h
    obtain ⟨es, h1, h2⟩ := h
    subst h2
    simp [T.leaves_eq h1]
def look (ρ : Env') : RV → Option D
  | .leaf d => some d
  | .slot i => match ρ[i]? with
    | some (some t) => t.top
    | _ => none
/-- a thing whose own object may be owned; what is within is shared -/
def Den1 (K : PySem.W.Frag) (Hs H : Hp) : D → V → Prop
  | .lst ds, v => ∃ a vs, v = .ref a ∧ H a = some (.lst vs) ∧ DenL K Hs ds vs
  | .dic ks ds, v => ∃ a kv, v = .ref a ∧ H a = some (.dK kv) ∧ kv.map (·.1) = ks ∧ DenL K Hs ds (kv.map (·.2))
  | .dit ks ds, v => ∃ a kv, v = .ref a ∧ H a = some (.dT kv) ∧ kv.map (·.1) = ks ∧ DenL K Hs ds (kv.map (·.2))
  | d, v => Den K Hs d v
theorem Den.one {K Hs H} (e : Same Hs H) : ∀ {d v}, Den K Hs d v → Den1 K Hs H d v
  | .non, _, h | .bl _, _, h | .int _, _, h | .str _, _, h | .ty _, _, h | .tup _, _, h | .ftup _, _, h | .fz _, _, h => h
  | .lst _, _, ⟨a, vs, e1, e2, e3⟩ => ⟨a, vs, e1, e _ _ e2, e3⟩
  | .dic _ _, _, ⟨a, vs, e1, e2, e3, e4⟩ => ⟨a, vs, e1, e _ _ e2, e3, e4⟩
  | .dit _ _, _, ⟨a, vs, e1, e2, e3, e4⟩ => ⟨a, vs, e1, e _ _ e2, e3, e4⟩
theorem DenTL.leaf {K Hs H} : ∀ {ds : List D} {vs : List V} {fp : List Addr}, DenTL K Hs H (ds.map T.sh) vs fp → DenL K Hs ds vs ∧ fp = []
  | [], _, _, h => ⟨h.1, h.2⟩
  | d :: ds, _, _, ⟨v, r, f1, f2, e1, e2, e3, e4⟩ => by
    obtain ⟨h1, h2⟩ := DenTL.leaf e4
    obtain ⟨h3, h4⟩ := e3
    subst h2; subst h3; subst e1
    exact ⟨⟨v, r, rfl, h4, h1⟩, by simpa using e2⟩
theorem DenT.top {K Hs H} (e : Same Hs H) {t : T} {v : V} {fp : List Addr} {d : D} (h : DenT K Hs H t v fp) (q : t.top = some d) : Den1 K Hs H d v := by
  cases t with
  | sh d' =>
    cases q
    exact Den.one e h.2
  | lst ts =>
    simp only [T.top, Option.map_eq_some_iff] at q
    obtain ⟨ds, q1, q2⟩ := q
    subst q2
    rw [T.leaves_eq q1] at h
    obtain ⟨a, vs, fr, e1, e2, e3, e4⟩ := h
    exact ⟨a, vs, e1, e3, (DenTL.leaf e4).1⟩
  | dic ks ts =>
    simp only [T.top, Option.map_eq_some_iff] at q
    obtain ⟨ds, q1, q2⟩ := q
    subst q2
    rw [T.leaves_eq q1] at h
    obtain ⟨a, vs, fr, e1, e2, e3, e4, e5⟩ := h
    exact ⟨a, vs, e1, e3, e4, (DenTL.leaf e5).1⟩
  | dit ks ts =>
    simp only [T.top, Option.map_eq_some_iff] at q
    obtain ⟨ds, q1, q2⟩ := q
    subst q2
    rw [T.leaves_eq q1] at h
    obtain ⟨a, vs, fr, e1, e2, e3, e4, e5⟩ := h
    exact ⟨a, vs, e1, e3, e4, (DenTL.leaf e5).1⟩
  | «at» b ts =>
    simp only [T.top, Option.map_eq_some_iff] at q
    obtain ⟨ds, q1, q2⟩ := q
    subst q2
    rw [T.leaves_eq q1] at h
    obtain ⟨a, vs, fr, e1, e2, e3, e4, e5⟩ := h
    exact ⟨a, vs, e1, e3, (DenTL.leaf e5).1⟩
theorem look_den {K G σ H ρ Hs fp r v d} (h : OkAt K G σ H ρ Hs fp) (q : RVd K Hs σ r v) (e : look ρ r = some d) : Den1 K Hs H d v := by
  cases r with
  | leaf d' => cases e; exact Den.one h.sh q
  | slot i =>
    simp only [look] at e
    split at e
    · rename_i t hi
      obtain ⟨v', f1, f2, f3, h1, h2, h3, _⟩ := h.env.at hi
      have q' : σ[i]? = some (some v) := q
      rw [h1] at q'
      cases q'
      exact h3.top h.sh e
    · cases e

/-! ### expressions -/
section
variable (K : PySem.W.Frag) (mg : Str → Option Value) (W : WX)
def PoE (G : Gh) (σ : L2.St) (Q : VK) : Res (RV × Env') → Prop
  | .ok (r, ρ') => ∀ v H' Hs fp, OkAt K G σ H' ρ' Hs fp → RVd K Hs σ r v → Q v H'
  | .exc c ρ' => ∀ H' C, mg c = some (.ref C) → Ok K G σ H' ρ' → W (.ref C) none σ H'
  | .bad => False
/-- the reading of an expression by a function of the environment -/
def tFO (f : Env' → Res (RV × Env')) : TE := fun σ H Q => ∃ G ρ, Ok K G σ H ρ ∧ PoE K mg W G σ Q (f ρ)
def PoT (G : Gh) (σ : L2.St) (Q : Bool → Hp → Prop) : Res (Bool × Env') → Prop
  | .ok (b, ρ') => ∀ H', Ok K G σ H' ρ' → Q b H'
  | .exc c ρ' => ∀ H' C, mg c = some (.ref C) → Ok K G σ H' ρ' → W (.ref C) none σ H'
  | .bad => False
def tFB (f : Env' → Res (Bool × Env')) : TT := fun σ H Q => ∃ G ρ, Ok K G σ H ρ ∧ PoT K mg W G σ Q (f ρ)
/-- trees, fresh -/
def PoN (G : Gh) (σ : L2.St) (Q : VK) : Res (T × Env') → Prop
  | .ok (t, ρ') => ∀ v H' Hs fp ft, OkAt K G σ H' ρ' Hs fp → DenT K Hs H' t v ft → ft.Nodup → (∀ a ∈ ft, Hs a = none ∧ a ∉ fp ∧ G.2 a = none) → Q v H'
  | .exc c ρ' => ∀ H' C, mg c = some (.ref C) → Ok K G σ H' ρ' → W (.ref C) none σ H'
  | .bad => False
def tFN (f : Env' → Res (T × Env')) : TE := fun σ H Q => ∃ G ρ, Ok K G σ H ρ ∧ PoN K mg W G σ Q (f ρ)
def RVL (Hs : Hp) (σ : L2.St) : List RV → List V → Prop
  | [], vs => vs = []
  | r :: rs, vs => ∃ v ws, vs = v :: ws ∧ RVd K Hs σ r v ∧ RVL Hs σ rs ws
def PoA (G : Gh) (σ : L2.St) (Q : List V → Hp → Prop) : Res (List RV × Env') → Prop
  | .ok (rs, ρ') => ∀ vs H' Hs fp, OkAt K G σ H' ρ' Hs fp → RVL K Hs σ rs vs → Q vs H'
  | .exc c ρ' => ∀ H' C, mg c = some (.ref C) → Ok K G σ H' ρ' → W (.ref C) none σ H'
  | .bad => False
def tFA (f : Env' → Res (List RV × Env')) : TA := fun σ H Q => ∃ G ρ, Ok K G σ H ρ ∧ PoA K mg W G σ Q (f ρ)
end
theorem RVL.mono {K Hs Hs' σ} (e : Same Hs Hs') : ∀ {rs vs}, RVL K Hs σ rs vs → RVL K Hs' σ rs vs
  | [], _, h => h
  | _ :: _, _, ⟨v, ws, e1, e2, e3⟩ => ⟨v, ws, e1, e2.mono e, RVL.mono e e3⟩
theorem rem_none {K G σ H ρ Hs fp} (h : OkAt K G σ H ρ Hs fp) {a : Addr} (e : rem H fp a = none) : G.2 a = none := by
  cases z : G.2 a with
  | none => rfl
  | some o =>
    have n : a ∉ fp := fun hm => by
      cases y : G.1 a with
      | none => exact (h.priv a (by rw [z]; rfl) y).2 hm
      | some u =>
        have := h.disj a hm
        rw [h.base a u y] at this
        cases this
    simp only [rem, n, if_false] at e
    rw [h.frame a o z] at e
    cases e
theorem Ok.back {K G σ σ' H H' ρ ρ' Hs fp} (h : OkAt K G σ H ρ Hs fp) (h' : Ok K (Hs, rem H fp) σ' H' ρ') : Ok K G σ' H' ρ' := by
  obtain ⟨Hs', fp', k⟩ := h'
  exact ⟨Hs', fp', h.back k⟩
theorem _root_.L2.PE.imp {X : Cx} {e : Expr} {t t' : TE} (h : PE X e t) (i : ∀ σ H Q, t' σ H Q → t σ H Q) : PE X e t' := ⟨fun pins s σ H Q I q => h.run pins s σ H Q I (i σ H Q q)⟩
theorem _root_.L2.PT.imp {X : Cx} {e : Expr} {t t' : TT} (h : PT X e t) (i : ∀ σ H Q, t' σ H Q → t σ H Q) : PT X e t' := ⟨fun pins s σ H Q I q => h.run pins s σ H Q I (i σ H Q q)⟩
theorem _root_.L2.PW.imp {X : Cx} {e : Expr} {t t' : TT} (h : PW X e t) (i : ∀ σ H Q, t' σ H Q → t σ H Q) : PW X e t' := ⟨fun wh pins s σ H Q I q => h.run wh pins s σ H Q I (i σ H Q q)⟩
theorem _root_.L2.PA.imp {X : Cx} {e : List Expr} {t t' : TA} (h : PA X e t) (i : ∀ σ H Q, t' σ H Q → t σ H Q) : PA X e t' := ⟨fun pos pins s σ H Q I q => h.run pos pins s σ H Q I (i σ H Q q)⟩
theorem _root_.L2.PS.imp {X : Cx} {e : Stmt} {t t' : TS} (h : PS X e t) (i : ∀ D σ H, t' D σ H → t D σ H) : PS X e t' := ⟨fun pins s σ H D I q => h.run pins s σ H D I (i D σ H q)⟩
theorem _root_.L2.PSs.imp {X : Cx} {e : List Stmt} {t t' : TS} (h : PSs X e t) (i : ∀ D σ H, t' D σ H → t D σ H) : PSs X e t' := ⟨fun pins s σ H D I q => h.run pins s σ H D I (i D σ H q)⟩

section
variable {K : PySem.W.Frag} {mg : Str → Option Value} {W : WX} {G : Gh} {σ : L2.St} {H : Hp} {ρ : Env'} {Hs : Hp} {fp : List Addr} {β : Type} {P : Res β → Prop}
/-- an expression's reading, then the rest -/
theorem goE {f : Env' → Res (RV × Env')} {k : RV × Env' → Res β} {R : VK} (ok : OkAt K G σ H ρ Hs fp) (po : P ((f ρ).bind k))
    (hx : ∀ c ρ', P (.exc c ρ') → ∀ H' C, mg c = some (.ref C) → Ok K G σ H' ρ' → W (.ref C) none σ H') (hb : ¬ P .bad)
    (cont : ∀ r ρ1 x H1 Hs1 fp1, OkAt K (Hs, rem H fp) σ H1 ρ1 Hs1 fp1 → RVd K Hs1 σ r x → P (k (r, ρ1)) → R x H1) : tFO K mg W f σ H R := by
  refine ⟨_, ρ, ⟨Hs, fp, ok.self⟩, ?_⟩
  cases e : f ρ with
  | ok p =>
    obtain ⟨r, ρ1⟩ := p
    rw [e] at po
    exact fun x H1 Hs1 fp1 ok1 d1 => cont r ρ1 x H1 Hs1 fp1 ok1 d1 po
  | exc c ρ' =>
    rw [e] at po
    exact fun H' C hc o => hx c ρ' po H' C hc (Ok.back ok o)
  | bad =>
    rw [e] at po
    exact hb po
theorem goT {f : Env' → Res (Bool × Env')} {k : Bool × Env' → Res β} {R : Bool → Hp → Prop} (ok : OkAt K G σ H ρ Hs fp) (po : P ((f ρ).bind k))
    (hx : ∀ c ρ', P (.exc c ρ') → ∀ H' C, mg c = some (.ref C) → Ok K G σ H' ρ' → W (.ref C) none σ H') (hb : ¬ P .bad)
    (cont : ∀ b ρ1 H1 Hs1 fp1, OkAt K (Hs, rem H fp) σ H1 ρ1 Hs1 fp1 → P (k (b, ρ1)) → R b H1) : tFB K mg W f σ H R := by
  refine ⟨_, ρ, ⟨Hs, fp, ok.self⟩, ?_⟩
  cases e : f ρ with
  | ok p =>
    obtain ⟨r, ρ1⟩ := p
    rw [e] at po
    exact fun H1 ⟨Hs1, fp1, ok1⟩ => cont r ρ1 H1 Hs1 fp1 ok1 po
  | exc c ρ' =>
    rw [e] at po
    exact fun H' C hc o => hx c ρ' po H' C hc (Ok.back ok o)
  | bad =>
    rw [e] at po
    exact hb po
theorem goN {f : Env' → Res (T × Env')} {k : T × Env' → Res β} {R : VK} (ok : OkAt K G σ H ρ Hs fp) (po : P ((f ρ).bind k))
    (hx : ∀ c ρ', P (.exc c ρ') → ∀ H' C, mg c = some (.ref C) → Ok K G σ H' ρ' → W (.ref C) none σ H') (hb : ¬ P .bad)
    (cont : ∀ t ρ1 x H1 Hs1 fp1 ft, OkAt K (Hs, rem H fp) σ H1 ρ1 Hs1 fp1 → DenT K Hs1 H1 t x ft → ft.Nodup → (∀ a ∈ ft, Hs1 a = none ∧ a ∉ fp1 ∧ rem H fp a = none) → P (k (t, ρ1)) → R x H1) : tFN K mg W f σ H R := by
  refine ⟨_, ρ, ⟨Hs, fp, ok.self⟩, ?_⟩
  cases e : f ρ with
  | ok p =>
    obtain ⟨r, ρ1⟩ := p
    rw [e] at po
    exact fun x H1 Hs1 fp1 ft ok1 d1 n1 q1 => cont r ρ1 x H1 Hs1 fp1 ft ok1 d1 n1 q1 po
  | exc c ρ' =>
    rw [e] at po
    exact fun H' C hc o => hx c ρ' po H' C hc (Ok.back ok o)
  | bad =>
    rw [e] at po
    exact hb po
theorem goA {f : Env' → Res (List RV × Env')} {k : List RV × Env' → Res β} {R : List V → Hp → Prop} (ok : OkAt K G σ H ρ Hs fp) (po : P ((f ρ).bind k))
    (hx : ∀ c ρ', P (.exc c ρ') → ∀ H' C, mg c = some (.ref C) → Ok K G σ H' ρ' → W (.ref C) none σ H') (hb : ¬ P .bad)
    (cont : ∀ rs ρ1 xs H1 Hs1 fp1, OkAt K (Hs, rem H fp) σ H1 ρ1 Hs1 fp1 → RVL K Hs1 σ rs xs → P (k (rs, ρ1)) → R xs H1) : tFA K mg W f σ H R := by
  refine ⟨_, ρ, ⟨Hs, fp, ok.self⟩, ?_⟩
  cases e : f ρ with
  | ok p =>
    obtain ⟨r, ρ1⟩ := p
    rw [e] at po
    exact fun x H1 Hs1 fp1 ok1 d1 => cont r ρ1 x H1 Hs1 fp1 ok1 d1 po
  | exc c ρ' =>
    rw [e] at po
    exact fun H' C hc o => hx c ρ' po H' C hc (Ok.back ok o)
  | bad =>
    rw [e] at po
    exact hb po
end

/-! ### names, constants -/
section
variable {X : Cx} {mg : Str → Option Value} {W : WX}
def eVar (i : Nat) : Env' → Res (RV × Env') := fun ρ => match ρ[i]? with
  | some (some (.sh d)) => .ok (.leaf d, ρ)
  | some (some _) => .ok (.slot i, ρ)
  | _ => .bad
def eC (d : D) : Env' → Res (RV × Env') := fun ρ => .ok (.leaf d, ρ)
theorem fo_var (i : Nat) {x : Str} {pos : Pos} (hN : X.N[i]? = some x := by rfl) (hv : Vis X.env.scope x := by first | exact Or.inl rfl | exact Or.inr (Or.inl rfl) | exact Or.inr (Or.inr rfl)) (hd : (x == ("__debug__" : Str)) = false := by decide)
    (hcd : (x == ("__classdict__" : Str)) = false := by decide) : PE X (.Name x pos) (tFO X.K mg W (eVar i)) := by
  refine (pe_var hN hv hd hcd).imp fun σ H Q ⟨G, ρ, ⟨Hs, fp, ok⟩, po⟩ => ?_
  unfold eVar at po
  split at po
  · rename_i d hi
    obtain ⟨v, f1, f2, f3, h1, h2, h3, _⟩ := ok.env.at hi
    exact ⟨v, h1, po v H Hs fp ok h3.2⟩
  · rename_i t hi
    obtain ⟨v, f1, f2, f3, h1, h2, h3, _⟩ := ok.env.at hi
    exact ⟨v, h1, po v H Hs fp ok h1⟩
  · exact po.elim
theorem fo_c {e : Expr} {v : V} {d : D} (h : PE X e (tC v)) (hd : ∀ H, Den X.K H d v) : PE X e (tFO X.K mg W (eC d)) :=
  h.imp fun σ H Q ⟨G, ρ, ⟨Hs, fp, ok⟩, po⟩ => po v H Hs fp ok (hd Hs)
theorem fo_int {i j pos} : PE X (.Constant (.int i) j pos) (tFO X.K mg W (eC (.int i))) := fo_c pe_int fun _ => rfl
theorem fo_bl {b j pos} : PE X (.Constant (.bool b) j pos) (tFO X.K mg W (eC (.bl b))) := fo_c pe_bl fun _ => rfl
theorem fo_non {j pos} : PE X (.Constant .none j pos) (tFO X.K mg W (eC .non)) := fo_c pe_non fun _ => rfl
theorem fo_str {x j pos} (h : sOk x := by decide +kernel) : PE X (.Constant (.str x) j pos) (tFO X.K mg W (eC (.str x))) := fo_c pe_str fun _ => ⟨rfl, h⟩
/-- a constant of the module -/
theorem fo_glob {x : Str} {d : D} {v : V} {u : Value} {pos : Pos} (hg : Gl X x) (hm : X.mg x = some u) (r : RelV v u) (hd : ∀ H, Den X.K H d v) (hdb : (x == ("__debug__" : Str)) = false := by decide) : PE X (.Name x pos) (tFO X.K mg W (eC d)) :=
  fo_c (pe_glob hg hm r hdb) hd

/-! ### two-place operations -/
/-- an operation on data; its end is shared, new things may have been made -/
def OpD (X : Cx) (f : Value → Value → Sem Value) (g : D → D → Option D) : Prop :=
  OpR X f fun x y H Q => ∃ Hs d1 d2 d, Same Hs H ∧ Den1 X.K Hs H d1 x ∧ Den1 X.K Hs H d2 y ∧ g d1 d2 = some d ∧ ∀ v Hs' H', Ext Hs H Hs' H' → Den X.K Hs' d v → Q v H'
def eBin (g : D → D → Option D) (fa fb : Env' → Res (RV × Env')) : Env' → Res (RV × Env') := fun ρ =>
  (fa ρ).bind fun (r1, ρ1) => (fb ρ1).bind fun (r2, ρ2) => (Res.of (look ρ2 r1)).bind fun d1 => (Res.of (look ρ2 r2)).bind fun d2 => (Res.of (g d1 d2)).bind fun d => .ok (.leaf d, ρ2)
section
variable {a b c : Expr} {fa fb fc : Env' → Res (RV × Env')} {pos : Pos}
theorem bin_go {r : R2} {g : D → D → Option D} (hr : ∀ x y H Q, (∃ Hs d1 d2 d, Same Hs H ∧ Den1 X.K Hs H d1 x ∧ Den1 X.K Hs H d2 y ∧ g d1 d2 = some d ∧ ∀ v Hs' H', Ext Hs H Hs' H' → Den X.K Hs' d v → Q v H') → r x y H Q)
    {σ : L2.St} {H : Hp} {Q : VK} (h : tFO X.K mg W (eBin g fa fb) σ H Q) : tOp r (tFO X.K mg W fa) (tFO X.K mg W fb) σ H Q := by
  obtain ⟨G, ρ, ⟨Hs, fp, ok⟩, po⟩ := h
  refine goE ok po (fun _ _ h => h) id fun r1 ρ1 x H1 Hs1 fp1 ok1 dx po1 => ?_
  have ok1' := ok.back ok1
  refine goE ok1' po1 (fun _ _ h => h) id fun r2 ρ2 y H2 Hs2 fp2 ok2 dy po2 => hr x y H2 Q ?_
  have ok2' := ok1'.back ok2
  have dx' : RVd X.K Hs2 σ r1 x := dx.mono ok2.base
  cases e1 : look ρ2 r1 with
  | none => simp only [e1] at po2; exact po2.elim
  | some d1 =>
    cases e2 : look ρ2 r2 with
    | none => simp only [e1, e2] at po2; exact po2.elim
    | some d2 =>
      cases e3 : g d1 d2 with
      | none => simp only [e1, e2, e3, of_some, bind_ok] at po2; exact po2.elim
      | some d =>
        simp only [e1, e2, e3, of_some, bind_ok] at po2
        exact ⟨Hs2, d1, d2, d, ok2'.sh, look_den ok2' dx' e1, look_den ok2' dy e2, e3, fun v Hs' H' ex dv => po2 v H' Hs' fp2 (ok2'.ext ex) dv⟩
theorem fo_bin {op : Operator} {g : D → D → Option D} (ho : OpD X (binaryOp op) g) (ha : PE X a (tFO X.K mg W fa)) (hb : PE X b (tFO X.K mg W fb)) : PE X (.BinOp a op b pos) (tFO X.K mg W (eBin g fa fb)) :=
  (pe_op ho ha hb).imp fun _ _ _ h => bin_go (fun _ _ _ _ q => q) h
theorem fo_cmp {op : CmpOp} {g : D → D → Option D} (ho : OpD X (compareOp op) g) (ha : PE X a (tFO X.K mg W fa)) (hb : PE X b (tFO X.K mg W fb)) (hm : behindInMarks op b = false) : PE X (.Compare a [op] [b] pos) (tFO X.K mg W (eBin g fa fb)) :=
  (pe_cmpR ho ha hb hm).imp fun _ _ _ h => bin_go (fun _ _ _ _ q => q) h
end
end
end FL

namespace FL
open PySem PySem.Spec PyProof.Rows L2

/-! ### texts -/
theorem strOk_app {x y : Str} (hx : PyData.strOk x = true) (hy : PyData.strOk y = true) : PyData.strOk (x ++ y) = true := by
  unfold PyData.strOk at *
  show (x.cps ++ y.cps).all _ = true
  rw [Array.all_append, hx, hy]; rfl
theorem strOk_sub {x : Str} {l : List Nat} (hx : PyData.strOk x = true) (h : ∀ c ∈ l, c ∈ x.cps.toList) : PyData.strOk ⟨l.toArray⟩ = true := by
  unfold PyData.strOk at *
  simp only [Array.all_eq_true', decide_eq_true_eq] at *
  intro c hc
  exact hx c (by simpa using h c (by simpa using hc))
theorem len_app (x y : Str) : (x ++ y).length = x.length + y.length := by
  show (x.cps ++ y.cps).size = _
  rw [Array.size_append]; rfl
theorem sOk_app {x y : Str} (hx : sOk x) (hy : sOk y) (h : x.length + y.length ≤ sizeLine) : sOk (x ++ y) := ⟨by rw [len_app]; exact h, strOk_app hx.2 hy.2⟩
theorem sOk_sub {x : Str} {l : List Nat} (hx : sOk x) (h : ∀ c ∈ l, c ∈ x.cps.toList) (hl : l.length ≤ x.length) : sOk ⟨l.toArray⟩ := ⟨by show l.toArray.size ≤ _; rw [List.size_toArray]; exact Nat.le_trans hl hx.1, strOk_sub hx.2 h⟩
theorem sOk_sign {x : Str} {c : Nat} (hx : sOk x) (h : c ∈ x.cps.toList) : sOk ⟨#[c]⟩ := sOk_sub (l := [c]) hx (by simpa using h) (by
  have : 0 < x.cps.toList.length := List.length_pos_of_mem h
  simp only [List.length_cons, List.length_nil, Array.length_toList] at this ⊢; exact this)

/-! ### data for == -/
mutual
def D.py : D → PyData
  | .non => .none
  | .bl b => .bool b
  | .int i => .int i
  | .str x => .str x
  | .ty _ => .dict []
  | .tup ds => .tuple (D.pys ds)
  | .ftup ds => .tuple (D.pys ds)
  | .lst ds => .list (D.pys ds)
  | .fz ds => .list (D.pys ds)
  | .dic _ _ => .dict []
  | .dit _ _ => .dict []
def D.pys : List D → List PyData
  | [] => []
  | d :: ds => d.py :: D.pys ds
end
mutual
def D.data : D → Bool
  | .non => true
  | .bl _ => true
  | .int _ => true
  | .str _ => true
  | .tup ds => D.datas ds
  | .ftup ds => D.datas ds
  | .lst ds => D.datas ds
  | .fz ds => D.datas ds
  | _ => false
def D.datas : List D → Bool
  | [] => true
  | d :: ds => d.data && D.datas ds
end
mutual
def D.deep : D → Nat
  | .tup ds => D.deeps ds + 1
  | .ftup ds => D.deeps ds + 1
  | .lst ds => D.deeps ds + 1
  | .fz ds => D.deeps ds + 1
  | _ => 0
def D.deeps : List D → Nat
  | [] => 0
  | d :: ds => max d.deep (D.deeps ds)
end
theorem D.pys_map : ∀ ds : List D, D.pys ds = ds.map D.py
  | [] => rfl
  | d :: ds => by rw [D.pys, D.pys_map ds]; rfl
mutual
theorem D.deep_py : ∀ d : D, d.data = true → d.py.depth = d.deep
  | .non, _ | .bl _, _ | .int _, _ | .str _, _ => by simp [D.py, PyData.depth, D.deep]
  | .tup ds, h | .ftup ds, h | .lst ds, h | .fz ds, h => by simp [D.py, PyData.depth, D.deep, D.deeps_py ds (by simpa [D.data] using h)]
  | .ty _, h | .dic _ _, h | .dit _ _, h => by simp [D.data] at h
theorem D.deeps_py : ∀ ds : List D, D.datas ds = true → PyData.depthAll (D.pys ds) = D.deeps ds
  | [], _ => by simp [D.pys, PyData.depthAll, D.deeps]
  | d :: ds, h => by
    simp only [D.datas, Bool.and_eq_true] at h
    simp [D.pys, PyData.depthAll, D.deeps, D.deep_py d h.1, D.deeps_py ds h.2]
end
mutual
theorem Den.dp {K H} : ∀ {d : D} {v : V}, Den K H d v → d.data = true → Dp K H v d.py ∧ d.py.canLay0 = true
  | .non, _, h, _ => by rw [h]; exact ⟨.non, by simp [D.py, PyData.canLay0]⟩
  | .bl _, _, h, _ => by rw [h]; exact ⟨.bl _, by simp [D.py, PyData.canLay0]⟩
  | .int _, _, h, _ => by rw [h]; exact ⟨.int _, by simp [D.py, PyData.canLay0]⟩
  | .str _, _, h, _ => by rw [h.1]; exact ⟨.str _, by simpa [D.py, PyData.canLay0] using h.2.2⟩
  | .tup ds, _, ⟨a, vs, e1, e2, e3⟩, q => by
    obtain ⟨h1, h2⟩ := DenL.dp e3 (by simpa [D.data] using q)
    rw [e1]
    exact ⟨.tup (SqT.of e2) h1, by simpa [D.py, PyData.canLay0] using h2⟩
  | .ftup ds, _, ⟨a, vs, e1, e2, e3⟩, q => by
    obtain ⟨h1, h2⟩ := DenL.dp e3 (by simpa [D.data] using q)
    rw [e1]
    exact ⟨.tup e2 h1, by simpa [D.py, PyData.canLay0] using h2⟩
  | .lst ds, _, ⟨a, vs, e1, e2, e3⟩, q => by
    obtain ⟨h1, h2⟩ := DenL.dp e3 (by simpa [D.data] using q)
    rw [e1]
    exact ⟨.lst (SqL.lst e2) h1, by simpa [D.py, PyData.canLay0] using h2⟩
  | .fz ds, _, ⟨a, vs, e1, e2, e3⟩, q => by
    obtain ⟨h1, h2⟩ := DenL.dp e3 (by simpa [D.data] using q)
    rw [e1]
    exact ⟨.lst e2 h1, by simpa [D.py, PyData.canLay0] using h2⟩
  | .ty _, _, _, h | .dic _ _, _, _, h | .dit _ _, _, _, h => by simp [D.data] at h
theorem DenL.dp {K H} : ∀ {ds : List D} {vs : List V}, DenL K H ds vs → D.datas ds = true → DpAll K H vs (D.pys ds) ∧ PyData.canLayAll0 (D.pys ds) = true
  | [], _, h, _ => by cases h; exact ⟨.nil, by simp [D.pys, PyData.canLayAll0]⟩
  | d :: ds, _, ⟨v, r, e1, e2, e3⟩, q => by
    simp only [D.datas, Bool.and_eq_true] at q
    obtain ⟨h1, h2⟩ := Den.dp e2 q.1
    obtain ⟨h3, h4⟩ := DenL.dp e3 q.2
    subst e1
    exact ⟨.cons h1 h3, by simp [D.pys, PyData.canLayAll0, h2, h4]⟩
end
theorem Den1.full {K Hs H} (e : Same Hs H) : ∀ {d v}, Den1 K Hs H d v → Den K H d v
  | .non, _, h | .bl _, _, h | .int _, _, h | .str _, _, h | .ty _, _, h => h
  | .tup _, _, h | .ftup _, _, h | .fz _, _, h => Den.mono e h
  | .lst _, _, ⟨a, vs, e1, e2, e3⟩ => ⟨a, vs, e1, e2, e3.mono e⟩
  | .dic _ _, _, ⟨a, vs, e1, e2, e3, e4⟩ => ⟨a, vs, e1, e2, e3, e4.mono e⟩
  | .dit _ _, _, ⟨a, vs, e1, e2, e3, e4⟩ => ⟨a, vs, e1, e2, e3, e4.mono e⟩
def D.cmpOk (d : D) : Bool := d.data && decide (d.deep ≤ 60)
theorem D.shaped {K H d v} (h : Den K H d v) (q : D.cmpOk d = true) : Dp K H v d.py ∧ SeqAt.shaped d.py = true := by
  simp only [D.cmpOk, Bool.and_eq_true, decide_eq_true_eq] at q
  obtain ⟨h1, h2⟩ := h.dp q.1
  refine ⟨h1, ?_⟩
  unfold SeqAt.shaped
  rw [h2, D.deep_py d q.1]
  simp only [Bool.true_and, decide_eq_true_eq]
  omega
/-- == -/
def D.eqb (d e : D) : Bool := PyData.eqv d.py e.py
def D.eq (d e : D) : Option D := if D.cmpOk d = true ∧ D.cmpOk e = true then some (.bl (D.eqb d e)) else none
def D.ne (d e : D) : Option D := if D.cmpOk d = true ∧ D.cmpOk e = true then some (.bl (!D.eqb d e)) else none
def D.items : D → Option (List D)
  | .lst ds => some ds
  | .tup ds => some ds
  | .ftup ds => some ds
  | .fz ds => some ds
  | _ => none
def sIn (x z : Str) : Bool := match x.cps.toList with
  | [c] => decide (c ∈ z.cps.toList)
  | _ => !(Builtin.Str.occurrences z x 0 z.length 1).isEmpty
/-- flat -/
def D.flat : D → Bool
  | .non => true
  | .bl _ => true
  | .int _ => true
  | .str _ => true
  | _ => false
def D.isin (d e : D) : Option D := match e with
  | .str z => match d with
    | .str x => some (.bl (sIn x z))
    | _ => none
  | .lst ds => if D.cmpOk d = true ∧ D.cmpOk (.lst ds) = true then some (.bl (ds.any fun z => D.eqb z d)) else none
  | .fz ds => if D.cmpOk d = true ∧ D.cmpOk (.lst ds) = true then some (.bl (ds.any fun z => D.eqb z d)) else none
  | .tup ds => if d.flat = true ∧ ds.all D.flat = true then some (.bl (ds.any fun z => D.eqb z d)) else none
  | .ftup ds => if d.flat = true ∧ ds.all D.flat = true then some (.bl (ds.any fun z => D.eqb z d)) else none
  | _ => none
def D.notin (d e : D) : Option D := match D.isin d e with
  | some (.bl b) => some (.bl (!b))
  | _ => none
section
variable {X : Cx}
theorem od_eq (hu : X.A.units + 64 < cLine) : OpD X (compareOp .Eq) D.eq := by
  rintro pins s σ H x y v u Q I rx ry ⟨Hs, d1, d2, d, e, h1, h2, g, q⟩
  unfold D.eq at g
  split at g
  · rename_i c
    cases g
    obtain ⟨p1, q1⟩ := D.shaped (h1.full e) c.1
    obtain ⟨p2, q2⟩ := D.shaped (h2.full e) c.2
    exact op_eqD hu pins s σ H x y v u Q I rx ry ⟨_, _, p1, p2, q1, q2, q _ _ _ (.refl e) rfl⟩
  · cases g
theorem od_ne (hu : X.A.units + 64 < cLine) : OpD X (compareOp .NotEq) D.ne := by
  rintro pins s σ H x y v u Q I rx ry ⟨Hs, d1, d2, d, e, h1, h2, g, q⟩
  unfold D.ne at g
  split at g
  · rename_i c
    cases g
    obtain ⟨p1, q1⟩ := D.shaped (h1.full e) c.1
    obtain ⟨p2, q2⟩ := D.shaped (h2.full e) c.2
    exact op_neD hu pins s σ H x y v u Q I rx ry ⟨_, _, p1, p2, q1, q2, q _ _ _ (.refl e) rfl⟩
  · cases g
theorem any_py (d : D) : ∀ ds : List D, (D.pys ds).any (fun z => PyData.eqv z d.py) = ds.any fun z => D.eqb z d
  | [] => rfl
  | e :: ds => by simp [D.pys, any_py d ds, D.eqb]
theorem flat_den {K H} {d : D} {v : V} (h : Den K H d v) (q : d.flat = true) : flatV v = true := by
  cases d with
  | non => rw [show v = _ from h]; rfl
  | bl b => rw [show v = _ from h]; rfl
  | int i => rw [show v = _ from h]; rfl
  | str x => rw [h.1]; rfl
  | _ => cases q
theorem flats_den {K H} : ∀ {ds : List D} {vs : List V}, DenL K H ds vs → ds.all D.flat = true → vs.all flatV = true
  | [], _, h, _ => by rw [h]; rfl
  | d :: ds, _, ⟨v, r, e1, e2, e3⟩, q => by
    rw [List.all_cons, Bool.and_eq_true] at q
    rw [e1, List.all_cons, flat_den e2 q.1, flats_den e3 q.2]; rfl
theorem eqV_den {K H} {d e : D} {v w : V} (h1 : Den K H d v) (h2 : Den K H e w) (f1 : d.flat = true) (f2 : e.flat = true) : eqV v w = D.eqb d e := by
  have z : ∀ {d : D} {v : V}, Den K H d v → d.flat = true → (d = .non ∧ v = .non) ∨ (∃ b, d = .bl b ∧ v = .bl b) ∨ (∃ i, d = .int i ∧ v = .int i) ∨ ∃ x, d = .str x ∧ v = .str x := by
    intro d v h q
    cases d with
    | non => exact .inl ⟨rfl, h⟩
    | bl b => exact .inr (.inl ⟨_, rfl, h⟩)
    | int i => exact .inr (.inr (.inl ⟨_, rfl, h⟩))
    | str x => exact .inr (.inr (.inr ⟨_, rfl, h.1⟩))
    | _ => cases q
  rcases z h1 f1 with ⟨rfl, rfl⟩ | ⟨b, rfl, rfl⟩ | ⟨i, rfl, rfl⟩ | ⟨x, rfl, rfl⟩ <;> rcases z h2 f2 with ⟨rfl, rfl⟩ | ⟨b', rfl, rfl⟩ | ⟨i', rfl, rfl⟩ | ⟨x', rfl, rfl⟩ <;> simp [eqV, D.eqb, D.py, PyData.eqv]
theorem inV_den {K H} {d : D} {v : V} (h1 : Den K H d v) (f1 : d.flat = true) : ∀ {ds : List D} {vs : List V}, DenL K H ds vs → ds.all D.flat = true → inV v vs = ds.any fun z => D.eqb z d
  | [], _, h, _ => by rw [h]; rfl
  | e :: ds, _, ⟨w, r, e1, e2, e3⟩, q => by
    rw [List.all_cons, Bool.and_eq_true] at q
    have := inV_den h1 f1 e3 q.2
    unfold inV at *
    rw [e1, List.any_cons, List.any_cons, this, eqV_den e2 h1 q.1 f1]
theorem sIn_str (x z : Str) (P : Bool → Prop) : P (sIn x z) → (∃ c, x = ⟨#[c]⟩ ∧ P (decide (c ∈ z.cps.toList))) ∨ P (!(Builtin.Str.occurrences z x 0 z.length 1).isEmpty) := by
  intro h
  unfold sIn at h
  split at h
  · rename_i c hc
    refine .inl ⟨c, ?_, h⟩
    cases x with
    | mk a =>
      have : a = #[c] := by
        apply Array.toList_inj.mp
        simpa using hc
      rw [this]
  · exact .inr h
theorem od_in (hu : X.A.units + 65 < cLine) : OpD X (compareOp .In) D.isin := by
  rintro pins s σ H x y v u Q I rx ry ⟨Hs, d1, d2, d, e, h1, h2, g, q⟩
  unfold D.isin at g
  split at g
  · split at g
    · cases g
      obtain ⟨rfl, _⟩ := h1
      obtain ⟨rfl, _⟩ := h2
      have := q _ _ _ (.refl e) rfl
      rcases sIn_str _ _ (fun b => Q (.bl b) H) this with ⟨c, hc, z⟩ | z
      · exact op_in_sign pins s σ H _ _ v u Q I rx ry ⟨c, _, by rw [hc], rfl, z⟩
      · exact op_in_str pins s σ H _ _ v u Q I rx ry ⟨_, _, rfl, rfl, z⟩
    · cases g
  · split at g
    · rename_i ds c
      cases g
      obtain ⟨p1, q1⟩ := D.shaped (h1.full e) c.1
      obtain ⟨p2, q2⟩ := D.shaped (Den1.full (d := .lst ds) e h2) c.2
      exact op_inD hu pins s σ H x y v u Q I rx ry ⟨_, _, p1, p2, q1, q2, by rw [any_py]; exact q _ _ _ (.refl e) rfl⟩
    · cases g
  · split at g
    · rename_i ds c
      cases g
      obtain ⟨p1, q1⟩ := D.shaped (h1.full e) c.1
      have c2 : D.cmpOk (.fz ds) = true := c.2
      obtain ⟨p2, q2⟩ := D.shaped (Den1.full (d := .fz ds) e h2) c2
      exact op_inD hu pins s σ H x y v u Q I rx ry ⟨_, _, p1, p2, q1, q2, by rw [any_py]; exact q _ _ _ (.refl e) rfl⟩
    · cases g
  · split at g
    · rename_i ds c
      cases g
      obtain ⟨a, vs, e1, e2, e3⟩ := (Den1.full (d := .tup ds) e h2)
      have f1 := h1.full e
      refine op_in_seq pins s σ H x y v u Q I rx ry ⟨a, vs, e1, .inr (SqT.of e2), flat_den f1 c.1, flats_den e3 c.2, ?_⟩
      rw [if_neg (by simp), inV_den f1 c.1 e3 c.2]
      exact q _ _ _ (.refl e) rfl
    · cases g
  · split at g
    · rename_i ds c
      cases g
      obtain ⟨a, vs, e1, e2, e3⟩ := (Den1.full (d := .ftup ds) e h2)
      have f1 := h1.full e
      refine op_in_seq pins s σ H x y v u Q I rx ry ⟨a, vs, e1, .inr e2, flat_den f1 c.1, flats_den e3 c.2, ?_⟩
      rw [if_neg (by simp), inV_den f1 c.1 e3 c.2]
      exact q _ _ _ (.refl e) rfl
    · cases g
  · cases g
theorem od_notin (hu : X.A.units + 65 < cLine) : OpD X (compareOp .NotIn) D.notin := by
  rintro pins s σ H x y v u Q I rx ry ⟨Hs, d1, d2, d, e, h1, h2, g, q⟩
  unfold D.notin D.isin at g
  split at g
  · rename_i b g2
    cases g
    split at g2
    · split at g2
      · cases g2
        obtain ⟨rfl, _⟩ := h1
        obtain ⟨rfl, _⟩ := h2
        have := q _ _ _ (.refl e) rfl
        rcases sIn_str _ _ (fun b => Q (.bl (!b)) H) this with ⟨c, hc, z⟩ | z
        · exact op_notIn_sign pins s σ H _ _ v u Q I rx ry ⟨c, _, by rw [hc], rfl, z⟩
        · exact op_notIn_str pins s σ H _ _ v u Q I rx ry ⟨_, _, rfl, rfl, z⟩
      · cases g2
    · split at g2
      · rename_i ds c
        cases g2
        obtain ⟨p1, q1⟩ := D.shaped (h1.full e) c.1
        obtain ⟨p2, q2⟩ := D.shaped (Den1.full (d := .lst ds) e h2) c.2
        exact op_notInD hu pins s σ H x y v u Q I rx ry ⟨_, _, p1, p2, q1, q2, by rw [any_py]; exact q _ _ _ (.refl e) rfl⟩
      · cases g2
    · split at g2
      · rename_i ds c
        cases g2
        obtain ⟨p1, q1⟩ := D.shaped (h1.full e) c.1
        have c2 : D.cmpOk (.fz ds) = true := c.2
        obtain ⟨p2, q2⟩ := D.shaped (Den1.full (d := .fz ds) e h2) c2
        exact op_notInD hu pins s σ H x y v u Q I rx ry ⟨_, _, p1, p2, q1, q2, by rw [any_py]; exact q _ _ _ (.refl e) rfl⟩
      · cases g2
    · split at g2
      · rename_i ds c
        cases g2
        obtain ⟨a, vs, e1, e2, e3⟩ := (Den1.full (d := .tup ds) e h2)
        have f1 := h1.full e
        refine op_notIn_seq pins s σ H x y v u Q I rx ry ⟨a, vs, e1, .inr (SqT.of e2), flat_den f1 c.1, flats_den e3 c.2, ?_⟩
        rw [if_pos rfl, inV_den f1 c.1 e3 c.2]
        exact q _ _ _ (.refl e) rfl
      · cases g2
    · split at g2
      · rename_i ds c
        cases g2
        obtain ⟨a, vs, e1, e2, e3⟩ := (Den1.full (d := .ftup ds) e h2)
        have f1 := h1.full e
        refine op_notIn_seq pins s σ H x y v u Q I rx ry ⟨a, vs, e1, .inr e2, flat_den f1 c.1, flats_den e3 c.2, ?_⟩
        rw [if_pos rfl, inV_den f1 c.1 e3 c.2]
        exact q _ _ _ (.refl e) rfl
      · cases g2
    · cases g2
  · cases g
end
end FL

namespace FL
open PySem PySem.Spec PyProof.Rows L2

/-! ### one-place operations, calls of built-ins, by data -/
noncomputable def UnD (X : Cx) (f : Value → Sem Value) (g : D → Option D) : Prop :=
  UnR X f fun x H Q => ∃ Hs d1 d, Same Hs H ∧ Den1 X.K Hs H d1 x ∧ g d1 = some d ∧ ∀ v Hs' H', Ext Hs H Hs' H' → Den X.K Hs' d v → Q v H'
noncomputable def Den1L (K : PySem.W.Frag) (Hs H : Hp) : List D → List V → Prop
  | [], vs => vs = []
  | d :: ds, vs => ∃ v r, vs = v :: r ∧ Den1 K Hs H d v ∧ Den1L K Hs H ds r
noncomputable def CallD (X : Cx) (f : Value) (g : List D → Option D) : Prop :=
  CallR X f fun xs H Q => ∃ Hs ds d, Same Hs H ∧ Den1L X.K Hs H ds xs ∧ g ds = some d ∧ ∀ v Hs' H', Ext Hs H Hs' H' → Den X.K Hs' d v → Q v H'
/-- a call that makes a list of one's own -/
noncomputable def CallN (X : Cx) (f : Value) (g : List D → Option (List D)) : Prop :=
  CallR X f fun xs H Q => ∃ Hs ds es, Same Hs H ∧ Den1L X.K Hs H ds xs ∧ g ds = some es ∧ ∀ p H' vs, H p = none → H' p = some (.lst vs) → (∀ b o, H b = some o → H' b = some o) → DenL X.K Hs es vs → Q (.ref p) H'
noncomputable def CallD.or {X f g g'} (h : CallD X f g) (h' : CallD X f g') : CallD X f fun ds => (g ds).or (g' ds) := by
  rintro pins s σ H xs us Q I r ⟨Hs, ds, d, e, h1, h2, q⟩
  cases z : g ds with
  | some d' =>
    simp only [z, Option.some_or] at h2
    cases h2
    exact h pins s σ H xs us Q I r ⟨Hs, ds, _, e, h1, z, q⟩
  | none =>
    simp only [z, Option.none_or] at h2
    exact h' pins s σ H xs us Q I r ⟨Hs, ds, _, e, h1, h2, q⟩
theorem Den1L.d1 {K Hs H d xs} (h : Den1L K Hs H [d] xs) : ∃ v, xs = [v] ∧ Den1 K Hs H d v := by
  obtain ⟨v, r, e, h1, h2⟩ := h
  cases h2
  exact ⟨v, e, h1⟩
theorem Den1L.d2 {K Hs H d e xs} (h : Den1L K Hs H [d, e] xs) : ∃ v w, xs = [v, w] ∧ Den1 K Hs H d v ∧ Den1 K Hs H e w := by
  obtain ⟨v, r, e1, h1, h2⟩ := h
  obtain ⟨w, rfl, h3⟩ := Den1L.d1 h2
  exact ⟨v, w, e1, h1, h3⟩
/-- what a list's or tuple's object holds -/
theorem seq_den {K Hs H d v ds} (e : Same Hs H) (h : Den1 K Hs H d v) (q : D.items d = some ds) : ∃ a vs, v = .ref a ∧ (SqL K H a vs ∨ SqT K H a vs) ∧ DenL K Hs ds vs := by
  cases d with
  | lst xs => cases q; obtain ⟨a, vs, e1, e2, e3⟩ := h; exact ⟨a, vs, e1, .inl (SqL.lst e2), e3⟩
  | fz xs => cases q; obtain ⟨a, vs, e1, e2, e3⟩ := h; exact ⟨a, vs, e1, .inl (e.seq e2), e3⟩
  | tup xs => cases q; obtain ⟨a, vs, e1, e2, e3⟩ := h; exact ⟨a, vs, e1, .inr (SqT.of (e _ _ e2)), e3⟩
  | ftup xs => cases q; obtain ⟨a, vs, e1, e2, e3⟩ := h; exact ⟨a, vs, e1, .inr (e.seqT e2), e3⟩
  | _ => cases q
theorem lst_den {K Hs H d v ds} (e : Same Hs H) (h : Den1 K Hs H d v) (q : d = .lst ds ∨ d = .fz ds) : ∃ a vs, v = .ref a ∧ SqL K H a vs ∧ DenL K Hs ds vs := by
  rcases q with rfl | rfl
  · obtain ⟨a, vs, e1, e2, e3⟩ := h; exact ⟨a, vs, e1, SqL.lst e2, e3⟩
  · obtain ⟨a, vs, e1, e2, e3⟩ := h; exact ⟨a, vs, e1, e.seq e2, e3⟩
theorem DenL.ints {K H} : ∀ {ns : List Int} {vs : List V}, DenL K H (ns.map D.int) vs → vs = ns.map V.int
  | [], _, h => h
  | n :: ns, _, ⟨v, r, e1, e2, e3⟩ => by rw [e1, show v = _ from e2, DenL.ints e3]; rfl
theorem DenL.bls {K H} : ∀ {ns : List Bool} {vs : List V}, DenL K H (ns.map D.bl) vs → vs = ns.map V.bl
  | [], _, h => h
  | n :: ns, _, ⟨v, r, e1, e2, e3⟩ => by rw [e1, show v = _ from e2, DenL.bls e3]; rfl
theorem DenL.strs {K H} : ∀ {ns : List Str} {vs : List V}, DenL K H (ns.map D.str) vs → vs = ns.map V.str ∧ ∀ x ∈ ns, sOk x
  | [], _, h => ⟨h, fun _ h => by cases h⟩
  | n :: ns, _, ⟨v, r, e1, e2, e3⟩ => by
    obtain ⟨h1, h2⟩ := DenL.strs e3
    refine ⟨by rw [e1, show v = _ from e2.1, h1]; rfl, fun x hx => ?_⟩
    rcases List.mem_cons.mp hx with rfl | hx
    · exact e2.2
    · exact h2 x hx
theorem DenL.of_ints {K H} (ns : List Int) : DenL K H (ns.map D.int) (ns.map V.int) := DenL.map (f := D.int) (g := V.int) (fun _ => rfl) ns
theorem DenL.of_strs {K H} : ∀ (ns : List Str), (∀ x ∈ ns, sOk x) → DenL K H (ns.map D.str) (ns.map V.str)
  | [], _ => rfl
  | n :: ns, h => ⟨_, _, rfl, ⟨rfl, h n (by simp)⟩, DenL.of_strs ns fun x hx => h x (by simp [hx])⟩
/-- ints of a list of data -/
noncomputable def D.ints : List D → Option (List Int)
  | [] => some []
  | .int i :: r => (D.ints r).map (i :: ·)
  | _ :: _ => none
noncomputable def D.bls : List D → Option (List Bool)
  | [] => some []
  | .bl i :: r => (D.bls r).map (i :: ·)
  | _ :: _ => none
noncomputable def D.strs : List D → Option (List Str)
  | [] => some []
  | .str i :: r => (D.strs r).map (i :: ·)
  | _ :: _ => none
theorem D.ints_eq : ∀ {ds : List D} {ns : List Int}, D.ints ds = some ns → ds = ns.map D.int
  | [], _, h => by cases h; rfl
  | .int i :: r, _, h => by
    simp only [D.ints, Option.map_eq_some_iff] at h
    obtain ⟨es, h1, h2⟩ := h
    subst h2
    simp [D.ints_eq h1]
theorem D.bls_eq : ∀ {ds : List D} {ns : List Bool}, D.bls ds = some ns → ds = ns.map D.bl
  | [], _, h => by cases h; rfl
  | .bl i :: r, _, h => by
    simp only [D.bls, Option.map_eq_some_iff] at h
    obtain ⟨es, h1, h2⟩ := h
    subst h2
    simp [D.bls_eq h1]
theorem D.strs_eq : ∀ {ds : List D} {ns : List Str}, D.strs ds = some ns → ds = ns.map D.str
  | [], _, h => by cases h; rfl
  | .str i :: r, _, h => by
    simp only [D.strs, Option.map_eq_some_iff] at h
    obtain ⟨es, h1, h2⟩ := h
    subst h2
    simp [D.strs_eq h1]
@[simp] theorem D.ints_map (ns : List Int) : D.ints (ns.map D.int) = some ns := by
  induction ns with
  | nil => rfl
  | cons n ns ih => simp [D.ints, ih]
@[simp] theorem D.bls_map (ns : List Bool) : D.bls (ns.map D.bl) = some ns := by
  induction ns with
  | nil => rfl
  | cons n ns ih => simp [D.bls, ih]
@[simp] theorem D.strs_map (ns : List Str) : D.strs (ns.map D.str) = some ns := by
  induction ns with
  | nil => rfl
  | cons n ns ih => simp [D.strs, ih]

/-! ### arithmetic -/
noncomputable def D.add : D → D → Option D
  | .int i, .int j => some (.int (i + j))
  | .int i, .bl k => some (.int (i + b2i k))
  | .str x, .str y => if x.length + y.length ≤ sizeLine then some (.str (x ++ y)) else none
  | .tup xs, .tup ys => if xs.length + ys.length ≤ sizeLine then some (.tup (xs ++ ys)) else none
  | .lst xs, .lst ys => if xs.length + ys.length ≤ sizeLine then some (.lst (xs ++ ys)) else none
  | _, _ => none
noncomputable def D.sub : D → D → Option D
  | .int i, .int j => some (.int (i - j))
  | _, _ => none
noncomputable def mulOk (i j : Int) : Prop := ((-(2 ^ 64) < i ∧ i < 2 ^ 64) ∨ (-(2 ^ 64) < j ∧ j < 2 ^ 64)) ∨ i.natAbs.log2 + j.natAbs.log2 < 1000000
noncomputable instance (i j : Int) : Decidable (mulOk i j) := Classical.propDecidable _
noncomputable def D.mul : D → D → Option D
  | .int i, .int j => if mulOk i j then some (.int (i * j)) else none
  | .lst xs, .int k => if -(2 ^ 63) ≤ k ∧ k < 2 ^ 63 ∧ xs.length * k.toNat ≤ sizeLine then some (.lst (List.replicate k.toNat xs).flatten) else none
  | _, _ => none
noncomputable def D.fdiv : D → D → Option D
  | .int i, .int j => if 0 < j ∧ j.natAbs.log2 < 9000 then some (.int (i / j)) else none
  | _, _ => none
noncomputable def D.mod : D → D → Option D
  | .int i, .int j => if 0 < j then some (.int (i % j)) else none
  | _, _ => none
noncomputable def D.pow : D → D → Option D
  | .int i, .int j => if 0 ≤ j ∧ j ≤ 1000000 ∧ i.natAbs < 2 ^ 64 then some (.int (i ^ j.toNat)) else none
  | _, _ => none
noncomputable def D.lt : D → D → Option D
  | .int i, .int j => some (.bl (decide (i < j)))
  | .str x, .str y => some (.bl (decide (x.cps.toList < y.cps.toList)))
  | _, _ => none
noncomputable def D.le : D → D → Option D
  | .int i, .int j => some (.bl (decide (i ≤ j)))
  | _, _ => none
noncomputable def D.gt : D → D → Option D
  | .int i, .int j => some (.bl (decide (j < i)))
  | _, _ => none
noncomputable def D.ge : D → D → Option D
  | .int i, .int j => some (.bl (decide (j ≤ i)))
  | _, _ => none
noncomputable def D.isNon : D → Bool
  | .non => true
  | _ => false
noncomputable def D.is : D → D → Option D
  | .bl a, .bl b => some (.bl (decide (a = b)))
  | d, .non => some (.bl d.isNon)
  | _, _ => none
noncomputable def D.isnt : D → D → Option D
  | .bl a, .bl b => some (.bl (!decide (a = b)))
  | d, .non => some (.bl (!d.isNon))
  | _, _ => none
noncomputable def D.neg : D → Option D
  | .int i => some (.int (-i))
  | _ => none
section
variable {X : Cx}
theorem DenL.rep {K H} {ds : List D} {vs : List V} (h : DenL K H ds vs) : ∀ n, DenL K H (List.replicate n ds).flatten (List.replicate n vs).flatten
  | 0 => rfl
  | n + 1 => by
    rw [List.replicate_succ, List.replicate_succ, List.flatten_cons, List.flatten_cons]
    exact h.append (DenL.rep h n)
theorem od_add : OpD X (binaryOp .Add) D.add := by
  rintro pins s σ H x y v u Q I rx ry ⟨Hs, d1, d2, d, e, h1, h2, g, q⟩
  unfold D.add at g
  split at g
  · cases g
    cases h1; cases h2
    exact op_add pins s σ H _ _ v u Q I rx ry ⟨_, _, rfl, rfl, q _ _ _ (.refl e) rfl⟩
  · cases g
    cases h1; cases h2
    exact op_add_ib pins s σ H _ _ v u Q I rx ry ⟨_, _, rfl, rfl, q _ _ _ (.refl e) rfl⟩
  · split at g
    · rename_i c
      cases g
      obtain ⟨rfl, k1⟩ := h1
      obtain ⟨rfl, k2⟩ := h2
      exact op_add_str pins s σ H _ _ v u Q I rx ry ⟨_, _, rfl, rfl, c, q _ _ _ (.refl e) ⟨rfl, sOk_app k1 k2 c⟩⟩
    · cases g
  · rename_i xs ys
    split at g
    · rename_i c
      cases g
      obtain ⟨a, vs, e1, e2, e3⟩ := h1
      obtain ⟨b, ws, e4, e5, e6⟩ := h2
      have l1 := e3.length
      have l2 := e6.length
      refine op_catA pins s σ H _ _ v u Q I rx ry ⟨a, b, vs, ws, e1, e4, SqT.of (e _ _ e2), SqT.of (e _ _ e5), by omega, fun z => q _ _ _ (.refl e) ⟨b, ws, rfl, e5, ?_⟩, fun _ z => q _ _ _ (.refl e) ⟨a, vs, rfl, e2, ?_⟩, fun _ _ p hp => q _ _ _ (.new e hp) ⟨p, vs ++ ws, rfl, upd_same, ?_⟩⟩
      · subst z
        have z1 : xs = [] := List.eq_nil_of_length_eq_zero (by simpa using l1.symm)
        rw [z1, List.nil_append]
        exact e6
      · subst z
        have z1 : ys = [] := List.eq_nil_of_length_eq_zero (by simpa using l2.symm)
        rw [z1, List.append_nil]
        exact e3
      · exact (e3.append e6).mono (Ext.new e hp).s
    · cases g
  · split at g
    · rename_i c
      cases g
      obtain ⟨a, vs, e1, e2, e3⟩ := h1
      obtain ⟨b, ws, e4, e5, e6⟩ := h2
      have l1 := e3.length
      have l2 := e6.length
      exact op_cat pins s σ H _ _ v u Q I rx ry ⟨a, b, vs, ws, e1, e4, e2, e5, by omega, fun p hp => q _ _ _ (.new e hp) ⟨p, vs ++ ws, rfl, upd_same, (e3.append e6).mono (Ext.new e hp).s⟩⟩
    · cases g
  · cases g
theorem od_sub : OpD X (binaryOp .Sub) D.sub := by
  rintro pins s σ H x y v u Q I rx ry ⟨Hs, d1, d2, d, e, h1, h2, g, q⟩
  unfold D.sub at g
  split at g
  · cases g
    cases h1; cases h2
    exact op_sub pins s σ H _ _ v u Q I rx ry ⟨_, _, rfl, rfl, q _ _ _ (.refl e) rfl⟩
  · cases g
theorem od_mul : OpD X (binaryOp .Mult) D.mul := by
  rintro pins s σ H x y v u Q I rx ry ⟨Hs, d1, d2, d, e, h1, h2, g, q⟩
  unfold D.mul at g
  split at g
  · split at g
    · rename_i c
      cases g
      cases h1; cases h2
      rcases c with c | c
      · exact op_mul pins s σ H _ _ v u Q I rx ry ⟨_, _, rfl, rfl, c, q _ _ _ (.refl e) rfl⟩
      · exact op_mulW pins s σ H _ _ v u Q I rx ry ⟨_, _, rfl, rfl, c, q _ _ _ (.refl e) rfl⟩
    · cases g
  · split at g
    · rename_i c
      cases g
      obtain ⟨a, vs, e1, e2, e3⟩ := h1
      cases h2
      have l1 := e3.length
      exact op_rep pins s σ H _ _ v u Q I rx ry ⟨a, _, vs, e1, rfl, e2, c.1, c.2.1, by rw [l1]; exact c.2.2, fun p hp => q _ _ _ (.new e hp) ⟨p, _, rfl, upd_same, (e3.rep _).mono (Ext.new e hp).s⟩⟩
    · cases g
  · cases g
theorem od_fdiv : OpD X (binaryOp .FloorDiv) D.fdiv := by
  rintro pins s σ H x y v u Q I rx ry ⟨Hs, d1, d2, d, e, h1, h2, g, q⟩
  unfold D.fdiv at g
  split at g
  · split at g
    · rename_i c
      cases g
      cases h1; cases h2
      exact op_fdivW pins s σ H _ _ v u Q I rx ry ⟨_, _, rfl, rfl, c, q _ _ _ (.refl e) rfl⟩
    · cases g
  · cases g
theorem od_mod : OpD X (binaryOp .Mod) D.mod := by
  rintro pins s σ H x y v u Q I rx ry ⟨Hs, d1, d2, d, e, h1, h2, g, q⟩
  unfold D.mod at g
  split at g
  · split at g
    · rename_i c
      cases g
      cases h1; cases h2
      exact op_mod pins s σ H _ _ v u Q I rx ry ⟨_, _, rfl, rfl, c, q _ _ _ (.refl e) rfl⟩
    · cases g
  · cases g
theorem od_pow : OpD X (binaryOp .Pow) D.pow := by
  rintro pins s σ H x y v u Q I rx ry ⟨Hs, d1, d2, d, e, h1, h2, g, q⟩
  unfold D.pow at g
  split at g
  · split at g
    · rename_i c
      cases g
      cases h1; cases h2
      exact op_pow pins s σ H _ _ v u Q I rx ry ⟨_, _, rfl, rfl, c, q _ _ _ (.refl e) rfl⟩
    · cases g
  · cases g
theorem od_lt : OpD X (compareOp .Lt) D.lt := by
  rintro pins s σ H x y v u Q I rx ry ⟨Hs, d1, d2, d, e, h1, h2, g, q⟩
  unfold D.lt at g
  split at g
  · cases g
    cases h1; cases h2
    exact op_lt pins s σ H _ _ v u Q I rx ry ⟨_, _, rfl, rfl, q _ _ _ (.refl e) rfl⟩
  · cases g
    obtain ⟨rfl, k1⟩ := h1
    obtain ⟨rfl, k2⟩ := h2
    exact op_lt_str pins s σ H _ _ v u Q I rx ry ⟨_, _, rfl, rfl, q _ _ _ (.refl e) rfl⟩
  · cases g
theorem od_le : OpD X (compareOp .LtE) D.le := by
  rintro pins s σ H x y v u Q I rx ry ⟨Hs, d1, d2, d, e, h1, h2, g, q⟩
  unfold D.le at g
  split at g
  · cases g
    cases h1; cases h2
    exact op_le pins s σ H _ _ v u Q I rx ry ⟨_, _, rfl, rfl, q _ _ _ (.refl e) rfl⟩
  · cases g
theorem od_gt : OpD X (compareOp .Gt) D.gt := by
  rintro pins s σ H x y v u Q I rx ry ⟨Hs, d1, d2, d, e, h1, h2, g, q⟩
  unfold D.gt at g
  split at g
  · cases g
    cases h1; cases h2
    exact op_gt pins s σ H _ _ v u Q I rx ry ⟨_, _, rfl, rfl, q _ _ _ (.refl e) rfl⟩
  · cases g
theorem od_ge : OpD X (compareOp .GtE) D.ge := by
  rintro pins s σ H x y v u Q I rx ry ⟨Hs, d1, d2, d, e, h1, h2, g, q⟩
  unfold D.ge at g
  split at g
  · cases g
    cases h1; cases h2
    exact op_ge pins s σ H _ _ v u Q I rx ry ⟨_, _, rfl, rfl, q _ _ _ (.refl e) rfl⟩
  · cases g
theorem isNon_den {K Hs H d v} (h : Den1 K Hs H d v) : decide (v = .non) = d.isNon := by
  cases d with
  | non => cases h; rfl
  | bl b => cases h; rfl
  | int b => cases h; rfl
  | ty b => cases h; rfl
  | str b => obtain ⟨rfl, _⟩ := h; rfl
  | tup b => obtain ⟨a, vs, rfl, _⟩ := h; rfl
  | ftup b => obtain ⟨a, vs, rfl, _⟩ := h; rfl
  | lst b => obtain ⟨a, vs, rfl, _⟩ := h; rfl
  | fz b => obtain ⟨a, vs, rfl, _⟩ := h; rfl
  | dic k b => obtain ⟨a, vs, rfl, _⟩ := h; rfl
  | dit k b => obtain ⟨a, vs, rfl, _⟩ := h; rfl
theorem od_is : OpD X (compareOp .Is) D.is := by
  rintro pins s σ H x y v u Q I rx ry ⟨Hs, d1, d2, d, e, h1, h2, g, q⟩
  unfold D.is at g
  split at g
  · cases g
    cases h1; cases h2
    exact op_is_bl pins s σ H _ _ v u Q I rx ry ⟨_, _, rfl, rfl, q _ _ _ (.refl e) rfl⟩
  · cases g
    cases h2
    exact op_isN pins s σ H _ _ v u Q I rx ry ⟨rfl, q _ _ _ (.refl e) (by rw [isNon_den h1]; rfl)⟩
  · cases g
theorem od_isnt : OpD X (compareOp .IsNot) D.isnt := by
  rintro pins s σ H x y v u Q I rx ry ⟨Hs, d1, d2, d, e, h1, h2, g, q⟩
  unfold D.isnt at g
  split at g
  · cases g
    cases h1; cases h2
    exact op_isnot_bl pins s σ H _ _ v u Q I rx ry ⟨_, _, rfl, rfl, q _ _ _ (.refl e) rfl⟩
  · cases g
    cases h2
    exact op_notN pins s σ H _ _ v u Q I rx ry ⟨rfl, q _ _ _ (.refl e) (by rw [isNon_den h1]; rfl)⟩
  · cases g
theorem ud_neg : UnD X (unaryOp .USub) D.neg := by
  rintro pins s σ H x v Q I rx ⟨Hs, d1, d, e, h1, g, q⟩
  unfold D.neg at g
  split at g
  · cases g
    cases h1
    exact un_neg pins s σ H _ v Q I rx ⟨_, rfl, q _ _ _ (.refl e) rfl⟩
  · cases g

/-! ### calls of built-ins -/
noncomputable def D.len : List D → Option D
  | [.str x] => some (.int x.length)
  | [.lst xs] => some (.int xs.length)
  | [.fz xs] => some (.int xs.length)
  | [.tup xs] => some (.int xs.length)
  | [.ftup xs] => some (.int xs.length)
  | _ => none
theorem cd_len : CallD X (.builtin "len") D.len := by
  rintro pins s σ H xs us Q I r ⟨Hs, ds, d, e, h1, h2, q⟩
  unfold D.len at h2
  split at h2
  · cases h2
    obtain ⟨v, rfl, k1, k2⟩ := h1.d1
    subst k1
    exact call_len pins s σ H _ us Q I r ⟨_, _, rfl, ⟨k2.1, rfl⟩, q _ _ _ (.refl e) rfl⟩
  · cases h2
    obtain ⟨v, rfl, a, vs, rfl, k1, k2⟩ := h1.d1
    exact call_len pins s σ H _ us Q I r ⟨_, _, rfl, .inl ⟨vs, SqL.lst k1, rfl⟩, q _ _ _ (.refl e) (by rw [k2.length]; rfl)⟩
  · cases h2
    obtain ⟨v, rfl, a, vs, rfl, k1, k2⟩ := h1.d1
    exact call_len pins s σ H _ us Q I r ⟨_, _, rfl, .inl ⟨vs, e.seq k1, rfl⟩, q _ _ _ (.refl e) (by rw [k2.length]; rfl)⟩
  · cases h2
    obtain ⟨v, rfl, a, vs, rfl, k1, k2⟩ := h1.d1
    exact call_len pins s σ H _ us Q I r ⟨_, _, rfl, .inr ⟨vs, SqT.of (e _ _ k1), rfl⟩, q _ _ _ (.refl e) (by rw [k2.length]; rfl)⟩
  · cases h2
    obtain ⟨v, rfl, a, vs, rfl, k1, k2⟩ := h1.d1
    exact call_len pins s σ H _ us Q I r ⟨_, _, rfl, .inr ⟨vs, e.seqT k1, rfl⟩, q _ _ _ (.refl e) (by rw [k2.length]; rfl)⟩
  · cases h2
noncomputable def D.toInt : List D → Option D
  | [.int i] => some (.int i)
  | [.bl b] => some (.int (if b then 1 else 0))
  | _ => none
theorem cd_int : CallD X (.type "int") D.toInt := by
  rintro pins s σ H xs us Q I r ⟨Hs, ds, d, e, h1, h2, q⟩
  unfold D.toInt at h2
  split at h2
  · cases h2
    obtain ⟨v, rfl, k1⟩ := h1.d1
    subst k1
    exact call_int1 pins s σ H _ us Q I r (.inl ⟨_, rfl, q _ _ _ (.refl e) rfl⟩)
  · cases h2
    obtain ⟨v, rfl, k1⟩ := h1.d1
    subst k1
    exact call_int1 pins s σ H _ us Q I r (.inr ⟨_, rfl, q _ _ _ (.refl e) rfl⟩)
  · cases h2
noncomputable def D.abs : List D → Option D
  | [.int i] => some (.int (if i < 0 then -i else i))
  | _ => none
theorem cd_abs : CallD X (.builtin "abs") D.abs := by
  rintro pins s σ H xs us Q I r ⟨Hs, ds, d, e, h1, h2, q⟩
  unfold D.abs at h2
  split at h2
  · cases h2
    obtain ⟨v, rfl, k1⟩ := h1.d1
    subst k1
    exact call_abs pins s σ H _ us Q I r ⟨_, rfl, q _ _ _ (.refl e) rfl⟩
  · cases h2
/-- the greatest, the least of some ints -/
noncomputable def maxI : List Int → Option Int
  | [] => none
  | n :: ns => some (ns.foldl (fun a b => if b > a then b else a) n)
noncomputable def minI : List Int → Option Int
  | [] => none
  | n :: ns => some (ns.foldl (fun a b => if b < a then b else a) n)
theorem foldmax : ∀ (ns : List Int) (n : Int), (∀ y ∈ n :: ns, y ≤ ns.foldl (fun a b => if b > a then b else a) n) ∧ ns.foldl (fun a b => if b > a then b else a) n ∈ n :: ns
  | [], n => by simp
  | m :: ns, n => by
    obtain ⟨h1, h2⟩ := foldmax ns (if m > n then m else n)
    refine ⟨fun y hy => ?_, ?_⟩
    · have h0 := h1 _ List.mem_cons_self
      rw [List.foldl_cons]
      generalize List.foldl _ (if m > n then m else n) ns = c at h0 h1 ⊢
      rcases List.mem_cons.mp hy with rfl | hy
      · split at h0 <;> omega
      · rcases List.mem_cons.mp hy with rfl | hy
        · split at h0 <;> omega
        · exact h1 y (List.mem_cons_of_mem _ hy)
    · rw [List.foldl_cons]
      rcases List.mem_cons.mp h2 with h | h
      · rw [h]; split <;> simp
      · simp [h]
theorem foldmin : ∀ (ns : List Int) (n : Int), (∀ y ∈ n :: ns, ns.foldl (fun a b => if b < a then b else a) n ≤ y) ∧ ns.foldl (fun a b => if b < a then b else a) n ∈ n :: ns
  | [], n => by simp
  | m :: ns, n => by
    obtain ⟨h1, h2⟩ := foldmin ns (if m < n then m else n)
    refine ⟨fun y hy => ?_, ?_⟩
    · have h0 := h1 _ List.mem_cons_self
      rw [List.foldl_cons]
      generalize List.foldl _ (if m < n then m else n) ns = c at h0 h1 ⊢
      rcases List.mem_cons.mp hy with rfl | hy
      · split at h0 <;> omega
      · rcases List.mem_cons.mp hy with rfl | hy
        · split at h0 <;> omega
        · exact h1 y (List.mem_cons_of_mem _ hy)
    · rw [List.foldl_cons]
      rcases List.mem_cons.mp h2 with h | h
      · rw [h]; split <;> simp
      · simp [h]
noncomputable def D.max : List D → Option D
  | [.int i, .int j] => some (.int (if j > i then j else i))
  | [.lst ds] => ((D.ints ds).bind maxI).map .int
  | _ => none
noncomputable def D.min : List D → Option D
  | [.int i, .int j] => some (.int (if j < i then j else i))
  | [.lst ds] => ((D.ints ds).bind minI).map .int
  | _ => none
theorem cd_max (hc : X.calm = true) : CallD X (.builtin "max") D.max := by
  rintro pins s σ H xs us Q I r ⟨Hs, ds, d, e, h1, h2, q⟩
  unfold D.max at h2
  split at h2
  · cases h2
    obtain ⟨v, w, rfl, k1, k2⟩ := h1.d2
    subst k1; subst k2
    exact call_max2 hc pins s σ H _ us Q I r ⟨_, _, rfl, q _ _ _ (.refl e) rfl⟩
  · rename_i ds
    simp only [Option.map_eq_some_iff, Option.bind_eq_some_iff] at h2
    obtain ⟨m, ⟨ns, g1, g2⟩, rfl⟩ := h2
    obtain ⟨v, rfl, a, vs, rfl, k1, k2⟩ := h1.d1
    rw [D.ints_eq g1] at k2
    rw [k2.ints] at k1
    cases ns with
    | nil => cases g2
    | cons n ns =>
      cases g2
      refine cr_max hc pins s σ H _ us Q I r ⟨a, _, rfl, SqL.lst k1, by simp, fun m hm hle => ?_⟩
      obtain ⟨f1, f2⟩ := foldmax ns n
      have := Int.le_antisymm (f1 m hm) (hle _ f2)
      subst this
      exact q _ _ _ (.refl e) rfl
  · cases h2
theorem cd_min (hc : X.calm = true) : CallD X (.builtin "min") D.min := by
  rintro pins s σ H xs us Q I r ⟨Hs, ds, d, e, h1, h2, q⟩
  unfold D.min at h2
  split at h2
  · cases h2
    obtain ⟨v, w, rfl, k1, k2⟩ := h1.d2
    subst k1; subst k2
    exact call_min2 hc pins s σ H _ us Q I r ⟨_, _, rfl, q _ _ _ (.refl e) rfl⟩
  · rename_i ds
    simp only [Option.map_eq_some_iff, Option.bind_eq_some_iff] at h2
    obtain ⟨m, ⟨ns, g1, g2⟩, rfl⟩ := h2
    obtain ⟨v, rfl, a, vs, rfl, k1, k2⟩ := h1.d1
    rw [D.ints_eq g1] at k2
    rw [k2.ints] at k1
    cases ns with
    | nil => cases g2
    | cons n ns =>
      cases g2
      refine cr_min hc pins s σ H _ us Q I r ⟨a, _, rfl, SqL.lst k1, by simp, fun m hm hle => ?_⟩
      obtain ⟨f1, f2⟩ := foldmin ns n
      have := Int.le_antisymm (hle _ f2) (f1 m hm)
      subst this
      exact q _ _ _ (.refl e) rfl
  · cases h2
noncomputable def D.sum : List D → Option D
  | [.lst ds] => (D.ints ds).map fun ns => .int ns.sum
  | _ => none
theorem cd_sum (hc : X.calm = true) : CallD X (.builtin "sum") D.sum := by
  rintro pins s σ H xs us Q I r ⟨Hs, ds, d, e, h1, h2, q⟩
  unfold D.sum at h2
  split at h2
  · simp only [Option.map_eq_some_iff] at h2
    obtain ⟨ns, g1, rfl⟩ := h2
    obtain ⟨v, rfl, a, vs, rfl, k1, k2⟩ := h1.d1
    rw [D.ints_eq g1] at k2
    rw [k2.ints] at k1
    exact cr_sum hc pins s σ H _ us Q I r ⟨a, _, rfl, SqL.lst k1, q _ _ _ (.refl e) rfl⟩
  · cases h2
noncomputable def D.all : List D → Option D
  | [.lst ds] => (D.bls ds).map fun ns => .bl (ns.all id)
  | _ => none
noncomputable def D.any : List D → Option D
  | [.lst ds] => (D.bls ds).map fun ns => .bl (ns.any id)
  | _ => none
theorem cd_all (hc : X.calm = true) : CallD X (.builtin "all") D.all := by
  rintro pins s σ H xs us Q I r ⟨Hs, ds, d, e, h1, h2, q⟩
  unfold D.all at h2
  split at h2
  · simp only [Option.map_eq_some_iff] at h2
    obtain ⟨ns, g1, rfl⟩ := h2
    obtain ⟨v, rfl, a, vs, rfl, k1, k2⟩ := h1.d1
    rw [D.bls_eq g1] at k2
    rw [k2.bls] at k1
    exact cr_all hc pins s σ H _ us Q I r ⟨a, _, rfl, SqL.lst k1, q _ _ _ (.refl e) rfl⟩
  · cases h2
theorem cd_any (hc : X.calm = true) : CallD X (.builtin "any") D.any := by
  rintro pins s σ H xs us Q I r ⟨Hs, ds, d, e, h1, h2, q⟩
  unfold D.any at h2
  split at h2
  · simp only [Option.map_eq_some_iff] at h2
    obtain ⟨ns, g1, rfl⟩ := h2
    obtain ⟨v, rfl, a, vs, rfl, k1, k2⟩ := h1.d1
    rw [D.bls_eq g1] at k2
    rw [k2.bls] at k1
    exact cr_any hc pins s σ H _ us Q I r ⟨a, _, rfl, SqL.lst k1, q _ _ _ (.refl e) rfl⟩
  · cases h2
noncomputable def D.toTup : List D → Option D
  | [.lst ds] => some (.tup ds)
  | [.fz ds] => some (.tup ds)
  | [.tup ds] => some (.tup ds)
  | [.ftup ds] => some (.ftup ds)
  | _ => none
theorem cd_tuple : CallD X (.type "tuple") D.toTup := by
  rintro pins s σ H xs us Q I r ⟨Hs, ds, d, e, h1, h2, q⟩
  unfold D.toTup at h2
  split at h2
  · cases h2
    obtain ⟨v, rfl, a, vs, rfl, k1, k2⟩ := h1.d1
    exact call_tuple_of pins s σ H _ us Q I r ⟨a, vs, rfl, .inl ⟨SqL.lst k1, fun l hl => q _ _ _ (.new e hl) ⟨l, vs, rfl, upd_same, k2.mono (Ext.new e hl).s⟩⟩⟩
  · cases h2
    obtain ⟨v, rfl, a, vs, rfl, k1, k2⟩ := h1.d1
    exact call_tuple_of pins s σ H _ us Q I r ⟨a, vs, rfl, .inl ⟨e.seq k1, fun l hl => q _ _ _ (.new e hl) ⟨l, vs, rfl, upd_same, k2.mono (Ext.new e hl).s⟩⟩⟩
  · cases h2
    obtain ⟨v, rfl, a, vs, rfl, k1, k2⟩ := h1.d1
    exact call_tuple_of pins s σ H _ us Q I r ⟨a, vs, rfl, .inr ⟨SqT.of (e _ _ k1), q _ _ _ (.refl e) ⟨a, vs, rfl, k1, k2⟩⟩⟩
  · cases h2
    obtain ⟨v, rfl, a, vs, rfl, k1, k2⟩ := h1.d1
    exact call_tuple_of pins s σ H _ us Q I r ⟨a, vs, rfl, .inr ⟨e.seqT k1, q _ _ _ (.refl e) ⟨a, vs, rfl, k1, k2⟩⟩⟩
  · cases h2
noncomputable def D.toLst : List D → Option (List D)
  | [.lst ds] => some ds
  | [.fz ds] => some ds
  | [.tup ds] => some ds
  | [.ftup ds] => some ds
  | _ => none
theorem keep_new {H : Hp} {p : Addr} {o : HO} (n : H p = none) : ∀ b u, H b = some u → (upd H p o) b = some u := fun b u e => by rw [upd_ne (ne_of_none e n)]; exact e
theorem cn_list : CallN X (.type "list") D.toLst := by
  rintro pins s σ H xs us Q I r ⟨Hs, ds, d, e, h1, h2, q⟩
  unfold D.toLst at h2
  split at h2
  · cases h2
    obtain ⟨v, rfl, a, vs, rfl, k1, k2⟩ := h1.d1
    exact call_list_of pins s σ H _ us Q I r ⟨a, vs, rfl, .inl (SqL.lst k1), fun l hl => q l _ vs hl upd_same (keep_new hl) k2⟩
  · cases h2
    obtain ⟨v, rfl, a, vs, rfl, k1, k2⟩ := h1.d1
    exact call_list_of pins s σ H _ us Q I r ⟨a, vs, rfl, .inl (e.seq k1), fun l hl => q l _ vs hl upd_same (keep_new hl) k2⟩
  · cases h2
    obtain ⟨v, rfl, a, vs, rfl, k1, k2⟩ := h1.d1
    exact call_list_of pins s σ H _ us Q I r ⟨a, vs, rfl, .inr (SqT.of (e _ _ k1)), fun l hl => q l _ vs hl upd_same (keep_new hl) k2⟩
  · cases h2
    obtain ⟨v, rfl, a, vs, rfl, k1, k2⟩ := h1.d1
    exact call_list_of pins s σ H _ us Q I r ⟨a, vs, rfl, .inr (e.seqT k1), fun l hl => q l _ vs hl upd_same (keep_new hl) k2⟩
  · cases h2
end
end FL

namespace FL
open PySem PySem.Spec PyProof.Rows L2

section
variable {K : PySem.W.Frag} {mg : Str → Option Value} {W : WX} {G : Gh} {σ : L2.St} {H : Hp} {ρ : Env'} {Hs : Hp} {fp : List Addr}
/-- a slot's tree is let go: from now on it is shared -/
theorem OkAt.freeze {i : Nat} {t : T} (ok : OkAt K G σ H ρ Hs fp) (hi : ρ[i]? = some (some t)) :
    ∃ Hs' fp' v, OkAt K G σ H (ρ.set i (some (.sh t.d))) Hs' fp' ∧ Same Hs Hs' ∧ σ[i]? = some (some v) ∧ Den K Hs' t.d v := by
  obtain ⟨v, f1, f2, f3, h1, h2, h3, h4, _⟩ := ok.env.at hi
  have sh : ∀ a, a ∈ f2 → Hs a = none := fun a ha => ok.disj a (by rw [h2]; simp [ha])
  let Hs' : Hp := fun a => if a ∈ f2 then H a else Hs a
  have e1 : ∀ a, a ∈ f2 → Hs' a = H a := fun a ha => by show (if a ∈ f2 then H a else Hs a) = _; rw [if_pos ha]
  have e2 : ∀ a, a ∉ f2 → Hs' a = Hs a := fun a ha => by show (if a ∈ f2 then H a else Hs a) = _; rw [if_neg ha]
  have s1 : Same Hs Hs' := fun a o e => by
    have n : a ∉ f2 := fun ha => by rw [sh a ha] at e; cases e
    rw [e2 a n]; exact e
  have s2 : Same Hs' H := fun a o e => by
    by_cases ha : a ∈ f2
    · rw [e1 a ha] at e; exact e
    · rw [e2 a ha] at e; exact ok.sh a o e
  have nd := ok.nd
  rw [h2] at nd
  have d : Den K Hs' t.d v := h3.den s1 e1
  have env := h4 Hs' H s1 (fun _ _ => rfl) (.sh t.d) v [] ⟨rfl, d⟩
  have σe : σ.set i (some v) = σ := by
    apply List.ext_getElem?
    intro j
    by_cases hj : i = j
    · subst hj
      have hl : i < σ.length := by
        rcases Nat.lt_or_ge i σ.length with h | h
        · exact h
        · rw [List.getElem?_eq_none_iff.mpr h] at h1; cases h1
      rw [List.getElem?_set_self hl, h1]
    · rw [List.getElem?_set_ne hj]
  rw [σe] at env
  have nin : ∀ a, a ∈ f1 ++ f3 → a ∉ f2 := fun a ha hb => by
    rw [List.nodup_append] at nd
    obtain ⟨_, n2, n3⟩ := nd
    rw [List.nodup_append] at n2
    rcases List.mem_append.mp ha with ha | ha
    · exact n3 a ha a (List.mem_append_left _ hb) rfl
    · exact n2.2.2 a hb a ha rfl
  refine ⟨Hs', f1 ++ f3, v, ⟨s2, ok.base.trans s1, ok.frame, fun a p1 p2 => ?_, fun a ha => ?_, ?_, by simpa using env⟩, s1, h1, d⟩
  · obtain ⟨q1, q2⟩ := ok.priv a p1 p2
    rw [h2] at q2
    simp only [List.mem_append, not_or] at q2
    exact ⟨by rw [e2 a q2.2.1]; exact q1, by simp [q2.1, q2.2.2]⟩
  · rw [e2 a (nin a ha)]
    exact ok.disj a (by rw [h2]; simp only [List.mem_append] at ha ⊢; rcases ha with h | h <;> simp [h])
  · rw [List.nodup_append] at nd ⊢
    obtain ⟨n1, n2, n3⟩ := nd
    rw [List.nodup_append] at n2
    exact ⟨n1, n2.2.1, fun a ha b hb => n3 a ha b (List.mem_append_right _ hb)⟩
/-- a value that is handed on: an owned slot is let go -/
noncomputable def esc (ρ : Env') : RV → Option (D × Env')
  | .leaf d => some (d, ρ)
  | .slot i => match ρ[i]? with
    | some (some t) => some (t.d, ρ.set i (some (.sh t.d)))
    | _ => none
theorem esc_den {r : RV} {v : V} {d : D} {ρ' : Env'} (ok : OkAt K G σ H ρ Hs fp) (h : RVd K Hs σ r v) (e : esc ρ r = some (d, ρ')) : ∃ Hs' fp', OkAt K G σ H ρ' Hs' fp' ∧ Same Hs Hs' ∧ Den K Hs' d v := by
  cases r with
  | leaf d' =>
    cases e
    exact ⟨Hs, fp, ok, Same.refl _, h⟩
  | slot i =>
    simp only [esc] at e
    split at e
    · rename_i t hi
      cases e
      obtain ⟨Hs', fp', w, h1, h2, h3, h4⟩ := ok.freeze hi
      have h' : σ[i]? = some (some v) := h
      rw [h3] at h'
      cases h'
      exact ⟨Hs', fp', h1, h2, h4⟩
    · cases e
theorem OkAt.leak {Hs' fp' ρ' H'} (ok : OkAt K G σ H ρ Hs fp) (ok' : OkAt K (Hs, rem H fp) σ H' ρ' Hs' fp') : Same Hs Hs' := ok'.base
end

/-! ### one-place operations, built-ins -/
section
variable {X : Cx} {mg : Str → Option Value} {W : WX} {a b c : Expr} {fa fb fc : Env' → Res (RV × Env')} {pos : Pos}
theorem fo_or {e : Expr} {f g : Env' → Res (RV × Env')} (h : PE X e (tFO X.K mg W f)) (h' : PE X e (tFO X.K mg W g)) : PE X e (tFO X.K mg W fun ρ => match f ρ with | .bad => g ρ | r => r) :=
  ⟨fun pins s σ H Q I ⟨G, ρ, ok, po⟩ => by
    cases z : f ρ with
    | ok p =>
      simp only [z] at po
      exact h.run pins s σ H Q I ⟨G, ρ, ok, by rw [z]; exact po⟩
    | exc c r =>
      simp only [z] at po
      exact h.run pins s σ H Q I ⟨G, ρ, ok, by rw [z]; exact po⟩
    | bad =>
      simp only [z] at po
      exact h'.run pins s σ H Q I ⟨G, ρ, ok, po⟩⟩
noncomputable def eUn (g : D → Option D) (fa : Env' → Res (RV × Env')) : Env' → Res (RV × Env') := fun ρ =>
  (fa ρ).bind fun (r1, ρ1) => (Res.of (look ρ1 r1)).bind fun d1 => (Res.of (g d1)).bind fun d => .ok (.leaf d, ρ1)
theorem un_go {r : V → Hp → VK → Prop} {g : D → Option D} (hr : ∀ x H Q, (∃ Hs d1 d, Same Hs H ∧ Den1 X.K Hs H d1 x ∧ g d1 = some d ∧ ∀ v Hs' H', Ext Hs H Hs' H' → Den X.K Hs' d v → Q v H') → r x H Q)
    {σ : L2.St} {H : Hp} {Q : VK} (h : tFO X.K mg W (eUn g fa) σ H Q) : tUn r (tFO X.K mg W fa) σ H Q := by
  obtain ⟨G, ρ, ⟨Hs, fp, ok⟩, po⟩ := h
  refine goE ok po (fun _ _ h => h) id fun r1 ρ1 x H1 Hs1 fp1 ok1 dx po1 => hr x H1 Q ?_
  have ok1' := ok.back ok1
  cases e1 : look ρ1 r1 with
  | none => simp only [e1] at po1; exact po1.elim
  | some d1 =>
    cases e3 : g d1 with
    | none => simp only [e1, e3, of_some, bind_ok] at po1; exact po1.elim
    | some d =>
      simp only [e1, e3, of_some, bind_ok] at po1
      exact ⟨Hs1, d1, d, ok1'.sh, look_den ok1' dx e1, e3, fun v Hs' H' ex dv => po1 v H' Hs' fp1 (ok1'.ext ex) dv⟩
theorem fo_un {op : UnaryOp} {g : D → Option D} (ho : UnD X (unaryOp op) g) (ha : PE X a (tFO X.K mg W fa)) : PE X (.UnaryOp op a pos) (tFO X.K mg W (eUn g fa)) :=
  (pe_un ho ha).imp fun _ _ _ h => un_go (fun _ _ _ q => q) h

/-! argument lists -/
noncomputable def aNil : Env' → Res (List RV × Env') := fun ρ => .ok ([], ρ)
noncomputable def aCons (fa : Env' → Res (RV × Env')) (fr : Env' → Res (List RV × Env')) : Env' → Res (List RV × Env') := fun ρ => (fa ρ).bind fun (r, ρ1) => (fr ρ1).bind fun (rs, ρ2) => .ok (r :: rs, ρ2)
/-- an argument that is handed on -/
noncomputable def aConsE (fa : Env' → Res (RV × Env')) (fr : Env' → Res (List RV × Env')) : Env' → Res (List RV × Env') := fun ρ => (fa ρ).bind fun (r, ρ1) => (Res.of (esc ρ1 r)).bind fun (d, ρ1') => (fr ρ1').bind fun (rs, ρ2) => .ok (.leaf d :: rs, ρ2)
theorem fa_nil : PA X [] (tFA X.K mg W aNil) := pa_nil.imp fun σ H Q ⟨G, ρ, ⟨Hs, fp, ok⟩, po⟩ => po [] H Hs fp ok rfl
theorem fa_cons {es : List Expr} {fr : Env' → Res (List RV × Env')} (ha : PE X a (tFO X.K mg W fa)) (hr : PA X es (tFA X.K mg W fr)) (hs : starEach (a :: es) X.env = (false, eval a X.env) :: starEach es X.env := by rfl) : PA X (a :: es) (tFA X.K mg W (aCons fa fr)) := by
  refine (pa_cons ha hr hs).imp fun σ H Q ⟨G, ρ, ⟨Hs, fp, ok⟩, po⟩ => ?_
  refine goE ok po (fun _ _ h => h) id fun r1 ρ1 x H1 Hs1 fp1 ok1 dx po1 => ?_
  have ok1' := ok.back ok1
  refine goA ok1' po1 (fun _ _ h => h) id fun rs ρ2 ys H2 Hs2 fp2 ok2 dy po2 => ?_
  have ok2' := ok1'.back ok2
  exact po2 _ H2 Hs2 fp2 ok2' ⟨x, ys, rfl, dx.mono ok2.base, dy⟩
theorem fa_consE {es : List Expr} {fr : Env' → Res (List RV × Env')} (ha : PE X a (tFO X.K mg W fa)) (hr : PA X es (tFA X.K mg W fr)) (hs : starEach (a :: es) X.env = (false, eval a X.env) :: starEach es X.env := by rfl) : PA X (a :: es) (tFA X.K mg W (aConsE fa fr)) := by
  refine (pa_cons ha hr hs).imp fun σ H Q ⟨G, ρ, ⟨Hs, fp, ok⟩, po⟩ => ?_
  refine goE ok po (fun _ _ h => h) id fun r1 ρ1 x H1 Hs1 fp1 ok1 dx po1 => ?_
  have ok1' := ok.back ok1
  cases e1 : esc ρ1 r1 with
  | none => simp only [e1] at po1; exact po1.elim
  | some p =>
    obtain ⟨d, ρ1'⟩ := p
    simp only [e1, of_some, bind_ok] at po1
    obtain ⟨Hs1', fp1', okE, sE, dE⟩ := esc_den ok1' dx e1
    refine goA okE po1 (fun _ _ h => h) id fun rs ρ2 ys H2 Hs2 fp2 ok2 dy po2 => ?_
    have ok2' := okE.back ok2
    exact po2 _ H2 Hs2 fp2 ok2' ⟨x, ys, rfl, dE.mono ok2.base, dy⟩
noncomputable def looks (ρ : Env') : List RV → Option (List D)
  | [] => some []
  | r :: rs => (look ρ r).bind fun d => (looks ρ rs).map (d :: ·)
theorem looks_den {K G σ H ρ Hs fp} (ok : OkAt K G σ H ρ Hs fp) : ∀ {rs vs ds}, RVL K Hs σ rs vs → looks ρ rs = some ds → Den1L K Hs H ds vs
  | [], _, _, h, e => by cases e; exact h
  | r :: rs, _, _, ⟨v, ws, e1, e2, e3⟩, e => by
    simp only [looks, Option.bind_eq_some_iff, Option.map_eq_some_iff] at e
    obtain ⟨d, h1, es, h2, h3⟩ := e
    subst h3
    exact ⟨v, ws, e1, look_den ok e2 h1, looks_den ok e3 h2⟩
noncomputable def eB (g : List D → Option D) (fs : Env' → Res (List RV × Env')) : Env' → Res (RV × Env') := fun ρ =>
  (fs ρ).bind fun (rs, ρ1) => (Res.of (looks ρ1 rs)).bind fun ds => (Res.of (g ds)).bind fun d => .ok (.leaf d, ρ1)
theorem b_go {r : List V → Hp → VK → Prop} {g : List D → Option D} {fs : Env' → Res (List RV × Env')} (hr : ∀ xs H Q, (∃ Hs ds d, Same Hs H ∧ Den1L X.K Hs H ds xs ∧ g ds = some d ∧ ∀ v Hs' H', Ext Hs H Hs' H' → Den X.K Hs' d v → Q v H') → r xs H Q)
    {σ : L2.St} {H : Hp} {Q : VK} (h : tFO X.K mg W (eB g fs) σ H Q) : tCB r (tFA X.K mg W fs) σ H Q := by
  obtain ⟨G, ρ, ⟨Hs, fp, ok⟩, po⟩ := h
  refine goA ok po (fun _ _ h => h) id fun rs ρ1 xs H1 Hs1 fp1 ok1 dx po1 => hr xs H1 Q ?_
  have ok1' := ok.back ok1
  cases e1 : looks ρ1 rs with
  | none => simp only [e1] at po1; exact po1.elim
  | some ds =>
    cases e3 : g ds with
    | none => simp only [e1, e3, of_some, bind_ok] at po1; exact po1.elim
    | some d =>
      simp only [e1, e3, of_some, bind_ok] at po1
      exact ⟨Hs1, ds, d, ok1'.sh, looks_den ok1' dx e1, e3, fun v Hs' H' ex dv => po1 v H' Hs' fp1 (ok1'.ext ex) dv⟩
theorem fo_callB {x : Str} {id : String} {p : Pos} {e : Expr} {es : List Expr} {g : List D → Option D} {fs : Env' → Res (List RV × Env')} (hc : CallD X (.builtin id) g) (hg : Gl X x) (hm : X.mg x = none) (hv : bootBuiltins x = some (.builtin id)) (ha : PA X (e :: es) (tFA X.K mg W fs)) (hn : x ≠ "__name__" := by decide) (hdb : (x == ("__debug__" : Str)) = false := by decide)
    (he : starEach (e :: es) X.env = (false, eval e X.env) :: starEach es X.env := by rfl) (hpl : (backTo pos (starEach es X.env)).any (·.1) = false := by rfl) : PE X (.Call (.Name x p) (e :: es) [] pos) (tFO X.K mg W (eB g fs)) :=
  (pe_callB hc hg hm hv ha hn hdb he hpl).imp fun _ _ _ h => b_go (fun _ _ _ q => q) h
theorem fo_callTy {x : Str} {id : String} {p : Pos} {e : Expr} {es : List Expr} {g : List D → Option D} {fs : Env' → Res (List RV × Env')} (hc : CallD X (.type id) g) (hg : Gl X x) (hm : X.mg x = none) (hv : bootBuiltins x = some (.type id)) (ha : PA X (e :: es) (tFA X.K mg W fs)) (hn : x ≠ "__name__" := by decide) (hdb : (x == ("__debug__" : Str)) = false := by decide)
    (he : starEach (e :: es) X.env = (false, eval e X.env) :: starEach es X.env := by rfl) (hpl : (backTo pos (starEach es X.env)).any (·.1) = false := by rfl) : PE X (.Call (.Name x p) (e :: es) [] pos) (tFO X.K mg W (eB g fs)) :=
  (pe_callTy hc hg hm hv ha hn hdb he hpl).imp fun _ _ _ h => b_go (fun _ _ _ q => q) h

/-! tuples -/
noncomputable def eTup (fs : Env' → Res (List RV × Env')) : Env' → Res (RV × Env') := fun ρ =>
  (fs ρ).bind fun (rs, ρ1) => (Res.of (leafs rs)).bind fun ds => if ds.length ≤ sizeLine then .ok (.leaf (.tup ds), ρ1) else .bad
where leafs : List RV → Option (List D)
  | [] => some []
  | .leaf d :: rs => (leafs rs).map (d :: ·)
  | _ :: _ => none
theorem leafs_den {K Hs σ} : ∀ {rs vs ds}, RVL K Hs σ rs vs → eTup.leafs rs = some ds → DenL K Hs ds vs
  | [], _, _, h, e => by cases e; exact h
  | .leaf d :: rs, _, _, ⟨v, ws, e1, e2, e3⟩, e => by
    simp only [eTup.leafs, Option.map_eq_some_iff] at e
    obtain ⟨es, h2, h3⟩ := e
    subst h3
    exact ⟨v, ws, e1, e2, leafs_den e3 h2⟩
theorem fo_tup {es : List Expr} {k : Nat} {fs : Env' → Res (List RV × Env')} (h : PA X es (tFA X.K mg W fs)) : PE X (.Tuple es k pos) (tFO X.K mg W (eTup fs)) := by
  refine (pe_tup h).imp fun σ H Q ⟨G, ρ, ⟨Hs, fp, ok⟩, po⟩ => ?_
  refine goA ok po (fun _ _ h => h) id fun rs ρ1 xs H1 Hs1 fp1 ok1 dx po1 => ?_
  have ok1' := ok.back ok1
  cases e1 : eTup.leafs rs with
  | none => simp only [e1] at po1; exact po1.elim
  | some ds =>
    simp only [e1, of_some, bind_ok] at po1
    have dl := leafs_den dx e1
    split at po1
    · rename_i c
      refine ⟨by rw [dl.length]; exact c, fun p hp => ?_⟩
      have ex := Ext.new (o := .tup xs) ok1'.sh hp
      exact po1 _ _ _ fp1 (ok1'.ext ex) ⟨p, xs, rfl, upd_same, dl.mono ex.s⟩
    · exact po1.elim

/-! tests -/
noncomputable def tstV (fa : Env' → Res (RV × Env')) : Env' → Res (Bool × Env') := fun ρ => (fa ρ).bind fun (r, ρ1) => match look ρ1 r with
  | some (.bl b) => .ok (b, ρ1)
  | _ => .bad
theorem tst_go {t : TE} {σ H} {Q : Bool → Hp → Prop} (ht : ∀ σ H Q, tFO X.K mg W fa σ H Q → t σ H Q) (h : tFB X.K mg W (tstV fa) σ H Q) : t σ H fun x H' => ∃ k, x = .bl k ∧ Q k H' := by
  obtain ⟨G, ρ, ⟨Hs, fp, ok⟩, po⟩ := h
  refine ht _ _ _ (goE ok po (fun _ _ h => h) id fun r1 ρ1 x H1 Hs1 fp1 ok1 dx po1 => ?_)
  have ok1' := ok.back ok1
  simp only at po1
  split at po1
  · rename_i b e1
    have := look_den ok1' dx e1
    exact ⟨b, this, po1 H1 ⟨Hs1, fp1, ok1'⟩⟩
  · exact po1.elim
/-- a bool's value as a test -/
theorem ft_val (h : PE X a (tFO X.K mg W fa)) (he : ∀ whole, isTrue a X.env whole = (do let v ← whole; standAt a.pos; holding [v] (truthy v)) := by intro _; rfl) : PT X a (tFB X.K mg W (tstV fa)) :=
  (pt_val h he).imp fun σ H Q q => tst_go (fun _ _ _ h => h) q
theorem ft_cmp {op : CmpOp} {g : D → D → Option D} (ho : OpD X (compareOp op) g) (ha : PE X a (tFO X.K mg W fa)) (hb : PE X b (tFO X.K mg W fb)) (hm : behindInMarks op b = false) : PT X (.Compare a [op] [b] pos) (tFB X.K mg W (tstV (eBin g fa fb))) :=
  (pt_cmpR ho ha hb hm).imp fun σ H Q q => tst_go (fun _ _ _ h => bin_go (fun _ _ _ _ q => q) h) q
noncomputable def D.truth : D → Option Bool
  | .non => some false
  | .bl b => some b
  | .int i => some (i != 0)
  | .str x => some ((x.length : Int) != 0)
  | .lst xs => some (!xs.isEmpty)
  | .fz xs => some (!xs.isEmpty)
  | .tup xs => some (!xs.isEmpty)
  | .ftup xs => some (!xs.isEmpty)
  | .dic ks vs => some (!ks.isEmpty)
  | _ => none
theorem DenL.empty {K H} {ds vs} (h : DenL K H ds vs) : ds.isEmpty = vs.isEmpty := by
  have := h.length
  cases ds <;> cases vs <;> simp_all
theorem truth_den {K Hs H d v k} (e : Same Hs H) (h : Den1 K Hs H d v) (q : d.truth = some k) : TruV K v H k := by
  cases d with
  | non => cases h; cases q; rfl
  | bl b => cases h; cases q; rfl
  | int b => cases h; cases q; rfl
  | str b => obtain ⟨rfl, h1⟩ := h; cases q; exact ⟨h1.1, rfl⟩
  | tup b => obtain ⟨a, vs, rfl, h1, h2⟩ := h; cases q; exact .inr (.inl ⟨vs, SqT.of (e _ _ h1), by rw [h2.empty]⟩)
  | ftup b => obtain ⟨a, vs, rfl, h1, h2⟩ := h; cases q; exact .inr (.inl ⟨vs, e.seqT h1, by rw [h2.empty]⟩)
  | lst b => obtain ⟨a, vs, rfl, h1, h2⟩ := h; cases q; exact .inl ⟨vs, SqL.lst h1, by rw [h2.empty]⟩
  | fz b => obtain ⟨a, vs, rfl, h1, h2⟩ := h; cases q; exact .inl ⟨vs, e.seq h1, by rw [h2.empty]⟩
  | dic ks b => obtain ⟨a, kv, rfl, h1, h2, h3⟩ := h; cases q; exact .inr (.inr ⟨kv, h1, by subst h2; cases kv <;> rfl⟩)
  | _ => cases q
noncomputable def tstT (fa : Env' → Res (RV × Env')) : Env' → Res (Bool × Env') := fun ρ => (fa ρ).bind fun (r, ρ1) => (Res.of ((look ρ1 r).bind D.truth)).bind fun b => .ok (b, ρ1)
/-- a value's truth as a test -/
theorem ft_truth (h : PE X a (tFO X.K mg W fa)) (he : ∀ whole, isTrue a X.env whole = (do let v ← whole; standAt a.pos; holding [v] (truthy v)) := by intro _; rfl) : PT X a (tFB X.K mg W (tstT fa)) := by
  refine (pt_truth h he).imp fun σ H Q ⟨G, ρ, ⟨Hs, fp, ok⟩, po⟩ => ?_
  refine goE ok po (fun _ _ h => h) id fun r1 ρ1 x H1 Hs1 fp1 ok1 dx po1 => ?_
  have ok1' := ok.back ok1
  cases e1 : look ρ1 r1 with
  | none => simp only [e1, Option.bind] at po1; exact po1.elim
  | some d =>
    cases e2 : d.truth with
    | none => simp only [e1, e2, Option.bind] at po1; exact po1.elim
    | some k =>
      simp only [e1, e2, Option.bind, of_some, bind_ok] at po1
      exact ⟨k, truth_den ok1'.sh (look_den ok1' dx e1) e2, po1 H1 ⟨Hs1, fp1, ok1'⟩⟩
section
variable {ta tb : Env' → Res (Bool × Env')} {rest : List Expr}
noncomputable def tstNot (ta : Env' → Res (Bool × Env')) : Env' → Res (Bool × Env') := fun ρ => (ta ρ).bind fun (b, ρ1) => .ok (!b, ρ1)
noncomputable def tstAnd (ta tb : Env' → Res (Bool × Env')) : Env' → Res (Bool × Env') := fun ρ => (ta ρ).bind fun (b, ρ1) => if b = true then tb ρ1 else .ok (false, ρ1)
noncomputable def tstOr (ta tb : Env' → Res (Bool × Env')) : Env' → Res (Bool × Env') := fun ρ => (ta ρ).bind fun (b, ρ1) => if b = true then .ok (true, ρ1) else tb ρ1
theorem ft_not (h : PT X a (tFB X.K mg W ta)) : PT X (.UnaryOp .Not a pos) (tFB X.K mg W (tstNot ta)) := by
  refine (pt_not h).imp fun σ H Q ⟨G, ρ, ⟨Hs, fp, ok⟩, po⟩ => ?_
  exact goT ok po (fun _ _ h => h) id fun b ρ1 H1 Hs1 fp1 ok1 po1 => po1 H1 ⟨Hs1, fp1, ok.back ok1⟩
theorem fw_and1 (h : PT X a (tFB X.K mg W ta)) : PW X (.BoolOp .And [a] pos) (tFB X.K mg W ta) := pw_and1 h
theorem fw_or1 (h : PT X a (tFB X.K mg W ta)) : PW X (.BoolOp .Or [a] pos) (tFB X.K mg W ta) := pw_or1 h
theorem ok_again {K : PySem.W.Frag} {G : Gh} {σ : L2.St} {H H1 : Hp} {ρ ρ1 : Env'} {Hs Hs1 : Hp} {fp fp1 : List Addr} {f : Env' → Res (Bool × Env')} {Q : Bool → Hp → Prop} (ok1 : OkAt K G σ H1 ρ1 Hs1 fp1) (po : PoT K mg W G σ Q (f ρ1)) : tFB K mg W f σ H1 Q := ⟨G, ρ1, ⟨Hs1, fp1, ok1⟩, po⟩
theorem fw_and (ha : PT X a (tFB X.K mg W ta)) (hb : PW X (.BoolOp .And (b :: rest) pos) (tFB X.K mg W tb)) : PW X (.BoolOp .And (a :: b :: rest) pos) (tFB X.K mg W (tstAnd ta tb)) := by
  refine (pw_and ha hb).imp fun σ H Q ⟨G, ρ, ⟨Hs, fp, ok⟩, po⟩ => ?_
  refine goT ok po (fun _ _ h => h) id fun b ρ1 H1 Hs1 fp1 ok1 po1 => ?_
  have ok1' := ok.back ok1
  cases b with
  | true => exact iteT ⟨G, ρ1, ⟨Hs1, fp1, ok1'⟩, po1⟩
  | false => exact iteF (po1 H1 ⟨Hs1, fp1, ok1'⟩)
theorem fw_or (ha : PT X a (tFB X.K mg W ta)) (hb : PW X (.BoolOp .Or (b :: rest) pos) (tFB X.K mg W tb)) : PW X (.BoolOp .Or (a :: b :: rest) pos) (tFB X.K mg W (tstOr ta tb)) := by
  refine (pw_or ha hb).imp fun σ H Q ⟨G, ρ, ⟨Hs, fp, ok⟩, po⟩ => ?_
  refine goT ok po (fun _ _ h => h) id fun b ρ1 H1 Hs1 fp1 ok1 po1 => ?_
  have ok1' := ok.back ok1
  cases b with
  | true => exact iteT (po1 H1 ⟨Hs1, fp1, ok1'⟩)
  | false => exact iteF ⟨G, ρ1, ⟨Hs1, fp1, ok1'⟩, po1⟩
noncomputable def eIf (tc : Env' → Res (Bool × Env')) (fa fb : Env' → Res (RV × Env')) : Env' → Res (RV × Env') := fun ρ => (tc ρ).bind fun (b, ρ1) => if b = true then fa ρ1 else fb ρ1
theorem fo_if (hc : PT X c (tFB X.K mg W ta)) (ha : PE X a (tFO X.K mg W fa)) (hb : PE X b (tFO X.K mg W fb)) : PE X (.IfExp c a b pos) (tFO X.K mg W (eIf ta fa fb)) := by
  refine (pe_ifExp hc ha hb).imp fun σ H Q ⟨G, ρ, ⟨Hs, fp, ok⟩, po⟩ => ?_
  refine goT ok po (fun _ _ h => h) id fun b ρ1 H1 Hs1 fp1 ok1 po1 => ?_
  have ok1' := ok.back ok1
  cases b with
  | true => exact iteT ⟨G, ρ1, ⟨Hs1, fp1, ok1'⟩, po1⟩
  | false => exact iteF ⟨G, ρ1, ⟨Hs1, fp1, ok1'⟩, po1⟩
end
noncomputable def eAnd (fa fb : Env' → Res (RV × Env')) : Env' → Res (RV × Env') := fun ρ => (fa ρ).bind fun (r, ρ1) => match look ρ1 r with
  | some (.bl true) => fb ρ1
  | some (.bl false) => .ok (.leaf (.bl false), ρ1)
  | _ => .bad
noncomputable def eOr (fa fb : Env' → Res (RV × Env')) : Env' → Res (RV × Env') := fun ρ => (fa ρ).bind fun (r, ρ1) => match look ρ1 r with
  | some (.bl false) => fb ρ1
  | some (.bl true) => .ok (.leaf (.bl true), ρ1)
  | _ => .bad
noncomputable def eNot (fa : Env' → Res (RV × Env')) : Env' → Res (RV × Env') := fun ρ => (fa ρ).bind fun (r, ρ1) => match look ρ1 r with
  | some (.bl b) => .ok (.leaf (.bl (!b)), ρ1)
  | _ => .bad
theorem fo_one {op} (h : PE X a (tFO X.K mg W fa)) : PE X (.BoolOp op [a] pos) (tFO X.K mg W fa) := pe_one h
theorem fo_and {rest : List Expr} (ha : PE X a (tFO X.K mg W fa)) (hb : PE X (.BoolOp .And (b :: rest) pos) (tFO X.K mg W fb)) : PE X (.BoolOp .And (a :: b :: rest) pos) (tFO X.K mg W (eAnd fa fb)) := by
  refine (pe_and ha hb).imp fun σ H Q ⟨G, ρ, ⟨Hs, fp, ok⟩, po⟩ => ?_
  refine goE ok po (fun _ _ h => h) id fun r1 ρ1 x H1 Hs1 fp1 ok1 dx po1 => ?_
  have ok1' := ok.back ok1
  simp only at po1
  split at po1
  · rename_i e1
    exact ⟨true, look_den ok1' dx e1, iteT ⟨G, ρ1, ⟨Hs1, fp1, ok1'⟩, po1⟩⟩
  · rename_i e1
    exact ⟨false, look_den ok1' dx e1, iteF (po1 _ _ Hs1 fp1 ok1' rfl)⟩
  · exact po1.elim
theorem fo_or2 {rest : List Expr} (ha : PE X a (tFO X.K mg W fa)) (hb : PE X (.BoolOp .Or (b :: rest) pos) (tFO X.K mg W fb)) : PE X (.BoolOp .Or (a :: b :: rest) pos) (tFO X.K mg W (eOr fa fb)) := by
  refine (pe_or ha hb).imp fun σ H Q ⟨G, ρ, ⟨Hs, fp, ok⟩, po⟩ => ?_
  refine goE ok po (fun _ _ h => h) id fun r1 ρ1 x H1 Hs1 fp1 ok1 dx po1 => ?_
  have ok1' := ok.back ok1
  simp only at po1
  split at po1
  · rename_i e1
    exact ⟨false, look_den ok1' dx e1, iteF ⟨G, ρ1, ⟨Hs1, fp1, ok1'⟩, po1⟩⟩
  · rename_i e1
    exact ⟨true, look_den ok1' dx e1, iteT (po1 _ _ Hs1 fp1 ok1' rfl)⟩
  · exact po1.elim
theorem fo_not (ha : PE X a (tFO X.K mg W fa)) : PE X (.UnaryOp .Not a pos) (tFO X.K mg W (eNot fa)) := by
  refine (pe_not ha).imp fun σ H Q ⟨G, ρ, ⟨Hs, fp, ok⟩, po⟩ => ?_
  refine goE ok po (fun _ _ h => h) id fun r1 ρ1 x H1 Hs1 fp1 ok1 dx po1 => ?_
  have ok1' := ok.back ok1
  simp only at po1
  split at po1
  · rename_i b e1
    exact ⟨b, look_den ok1' dx e1, po1 _ _ Hs1 fp1 ok1' rfl⟩
  · exact po1.elim
/-- a op b op' c -/
noncomputable def eChain (g g' : D → D → Option D) (fa fb fc : Env' → Res (RV × Env')) : Env' → Res (RV × Env') := fun ρ =>
  (fa ρ).bind fun (r1, ρ1) => (fb ρ1).bind fun (r2, ρ2) => (Res.of (look ρ2 r1)).bind fun d1 => (Res.of (look ρ2 r2)).bind fun d2 => match g d1 d2 with
    | some (.bl true) => (fc ρ2).bind fun (r3, ρ3) => (Res.of (look ρ3 r2)).bind fun d2 => (Res.of (look ρ3 r3)).bind fun d3 => (Res.of (g' d2 d3)).bind fun d => .ok (.leaf d, ρ3)
    | some (.bl false) => .ok (.leaf (.bl false), ρ2)
    | _ => .bad
theorem chain_go {r r' : R2} {g g' : D → D → Option D} (hr : ∀ x y H Q, (∃ Hs d1 d2 d, Same Hs H ∧ Den1 X.K Hs H d1 x ∧ Den1 X.K Hs H d2 y ∧ g d1 d2 = some d ∧ ∀ v Hs' H', Ext Hs H Hs' H' → Den X.K Hs' d v → Q v H') → r x y H Q)
    (hr' : ∀ x y H Q, (∃ Hs d1 d2 d, Same Hs H ∧ Den1 X.K Hs H d1 x ∧ Den1 X.K Hs H d2 y ∧ g' d1 d2 = some d ∧ ∀ v Hs' H', Ext Hs H Hs' H' → Den X.K Hs' d v → Q v H') → r' x y H Q)
    {σ : L2.St} {H : Hp} {Q : VK} (h : tFO X.K mg W (eChain g g' fa fb fc) σ H Q) : tChain r r' (tFO X.K mg W fa) (tFO X.K mg W fb) (tFO X.K mg W fc) σ H Q := by
  obtain ⟨G, ρ, ⟨Hs, fp, ok⟩, po⟩ := h
  refine goE ok po (fun _ _ h => h) id fun r1 ρ1 x H1 Hs1 fp1 ok1 dx po1 => ?_
  have ok1' := ok.back ok1
  refine goE ok1' po1 (fun _ _ h => h) id fun r2 ρ2 y H2 Hs2 fp2 ok2 dy po2 => hr x y H2 _ ?_
  have ok2' := ok1'.back ok2
  have dx' : RVd X.K Hs2 σ r1 x := dx.mono ok2.base
  cases e1 : look ρ2 r1 with
  | none => simp only [e1] at po2; exact po2.elim
  | some d1 =>
    cases e2 : look ρ2 r2 with
    | none => simp only [e1, e2] at po2; exact po2.elim
    | some d2 =>
      simp only [e1, e2, of_some, bind_ok] at po2
      split at po2
      · rename_i e3
        refine ⟨Hs2, d1, d2, _, ok2'.sh, look_den ok2' dx' e1, look_den ok2' dy e2, e3, fun v Hs' H' ex dv => ⟨true, dv, iteT ?_⟩⟩
        have okx := ok2'.ext ex
        refine goE okx po2 (fun _ _ h => h) id fun r3 ρ3 z H3 Hs3 fp3 ok3 dz po3 => hr' y z H3 Q ?_
        have ok3' := okx.back ok3
        have dy' : RVd X.K Hs3 σ r2 y := (dy.mono ex.s).mono ok3.base
        cases e4 : look ρ3 r2 with
        | none => simp only [e4] at po3; exact po3.elim
        | some d4 =>
          cases e5 : look ρ3 r3 with
          | none => simp only [e4, e5] at po3; exact po3.elim
          | some d5 =>
            cases e6 : g' d4 d5 with
            | none => simp only [e4, e5, e6, of_some, bind_ok] at po3; exact po3.elim
            | some d =>
              simp only [e4, e5, e6, of_some, bind_ok] at po3
              exact ⟨Hs3, d4, d5, d, ok3'.sh, look_den ok3' dy' e4, look_den ok3' dz e5, e6, fun v Hs' H' ex dv => po3 v H' Hs' fp3 (ok3'.ext ex) dv⟩
      · rename_i e3
        exact ⟨Hs2, d1, d2, _, ok2'.sh, look_den ok2' dx' e1, look_den ok2' dy e2, e3, fun v Hs' H' ex dv => ⟨false, dv, iteF (po2 _ _ Hs' fp2 (ok2'.ext ex) rfl)⟩⟩
      · exact po2.elim
theorem fo_chain {op op' : CmpOp} {g g' : D → D → Option D} (ho : OpD X (compareOp op) g) (ho' : OpD X (compareOp op') g') (ha : PE X a (tFO X.K mg W fa)) (hb : PE X b (tFO X.K mg W fb)) (hc : PE X c (tFO X.K mg W fc))
    (hm : lastMarks [op, op'] [b, c] = false := by with_unfolding_all rfl) : PE X (.Compare a [op, op'] [b, c] pos) (tFO X.K mg W (eChain g g' fa fb fc)) :=
  (pe_chain ho ho' ha hb hc hm).imp fun _ _ _ h => chain_go (fun _ _ _ _ q => q) (fun _ _ _ _ q => q) h
theorem ft_chain {op op' : CmpOp} {g g' : D → D → Option D} (ho : OpD X (compareOp op) g) (ho' : OpD X (compareOp op') g') (ha : PE X a (tFO X.K mg W fa)) (hb : PE X b (tFO X.K mg W fb)) (hc : PE X c (tFO X.K mg W fc))
    (hm : lastMarks [op, op'] [b, c] = false := by with_unfolding_all rfl) : PT X (.Compare a [op, op'] [b, c] pos) (tFB X.K mg W (tstV (eChain g g' fa fb fc))) :=
  (pt_chain ho ho' ha hb hc hm).imp fun σ H Q q => tst_go (fun _ _ _ h => chain_go (fun _ _ _ _ q => q) (fun _ _ _ _ q => q) h) q

/-! subscripts, slices -/
noncomputable def IxD (X : Cx) (g : D → D → Option D) : Prop :=
  IxR X fun x y H Q => ∃ Hs d1 d2 d, Same Hs H ∧ Den1 X.K Hs H d1 x ∧ Den1 X.K Hs H d2 y ∧ g d1 d2 = some d ∧ ∀ v Hs' H', Ext Hs H Hs' H' → Den X.K Hs' d v → Q v H'
noncomputable def D.ix : D → D → Option D
  | .lst ds, .int i => atI ds i
  | .fz ds, .int i => atI ds i
  | .tup ds, .int i => atI ds i
  | .ftup ds, .int i => atI ds i
  | .str x, .int i => (atI x.cps.toList i).map fun c => .str ⟨#[c]⟩
  | _, _ => none
theorem DenL.atI {K H} {ds : List D} {vs : List V} {i : Int} {d : D} (h : DenL K H ds vs) (e : L2.atI ds i = some d) : ∃ v, L2.atI vs i = some v ∧ Den K H d v := by
  unfold L2.atI at e ⊢
  rw [h.length]
  cases z : ixN ds.length i with
  | none => rw [z] at e; cases e
  | some j =>
    rw [z] at e
    exact h.get (i := j) (by simpa using e)
theorem xd_ix : IxD X D.ix := by
  rintro value slice pins s σ H x y v u Q I rx ry ⟨Hs, d1, d2, d, e, h1, h2, g, q⟩ hs
  unfold D.ix at g
  split at g
  · obtain ⟨a, vs, rfl, k1, k2⟩ := h1
    cases h2
    obtain ⟨w, e1, e2⟩ := k2.atI g
    exact ix_seq value slice pins s σ H _ _ v u Q I rx ry (.inl ⟨a, vs, _, w, rfl, rfl, SqL.lst k1, e1, q _ _ _ (.refl e) e2⟩) hs
  · obtain ⟨a, vs, rfl, k1, k2⟩ := h1
    cases h2
    obtain ⟨w, e1, e2⟩ := k2.atI g
    exact ix_seq value slice pins s σ H _ _ v u Q I rx ry (.inl ⟨a, vs, _, w, rfl, rfl, e.seq k1, e1, q _ _ _ (.refl e) e2⟩) hs
  · obtain ⟨a, vs, rfl, k1, k2⟩ := h1
    cases h2
    obtain ⟨w, e1, e2⟩ := k2.atI g
    exact ix_seq value slice pins s σ H _ _ v u Q I rx ry (.inr (.inl ⟨a, vs, _, w, rfl, rfl, SqT.of (e _ _ k1), e1, q _ _ _ (.refl e) e2⟩)) hs
  · obtain ⟨a, vs, rfl, k1, k2⟩ := h1
    cases h2
    obtain ⟨w, e1, e2⟩ := k2.atI g
    exact ix_seq value slice pins s σ H _ _ v u Q I rx ry (.inr (.inl ⟨a, vs, _, w, rfl, rfl, e.seqT k1, e1, q _ _ _ (.refl e) e2⟩)) hs
  · rename_i z i
    obtain ⟨rfl, k1⟩ := h1
    cases h2
    simp only [Option.map_eq_some_iff] at g
    obtain ⟨c, g1, rfl⟩ := g
    refine ix_seq value slice pins s σ H _ _ v u Q I rx ry (.inr (.inr ⟨_, _, c, rfl, rfl, k1.1, g1, q _ _ _ (.refl e) ⟨rfl, sOk_sign k1 ?_⟩⟩)) hs
    unfold L2.atI at g1
    cases z : ixN _ i with
    | none => rw [z] at g1; cases g1
    | some j => rw [z] at g1; exact List.mem_of_getElem? (by simpa using g1)
  · cases g
theorem fo_ix {g : D → D → Option D} (hr : IxD X g) (ha : PE X a (tFO X.K mg W fa)) (hb : PE X b (tFO X.K mg W fb)) (hs : PlainIx b) : PE X (.Subscript a b pos) (tFO X.K mg W (eBin g fa fb)) :=
  (pe_ix hr ha hb hs).imp fun _ _ _ h => bin_go (fun _ _ _ _ q => q) h
/-- a slice's part -/
noncomputable def PoP (K : PySem.W.Frag) (mg : Str → Option Value) (W : WX) (G : Gh) (σ : L2.St) (Q : Option Int → Hp → Prop) : Res (Option Int × Env') → Prop
  | .ok (o, ρ') => ∀ H', Ok K G σ H' ρ' → Q o H'
  | .exc c ρ' => ∀ H' C, mg c = some (.ref C) → Ok K G σ H' ρ' → W (.ref C) none σ H'
  | .bad => False
noncomputable def tFP (K : PySem.W.Frag) (mg : Str → Option Value) (W : WX) (f : Env' → Res (Option Int × Env')) : TO := fun σ H Q => ∃ G ρ, Ok K G σ H ρ ∧ PoP K mg W G σ Q (f ρ)
noncomputable def pNone : Env' → Res (Option Int × Env') := fun ρ => .ok (none, ρ)
noncomputable def pSome (fa : Env' → Res (RV × Env')) : Env' → Res (Option Int × Env') := fun ρ => (fa ρ).bind fun (r, ρ1) => match look ρ1 r with
  | some (.int i) => .ok (some i, ρ1)
  | _ => .bad
theorem _root_.L2.PO.imp {X : Cx} {e : Option Expr} {t t' : TO} (h : PO X e t) (i : ∀ σ H Q, t' σ H Q → t σ H Q) : PO X e t' := ⟨fun pins s σ H Q I q => h.run pins s σ H Q I (i σ H Q q)⟩
theorem fp_none : PO X none (tFP X.K mg W pNone) := po_none.imp fun σ H Q ⟨G, ρ, ok, po⟩ => po H ok
theorem fp_some (h : PE X a (tFO X.K mg W fa)) : PO X (some a) (tFP X.K mg W (pSome fa)) := by
  refine (po_some h).imp fun σ H Q ⟨G, ρ, ⟨Hs, fp, ok⟩, po⟩ => ?_
  refine goE ok po (fun _ _ h => h) id fun r1 ρ1 x H1 Hs1 fp1 ok1 dx po1 => ?_
  have ok1' := ok.back ok1
  simp only at po1
  split at po1
  · rename_i e1
    exact ⟨_, look_den ok1' dx e1, po1 H1 ⟨Hs1, fp1, ok1'⟩⟩
  · exact po1.elim
theorem goP {K : PySem.W.Frag} {G : Gh} {σ : L2.St} {H : Hp} {ρ : Env'} {Hs : Hp} {fp : List Addr} {β : Type} {P : Res β → Prop} {f : Env' → Res (Option Int × Env')} {k : Option Int × Env' → Res β} {R : Option Int → Hp → Prop} (ok : OkAt K G σ H ρ Hs fp) (po : P ((f ρ).bind k))
    (hx : ∀ c ρ', P (.exc c ρ') → ∀ H' C, mg c = some (.ref C) → Ok K G σ H' ρ' → W (.ref C) none σ H') (hb : ¬ P .bad)
    (cont : ∀ b ρ1 H1 Hs1 fp1, OkAt K (Hs, rem H fp) σ H1 ρ1 Hs1 fp1 → P (k (b, ρ1)) → R b H1) : tFP K mg W f σ H R := by
  refine ⟨_, ρ, ⟨Hs, fp, ok.self⟩, ?_⟩
  cases e : f ρ with
  | ok p =>
    obtain ⟨r, ρ1⟩ := p
    rw [e] at po
    exact fun H1 ⟨Hs1, fp1, ok1⟩ => cont r ρ1 H1 Hs1 fp1 ok1 po
  | exc c ρ' =>
    rw [e] at po
    exact fun H' C hc o => hx c ρ' po H' C hc (Ok.back ok o)
  | bad =>
    rw [e] at po
    exact hb po
noncomputable def cutD (xs : List D) (lo hi : Option Int) : List D := (xs.drop (HT.sIx xs.length 0 lo)).take (HT.sIx xs.length xs.length hi - HT.sIx xs.length 0 lo)
theorem DenL.cut {K H} {ds : List D} {vs : List V} (h : DenL K H ds vs) (lo hi : Option Int) : DenL K H (cutD ds lo hi) (cutV vs lo hi) := by
  unfold cutD cutV
  rw [h.length]
  exact (h.drop _).take _
noncomputable def D.sl (lo hi : Option Int) : D → Option D
  | .lst ds => some (.lst (cutD ds lo hi))
  | .fz ds => some (.lst (cutD ds lo hi))
  | .tup ds => some (.tup (cutD ds lo hi))
  | .str x => some (.str (cutS x lo hi))
  | _ => none
noncomputable def eSl (fa : Env' → Res (RV × Env')) (fl fh : Env' → Res (Option Int × Env')) : Env' → Res (RV × Env') := fun ρ =>
  (fa ρ).bind fun (r, ρ1) => (fl ρ1).bind fun (lo, ρ2) => (fh ρ2).bind fun (hi, ρ3) => (Res.of ((look ρ3 r).bind (D.sl lo hi))).bind fun d => .ok (.leaf d, ρ3)
theorem cut_whole (xs : List V) (lo hi : Option Int) (h : HT.sIx xs.length 0 lo = 0 ∧ HT.sIx xs.length xs.length hi = xs.length) : cutV xs lo hi = xs := by
  unfold cutV
  rw [h.1, h.2, List.drop_zero, Nat.sub_zero, List.take_length]
theorem cutS_ok {x : Str} (lo hi : Option Int) (h : sOk x) : sOk (cutS x lo hi) := sOk_sub h (fun c hc => List.mem_of_mem_drop (List.mem_of_mem_take hc)) (by
  have := cutS_length x lo hi
  unfold cutS at this
  simpa [Str.length] using this)
theorem fo_sl {lo hi : Option Expr} {fl fh : Env' → Res (Option Int × Env')} {p2 : Pos} (ha : PE X a (tFO X.K mg W fa)) (hl : PO X lo (tFP X.K mg W fl)) (hh : PO X hi (tFP X.K mg W fh)) : PE X (.Subscript a (.Slice lo hi none p2) pos) (tFO X.K mg W (eSl fa fl fh)) := by
  refine (pe_slice (sl_list.or (sl_tupA.or sl_str)) ha hl hh).imp fun σ H Q ⟨G, ρ, ⟨Hs, fp, ok⟩, po⟩ => ?_
  refine goE ok po (fun _ _ h => h) id fun r1 ρ1 x H1 Hs1 fp1 ok1 dx po1 => ?_
  have ok1' := ok.back ok1
  refine goP ok1' po1 (fun _ _ h => h) id fun lo ρ2 H2 Hs2 fp2 ok2 po2 => ?_
  have ok2' := ok1'.back ok2
  refine goP ok2' po2 (fun _ _ h => h) id fun hi ρ3 H3 Hs3 fp3 ok3 po3 => ?_
  have ok3' := ok2'.back ok3
  have dx3 : RVd X.K Hs3 σ r1 x := (dx.mono ok2.base).mono ok3.base
  cases e1 : look ρ3 r1 with
  | none => simp only [e1, Option.bind] at po3; exact po3.elim
  | some d =>
    have q := look_den ok3' dx3 e1
    simp only [e1, Option.bind] at po3
    cases d with
    | lst ds =>
      obtain ⟨a, vs, rfl, k1, k2⟩ := q
      refine .inl ⟨a, vs, rfl, SqL.lst k1, fun p hp => ?_⟩
      have ex := Ext.new (o := .lst (cutV vs lo hi)) ok3'.sh hp
      exact po3 _ _ _ fp3 (ok3'.ext ex) ⟨p, _, rfl, upd_same, (k2.cut lo hi).mono ex.s⟩
    | fz ds =>
      obtain ⟨a, vs, rfl, k1, k2⟩ := q
      refine .inl ⟨a, vs, rfl, ok3'.sh.seq k1, fun p hp => ?_⟩
      have ex := Ext.new (o := .lst (cutV vs lo hi)) ok3'.sh hp
      exact po3 _ _ _ fp3 (ok3'.ext ex) ⟨p, _, rfl, upd_same, (k2.cut lo hi).mono ex.s⟩
    | tup ds =>
      obtain ⟨a, vs, rfl, k1, k2⟩ := q
      refine .inr (.inl ⟨a, vs, rfl, SqT.of (ok3'.sh _ _ k1), fun z => ?_, fun _ p hp => ?_⟩)
      · have k3 := k2.cut lo hi
        rw [cut_whole vs lo hi z] at k3
        exact po3 _ _ _ fp3 ok3' ⟨a, vs, rfl, k1, k3⟩
      · have ex := Ext.new (o := .tup (cutV vs lo hi)) ok3'.sh hp
        exact po3 _ _ _ fp3 (ok3'.ext ex) ⟨p, _, rfl, upd_same, (k2.cut lo hi).mono ex.s⟩
    | str z =>
      obtain ⟨rfl, k⟩ := q
      exact .inr (.inr ⟨z, rfl, k.1, po3 _ _ _ fp3 ok3' ⟨rfl, cutS_ok lo hi k⟩⟩)
    | _ => exact po3.elim
end
end FL

namespace FL
open PySem PySem.Spec PyProof.Rows L2

/-! ### fresh trees -/
section
variable {X : Cx} {mg : Str → Option Value} {W : WX} {a b c : Expr} {fa fb fc : Env' → Res (RV × Env')} {na nb : Env' → Res (T × Env')} {pos : Pos}
/-- a new list of shared things -/
theorem OkAt.newList {K G σ H ρ Hs fp H' p vs ds} (ok : OkAt K G σ H ρ Hs fp) (hp : H p = none) (h1 : H' p = some (.lst vs)) (h2 : ∀ b o, H b = some o → H' b = some o) (h3 : DenL K Hs ds vs) :
    OkAt K G σ H' ρ Hs fp ∧ DenT K Hs H' (.lst (ds.map T.sh)) (.ref p) [p] ∧ [p].Nodup ∧ ∀ a ∈ [p], Hs a = none ∧ a ∉ fp ∧ G.2 a = none := by
  refine ⟨ok.ext ⟨Same.refl _, ok.sh.trans h2, h2, fun _ _ e => e⟩, ⟨p, vs, [], rfl, rfl, h1, DenTL.sh h3⟩, by simp, fun a ha => ?_⟩
  have e : a = p := by simpa using ha
  subst e
  refine ⟨ok.sh.free hp, fun hm => ?_, Same.free ok.frame hp⟩
  obtain ⟨o, eo⟩ := ok.env.there a hm
  rw [hp] at eo
  cases eo
noncomputable def nOf (fa : Env' → Res (RV × Env')) : Env' → Res (T × Env') := fun ρ => (fa ρ).bind fun (r, ρ1) => (Res.of (esc ρ1 r)).bind fun (d, ρ2) => .ok (.sh d, ρ2)
theorem fn_of (h : PE X a (tFO X.K mg W fa)) : PE X a (tFN X.K mg W (nOf fa)) := h.imp fun σ H Q ⟨G, ρ, ⟨Hs, fp, ok⟩, po⟩ => by
  refine goE ok po (fun _ _ h => h) id fun r1 ρ1 x H1 Hs1 fp1 ok1 dx po1 => ?_
  have ok1' := ok.back ok1
  cases e1 : esc ρ1 r1 with
  | none => simp only [e1] at po1; exact po1.elim
  | some p =>
    obtain ⟨d, ρ1'⟩ := p
    simp only [e1, of_some, bind_ok] at po1
    obtain ⟨Hs1', fp1', okE, sE, dE⟩ := esc_den ok1' dx e1
    exact po1 x H1 Hs1' fp1' [] okE ⟨rfl, dE⟩ (by simp) (fun a ha => by cases ha)
/-- a fresh tree let go -/
noncomputable def oOf (na : Env' → Res (T × Env')) : Env' → Res (RV × Env') := fun ρ => (na ρ).bind fun (t, ρ1) => .ok (.leaf t.d, ρ1)
theorem OkAt.letGo {K G σ H ρ Hs fp t v ft} (ok : OkAt K G σ H ρ Hs fp) (h : DenT K Hs H t v ft) (h2 : ∀ a ∈ ft, Hs a = none ∧ a ∉ fp ∧ G.2 a = none) : ∃ Hs', OkAt K G σ H ρ Hs' fp ∧ Same Hs Hs' ∧ Den K Hs' t.d v := by
  let Hs' : Hp := fun a => if a ∈ ft then H a else Hs a
  have e1 : ∀ a, a ∈ ft → Hs' a = H a := fun a ha => by show (if a ∈ ft then H a else Hs a) = _; rw [if_pos ha]
  have e2 : ∀ a, a ∉ ft → Hs' a = Hs a := fun a ha => by show (if a ∈ ft then H a else Hs a) = _; rw [if_neg ha]
  have s1 : Same Hs Hs' := fun a o e => by
    have n : a ∉ ft := fun ha => by rw [(h2 a ha).1] at e; cases e
    rw [e2 a n]; exact e
  have s2 : Same Hs' H := fun a o e => by
    by_cases ha : a ∈ ft
    · rw [e1 a ha] at e; exact e
    · rw [e2 a ha] at e; exact ok.sh a o e
  refine ⟨Hs', ⟨s2, ok.base.trans s1, ok.frame, fun a p1 p2 => ?_, fun a ha => ?_, ok.nd, ok.env.mono s1 fun _ _ => rfl⟩, s1, h.den s1 e1⟩
  · obtain ⟨q1, q2⟩ := ok.priv a p1 p2
    have n : a ∉ ft := fun hm => by rw [(h2 a hm).2.2] at p1; cases p1
    exact ⟨by rw [e2 a n]; exact q1, q2⟩
  · have n : a ∉ ft := fun hm => (h2 a hm).2.1 ha
    rw [e2 a n]; exact ok.disj a ha
theorem fo_of (h : PE X a (tFN X.K mg W na)) : PE X a (tFO X.K mg W (oOf na)) := h.imp fun σ H Q ⟨G, ρ, ⟨Hs, fp, ok⟩, po⟩ => by
  refine goN ok po (fun _ _ h => h) id fun t ρ1 x H1 Hs1 fp1 ft ok1 dt nd q po1 => ?_
  have ok1' := ok.back ok1
  obtain ⟨Hs2, okE, sE, dE⟩ := ok1'.letGo dt fun a ha => ⟨(q a ha).1, (q a ha).2.1, rem_none ok (q a ha).2.2⟩
  exact po1 x H1 Hs2 fp1 okE dE
/-- arguments as trees -/
noncomputable def PoAT (K : PySem.W.Frag) (mg : Str → Option Value) (W : WX) (G : Gh) (σ : L2.St) (Q : List V → Hp → Prop) : Res (List T × Env') → Prop
  | .ok (ts, ρ') => ∀ vs H' Hs fp ft, OkAt K G σ H' ρ' Hs fp → DenTL K Hs H' ts vs ft → ft.Nodup → (∀ a ∈ ft, Hs a = none ∧ a ∉ fp ∧ G.2 a = none) → Q vs H'
  | .exc c ρ' => ∀ H' C, mg c = some (.ref C) → Ok K G σ H' ρ' → W (.ref C) none σ H'
  | .bad => False
noncomputable def tFAT (K : PySem.W.Frag) (mg : Str → Option Value) (W : WX) (f : Env' → Res (List T × Env')) : TA := fun σ H Q => ∃ G ρ, Ok K G σ H ρ ∧ PoAT K mg W G σ Q (f ρ)
theorem goAT {K : PySem.W.Frag} {G : Gh} {σ : L2.St} {H : Hp} {ρ : Env'} {Hs : Hp} {fp : List Addr} {β : Type} {P : Res β → Prop} {f : Env' → Res (List T × Env')} {k : List T × Env' → Res β} {R : List V → Hp → Prop} (ok : OkAt K G σ H ρ Hs fp) (po : P ((f ρ).bind k))
    (hx : ∀ c ρ', P (.exc c ρ') → ∀ H' C, mg c = some (.ref C) → Ok K G σ H' ρ' → W (.ref C) none σ H') (hb : ¬ P .bad)
    (cont : ∀ ts ρ1 xs H1 Hs1 fp1 ft, OkAt K (Hs, rem H fp) σ H1 ρ1 Hs1 fp1 → DenTL K Hs1 H1 ts xs ft → ft.Nodup → (∀ a ∈ ft, Hs1 a = none ∧ a ∉ fp1 ∧ rem H fp a = none) → P (k (ts, ρ1)) → R xs H1) : tFAT K mg W f σ H R := by
  refine ⟨_, ρ, ⟨Hs, fp, ok.self⟩, ?_⟩
  cases e : f ρ with
  | ok p =>
    obtain ⟨r, ρ1⟩ := p
    rw [e] at po
    exact fun x H1 Hs1 fp1 ft ok1 d1 n1 q1 => cont r ρ1 x H1 Hs1 fp1 ft ok1 d1 n1 q1 po
  | exc c ρ' =>
    rw [e] at po
    exact fun H' C hc o => hx c ρ' po H' C hc (Ok.back ok o)
  | bad =>
    rw [e] at po
    exact hb po
noncomputable def atNil : Env' → Res (List T × Env') := fun ρ => .ok ([], ρ)
noncomputable def atCons (na : Env' → Res (T × Env')) (nr : Env' → Res (List T × Env')) : Env' → Res (List T × Env') := fun ρ => (na ρ).bind fun (t, ρ1) => (nr ρ1).bind fun (ts, ρ2) => .ok (t :: ts, ρ2)
theorem fat_nil : PA X [] (tFAT X.K mg W atNil) := pa_nil.imp fun σ H Q ⟨G, ρ, ⟨Hs, fp, ok⟩, po⟩ => po [] H Hs fp [] ok ⟨rfl, rfl⟩ (by simp) (fun _ h => by cases h)
theorem fat_cons {es : List Expr} {nr : Env' → Res (List T × Env')} (ha : PE X a (tFN X.K mg W na)) (hr : PA X es (tFAT X.K mg W nr)) (hs : starEach (a :: es) X.env = (false, eval a X.env) :: starEach es X.env := by rfl) : PA X (a :: es) (tFAT X.K mg W (atCons na nr)) := by
  refine (pa_cons ha hr hs).imp fun σ H Q ⟨G, ρ, ⟨Hs, fp, ok⟩, po⟩ => ?_
  refine goN ok po (fun _ _ h => h) id fun t ρ1 x H1 Hs1 fp1 ft ok1 dt nd q po1 => ?_
  have ok1' := ok.back ok1
  refine goAT ok1' po1 (fun _ _ h => h) id fun ts ρ2 ys H2 Hs2 fp2 ft2 ok2 dy nd2 q2 po2 => ?_
  have ok2' := ok1'.back ok2
  have keep : ∀ a ∈ ft, H2 a = H1 a ∧ Hs2 a = none ∧ a ∉ fp2 ∧ a ∉ ft2 := fun a ha => by
    obtain ⟨o, eo⟩ := dt.there a ha
    have r1 : rem H1 fp1 a = some o := by simp [rem, (q a ha).2.1, eo]
    obtain ⟨p1, p2⟩ := ok2.priv a (by show (rem H1 fp1 a).isSome = true; rw [r1]; rfl) (q a ha).1
    refine ⟨by rw [eo]; exact ok2.frame a o r1, p1, p2, fun hm => ?_⟩
    have := (q2 a hm).2.2
    rw [r1] at this
    cases this
  refine po2 _ H2 Hs2 fp2 (ft ++ ft2) ok2' ⟨x, ys, ft, ft2, rfl, rfl, dt.mono ok2.base fun a ha => (keep a ha).1, dy⟩ ?_ fun a ha => ?_
  · rw [List.nodup_append]
    exact ⟨nd, nd2, fun a ha b hb e => (keep a ha).2.2.2 (by rw [e]; exact hb)⟩
  · rcases List.mem_append.mp ha with ha | ha
    · exact ⟨(keep a ha).2.1, (keep a ha).2.2.1, rem_none ok (q a ha).2.2⟩
    · exact ⟨(q2 a ha).1, (q2 a ha).2.1, rem_none ok1' (q2 a ha).2.2⟩
noncomputable def nLst (ns : Env' → Res (List T × Env')) : Env' → Res (T × Env') := fun ρ => (ns ρ).bind fun (ts, ρ1) => if ts.length ≤ sizeLine then .ok (.lst ts, ρ1) else .bad
/-- a tree under a new list's object -/
theorem OkAt.newTree {K G σ H ρ Hs fp p vs ts ft} (ok : OkAt K G σ H ρ Hs fp) (hp : H p = none) (h3 : DenTL K Hs H ts vs ft) (nd : ft.Nodup) (q : ∀ a ∈ ft, Hs a = none ∧ a ∉ fp ∧ G.2 a = none) :
    OkAt K G σ (upd H p (.lst vs)) ρ Hs fp ∧ DenT K Hs (upd H p (.lst vs)) (.lst ts) (.ref p) (p :: ft) ∧ (p :: ft).Nodup ∧ ∀ a ∈ p :: ft, Hs a = none ∧ a ∉ fp ∧ G.2 a = none := by
  have np : p ∉ ft := fun hm => by obtain ⟨o, eo⟩ := h3.there p hm; rw [hp] at eo; cases eo
  refine ⟨ok.ext (.out ok.sh hp), ⟨p, vs, ft, rfl, rfl, upd_same, h3.mono (Same.refl _) fun a ha => upd_ne fun e => np (e ▸ ha)⟩, List.nodup_cons.mpr ⟨np, nd⟩, fun a ha => ?_⟩
  rcases List.mem_cons.mp ha with rfl | ha
  · refine ⟨ok.sh.free hp, fun hm => ?_, Same.free ok.frame hp⟩
    obtain ⟨o, eo⟩ := ok.env.there a hm
    rw [hp] at eo
    cases eo
  · exact q a ha
theorem fn_lst {es : List Expr} {ns : Env' → Res (List T × Env')} (h : PA X es (tFAT X.K mg W ns)) : PE X (.List es pos) (tFN X.K mg W (nLst ns)) := by
  refine (pe_lst h).imp fun σ H Q ⟨G, ρ, ⟨Hs, fp, ok⟩, po⟩ => ?_
  refine goAT ok po (fun _ _ h => h) id fun ts ρ1 xs H1 Hs1 fp1 ft ok1 dx nd q po1 => ?_
  have ok1' := ok.back ok1
  simp only at po1
  split at po1
  · rename_i c
    refine ⟨by rw [dx.length]; exact c, fun p hp => ?_⟩
    obtain ⟨k1, k2, k3, k4⟩ := ok1'.newTree hp dx nd fun a ha => ⟨(q a ha).1, (q a ha).2.1, rem_none ok (q a ha).2.2⟩
    exact po1 _ _ Hs1 fp1 _ k1 k2 k3 k4
  · exact po1.elim
/-- a built-in that makes a list of one's own -/
noncomputable def nB (g : List D → Option (List D)) (fs : Env' → Res (List RV × Env')) : Env' → Res (T × Env') := fun ρ =>
  (fs ρ).bind fun (rs, ρ1) => (Res.of (looks ρ1 rs)).bind fun ds => (Res.of (g ds)).bind fun es => .ok (.lst (es.map T.sh), ρ1)
theorem nb_go {r : List V → Hp → VK → Prop} {g : List D → Option (List D)} {fs : Env' → Res (List RV × Env')}
    (hr : ∀ xs H Q, (∃ Hs ds es, Same Hs H ∧ Den1L X.K Hs H ds xs ∧ g ds = some es ∧ ∀ p H' vs, H p = none → H' p = some (.lst vs) → (∀ b o, H b = some o → H' b = some o) → DenL X.K Hs es vs → Q (.ref p) H') → r xs H Q)
    {σ : L2.St} {H : Hp} {Q : VK} (h : tFN X.K mg W (nB g fs) σ H Q) : tCB r (tFA X.K mg W fs) σ H Q := by
  obtain ⟨G, ρ, ⟨Hs, fp, ok⟩, po⟩ := h
  refine goA ok po (fun _ _ h => h) id fun rs ρ1 xs H1 Hs1 fp1 ok1 dx po1 => hr xs H1 Q ?_
  have ok1' := ok.back ok1
  cases e1 : looks ρ1 rs with
  | none => simp only [e1] at po1; exact po1.elim
  | some ds =>
    cases e3 : g ds with
    | none => simp only [e1, e3, of_some, bind_ok] at po1; exact po1.elim
    | some es =>
      simp only [e1, e3, of_some, bind_ok] at po1
      refine ⟨Hs1, ds, es, ok1'.sh, looks_den ok1' dx e1, e3, fun p H' vs hp h1 h2 h3 => ?_⟩
      obtain ⟨k1, k2, k3, k4⟩ := ok1'.newList hp h1 h2 h3
      exact po1 _ _ Hs1 fp1 _ k1 k2 k3 k4
theorem fn_callTy {x : Str} {id : String} {p : Pos} {e : Expr} {es : List Expr} {g : List D → Option (List D)} {fs : Env' → Res (List RV × Env')} (hc : CallN X (.type id) g) (hg : Gl X x) (hm : X.mg x = none) (hv : bootBuiltins x = some (.type id)) (ha : PA X (e :: es) (tFA X.K mg W fs)) (hn : x ≠ "__name__" := by decide) (hdb : (x == ("__debug__" : Str)) = false := by decide)
    (he : starEach (e :: es) X.env = (false, eval e X.env) :: starEach es X.env := by rfl) (hpl : (backTo pos (starEach es X.env)).any (·.1) = false := by rfl) : PE X (.Call (.Name x p) (e :: es) [] pos) (tFN X.K mg W (nB g fs)) :=
  (pe_callTy hc hg hm hv ha hn hdb he hpl).imp fun _ _ _ h => nb_go (fun _ _ _ q => q) h
theorem fn_callB {x : Str} {id : String} {p : Pos} {e : Expr} {es : List Expr} {g : List D → Option (List D)} {fs : Env' → Res (List RV × Env')} (hc : CallN X (.builtin id) g) (hg : Gl X x) (hm : X.mg x = none) (hv : bootBuiltins x = some (.builtin id)) (ha : PA X (e :: es) (tFA X.K mg W fs)) (hn : x ≠ "__name__" := by decide) (hdb : (x == ("__debug__" : Str)) = false := by decide)
    (he : starEach (e :: es) X.env = (false, eval e X.env) :: starEach es X.env := by rfl) (hpl : (backTo pos (starEach es X.env)).any (·.1) = false := by rfl) : PE X (.Call (.Name x p) (e :: es) [] pos) (tFN X.K mg W (nB g fs)) :=
  (pe_callB hc hg hm hv ha hn hdb he hpl).imp fun _ _ _ h => nb_go (fun _ _ _ q => q) h
/-- a binary operation that makes a list of one's own -/
noncomputable def OpN (X : Cx) (f : Value → Value → Sem Value) (g : D → D → Option (List D)) : Prop :=
  OpR X f fun x y H Q => ∃ Hs d1 d2 es, Same Hs H ∧ Den1 X.K Hs H d1 x ∧ Den1 X.K Hs H d2 y ∧ g d1 d2 = some es ∧ ∀ p H' vs, H p = none → H' p = some (.lst vs) → (∀ b o, H b = some o → H' b = some o) → DenL X.K Hs es vs → Q (.ref p) H'
noncomputable def nBin (g : D → D → Option (List D)) (fa fb : Env' → Res (RV × Env')) : Env' → Res (T × Env') := fun ρ =>
  (fa ρ).bind fun (r1, ρ1) => (fb ρ1).bind fun (r2, ρ2) => (Res.of (look ρ2 r1)).bind fun d1 => (Res.of (look ρ2 r2)).bind fun d2 => (Res.of (g d1 d2)).bind fun es => .ok (.lst (es.map T.sh), ρ2)
theorem fn_bin {op : Operator} {g : D → D → Option (List D)} (ho : OpN X (binaryOp op) g) (ha : PE X a (tFO X.K mg W fa)) (hb : PE X b (tFO X.K mg W fb)) : PE X (.BinOp a op b pos) (tFN X.K mg W (nBin g fa fb)) :=
  (pe_op ho ha hb).imp fun σ H Q ⟨G, ρ, ⟨Hs, fp, ok⟩, po⟩ => by
  refine goE ok po (fun _ _ h => h) id fun r1 ρ1 x H1 Hs1 fp1 ok1 dx po1 => ?_
  have ok1' := ok.back ok1
  refine goE ok1' po1 (fun _ _ h => h) id fun r2 ρ2 y H2 Hs2 fp2 ok2 dy po2 => ?_
  have ok2' := ok1'.back ok2
  have dx' : RVd X.K Hs2 σ r1 x := dx.mono ok2.base
  cases e1 : look ρ2 r1 with
  | none => simp only [e1] at po2; exact po2.elim
  | some d1 =>
    cases e2 : look ρ2 r2 with
    | none => simp only [e1, e2] at po2; exact po2.elim
    | some d2 =>
      cases e3 : g d1 d2 with
      | none => simp only [e1, e2, e3, of_some, bind_ok] at po2; exact po2.elim
      | some es =>
        simp only [e1, e2, e3, of_some, bind_ok] at po2
        refine ⟨Hs2, d1, d2, es, ok2'.sh, look_den ok2' dx' e1, look_den ok2' dy e2, e3, fun p H' vs hp h1 h2 h3 => ?_⟩
        obtain ⟨k1, k2, k3, k4⟩ := ok2'.newList hp h1 h2 h3
        exact po2 _ _ Hs2 fp2 _ k1 k2 k3 k4
noncomputable def D.catN : D → D → Option (List D)
  | .lst xs, .lst ys => if xs.length + ys.length ≤ sizeLine then some (xs ++ ys) else none
  | _, _ => none
noncomputable def D.repN : D → D → Option (List D)
  | .lst xs, .int k => if -(2 ^ 63) ≤ k ∧ k < 2 ^ 63 ∧ xs.length * k.toNat ≤ sizeLine then some (List.replicate k.toNat xs).flatten else none
  | _, _ => none
theorem on_cat : OpN X (binaryOp .Add) D.catN := by
  rintro pins s σ H x y v u Q I rx ry ⟨Hs, d1, d2, d, e, h1, h2, g, q⟩
  unfold D.catN at g
  split at g
  · split at g
    · rename_i c
      cases g
      obtain ⟨a, vs, e1, e2, e3⟩ := h1
      obtain ⟨b, ws, e4, e5, e6⟩ := h2
      have l1 := e3.length
      have l2 := e6.length
      exact op_cat pins s σ H _ _ v u Q I rx ry ⟨a, b, vs, ws, e1, e4, e2, e5, by omega, fun p hp => q p _ _ hp upd_same (keep_new hp) (e3.append e6)⟩
    · cases g
  · cases g
theorem on_rep : OpN X (binaryOp .Mult) D.repN := by
  rintro pins s σ H x y v u Q I rx ry ⟨Hs, d1, d2, d, e, h1, h2, g, q⟩
  unfold D.repN at g
  split at g
  · split at g
    · rename_i c
      cases g
      obtain ⟨a, vs, e1, e2, e3⟩ := h1
      cases h2
      have l1 := e3.length
      exact op_rep pins s σ H _ _ v u Q I rx ry ⟨a, _, vs, e1, rfl, e2, c.1, c.2.1, by rw [l1]; exact c.2.2, fun p hp => q p _ _ hp upd_same (keep_new hp) (e3.rep _)⟩
    · cases g
  · cases g
/-- a slice of a list, one's own -/
noncomputable def nSl (fa : Env' → Res (RV × Env')) (fl fh : Env' → Res (Option Int × Env')) : Env' → Res (T × Env') := fun ρ =>
  (fa ρ).bind fun (r, ρ1) => (fl ρ1).bind fun (lo, ρ2) => (fh ρ2).bind fun (hi, ρ3) => match look ρ3 r with
    | some (.lst ds) => .ok (.lst ((cutD ds lo hi).map T.sh), ρ3)
    | some (.fz ds) => .ok (.lst ((cutD ds lo hi).map T.sh), ρ3)
    | _ => .bad
theorem fn_sl {lo hi : Option Expr} {fl fh : Env' → Res (Option Int × Env')} {p2 : Pos} (ha : PE X a (tFO X.K mg W fa)) (hl : PO X lo (tFP X.K mg W fl)) (hh : PO X hi (tFP X.K mg W fh)) : PE X (.Subscript a (.Slice lo hi none p2) pos) (tFN X.K mg W (nSl fa fl fh)) := by
  refine (pe_slice sl_list ha hl hh).imp fun σ H Q ⟨G, ρ, ⟨Hs, fp, ok⟩, po⟩ => ?_
  refine goE ok po (fun _ _ h => h) id fun r1 ρ1 x H1 Hs1 fp1 ok1 dx po1 => ?_
  have ok1' := ok.back ok1
  refine goP ok1' po1 (fun _ _ h => h) id fun lo ρ2 H2 Hs2 fp2 ok2 po2 => ?_
  have ok2' := ok1'.back ok2
  refine goP ok2' po2 (fun _ _ h => h) id fun hi ρ3 H3 Hs3 fp3 ok3 po3 => ?_
  have ok3' := ok2'.back ok3
  have dx3 : RVd X.K Hs3 σ r1 x := (dx.mono ok2.base).mono ok3.base
  simp only at po3
  split at po3
  · rename_i e1
    obtain ⟨a, vs, rfl, k1, k2⟩ := look_den ok3' dx3 e1
    refine ⟨a, vs, rfl, SqL.lst k1, fun p hp => ?_⟩
    obtain ⟨k1, k2, k3, k4⟩ := ok3'.newList hp upd_same (keep_new hp) (k2.cut lo hi)
    exact po3 _ _ Hs3 fp3 _ k1 k2 k3 k4
  · rename_i e1
    obtain ⟨a, vs, rfl, k1, k2⟩ := look_den ok3' dx3 e1
    refine ⟨a, vs, rfl, ok3'.sh.seq k1, fun p hp => ?_⟩
    obtain ⟨k1, k2, k3, k4⟩ := ok3'.newList hp upd_same (keep_new hp) (k2.cut lo hi)
    exact po3 _ _ Hs3 fp3 _ k1 k2 k3 k4
  · exact po3.elim
noncomputable def nIf (tc : Env' → Res (Bool × Env')) (na nb : Env' → Res (T × Env')) : Env' → Res (T × Env') := fun ρ => (tc ρ).bind fun (b, ρ1) => if b = true then na ρ1 else nb ρ1
theorem fn_if {ta : Env' → Res (Bool × Env')} (hc : PT X c (tFB X.K mg W ta)) (ha : PE X a (tFN X.K mg W na)) (hb : PE X b (tFN X.K mg W nb)) : PE X (.IfExp c a b pos) (tFN X.K mg W (nIf ta na nb)) := by
  refine (pe_ifExp hc ha hb).imp fun σ H Q ⟨G, ρ, ⟨Hs, fp, ok⟩, po⟩ => ?_
  refine goT ok po (fun _ _ h => h) id fun b ρ1 H1 Hs1 fp1 ok1 po1 => ?_
  have ok1' := ok.back ok1
  cases b with
  | true => exact iteT ⟨G, ρ1, ⟨Hs1, fp1, ok1'⟩, po1⟩
  | false => exact iteF ⟨G, ρ1, ⟨Hs1, fp1, ok1'⟩, po1⟩
end

/-! ### what is walked -/
noncomputable def IterOf (K : PySem.W.Frag) (J : It) (ds : List D) (Hs0 : Hp) : Prop :=
  ∀ i Hs H, Same Hs0 Hs → Same Hs H → (i < ds.length → J.go i H ∧ ∀ x H', J.yld i H x H' → ∃ Hs', Ext Hs H Hs' H' ∧ ∀ d, ds[i]? = some d → Den K Hs' d x) ∧ (ds.length ≤ i → J.stop i H)
theorem IterOf.mono {K J ds Hs Hs'} (h : IterOf K J ds Hs) (e : Same Hs Hs') : IterOf K J ds Hs' := fun i H1 H2 a b => h i H1 H2 (e.trans a) b
section
variable {X : Cx} {mg : Str → Option Value} {W : WX} {tg a b c : Expr} {fa fb fc : Env' → Res (RV × Env')} {pos p : Pos}
noncomputable def PoI (K : PySem.W.Frag) (mg : Str → Option Value) (W : WX) (G : Gh) (σ : L2.St) (R : It → Hp → Prop) : Res (List D × Env') → Prop
  | .ok (ds, ρ') => ∀ J H' Hs fp, OkAt K G σ H' ρ' Hs fp → IterOf K J ds Hs → R J H'
  | .exc c ρ' => ∀ H' C, mg c = some (.ref C) → Ok K G σ H' ρ' → W (.ref C) none σ H'
  | .bad => False
noncomputable def tFI (K : PySem.W.Frag) (mg : Str → Option Value) (W : WX) (f : Env' → Res (List D × Env')) : TI := fun σ H R => ∃ G ρ, Ok K G σ H ρ ∧ PoI K mg W G σ R (f ρ)
theorem _root_.L2.PI.imp {X : Cx} {tg e : Expr} {t t' : TI} (h : PI X tg e t) (i : ∀ σ H Q, t' σ H Q → t σ H Q) : PI X tg e t' := ⟨fun pins s σ H Q I q => h.run pins s σ H Q I (i σ H Q q)⟩
theorem _root_.L2.PI.or {X : Cx} {tg e : Expr} {t t' : TI} (h : PI X tg e t) (h' : PI X tg e t') : PI X tg e (fun σ H R => t σ H R ∨ t' σ H R) :=
  ⟨fun pins s σ H Q I q => by
    rcases q with q | q
    · exact h.run pins s σ H Q I q
    · exact h'.run pins s σ H Q I q⟩
theorem goI {K : PySem.W.Frag} {G : Gh} {σ : L2.St} {H : Hp} {ρ : Env'} {Hs : Hp} {fp : List Addr} {β : Type} {P : Res β → Prop} {f : Env' → Res (List D × Env')} {k : List D × Env' → Res β} {R : It → Hp → Prop} (ok : OkAt K G σ H ρ Hs fp) (po : P ((f ρ).bind k))
    (hx : ∀ c ρ', P (.exc c ρ') → ∀ H' C, mg c = some (.ref C) → Ok K G σ H' ρ' → W (.ref C) none σ H') (hb : ¬ P .bad)
    (cont : ∀ ds ρ1 J H1 Hs1 fp1, OkAt K (Hs, rem H fp) σ H1 ρ1 Hs1 fp1 → IterOf K J ds Hs1 → P (k (ds, ρ1)) → R J H1) : tFI K mg W f σ H R := by
  refine ⟨_, ρ, ⟨Hs, fp, ok.self⟩, ?_⟩
  cases e : f ρ with
  | ok p =>
    obtain ⟨r, ρ1⟩ := p
    rw [e] at po
    exact fun J H1 Hs1 fp1 ok1 d1 => cont r ρ1 J H1 Hs1 fp1 ok1 d1 po
  | exc c ρ' =>
    rw [e] at po
    exact fun H' C hc o => hx c ρ' po H' C hc (Ok.back ok o)
  | bad =>
    rw [e] at po
    exact hb po
theorem iter_list {K Hs a vs ds} (h : SqL K Hs a vs) (hd : DenL K Hs ds vs) : IterOf K (Itl K a) ds Hs := fun i Hs1 H e1 e2 => by
  have s1 := e2.seq (e1.seq h)
  have l := hd.length
  refine ⟨fun hi => ?_, fun hi => ⟨vs, s1, by omega⟩⟩
  obtain ⟨v, hv, dv⟩ := (hd.mono e1).get (List.getElem?_eq_getElem hi)
  refine ⟨⟨vs, v, s1, hv⟩, fun x H' ⟨eH, q⟩ => ⟨Hs1, by rw [eH]; exact .refl e2, fun d hd => ?_⟩⟩
  have := q vs s1
  rw [hv] at this
  cases this
  rw [List.getElem?_eq_getElem hi] at hd
  cases hd
  exact dv
theorem iter_tup {K Hs a vs ds} (h : SqT K Hs a vs) (hd : DenL K Hs ds vs) : IterOf K (Itt K a) ds Hs := fun i Hs1 H e1 e2 => by
  have s1 := e2.seqT (e1.seqT h)
  have l := hd.length
  refine ⟨fun hi => ?_, fun hi => ⟨vs, s1, by omega⟩⟩
  obtain ⟨v, hv, dv⟩ := (hd.mono e1).get (List.getElem?_eq_getElem hi)
  refine ⟨⟨vs, v, s1, hv⟩, fun x H' ⟨eH, q⟩ => ⟨Hs1, by rw [eH]; exact .refl e2, fun d hd => ?_⟩⟩
  have := q vs s1
  rw [hv] at this
  cases this
  rw [List.getElem?_eq_getElem hi] at hd
  cases hd
  exact dv
noncomputable def signs (x : Str) : List D := x.cps.toList.map fun c => .str ⟨#[c]⟩
theorem iter_str {K Hs x} (h : sOk x) : IterOf K (Its x) (signs x) Hs := fun i Hs1 H e1 e2 => by
  have l : (signs x).length = x.cps.size := by simp [signs]
  refine ⟨fun hi => ⟨by show i < x.cps.size; omega, fun v H' ⟨eH, c, hc, hv⟩ => ⟨Hs1, by rw [eH]; exact .refl e2, fun d hd => ?_⟩⟩, fun hi => by show x.cps.size ≤ i; omega⟩
  subst hv
  have hc' : x.cps.toList[i]? = some c := by simpa using hc
  simp only [signs, List.getElem?_map, hc', Option.map_some, Option.some.injEq] at hd
  subst hd
  exact ⟨rfl, sOk_sign h (List.mem_of_getElem? hc')⟩
noncomputable def D.walk : D → Option (List D)
  | .lst ds => some ds
  | .fz ds => some ds
  | .tup ds => some ds
  | .ftup ds => some ds
  | .str x => some (signs x)
  | _ => none
noncomputable def iSeq (fa : Env' → Res (RV × Env')) : Env' → Res (List D × Env') := fun ρ => (fa ρ).bind fun (r, ρ1) => (Res.of (esc ρ1 r)).bind fun (d, ρ2) => (Res.of d.walk).bind fun ds => .ok (ds, ρ2)
theorem goE' {K : PySem.W.Frag} {G : Gh} {σ : L2.St} {H : Hp} {ρ : Env'} {Hs : Hp} {fp : List Addr} {β : Type} {P : Res β → Prop} {f : Env' → Res (RV × Env')} {k : RV × Env' → Res β} {R : VK} (ok : OkAt K G σ H ρ Hs fp) (po : P ((f ρ).bind k))
    (hx : ∀ c ρ', P (.exc c ρ') → ∀ H' C, mg c = some (.ref C) → Ok K G σ H' ρ' → W (.ref C) none σ H') (hb : ¬ P .bad)
    (cont : ∀ r ρ1 x H1 Hs1 fp1, f ρ = .ok (r, ρ1) → OkAt K (Hs, rem H fp) σ H1 ρ1 Hs1 fp1 → RVd K Hs1 σ r x → P (k (r, ρ1)) → R x H1) : tFO K mg W f σ H R := by
  refine ⟨_, ρ, ⟨Hs, fp, ok.self⟩, ?_⟩
  cases e : f ρ with
  | ok p =>
    obtain ⟨r, ρ1⟩ := p
    rw [e] at po
    exact fun x H1 Hs1 fp1 ok1 d1 => cont r ρ1 x H1 Hs1 fp1 e ok1 d1 po
  | exc c ρ' =>
    rw [e] at po
    exact fun H' C hc o => hx c ρ' po H' C hc (Ok.back ok o)
  | bad =>
    rw [e] at po
    exact hb po
theorem fi_seq (ha : PE X a (tFO X.K mg W fa)) : PI X tg a (tFI X.K mg W (iSeq fa)) := by
  refine ((pi_list ha).or ((pi_tup ha).or (pi_str ha))).imp fun σ H R ⟨G, ρ, ⟨Hs, fp, ok⟩, po⟩ => ?_
  cases e0 : fa ρ with
  | exc c ρ' => exact .inl (goE' ok po (fun _ _ h => h) id fun r1 ρ1 x H1 Hs1 fp1 e => by rw [e0] at e; cases e)
  | bad => simp only [iSeq, e0] at po; exact po.elim
  | ok p =>
    obtain ⟨r0, ρ0⟩ := p
    cases e1 : esc ρ0 r0 with
    | none => rw [show iSeq fa ρ = .bad from by simp [iSeq, e0, e1]] at po; exact po.elim
    | some p =>
      obtain ⟨d, ρ2⟩ := p
      have fin : ∀ r1 ρ1 x H1 Hs1 fp1, fa ρ = .ok (r1, ρ1) → OkAt X.K (Hs, rem H fp) σ H1 ρ1 Hs1 fp1 → RVd X.K Hs1 σ r1 x → ∃ Hs2 fp2, OkAt X.K G σ H1 ρ2 Hs2 fp2 ∧ Den X.K Hs2 d x := by
        intro r1 ρ1 x H1 Hs1 fp1 e ok1 dx
        rw [e0] at e
        cases e
        obtain ⟨Hs1', fp1', okE, sE, dE⟩ := esc_den (ok.back ok1) dx e1
        exact ⟨Hs1', fp1', okE, dE⟩
      cases d with
      | lst ds =>
        refine .inl (goE' ok po (fun _ _ h => h) id fun r1 ρ1 x H1 Hs1 fp1 e ok1 dx po1 => ?_)
        obtain ⟨Hs2, fp2, okE, a, vs, rfl, k1, k2⟩ := fin r1 ρ1 x H1 Hs1 fp1 e ok1 dx
        rw [e0] at e
        cases e
        simp only [e1, of_some, bind_ok, D.walk] at po1
        exact ⟨a, rfl, ⟨vs, SqL.lst (okE.sh _ _ k1)⟩, po1 _ _ _ _ okE (iter_list (SqL.lst k1) k2)⟩
      | fz ds =>
        refine .inl (goE' ok po (fun _ _ h => h) id fun r1 ρ1 x H1 Hs1 fp1 e ok1 dx po1 => ?_)
        obtain ⟨Hs2, fp2, okE, a, vs, rfl, k1, k2⟩ := fin r1 ρ1 x H1 Hs1 fp1 e ok1 dx
        rw [e0] at e
        cases e
        simp only [e1, of_some, bind_ok, D.walk] at po1
        exact ⟨a, rfl, ⟨vs, okE.sh.seq k1⟩, po1 _ _ _ _ okE (iter_list k1 k2)⟩
      | tup ds =>
        refine .inr (.inl (goE' ok po (fun _ _ h => h) id fun r1 ρ1 x H1 Hs1 fp1 e ok1 dx po1 => ?_))
        obtain ⟨Hs2, fp2, okE, a, vs, rfl, k1, k2⟩ := fin r1 ρ1 x H1 Hs1 fp1 e ok1 dx
        rw [e0] at e
        cases e
        simp only [e1, of_some, bind_ok, D.walk] at po1
        exact ⟨a, rfl, ⟨vs, SqT.of (okE.sh _ _ k1)⟩, po1 _ _ _ _ okE (iter_tup (SqT.of k1) k2)⟩
      | ftup ds =>
        refine .inr (.inl (goE' ok po (fun _ _ h => h) id fun r1 ρ1 x H1 Hs1 fp1 e ok1 dx po1 => ?_))
        obtain ⟨Hs2, fp2, okE, a, vs, rfl, k1, k2⟩ := fin r1 ρ1 x H1 Hs1 fp1 e ok1 dx
        rw [e0] at e
        cases e
        simp only [e1, of_some, bind_ok, D.walk] at po1
        exact ⟨a, rfl, ⟨vs, okE.sh.seqT k1⟩, po1 _ _ _ _ okE (iter_tup k1 k2)⟩
      | str z =>
        refine .inr (.inr (goE' ok po (fun _ _ h => h) id fun r1 ρ1 x H1 Hs1 fp1 e ok1 dx po1 => ?_))
        obtain ⟨Hs2, fp2, okE, rfl, k1⟩ := fin r1 ρ1 x H1 Hs1 fp1 e ok1 dx
        rw [e0] at e
        cases e
        simp only [e1, of_some, bind_ok, D.walk] at po1
        exact ⟨z, rfl, po1 _ _ _ _ okE (iter_str k1)⟩
      | _ => rw [show iSeq fa ρ = .bad from by simp [iSeq, e0, e1, D.walk]] at po; exact po.elim
/-- range -/
noncomputable def rangeD (lo : Int) (n : Nat) : List D := (List.range n).map fun k => .int (lo + (k : Nat))
theorem iter_range {K Hs lo n} : IterOf K (Itr lo n) (rangeD lo n) Hs := fun i Hs1 H e1 e2 => by
  have l : (rangeD lo n).length = n := by simp [rangeD]
  refine ⟨fun hi => ⟨by show i < n; omega, fun v H' ⟨eH, hv⟩ => ⟨Hs1, by rw [eH]; exact .refl e2, fun d hd => ?_⟩⟩, fun hi => by show n ≤ i; omega⟩
  have hin : i < n := by omega
  simp only [rangeD, List.getElem?_map, List.getElem?_range hin, Option.map_some, Option.some.injEq] at hd
  subst hd
  exact hv
noncomputable def rOk (i : Int) : Prop := -(2 ^ 62) ≤ i ∧ i < 2 ^ 62
noncomputable instance (i : Int) : Decidable (rOk i) := Classical.propDecidable _
noncomputable def iRange1 (fs : Env' → Res (List RV × Env')) : Env' → Res (List D × Env') := fun ρ => (fs ρ).bind fun (rs, ρ1) => match looks ρ1 rs with
  | some [.int j] => if rOk j then .ok (rangeD 0 j.toNat, ρ1) else .bad
  | _ => .bad
noncomputable def iRange2 (fs : Env' → Res (List RV × Env')) : Env' → Res (List D × Env') := fun ρ => (fs ρ).bind fun (rs, ρ1) => match looks ρ1 rs with
  | some [.int i, .int j] => if rOk i ∧ rOk j then .ok (rangeD i (j - i).toNat, ρ1) else .bad
  | _ => .bad
theorem fi_range1 {fs : Env' → Res (List RV × Env')} (hg : Gl X "range") (hm : X.mg "range" = none) (ha : PA X [a] (tFA X.K mg W fs)) (hs : starEach [a] X.env = [(false, eval a X.env)] := by rfl) : PI X tg (.Call (.Name "range" p) [a] [] pos) (tFI X.K mg W (iRange1 fs)) := by
  refine (pi_range1 hg hm ha hs).imp fun σ H R ⟨G, ρ, ⟨Hs, fp, ok⟩, po⟩ => ?_
  refine goA ok po (fun _ _ h => h) id fun rs ρ1 xs H1 Hs1 fp1 ok1 dx po1 => ?_
  have ok1' := ok.back ok1
  simp only at po1
  split at po1
  · rename_i j e1
    split at po1
    · rename_i c
      obtain ⟨v, rfl, k1⟩ := (looks_den ok1' dx e1).d1
      cases k1
      exact ⟨j, rfl, c.1, c.2, po1 _ _ _ _ ok1' iter_range⟩
    · exact po1.elim
  · exact po1.elim
theorem fi_range2 {fs : Env' → Res (List RV × Env')} (hg : Gl X "range") (hm : X.mg "range" = none) (ha : PA X [a, b] (tFA X.K mg W fs)) (hs : starEach [a, b] X.env = [(false, eval a X.env), (false, eval b X.env)] := by rfl) (hs2 : starEach [b] X.env = [(false, eval b X.env)] := by rfl) : PI X tg (.Call (.Name "range" p) [a, b] [] pos) (tFI X.K mg W (iRange2 fs)) := by
  refine (pi_range2 hg hm ha hs hs2).imp fun σ H R ⟨G, ρ, ⟨Hs, fp, ok⟩, po⟩ => ?_
  refine goA ok po (fun _ _ h => h) id fun rs ρ1 xs H1 Hs1 fp1 ok1 dx po1 => ?_
  have ok1' := ok.back ok1
  simp only at po1
  split at po1
  · rename_i i j e1
    split at po1
    · rename_i c
      obtain ⟨v, w, rfl, k1, k2⟩ := (looks_den ok1' dx e1).d2
      cases k1
      cases k2
      exact ⟨i, j, rfl, ⟨c.1.1, c.1.2, c.2.1, c.2.2⟩, po1 _ _ _ _ ok1' iter_range⟩
    · exact po1.elim
  · exact po1.elim
/-- enumerate, zip of lists -/
noncomputable def pairs (K : PySem.W.Frag) : List D → Nat → List D
  | [], _ => []
  | d :: ds, n => .tup [.int (n : Nat), d] :: pairs K ds (n + 1)
end

/-! ### targets -/
section
variable {X : Cx} {mg : Str → Option Value} {W : WX} {pos : Pos}
/-- a target's store, by data; vs: the slots that it may turn -/
noncomputable def tFG (K : PySem.W.Frag) (vs : List Nat) (g : D → Env' → Option Env') : TG := fun v σ H Q => ∃ G ρ Hs fp d ρ', OkAt K G σ H ρ Hs fp ∧ Den K Hs d v ∧ g d ρ = some ρ' ∧ ∀ σ' H', Ok K G σ' H' ρ' → L2.wipe σ' vs = L2.wipe σ vs → Q σ' H'
theorem wipe_get (σ : L2.St) : ∀ (vs : List Nat) (k : Nat), (L2.wipe σ vs)[k]? = if k ∈ vs then (σ[k]?.map fun _ => none) else σ[k]?
  | [], k => by simp [L2.wipe]
  | v :: vs, k => by
    rw [L2.wipe]
    have ih := wipe_get σ vs k
    by_cases h : v = k
    · subst h
      rcases Nat.lt_or_ge v σ.length with hv | hv
      · rw [List.getElem?_set_self (by rw [L2.wipe_length]; exact hv), List.getElem?_eq_getElem hv]
        simp
      · rw [List.getElem?_eq_none_iff.mpr (by rw [List.length_set, L2.wipe_length]; exact hv), List.getElem?_eq_none_iff.mpr hv]
        simp
    · rw [List.getElem?_set_ne h, ih]
      simp [Ne.symm h]
theorem wipe_eq_set (σ : L2.St) (vs : List Nat) (i : Nat) (o : Option V) (h : i ∈ vs) : L2.wipe (σ.set i o) vs = L2.wipe σ vs := by
  apply List.ext_getElem?
  intro k
  rw [wipe_get, wipe_get]
  by_cases hk : k ∈ vs
  · rw [if_pos hk, if_pos hk]
    by_cases hi : i = k
    · subst hi
      rcases Nat.lt_or_ge i σ.length with hv | hv
      · rw [List.getElem?_set_self hv, List.getElem?_eq_getElem hv]; rfl
      · rw [List.getElem?_eq_none_iff.mpr (by rw [List.length_set]; exact hv), List.getElem?_eq_none_iff.mpr hv]
    · rw [List.getElem?_set_ne hi]
  · rw [if_neg hk, if_neg hk, List.getElem?_set_ne (fun e => hk (by rw [← e]; exact h))]
theorem wipe_wipe (σ : L2.St) (vs : List Nat) : L2.wipe (L2.wipe σ vs) vs = L2.wipe σ vs := by
  apply List.ext_getElem?
  intro k
  rw [wipe_get, wipe_get]
  by_cases hk : k ∈ vs
  · rw [if_pos hk, if_pos hk, Option.map_map]; rfl
  · rw [if_neg hk, if_neg hk]
theorem _root_.L2.PG.imp {X : Cx} {e : Expr} {t t' : TG} (h : PG X e t) (i : ∀ v σ H Q, t' v σ H Q → t v σ H Q) : PG X e t' := ⟨fun pins s σ H v u Q I r q => h.run pins s σ H v u Q I r (i v σ H Q q)⟩
theorem OkAt.put {K G σ H ρ Hs fp i t v f} (ok : OkAt K G σ H ρ Hs fp) (hi : i < ρ.length) (d : DenT K Hs H t v f) (nd : f.Nodup) (q : ∀ a ∈ f, Hs a = none ∧ a ∉ fp ∧ G.2 a = none) : Ok K G (σ.set i (some v)) H (ρ.set i (some t)) := by
  obtain ⟨f1, f2, f3, e, env⟩ := ok.env.put hi d
  have nfp := ok.nd
  refine ⟨Hs, f1 ++ (f ++ f3), ok.sh, ok.base, ok.frame, fun a p1 p2 => ?_, fun a ha => ?_, ?_, env⟩
  · obtain ⟨q1, q2⟩ := ok.priv a p1 p2
    refine ⟨q1, fun hm => ?_⟩
    rw [e] at q2
    simp only [List.mem_append, not_or] at q2 hm
    rcases hm with h | h | h
    · exact q2.1 h
    · rw [(q a h).2.2] at p1; cases p1
    · exact q2.2.2 h
  · simp only [List.mem_append] at ha
    rcases ha with h | h | h
    · exact ok.disj a (by rw [e]; simp [h])
    · exact (q a h).1
    · exact ok.disj a (by rw [e]; simp [h])
  · rw [e, List.nodup_append] at nfp
    obtain ⟨n1, n2, n3⟩ := nfp
    rw [List.nodup_append] at n2
    rw [List.nodup_append, List.nodup_append]
    refine ⟨n1, ⟨nd, n2.2.1, fun a ha b hb z => ?_⟩, fun a ha b hb z => ?_⟩
    · subst z
      exact (q a ha).2.1 (by rw [e]; simp [hb])
    · subst z
      rcases List.mem_append.mp hb with hb | hb
      · exact (q a hb).2.1 (by rw [e]; simp [ha])
      · exact n3 a ha a (List.mem_append_right _ hb) rfl
noncomputable def gN (i : Nat) : D → Env' → Option Env' := fun d ρ => if i < ρ.length then some (ρ.set i (some (.sh d))) else none
theorem fg_name {i : Nat} {x : Str} {vs : List Nat} (hv : i ∈ vs) (hN : X.N.Nodup) (hi : X.N[i]? = some x) (hx : Loc X.env.scope x) (hf : X.fn x = true ∨ X.env.scope.names.lookup x = some .local := by first | exact .inl rfl | exact .inr rfl | assumption) : PG X (.Name x pos) (tFG X.K vs (gN i)) := by
  refine (pg_name hN hi hx hf).imp fun v σ H Q ⟨G, ρ, Hs, fp, d, ρ', ok, dv, e, q⟩ => ?_
  unfold gN at e
  split at e
  · rename_i hl
    cases e
    exact q _ _ (ok.put hl (t := .sh d) (f := []) ⟨rfl, dv⟩ (by simp) (fun _ h => by cases h)) (wipe_eq_set _ _ _ _ hv)
  · cases e
noncomputable def tFGs (K : PySem.W.Frag) (ws : List Nat) (g : List D → Env' → Option Env') : TGs := fun vs σ H Q => ∃ G ρ Hs fp ds ρ', OkAt K G σ H ρ Hs fp ∧ DenL K Hs ds vs ∧ g ds ρ = some ρ' ∧ ∀ σ' H', Ok K G σ' H' ρ' → L2.wipe σ' ws = L2.wipe σ ws → Q σ' H'
theorem _root_.L2.PGs.imp {X : Cx} {e : List Expr} {t t' : TGs} (h : PGs X e t) (i : ∀ v σ H Q, t' v σ H Q → t v σ H Q) : PGs X e t' := ⟨fun pins s σ H v u Q I r q => h.run pins s σ H v u Q I r (i v σ H Q q)⟩
noncomputable def gsNil : List D → Env' → Option Env' := fun ds ρ => match ds with
  | [] => some ρ
  | _ => none
noncomputable def gsCons (g : D → Env' → Option Env') (gs : List D → Env' → Option Env') : List D → Env' → Option Env' := fun ds ρ => match ds with
  | d :: r => (g d ρ).bind (gs r)
  | [] => none
theorem fgs_nil {us : List Nat} : PGs X [] (tFGs X.K us gsNil) := pgs_nil.imp fun vs σ H Q ⟨G, ρ, Hs, fp, ds, ρ', ok, dv, e, q⟩ => by
  unfold gsNil at e
  split at e
  · cases e
    exact ⟨dv, q _ _ ⟨Hs, fp, ok⟩ rfl⟩
  · cases e
theorem fgs_cons {e : Expr} {es : List Expr} {i : Nat} {us : List Nat} {gs : List D → Env' → Option Env'} (hu : i ∈ us) (h0 : PG X e (gName i)) (h2 : PGs X es (tFGs X.K us gs))
    (hs : (assignEach (e :: es) X.env).map (·.2) = assign e X.env :: (assignEach es X.env).map (·.2) := by rfl) : PGs X (e :: es) (tFGs X.K us (gsCons (gN i) gs)) := (pgs_cons h0 h2 hs).imp fun vs σ H Q ⟨G, ρ, Hs, fp, ds, ρ', ok, dv, e, q⟩ => by
  unfold gsCons at e
  split at e
  · rename_i d r
    obtain ⟨v, ws, rfl, d1, d2⟩ := dv
    simp only [Option.bind_eq_some_iff] at e
    obtain ⟨ρ1, e1, e2⟩ := e
    unfold gN at e1
    split at e1
    · rename_i hl
      cases e1
      refine ⟨v, ws, rfl, ?_⟩
      obtain ⟨f1, f2, f3, e, env⟩ := ok.env.put hl (t := .sh d) (f := []) ⟨rfl, d1⟩
      refine ⟨G, _, Hs, f1 ++ ([] ++ f3), r, ρ', ⟨ok.sh, ok.base, ok.frame, fun a p1 p2 => ?_, fun a ha => ok.disj a ?_, ?_, env⟩, d2, e2, fun σ' H' o w => q σ' H' o (w.trans (wipe_eq_set _ _ _ _ hu))⟩
      · obtain ⟨q1, q2⟩ := ok.priv a p1 p2
        rw [e] at q2
        simp only [List.mem_append, not_or] at q2 ⊢
        exact ⟨q1, q2.1, by simp, q2.2.2⟩
      · rw [e]
        simp only [List.mem_append] at ha ⊢
        rcases ha with h | h | h
        · exact .inl h
        · cases h
        · exact .inr (.inr h)
      · have nfp := ok.nd
        rw [e, List.nodup_append] at nfp
        obtain ⟨n1, n2, n3⟩ := nfp
        rw [List.nodup_append] at n2
        rw [List.nil_append, List.nodup_append]
        exact ⟨n1, n2.2.1, fun a ha b hb => n3 a ha b (List.mem_append_right _ hb)⟩
    · cases e1
  · cases e
noncomputable def gT (gs : List D → Env' → Option Env') (n : Nat) : D → Env' → Option Env' := fun d ρ => match d with
  | .tup ds => if ds.length = n then gs ds ρ else none
  | .lst ds => if ds.length = n then gs ds ρ else none
  | .ftup ds => if ds.length = n then gs ds ρ else none
  | .fz ds => if ds.length = n then gs ds ρ else none
  | _ => none
def gSeqT (K : PySem.W.Frag) (n : Nat) (t : TGs) : TG := fun v σ H Q => ∃ a xs, v = .ref a ∧ (SqT K H a xs ∨ SqL K H a xs) ∧ xs.length = n ∧ t xs σ H Q
theorem pg_seqT {es : List Expr} {k : Nat} {t : TGs} {n : Nat} (hc : X.calm = true) (h : PGs X es t)
    (hn : (assignEach es X.env).length = n := by rfl) (hst : (assignEach es X.env).findIdx? (·.1) = none := by rfl) : PG X (.Tuple es k pos) (gSeqT X.K n t) := by
  refine ⟨fun pins s σ H v u Q I r hw => ?_⟩
  obtain ⟨a, xs, e1, hq, hl, hw⟩ := hw
  subst e1
  cases r
  rcases hq with hq | hq
  · obtain ⟨its, rv, ht, hz⟩ := I.tuple hq
    refine assign_Tuple_tuple (I.ok.hd hc) ht (by simp [hn, ← hl, rv.length]) hst fun h' hx => ?_
    have I1 : Inv X pins σ H { s with heap := h' } := I.kept (t' := s.toks) fun b o e => hx b o (Nat.ne_of_lt (Heap.lt_size e)) e
    exact h.run pins _ σ H xs _ Q I1 (by simpa using rv) hw
  · obtain ⟨its, rv, ht, hz⟩ := I.list hq
    rw [assign_Tuple]
    refine wpAny_bind (wpAny_standAt ?_)
    unfold unpack
    have e : (assignEach es X.env).length = its.toArray.size := by simp [hn, ← hl, rv.length]
    rw [e, hst]
    refine wpAny_bind (wpAny_holding (PySem.W.kun_itemsOf (I.ok.hd hc) ht.isList fun h' hx => ?_))
    have I1 : Inv X pins σ H { s with heap := h' } := I.kept (t' := s.toks) fun b o e => hx b o (Nat.ne_of_lt (Heap.lt_size e)) e
    exact h.run pins _ σ H xs _ Q I1 (by simpa using rv) hw
theorem fg_tup {es : List Expr} {k : Nat} {gs : List D → Env' → Option Env'} {n : Nat} {us : List Nat} (hc : X.calm = true) (h : PGs X es (tFGs X.K us gs))
    (hn : (assignEach es X.env).length = n := by rfl) (hst : (assignEach es X.env).findIdx? (·.1) = none := by rfl) : PG X (.Tuple es k pos) (tFG X.K us (gT gs n)) := by
  refine (pg_seqT (n := n) hc h hn hst).imp fun v σ H Q ⟨G, ρ, Hs, fp, d, ρ', ok, dv, e, q⟩ => ?_
  unfold gT at e
  split at e
  · split at e
    · rename_i hl
      obtain ⟨a, vs, rfl, k1, k2⟩ := dv
      exact ⟨a, vs, rfl, .inl (SqT.of (ok.sh _ _ k1)), by rw [k2.length]; exact hl, G, ρ, Hs, fp, _, ρ', ok, k2, e, q⟩
    · cases e
  · split at e
    · rename_i hl
      obtain ⟨a, vs, rfl, k1, k2⟩ := dv
      exact ⟨a, vs, rfl, .inr (SqL.lst (ok.sh _ _ k1)), by rw [k2.length]; exact hl, G, ρ, Hs, fp, _, ρ', ok, k2, e, q⟩
    · cases e
  · split at e
    · rename_i hl
      obtain ⟨a, vs, rfl, k1, k2⟩ := dv
      exact ⟨a, vs, rfl, .inl (ok.sh.seqT k1), by rw [k2.length]; exact hl, G, ρ, Hs, fp, _, ρ', ok, k2, e, q⟩
    · cases e
  · split at e
    · rename_i hl
      obtain ⟨a, vs, rfl, k1, k2⟩ := dv
      exact ⟨a, vs, rfl, .inr (ok.sh.seq k1), by rw [k2.length]; exact hl, G, ρ, Hs, fp, _, ρ', ok, k2, e, q⟩
    · cases e
  · cases e

/-! ### comprehensions -/
noncomputable def Res.nx {α : Type} : Res α → Res α
  | .exc _ _ => .bad
  | r => r
noncomputable def W0 : WX := fun _ _ _ _ => False
noncomputable def wipeE (ρ : Env') : List Nat → Env'
  | [] => ρ
  | v :: vs => (wipeE ρ vs).set v none
theorem wipeE_length (ρ : Env') : ∀ vs, (wipeE ρ vs).length = ρ.length
  | [] => rfl
  | v :: vs => by simp [wipeE, wipeE_length ρ vs]
theorem OkAt.wipe1 {K G σ H ρ Hs fp} (ok : OkAt K G σ H ρ Hs fp) (i : Nat) : ∃ fp', (∀ a ∈ fp', a ∈ fp) ∧ ∀ o, OkAt K G (σ.set i o) H (ρ.set i none) Hs fp' := by
  obtain ⟨f1, f2, f3, e, env⟩ := ok.env.wipe (i := i)
  have nfp := ok.nd
  rw [e, List.nodup_append] at nfp
  obtain ⟨n1, n2, n3⟩ := nfp
  rw [List.nodup_append] at n2
  refine ⟨f1 ++ f3, fun a ha => by rw [e]; simp only [List.mem_append] at ha ⊢; rcases ha with h | h <;> simp [h], fun o => ⟨ok.sh, ok.base, ok.frame, fun a p1 p2 => ?_, fun a ha => ok.disj a ?_, ?_, env o⟩⟩
  · obtain ⟨q1, q2⟩ := ok.priv a p1 p2
    rw [e] at q2
    simp only [List.mem_append, not_or] at q2 ⊢
    exact ⟨q1, q2.1, q2.2.2⟩
  · rw [e]
    simp only [List.mem_append] at ha ⊢
    rcases ha with h | h
    · exact .inl h
    · exact .inr (.inr h)
  · rw [List.nodup_append]
    exact ⟨n1, n2.2.1, fun a ha b hb => n3 a ha b (List.mem_append_right _ hb)⟩
theorem OkAt.wipe {K G σ H ρ Hs fp} (ok : OkAt K G σ H ρ Hs fp) : ∀ vs : List Nat, ∃ fp', (∀ a ∈ fp', a ∈ fp) ∧ OkAt K G (L2.wipe σ vs) H (wipeE ρ vs) Hs fp'
  | [] => ⟨fp, fun _ h => h, ok⟩
  | v :: vs => by
    obtain ⟨fp1, k1, ok1⟩ := OkAt.wipe ok vs
    obtain ⟨fp2, k2, ok2⟩ := ok1.wipe1 v
    exact ⟨fp2, fun a h => k1 a (k2 a h), ok2 none⟩
theorem Ok.wipe {K G σ H ρ} (ok : Ok K G σ H ρ) (vs : List Nat) : Ok K G (L2.wipe σ vs) H (wipeE ρ vs) := by
  obtain ⟨Hs, fp, ok⟩ := ok
  obtain ⟨fp', _, ok'⟩ := ok.wipe vs
  exact ⟨Hs, fp', ok'⟩
/-- behind a comprehension: its own names are as they were, where that was shared -/
noncomputable def back1 (ρ0 ρ : Env') (i : Nat) : Env' := match ρ0[i]? with
  | some (some (.sh d)) => ρ.set i (some (.sh d))
  | _ => ρ.set i none
noncomputable def backE (ρ0 ρ : Env') : List Nat → Env'
  | [] => ρ
  | v :: vs => back1 ρ0 (backE ρ0 ρ vs) v
theorem wipe_set (σ : L2.St) (v : Nat) (vs : List Nat) (h : v ∉ vs) : (L2.wipe σ vs)[v]? = σ[v]? := by
  induction vs with
  | nil => rfl
  | cons w vs ih =>
    simp only [List.mem_cons, not_or] at h
    simp only [L2.wipe]
    rw [List.getElem?_set_ne (fun e => h.1 e.symm)]
    exact ih h.2
theorem back1_ok {K G σ H ρ ρ0 Hs Hs0 fp i} {w : Option V} (ok : OkAt K G σ H ρ Hs fp) (hs : Same Hs0 Hs) (h0 : ∀ d, ρ0[i]? = some (some (.sh d)) → ∃ v, w = some v ∧ Den K Hs0 d v) (hl : ρ0.length = ρ.length) : ∃ fp', (∀ a ∈ fp', a ∈ fp) ∧ OkAt K G (σ.set i w) H (back1 ρ0 ρ i) Hs fp' := by
  unfold back1
  obtain ⟨fp', sb, ok'⟩ := ok.wipe1 i
  split
  · rename_i d hd
    obtain ⟨v, rfl, dv⟩ := h0 d hd
    have hi : i < (ρ.set i none).length := by
      rw [List.length_set, ← hl]
      rcases Nat.lt_or_ge i ρ0.length with h | h
      · exact h
      · rw [List.getElem?_eq_none_iff.mpr h] at hd; cases hd
    obtain ⟨f1, f2, f3, e, env⟩ := (ok' none).env.put hi (t := .sh d) (f := []) ⟨rfl, dv.mono hs⟩
    have z := ok' none
    have nfp := z.nd
    rw [e, List.nodup_append] at nfp
    obtain ⟨n1, n2, n3⟩ := nfp
    rw [List.nodup_append] at n2
    refine ⟨f1 ++ f3, fun a ha => sb a (by rw [e]; simp only [List.mem_append] at ha ⊢; rcases ha with h | h <;> simp [h]), z.sh, z.base, z.frame, fun a p1 p2 => ?_, fun a ha => z.disj a ?_, ?_, by simpa using env⟩
    · obtain ⟨q1, q2⟩ := z.priv a p1 p2
      rw [e] at q2
      simp only [List.mem_append, not_or] at q2 ⊢
      exact ⟨q1, q2.1, q2.2.2⟩
    · rw [e]
      simp only [List.mem_append] at ha ⊢
      rcases ha with h | h
      · exact .inl h
      · exact .inr (.inr h)
    · rw [List.nodup_append]
      exact ⟨n1, n2.2.1, fun a ha b hb => n3 a ha b (List.mem_append_right _ hb)⟩
  · exact ⟨fp', sb, ok' w⟩
theorem set_back (σ : L2.St) (v : Nat) (τ : L2.St) : (τ.set v none).set v (σ[v]?.getD none) = τ.set v (σ[v]?.getD none) := by simp
theorem backE_ok {K G G0 σ H H0 ρ0 Hs Hs0 fp0} (ok0 : OkAt K G0 σ H0 ρ0 Hs0 fp0) (hs : Same Hs0 Hs) : ∀ (vs : List Nat) {τ : L2.St} {ρ : Env'} {fp : List Addr}, OkAt K G τ H ρ Hs fp → ρ0.length = ρ.length → ∃ fp', (∀ a ∈ fp', a ∈ fp) ∧ OkAt K G (vs.foldr (fun v τ => τ.set v (σ[v]?.getD none)) τ) H (backE ρ0 ρ vs) Hs fp' ∧ (backE ρ0 ρ vs).length = ρ.length
  | [], τ, ρ, fp, ok, hl => ⟨fp, fun _ h => h, ok, rfl⟩
  | v :: vs, τ, ρ, fp, ok, hl => by
    obtain ⟨fp1, k1, ok1, l1⟩ := backE_ok ok0 hs vs ok hl
    obtain ⟨fp2, k2, ok2⟩ := back1_ok (i := v) (w := σ[v]?.getD none) ok1 hs (fun d hd => by
      obtain ⟨w, f1, f2, f3, h1, _, h3, _⟩ := ok0.env.at hd
      exact ⟨w, by rw [h1]; rfl, h3.2⟩) (by rw [l1]; exact hl)
    refine ⟨fp2, fun a h => k1 a (k2 a h), ok2, ?_⟩
    simp only [backE]
    unfold back1
    split <;> rw [List.length_set, l1]
theorem unwipe (σ : L2.St) : ∀ vs : List Nat, (vs.foldr (fun v τ => τ.set v (σ[v]?.getD none)) (L2.wipe σ vs)) = σ := by
  intro vs
  apply List.ext_getElem?
  intro j
  have key : ∀ (vs : List Nat) (τ : L2.St), τ.length = σ.length → (∀ k, k ∉ vs → τ[k]? = σ[k]?) → (vs.foldr (fun v τ => τ.set v (σ[v]?.getD none)) τ)[j]? = σ[j]? := by
    intro vs
    induction vs with
    | nil => intro τ _ h; exact h j (by simp)
    | cons v vs ih =>
      intro τ hl h
      have ll : ∀ (vs : List Nat) (τ : L2.St), (vs.foldr (fun v τ => τ.set v (σ[v]?.getD none)) τ).length = τ.length := by
        intro vs
        induction vs with
        | nil => intro τ; rfl
        | cons w ws ih => intro τ; rw [List.foldr_cons, List.length_set, ih]
      rw [List.foldr_cons]
      by_cases hj : v = j
      · subst hj
        rcases Nat.lt_or_ge v σ.length with hv | hv
        · rw [List.getElem?_set_self (by rw [ll, hl]; exact hv), List.getElem?_eq_getElem hv]
          rfl
        · rw [List.getElem?_eq_none_iff.mpr hv, List.getElem?_eq_none_iff.mpr (by rw [List.length_set, ll, hl]; exact hv)]
      · rw [List.getElem?_set_ne hj]
        have st : ∀ (vs : List Nat) (τ τ' : L2.St), τ.length = τ'.length → (∀ k, k ≠ v → τ[k]? = τ'[k]?) → ∀ k, k ≠ v → (vs.foldr (fun v τ => τ.set v (σ[v]?.getD none)) τ)[k]? = (vs.foldr (fun v τ => τ.set v (σ[v]?.getD none)) τ')[k]? := by
          intro vs
          induction vs with
          | nil => intro τ τ' _ h; exact h
          | cons w ws ih =>
            intro τ τ' hl h k hk
            rw [List.foldr_cons, List.foldr_cons]
            by_cases hw : w = k
            · subst hw
              rcases Nat.lt_or_ge w τ.length with hv | hv
              · rw [List.getElem?_set_self (by rw [ll]; exact hv), List.getElem?_set_self (by rw [ll, ← hl]; exact hv)]
              · rw [List.getElem?_eq_none_iff.mpr (by rw [List.length_set, ll]; exact hv), List.getElem?_eq_none_iff.mpr (by rw [List.length_set, ll, ← hl]; exact hv)]
            · rw [List.getElem?_set_ne hw, List.getElem?_set_ne hw]
              exact ih τ τ' hl h k hk
        have e1 := st vs τ (τ.set v (σ[v]?.getD none)) (by simp) (fun k hk => by rw [List.getElem?_set_ne (Ne.symm hk)]) j (Ne.symm hj)
        rw [e1]
        refine ih _ (by simp [hl]) fun k hk => ?_
        by_cases hkv : v = k
        · subst hkv
          rcases Nat.lt_or_ge v σ.length with hv | hv
          · rw [List.getElem?_set_self (by rw [hl]; exact hv), List.getElem?_eq_getElem hv]; rfl
          · rw [List.getElem?_eq_none_iff.mpr hv, List.getElem?_eq_none_iff.mpr (by rw [List.length_set, hl]; exact hv)]
        · rw [List.getElem?_set_ne hkv]
          exact h k (by simp [hk, Ne.symm hkv])
  exact key vs _ (L2.wipe_length σ vs) (fun k hk => wipe_set σ k vs hk)
/-- a thing of one's own that is held while more runs -/
theorem held {K σ σ' H H' ρ ρ' Hs Hs' fp fp' G t v ft} (ok : OkAt K G σ H ρ Hs fp) (h : DenT K Hs H t v ft) (q : ∀ a ∈ ft, Hs a = none ∧ a ∉ fp) (ok' : OkAt K (Hs, rem H fp) σ' H' ρ' Hs' fp') :
    DenT K Hs' H' t v ft ∧ ∀ a ∈ ft, Hs' a = none ∧ a ∉ fp' ∧ H' a = H a ∧ (rem H fp a).isSome = true := by
  have keep : ∀ a ∈ ft, Hs' a = none ∧ a ∉ fp' ∧ H' a = H a ∧ (rem H fp a).isSome = true := fun a ha => by
    obtain ⟨o, eo⟩ := h.there a ha
    have r1 : rem H fp a = some o := by simp [rem, (q a ha).2, eo]
    obtain ⟨p1, p2⟩ := ok'.priv a (by show (rem H fp a).isSome = true; rw [r1]; rfl) (q a ha).1
    exact ⟨p1, p2, by rw [eo]; exact ok'.frame a o r1, by rw [r1]; rfl⟩
  exact ⟨h.mono ok'.base fun a ha => (keep a ha).2.2.1, keep⟩
theorem OkAt.updOut {K G σ H ρ Hs fp p o} (ok : OkAt K G σ H ρ Hs fp) (h1 : Hs p = none) (h2 : p ∉ fp) (h3 : G.2 p = none) : OkAt K G σ (upd H p o) ρ Hs fp :=
  ⟨fun a u e => by rw [upd_ne (ne_of_none e h1)]; exact ok.sh a u e, ok.base, fun a u e => by rw [upd_ne (ne_of_none e h3)]; exact ok.frame a u e, ok.priv, ok.disj, ok.nd, ok.env.mono (Same.refl _) fun a ha => upd_ne fun e => h2 (e ▸ ha)⟩
section
variable {K : PySem.W.Frag} {mg : Str → Option Value} {G : Gh} {σ : L2.St} {H : Hp} {ρ : Env'} {Hs : Hp} {fp : List Addr} {β : Type} {P : Res β → Prop}
theorem goT0 {f : Env' → Res (Bool × Env')} {k : Bool × Env' → Res β} {R : Bool → Hp → Prop} (ok : OkAt K G σ H ρ Hs fp) (po : P ((f ρ).nx.bind k)) (hb : ¬ P .bad)
    (cont : ∀ b ρ1 H1 Hs1 fp1, OkAt K (Hs, rem H fp) σ H1 ρ1 Hs1 fp1 → P (k (b, ρ1)) → R b H1) : tFB K mg W0 f σ H R := by
  refine ⟨_, ρ, ⟨Hs, fp, ok.self⟩, ?_⟩
  cases e : f ρ with
  | ok p =>
    obtain ⟨r, ρ1⟩ := p
    rw [e] at po
    exact fun H1 ⟨Hs1, fp1, ok1⟩ => cont r ρ1 H1 Hs1 fp1 ok1 po
  | exc c ρ' => rw [e] at po; exact (hb po).elim
  | bad => rw [e] at po; exact hb po
theorem goN0 {f : Env' → Res (T × Env')} {k : T × Env' → Res β} {R : VK} (ok : OkAt K G σ H ρ Hs fp) (po : P ((f ρ).nx.bind k)) (hb : ¬ P .bad)
    (cont : ∀ t ρ1 x H1 Hs1 fp1 ft, OkAt K (Hs, rem H fp) σ H1 ρ1 Hs1 fp1 → DenT K Hs1 H1 t x ft → ft.Nodup → (∀ a ∈ ft, Hs1 a = none ∧ a ∉ fp1 ∧ rem H fp a = none) → P (k (t, ρ1)) → R x H1) : tFN K mg W0 f σ H R := by
  refine ⟨_, ρ, ⟨Hs, fp, ok.self⟩, ?_⟩
  cases e : f ρ with
  | ok p =>
    obtain ⟨r, ρ1⟩ := p
    rw [e] at po
    exact fun x H1 Hs1 fp1 ft ok1 d1 n1 q1 => cont r ρ1 x H1 Hs1 fp1 ft ok1 d1 n1 q1 po
  | exc c ρ' => rw [e] at po; exact (hb po).elim
  | bad => rw [e] at po; exact hb po
end
noncomputable def lcGo (gt : D → Env' → Option Env') (tt : Env' → Res (Bool × Env')) (ne : Env' → Res (T × Env')) (vs : List Nat) : List D → Env' → Res (List T × Env')
  | [], ρ => .ok ([], ρ)
  | d :: ds, ρ => (Res.of (gt d ρ)).bind fun ρ1 => (tt ρ1).nx.bind fun (b, ρ2) => if b = true then (ne ρ2).nx.bind fun (t, ρ3) => (lcGo gt tt ne vs ds (wipeE ρ3 vs)).bind fun (ts, ρ4) => .ok (t :: ts, ρ4) else lcGo gt tt ne vs ds (wipeE ρ2 vs)
noncomputable def nLc (fi : Env' → Res (List D × Env')) (gt : D → Env' → Option Env') (tt : Env' → Res (Bool × Env')) (ne : Env' → Res (T × Env')) (vs : List Nat) : Env' → Res (T × Env') := fun ρ =>
  (fi ρ).bind fun (ds, ρ1) => if ds.length ≤ sizeLine then (lcGo gt tt ne vs ds (wipeE ρ1 vs)).bind fun (ts, ρ2) => .ok (.lst ts, backE ρ1 ρ2 vs) else .bad
theorem DenT.lst_upd {K Hs H t y ft pre acc p f} (h : DenT K Hs H (.lst pre) (.ref p) (p :: f)) (hH : H p = some (.lst acc)) (hy : DenT K Hs H t y ft) (h1 : p ∉ f) (h2 : p ∉ ft) : DenT K Hs (upd H p (.lst (acc ++ [y]))) (.lst (pre ++ [t])) (.ref p) (p :: (f ++ ft)) := by
  obtain ⟨a, vs, fr, e1, e2, e3, e4⟩ := h
  cases e1
  cases e2
  rw [hH] at e3
  cases e3
  have m1 := e4.mono (H' := upd H p (.lst (acc ++ [y]))) (Same.refl _) fun a ha => upd_ne fun e => h1 (e ▸ ha)
  have m2 := hy.mono (H' := upd H p (.lst (acc ++ [y]))) (Same.refl _) fun a ha => upd_ne fun e => h2 (e ▸ ha)
  exact ⟨p, _, _, rfl, rfl, upd_same, m1.append ⟨y, [], ft, [], rfl, by simp, m2, rfl, rfl⟩⟩
theorem lc_go {K : PySem.W.Frag} {fi : Env' → Res (List D × Env')} {gt : D → Env' → Option Env'} {tt : Env' → Res (Bool × Env')} {ne : Env' → Res (T × Env')} {vs : List Nat} {σ : L2.St} {H : Hp} {Q : VK}
    (h : tFN K mg W (nLc fi gt tt ne vs) σ H Q) : tLc (tFI K mg W fi) (tFG K vs gt) (tFB K mg W0 tt) (tFN K mg W0 ne) vs σ H Q := by
  obtain ⟨G, ρ, ⟨Hs, fp, ok⟩, po⟩ := h
  refine goI ok po (fun _ _ h => h) id fun ds ρ1 J H1 Hs1 fp1 ok1 it po1 => ?_
  have ok1' := ok.back ok1
  simp only at po1
  split at po1
  · rename_i hlen
    intro Dl hD
    obtain ⟨fpw, sbw, okw⟩ := ok1'.wipe vs
    refine ⟨fun i m H => ∃ ρi Hsi fpi pre f acc, i + m = ds.length ∧ OkAt K G (L2.wipe σ vs) H ρi Hsi fpi ∧ Same Hs1 Hsi ∧ H Dl = some (.lst acc) ∧ DenT K Hsi H (.lst pre) (.ref Dl) (Dl :: f) ∧ (Dl :: f).Nodup ∧ (∀ a ∈ Dl :: f, Hsi a = none ∧ a ∉ fpi ∧ G.2 a = none) ∧
      acc.length ≤ i ∧ ρi.length = ρ1.length ∧ PoN K mg W G σ Q ((lcGo gt tt ne vs (ds.drop i) ρi).bind fun (ts, ρ2) => .ok (.lst (pre ++ ts), backE ρ1 ρ2 vs)),
      ⟨ds.length, wipeE ρ1 vs, Hs1, fpw, [], [], [], by omega, okw.ext (.out okw.sh hD), Same.refl _, upd_same, ⟨Dl, [], [], rfl, rfl, upd_same, rfl, rfl⟩, by simp, fun a ha => ?_, by simp, wipeE_length _ _, by simpa using po1⟩, ?_⟩
    · have e : a = Dl := by simpa using ha
      subst e
      refine ⟨okw.sh.free hD, fun hm => ?_, Same.free okw.frame hD⟩
      obtain ⟨o, eo⟩ := okw.env.there a hm
      rw [hD] at eo
      cases eo
    · rintro i m H5 ⟨ρi, Hsi, fpi, pre, f, acc, em, oki, sm, hacc, dt, nd, qs, hl, hρ, pi⟩
      have dl : acc.length = pre.length := by
        obtain ⟨a, vs', fr, e1, e2, e3, e4⟩ := dt
        cases e1
        rw [hacc] at e3
        cases e3
        exact e4.length
      by_cases hi : i < ds.length
      · obtain ⟨go, yl⟩ := (it i Hsi H5 sm oki.sh).1 hi
        refine .inr ⟨go, fun H' => _, fun H' h => ⟨m - 1, by omega, h⟩, fun x H6 hy => ?_⟩
        obtain ⟨Hs6, ex, dd⟩ := yl x H6 hy
        have dx := dd _ (List.getElem?_eq_getElem hi)
        have ok6 := oki.ext ex
        have dt6 : DenT K Hs6 H6 (.lst pre) (.ref Dl) (Dl :: f) := dt.mono ex.s fun a ha => by
          obtain ⟨o, eo⟩ := dt.there a ha
          rw [eo]; exact ex.keep a o eo
        have q6 : ∀ a ∈ Dl :: f, Hs6 a = none ∧ a ∉ fpi := fun a ha => by
          obtain ⟨o, eo⟩ := dt.there a ha
          exact ⟨ex.priv a (by rw [eo]; rfl) (qs a ha).1, (qs a ha).2.1⟩
        rw [List.drop_eq_getElem_cons hi, lcGo] at pi
        cases eg : gt ds[i] ρi with
        | none => rw [eg] at pi; exact pi.elim
        | some ρa =>
          rw [eg] at pi
          simp only [of_some, bind_ok] at pi
          refine ⟨_, ρi, Hs6, fpi, ds[i], ρa, ok6.self, dx, eg, fun σ2 H7 ⟨Hs7, fp7, ok7⟩ ew => ⟨by rw [ew, wipe_wipe], ?_⟩⟩
          have ew' : L2.wipe σ2 vs = L2.wipe σ vs := by rw [ew, wipe_wipe]
          obtain ⟨dt7, k7⟩ := held ok6 dt6 q6 ok7
          have b7 := ok6.back ok7
          have acc7 : H7 Dl = some (.lst acc) := by
            rw [(k7 Dl (by simp)).2.2.1, ← hacc]
            exact (ex.keep Dl _ hacc).trans hacc.symm
          have pi' : PoN K mg W G σ Q ((tt ρa).nx.bind fun x => (if x.1 = true then (ne x.2).nx.bind fun (t, ρ3) => (lcGo gt tt ne vs (ds.drop (i + 1)) (wipeE ρ3 vs)).bind fun (ts, ρ4) => .ok (t :: ts, ρ4) else lcGo gt tt ne vs (ds.drop (i + 1)) (wipeE x.2 vs)).bind fun (ts, ρ2) => .ok (.lst (pre ++ ts), backE ρ1 ρ2 vs)) := by
            cases et : tt ρa with
            | ok p => rw [et] at pi; exact pi
            | exc c r => rw [et] at pi; exact pi
            | bad => rw [et] at pi; exact pi
          refine goT0 b7 pi' id fun b ρb H8 Hs8 fp8 ok8 pb => ?_
          obtain ⟨dt8, k8⟩ := held b7 dt7 (fun a ha => ⟨(k7 a ha).1, (k7 a ha).2.1⟩) ok8
          have b8 := b7.back ok8
          have acc8 : H8 Dl = some (.lst acc) := by rw [(k8 Dl (by simp)).2.2.1, acc7]
          have sm8 : Same Hs1 Hs8 := (sm.trans ex.s).trans (ok7.base.trans ok8.base)
          cases b with
          | false =>
            simp only [Bool.false_eq_true, if_false] at pb ⊢
            obtain ⟨fp9, sb9, ok9⟩ := b8.wipe vs
            rw [ew'] at ok9
            refine ⟨wipeE ρb vs, Hs8, fp9, pre, f, acc, by omega, ok9, sm8, acc8, dt8, nd, fun a ha => ⟨(k8 a ha).1, fun hm => (k8 a ha).2.1 (sb9 a hm), (qs a ha).2.2⟩, by omega, ?_, pb⟩
            rw [wipeE_length]
            have z1 := b8.env.length
            have z2 := oki.env.length
            have z3 := congrArg List.length ew'
            rw [L2.wipe_length, L2.wipe_length] at z3
            rw [L2.wipe_length] at z2
            omega
          | true =>
            simp only [if_true] at pb ⊢
            have pb' : PoN K mg W G σ Q ((ne ρb).nx.bind fun x => ((lcGo gt tt ne vs (ds.drop (i + 1)) (wipeE x.2 vs)).bind fun (ts, ρ4) => .ok (x.1 :: ts, ρ4)).bind fun (ts, ρ2) => .ok (.lst (pre ++ ts), backE ρ1 ρ2 vs)) := by
              cases et : ne ρb with
              | ok p => rw [et] at pb; exact pb
              | exc c r => rw [et] at pb; exact pb
              | bad => rw [et] at pb; exact pb
            refine goN0 b8 pb' id fun t ρc y H9 Hs9 fp9 ft ok9 dy ndy qy pc => ?_
            obtain ⟨dt9, k9⟩ := held b8 dt8 (fun a ha => ⟨(k8 a ha).1, (k8 a ha).2.1⟩) ok9
            have b9 := b8.back ok9
            have acc9 : H9 Dl = some (.lst acc) := by rw [(k9 Dl (by simp)).2.2.1, acc8]
            refine ⟨acc, acc9, by omega, ?_⟩
            have dis : ∀ a ∈ Dl :: f, a ∉ ft := fun a ha hm => by
              have := (qy a hm).2.2
              have z := (k9 a ha).2.2.2
              rw [this] at z
              cases z
            have nd2 := List.nodup_cons.mp nd
            have dt10 := dt9.lst_upd acc9 dy nd2.1 (dis Dl (by simp))
            have ok10 : OkAt K G σ2 (upd H9 Dl (.lst (acc ++ [y]))) ρc Hs9 fp9 := b9.updOut (k9 Dl (by simp)).1 (k9 Dl (by simp)).2.1 (qs Dl (by simp)).2.2
            obtain ⟨fp11, sb11, ok11⟩ := ok10.wipe vs
            rw [ew'] at ok11
            refine ⟨wipeE ρc vs, Hs9, fp11, pre ++ [t], f ++ ft, acc ++ [y], by omega, ok11, sm8.trans ok9.base, upd_same, dt10, ?_, fun a ha => ?_, by simp; omega, ?_, ?_⟩
            · rw [List.nodup_cons, List.mem_append, List.nodup_append]
              exact ⟨fun hm => hm.elim nd2.1 (dis Dl (by simp)), nd2.2, ndy, fun a ha b hb e => dis a (by simp [ha]) (e ▸ hb)⟩
            · rw [List.mem_cons, List.mem_append] at ha
              have old : a ∈ Dl :: f → Hs9 a = none ∧ a ∉ fp11 ∧ G.2 a = none := fun ha => ⟨(k9 a ha).1, fun hm => (k9 a ha).2.1 (sb11 a hm), (qs a ha).2.2⟩
              rcases ha with h | h | h
              · exact old (by simp [h])
              · exact old (by simp [h])
              · exact ⟨(qy a h).1, fun hm => (qy a h).2.1 (sb11 a hm), rem_none b8 (qy a h).2.2⟩
            · rw [wipeE_length]
              have z1 := ok10.env.length
              have z2 := oki.env.length
              have z3 := congrArg List.length ew'
              rw [L2.wipe_length, L2.wipe_length] at z3
              rw [L2.wipe_length] at z2
              omega
            · have e2 : ∀ r : Res (List T × Env'), ((r.bind fun (ts, ρ4) => Res.ok (t :: ts, ρ4)).bind fun (ts, ρ2) => Res.ok (T.lst (pre ++ ts), backE ρ1 ρ2 vs)) = r.bind fun (ts, ρ2) => Res.ok (T.lst (pre ++ [t] ++ ts), backE ρ1 ρ2 vs) := by
                intro r
                cases r with
                | ok p => simp
                | exc c r => rfl
                | bad => rfl
              rw [← e2]
              exact pc
      · refine .inl ⟨(it i Hsi H5 sm oki.sh).2 (by omega), ?_⟩
        rw [List.drop_eq_nil_of_le (by omega), lcGo] at pi
        simp only [bind_ok, List.append_nil] at pi
        obtain ⟨fp', sb', okB, _⟩ := backE_ok (σ := σ) ok1' sm vs oki hρ.symm
        rw [unwipe] at okB
        exact pi _ _ Hsi fp' (Dl :: f) okB dt nd fun a ha => ⟨(qs a ha).1, fun hm => (qs a ha).2.1 (sb' a hm), (qs a ha).2.2⟩
  · exact po1.elim
end
end FL

namespace FL
open PySem PySem.Spec PyProof.Rows L2

section
variable {X : Cx} {mg : Str → Option Value} {W : WX} {a b c : Expr} {fa fb fc : Env' → Res (RV × Env')} {na nb : Env' → Res (T × Env')} {ta : Env' → Res (Bool × Env')} {pos : Pos}
/-- a list comprehension -/
theorem fn_lc {elt tg iter : Expr} {ifs : List Expr} {scope : Scope} {own : List (Str × Nat)} {fi : Env' → Res (List D × Env')} {gt : D → Env' → Option Env'} {tt : Env' → Res (Bool × Env')} {ne : Env' → Res (T × Env')} (hc : X.calm = true) (hN : X.N.Nodup) (hi : PI X tg iter (tFI X.K mg W fi)) (ok : BlkOk X.N X.env.scope scope own)
    (hg : ∀ (s : Shared) (H : Hp) (C : Addr) (cl : List (Str × Addr)) (fp : List Addr), PG (X.blk s H scope (compEnvC scope cl C X.env) fp) tg (tFG X.K (own.map (·.2)) gt)) (ht : ∀ (s : Shared) (H : Hp) (C : Addr) (cl : List (Str × Addr)) (fp : List Addr), PTs (X.blk s H scope (compEnvC scope cl C X.env) fp) ifs (tFB X.K mg W0 tt))
    (he : ∀ (s : Shared) (H : Hp) (C : Addr) (cl : List (Str × Addr)) (fp : List Addr), PE (X.blk s H scope (compEnvC scope cl C X.env) fp) elt (tFN X.K mg W0 ne)) (hs : ∀ x, foldedSetIterable iter X.env x = pure x := by intro _; rfl) :
    PE X (.ListComp elt [⟨tg, iter, ifs, 0⟩] scope pos) (tFN X.K mg W (nLc fi gt tt ne (own.map (·.2)))) := (pe_lc hc hN hi ok hg ht he hs).imp fun σ H Q h => lc_go h
noncomputable def ttYes : Env' → Res (Bool × Env') := fun ρ => .ok (true, ρ)
theorem fts_nil : PTs X [] (tFB X.K mg W ttYes) := ⟨fun pins s σ H Q I ⟨G, ρ, ok, po⟩ => pts_nil.run pins s σ H Q I (po H ok)⟩
theorem fts_one (h : PT X c (tFB X.K mg W ta)) : PTs X [c] (tFB X.K mg W ta) := pts_one h

/-! ### statements -/
inductive Fl where
  | nx (ρ : Env') | rt (t : T) (ρ : Env') | bk (ρ : Env') | ct (ρ : Env')
noncomputable def PoS (K : PySem.W.Frag) (mg : Str → Option Value) (W : WX) (G : Gh) (D : Ends) : Res Fl → Prop
  | .ok (.nx ρ') => ∀ σ' H', Ok K G σ' H' ρ' → D.nx σ' H'
  | .ok (.rt t ρ') => ∀ v σ' H' Hs fp ft, OkAt K G σ' H' ρ' Hs fp → DenT K Hs H' t v ft → ft.Nodup → (∀ a ∈ ft, Hs a = none ∧ a ∉ fp ∧ G.2 a = none) → D.rt v H'
  | .ok (.bk ρ') => ∀ σ' H', Ok K G σ' H' ρ' → D.bk σ' H'
  | .ok (.ct ρ') => ∀ σ' H', Ok K G σ' H' ρ' → D.ct σ' H'
  | .exc c ρ' => ∀ σ' H' C, mg c = some (.ref C) → Ok K G σ' H' ρ' → W (.ref C) none σ' H'
  | .bad => False
noncomputable def tFS (K : PySem.W.Frag) (mg : Str → Option Value) (W : WX) (f : Env' → Res Fl) : TS := fun D σ H => ∃ G ρ, Ok K G σ H ρ ∧ PoS K mg W G D (f ρ)
noncomputable def sNil : Env' → Res Fl := fun ρ => .ok (.nx ρ)
noncomputable def sSeq (f g : Env' → Res Fl) : Env' → Res Fl := fun ρ => (f ρ).bind fun r => match r with
  | .nx ρ' => g ρ'
  | r => .ok r
theorem fss_nil : PSs X [] (tFS X.K mg W sNil) := pss_nil.imp fun D σ H ⟨G, ρ, ok, po⟩ => po σ H ok
theorem fss_cons {st : Stmt} {rest : List Stmt} {f g : Env' → Res Fl} (h1 : PS X st (tFS X.K mg W f)) (h2 : PSs X rest (tFS X.K mg W g)) : PSs X (st :: rest) (tFS X.K mg W (sSeq f g)) := by
  refine (pss_cons h1 h2).imp fun D σ H ⟨G, ρ, ok, po⟩ => ?_
  obtain ⟨Hs, fp, ok⟩ := ok
  refine ⟨(Hs, rem H fp), ρ, ⟨Hs, fp, ok.self⟩, ?_⟩
  unfold sSeq at po
  cases e : f ρ with
  | ok r =>
    rw [e] at po
    cases r with
    | nx ρ' => exact fun σ' H' o => ⟨G, ρ', Ok.back ok o, po⟩
    | rt t ρ' => exact fun v σ' H' Hs' fp' ft o d n q => po v σ' H' Hs' fp' ft (ok.back o) d n fun a ha => ⟨(q a ha).1, (q a ha).2.1, rem_none ok (q a ha).2.2⟩
    | bk ρ' => exact fun σ' H' o => po σ' H' (Ok.back ok o)
    | ct ρ' => exact fun σ' H' o => po σ' H' (Ok.back ok o)
  | exc c ρ' =>
    rw [e] at po
    exact fun σ' H' C hc o => po σ' H' C hc (Ok.back ok o)
  | bad => rw [e] at po; exact po
theorem fss_one {st : Stmt} {f : Env' → Res Fl} (h1 : PS X st (tFS X.K mg W f)) : PSs X [st] (tFS X.K mg W f) := pss_one h1
noncomputable def sExpr (fa : Env' → Res (RV × Env')) : Env' → Res Fl := fun ρ => (fa ρ).bind fun (_, ρ1) => .ok (.nx ρ1)
theorem fs_expr (he : PE X a (tFO X.K mg W fa)) (hs : swapsWith a none pos.line X.env = pure false := by rfl) : PS X (.Expr a pos) (tFS X.K mg W (sExpr fa)) :=
  (ps_expr he hs).imp fun D σ H ⟨G, ρ, ⟨Hs, fp, ok⟩, po⟩ => goE (P := PoS X.K mg W G D) ok po (fun c ρ' h => h σ) id fun r1 ρ1 x H1 Hs1 fp1 ok1 dx po1 => po1 σ H1 ⟨Hs1, fp1, ok.back ok1⟩
noncomputable def sSet (i : Nat) (na : Env' → Res (T × Env')) : Env' → Res Fl := fun ρ => (na ρ).bind fun (t, ρ1) => if i < ρ1.length then .ok (.nx (ρ1.set i (some t))) else .bad
theorem set_go {i : Nat} {D : Ends} {σ : L2.St} {H : Hp} (h : tFS X.K mg W (sSet i na) D σ H) : tFN X.K mg W na σ H fun x H1 => D.nx (σ.set i (some x)) H1 := by
  obtain ⟨G, ρ, ⟨Hs, fp, ok⟩, po⟩ := h
  refine goN (P := PoS X.K mg W G D) ok po (fun c ρ' h => h σ) id fun t ρ1 x H1 Hs1 fp1 ft ok1 dt nd q po1 => ?_
  simp only at po1
  split at po1
  · rename_i hl
    exact po1 _ _ ((ok.back ok1).put hl dt nd fun a ha => ⟨(q a ha).1, (q a ha).2.1, rem_none ok (q a ha).2.2⟩)
  · exact po1.elim
theorem fs_set {i : Nat} {x : Str} {pos' : Pos} (hN : X.N.Nodup) (hi : X.N[i]? = some x) (hx : Loc X.env.scope x) (he : PE X a (tFN X.K mg W na)) (hs : swapsWith a (some (.Name x pos')) pos.line X.env = pure false := by rfl) (hf : X.fn x = true ∨ X.env.scope.names.lookup x = some .local := by first | exact .inl rfl | exact .inr rfl | assumption) :
    PS X (.Assign [.Name x pos'] a pos) (tFS X.K mg W (sSet i na)) := (ps_set hN hi hx he hs hf).imp fun D σ H h => set_go h
theorem fs_setLc {i : Nat} {y : Str} {py : Pos} {elt tg iter : Expr} {ifs : List Expr} {scope : Scope} {own : List (Str × Nat)} {pos spos : Pos} {fi : Env' → Res (List D × Env')} {gt : D → Env' → Option Env'} {tt : Env' → Res (Bool × Env')} {ne : Env' → Res (T × Env')} (hc : X.calm = true) (hN : X.N.Nodup) (hy : X.N[i]? = some y) (hyl : X.env.scope.names.lookup y = some .local)
    (hsw : swapsWith (.ListComp elt [⟨tg, iter, ifs, 0⟩] scope pos) (some (.Name y py)) spos.line X.env = pure true) (hi : PI X tg iter (tFI X.K mg W fi)) (ok : BlkOk X.N X.env.scope scope own)
    (hg : ∀ (s : Shared) (H : Hp) (C : Addr) (cl : List (Str × Addr)) (fp : List Addr), PG (X.blk s H scope (compEnvC scope cl C X.env) fp) tg (tFG X.K (own.map (·.2)) gt)) (ht : ∀ (s : Shared) (H : Hp) (C : Addr) (cl : List (Str × Addr)) (fp : List Addr), PTs (X.blk s H scope (compEnvC scope cl C X.env) fp) ifs (tFB X.K mg W0 tt))
    (he : ∀ (s : Shared) (H : Hp) (C : Addr) (cl : List (Str × Addr)) (fp : List Addr), PE (X.blk s H scope (compEnvC scope cl C X.env) fp) elt (tFN X.K mg W0 ne)) (hs : ∀ x, foldedSetIterable iter X.env x = pure x := by intro _; rfl) :
    PS X (.Assign [.Name y py] (.ListComp elt [⟨tg, iter, ifs, 0⟩] scope pos) spos) (tFS X.K mg W (sSet i (nLc fi gt tt ne (own.map (·.2))))) :=
  (ps_setLc hc hN hy hyl hsw hi ok hg ht he hs).imp fun D σ H h => by
    have := set_go h
    obtain ⟨G, ρ, ok, po⟩ := this
    exact lc_go ⟨G, ρ, ok, po⟩
noncomputable def sRet (na : Env' → Res (T × Env')) : Env' → Res Fl := fun ρ => (na ρ).bind fun (t, ρ1) => .ok (.rt t ρ1)
theorem fs_ret (he : PE X a (tFN X.K mg W na)) : PS X (.Return (some a) pos) (tFS X.K mg W (sRet na)) :=
  (ps_ret he).imp fun D σ H ⟨G, ρ, ⟨Hs, fp, ok⟩, po⟩ => goN (P := PoS X.K mg W G D) ok po (fun c ρ' h => h σ) id fun t ρ1 x H1 Hs1 fp1 ft ok1 dt nd q po1 =>
    po1 x σ H1 Hs1 fp1 ft (ok.back ok1) dt nd fun a ha => ⟨(q a ha).1, (q a ha).2.1, rem_none ok (q a ha).2.2⟩
noncomputable def sRetN : Env' → Res Fl := fun ρ => .ok (.rt (.sh .non) ρ)
theorem fs_retN : PS X (.Return none pos) (tFS X.K mg W sRetN) := ps_retN.imp fun D σ H ⟨G, ρ, ⟨Hs, fp, ok⟩, po⟩ => po .non σ H Hs fp [] ok ⟨rfl, rfl⟩ (by simp) (fun _ h => by cases h)
/-- return x, x a tree of one's own: it goes out as it is -/
noncomputable def sRetOwn (i : Nat) : Env' → Res Fl := fun ρ => match ρ[i]? with
  | some (some t) => .ok (.rt t (ρ.set i none))
  | _ => .bad
theorem fs_retOwn (i : Nat) {x : Str} {p : Pos} (hN : X.N[i]? = some x := by rfl) (hv : Vis X.env.scope x := by first | exact Or.inl rfl | exact Or.inr (Or.inl rfl) | exact Or.inr (Or.inr rfl)) (hd : (x == ("__debug__" : Str)) = false := by decide)
    (hcd : (x == ("__classdict__" : Str)) = false := by decide) : PS X (.Return (some (.Name x p)) pos) (tFS X.K mg W (sRetOwn i)) := by
  refine (ps_ret (pe_var hN hv hd hcd)).imp fun D σ H ⟨G, ρ, ⟨Hs, fp, ok⟩, po⟩ => ?_
  unfold sRetOwn at po
  split at po
  · rename_i t hi
    obtain ⟨v, f1, f2, f3, h1, h2, h3, _, h5⟩ := ok.env.at hi
    have env := h5 Hs H (Same.refl _) (fun _ _ => rfl) none
    have nd := ok.nd
    rw [h2, List.nodup_append] at nd
    obtain ⟨n1, n2, n3⟩ := nd
    rw [List.nodup_append] at n2
    refine ⟨v, h1, po v (σ.set i none) H Hs (f1 ++ f3) f2 ⟨ok.sh, ok.base, ok.frame, fun a p1 p2 => ?_, fun a ha => ok.disj a ?_, ?_, env⟩ h3 n2.1 fun a ha => ?_⟩
    · obtain ⟨q1, q2⟩ := ok.priv a p1 p2
      rw [h2] at q2
      simp only [List.mem_append, not_or] at q2 ⊢
      exact ⟨q1, q2.1, q2.2.2⟩
    · rw [h2]
      simp only [List.mem_append] at ha ⊢
      rcases ha with h | h
      · exact .inl h
      · exact .inr (.inr h)
    · rw [List.nodup_append]
      exact ⟨n1, n2.2.1, fun a ha b hb => n3 a ha b (List.mem_append_right _ hb)⟩
    · refine ⟨ok.disj a (by rw [h2]; simp [ha]), fun hm => ?_, ?_⟩
      · rcases List.mem_append.mp hm with h | h
        · exact n3 a h a (List.mem_append_left _ ha) rfl
        · exact n2.2.2 a ha a h rfl
      · refine rem_none ok ?_
        simp [rem, h2, ha]
  · exact po.elim
noncomputable def sIf (ta : Env' → Res (Bool × Env')) (f g : Env' → Res Fl) : Env' → Res Fl := fun ρ => (ta ρ).bind fun (b, ρ1) => if b = true then f ρ1 else g ρ1
theorem fs_if {sa sb : List Stmt} {f g : Env' → Res Fl} (hc : PT X c (tFB X.K mg W ta)) (ha : PSs X sa (tFS X.K mg W f)) (hb : PSs X sb (tFS X.K mg W g)) : PS X (.If c sa sb pos) (tFS X.K mg W (sIf ta f g)) := by
  refine (ps_if hc ha hb).imp fun D σ H ⟨G, ρ, ⟨Hs, fp, ok⟩, po⟩ => ?_
  refine goT (P := PoS X.K mg W G D) ok po (fun c ρ' h => h σ) id fun b ρ1 H1 Hs1 fp1 ok1 po1 => ?_
  have ok1' := ok.back ok1
  cases b with
  | true => exact iteT ⟨G, ρ1, ⟨Hs1, fp1, ok1'⟩, po1⟩
  | false => exact iteF ⟨G, ρ1, ⟨Hs1, fp1, ok1'⟩, po1⟩
noncomputable def sBk : Env' → Res Fl := fun ρ => .ok (.bk ρ)
noncomputable def sCt : Env' → Res Fl := fun ρ => .ok (.ct ρ)
theorem fs_pass : PS X (.Pass pos) (tFS X.K mg W sNil) := ps_pass.imp fun D σ H ⟨G, ρ, ok, po⟩ => po σ H ok
theorem fs_break : PS X (.Break pos) (tFS X.K mg W sBk) := ps_break.imp fun D σ H ⟨G, ρ, ok, po⟩ => po σ H ok
theorem fs_continue : PS X (.Continue pos) (tFS X.K mg W sCt) := ps_continue.imp fun D σ H ⟨G, ρ, ok, po⟩ => po σ H ok

/-! loops -/
noncomputable def forGo (gt : D → Env' → Option Env') (f : Env' → Res Fl) : List D → Env' → Res Fl
  | [], ρ => .ok (.nx ρ)
  | d :: ds, ρ => (Res.of (gt d ρ)).bind fun ρ1 => (f ρ1).bind fun r => match r with
    | .nx ρ' => forGo gt f ds ρ'
    | .ct ρ' => forGo gt f ds ρ'
    | .bk ρ' => .ok (.nx ρ')
    | .rt t ρ' => .ok (.rt t ρ')
noncomputable def sFor (fi : Env' → Res (List D × Env')) (gt : D → Env' → Option Env') (f : Env' → Res Fl) : Env' → Res Fl := fun ρ => (fi ρ).bind fun (ds, ρ1) => forGo gt f ds ρ1
theorem fs_for {tg iter : Expr} {body : List Stmt} {vs : List Nat} {fi : Env' → Res (List D × Env')} {gt : D → Env' → Option Env'} {f : Env' → Res Fl} (hp : PassesOwn (model X.prog X.w) X.A X.env X.xe) (hc : X.calm = true) (hi : PI X tg iter (tFI X.K mg W fi)) (hg : PG X tg (tFG X.K vs gt)) (hb : PSs X body (tFS X.K mg W f))
    (hs : ∀ x, foldedSetIterable iter X.env x = pure x := by intro _; rfl) : PS X (.For tg iter body [] pos) (tFS X.K mg W (sFor fi gt f)) := by
  refine (ps_for hp hc hi hg hb hs).imp fun D σ H ⟨G, ρ, ⟨Hs, fp, ok⟩, po⟩ => ?_
  refine goI (P := PoS X.K mg W G D) ok po (fun c ρ' h => h σ) id fun ds ρ1 J H1 Hs1 fp1 ok1 it po1 => ?_
  have ok1' := ok.back ok1
  refine ⟨fun i m σ H => ∃ ρi Hsi fpi, i + m = ds.length ∧ OkAt X.K G σ H ρi Hsi fpi ∧ Same Hs1 Hsi ∧ PoS X.K mg W G D (forGo gt f (ds.drop i) ρi), ⟨ds.length, ρ1, Hs1, fp1, by omega, ok1', Same.refl _, po1⟩, ?_⟩
  rintro i m σ5 H5 ⟨ρi, Hsi, fpi, em, oki, sm, pi⟩
  by_cases hi : i < ds.length
  · obtain ⟨go, yl⟩ := (it i Hsi H5 sm oki.sh).1 hi
    refine .inr ⟨go, fun σ' H' => ∃ ρi Hsi fpi, i + 1 + (m - 1) = ds.length ∧ OkAt X.K G σ' H' ρi Hsi fpi ∧ Same Hs1 Hsi ∧ PoS X.K mg W G D (forGo gt f (ds.drop (i + 1)) ρi), fun σ' H' h => ⟨m - 1, by omega, h⟩, fun x H6 hy => ?_⟩
    obtain ⟨Hs6, ex, dd⟩ := yl x H6 hy
    have dx := dd _ (List.getElem?_eq_getElem hi)
    have ok6 := oki.ext ex
    rw [List.drop_eq_getElem_cons hi, forGo] at pi
    cases eg : gt ds[i] ρi with
    | none => rw [eg] at pi; exact pi.elim
    | some ρa =>
      rw [eg] at pi
      simp only [of_some, bind_ok] at pi
      refine ⟨_, ρi, Hs6, fpi, ds[i], ρa, ok6.self, dx, eg, fun σ2 H7 ⟨Hs7, fp7, ok7⟩ _ => ?_⟩
      have b7 := ok6.back ok7
      have sm7 : Same Hs1 Hs7 := (sm.trans ex.s).trans ok7.base
      refine ⟨_, ρa, ⟨Hs7, fp7, b7.self⟩, ?_⟩
      cases e : f ρa with
      | ok r =>
        rw [e] at pi
        cases r with
        | nx ρ' => exact fun σ' H' ⟨Hs8, fp8, o⟩ => ⟨ρ', Hs8, fp8, by omega, b7.back o, sm7.trans o.base, pi⟩
        | rt t ρ' => exact fun v σ' H' Hs' fp' ft o d n q => pi v σ' H' Hs' fp' ft (b7.back o) d n fun a ha => ⟨(q a ha).1, (q a ha).2.1, rem_none b7 (q a ha).2.2⟩
        | bk ρ' => exact fun σ' H' o => pi σ' H' (Ok.back b7 o)
        | ct ρ' => exact fun σ' H' ⟨Hs8, fp8, o⟩ => ⟨ρ', Hs8, fp8, by omega, b7.back o, sm7.trans o.base, pi⟩
      | exc c ρ' =>
        rw [e] at pi
        exact fun σ' H' C hc o => pi σ' H' C hc (Ok.back b7 o)
      | bad => rw [e] at pi; exact pi
  · refine .inl ⟨(it i Hsi H5 sm oki.sh).2 (by omega), ?_⟩
    rw [List.drop_eq_nil_of_le (by omega), forGo] at pi
    exact pi σ5 H5 ⟨Hsi, fpi, oki⟩
/-- a while, so many turns at most -/
noncomputable def whGo (ta : Env' → Res (Bool × Env')) (f : Env' → Res Fl) : Nat → Env' → Res Fl
  | 0, _ => .bad
  | n + 1, ρ => (ta ρ).bind fun (b, ρ1) => if b = true then (f ρ1).bind fun r => match r with
    | .nx ρ' => whGo ta f n ρ'
    | .ct ρ' => whGo ta f n ρ'
    | .bk ρ' => .ok (.nx ρ')
    | .rt t ρ' => .ok (.rt t ρ')
    else .ok (.nx ρ1)
/-- a while: the first number of turns with which it comes to an end -/
noncomputable def sWhile (ta : Env' → Res (Bool × Env')) (f : Env' → Res Fl) : Env' → Res Fl := fun ρ =>
  open Classical in if h : ∃ n, whGo ta f n ρ ≠ .bad then whGo ta f h.choose ρ else .bad
theorem fs_while {c : Expr} {body : List Stmt} {f : Env' → Res Fl} (hp : PassesOwn (model X.prog X.w) X.A X.env X.xe) (hc : PT X c (tFB X.K mg W ta)) (hb : PSs X body (tFS X.K mg W f)) : PS X (.While c body [] pos) (tFS X.K mg W (sWhile ta f)) := by
  refine (ps_while hp hc hb).imp fun D σ H ⟨G, ρ, ⟨Hs, fp, ok⟩, po⟩ => ?_
  unfold sWhile at po
  split at po
  · rename_i h
    generalize h.choose = n at po
    refine ⟨fun m σ H => ∃ ρi Hsi fpi, OkAt X.K G σ H ρi Hsi fpi ∧ PoS X.K mg W G D (whGo ta f m ρi), ⟨n, ρ, Hs, fp, ok, po⟩, ?_⟩
    rintro m σ5 H5 ⟨ρi, Hsi, fpi, oki, pi⟩
    cases m with
    | zero => exact pi.elim
    | succ m =>
      rw [whGo] at pi
      refine goT (P := PoS X.K mg W G D) oki pi (fun c ρ' h => h σ5) id fun b ρ1 H1 Hs1 fp1 ok1 po1 => ?_
      have b7 := oki.back ok1
      cases b with
      | true =>
        refine iteT ⟨fun σ' H' => ∃ ρi Hsi fpi, OkAt X.K G σ' H' ρi Hsi fpi ∧ PoS X.K mg W G D (whGo ta f m ρi), fun σ' H' h => ⟨m, by omega, h⟩, ?_⟩
        simp only [if_true] at po1
        refine ⟨_, ρ1, ⟨Hs1, fp1, b7.self⟩, ?_⟩
        cases e : f ρ1 with
        | ok r =>
          rw [e] at po1
          cases r with
          | nx ρ' => exact fun σ' H' ⟨Hs8, fp8, o⟩ => ⟨ρ', Hs8, fp8, b7.back o, po1⟩
          | rt t ρ' => exact fun v σ' H' Hs' fp' ft o d n q => po1 v σ' H' Hs' fp' ft (b7.back o) d n fun a ha => ⟨(q a ha).1, (q a ha).2.1, rem_none b7 (q a ha).2.2⟩
          | bk ρ' => exact fun σ' H' o => po1 σ' H' (Ok.back b7 o)
          | ct ρ' => exact fun σ' H' ⟨Hs8, fp8, o⟩ => ⟨ρ', Hs8, fp8, b7.back o, po1⟩
        | exc c ρ' =>
          rw [e] at po1
          exact fun σ' H' C hc o => po1 σ' H' C hc (Ok.back b7 o)
        | bad => rw [e] at po1; exact po1
      | false =>
        simp only [Bool.false_eq_true, if_false] at po1 ⊢
        exact po1 _ _ ⟨Hs1, fp1, b7⟩
  · exact po.elim
theorem whGo_mono (ta : Env' → Res (Bool × Env')) (f : Env' → Res Fl) : ∀ (n : Nat) (ρ : Env'), whGo ta f n ρ ≠ .bad → whGo ta f (n + 1) ρ = whGo ta f n ρ
  | 0, ρ, h => absurd rfl h
  | n + 1, ρ, h => by
    rw [whGo] at h ⊢
    conv => rhs; rw [whGo]
    cases e : ta ρ with
    | ok p =>
      obtain ⟨b, ρ1⟩ := p
      rw [e] at h
      cases b with
      | false => rfl
      | true =>
        simp only [bind_ok, if_true] at h ⊢
        cases e2 : f ρ1 with
        | ok r =>
          rw [e2] at h
          cases r with
          | nx ρ' => exact whGo_mono ta f n ρ' h
          | ct ρ' => exact whGo_mono ta f n ρ' h
          | bk ρ' => rfl
          | rt t ρ' => rfl
        | exc c ρ' => rfl
        | bad => rfl
    | exc c ρ' => rfl
    | bad => rfl
theorem whGo_le (ta : Env' → Res (Bool × Env')) (f : Env' → Res Fl) (ρ : Env') (n : Nat) (h : whGo ta f n ρ ≠ .bad) : ∀ k, whGo ta f (n + k) ρ = whGo ta f n ρ
  | 0 => rfl
  | k + 1 => by
    have ih := whGo_le ta f ρ n h k
    rw [← ih]
    exact whGo_mono ta f (n + k) ρ (by rw [ih]; exact h)
theorem sWhile_eq {ta : Env' → Res (Bool × Env')} {f : Env' → Res Fl} {ρ : Env'} {n : Nat} (h : whGo ta f n ρ ≠ .bad) : sWhile ta f ρ = whGo ta f n ρ := by
  have hx : ∃ n, whGo ta f n ρ ≠ .bad := ⟨n, h⟩
  unfold sWhile
  rw [dif_pos hx]
  have h2 := hx.choose_spec
  generalize hx.choose = m at h2
  rcases Nat.le_total m n with q | q
  · obtain ⟨k, rfl⟩ := Nat.exists_eq_add_of_le q
    exact (whGo_le ta f ρ m h2 k).symm
  · obtain ⟨k, rfl⟩ := Nat.exists_eq_add_of_le q
    exact whGo_le ta f ρ n h k
/-- one turn of a while -/
theorem sWhile_step (ta : Env' → Res (Bool × Env')) (f : Env' → Res Fl) (ρ : Env') : sWhile ta f ρ = (ta ρ).bind fun (b, ρ1) => if b = true then (f ρ1).bind fun r => match r with
    | .nx ρ' => sWhile ta f ρ'
    | .ct ρ' => sWhile ta f ρ'
    | .bk ρ' => .ok (.nx ρ')
    | .rt t ρ' => .ok (.rt t ρ')
    else .ok (.nx ρ1) := by
  have key : ∀ ρ', (∀ n, whGo ta f n ρ' = .bad) → sWhile ta f ρ' = .bad := fun ρ' h => by
    unfold sWhile
    rw [dif_neg (by rintro ⟨n, q⟩; exact q (h n))]
  cases e : ta ρ with
  | ok p =>
    obtain ⟨b, ρ1⟩ := p
    cases b with
    | false =>
      rw [sWhile_eq (n := 1) (by rw [whGo, e]; simp)]
      rw [whGo, e]
      simp
    | true =>
      simp only [bind_ok, if_true]
      cases e2 : f ρ1 with
      | ok r =>
        have go : ∀ ρ', (r = .nx ρ' ∨ r = .ct ρ') → sWhile ta f ρ = sWhile ta f ρ' := fun ρ' hr => by
          by_cases h : ∃ n, whGo ta f n ρ' ≠ .bad
          · obtain ⟨n, hn⟩ := h
            have e3 : whGo ta f (n + 1) ρ = whGo ta f n ρ' := by
              rw [whGo, e]
              simp only [bind_ok, if_true, e2]
              rcases hr with rfl | rfl <;> rfl
            rw [sWhile_eq hn, sWhile_eq (n := n + 1) (by rw [e3]; exact hn), e3]
          · have h' : ∀ n, whGo ta f n ρ' = .bad := fun n => Classical.byContradiction fun q => h ⟨n, q⟩
            rw [key ρ' h', key ρ fun n => by
              cases n with
              | zero => rfl
              | succ n =>
                rw [whGo, e]
                simp only [bind_ok, if_true, e2]
                rcases hr with rfl | rfl <;> exact h' n]
        cases r with
        | nx ρ' => exact go ρ' (.inl rfl)
        | ct ρ' => exact go ρ' (.inr rfl)
        | bk ρ' =>
          rw [sWhile_eq (n := 1) (by rw [whGo, e]; simp [e2]), whGo, e]
          simp [e2]
        | rt t ρ' =>
          rw [sWhile_eq (n := 1) (by rw [whGo, e]; simp [e2]), whGo, e]
          simp [e2]
      | exc c ρ' =>
        rw [sWhile_eq (n := 1) (by rw [whGo, e]; simp [e2]), whGo, e]
        simp [e2]
      | bad =>
        rw [key ρ fun n => by
          cases n with
          | zero => rfl
          | succ n => rw [whGo, e]; simp [e2]]
        rfl
  | exc c ρ' =>
    rw [sWhile_eq (n := 1) (by rw [whGo, e]; simp), whGo, e]
    simp
  | bad =>
    rw [key ρ fun n => by
      cases n with
      | zero => rfl
      | succ n => rw [whGo, e]; simp]
    rfl

/-! unpacking -/
noncomputable def sUnpack (fa : Env' → Res (RV × Env')) (gt : D → Env' → Option Env') : Env' → Res Fl := fun ρ => (fa ρ).bind fun (r, ρ1) => (Res.of (esc ρ1 r)).bind fun (d, ρ2) => (Res.of (gt d ρ2)).bind fun ρ3 => .ok (.nx ρ3)
theorem fs_unpack {tg : Expr} {vs : List Nat} {gt : D → Env' → Option Env'} (he : PE X a (tFO X.K mg W fa)) (hg : PG X tg (tFG X.K vs gt)) (hs : swapsWithSole [tg] a pos.line X.env = pure false := by rfl) (hw : swappedStores [tg] a X.env = pure none := by rfl)
    (h1 : (assignEach [tg] X.env).map (·.2) = [assign tg X.env] := by rfl) : PS X (.Assign [tg] a pos) (tFS X.K mg W (sUnpack fa gt)) := by
  refine (ps_asg he hg hs hw h1).imp fun D σ H ⟨G, ρ, ⟨Hs, fp, ok⟩, po⟩ => ?_
  refine goE (P := PoS X.K mg W G D) ok po (fun c ρ' h => h σ) id fun r1 ρ1 x H1 Hs1 fp1 ok1 dx po1 => ?_
  have ok1' := ok.back ok1
  cases e1 : esc ρ1 r1 with
  | none => simp only [e1] at po1; exact po1.elim
  | some p =>
    obtain ⟨d, ρ2⟩ := p
    simp only [e1, of_some, bind_ok] at po1
    obtain ⟨Hs1', fp1', okE, sE, dE⟩ := esc_den ok1' dx e1
    cases e2 : gt d ρ2 with
    | none => simp only [e2] at po1; exact po1.elim
    | some ρ3 =>
      simp only [e2, of_some, bind_ok] at po1
      exact ⟨G, ρ2, Hs1', fp1', d, ρ3, okE, dE, e2, fun σ' H' o _ => po1 σ' H' o⟩
noncomputable def sPar (i j : Nat) (fs : Env' → Res (List RV × Env')) : Env' → Res Fl := fun ρ => (fs ρ).bind fun (rs, ρ1) => match rs with
  | [.leaf d, .leaf e] => if i < ρ1.length ∧ j < ρ1.length then .ok (.nx ((ρ1.set i (some (.sh d))).set j (some (.sh e)))) else .bad
  | _ => .bad
theorem fs_par {i j : Nat} {x y : Str} {fs : Env' → Res (List RV × Env')} {px py pt : Pos} {kt k2 pt2} (hc : X.calm = true) (hN : X.N.Nodup) (hi : X.N[i]? = some x) (hj : X.N[j]? = some y) (hij : i ≠ j)
    (hx : X.env.scope.names.lookup x = some .local) (hy : X.env.scope.names.lookup y = some .local) (ha : PA X [a, b] (tFA X.K mg W fs))
    (hw : swappedStores [.Tuple [.Name x px, .Name y py] kt pt] (.Tuple [a, b] k2 pt2) X.env = pure (some [x, y]))
    (hs : swapsWithSole [.Tuple [.Name x px, .Name y py] kt pt] (.Tuple [a, b] k2 pt2) pos.line X.env = pure false := by rfl) :
    PS X (.Assign [.Tuple [.Name x px, .Name y py] kt pt] (.Tuple [a, b] k2 pt2) pos) (tFS X.K mg W (sPar i j fs)) := by
  refine (ps_par hc hN hi hj hij hx hy ha hw hs).imp fun D σ H ⟨G, ρ, ⟨Hs, fp, ok⟩, po⟩ => ?_
  refine goA (P := PoS X.K mg W G D) ok po (fun c ρ' h => h σ) id fun rs ρ1 xs H1 Hs1 fp1 ok1 dx po1 => ?_
  have ok1' := ok.back ok1
  simp only at po1
  split at po1
  · split at po1
    · rename_i d e c
      obtain ⟨v, ws, rfl, d1, w, us, rfl, d2, rfl⟩ := dx
      refine ⟨v, w, rfl, ?_⟩
      have k1 := ok1'.put c.1 (t := .sh d) (f := []) ⟨rfl, d1⟩ (by simp) (fun _ h => by cases h)
      -- the second, over the same shared heap
      obtain ⟨f1, f2, f3, e1, env⟩ := ok1'.env.put c.1 (t := .sh d) (f := []) ⟨rfl, d1⟩
      have okm : OkAt X.K G (σ.set i (some v)) H1 (ρ1.set i (some (.sh d))) Hs1 (f1 ++ ([] ++ f3)) := by
        refine ⟨ok1'.sh, ok1'.base, ok1'.frame, fun a p1 p2 => ?_, fun a ha => ok1'.disj a ?_, ?_, env⟩
        · obtain ⟨q1, q2⟩ := ok1'.priv a p1 p2
          rw [e1] at q2
          simp only [List.mem_append, not_or] at q2 ⊢
          exact ⟨q1, q2.1, by simp, q2.2.2⟩
        · rw [e1]
          simp only [List.mem_append] at ha ⊢
          rcases ha with h | h | h
          · exact .inl h
          · cases h
          · exact .inr (.inr h)
        · have nfp := ok1'.nd
          rw [e1, List.nodup_append] at nfp
          obtain ⟨n1, n2, n3⟩ := nfp
          rw [List.nodup_append] at n2
          rw [List.nil_append, List.nodup_append]
          exact ⟨n1, n2.2.1, fun a ha b hb => n3 a ha b (List.mem_append_right _ hb)⟩
      exact po1 _ _ (okm.put (by rw [List.length_set]; exact c.2) (t := .sh e) (f := []) ⟨rfl, d2⟩ (by simp) (fun _ h => by cases h))
    · exact po1.elim
  · exact po1.elim

/-! x op= e -/
noncomputable def IpD (X : Cx) (op : Operator) (g : D → D → Option D) : Prop :=
  PIp X op fun x y H Q => ∃ Hs d1 d2 d, Same Hs H ∧ Den1 X.K Hs H d1 x ∧ Den1 X.K Hs H d2 y ∧ g d1 d2 = some d ∧ ∀ v Hs' H', Ext Hs H Hs' H' → Den X.K Hs' d v → Q v H'
noncomputable def D.iadd : D → D → Option D
  | .int i, .int j => some (.int (i + j))
  | .str x, .str y => if x.length + y.length ≤ sizeLine then some (.str (x ++ y)) else none
  | _, _ => none
theorem id_add : IpD X .Add D.iadd := by
  rintro pins s σ H x y v u Q I rx ry ⟨Hs, d1, d2, d, e, h1, h2, g, q⟩
  unfold D.iadd at g
  split at g
  · cases g
    cases h1; cases h2
    exact ip_add pins s σ H _ _ v u Q I rx ry ⟨_, _, rfl, rfl, q _ _ _ (.refl e) rfl⟩
  · split at g
    · rename_i c
      cases g
      obtain ⟨rfl, k1⟩ := h1
      obtain ⟨rfl, k2⟩ := h2
      exact iop_add_str pins s σ H _ _ v u Q I rx ry ⟨_, _, rfl, rfl, c, q _ _ _ (.refl e) ⟨rfl, sOk_app k1 k2 c⟩⟩
    · cases g
  · cases g
theorem id_sub : IpD X .Sub D.sub := by
  rintro pins s σ H x y v u Q I rx ry ⟨Hs, d1, d2, d, e, h1, h2, g, q⟩
  unfold D.sub at g
  split at g
  · cases g
    cases h1; cases h2
    exact ip_sub pins s σ H _ _ v u Q I rx ry ⟨_, _, rfl, rfl, q _ _ _ (.refl e) rfl⟩
  · cases g
/-- (the value of x ahead of e) -/
noncomputable def sAug (i : Nat) (g : D → D → Option D) (fa : Env' → Res (RV × Env')) : Env' → Res Fl := fun ρ => match ρ[i]? with
  | some (some (.sh d1)) => (fa ρ).bind fun (r, ρ1) => (Res.of (look ρ1 r)).bind fun d2 => (Res.of (g d1 d2)).bind fun d => if i < ρ1.length then .ok (.nx (ρ1.set i (some (.sh d)))) else .bad
  | _ => .bad
theorem fs_aug {i : Nat} {x : Str} {op : Operator} {g : D → D → Option D} {pos' : Pos} (hN : X.N.Nodup) (hi : X.N[i]? = some x) (hx : Loc X.env.scope x) (he : PE X a (tFO X.K mg W fa)) (ho : IpD X op g) (hf : X.fn x = true ∨ X.env.scope.names.lookup x = some .local := by first | exact .inl rfl | exact .inr rfl | assumption) :
    PS X (.AugAssign (.Name x pos') op a pos) (tFS X.K mg W (sAug i g fa)) := by
  refine (ps_aug hN hi hx he ho hf).imp fun D σ H ⟨G, ρ, ⟨Hs, fp, ok⟩, po⟩ => ?_
  unfold sAug at po
  split at po
  · rename_i d1 hi
    obtain ⟨v, f1, f2, f3, h1, h2, h3, _⟩ := ok.env.at hi
    refine ⟨v, h1, goE (P := PoS X.K mg W G D) ok po (fun c ρ' h => h σ) id fun r1 ρ1 y H1 Hs1 fp1 ok1 dy po1 => ?_⟩
    have ok1' := ok.back ok1
    cases e1 : look ρ1 r1 with
    | none => simp only [e1] at po1; exact po1.elim
    | some d2 =>
      cases e3 : g d1 d2 with
      | none => simp only [e1, e3, of_some, bind_ok] at po1; exact po1.elim
      | some d =>
        simp only [e1, e3, of_some, bind_ok] at po1
        split at po1
        · rename_i hl
          refine ⟨Hs1, d1, d2, d, ok1'.sh, Den.one ok1'.sh (h3.2.mono ok1.base), look_den ok1' dy e1, e3, fun w Hs' H' ex dw => po1 _ _ ?_⟩
          exact (ok1'.ext ex).put hl (t := .sh d) (f := []) ⟨rfl, dw⟩ (by simp) (fun _ h => by cases h)
        · exact po1.elim
  · exact po.elim

/-! lists of one's own, changed -/
theorem OkAt.turn {K G σ H ρ Hs fp i t v f1 f2 f3 t' f' H'} (ok : OkAt K G σ H ρ Hs fp) (hi : ρ[i]? = some (some t)) (h1 : σ[i]? = some (some v)) (hf : fp = f1 ++ (f2 ++ f3))
    (up : ∀ Hs' H', Same Hs Hs' → (∀ a ∈ f1 ++ f3, H' a = H a) → ∀ t' v' f', DenT K Hs' H' t' v' f' → DenE K Hs' H' (ρ.set i (some t')) (σ.set i (some v')) (f1 ++ (f' ++ f3)))
    (h2 : ∀ a, a ∉ f2 → H' a = H a) (d : DenT K Hs H' t' v f') (nd : f'.Nodup) (hn : ∀ a ∈ f', a ∈ f2 ∨ (Hs a = none ∧ a ∉ fp ∧ G.2 a = none)) : OkAt K G σ H' (ρ.set i (some t')) Hs (f1 ++ (f' ++ f3)) := by
  have n0 := ok.nd
  rw [hf, List.nodup_append] at n0
  obtain ⟨n1, n2, n3⟩ := n0
  rw [List.nodup_append] at n2
  have out : ∀ a ∈ f1 ++ f3, a ∉ f2 := fun a ha hb => by
    rcases List.mem_append.mp ha with h | h
    · exact n3 a h a (List.mem_append_left _ hb) rfl
    · exact n2.2.2 a hb a h rfl
  have dj2 : ∀ a ∈ f2, Hs a = none := fun a ha => ok.disj a (by rw [hf]; simp [ha])
  have σe : σ.set i (some v) = σ := by
    apply List.ext_getElem?
    intro j
    by_cases hj : i = j
    · subst hj
      have hl : i < σ.length := by
        rcases Nat.lt_or_ge i σ.length with h | h
        · exact h
        · rw [List.getElem?_eq_none_iff.mpr h] at h1; cases h1
      rw [List.getElem?_set_self hl, h1]
    · rw [List.getElem?_set_ne hj]
  have env := up Hs H' (Same.refl _) (fun a ha => h2 a (out a ha)) t' v f' d
  rw [σe] at env
  have gp : ∀ a, (G.2 a).isSome = true → a ∉ f2 := fun a p1 hb => by
    cases z : G.1 a with
    | none => exact (ok.priv a p1 z).2 (by rw [hf]; simp [hb])
    | some u =>
      have := dj2 a hb
      rw [ok.base a u z] at this
      cases this
  refine ⟨fun a u e => ?_, ok.base, fun a u e => ?_, fun a p1 p2 => ?_, fun a ha => ?_, ?_, env⟩
  · rw [h2 a (fun hb => by rw [dj2 a hb] at e; cases e)]; exact ok.sh a u e
  · rw [h2 a (gp a (by rw [e]; rfl))]; exact ok.frame a u e
  · obtain ⟨q1, q2⟩ := ok.priv a p1 p2
    refine ⟨q1, fun hm => ?_⟩
    rw [hf] at q2
    simp only [List.mem_append, not_or] at q2 hm
    rcases hm with h | h | h
    · exact q2.1 h
    · rcases hn a h with z | z
      · exact q2.2.1 z
      · rw [z.2.2] at p1; cases p1
    · exact q2.2.2 h
  · simp only [List.mem_append] at ha
    rcases ha with h | h | h
    · exact ok.disj a (by rw [hf]; simp [h])
    · rcases hn a h with z | z
      · exact dj2 a z
      · exact z.1
    · exact ok.disj a (by rw [hf]; simp [h])
  · have fr : ∀ a ∈ f', a ∉ f1 ∧ a ∉ f3 := fun a ha => by
      rcases hn a ha with z | z
      · exact ⟨fun h => out a (by simp [h]) z, fun h => out a (by simp [h]) z⟩
      · have := z.2.1
        rw [hf] at this
        simp only [List.mem_append, not_or] at this
        exact ⟨this.1, this.2.2⟩
    rw [List.nodup_append, List.nodup_append]
    refine ⟨n1, ⟨nd, n2.2.1, fun a ha b hb e => (fr a ha).2 (e ▸ hb)⟩, fun a ha b hb e => ?_⟩
    rcases List.mem_append.mp hb with h | h
    · exact (fr b h).1 (e ▸ ha)
    · exact n3 a ha b (List.mem_append_right _ h) e
/-- a list of one's own, and what becomes of it -/
theorem OkAt.own {K G σ H ρ Hs fp i ts} (ok : OkAt K G σ H ρ Hs fp) (hi : ρ[i]? = some (some (.lst ts))) :
    ∃ l vs fr, σ[i]? = some (some (.ref l)) ∧ H l = some (.lst vs) ∧ DenTL K Hs H ts vs fr ∧ (l :: fr).Nodup ∧ (∀ a ∈ l :: fr, a ∈ fp) ∧
      ∀ vs' ts' fr', DenTL K Hs H ts' vs' fr' → fr'.Nodup → (∀ a ∈ fr', a ∈ fr ∨ (Hs a = none ∧ a ∉ fp ∧ G.2 a = none)) → ∃ fp', OkAt K G σ (upd H l (.lst vs')) (ρ.set i (some (.lst ts'))) Hs fp' := by
  obtain ⟨v, f1, f2, f3, h1, h2, h3, h4, _⟩ := ok.env.at hi
  obtain ⟨l, vs, fr, e1, e2, e3, e4⟩ := h3
  subst e1
  subst e2
  have nd := ok.nd
  rw [h2, List.nodup_append] at nd
  obtain ⟨n1, n2, n3⟩ := nd
  rw [List.nodup_append] at n2
  refine ⟨l, vs, fr, h1, e3, e4, n2.1, fun a ha => by rw [h2]; simp only [List.mem_append]; exact .inr (.inl ha), fun vs' ts' fr' d nd' hn => ?_⟩
  have nl : l ∉ fr' := fun hm => by
    rcases hn l hm with z | z
    · exact (List.nodup_cons.mp n2.1).1 z
    · exact z.2.1 (by rw [h2]; simp)
  refine ⟨f1 ++ ((l :: fr') ++ f3), ok.turn (t' := .lst ts') (f' := l :: fr') hi h1 h2 h4 (fun a ha => upd_ne fun e => ha (by simp [e])) ⟨l, vs', fr', rfl, rfl, upd_same, d.mono (Same.refl _) fun a ha => upd_ne fun e => nl (e ▸ ha)⟩ (List.nodup_cons.mpr ⟨nl, nd'⟩) fun a ha => ?_⟩
  rcases List.mem_cons.mp ha with rfl | ha
  · exact .inl (by simp)
  · rcases hn a ha with z | z
    · exact .inl (by simp [z])
    · exact .inr z
theorem own_go {K : PySem.W.Frag} {β : Type} {P : Res β → Prop} {G : Gh} {σ : L2.St} {H : Hp} {ρ : Env'} {Hs : Hp} {fp : List Addr} {i : Nat} {ts0 : List T} {r : V → List V → Hp → VK → Prop} {k : T × Env' → Res β} {Q : VK} (ok : OkAt K G σ H ρ Hs fp) (hi : ρ[i]? = some (some (.lst ts0))) (po : P ((na ρ).bind k))
    (hx : ∀ c ρ', P (.exc c ρ') → ∀ H' C, mg c = some (.ref C) → Ok K G σ H' ρ' → W (.ref C) none σ H') (hb : ¬ P .bad)
    (cont : ∀ v t ρ1 y H1 Hs1 fp1 ft, σ[i]? = some (some v) → OkAt K G σ H1 ρ1 Hs1 fp1 → DenT K Hs1 H1 t y ft → ft.Nodup → (∀ a ∈ ft, Hs1 a = none ∧ a ∉ fp1 ∧ G.2 a = none) → P (k (t, ρ1)) → r v [y] H1 Q) :
    tBM K "list" r (tVar i) (tCons (tFN K mg W na) tNil) σ H Q := by
  obtain ⟨l, vs, fr, h1, h2, _⟩ := ok.own hi
  refine ⟨.ref l, h1, .inl ⟨rfl, vs, SqL.lst h2⟩, goN ok po hx hb fun t ρ1 y H1 Hs1 fp1 ft ok1 dt nd q po1 => ?_⟩
  exact cont _ t ρ1 y H1 Hs1 fp1 ft h1 (ok.back ok1) dt nd (fun a ha => ⟨(q a ha).1, (q a ha).2.1, rem_none ok (q a ha).2.2⟩) po1
/-- x.append(e) -/
noncomputable def sAppend (i : Nat) (na : Env' → Res (T × Env')) : Env' → Res Fl := fun ρ => match ρ[i]? with
  | some (some (.lst _)) => (na ρ).bind fun (t, ρ1) => match ρ1[i]? with
    | some (some (.lst ts)) => if ts.length < sizeLine then .ok (.nx (ρ1.set i (some (.lst (ts ++ [t]))))) else .bad
    | _ => .bad
  | _ => .bad
section
variable {i : Nat} {x name : Str} {p apos cpos : Pos}
theorem fs_append (i : Nat) (ha : PE X a (tFN X.K mg W na)) (hname : name = "append") (hN : X.N[i]? = some x := by rfl) (hv : Vis X.env.scope x := by first | exact Or.inl rfl | exact Or.inr (Or.inl rfl) | exact Or.inr (Or.inr rfl)) (hd : (x == ("__debug__" : Str)) = false := by decide) (hcd : (x == ("__classdict__" : Str)) = false := by decide)
    (hbase : attributeBase (.Name x p) name X.env (eval (.Name x p) X.env) = eval (.Name x p) X.env := by rfl)
    (hfew : ((backTo cpos (starEach [a] X.env)).all (fun x => !x.1) && (backToKw cpos (keywordEach [] X.env)).all (fun x => x.1.isSome)
      && decide ([a].length + ([] : List Keyword).length + (if ([] : List Keyword).isEmpty then 0 else 1) < 30)) = true := by rfl)
    (hline : (apos.endLine == cpos.line) = true := by rfl) (hst : starEach [a] X.env = (false, eval a X.env) :: starEach [] X.env := by rfl) (hplain : (backTo cpos (starEach [] X.env)).any (·.1) = false := by rfl)
    (hs : swapsWith (.Call (.Attribute (.Name x p) name apos) [a] [] cpos) none pos.line X.env = pure false := by rfl) :
    PS X (.Expr (.Call (.Attribute (.Name x p) name apos) [a] [] cpos) pos) (tFS X.K mg W (sAppend i na)) := by
  subst hname
  refine (ps_expr (pe_bm PySem.F.plainAttrs_list PySem.F.slot_list_append PySem.F.type_list_append mt_append (pe_var hN hv hd hcd) (pa_cons ha pa_nil hst) hbase hfew hline hst hplain) hs).imp fun D σ H ⟨G, ρ, ⟨Hs, fp, ok⟩, po⟩ => ?_
  unfold sAppend at po
  split at po
  · rename_i ts0 hi0
    refine own_go (P := PoS X.K mg W G D) ok hi0 po (fun c ρ' h => h σ) id fun v t ρ1 y H1 Hs1 fp1 ft e1 ok1 dt nd q po1 => ?_
    simp only at po1
    split at po1
    · rename_i ts hi
      split at po1
      · rename_i hl
        obtain ⟨l, vs, fr, h1, h2, h3, h4, h5, h6⟩ := ok1.own hi
        rw [e1] at h1
        cases h1
        refine ⟨l, vs, y, rfl, rfl, h2, by rw [h3.length]; exact hl, ?_⟩
        obtain ⟨fp', ok2⟩ := h6 (vs ++ [y]) (ts ++ [t]) (fr ++ ft) (h3.append ⟨y, [], ft, [], rfl, by simp, dt, rfl, rfl⟩) (by
          rw [List.nodup_append]
          exact ⟨(List.nodup_cons.mp h4).2, nd, fun a ha b hb e => (q b hb).2.1 (e ▸ h5 a (by simp [ha]))⟩) fun a ha => (List.mem_append.mp ha).elim .inl fun h => .inr (q a h)
        exact po1 _ _ ⟨Hs1, fp', ok2⟩
      · exact po1.elim
    · exact po1.elim
  · exact po.elim
/-- x.extend(e), e a list -/
noncomputable def sExtend (i : Nat) (fa : Env' → Res (RV × Env')) : Env' → Res Fl := fun ρ => match ρ[i]? with
  | some (some (.lst _)) => (fa ρ).bind fun (r, ρ1) => match look ρ1 r with
    | some (.lst ds) => match ρ1[i]? with
      | some (some (.lst ts)) => if ts.length + ds.length ≤ sizeLine then .ok (.nx (ρ1.set i (some (.lst (ts ++ ds.map T.sh))))) else .bad
      | _ => .bad
    | _ => .bad
  | _ => .bad
theorem fs_extend (i : Nat) (ha : PE X a (tFO X.K mg W fa)) (hname : name = "extend") (hN : X.N[i]? = some x := by rfl) (hv : Vis X.env.scope x := by first | exact Or.inl rfl | exact Or.inr (Or.inl rfl) | exact Or.inr (Or.inr rfl)) (hd : (x == ("__debug__" : Str)) = false := by decide) (hcd : (x == ("__classdict__" : Str)) = false := by decide)
    (hbase : attributeBase (.Name x p) name X.env (eval (.Name x p) X.env) = eval (.Name x p) X.env := by rfl)
    (hfew : ((backTo cpos (starEach [a] X.env)).all (fun x => !x.1) && (backToKw cpos (keywordEach [] X.env)).all (fun x => x.1.isSome)
      && decide ([a].length + ([] : List Keyword).length + (if ([] : List Keyword).isEmpty then 0 else 1) < 30)) = true := by rfl)
    (hline : (apos.endLine == cpos.line) = true := by rfl) (hst : starEach [a] X.env = (false, eval a X.env) :: starEach [] X.env := by rfl) (hplain : (backTo cpos (starEach [] X.env)).any (·.1) = false := by rfl)
    (hs : swapsWith (.Call (.Attribute (.Name x p) name apos) [a] [] cpos) none pos.line X.env = pure false := by rfl) :
    PS X (.Expr (.Call (.Attribute (.Name x p) name apos) [a] [] cpos) pos) (tFS X.K mg W (sExtend i fa)) := by
  subst hname
  refine (ps_expr (pe_bm PySem.F.plainAttrs_list PySem.F.slot_list_extend PySem.F.type_list_extend mt_extend (pe_var hN hv hd hcd) (pa_cons ha pa_nil hst) hbase hfew hline hst hplain) hs).imp fun D σ H ⟨G, ρ, ⟨Hs, fp, ok⟩, po⟩ => ?_
  unfold sExtend at po
  split at po
  · rename_i ts0 hi0
    obtain ⟨l0, vs0, fr0, h10, h20, _⟩ := ok.own hi0
    refine ⟨.ref l0, h10, .inl ⟨rfl, vs0, SqL.lst h20⟩, goE (P := PoS X.K mg W G D) ok po (fun c ρ' h => h σ) id fun r1 ρ1 y H1 Hs1 fp1 ok1 dy po1 => ?_⟩
    have ok1' := ok.back ok1
    simp only at po1
    split at po1
    · rename_i ds e1
      obtain ⟨b, zs, rfl, k1, k2⟩ := look_den ok1' dy e1
      split at po1
      · rename_i ts hi
        split at po1
        · rename_i hl
          obtain ⟨l, vs, fr, h1, h2, h3, h4, h5, h6⟩ := ok1'.own hi
          rw [h10] at h1
          cases h1
          refine ⟨l0, b, vs, zs, rfl, rfl, h2, k1, by rw [h3.length, k2.length]; exact hl, ?_⟩
          obtain ⟨fp', ok2⟩ := h6 (vs ++ zs) (ts ++ ds.map T.sh) (fr ++ []) (h3.append (DenTL.sh k2)) (by
            rw [List.append_nil]
            exact (List.nodup_cons.mp h4).2) fun a ha => .inl (by simpa using ha)
          exact po1 _ _ ⟨Hs1, fp', ok2⟩
        · exact po1.elim
      · exact po1.elim
    · exact po1.elim
  · exact po.elim
/-- x.pop() -/
noncomputable def ePop (i : Nat) : Env' → Res (RV × Env') := fun ρ => match ρ[i]? with
  | some (some (.lst ts)) => match ts[ts.length - 1]? with
    | some (.sh d) => .ok (.leaf d, ρ.set i (some (.lst ts.dropLast)))
    | _ => .bad
  | _ => .bad
theorem DenTL.split {K Hs H} : ∀ {ts us : List T} {vs : List V} {f : List Addr}, DenTL K Hs H (ts ++ us) vs f → ∃ v1 v2 f1 f2, vs = v1 ++ v2 ∧ f = f1 ++ f2 ∧ DenTL K Hs H ts v1 f1 ∧ DenTL K Hs H us v2 f2
  | [], us, vs, f, h => ⟨[], vs, [], f, rfl, rfl, ⟨rfl, rfl⟩, h⟩
  | t :: ts, us, vs, f, ⟨v, r, g1, g2, e1, e2, e3, e4⟩ => by
    obtain ⟨v1, v2, f1, f2, h1, h2, h3, h4⟩ := DenTL.split e4
    subst e1; subst e2; subst h1; subst h2
    exact ⟨v :: v1, v2, g1 ++ f1, f2, rfl, by simp, ⟨v, v1, g1, f1, rfl, rfl, e3, h3⟩, h4⟩
theorem fo_pop (i : Nat) (hname : name = "pop") (hN : X.N[i]? = some x := by rfl) (hv : Vis X.env.scope x := by first | exact Or.inl rfl | exact Or.inr (Or.inl rfl) | exact Or.inr (Or.inr rfl)) (hd : (x == ("__debug__" : Str)) = false := by decide) (hcd : (x == ("__classdict__" : Str)) = false := by decide)
    (hbase : attributeBase (.Name x p) name X.env (eval (.Name x p) X.env) = eval (.Name x p) X.env := by rfl) (hline : (apos.endLine == cpos.line) = true := by rfl) :
    PE X (.Call (.Attribute (.Name x p) name apos) [] [] cpos) (tFO X.K mg W (ePop i)) := by
  subst hname
  refine (pe_bm0 PySem.F.plainAttrs_list PySem.F.slot_list_pop PySem.F.type_list_pop mt_pop (pe_var hN hv hd hcd) hbase hline).imp fun σ H Q ⟨G, ρ, ⟨Hs, fp, ok⟩, po⟩ => ?_
  unfold ePop at po
  split at po
  · rename_i ts hi
    split at po
    · rename_i d hd
      obtain ⟨l, vs, fr, h1, h2, h3, h4, h5, h6⟩ := ok.own hi
      have hne : ts ≠ [] := fun z => by subst z; cases hd
      have hl : ts.dropLast ++ [T.sh d] = ts := by
        have := List.dropLast_concat_getLast hne
        rw [← this]
        congr 1
        · simp
        · rw [List.getLast_eq_getElem]
          have hlt : ts.length - 1 < ts.length := by have := List.length_pos_iff.mpr hne; omega
          rw [List.getElem?_eq_getElem hlt] at hd
          simpa using (Option.some.inj hd).symm
      rw [← hl] at h3
      obtain ⟨v1, v2, g1, g2, e1, e2, e3, e4⟩ := h3.split
      obtain ⟨w, r, f1, f2, k1, k2, k3, k4⟩ := e4
      obtain ⟨rfl, rfl⟩ := k4
      obtain ⟨rfl, dw⟩ := k3
      subst k1
      refine ⟨.ref l, h1, .inl ⟨rfl, vs, SqL.lst h2⟩, l, vs, w, rfl, rfl, h2, by rw [e1]; simp, ?_⟩
      obtain ⟨fp', ok2⟩ := h6 v1 ts.dropLast g1 e3 (by
        have := (List.nodup_cons.mp h4).2
        rw [e2, List.nodup_append] at this
        exact this.1) fun a ha => .inl (by rw [e2]; simp [ha])
      rw [show vs.dropLast = v1 from by rw [e1]; simp]
      exact po _ _ Hs fp' ok2 dw
    · exact po.elim
  · exact po.elim
/-- x[e1] = e2 -/
noncomputable def sSetIx (i : Nat) (na : Env' → Res (T × Env')) (fb : Env' → Res (RV × Env')) : Env' → Res Fl := fun ρ => (na ρ).bind fun (t, ρ1) => match t, ρ1[i]? with
  | .sh d, some (some _) => (fb ρ1).bind fun (r, ρ2) => match look ρ2 r, ρ2[i]? with
    | some (.int k), some (some (.lst ts)) => match ixN ts.length k with
      | some j => match ts[j]? with
        | some (.sh _) => .ok (.nx (ρ2.set i (some (.lst (ts.set j (.sh d))))))
        | _ => .bad
      | none => .bad
    | _, _ => .bad
  | _, _ => .bad
theorem DenTL.setSh {K Hs H} {d : D} {v : V} (hd : Den K Hs d v) : ∀ {ts : List T} {vs : List V} {f : List Addr} {j : Nat} {e : D}, DenTL K Hs H ts vs f → ts[j]? = some (.sh e) → DenTL K Hs H (ts.set j (.sh d)) (vs.set j v) f
  | _ :: ts, _, _, 0, _, ⟨w, r, f1, f2, e1, e2, e3, e4⟩, h => by
    cases (Option.some.inj h)
    obtain ⟨rfl, _⟩ := e3
    subst e1; subst e2
    exact ⟨v, r, [], _, rfl, rfl, ⟨rfl, hd⟩, e4⟩
  | _ :: ts, _, _, j + 1, _, ⟨w, r, f1, f2, e1, e2, e3, e4⟩, h => by
    subst e1; subst e2
    exact ⟨w, _, f1, f2, rfl, rfl, e3, DenTL.setSh hd e4 (by simpa using h)⟩
theorem fs_setIx (i : Nat) {p tpos : Pos} (ha : PE X a (tFN X.K mg W na)) (hb : PE X b (tFO X.K mg W fb)) (hN : X.N[i]? = some x := by rfl) (hv : Vis X.env.scope x := by first | exact Or.inl rfl | exact Or.inr (Or.inl rfl) | exact Or.inr (Or.inr rfl)) (hd : (x == ("__debug__" : Str)) = false := by decide) (hcd : (x == ("__classdict__" : Str)) = false := by decide)
    (hs : swapsWithSole [.Subscript (.Name x p) b tpos] a pos.line X.env = pure false := by rfl) (hw : swappedStores [.Subscript (.Name x p) b tpos] a X.env = pure none := by rfl)
    (h1 : (assignEach [.Subscript (.Name x p) b tpos] X.env).map (·.2) = [assign (.Subscript (.Name x p) b tpos) X.env] := by rfl)
    (hg : ∀ v, assign (.Subscript (.Name x p) b tpos) X.env v = (do
      let ov ← holding [v] (eval (.Name x p) X.env)
      let iv ← holding [v, ov] (eval b X.env)
      standAt tpos
      holding [v, ov, iv] (setItem ov iv v)
      release [v, ov, iv] []) := by intro _; rfl) :
    PS X (.Assign [.Subscript (.Name x p) b tpos] a pos) (tFS X.K mg W (sSetIx i na fb)) := by
  refine (ps_asg ha (pg_sub (pe_var hN hv hd hcd) hb set_list hg) hs hw h1).imp fun D σ H ⟨G, ρ, ⟨Hs, fp, ok⟩, po⟩ => ?_
  refine goN (P := PoS X.K mg W G D) ok po (fun c ρ' h => h σ) id fun t ρ1 y H1 Hs1 fp1 ft ok1 dt nd q po1 => ?_
  have ok1' := ok.back ok1
  simp only at po1
  split at po1
  · rename_i d t0 hi0
    obtain ⟨v, _, _, _, hv, _⟩ := ok1'.env.at hi0
    refine ⟨v, hv, goE (P := PoS X.K mg W G D) ok1' po1 (fun c ρ' h => h σ) id fun r2 ρ2 w H2 Hs2 fp2 ok2 dw po2 => ?_⟩
    have ok2' := ok1'.back ok2
    simp only at po2
    split at po2
    · rename_i k ts e1 hi
      cases (show w = .int k from look_den ok2' dw e1)
      split at po2
      · rename_i j hj
        split at po2
        · rename_i e0 ht
          obtain ⟨l, vs, fr, h1, h2, h3, h4, h5, h6⟩ := ok2'.own hi
          rw [hv] at h1
          cases h1
          refine ⟨l, vs, k, j, rfl, rfl, h2, by rw [h3.length]; exact hj, ?_⟩
          obtain ⟨fp', ok3⟩ := h6 (vs.set j y) (ts.set j (.sh d)) fr (DenTL.setSh (dt.2.mono ok2.base) h3 ht) (List.nodup_cons.mp h4).2 fun a ha => .inl ha
          exact po2 _ _ ⟨Hs2, fp', ok3⟩
        · exact po2.elim
      · exact po2.elim
    · exact po2.elim
  · exact po1.elim
/-- x[e1] op= e2 -/
theorem pget_list : PGet X (fun o i H Q => ∃ p xs k v, o = .ref p ∧ i = .int k ∧ H p = some (.lst xs) ∧ atI xs k = some v ∧ Q v H) := by
  rintro pins s σ H o i ov iv Q I ro ri ⟨p, xs, k, v, rfl, rfl, hp, hk, q⟩
  cases ro
  obtain ⟨t, rfl⟩ := ri
  obtain ⟨its, r, pl, hz⟩ := I.list (SqL.lst hp)
  obtain ⟨j, h1, h2, h3, h4, h5⟩ := atI_get hk
  obtain ⟨w, ew, rw'⟩ := r.get h2
  have hl := r.length
  have hn := line63
  have fin : EP X pins σ Q w s := ⟨v, H, I, rw', q⟩
  by_cases h0 : 0 ≤ k
  · have hj : k.toNat = j := by
      rw [seqIndex_of h0 h5] at h1
      exact Option.some.inj h1
    exact wpAny_getItem_list pl.isList h0 (by omega) (by rw [hj]; simpa using ew) fin
  · have hj : (k + (its.toArray.size : Int)).toNat = j := by
      rw [seqIndex_neg (by omega) h4] at h1
      rw [List.size_toArray, ← hl]
      exact Option.some.inj h1
    exact wpAny_getItem_list_neg pl.isList (by omega) (by rw [List.size_toArray] <;> omega) (by omega) (by rw [hj]; simpa using ew) fin
noncomputable def sAugIx (i : Nat) (g : D → D → Option D) (fb fa : Env' → Res (RV × Env')) : Env' → Res Fl := fun ρ => match ρ[i]? with
  | some (some _) => (fb ρ).bind fun (r, ρ1) => match look ρ1 r, ρ1[i]? with
    | some (.int k), some (some (.lst ts)) => match (ixN ts.length k).bind fun j => ts[j]? with
      | some (.sh d1) => (fa ρ1).bind fun (r2, ρ2) => (Res.of (look ρ2 r2)).bind fun d2 => (Res.of (g d1 d2)).bind fun d => match ρ2[i]? with
        | some (some (.lst ts2)) => match ixN ts2.length k with
          | some j => match ts2[j]? with
            | some (.sh _) => .ok (.nx (ρ2.set i (some (.lst (ts2.set j (.sh d))))))
            | _ => .bad
          | none => .bad
        | _ => .bad
      | _ => .bad
    | _, _ => .bad
  | _ => .bad
theorem DenTL.getSh {K Hs H} : ∀ {ts : List T} {vs : List V} {f : List Addr} {j : Nat} {e : D}, DenTL K Hs H ts vs f → ts[j]? = some (.sh e) → ∃ v, vs[j]? = some v ∧ Den K Hs e v
  | _ :: ts, _, _, 0, _, ⟨w, r, f1, f2, e1, e2, e3, e4⟩, h => by
    cases (Option.some.inj h)
    exact ⟨w, by rw [e1]; rfl, e3.2⟩
  | _ :: ts, _, _, j + 1, _, ⟨w, r, f1, f2, e1, e2, e3, e4⟩, h => by
    obtain ⟨v, h1, h2⟩ := DenTL.getSh e4 (by simpa using h)
    exact ⟨v, by rw [e1]; simpa using h1, h2⟩
theorem fs_augIx (i : Nat) {op : Operator} {g : D → D → Option D} {p tpos : Pos} (ho : IpD X op g) (hb : PE X b (tFO X.K mg W fb)) (ha : PE X a (tFO X.K mg W fa)) (hN : X.N[i]? = some x := by rfl) (hv : Vis X.env.scope x := by first | exact Or.inl rfl | exact Or.inr (Or.inl rfl) | exact Or.inr (Or.inr rfl)) (hd : (x == ("__debug__" : Str)) = false := by decide) (hcd : (x == ("__classdict__" : Str)) = false := by decide)
    (hg : ∀ ov iv new, augStore b ov iv new = (do holding [new, ov, iv] (setItem ov iv new); release [new, ov, iv] []; pure .next) := by intros; rfl) :
    PS X (.AugAssign (.Subscript (.Name x p) b tpos) op a pos) (tFS X.K mg W (sAugIx i g fb fa)) := by
  refine (ps_augS (pe_var hN hv hd hcd) hb pget_list ha ho set_list hg).imp fun D σ H ⟨G, ρ, ⟨Hs, fp, ok⟩, po⟩ => ?_
  unfold sAugIx at po
  split at po
  · rename_i t0 hi0
    obtain ⟨v, _, _, _, hv, _⟩ := ok.env.at hi0
    refine ⟨v, hv, goE (P := PoS X.K mg W G D) ok po (fun c ρ' h => h σ) id fun r1 ρ1 w H1 Hs1 fp1 ok1 dw po1 => ?_⟩
    have ok1' := ok.back ok1
    simp only at po1
    split at po1
    · rename_i k ts e1 hi
      cases (show w = .int k from look_den ok1' dw e1)
      split at po1
      · rename_i d1 hj
        simp only [Option.bind_eq_some_iff] at hj
        obtain ⟨j, hj1, hj2⟩ := hj
        obtain ⟨l, vs, fr, h1, h2, h3, _⟩ := ok1'.own hi
        rw [hv] at h1
        cases h1
        obtain ⟨w1, hw1, dw1⟩ := h3.getSh hj2
        refine ⟨l, vs, k, w1, rfl, rfl, h2, by unfold L2.atI; rw [h3.length, hj1]; exact hw1, ?_⟩
        refine goE (P := PoS X.K mg W G D) ok1' po1 (fun c ρ' h => h σ) id fun r2 ρ2 u H2 Hs2 fp2 ok2 du po2 => ?_
        have ok2' := ok1'.back ok2
        cases e2 : look ρ2 r2 with
        | none => simp only [e2] at po2; exact po2.elim
        | some d2 =>
          cases e3 : g d1 d2 with
          | none => simp only [e2, e3, of_some, bind_ok] at po2; exact po2.elim
          | some d =>
            simp only [e2, e3, of_some, bind_ok] at po2
            refine ⟨Hs2, d1, d2, d, ok2'.sh, Den.one ok2'.sh (dw1.mono ok2.base), look_den ok2' du e2, e3, fun z Hs3 H3 ex dz => ?_⟩
            split at po2
            · rename_i ts2 hi2
              split at po2
              · rename_i j2 hj3
                split at po2
                · rename_i e0 ht
                  obtain ⟨l2, vs2, fr2, g1, g2, g3, g4, g5, g6⟩ := (ok2'.ext ex).own hi2
                  rw [hv] at g1
                  cases g1
                  refine ⟨l, vs2, k, j2, rfl, rfl, g2, by rw [g3.length]; exact hj3, ?_⟩
                  obtain ⟨fp', ok3⟩ := g6 (vs2.set j2 z) (ts2.set j2 (.sh d)) fr2 (DenTL.setSh dz g3 ht) (List.nodup_cons.mp g4).2 fun a ha => .inl ha
                  exact po2 _ _ ⟨Hs3, fp', ok3⟩
                · exact po2.elim
              · exact po2.elim
            · exact po2.elim
      · exact po1.elim
    · exact po1.elim
  · exact po.elim
end

/-! exceptions -/
theorem pmk_own0 {x : Str} {C : Addr} {bmB : List Value} {B newId initId : String} {p pos : Pos} (F : ExcBaseFacts B newId initId bmB) (q : PySem.W.excIn X.K C bmB newId = true) (gC : X.mg x = some (.ref C)) (kC : PySem.W.keepIn X.K (.ref C) = true) (r : Raises X (.ref C)) (hg : Gl X x)
    (hdb : (x == ("__debug__" : Str)) = false := by decide) : PMk X (.Call (.Name x p) [] [] pos) (fun _ H Q => Q (.ref C) none H) := by
  intro pins s σ H Q I h
  refine wpAny_Call_Name_kw (ld_glob I hg gC ?_ hdb)
  refine PySem.W.callWith_K0 I.kIn kC ?_
  show wpAny _ _ (call (.ref C) []) _ _ _
  obtain ⟨bm, N, nm, qn, bs, hdct, sn, sub, ab, col, dd, k0, k1, k2, k3, k5, mN, hC, hN, hni, T⟩ := exc_obj I.kIn q
  refine wpAny_call_exc_subT F T hC hN hni (fun h' e hm => ?_) (Nat.zero_le _)
  exact mk_of I hm r h (I.hok.gone hm.new)
/-- what is known of an own exception class without fields -/
structure ExT (K : PySem.W.Frag) (mg : Str → Option Value) (x : Str) (C : Addr) : Prop where
  gC : mg x = some (.ref C)
  q : PySem.W.excIn K C [.type "ValueError", .type "Exception", .type "BaseException", .type "object"] "ValueError.__new__" = true
  kC : PySem.W.keepIn K (.ref C) = true
  b : PySem.W.subIn K (.ref C) (.type "BaseException") = some true
  t : PySem.W.typeIn K (.ref C) = some (.type "type")
noncomputable def sRaise (x : Str) : Env' → Res Fl := fun ρ => .exc x ρ
theorem fs_raise {x : Str} {C : Addr} {p pos2 : Pos} (hc : X.calm = true) (tk : Takes X W) (E : ExT X.K X.mg x C) (hm : X.mg = mg) (hg : Gl X x) (hdb : (x == ("__debug__" : Str)) = false := by decide) : PS X (.Raise (some (.Call (.Name x p) [] [] pos2)) none pos) (tFS X.K mg W (sRaise x)) := by
  subst hm
  exact (ps_raise hc tk (pmk_own0 PySem.F.excBase_ValueError E.q E.gC E.kC (raises_own E.b E.t) hg hdb)).imp fun D σ H ⟨G, ρ, ok, po⟩ => po σ H C E.gC ok

/-! calls of one's own defs -/
inductive Out (α : Type) where
  | ok (a : α) | exc (c : Str) | bad
/-- a def's promise: shared arguments, a shared answer -/
noncomputable def spP (K : PySem.W.Frag) (mg : Str → Option Value) (np : Nat) (m : List D → Out D) : Sp := fun vs H Q E => vs.length = np ∧ ∃ Hs ds, Same Hs H ∧ DenL K Hs ds vs ∧ match m ds with
  | .ok d => ∀ v Hs' H', Ext Hs H Hs' H' → Den K Hs' d v → Q v H'
  | .exc c => ∀ C Hs' H', mg c = some (.ref C) → Ext Hs H Hs' H' → E (.ref C) none H'
  | .bad => False
/-- .. an answer that is one's own -/
noncomputable def spT (K : PySem.W.Frag) (mg : Str → Option Value) (np : Nat) (m : List D → Out T) : Sp := fun vs H Q E => vs.length = np ∧ ∃ Hs ds, Same Hs H ∧ DenL K Hs ds vs ∧ match m ds with
  | .ok t => ∀ v Hs' H' ft, Ext Hs H Hs' H' → DenT K Hs' H' t v ft → ft.Nodup → (∀ a ∈ ft, Hs' a = none ∧ H a = none) → Q v H'
  | .exc c => ∀ C Hs' H', mg c = some (.ref C) → Ext Hs H Hs' H' → E (.ref C) none H'
  | .bad => False
/-- shared values of all arguments -/
noncomputable def leafs := eTup.leafs
noncomputable def eCall (m : List D → Out D) (fs : Env' → Res (List RV × Env')) : Env' → Res (RV × Env') := fun ρ => (fs ρ).bind fun (rs, ρ1) => (Res.of (leafs rs)).bind fun ds => match m ds with
  | .ok d => .ok (.leaf d, ρ1)
  | .exc c => .exc c ρ1
  | .bad => .bad
noncomputable def nCall (m : List D → Out T) (fs : Env' → Res (List RV × Env')) : Env' → Res (T × Env') := fun ρ => (fs ρ).bind fun (rs, ρ1) => (Res.of (leafs rs)).bind fun ds => match m ds with
  | .ok t => .ok (t, ρ1)
  | .exc c => .exc c ρ1
  | .bad => .bad
section
variable {k np : Nat} {f : Addr} {fd : FuncData} {ps : List Str} {x : Str} {p : Pos} {e : Expr} {es : List Expr} {fs : Env' → Res (List RV × Env')}
theorem fo_call {m : List D → Out D} (F : FnOk X.prog X.w X.K X.mg X.base (L2.CX X.prog X.w) k f fd ps (spP X.K mg np m)) (hr : Room k X.A) (hg : Gl X x) (hm : X.mg x = some (.ref f)) (hk : PySem.W.keepIn X.K (.ref f) = true) (hb : Binds X.K fd ps []) (tk : Takes X W)
    (hl : (e :: es).length = np) (ha : PA X (e :: es) (tFA X.K mg W fs)) (hlen : ∀ ρ rs ρ', fs ρ = .ok (rs, ρ') → rs.length = np) (hdb : (x == ("__debug__" : Str)) = false := by decide) (he : starEach (e :: es) X.env = (false, eval e X.env) :: starEach es X.env := by rfl) (hpl : (backTo pos (starEach es X.env)).any (·.1) = false := by rfl) :
    PE X (.Call (.Name x p) (e :: es) [] pos) (tFO X.K mg W (eCall m fs)) := by
  refine (pe_callS F hr hg hm hk hb (fun σ => passAt tk σ) ha hdb he hpl).imp fun σ H Q ⟨G, ρ, ⟨Hs, fp, ok⟩, po⟩ => ?_
  refine ⟨_, ρ, ⟨Hs, fp, ok.self⟩, ?_⟩
  unfold eCall at po
  cases e0 : fs ρ with
  | bad => rw [e0] at po; exact po
  | exc c ρ' => rw [e0] at po; exact fun H' C hc o => po H' C hc (Ok.back ok o)
  | ok q =>
    obtain ⟨rs, ρ1⟩ := q
    rw [e0] at po
    intro xs H1 Hs1 fp1 ok1 dx
    have ok1' := ok.back ok1
    cases e1 : eTup.leafs rs with
    | none => simp only [leafs, bind_ok, e1] at po; exact po.elim
    | some ds =>
      simp only [leafs, e1, of_some, bind_ok] at po
      have dl := leafs_den dx e1
      have ll : ∀ {rs : List RV} {ds : List D}, eTup.leafs rs = some ds → ds.length = rs.length := by
        intro rs
        induction rs with
        | nil => intro ds h; cases h; rfl
        | cons r rs ih =>
          intro ds h
          cases r with
          | slot i => cases h
          | leaf d =>
            simp only [eTup.leafs, Option.map_eq_some_iff] at h
            obtain ⟨es, h1, rfl⟩ := h
            simp [ih h1]
      refine ⟨by rw [dl.length, ll e1, hlen _ _ _ e0], Hs1, ds, ok1'.sh, dl, ?_⟩
      cases e2 : m ds with
      | ok d =>
        rw [e2] at po
        exact fun v Hs' H' ex dv => po v H' Hs' fp1 (ok1'.ext ex) dv
      | exc c =>
        rw [e2] at po
        exact fun C Hs' H' hc ex => po H' C hc ⟨Hs', fp1, ok1'.ext ex⟩
      | bad => rw [e2] at po; exact po
theorem fn_call {m : List D → Out T} (F : FnOk X.prog X.w X.K X.mg X.base (L2.CX X.prog X.w) k f fd ps (spT X.K mg np m)) (hr : Room k X.A) (hg : Gl X x) (hm : X.mg x = some (.ref f)) (hk : PySem.W.keepIn X.K (.ref f) = true) (hb : Binds X.K fd ps []) (tk : Takes X W)
    (hl : (e :: es).length = np) (ha : PA X (e :: es) (tFA X.K mg W fs)) (hlen : ∀ ρ rs ρ', fs ρ = .ok (rs, ρ') → rs.length = np) (hdb : (x == ("__debug__" : Str)) = false := by decide) (he : starEach (e :: es) X.env = (false, eval e X.env) :: starEach es X.env := by rfl) (hpl : (backTo pos (starEach es X.env)).any (·.1) = false := by rfl) :
    PE X (.Call (.Name x p) (e :: es) [] pos) (tFN X.K mg W (nCall m fs)) := by
  refine (pe_callS F hr hg hm hk hb (fun σ => passAt tk σ) ha hdb he hpl).imp fun σ H Q ⟨G, ρ, ⟨Hs, fp, ok⟩, po⟩ => ?_
  refine ⟨_, ρ, ⟨Hs, fp, ok.self⟩, ?_⟩
  unfold nCall at po
  cases e0 : fs ρ with
  | bad => rw [e0] at po; exact po
  | exc c ρ' => rw [e0] at po; exact fun H' C hc o => po H' C hc (Ok.back ok o)
  | ok q =>
    obtain ⟨rs, ρ1⟩ := q
    rw [e0] at po
    intro xs H1 Hs1 fp1 ok1 dx
    have ok1' := ok.back ok1
    cases e1 : eTup.leafs rs with
    | none => simp only [leafs, bind_ok, e1] at po; exact po.elim
    | some ds =>
      simp only [leafs, e1, of_some, bind_ok] at po
      have dl := leafs_den dx e1
      have ll : ∀ {rs : List RV} {ds : List D}, eTup.leafs rs = some ds → ds.length = rs.length := by
        intro rs
        induction rs with
        | nil => intro ds h; cases h; rfl
        | cons r rs ih =>
          intro ds h
          cases r with
          | slot i => cases h
          | leaf d =>
            simp only [eTup.leafs, Option.map_eq_some_iff] at h
            obtain ⟨es, h1, rfl⟩ := h
            simp [ih h1]
      refine ⟨by rw [dl.length, ll e1, hlen _ _ _ e0], Hs1, ds, ok1'.sh, dl, ?_⟩
      cases e2 : m ds with
      | ok t =>
        rw [e2] at po
        refine fun v Hs' H' ft ex dv nd q => po v H' Hs' fp1 ft (ok1'.ext ex) dv nd fun a ha => ?_
        obtain ⟨q1, q2⟩ := q a ha
        refine ⟨q1, fun hm => ?_, Same.free ok1'.frame q2⟩
        obtain ⟨o, eo⟩ := ok1'.env.there a hm
        rw [q2] at eo
        cases eo
      | exc c =>
        rw [e2] at po
        exact fun C Hs' H' hc ex => po H' C hc ⟨Hs', fp1, ok1'.ext ex⟩
      | bad => rw [e2] at po; exact po
end

/-! a def by its body -/
noncomputable def startE (nN : Nat) (ds : List D) : Env' := ds.map (fun d => some (.sh d)) ++ List.replicate (nN - ds.length) none
noncomputable def mirP (np nN : Nat) (body : Env' → Res Fl) (ds : List D) : Out D := if ds.length = np then match body (startE nN ds) with
  | .ok (.nx _) => .ok .non
  | .ok (.rt (.sh d) _) => .ok d
  | .exc c _ => .exc c
  | _ => .bad
  else .bad
noncomputable def mirT (np nN : Nat) (body : Env' → Res Fl) (ds : List D) : Out T := if ds.length = np then match body (startE nN ds) with
  | .ok (.rt t _) => .ok t
  | .exc c _ => .exc c
  | _ => .bad
  else .bad
theorem start_ok {K Hs H} {N : List Str} : ∀ {ds : List D} {vs : List V}, DenL K Hs ds vs → ∀ (n : Nat), DenE K Hs H (ds.map (fun d => some (.sh d)) ++ List.replicate n none) (vs.map some ++ List.replicate n none) []
  | [], _, h, n => by
    cases h
    show DenE K Hs H (List.replicate n none) (List.replicate n none) []
    induction n with
    | zero => exact ⟨rfl, rfl⟩
    | succ n ih => exact ⟨none, _, rfl, ih⟩
  | d :: ds, _, ⟨v, r, e1, e2, e3⟩, n => by
    subst e1
    exact ⟨v, _, [], [], rfl, rfl, ⟨rfl, e2⟩, start_ok (N := N) e3 n⟩
section
variable {P : Program} {w : World} {K : PySem.W.Frag} {base : Heap}
theorem def_ok {x qual : Str} {st : Stmt} {f : Addr} {fd : FuncData} {N ps : List Str} {k : Nat} {b : Env' → Res Fl} (F : Fun K x qual st f fd) (S : FnScope N ps (defScope st)) (hN : ps.length ≤ N.length)
    (hb : ∀ (cdv : Value) (A : Around) (outer : List Env) (s : Shared) (H : Hp) (E : XK), Room k (A.deeper (envOfC qual (defScope st) s.heap.objs.size f cdv)) →
      Takes (cxOf (L2.CX P w) P w K mg base N qual (defScope st) f cdv A outer s H E) (fun cls d _ H => E cls d H) → PSs (cxOf (L2.CX P w) P w K mg base N qual (defScope st) f cdv A outer s H E) (defBody st) (tFS K mg (fun cls d _ H => E cls d H) b)) :
    FnOk P w K mg base (L2.CX P w) (k + 1) f fd ps (spP K mg ps.length (mirP ps.length N.length b)) := by
  refine F.okX S (fun vs H Q E h => h.1) fun cdv A outer s H vs Q E hr h => ⟨_, hb cdv A outer s H E hr (takes_of rfl rfl rfl rfl), ?_⟩
  obtain ⟨hl, Hs, ds, e, dl, po⟩ := h
  have l := dl.length
  refine ⟨(Hs, H), startE N.length ds, ⟨Hs, [], ⟨e, Same.refl _, Same.refl _, fun a _ h => ⟨h, by simp⟩, fun a ha => (by cases ha), by simp, ?_⟩⟩, ?_⟩
  · unfold startE L2.start
    rw [← l]
    exact start_ok (N := N) dl _
  · unfold mirP at po
    rw [if_pos (by omega)] at po
    have ext : ∀ {σ' H' ρ' Hs' fp'}, OkAt K (Hs, H) σ' H' ρ' Hs' fp' → Ext Hs H Hs' H' := fun ok => ⟨ok.base, ok.sh, ok.frame, fun a p1 p2 => (ok.priv a p1 p2).1⟩
    cases e0 : b (startE N.length ds) with
    | bad => rw [e0] at po; exact po
    | exc c ρ' => rw [e0] at po; exact fun σ' H' C hc ⟨Hs', fp', ok⟩ => po C Hs' H' hc (ext ok)
    | ok r =>
      rw [e0] at po
      cases r with
      | nx ρ' => exact fun σ' H' ⟨Hs', fp', ok⟩ => po _ Hs' H' (ext ok) rfl
      | rt t ρ' =>
        cases t with
        | sh d => exact fun v σ' H' Hs' fp' ft ok dt _ _ => po v Hs' H' (ext ok) dt.2
        | _ => exact po.elim
      | bk ρ' => exact po.elim
      | ct ρ' => exact po.elim
theorem def_okT {x qual : Str} {st : Stmt} {f : Addr} {fd : FuncData} {N ps : List Str} {k : Nat} {b : Env' → Res Fl} (F : Fun K x qual st f fd) (S : FnScope N ps (defScope st)) (hN : ps.length ≤ N.length)
    (hb : ∀ (cdv : Value) (A : Around) (outer : List Env) (s : Shared) (H : Hp) (E : XK), Room k (A.deeper (envOfC qual (defScope st) s.heap.objs.size f cdv)) →
      Takes (cxOf (L2.CX P w) P w K mg base N qual (defScope st) f cdv A outer s H E) (fun cls d _ H => E cls d H) → PSs (cxOf (L2.CX P w) P w K mg base N qual (defScope st) f cdv A outer s H E) (defBody st) (tFS K mg (fun cls d _ H => E cls d H) b)) :
    FnOk P w K mg base (L2.CX P w) (k + 1) f fd ps (spT K mg ps.length (mirT ps.length N.length b)) := by
  refine F.okX S (fun vs H Q E h => h.1) fun cdv A outer s H vs Q E hr h => ⟨_, hb cdv A outer s H E hr (takes_of rfl rfl rfl rfl), ?_⟩
  obtain ⟨hl, Hs, ds, e, dl, po⟩ := h
  have l := dl.length
  refine ⟨(Hs, H), startE N.length ds, ⟨Hs, [], ⟨e, Same.refl _, Same.refl _, fun a _ h => ⟨h, by simp⟩, fun a ha => (by cases ha), by simp, ?_⟩⟩, ?_⟩
  · unfold startE L2.start
    rw [← l]
    exact start_ok (N := N) dl _
  · unfold mirT at po
    rw [if_pos (by omega)] at po
    have ext : ∀ {σ' H' ρ' Hs' fp'}, OkAt K (Hs, H) σ' H' ρ' Hs' fp' → Ext Hs H Hs' H' := fun ok => ⟨ok.base, ok.sh, ok.frame, fun a p1 p2 => (ok.priv a p1 p2).1⟩
    cases e0 : b (startE N.length ds) with
    | bad => rw [e0] at po; exact po
    | exc c ρ' => rw [e0] at po; exact fun σ' H' C hc ⟨Hs', fp', ok⟩ => po C Hs' H' hc (ext ok)
    | ok r =>
      rw [e0] at po
      cases r with
      | nx ρ' => exact po.elim
      | rt t ρ' => exact fun v σ' H' Hs' fp' ft ok dt nd q => po v Hs' H' ft (ext ok) dt nd fun a ha => ⟨(q a ha).1, (q a ha).2.2⟩
      | bk ρ' => exact po.elim
      | ct ρ' => exact po.elim
end
end
end FL

namespace FL
open PySem PySem.Spec PyProof.Rows L2

section
variable {X : Cx} {mg : Str → Option Value} {W : WX} {a b c : Expr} {fa fb fc : Env' → Res (RV × Env')} {na nb : Env' → Res (T × Env')} {ta : Env' → Res (Bool × Env')} {pos p : Pos}
/-! ### isinstance -/
noncomputable def D.tyN : D → Option String
  | .non => some "NoneType"
  | .bl _ => some "bool"
  | .int _ => some "int"
  | .str _ => some "str"
  | .lst _ => some "list"
  | .fz _ => some "list"
  | .tup _ => some "tuple"
  | .ftup _ => some "tuple"
  | .dic _ _ => some "dict"
  | .dit _ _ => some "dict"
  | .ty _ => none
noncomputable def isT : String → String → Bool
  | "bool", "int" => true
  | a, b => a == b
noncomputable def D.isinst : List D → Option D
  | [d, .ty n] => if n = "int" ∨ n = "bool" ∨ n = "str" ∨ n = "tuple" ∨ n = "list" ∨ n = "dict" then d.tyN.map fun m => .bl (isT m n) else none
  | _ => none
theorem tyX_den {K Hs H d v m} (e : Same Hs H) (h : Den1 K Hs H d v) (q : d.tyN = some m) : TyX K H v (.type m) := by
  cases d with
  | non => cases h; cases q; exact .base .non
  | bl b => cases h; cases q; exact .base (.bl _)
  | int b => cases h; cases q; exact .base (.int _)
  | ty b => cases q
  | str b => obtain ⟨rfl, _⟩ := h; cases q; exact .base (.str _)
  | tup b =>
    obtain ⟨a, vs, rfl, h1, h2⟩ := h
    cases q
    exact .base (.tup (e _ _ h1))
  | ftup b =>
    obtain ⟨a, vs, rfl, h1, h2⟩ := h
    cases q
    rcases e.seqT h1 with (h | ⟨o, h⟩) | ⟨o, its, n, h1, h2, _⟩
    · exact .base (.tup h)
    · exact .fTuple h
    · exact .kTuple h1 h2
  | lst b => obtain ⟨a, vs, rfl, h1, h2⟩ := h; cases q; exact .base (.lst h1)
  | fz b =>
    obtain ⟨a, vs, rfl, h1, h2⟩ := h
    cases q
    rcases e.seq h1 with (h | ⟨o, h⟩) | ⟨o, its, n, h1, h2, _⟩
    · exact .base (.lst h)
    · exact .base (.frz h)
    · exact .kList h1 h2
  | dic ks b => obtain ⟨a, kv, rfl, h1, h2, h3⟩ := h; cases q; exact .base (.dK h1)
  | dit ks b => obtain ⟨a, kv, rfl, h1, h2, h3⟩ := h; cases q; exact .base (.dT h1)
theorem kit_isT {m n : String} (hm : m = "NoneType" ∨ m = "bool" ∨ m = "int" ∨ m = "str" ∨ m = "list" ∨ m = "tuple" ∨ m = "dict") (hn : n = "int" ∨ n = "bool" ∨ n = "str" ∨ n = "tuple" ∨ n = "list" ∨ n = "dict") : kitB m n = some (isT m n) := by
  rcases hm with rfl | rfl | rfl | rfl | rfl | rfl | rfl <;> rcases hn with rfl | rfl | rfl | rfl | rfl | rfl <;> decide +kernel
theorem cd_isinst : CallD X (.builtin "isinstance") D.isinst := by
  rintro pins s σ H xs us Q I r ⟨Hs, ds, d, e, h1, h2, q⟩
  unfold D.isinst at h2
  split at h2
  · split at h2
    · rename_i d0 n hn
      simp only [Option.map_eq_some_iff] at h2
      obtain ⟨m, h3, rfl⟩ := h2
      obtain ⟨v, w, rfl, k1, k2⟩ := h1.d2
      cases (show w = .ty n from k2)
      refine call_isi pins s σ H _ us Q I r ⟨v, .ty n, .type m, .type n, isT m n, rfl, .ty n, tyX_den e k1 h3, kit_ty (kit_isT ?_ hn), q _ _ _ (.refl e) rfl⟩
      cases d0 <;> cases h3 <;> simp
    · cases h2
  · cases h2
/-- a built-in class as a value -/
theorem fo_ty {x : Str} {n : String} (hg : Gl X x) (hm : X.mg x = none) (hv : bootBuiltins x = some (.type n)) (hn : x ≠ "__name__" := by decide) (hdb : (x == ("__debug__" : Str)) = false := by decide) : PE X (.Name x pos) (tFO X.K mg W (eC (.ty n))) :=
  fo_c (pe_bltn hg hm hv (v := .ty n) rfl hn hdb) fun _ => rfl

/-! ### methods of built-in types -/
noncomputable def MtD (X : Cx) (id : String) (g : D → List D → Option D) : Prop :=
  MtR X id fun x xs H Q => ∃ Hs d ds e, Same Hs H ∧ Den1 X.K Hs H d x ∧ Den1L X.K Hs H ds xs ∧ g d ds = some e ∧ ∀ v Hs' H', Ext Hs H Hs' H' → Den X.K Hs' e v → Q v H'
noncomputable def D.isTy : String → D → Bool
  | "str", .str _ => true
  | "list", .lst _ => true
  | "list", .fz _ => true
  | _, _ => false
theorem tyV_den {K Hs H T d v} (e : Same Hs H) (h : Den1 K Hs H d v) (q : D.isTy T d = true) : tyV K T v H := by
  unfold D.isTy at q
  split at q
  · obtain ⟨rfl, _⟩ := h; rfl
  · obtain ⟨a, vs, rfl, h1, h2⟩ := h; exact .inl ⟨rfl, vs, SqL.lst h1⟩
  · obtain ⟨a, vs, rfl, h1, h2⟩ := h; exact .inl ⟨rfl, vs, e.seq h1⟩
  · cases q
noncomputable def eM (T : String) (g : D → List D → Option D) (fa : Env' → Res (RV × Env')) (fs : Env' → Res (List RV × Env')) : Env' → Res (RV × Env') := fun ρ =>
  (fa ρ).bind fun (r, ρ1) => (Res.of (look ρ1 r)).bind fun d0 => if D.isTy T d0 = true then (fs ρ1).bind fun (rs, ρ2) => (Res.of (look ρ2 r)).bind fun d => (Res.of (looks ρ2 rs)).bind fun ds => (Res.of (g d ds)).bind fun e => .ok (.leaf e, ρ2) else .bad
section
variable {T id : String} {name : Str} {apos cpos : Pos} {o e : Expr} {es : List Expr} {g : D → List D → Option D} {fs : Env' → Res (List RV × Env')}
theorem fo_m (pa : PlainAttrs T) (slot : Slot T name id) (hty : typeOf (.builtin id) = pure (.type "method_descriptor")) (hm : MtD X id g) (ho : PE X o (tFO X.K mg W fa)) (ha : PA X (e :: es) (tFA X.K mg W fs))
    (hbase : attributeBase o name X.env (eval o X.env) = eval o X.env := by rfl)
    (hfew : ((backTo cpos (starEach (e :: es) X.env)).all (fun x => !x.1) && (backToKw cpos (keywordEach [] X.env)).all (fun x => x.1.isSome)
      && decide ((e :: es).length + ([] : List Keyword).length + (if ([] : List Keyword).isEmpty then 0 else 1) < 30)) = true := by rfl)
    (hline : (apos.endLine == cpos.line) = true := by rfl) (hs : starEach (e :: es) X.env = (false, eval e X.env) :: starEach es X.env := by rfl) (hplain : (backTo cpos (starEach es X.env)).any (·.1) = false := by rfl) :
    PE X (.Call (.Attribute o name apos) (e :: es) [] cpos) (tFO X.K mg W (eM T g fa fs)) := by
  refine (pe_bm pa slot hty hm ho ha hbase hfew hline hs hplain).imp fun σ H Q ⟨G, ρ, ⟨Hs, fp, ok⟩, po⟩ => ?_
  refine goE ok po (fun _ _ h => h) (fun h => h) fun r1 ρ1 x H1 Hs1 fp1 ok1 dx po1 => ?_
  have ok1' := ok.back ok1
  cases e0 : look ρ1 r1 with
  | none => simp only [e0] at po1; exact po1.elim
  | some d0 =>
    simp only [e0, of_some, bind_ok] at po1
    split at po1
    · rename_i ht
      refine ⟨tyV_den ok1'.sh (look_den ok1' dx e0) ht, goA ok1' po1 (fun _ _ h => h) (fun h => h) fun rs ρ2 ys H2 Hs2 fp2 ok2 dy po2 => ?_⟩
      have ok2' := ok1'.back ok2
      have dx' : RVd X.K Hs2 σ r1 x := dx.mono ok2.base
      cases e1 : look ρ2 r1 with
      | none => simp only [e1] at po2; exact po2.elim
      | some d =>
        cases e2 : looks ρ2 rs with
        | none => simp only [e1, e2] at po2; exact po2.elim
        | some ds =>
          cases e3 : g d ds with
          | none => simp only [e1, e2, e3, of_some, bind_ok] at po2; exact po2.elim
          | some z =>
            simp only [e1, e2, e3, of_some, bind_ok] at po2
            exact ⟨Hs2, d, ds, z, ok2'.sh, look_den ok2' dx' e1, looks_den ok2' dy e2, e3, fun v Hs' H' ex dv => po2 v H' Hs' fp2 (ok2'.ext ex) dv⟩
    · exact po1.elim
end
noncomputable def D.lindex : D → List D → Option D
  | .lst ds, [d] => if d.flat = true ∧ ds.all D.flat = true then (ds.findIdx? fun z => D.eqb z d).map fun j => .int (j : Nat) else none
  | _, _ => none
theorem md_lindex : MtD X "list.index" D.lindex := by
  rintro pins s σ H x xs v us Q I rx rxs ⟨Hs, d, ds, e, hs, h1, h2, g, q⟩
  unfold D.lindex at g
  split at g
  · rename_i es d0
    split at g
    · rename_i hc
      simp only [Option.map_eq_some_iff] at g
      obtain ⟨j, hj, rfl⟩ := g
      obtain ⟨a, vs, rfl, k1, k2⟩ := h1
      obtain ⟨w, rfl, dw⟩ := h2.d1
      have dw' := dw.full hs
      have k3 := k2.mono hs
      obtain ⟨hlt, hp, hbefore⟩ := List.findIdx?_eq_some_iff_getElem.mp hj
      obtain ⟨z, hz, dz⟩ := k3.get (List.getElem?_eq_getElem hlt)
      have fl : ∀ z ∈ es, D.flat z = true := List.all_eq_true.mp hc.2
      refine mt_index pins s σ H _ _ v us Q I rx rxs ⟨a, vs, w, j, z, rfl, rfl, SqL.lst k1, flat_den dw' hc.1, flats_den k3 hc.2, hz, by rw [eqV_den dz dw' (fl _ (List.getElem_mem hlt)) hc.1]; exact hp, fun m z' hm hz' => ?_, q _ _ _ (.refl hs) rfl⟩
      have hml : m < es.length := by omega
      obtain ⟨z2, hz2, dz2⟩ := k3.get (List.getElem?_eq_getElem hml)
      rw [hz'] at hz2
      cases hz2
      rw [eqV_den dz2 dw' (fl _ (List.getElem_mem hml)) hc.1]
      simpa using hbefore m hm
    · cases g
  · cases g
noncomputable def D.sindex : D → List D → Option D
  | .str x, [.str y] => match Builtin.Str.occurrences x y 0 x.length 1 with
    | i :: _ => some (.int (i : Nat))
    | [] => none
  | _, _ => none
theorem md_sindex : MtD X "str.index" D.sindex := by
  rintro pins s σ H x xs v us Q I rx rxs ⟨Hs, d, ds, e, hs, h1, h2, g, q⟩
  unfold D.sindex at g
  split at g
  · split at g
    · rename_i i r ho
      cases g
      obtain ⟨rfl, _⟩ := h1
      obtain ⟨w, rfl, rfl, _⟩ := h2.d1
      exact mt_sindex pins s σ H _ _ v us Q I rx rxs ⟨_, _, i, r, rfl, rfl, ho, q _ _ _ (.refl hs) rfl⟩
    · cases g
  · cases g
noncomputable def D.scount : D → List D → Option D
  | .str x, [.str y] => some (.int (Txt.count x y))
  | _, _ => none
theorem md_scount : MtD X "str.count" D.scount := by
  rintro pins s σ H x xs v us Q I rx rxs ⟨Hs, d, ds, e, hs, h1, h2, g, q⟩
  unfold D.scount at g
  split at g
  · cases g
    obtain ⟨rfl, _⟩ := h1
    obtain ⟨w, rfl, rfl, _⟩ := h2.d1
    exact mt_count pins s σ H _ _ v us Q I rx rxs ⟨_, _, rfl, rfl, q _ _ _ (.refl hs) rfl⟩
  · cases g
end

/-! ### enumerate of a tuple, of a text -/
end FL
namespace PySem
open PySem.Spec AutoSeq1
theorem meets_enumerate_newT (l : Addr) (items : Array Value) (o : Obj) (hc : o.cls = .type "tuple") (n : Nat) (hd : o.data = .seq items n) :
    Meets (Builtin.«enumerate.__new__» ⟨[.type "enumerate", .ref l], []⟩) (fun _ R s => s.heap.get? l = some o ∧
      R (.ok (.ret (.ref (s.heap.push { cls := .type "tuple_iterator", data := .fields #[.ref l, .int 0 0] }).objs.size)))
        { s with heap := (s.heap.push { cls := .type "tuple_iterator", data := .fields #[.ref l, .int 0 0] }).push { cls := .type "enumerate", data := .fields #[.none, .bool false, .ref s.heap.objs.size, rawInt 0, .none, .none] } }) :=
  .of_wp fun prog w A R s h => by
    obtain ⟨hp, g, d, tk, os⟩ := s; obtain ⟨hl, h⟩ := h
    have hsub := sub_enumerate
    have hL : Heap.IsTuple (Shared.heap ⟨hp, g, d, tk, os⟩) l items := ⟨_, hl, hc, n, hd⟩
    wp_walk
    refine wpAny_stack_any fun st => wpAny_pure ?_
    split
    · rename_i c _ _ _ _ _
      cases (c == Value.type "enumerate")
      · wp_walk using wpAny_pyIter_tuple hL
        exact ⟨_, rfl, h⟩
      · wp_walk using wpAny_pyIter_tuple hL
        exact ⟨_, rfl, h⟩
    · wp_walk using wpAny_pyIter_tuple hL
      exact ⟨_, rfl, h⟩
end PySem
namespace PySem
open PySem.Spec AutoSeq1
section
variable {prog : Program} {w : World} {A : Around} {E : Value → Shared → Prop} {s : Shared}
theorem call_enumerate_tuple {l : Addr} {items : Array Value} {Q : Value → Shared → Prop} (hL : s.heap.IsTuple l items)
    (h : ∀ h', IsEnum h' (s.heap.objs.size + 1) s.heap.objs.size 0 .none → h'.IsTupleIter s.heap.objs.size l 0 → h'.objs.size = s.heap.objs.size + 2 →
      (∀ b o, s.heap.get? b = some o → h'.get? b = some o) → Q (.ref (s.heap.objs.size + 1)) { s with heap := h' }) :
    wpAny (model prog w) A (call (.type "enumerate") [.ref l]) Q E s := by
  obtain ⟨o, hl, hc, n, hd⟩ := hL
  refine callType_new F.called_enumerate (by decide) (F.typeCall_enumerate_1 _) (F.newCall_enumerate_1 _) (fun obj => F.args_object_init_2 obj _) F.entry_enumerate_new
    (meets_enumerate_newT l items o hc n hd) ⟨hl, ?_⟩
  have hz : (s.heap.push { cls := .type "tuple_iterator", data := .fields #[.ref l, .int 0 0] }).objs.size = s.heap.objs.size + 1 := Heap.size_push ..
  show _ ∧ _
  rw [hz]
  have he : IsEnum ((s.heap.push { cls := .type "tuple_iterator", data := .fields #[.ref l, .int 0 0] }).push
      { cls := .type "enumerate", data := .fields #[.none, .bool false, .ref s.heap.objs.size, rawInt 0, .none, .none] }) (s.heap.objs.size + 1) s.heap.objs.size 0 .none := by
    have := Heap.get?_push_size (s.heap.push { cls := .type "tuple_iterator", data := .fields #[.ref l, .int 0 0] })
      (o := { cls := .type "enumerate", data := .fields #[.none, .bool false, .ref s.heap.objs.size, rawInt 0, .none, .none] }) rfl
    rw [hz] at this; exact this
  refine ⟨⟨_, he, rfl⟩, h _ he ⟨_, Heap.get?_push_of_some _ (Heap.get?_push_size _ rfl), rfl, rfl⟩ (by rw [Heap.size_push, hz]) fun b o x => Heap.get?_push_of_some _ (Heap.get?_push_of_some _ x)⟩
theorem wpAny_pyNext_enum_endT {e it l : Addr} {i : Nat} {items : Array Value} {old : Value} {Q : Option Value → Shared → Prop} (hh : A.handled = none)
    (he : IsEnum s.heap e it i old) (hit : s.heap.IsTupleIter it l i) (hl : s.heap.IsTuple l items) (hx : items[i]? = none)
    (hQ : ∀ h', Heap.ExtBut it s.heap h' → Q none { s with heap := h' }) : wpAny (model prog w) A (pyNext (.ref e)) Q E s := by
  have hT : s.TypeIs (.ref e) "enumerate" := ⟨_, he, rfl⟩
  unfold pyNext
  refine wpAny_bind (wpAny_attempt (wpAny_callSpecial?_slot (name := Str.ofString "__next__") hT F.slot_enumerate_next
    (wpAny_call_entry F.slot_enumerate_next hT F.entry_enumerate_next ?_ (F.args_enumerate_next_1 _))))
  show wpAny _ _ (field (.ref e) 2 >>= _) _ _ _
  refine wpAny_bind (wpAny_field he rfl (x := .ref it) rfl ?_)
  refine wpAny_bind (wpAny_nextOf_tuple_end hh hit hl hx fun h' x he' hx' => ?_)
  obtain ⟨o, ho, hc⟩ := hx'
  refine wpAny_bind (wpAny_isInstance (T := "StopIteration") (b := true) ⟨o, ho, hc⟩ isSubtype_stop ?_)
  exact wpAny_pure (hQ _ he')
end
end PySem
namespace FL
open PySem PySem.Spec PyProof.Rows L2
noncomputable def ItEt (K : PySem.W.Frag) (a : Addr) : It :=
  ⟨fun i H => ∃ (xs : List V) (x : V), SqT K H a xs ∧ xs[i]? = some x, fun i H v H' => ∃ T x, v = .ref T ∧ H T = none ∧ H' = upd H T (.tup [.int (i : Nat), x]) ∧ ∀ xs, SqT K H a xs → xs[i]? = some x, fun i H => ∃ xs : List V, SqT K H a xs ∧ xs.length ≤ i⟩
theorem turn_enumT {P : Program} {w : World} {K : PySem.W.Frag} {elts : List Expr} {kk : Nat} {tpos : Pos} (a e it : Addr) :
    Turn P w K (.Tuple elts kk tpos) (ItEt K a) [e, it] e (fun i h => (∃ old, IsEnum h e it ((i : Nat) : Int) old) ∧ h.IsTupleIter it a i ∧ e ≠ it) where
  mem := by simp
  obj := fun i h st b hb => by
    obtain ⟨⟨old, he⟩, ⟨o, ho, hc, hd⟩, _⟩ := st
    have e' : b = e ∨ b = it := by simpa using hb
    rcases e' with z | z
    · rw [z]; exact ⟨_, he, fun v q => nomatch q⟩
    · rw [z]; exact ⟨o, ho, fun v q => by rw [hd] at q; cases q⟩
  keep := fun i h h' st k => let ⟨⟨old, he⟩, hi, hne⟩ := st; ⟨⟨old, k e (by simp) _ he⟩, hi.at fun o q => k it (by simp) o q, hne⟩
  item := by
    intro X hP hw hK hc i pins s σ H E I hf st hg
    subst hP hw hK
    obtain ⟨⟨old, he⟩, hit, hne⟩ := st
    obtain ⟨xs, x, hq, hx⟩ := hg
    obtain ⟨its, rv, p, hz⟩ := I.tuple hq
    obtain ⟨u, hu, ru⟩ := rv.get hx
    have hel : e < s.heap.objs.size := Heap.lt_size he
    have hil : it < s.heap.objs.size := by obtain ⟨_, q, _⟩ := hit; exact Heap.lt_size q
    have pt : s.heap.IsTuple a its.toArray := p
    have hai : a ≠ it := fun z => by
      obtain ⟨o1, q1, c1, _⟩ := pt
      obtain ⟨o2, q2, c2, _⟩ := hit
      rw [z, q2] at q1
      cases q1
      rw [c2] at c1
      exact absurd c1 (by simp)
    have hae : e ≠ a := fun z => by
      obtain ⟨o1, q1, c1, _⟩ := pt
      rw [← z, show s.heap.get? e = _ from he] at q1
      cases q1
      exact absurd c1 (by simp)
    refine wpAny_pyNext_enum_itemD (Draws.tuple (A := X.A.in1) (I.ok.hd hc) it a hai its.toArray) he ⟨hit, pt⟩ (by
      have := (List.getElem?_eq_some_iff.mp hu).1
      simpa using this) hne (by simp [hne, hae]) fun u' h' tk hP ho hit' hT hsz hk => ?_
    have eu : u' = u := by
      have : its[i]? = some u' := by simpa using hP
      rw [hu] at this
      exact (Option.some.inj this).symm
    subst eu
    refine ⟨_, rfl, wpAny_letOwnedTupleGo_enum (s := { s with heap := h', toks := tk + 1 }) ho fun h'' he' sb => ?_⟩
    have hT2 : h''.get? s.heap.objs.size = some { cls := .type "tuple", data := .seq #[.int i tk, u'] } := (sb.2 _ (Nat.ne_of_gt hel)).trans hT
    have new : ObjOk X.prog X.w (upd H s.heap.objs.size (.tup [.int (i : Nat), x])) h'' s.heap.objs.size (.tup [.int (i : Nat), x]) :=
      ⟨by show 2 ≤ sizeLine; decide, [.int i tk, u'], .cons ⟨_, rfl⟩ (.cons ru .nil), ⟨_, hT2, rfl, _, rfl⟩⟩
    have I1 : Inv X pins σ (upd H s.heap.objs.size (.tup [.int (i : Nat), x])) { s with heap := h'', toks := tk + 1 } :=
      I.turnedNew (ch := [e, it]) (fun b ob hb q => (sb.2 b (fun z => hb (by simp [z]))).trans (hk b ob (fun z => hb (by simp [z])) (fun z => hb (by simp [z])) q)) hf (Nat.le_refl _) new
    refine ⟨.ref s.heap.objs.size, _, I1, rfl, ⟨_, x, rfl, I.hok.fresh (Nat.le_refl _), rfl, fun ys hy => by rw [I.tuple_inj hy hq]; exact hx⟩, ⟨⟨u', ?_⟩, hit'.1.at fun o q => (sb.2 it (Ne.symm hne)).trans q, hne⟩, fun b hb => ?_⟩
    · have e1 : ((i + 1 : Nat) : Int) = (i : Int) + 1 := by omega
      rw [e1]; exact he'
    · have hb' : b < s.heap.objs.size := by
        have e' : b = e ∨ b = it := by simpa using hb
        rcases e' with z | z
        · rw [z]; exact hel
        · rw [z]; exact hil
      rw [upd_ne (Nat.ne_of_lt hb')]
      exact (hf b hb).1
  done := by
    intro X hP hw hK hc i pins s σ H E I hf st hg
    subst hP hw hK
    obtain ⟨⟨old, he⟩, hit, hne⟩ := st
    obtain ⟨xs, hq, hx⟩ := hg
    obtain ⟨its, rv, p, hz⟩ := I.tuple hq
    have pt : s.heap.IsTuple a its.toArray := p
    have hai : a ≠ it := fun z => by
      obtain ⟨o1, q1, c1, _⟩ := pt
      obtain ⟨o2, q2, c2, _⟩ := hit
      rw [z, q2] at q1
      cases q1
      rw [c2] at c1
      exact absurd c1 (by simp)
    obtain ⟨f0, f1, f2, f3, f4, f5⟩ := hf it (by simp)
    have hl := rv.length
    refine wpAny_pyNext_enum_endT (I.ok.hd hc) he hit pt (by simp; omega) fun h' eb => ⟨rfl, I.turned (t' := s.toks) (fun b o hb q => eb b o hb q) f0 f1 f3 f4 f5⟩
  self := fun A i s Q E st h => let ⟨⟨_, he⟩, _⟩ := st; wpAny_pyIter_enum he h
noncomputable def iEnumT (K : PySem.W.Frag) (ta : TA) : TI := fun σ H R => ta σ H fun vs H1 => ∃ a xs, vs = [.ref a] ∧ SqT K H1 a xs ∧ R (ItEt K a) H1
theorem pi_enumT {X : Cx} {e : Expr} {ta : TA} {p pos tpos : Pos} {elts : List Expr} {kk : Nat} (hg : Gl X "enumerate") (hm : X.mg "enumerate" = none) (ha : PA X [e] ta) (hs : starEach [e] X.env = [(false, eval e X.env)] := by rfl) :
    PI X (.Tuple elts kk tpos) (.Call (.Name "enumerate" p) [e] [] pos) (iEnumT X.K ta) := by
  refine ⟨fun pins s σ H R I h => ?_⟩
  refine Call_ (ld_blt I hg hm boot_enumerate (PyProof.Rows.callWith_type1 (thn (ha.run pos pins s σ H _ I h) fun us s1 ⟨vs, H1, I1, r1, q1⟩ => ?_) hs rfl))
  obtain ⟨a, xs, ex, hq, q⟩ := q1
  subst ex
  cases r1 with
  | cons r rr =>
    cases rr
    cases r
    obtain ⟨its, rv, p', hz⟩ := I1.tuple hq
    refine call_enumerate_tuple (items := its.toArray) p' fun h' he hit hsz hk => wpAny_pyIter_enum he ?_
    have I2 : Inv X pins σ H1 { s1 with heap := h' } := I1.kept (t' := s1.toks) hk
    refine ⟨s1.heap.objs.size + 1, [s1.heap.objs.size + 1, s1.heap.objs.size], _, _, H1, rfl, I2, turn_enumT a (s1.heap.objs.size + 1) s1.heap.objs.size, ⟨⟨.none, he⟩, hit, Nat.succ_ne_self _⟩, fun b hb => ?_, q⟩
    have e' : b = s1.heap.objs.size + 1 ∨ b = s1.heap.objs.size := by simpa using hb
    have hle : s1.heap.objs.size ≤ b := by
      rcases e' with z | z
      · rw [z]; exact Nat.le_add_right _ _
      · rw [z]; exact Nat.le_refl _
    exact I1.fpOk hle (I1.hok.fresh hle)
/-- a text's signs with their numbers -/
noncomputable def ItEs (x : Str) : It := ⟨fun i _ => i < x.cps.size, fun i H v H' => ∃ T c, v = .ref T ∧ H T = none ∧ H' = upd H T (.tup [.int (i : Nat), .str ⟨#[c]⟩]) ∧ x.cps[i]? = some c, fun i _ => x.cps.size ≤ i⟩
theorem turn_enumS {P : Program} {w : World} {K : PySem.W.Frag} {elts : List Expr} {kk : Nat} {tpos : Pos} (x : Str) (t : Tok) (e it : Addr) :
    Turn P w K (.Tuple elts kk tpos) (ItEs x) [e, it] e (fun i h => (∃ old, IsEnum h e it ((i : Nat) : Int) old) ∧ h.IsStrIter it (strIterType x) x t i ∧ e ≠ it) where
  mem := by simp
  obj := fun i h st b hb => by
    obtain ⟨⟨old, he⟩, ⟨o, ho, hc, hd⟩, _⟩ := st
    have e' : b = e ∨ b = it := by simpa using hb
    rcases e' with z | z
    · rw [z]; exact ⟨_, he, fun v q => nomatch q⟩
    · rw [z]; exact ⟨o, ho, fun v q => by rw [hd] at q; cases q⟩
  keep := fun i h h' st k => let ⟨⟨old, he⟩, ⟨o, ho, r⟩, hne⟩ := st; ⟨⟨old, k e (by simp) _ he⟩, ⟨o, k it (by simp) o ho, r⟩, hne⟩
  item := by
    intro X hP hw hK hc i pins s σ H E I hf st hg
    subst hP hw hK
    obtain ⟨⟨old, he⟩, hit, hne⟩ := st
    have hel : e < s.heap.objs.size := Heap.lt_size he
    have hil : it < s.heap.objs.size := by obtain ⟨_, q, _⟩ := hit; exact Heap.lt_size q
    refine wpAny_pyNext_enum_itemD (Draws.text (A := X.A.in1) (I.ok.hd hc) it x t) he hit hg hne (by simp [hne]) fun u' h' tk hP ho hit' hT hsz hk => ?_
    obtain ⟨c, u, hcx, rfl⟩ := hP
    refine ⟨_, rfl, wpAny_letOwnedTupleGo_enum (s := { s with heap := h', toks := tk + 1 }) ho fun h'' he' sb => ?_⟩
    have hT2 : h''.get? s.heap.objs.size = some { cls := .type "tuple", data := .seq #[.int i tk, .str ⟨#[c]⟩ u] } := (sb.2 _ (Nat.ne_of_gt hel)).trans hT
    have new : ObjOk X.prog X.w (upd H s.heap.objs.size (.tup [.int (i : Nat), .str ⟨#[c]⟩])) h'' s.heap.objs.size (.tup [.int (i : Nat), .str ⟨#[c]⟩]) :=
      ⟨by show 2 ≤ sizeLine; decide, [.int i tk, .str ⟨#[c]⟩ u], .cons ⟨_, rfl⟩ (.cons ⟨_, rfl⟩ .nil), ⟨_, hT2, rfl, _, rfl⟩⟩
    have I1 : Inv X pins σ (upd H s.heap.objs.size (.tup [.int (i : Nat), .str ⟨#[c]⟩])) { s with heap := h'', toks := tk + 1 } :=
      I.turnedNew (ch := [e, it]) (fun b ob hb q => (sb.2 b (fun z => hb (by simp [z]))).trans (hk b ob (fun z => hb (by simp [z])) (fun z => hb (by simp [z])) q)) hf (Nat.le_refl _) new
    refine ⟨.ref s.heap.objs.size, _, I1, rfl, ⟨_, c, rfl, I.hok.fresh (Nat.le_refl _), rfl, hcx⟩, ⟨⟨.str ⟨#[c]⟩ u, ?_⟩, ?_, hne⟩, fun b hb => ?_⟩
    · have e1 : ((i + 1 : Nat) : Int) = (i : Int) + 1 := by omega
      rw [e1]; exact he'
    · obtain ⟨o, ho, r⟩ := hit'
      exact ⟨o, (sb.2 it (Ne.symm hne)).trans ho, r⟩
    · have hb' : b < s.heap.objs.size := by
        have e' : b = e ∨ b = it := by simpa using hb
        rcases e' with z | z
        · rw [z]; exact hel
        · rw [z]; exact hil
      rw [upd_ne (Nat.ne_of_lt hb')]
      exact (hf b hb).1
  done := by
    intro X hP hw hK hc i pins s σ H E I hf st hg
    subst hP hw hK
    obtain ⟨⟨old, he⟩, hit, hne⟩ := st
    obtain ⟨f0, f1, f2, f3, f4, f5⟩ := hf it (by simp)
    have hlt : it < s.heap.objs.size := by obtain ⟨_, q, _⟩ := hit; exact Heap.lt_size q
    have D := Draws.text (prog := X.prog) (w := X.w) (A := X.A.in1) (I.ok.hd hc) it x t
    have hi : i = x.cps.size ∨ x.cps.size < i := by
      have : x.cps.size ≤ i := hg
      omega
    have D' : Draws X.prog X.w X.A.in1 it [it] i (fun i v => ∃ c u, x.cps[i]? = some c ∧ v = .str ⟨#[c]⟩ u ∧ False) (fun j h => j = i ∧ h.IsStrIter it (strIterType x) x t i) := by
      refine ⟨fun _ _ st => let ⟨_, o, ho, _⟩ := st; ⟨o, ho⟩, fun _ _ _ st hk => let ⟨e1, o, ho, r⟩ := st; ⟨e1, o, hk it (by simp) o ho, r⟩, fun j s Q E hj st => absurd st.1 (Nat.ne_of_lt hj), fun s Q E st hE => ?_⟩
      have hx : x.cps[i]? = none := Array.getElem?_eq_none hg
      have st2 := st.2
      cases ha : x.cps.all (· < 128)
      · simp only [strIterType, ha, Bool.false_eq_true, if_false] at st2
        exact wpAny_nextOf_wide_end (I.ok.hd hc) st2 hx hE
      · simp only [strIterType, ha, if_true] at st2
        exact wpAny_nextOf_ascii_end (I.ok.hd hc) st2 hx hE
    exact wpAny_pyNext_enum_endD D' he ⟨rfl, hit⟩ fun h' eb => ⟨rfl, I.turned (t' := s.toks) (fun b o hb q => eb b o hb q) f0 f1 f3 f4 f5⟩
  self := fun A i s Q E st h => let ⟨⟨_, he⟩, _⟩ := st; wpAny_pyIter_enum he h
noncomputable def iEnumS (ta : TA) : TI := fun σ H R => ta σ H fun vs H1 => ∃ x, vs = [.str x] ∧ R (ItEs x) H1
theorem pi_enumS {X : Cx} {e : Expr} {ta : TA} {p pos tpos : Pos} {elts : List Expr} {kk : Nat} (hg : Gl X "enumerate") (hm : X.mg "enumerate" = none) (ha : PA X [e] ta) (hs : starEach [e] X.env = [(false, eval e X.env)] := by rfl) :
    PI X (.Tuple elts kk tpos) (.Call (.Name "enumerate" p) [e] [] pos) (iEnumS ta) := by
  refine ⟨fun pins s σ H R I h => ?_⟩
  refine Call_ (ld_blt I hg hm boot_enumerate (PyProof.Rows.callWith_type1 (thn (ha.run pos pins s σ H _ I h) fun us s1 ⟨vs, H1, I1, r1, q1⟩ => ?_) hs rfl))
  obtain ⟨x, ex, q⟩ := q1
  subst ex
  cases r1 with
  | cons r rr =>
    cases rr
    obtain ⟨t, rfl⟩ := r
    refine call_enumerate_str (x := x) (t := t) fun h' he hit hsz hk => wpAny_pyIter_enum he ?_
    have I2 : Inv X pins σ H1 { s1 with heap := h' } := I1.kept (t' := s1.toks) hk
    refine ⟨s1.heap.objs.size + 1, [s1.heap.objs.size + 1, s1.heap.objs.size], _, _, H1, rfl, I2, turn_enumS x t (s1.heap.objs.size + 1) s1.heap.objs.size, ⟨⟨.none, he⟩, hit, Nat.succ_ne_self _⟩, fun b hb => ?_, q⟩
    have e' : b = s1.heap.objs.size + 1 ∨ b = s1.heap.objs.size := by simpa using hb
    have hle : s1.heap.objs.size ≤ b := by
      rcases e' with z | z
      · rw [z]; exact Nat.le_add_right _ _
      · rw [z]; exact Nat.le_refl _
    exact I1.fpOk hle (I1.hok.fresh hle)
noncomputable def enumFrom : Nat → List D → List D
  | _, [] => []
  | n, d :: ds => .tup [.int (n : Nat), d] :: enumFrom (n + 1) ds
theorem enumFrom_length : ∀ (n : Nat) (ds : List D), (enumFrom n ds).length = ds.length
  | _, [] => rfl
  | n, d :: ds => by simp [enumFrom, enumFrom_length (n + 1) ds]
theorem enumFrom_get : ∀ (n : Nat) (ds : List D) (i : Nat), (enumFrom n ds)[i]? = ds[i]?.map fun d => .tup [.int ((n + i : Nat) : Int), d]
  | n, [], i => by simp [enumFrom]
  | n, d :: ds, 0 => by simp [enumFrom]
  | n, d :: ds, i + 1 => by
    simp only [enumFrom, List.getElem?_cons_succ, enumFrom_get (n + 1) ds i]
    congr 2
    funext d
    congr 3
    omega
/-- a new pair of shared things -/
theorem ext_pair {K Hs H T i x d} (e : Same Hs H) (hT : H T = none) (dx : Den K Hs d x) : Ext Hs H (upd Hs T (.tup [.int i, x])) (upd H T (.tup [.int i, x])) ∧ Den K (upd Hs T (.tup [.int i, x])) (.tup [.int i, d]) (.ref T) := by
  have ex := Ext.new (o := .tup [.int i, x]) e hT
  exact ⟨ex, T, _, rfl, upd_same, .int i, [x], rfl, rfl, x, [], rfl, dx.mono ex.s, rfl⟩
theorem iter_enumL {K Hs a vs ds} (h : SqL K Hs a vs) (hd : DenL K Hs ds vs) : IterOf K (Ite K a) (enumFrom 0 ds) Hs := fun i Hs1 H e1 e2 => by
  have s1 := e2.seq (e1.seq h)
  have l := hd.length
  rw [enumFrom_length]
  refine ⟨fun hi => ?_, fun hi => ⟨vs, s1, by omega⟩⟩
  obtain ⟨v, hv, dv⟩ := (hd.mono e1).get (List.getElem?_eq_getElem hi)
  refine ⟨⟨vs, v, s1, hv⟩, fun x H' ⟨T, y, ex, hT, eH, q⟩ => ?_⟩
  have := q vs s1
  rw [hv] at this
  cases this
  subst ex; subst eH
  obtain ⟨k1, k2⟩ := ext_pair (i := (i : Nat)) e2 hT dv
  refine ⟨_, k1, fun d hd => ?_⟩
  rw [enumFrom_get, List.getElem?_eq_getElem hi] at hd
  simp only [Option.map_some, Nat.zero_add, Option.some.injEq] at hd
  subst hd
  exact k2
theorem iter_enumT {K Hs a vs ds} (h : SqT K Hs a vs) (hd : DenL K Hs ds vs) : IterOf K (ItEt K a) (enumFrom 0 ds) Hs := fun i Hs1 H e1 e2 => by
  have s1 := e2.seqT (e1.seqT h)
  have l := hd.length
  rw [enumFrom_length]
  refine ⟨fun hi => ?_, fun hi => ⟨vs, s1, by omega⟩⟩
  obtain ⟨v, hv, dv⟩ := (hd.mono e1).get (List.getElem?_eq_getElem hi)
  refine ⟨⟨vs, v, s1, hv⟩, fun x H' ⟨T, y, ex, hT, eH, q⟩ => ?_⟩
  have := q vs s1
  rw [hv] at this
  cases this
  subst ex; subst eH
  obtain ⟨k1, k2⟩ := ext_pair (i := (i : Nat)) e2 hT dv
  refine ⟨_, k1, fun d hd => ?_⟩
  rw [enumFrom_get, List.getElem?_eq_getElem hi] at hd
  simp only [Option.map_some, Nat.zero_add, Option.some.injEq] at hd
  subst hd
  exact k2
theorem iter_enumS {K Hs x} (h : sOk x) : IterOf K (ItEs x) (enumFrom 0 (signs x)) Hs := fun i Hs1 H e1 e2 => by
  have l : (signs x).length = x.cps.size := by simp [signs]
  rw [enumFrom_length]
  refine ⟨fun hi => ⟨by show i < x.cps.size; omega, fun v H' ⟨T, c, ev, hT, eH, hc⟩ => ?_⟩, fun hi => by show x.cps.size ≤ i; omega⟩
  subst ev; subst eH
  have hc' : x.cps.toList[i]? = some c := by simpa using hc
  obtain ⟨k1, k2⟩ := ext_pair (K := K) (i := (i : Nat)) (d := .str ⟨#[c]⟩) e2 hT ⟨rfl, sOk_sign h (List.mem_of_getElem? hc')⟩
  refine ⟨_, k1, fun d hd => ?_⟩
  rw [enumFrom_get] at hd
  simp only [signs, List.getElem?_map, hc', Option.map_some, Option.some.injEq, Nat.zero_add] at hd
  subst hd
  exact k2
section
variable {X : Cx} {mg : Str → Option Value} {W : WX} {a : Expr} {fa : Env' → Res (RV × Env')} {pos p tpos : Pos}
noncomputable def iEnum (fa : Env' → Res (RV × Env')) : Env' → Res (List D × Env') := fun ρ => (aConsE fa aNil ρ).bind fun (rs, ρ1) => match rs with
  | [.leaf d] => (Res.of d.walk).bind fun ds => .ok (enumFrom 0 ds, ρ1)
  | _ => .bad
theorem fi_enum {elts : List Expr} {kk : Nat} (hg : Gl X "enumerate") (hm : X.mg "enumerate" = none) (ha : PE X a (tFO X.K mg W fa)) (hs : starEach [a] X.env = [(false, eval a X.env)] := by rfl) (hs' : starEach (a :: []) X.env = (false, eval a X.env) :: starEach [] X.env := by rfl) :
    PI X (.Tuple elts kk tpos) (.Call (.Name "enumerate" p) [a] [] pos) (tFI X.K mg W (iEnum fa)) := by
  have pa : PA X [a] (tFA X.K mg W (aConsE fa aNil)) := fa_consE ha fa_nil hs'
  refine ((pi_enum hg hm pa hs).or ((pi_enumT hg hm pa hs).or (pi_enumS hg hm pa hs))).imp fun σ H R ⟨G, ρ, ⟨Hs, fp, ok⟩, po⟩ => ?_
  unfold iEnum at po
  cases e0 : aConsE fa aNil ρ with
  | exc c ρ' => exact .inl ⟨_, ρ, ⟨Hs, fp, ok.self⟩, by rw [e0] at po ⊢; exact fun H' C hc o => po H' C hc (Ok.back ok o)⟩
  | bad => rw [e0] at po; exact po.elim
  | ok q =>
    obtain ⟨rs, ρ1⟩ := q
    rw [e0] at po
    simp only [bind_ok] at po
    split at po
    · rename_i d
      cases d with
      | lst ds =>
        refine .inl ⟨_, ρ, ⟨Hs, fp, ok.self⟩, ?_⟩
        rw [e0]
        intro vs H1 Hs1 fp1 ok1 ⟨v, ws, ev, dv, ew⟩
        subst ev
        cases ew
        obtain ⟨l, us, rfl, k1, k2⟩ := dv
        exact ⟨l, us, rfl, SqL.lst (ok1.sh _ _ k1), po _ _ _ _ (ok.back ok1) (iter_enumL (SqL.lst k1) k2)⟩
      | fz ds =>
        refine .inl ⟨_, ρ, ⟨Hs, fp, ok.self⟩, ?_⟩
        rw [e0]
        intro vs H1 Hs1 fp1 ok1 ⟨v, ws, ev, dv, ew⟩
        subst ev
        cases ew
        obtain ⟨l, us, rfl, k1, k2⟩ := dv
        exact ⟨l, us, rfl, ok1.sh.seq k1, po _ _ _ _ (ok.back ok1) (iter_enumL k1 k2)⟩
      | tup ds =>
        refine .inr (.inl ⟨_, ρ, ⟨Hs, fp, ok.self⟩, ?_⟩)
        rw [e0]
        intro vs H1 Hs1 fp1 ok1 ⟨v, ws, ev, dv, ew⟩
        subst ev
        cases ew
        obtain ⟨l, us, rfl, k1, k2⟩ := dv
        exact ⟨l, us, rfl, SqT.of (ok1.sh _ _ k1), po _ _ _ _ (ok.back ok1) (iter_enumT (SqT.of k1) k2)⟩
      | ftup ds =>
        refine .inr (.inl ⟨_, ρ, ⟨Hs, fp, ok.self⟩, ?_⟩)
        rw [e0]
        intro vs H1 Hs1 fp1 ok1 ⟨v, ws, ev, dv, ew⟩
        subst ev
        cases ew
        obtain ⟨l, us, rfl, k1, k2⟩ := dv
        exact ⟨l, us, rfl, ok1.sh.seqT k1, po _ _ _ _ (ok.back ok1) (iter_enumT k1 k2)⟩
      | str z =>
        refine .inr (.inr ⟨_, ρ, ⟨Hs, fp, ok.self⟩, ?_⟩)
        rw [e0]
        intro vs H1 Hs1 fp1 ok1 ⟨v, ws, ev, dv, ew⟩
        subst ev
        cases ew
        obtain ⟨rfl, k⟩ := dv
        exact ⟨z, rfl, po _ _ _ _ (ok.back ok1) (iter_enumS k)⟩
      | _ => exact po.elim
    · exact po.elim
end
/-! ### what a printed walk uses -/
/-- a constant of the module -/
noncomputable def GC (K : PySem.W.Frag) (mg : Str → Option Value) (x : Str) (d : D) : Prop := ∃ v u, mg x = some u ∧ RelV v u ∧ ∀ H, Den K H d v
theorem fo_gc {X : Cx} {mg : Str → Option Value} {W : WX} {x : Str} {d : D} {pos : Pos} (hg : Gl X x) (h : GC X.K X.mg x d) (hdb : (x == ("__debug__" : Str)) = false := by decide) : PE X (.Name x pos) (tFO X.K mg W (eC d)) := by
  obtain ⟨v, u, h1, h2, h3⟩ := h
  exact fo_glob hg h1 h2 h3 hdb
theorem u65 {k : Nat} {A : Around} (r : Room k A) : A.units + 65 < cLine := by have := r.un; omega
theorem alen_nil : ∀ (ρ : Env') (rs : List RV) (ρ' : Env'), aNil ρ = .ok (rs, ρ') → rs.length = 0 := fun ρ rs ρ' h => by
  cases h; rfl
theorem alen_cons {n : Nat} {fa : Env' → Res (RV × Env')} {fr : Env' → Res (List RV × Env')} (h : ∀ ρ rs ρ', fr ρ = .ok (rs, ρ') → rs.length = n) : ∀ (ρ : Env') (rs : List RV) (ρ' : Env'), aConsE fa fr ρ = .ok (rs, ρ') → rs.length = n + 1 := fun ρ rs ρ' e => by
  unfold aConsE at e
  cases e1 : fa ρ with
  | exc c r => rw [e1] at e; cases e
  | bad => rw [e1] at e; cases e
  | ok p =>
    obtain ⟨r, ρ1⟩ := p
    rw [e1] at e
    simp only [bind_ok] at e
    cases e2 : esc ρ1 r with
    | none => rw [e2] at e; cases e
    | some q =>
      obtain ⟨d, ρ2⟩ := q
      rw [e2] at e
      simp only [of_some, bind_ok] at e
      cases e3 : fr ρ2 with
      | exc c r => rw [e3] at e; cases e
      | bad => rw [e3] at e; cases e
      | ok q =>
        obtain ⟨rs', ρ3⟩ := q
        rw [e3] at e
        cases e
        simp [h _ _ _ e3]
end FL

namespace FL
open PySem PySem.Spec PyProof.Rows L2
/-! ### what the top has written -/
def DI (K : PySem.W.Frag) (x : Str) (st : Stmt) : Prop := ∃ f fd, PySem.W.nsIn K mainGlobals x = some (some (.ref f)) ∧ Fun K x x st f fd
theorem di_mk {K : PySem.W.Frag} {x : Str} {st : Stmt} {f : Addr} {oc : Value} {od an : Option Addr} {osl : Array (Option Value)} {kV doc pm cdv ct : Value} (a : PySem.W.nsIn K mainGlobals x = some (some (.ref f)))
    (l : K.lookup f = some ⟨oc, od, .func (PySem.W.fnOf x x (defArgs st) (defBody st) (defScope st) .none kV doc pm an cdv ct), osl⟩) (c : PySem.W.codeIn K cdv x = true) (k : PySem.W.keepIn K (.ref f) = true) : DI K x st := ⟨f, _, a, fun_mk l c k⟩
def XI (K : PySem.W.Frag) (x : Str) : Prop := ∃ C, PySem.W.nsIn K mainGlobals x = some (some (.ref C)) ∧ PySem.W.excIn K C [.type "ValueError", .type "Exception", .type "BaseException", .type "object"] "ValueError.__new__" = true ∧ PySem.W.keepIn K (.ref C) = true ∧
  PySem.W.subIn K (.ref C) (.type "BaseException") = some true ∧ PySem.W.typeIn K (.ref C) = some (.type "type")
theorem xi_mk {K : PySem.W.Frag} {x : Str} {C : Addr} (a : PySem.W.nsIn K mainGlobals x = some (some (.ref C))) (q : PySem.W.excIn K C [.type "ValueError", .type "Exception", .type "BaseException", .type "object"] "ValueError.__new__" = true) (k : PySem.W.keepIn K (.ref C) = true)
    (b : PySem.W.subIn K (.ref C) (.type "BaseException") = some true) (t : PySem.W.typeIn K (.ref C) = some (.type "type")) : XI K x := ⟨C, a, q, k, b, t⟩
def GI (K : PySem.W.Frag) (x : Str) (d : D) : Prop := ∃ v u, PySem.W.nsIn K mainGlobals x = some (some u) ∧ RelV v u ∧ ∀ H, Den K H d v
theorem gi_str {K : PySem.W.Frag} {x s : Str} {t : Tok} (a : PySem.W.nsIn K mainGlobals x = some (some (.str s t))) (h : sOk s := by decide +kernel) : GI K x (.str s) := ⟨.str s, _, a, ⟨t, rfl⟩, fun _ => ⟨rfl, h⟩⟩
theorem gi_int {K : PySem.W.Frag} {x : Str} {i : Int} {t : Tok} (a : PySem.W.nsIn K mainGlobals x = some (some (.int i t))) : GI K x (.int i) := ⟨.int i, _, a, ⟨t, rfl⟩, fun _ => rfl⟩
theorem gi_tup {K : PySem.W.Frag} {x : Str} {a : Addr} {od : Option Addr} {its : Array Value} {n : Nat} {sl : Array (Option Value)} {ds : List D} {vs : List V} (e : PySem.W.nsIn K mainGlobals x = some (some (.ref a))) (l : K.lookup a = some ⟨.type "tuple", od, .seq its n, sl⟩)
    (h1 : Vals vs its.toList) (h2 : ∀ H, DenL K H ds vs) (h3 : its.size ≤ sizeLine) : GI K x (.ftup ds) := ⟨.ref a, _, e, rfl, fun H => ⟨a, vs, rfl, .inr ⟨_, its, n, l, rfl, rfl, h3, h1⟩, h2 H⟩⟩
theorem gi_tup4 {K : PySem.W.Frag} {x s1 s2 s3 s4 : Str} {a : Addr} {od : Option Addr} {t1 t2 t3 t4 : Tok} {n : Nat} {sl : Array (Option Value)} (e : PySem.W.nsIn K mainGlobals x = some (some (.ref a))) (l : K.lookup a = some ⟨.type "tuple", od, .seq #[.str s1 t1, .str s2 t2, .str s3 t3, .str s4 t4] n, sl⟩)
    (h : sOk s1 ∧ sOk s2 ∧ sOk s3 ∧ sOk s4 := by decide +kernel) : GI K x (.ftup [.str s1, .str s2, .str s3, .str s4]) :=
  gi_tup (vs := [.str s1, .str s2, .str s3, .str s4]) e l (.cons ⟨_, rfl⟩ (.cons ⟨_, rfl⟩ (.cons ⟨_, rfl⟩ (.cons ⟨_, rfl⟩ .nil)))) (fun H => ⟨_, _, rfl, ⟨rfl, h.1⟩, _, _, rfl, ⟨rfl, h.2.1⟩, _, _, rfl, ⟨rfl, h.2.2.1⟩, _, _, rfl, ⟨rfl, h.2.2.2⟩, rfl⟩) (show (4:Nat) ≤ sizeLine by decide)
theorem gi_tup1 {K : PySem.W.Frag} {x s1 : Str} {a : Addr} {od : Option Addr} {t1 : Tok} {n : Nat} {sl : Array (Option Value)} (e : PySem.W.nsIn K mainGlobals x = some (some (.ref a))) (l : K.lookup a = some ⟨.type "tuple", od, .seq #[.str s1 t1] n, sl⟩)
    (h : sOk s1 := by decide +kernel) : GI K x (.ftup [.str s1]) :=
  gi_tup (vs := [.str s1]) e l (.cons ⟨_, rfl⟩ .nil) (fun H => ⟨_, _, rfl, ⟨rfl, h⟩, rfl⟩) (show (1:Nat) ≤ sizeLine by decide)
theorem gi_tup2 {K : PySem.W.Frag} {x s1 s2 : Str} {a : Addr} {od : Option Addr} {t1 t2 : Tok} {n : Nat} {sl : Array (Option Value)} (e : PySem.W.nsIn K mainGlobals x = some (some (.ref a))) (l : K.lookup a = some ⟨.type "tuple", od, .seq #[.str s1 t1, .str s2 t2] n, sl⟩)
    (h : sOk s1 ∧ sOk s2 := by decide +kernel) : GI K x (.ftup [.str s1, .str s2]) :=
  gi_tup (vs := [.str s1, .str s2]) e l (.cons ⟨_, rfl⟩ (.cons ⟨_, rfl⟩ .nil)) (fun H => ⟨_, _, rfl, ⟨rfl, h.1⟩, _, _, rfl, ⟨rfl, h.2⟩, rfl⟩) (show (2:Nat) ≤ sizeLine by decide)
theorem gi_tup3 {K : PySem.W.Frag} {x s1 s2 s3 : Str} {a : Addr} {od : Option Addr} {t1 t2 t3 : Tok} {n : Nat} {sl : Array (Option Value)} (e : PySem.W.nsIn K mainGlobals x = some (some (.ref a))) (l : K.lookup a = some ⟨.type "tuple", od, .seq #[.str s1 t1, .str s2 t2, .str s3 t3] n, sl⟩)
    (h : sOk s1 ∧ sOk s2 ∧ sOk s3 := by decide +kernel) : GI K x (.ftup [.str s1, .str s2, .str s3]) :=
  gi_tup (vs := [.str s1, .str s2, .str s3]) e l (.cons ⟨_, rfl⟩ (.cons ⟨_, rfl⟩ (.cons ⟨_, rfl⟩ .nil))) (fun H => ⟨_, _, rfl, ⟨rfl, h.1⟩, _, _, rfl, ⟨rfl, h.2.1⟩, _, _, rfl, ⟨rfl, h.2.2⟩, rfl⟩) (show (3:Nat) ≤ sizeLine by decide)
theorem gi_tup5 {K : PySem.W.Frag} {x s1 s2 s3 s4 s5 : Str} {a : Addr} {od : Option Addr} {t1 t2 t3 t4 t5 : Tok} {n : Nat} {sl : Array (Option Value)} (e : PySem.W.nsIn K mainGlobals x = some (some (.ref a))) (l : K.lookup a = some ⟨.type "tuple", od, .seq #[.str s1 t1, .str s2 t2, .str s3 t3, .str s4 t4, .str s5 t5] n, sl⟩)
    (h : sOk s1 ∧ sOk s2 ∧ sOk s3 ∧ sOk s4 ∧ sOk s5 := by decide +kernel) : GI K x (.ftup [.str s1, .str s2, .str s3, .str s4, .str s5]) :=
  gi_tup (vs := [.str s1, .str s2, .str s3, .str s4, .str s5]) e l (.cons ⟨_, rfl⟩ (.cons ⟨_, rfl⟩ (.cons ⟨_, rfl⟩ (.cons ⟨_, rfl⟩ (.cons ⟨_, rfl⟩ .nil))))) (fun H => ⟨_, _, rfl, ⟨rfl, h.1⟩, _, _, rfl, ⟨rfl, h.2.1⟩, _, _, rfl, ⟨rfl, h.2.2.1⟩, _, _, rfl, ⟨rfl, h.2.2.2.1⟩, _, _, rfl, ⟨rfl, h.2.2.2.2⟩, rfl⟩) (show (5:Nat) ≤ sizeLine by decide)
theorem gi_tup6 {K : PySem.W.Frag} {x s1 s2 s3 s4 s5 s6 : Str} {a : Addr} {od : Option Addr} {t1 t2 t3 t4 t5 t6 : Tok} {n : Nat} {sl : Array (Option Value)} (e : PySem.W.nsIn K mainGlobals x = some (some (.ref a))) (l : K.lookup a = some ⟨.type "tuple", od, .seq #[.str s1 t1, .str s2 t2, .str s3 t3, .str s4 t4, .str s5 t5, .str s6 t6] n, sl⟩)
    (h : sOk s1 ∧ sOk s2 ∧ sOk s3 ∧ sOk s4 ∧ sOk s5 ∧ sOk s6 := by decide +kernel) : GI K x (.ftup [.str s1, .str s2, .str s3, .str s4, .str s5, .str s6]) :=
  gi_tup (vs := [.str s1, .str s2, .str s3, .str s4, .str s5, .str s6]) e l (.cons ⟨_, rfl⟩ (.cons ⟨_, rfl⟩ (.cons ⟨_, rfl⟩ (.cons ⟨_, rfl⟩ (.cons ⟨_, rfl⟩ (.cons ⟨_, rfl⟩ .nil)))))) (fun H => ⟨_, _, rfl, ⟨rfl, h.1⟩, _, _, rfl, ⟨rfl, h.2.1⟩, _, _, rfl, ⟨rfl, h.2.2.1⟩, _, _, rfl, ⟨rfl, h.2.2.2.1⟩, _, _, rfl, ⟨rfl, h.2.2.2.2.1⟩, _, _, rfl, ⟨rfl, h.2.2.2.2.2⟩, rfl⟩) (show (6:Nat) ≤ sizeLine by decide)
theorem gi_tup7 {K : PySem.W.Frag} {x s1 s2 s3 s4 s5 s6 s7 : Str} {a : Addr} {od : Option Addr} {t1 t2 t3 t4 t5 t6 t7 : Tok} {n : Nat} {sl : Array (Option Value)} (e : PySem.W.nsIn K mainGlobals x = some (some (.ref a))) (l : K.lookup a = some ⟨.type "tuple", od, .seq #[.str s1 t1, .str s2 t2, .str s3 t3, .str s4 t4, .str s5 t5, .str s6 t6, .str s7 t7] n, sl⟩)
    (h : sOk s1 ∧ sOk s2 ∧ sOk s3 ∧ sOk s4 ∧ sOk s5 ∧ sOk s6 ∧ sOk s7 := by decide +kernel) : GI K x (.ftup [.str s1, .str s2, .str s3, .str s4, .str s5, .str s6, .str s7]) :=
  gi_tup (vs := [.str s1, .str s2, .str s3, .str s4, .str s5, .str s6, .str s7]) e l (.cons ⟨_, rfl⟩ (.cons ⟨_, rfl⟩ (.cons ⟨_, rfl⟩ (.cons ⟨_, rfl⟩ (.cons ⟨_, rfl⟩ (.cons ⟨_, rfl⟩ (.cons ⟨_, rfl⟩ .nil))))))) (fun H => ⟨_, _, rfl, ⟨rfl, h.1⟩, _, _, rfl, ⟨rfl, h.2.1⟩, _, _, rfl, ⟨rfl, h.2.2.1⟩, _, _, rfl, ⟨rfl, h.2.2.2.1⟩, _, _, rfl, ⟨rfl, h.2.2.2.2.1⟩, _, _, rfl, ⟨rfl, h.2.2.2.2.2.1⟩, _, _, rfl, ⟨rfl, h.2.2.2.2.2.2⟩, rfl⟩) (show (7:Nat) ≤ sizeLine by decide)
theorem gi_tup8 {K : PySem.W.Frag} {x s1 s2 s3 s4 s5 s6 s7 s8 : Str} {a : Addr} {od : Option Addr} {t1 t2 t3 t4 t5 t6 t7 t8 : Tok} {n : Nat} {sl : Array (Option Value)} (e : PySem.W.nsIn K mainGlobals x = some (some (.ref a))) (l : K.lookup a = some ⟨.type "tuple", od, .seq #[.str s1 t1, .str s2 t2, .str s3 t3, .str s4 t4, .str s5 t5, .str s6 t6, .str s7 t7, .str s8 t8] n, sl⟩)
    (h : sOk s1 ∧ sOk s2 ∧ sOk s3 ∧ sOk s4 ∧ sOk s5 ∧ sOk s6 ∧ sOk s7 ∧ sOk s8 := by decide +kernel) : GI K x (.ftup [.str s1, .str s2, .str s3, .str s4, .str s5, .str s6, .str s7, .str s8]) :=
  gi_tup (vs := [.str s1, .str s2, .str s3, .str s4, .str s5, .str s6, .str s7, .str s8]) e l (.cons ⟨_, rfl⟩ (.cons ⟨_, rfl⟩ (.cons ⟨_, rfl⟩ (.cons ⟨_, rfl⟩ (.cons ⟨_, rfl⟩ (.cons ⟨_, rfl⟩ (.cons ⟨_, rfl⟩ (.cons ⟨_, rfl⟩ .nil)))))))) (fun H => ⟨_, _, rfl, ⟨rfl, h.1⟩, _, _, rfl, ⟨rfl, h.2.1⟩, _, _, rfl, ⟨rfl, h.2.2.1⟩, _, _, rfl, ⟨rfl, h.2.2.2.1⟩, _, _, rfl, ⟨rfl, h.2.2.2.2.1⟩, _, _, rfl, ⟨rfl, h.2.2.2.2.2.1⟩, _, _, rfl, ⟨rfl, h.2.2.2.2.2.2.1⟩, _, _, rfl, ⟨rfl, h.2.2.2.2.2.2.2⟩, rfl⟩) (show (8:Nat) ≤ sizeLine by decide)
theorem gi_itup3 {K : PySem.W.Frag} {x : Str} {i1 i2 i3 : Int} {a : Addr} {od : Option Addr} {t1 t2 t3 : Tok} {n : Nat} {sl : Array (Option Value)} (e : PySem.W.nsIn K mainGlobals x = some (some (.ref a))) (l : K.lookup a = some ⟨.type "tuple", od, .seq #[.int i1 t1, .int i2 t2, .int i3 t3] n, sl⟩) : GI K x (.ftup [.int i1, .int i2, .int i3]) :=
  gi_tup (vs := [.int i1, .int i2, .int i3]) e l (.cons ⟨_, rfl⟩ (.cons ⟨_, rfl⟩ (.cons ⟨_, rfl⟩ .nil))) (fun H => ⟨_, _, rfl, rfl, _, _, rfl, rfl, _, _, rfl, rfl, rfl⟩) (show (3:Nat) ≤ sizeLine by decide)
/-! ### the law's own end -/
def spL (K : PySem.W.Frag) : Sp := fun vs H Q _ => ∃ (a : Addr) (ns : List Int), vs = [.ref a] ∧ SqL K H a (ns.map V.int) ∧ ns.length ≤ 63 ∧ ∀ H', Q (.bl true) H'
theorem law_imp {K : PySem.W.Frag} {mg : Str → Option Value} {m : List D → Out D} (h : ∀ ns : List Int, ns.length ≤ 63 → m [.fz (ns.map .int)] = .ok (.bl true)) : ∀ vs H Q E, spL K vs H Q E → spP K mg 1 m vs H Q E := by
  rintro vs H Q E ⟨a, ns, rfl, hS, hl, q⟩
  refine ⟨rfl, H, [.fz (ns.map .int)], Same.refl _, ⟨.ref a, [], rfl, ⟨a, _, rfl, hS, DenL.of_ints ns⟩, rfl⟩, ?_⟩
  rw [h ns hl]
  intro v Hs' H' _ dv
  cases dv
  exact q H'
theorem noCX {P : Program} {w : World} {H : Hp} {s : Shared} {e : Value} {s' : Shared} (h : L2.CX P w [] H s (fun _ _ _ => False) e s') : False := by
  obtain ⟨_, _, _, _, _, _, _, _, _, _, _, _, z⟩ := h
  exact z
end FL

namespace FL
open PySem PySem.Spec PyProof.Rows L2
/-! ### try: clauses that name a class and keep no name -/
noncomputable def hGo : List (List Str × (Env' → Res Fl)) → Str → Env' → Res Fl
  | [], c, ρ => .exc c ρ
  | (cs, g) :: r, c, ρ => if c ∈ cs then g ρ else hGo r c ρ
/-- all: the classes that the law knows; cs: those that a clause takes -/
noncomputable def sTry (all : List Str) (gs : List (List Str × (Env' → Res Fl))) (f : Env' → Res Fl) : Env' → Res Fl := fun ρ => match f ρ with
  | .exc c ρ' => if c ∈ all then hGo gs c ρ' else .bad
  | r => r
/-- a clause's class, and what it takes -/
structure HdT (K : PySem.W.Frag) (mg : Str → Option Value) (all : List Str) (x : Str) (C : Addr) (cs : List Str) : Prop where
  name : mg x = some (.ref C)
  takes : ∀ c ∈ all, ∀ Cc, mg c = some (.ref Cc) → PySem.W.exmOne K (.ref Cc) (.ref C) = some (decide (c ∈ cs))
inductive HdsT (X : Cx) (W : WX) (all : List Str) : List ExceptHandler → List (List Str × (Env' → Res Fl)) → Prop
  | nil : HdsT X W all [] []
  | cons {x : Str} {C : Addr} {cs : List Str} {g : Env' → Res Fl} {b₀ : Stmt} {suite : List Stmt} {np pos' : Pos} {hds : List ExceptHandler} {gs : List (List Str × (Env' → Res Fl))}
      (e : HdT X.K X.mg all x C cs) (hg : Gl X x) (hdb : (x == ("__debug__" : Str)) = false)
      (hsu : ∀ (a : Addr) (oe : Obj) (pn : List (Addr × Obj)), PSs (X.suite a ((a, oe) :: pn)) (b₀ :: suite) (tFS X.K X.mg W g)) (r : HdsT X W all hds gs) :
      HdsT X W all (.ExceptHandler (some (.Name x np)) none (b₀ :: suite) pos' :: hds) ((cs, g) :: gs)
theorem HdsT.go {X : Cx} {W : WX} {all : List Str} {hds : List ExceptHandler} {gs : List (List Str × (Env' → Res Fl))} (h : HdsT X W all hds gs) :
    ∃ l, HdsOk X hds l ∧ ∀ c ρ σ H D C G, c ∈ all → X.mg c = some (.ref C) → Ok X.K G σ H ρ → PoS X.K X.mg W G D (hGo gs c ρ) → wMany X.K W D l (.ref C) none σ H := by
  induction h with
  | nil => exact ⟨[], .nil, fun c ρ σ H D C G _ hc ok po => po σ H C hc ok⟩
  | @cons x C cs g b₀ suite np pos' hds gs e hg hdb hsu r ih =>
    obtain ⟨l, h1, h2⟩ := ih
    refine ⟨(.ref C, fun _ _ _ => tFS X.K X.mg W g) :: l, .cons ⟨hg, hdb, .inl e.name⟩ (fun a oe cls d pn _ _ => hsu a oe pn) h1, fun c ρ σ H D Cc G ha hc ok po => ?_⟩
    refine ⟨_, e.takes c ha Cc hc, fun hb a _ => ?_, fun hb => ?_⟩
    · rw [hGo, if_pos (of_decide_eq_true hb)] at po
      exact ⟨G, ρ, ok, po⟩
    · rw [hGo, if_neg (of_decide_eq_false hb)] at po
      exact h2 c ρ σ H D Cc G ha hc ok po
theorem fs_try {X : Cx} {mg : Str → Option Value} {W : WX} {all : List Str} {gs : List (List Str × (Env' → Res Fl))} {f : Env' → Res Fl} {body : List Stmt} {h₀ : ExceptHandler} {hds : List ExceptHandler} {pos : Pos} (hm : X.mg = mg)
    (tk : Takes X W) (hb : ∀ (W' : WX) (pn : List (Addr × Obj)) (xe : Value → Shared → Prop), Takes (X.tr pn xe) W' → PassesOwn (model X.prog X.w) X.A X.env xe → PSs (X.tr pn xe) body (tFS X.K X.mg W' f))
    (hh : HdsT X W all (h₀ :: hds) gs) (hs : X.stack = X.env :: X.outer := by rfl) (hf : X.env.frame = some X.env.locals := by rfl) : PS X (.Try body (h₀ :: hds) [] [] pos) (tFS X.K mg W (sTry all gs f)) := by
  subst hm
  obtain ⟨l, h1, h2⟩ := hh.go
  refine (ps_try_many (tb := fun W' => tFS X.K X.mg W' f) hs hf tk hb h1).imp fun D σ H ⟨G, ρ, ok, po⟩ => ⟨G, ρ, ok, ?_⟩
  unfold sTry at po
  cases e : f ρ with
  | ok r =>
    rw [e] at po
    cases r <;> exact po
  | bad => rw [e] at po; exact po
  | exc c ρ' =>
    rw [e] at po
    simp only at po
    split at po
    · rename_i ha
      exact fun σ' H' C hc o => h2 c ρ' σ' H' D C G ha hc o po
    · exact po.elim
/-! what the top has written: a class that is but caught, and what takes what -/
def NI (K : PySem.W.Frag) (x : Str) : Prop := ∃ C, PySem.W.nsIn K mainGlobals x = some (some (.ref C))
theorem ni_mk {K : PySem.W.Frag} {x : Str} {C : Addr} (a : PySem.W.nsIn K mainGlobals x = some (some (.ref C))) : NI K x := ⟨C, a⟩
def EI (K : PySem.W.Frag) (c x : Str) (b : Bool) : Prop := ∀ Cc Cx, PySem.W.nsIn K mainGlobals c = some (some (.ref Cc)) → PySem.W.nsIn K mainGlobals x = some (some (.ref Cx)) → PySem.W.exmOne K (.ref Cc) (.ref Cx) = some b
theorem exm_of {K : PySem.W.Frag} {C S : Addr} {b : Bool} (h1 : PySem.W.subIn K (.ref S) (.type "BaseException") = some true) (h2 : PySem.W.isClsIn K S = true) (h3 : PySem.W.typeIn K (.ref S) = some (.type "type")) (h4 : PySem.W.subIn K (.ref C) (.ref S) = some b) :
    PySem.W.exmOne K (.ref C) (.ref S) = some b := by
  have e1 : (PySem.W.subIn K (.ref S) (.type "BaseException") == some true) = true := by rw [h1] <;> rfl
  have e2 : ((PySem.W.clsIn K S).isSome && PySem.W.typeIn K (.ref S) == some (.type "type")) = true := by
    have h2' : (PySem.W.clsIn K S).isSome = true := h2
    rw [h2', h3] <;> rfl
  unfold PySem.W.exmOne
  rw [if_pos e1]
  unfold PySem.W.kitCls
  simp only []
  rw [if_pos e2]
  exact h4
theorem ei_mk {K : PySem.W.Frag} {c x : Str} {b : Bool} {C D : Addr} (a1 : PySem.W.nsIn K mainGlobals c = some (some (.ref C))) (a2 : PySem.W.nsIn K mainGlobals x = some (some (.ref D)))
    (h1 : PySem.W.subIn K (.ref D) (.type "BaseException") = some true) (h2 : PySem.W.isClsIn K D = true) (h3 : PySem.W.typeIn K (.ref D) = some (.type "type")) (h4 : PySem.W.subIn K (.ref C) (.ref D) = some b) : EI K c x b := fun C' D' h1' h2' => by
  cases a1.symm.trans h1'
  cases a2.symm.trans h2'
  exact exm_of h1 h2 h3 h4
end FL

namespace FL
open PySem PySem.Spec PyProof.Rows L2
/-! ### zip of two lists or of two tuples; reversed -/
noncomputable def zipD : List D → List D → List D
  | x :: xs, y :: ys => .tup [x, y] :: zipD xs ys
  | _, _ => []
theorem zipD_get : ∀ (xs ys : List D) (i : Nat), (zipD xs ys)[i]? = match xs[i]?, ys[i]? with
    | some x, some y => some (.tup [x, y])
    | _, _ => none
  | [], _, i => by simp [zipD]
  | x :: xs, [], i => by
    simp only [zipD, List.getElem?_nil]
    split <;> simp_all
  | x :: xs, y :: ys, 0 => by simp [zipD]
  | x :: xs, y :: ys, i + 1 => by simp only [zipD, List.getElem?_cons_succ, zipD_get xs ys i]
theorem zipD_length : ∀ (xs ys : List D), (zipD xs ys).length = min xs.length ys.length
  | [], _ => by simp [zipD]
  | x :: xs, [] => by simp [zipD]
  | x :: xs, y :: ys => by
    simp only [zipD, List.length_cons, zipD_length xs ys]
    omega
theorem ext_two {K Hs H T x y d e} (s : Same Hs H) (hT : H T = none) (dx : Den K Hs d x) (dy : Den K Hs e y) : Ext Hs H (upd Hs T (.tup [x, y])) (upd H T (.tup [x, y])) ∧ Den K (upd Hs T (.tup [x, y])) (.tup [d, e]) (.ref T) := by
  have ex := Ext.new (o := .tup [x, y]) s hT
  exact ⟨ex, T, _, rfl, upd_same, x, [y], rfl, dx.mono ex.s, y, [], rfl, dy.mono ex.s, rfl⟩
theorem iter_zipL {K Hs a b vs us ds es} (h : SqL K Hs a vs) (h2 : SqL K Hs b us) (hd : DenL K Hs ds vs) (he : DenL K Hs es us) : IterOf K (Itz K a b) (zipD ds es) Hs := fun i Hs1 H e1 e2 => by
  have s1 := e2.seq (e1.seq h)
  have s2 := e2.seq (e1.seq h2)
  have l := hd.length
  have l2 := he.length
  rw [zipD_length]
  refine ⟨fun hi => ?_, fun hi => ⟨vs, us, s1, s2, by omega⟩⟩
  obtain ⟨v, hv, dv⟩ := (hd.mono e1).get (List.getElem?_eq_getElem (show i < ds.length by omega))
  obtain ⟨u, hu, du⟩ := (he.mono e1).get (List.getElem?_eq_getElem (show i < es.length by omega))
  refine ⟨⟨vs, us, v, u, s1, s2, hv, hu⟩, fun x H' ⟨T, y, z, ex, hT, eH, q, q2⟩ => ?_⟩
  have := q vs s1
  rw [hv] at this
  cases this
  have := q2 us s2
  rw [hu] at this
  cases this
  subst ex; subst eH
  obtain ⟨k1, k2⟩ := ext_two e2 hT dv du
  refine ⟨_, k1, fun d hd => ?_⟩
  rw [zipD_get, List.getElem?_eq_getElem (show i < ds.length by omega), List.getElem?_eq_getElem (show i < es.length by omega)] at hd
  simp only [Option.some.injEq] at hd
  subst hd
  exact k2
theorem iter_zipT {K Hs a b vs us ds es} (h : SqT K Hs a vs) (h2 : SqT K Hs b us) (hd : DenL K Hs ds vs) (he : DenL K Hs es us) : IterOf K (RZ.ItzT K a b) (zipD ds es) Hs := fun i Hs1 H e1 e2 => by
  have s1 := e2.seqT (e1.seqT h)
  have s2 := e2.seqT (e1.seqT h2)
  have l := hd.length
  have l2 := he.length
  rw [zipD_length]
  refine ⟨fun hi => ?_, fun hi => ⟨vs, us, s1, s2, by omega⟩⟩
  obtain ⟨v, hv, dv⟩ := (hd.mono e1).get (List.getElem?_eq_getElem (show i < ds.length by omega))
  obtain ⟨u, hu, du⟩ := (he.mono e1).get (List.getElem?_eq_getElem (show i < es.length by omega))
  refine ⟨⟨vs, us, v, u, s1, s2, hv, hu⟩, fun x H' ⟨T, y, z, ex, hT, eH, q, q2⟩ => ?_⟩
  have := q vs s1
  rw [hv] at this
  cases this
  have := q2 us s2
  rw [hu] at this
  cases this
  subst ex; subst eH
  obtain ⟨k1, k2⟩ := ext_two e2 hT dv du
  refine ⟨_, k1, fun d hd => ?_⟩
  rw [zipD_get, List.getElem?_eq_getElem (show i < ds.length by omega), List.getElem?_eq_getElem (show i < es.length by omega)] at hd
  simp only [Option.some.injEq] at hd
  subst hd
  exact k2
/-- what zip takes: both lists, or both tuples -/
noncomputable def zip2 : D → D → Option (List D)
  | .lst ds, .lst es => some (zipD ds es)
  | .tup ds, .tup es => some (zipD ds es)
  | .ftup ds, .tup es => some (zipD ds es)
  | .tup ds, .ftup es => some (zipD ds es)
  | .ftup ds, .ftup es => some (zipD ds es)
  | _, _ => none
section
variable {X : Cx} {mg : Str → Option Value} {W : WX} {a b : Expr} {fa fb : Env' → Res (RV × Env')} {pos p tpos : Pos}
noncomputable def iZip (fa fb : Env' → Res (RV × Env')) : Env' → Res (List D × Env') := fun ρ => (aConsE fa (aConsE fb aNil) ρ).bind fun (rs, ρ1) => match rs with
  | [.leaf d, .leaf e] => (Res.of (zip2 d e)).bind fun ds => .ok (ds, ρ1)
  | _ => .bad
theorem fi_zip {elts : List Expr} {kk : Nat} (hg : Gl X "zip") (hm : X.mg "zip" = none) (ha : PE X a (tFO X.K mg W fa)) (hb : PE X b (tFO X.K mg W fb)) (hs : starEach [a, b] X.env = (false, eval a X.env) :: starEach [b] X.env := by rfl) (hs2 : starEach [b] X.env = (false, eval b X.env) :: starEach [] X.env := by rfl)
    (hpl : (backTo pos (starEach [b] X.env)).any (·.1) = false := by rfl) : PI X (.Tuple elts kk tpos) (.Call (.Name "zip" p) [a, b] [] pos) (tFI X.K mg W (iZip fa fb)) := by
  have pa : PA X [a, b] (tFA X.K mg W (aConsE fa (aConsE fb aNil))) := fa_consE ha (fa_consE hb fa_nil hs2) hs
  refine (RZ.pi_zipA hg hm pa hs hpl).imp fun σ H R ⟨G, ρ, ⟨Hs, fp, ok⟩, po⟩ => ?_
  unfold iZip at po
  cases e0 : aConsE fa (aConsE fb aNil) ρ with
  | exc c ρ' => exact ⟨_, ρ, ⟨Hs, fp, ok.self⟩, by rw [e0] at po ⊢; exact fun H' C hc o => po H' C hc (Ok.back ok o)⟩
  | bad => rw [e0] at po; exact po.elim
  | ok q =>
    obtain ⟨rs, ρ1⟩ := q
    rw [e0] at po
    simp only [bind_ok] at po
    split at po
    · rename_i d e
      refine ⟨_, ρ, ⟨Hs, fp, ok.self⟩, ?_⟩
      rw [e0]
      intro vs H1 Hs1 fp1 ok1 ⟨v, ws, ev, dv, v2, ws2, ev2, dv2, ew⟩
      subst ev; subst ev2
      cases ew
      unfold zip2 at po
      split at po
      · obtain ⟨l, us, rfl, k1, k2⟩ := dv
        obtain ⟨l2, us2, rfl, k12, k22⟩ := dv2
        exact ⟨l, l2, us, us2, rfl, .inl ⟨SqL.lst (ok1.sh _ _ k1), SqL.lst (ok1.sh _ _ k12), po _ _ _ _ (ok.back ok1) (iter_zipL (SqL.lst k1) (SqL.lst k12) k2 k22)⟩⟩
      · obtain ⟨l, us, rfl, k1, k2⟩ := dv
        obtain ⟨l2, us2, rfl, k12, k22⟩ := dv2
        exact ⟨l, l2, us, us2, rfl, .inr ⟨SqT.of (ok1.sh _ _ k1), SqT.of (ok1.sh _ _ k12), po _ _ _ _ (ok.back ok1) (iter_zipT (SqT.of k1) (SqT.of k12) k2 k22)⟩⟩
      · obtain ⟨l, us, rfl, k1, k2⟩ := dv
        obtain ⟨l2, us2, rfl, k12, k22⟩ := dv2
        exact ⟨l, l2, us, us2, rfl, .inr ⟨ok1.sh.seqT k1, SqT.of (ok1.sh _ _ k12), po _ _ _ _ (ok.back ok1) (iter_zipT (k1) (SqT.of k12) k2 k22)⟩⟩
      · obtain ⟨l, us, rfl, k1, k2⟩ := dv
        obtain ⟨l2, us2, rfl, k12, k22⟩ := dv2
        exact ⟨l, l2, us, us2, rfl, .inr ⟨SqT.of (ok1.sh _ _ k1), ok1.sh.seqT k12, po _ _ _ _ (ok.back ok1) (iter_zipT (SqT.of k1) (k12) k2 k22)⟩⟩
      · obtain ⟨l, us, rfl, k1, k2⟩ := dv
        obtain ⟨l2, us2, rfl, k12, k22⟩ := dv2
        exact ⟨l, l2, us, us2, rfl, .inr ⟨ok1.sh.seqT k1, ok1.sh.seqT k12, po _ _ _ _ (ok.back ok1) (iter_zipT (k1) (k12) k2 k22)⟩⟩
      · exact po.elim
    · exact po.elim
end
end FL

namespace FL
open PySem PySem.Spec PyProof.Rows L2
theorem DenL.snoc {K Hs} {d : D} {v : V} (hd : Den K Hs d v) : ∀ {ds : List D} {vs : List V}, DenL K Hs ds vs → DenL K Hs (ds ++ [d]) (vs ++ [v])
  | [], _, h => by cases h; exact ⟨v, [], rfl, hd, rfl⟩
  | _ :: _, _, ⟨w, ws, e, h1, h2⟩ => by subst e; exact ⟨w, ws ++ [v], rfl, h1, DenL.snoc hd h2⟩
theorem DenL.rev {K Hs} : ∀ {ds : List D} {vs : List V}, DenL K Hs ds vs → DenL K Hs ds.reverse vs.reverse
  | [], _, h => by cases h; rfl
  | _ :: _, _, ⟨w, ws, e, h1, h2⟩ => by
    subst e
    rw [List.reverse_cons, List.reverse_cons]
    exact DenL.snoc h1 (DenL.rev h2)
noncomputable def D.rev : D → Option D
  | .lst ds => some (.tup ds.reverse)
  | .fz ds => some (.tup ds.reverse)
  | _ => none
theorem fo_tupRev {X : Cx} {mg : Str → Option Value} {W : WX} {e : Expr} {fa : Env' → Res (RV × Env')} {p p2 pos pos2 : Pos} (hc : X.calm = true) (hg : Gl X "tuple") (hm : X.mg "tuple" = none) (hg2 : Gl X "reversed") (hm2 : X.mg "reversed" = none) (ha : PE X e (tFO X.K mg W fa))
    (hs : starEach [e] X.env = (false, eval e X.env) :: starEach [] X.env := by rfl)
    (hs2 : starEach [.Call (.Name "reversed" p2) [e] [] pos2] X.env = (false, eval (.Call (.Name "reversed" p2) [e] [] pos2) X.env) :: starEach [] X.env := by rfl) :
    PE X (.Call (.Name "tuple" p) [.Call (.Name "reversed" p2) [e] [] pos2] [] pos) (tFO X.K mg W (eUn D.rev fa)) := by
  refine (RT.pe_tupRev hc hg hm hg2 hm2 ha hs hs2).imp fun σ H Q h => ?_
  refine un_go (r := fun v H1 Q => ∃ (a : Addr) (xs : List V), v = .ref a ∧ SqL X.K H1 a xs ∧ ∀ q, H1 q = none → Q (.ref q) (upd H1 q (.tup xs.reverse))) (fun x H Q ⟨Hs, d1, d, sm, h1, g, q⟩ => ?_) h
  unfold D.rev at g
  split at g
  · cases g
    obtain ⟨a, vs, rfl, k1, k2⟩ := h1
    refine ⟨a, vs, rfl, SqL.lst k1, fun p hp => ?_⟩
    have ex := Ext.new (o := .tup vs.reverse) sm hp
    exact q _ _ _ ex ⟨p, _, rfl, upd_same, (DenL.rev k2).mono ex.s⟩
  · cases g
    obtain ⟨a, vs, rfl, k1, k2⟩ := h1
    refine ⟨a, vs, rfl, sm.seq k1, fun p hp => ?_⟩
    have ex := Ext.new (o := .tup vs.reverse) sm hp
    exact q _ _ _ ex ⟨p, _, rfl, upd_same, (DenL.rev k2).mono ex.s⟩
  · cases g
end FL

namespace FL
open PySem PySem.Spec PyProof.Rows L2
/-! ### reckoning with mirrors: from the left, a step at a time -/
@[simp ↓] theorem bind_bind {α β γ : Type} (x : Res α) (f : α → Res β) (k : β → Res γ) : (x.bind f).bind k = x.bind fun a => (f a).bind k := by cases x <;> rfl
@[simp ↓] theorem bind_okp {α β : Type} (a : α) (k : α → Res β) : (Res.ok a).bind k = k a := rfl
@[simp ↓] theorem of_bind_some {α β : Type} (a : α) (k : α → Res β) : (Res.of (some a)).bind k = k a := rfl
@[simp ↓] theorem of_bind_none {α β : Type} (k : α → Res β) : (Res.of (none : Option α)).bind k = .bad := rfl
theorem bind_id {α : Type} (x : Res α) : x = x.bind Res.ok := by cases x <;> rfl
section
@[simp ↓] theorem eC_bind {β : Type} (d : D) (ρ : Env') (k : _ → Res β) : (eC d ρ).bind k = Res.bind (.ok (.leaf d, ρ)) k := rfl
theorem eC_ap (d : D) (ρ : Env') : eC d ρ = (.ok (.leaf d, ρ)) := rfl
@[simp ↓] theorem eVar_bind {β : Type} (i : Nat) (ρ : Env') (k : _ → Res β) : (eVar i ρ).bind k = Res.bind (match ρ[i]? with
  | some (some (.sh d)) => .ok (.leaf d, ρ)
  | some (some _) => .ok (.slot i, ρ)
  | _ => .bad) k := rfl
theorem eVar_ap (i : Nat) (ρ : Env') : eVar i ρ = (match ρ[i]? with
  | some (some (.sh d)) => .ok (.leaf d, ρ)
  | some (some _) => .ok (.slot i, ρ)
  | _ => .bad) := rfl
@[simp ↓] theorem eBin_bind {β : Type} (g : D → D → Option D) (fa fb : Env' → Res (RV × Env')) (ρ : Env') (k : _ → Res β) : (eBin g fa fb ρ).bind k = Res.bind ((fa ρ).bind fun (r1, ρ1) => (fb ρ1).bind fun (r2, ρ2) => (Res.of (look ρ2 r1)).bind fun d1 => (Res.of (look ρ2 r2)).bind fun d2 => (Res.of (g d1 d2)).bind fun d => .ok (.leaf d, ρ2)) k := rfl
theorem eBin_ap (g : D → D → Option D) (fa fb : Env' → Res (RV × Env')) (ρ : Env') : eBin g fa fb ρ = ((fa ρ).bind fun (r1, ρ1) => (fb ρ1).bind fun (r2, ρ2) => (Res.of (look ρ2 r1)).bind fun d1 => (Res.of (look ρ2 r2)).bind fun d2 => (Res.of (g d1 d2)).bind fun d => .ok (.leaf d, ρ2)) := rfl
@[simp ↓] theorem eUn_bind {β : Type} (g : D → Option D) (fa : Env' → Res (RV × Env')) (ρ : Env') (k : _ → Res β) : (eUn g fa ρ).bind k = Res.bind ((fa ρ).bind fun (r1, ρ1) => (Res.of (look ρ1 r1)).bind fun d1 => (Res.of (g d1)).bind fun d => .ok (.leaf d, ρ1)) k := rfl
theorem eUn_ap (g : D → Option D) (fa : Env' → Res (RV × Env')) (ρ : Env') : eUn g fa ρ = ((fa ρ).bind fun (r1, ρ1) => (Res.of (look ρ1 r1)).bind fun d1 => (Res.of (g d1)).bind fun d => .ok (.leaf d, ρ1)) := rfl
@[simp ↓] theorem eB_bind {β : Type} (g : List D → Option D) (fs : Env' → Res (List RV × Env')) (ρ : Env') (k : _ → Res β) : (eB g fs ρ).bind k = Res.bind ((fs ρ).bind fun (rs, ρ1) => (Res.of (looks ρ1 rs)).bind fun ds => (Res.of (g ds)).bind fun d => .ok (.leaf d, ρ1)) k := rfl
theorem eB_ap (g : List D → Option D) (fs : Env' → Res (List RV × Env')) (ρ : Env') : eB g fs ρ = ((fs ρ).bind fun (rs, ρ1) => (Res.of (looks ρ1 rs)).bind fun ds => (Res.of (g ds)).bind fun d => .ok (.leaf d, ρ1)) := rfl
@[simp ↓] theorem eTup_bind {β : Type} (fs : Env' → Res (List RV × Env')) (ρ : Env') (k : _ → Res β) : (eTup fs ρ).bind k = Res.bind ((fs ρ).bind fun (rs, ρ1) => (Res.of (leafs rs)).bind fun ds => if ds.length ≤ sizeLine then .ok (.leaf (.tup ds), ρ1) else .bad) k := rfl
theorem eTup_ap (fs : Env' → Res (List RV × Env')) (ρ : Env') : eTup fs ρ = ((fs ρ).bind fun (rs, ρ1) => (Res.of (leafs rs)).bind fun ds => if ds.length ≤ sizeLine then .ok (.leaf (.tup ds), ρ1) else .bad) := rfl
@[simp ↓] theorem eAnd_bind {β : Type} (fa fb : Env' → Res (RV × Env')) (ρ : Env') (k : _ → Res β) : (eAnd fa fb ρ).bind k = Res.bind ((fa ρ).bind fun (r, ρ1) => match look ρ1 r with
  | some (.bl true) => fb ρ1
  | some (.bl false) => .ok (.leaf (.bl false), ρ1)
  | _ => .bad) k := rfl
theorem eAnd_ap (fa fb : Env' → Res (RV × Env')) (ρ : Env') : eAnd fa fb ρ = ((fa ρ).bind fun (r, ρ1) => match look ρ1 r with
  | some (.bl true) => fb ρ1
  | some (.bl false) => .ok (.leaf (.bl false), ρ1)
  | _ => .bad) := rfl
@[simp ↓] theorem eOr_bind {β : Type} (fa fb : Env' → Res (RV × Env')) (ρ : Env') (k : _ → Res β) : (eOr fa fb ρ).bind k = Res.bind ((fa ρ).bind fun (r, ρ1) => match look ρ1 r with
  | some (.bl false) => fb ρ1
  | some (.bl true) => .ok (.leaf (.bl true), ρ1)
  | _ => .bad) k := rfl
theorem eOr_ap (fa fb : Env' → Res (RV × Env')) (ρ : Env') : eOr fa fb ρ = ((fa ρ).bind fun (r, ρ1) => match look ρ1 r with
  | some (.bl false) => fb ρ1
  | some (.bl true) => .ok (.leaf (.bl true), ρ1)
  | _ => .bad) := rfl
@[simp ↓] theorem eNot_bind {β : Type} (fa : Env' → Res (RV × Env')) (ρ : Env') (k : _ → Res β) : (eNot fa ρ).bind k = Res.bind ((fa ρ).bind fun (r, ρ1) => match look ρ1 r with
  | some (.bl b) => .ok (.leaf (.bl (!b)), ρ1)
  | _ => .bad) k := rfl
theorem eNot_ap (fa : Env' → Res (RV × Env')) (ρ : Env') : eNot fa ρ = ((fa ρ).bind fun (r, ρ1) => match look ρ1 r with
  | some (.bl b) => .ok (.leaf (.bl (!b)), ρ1)
  | _ => .bad) := rfl
@[simp ↓] theorem eIf_bind {β : Type} (tc : Env' → Res (Bool × Env')) (fa fb : Env' → Res (RV × Env')) (ρ : Env') (k : _ → Res β) : (eIf tc fa fb ρ).bind k = Res.bind ((tc ρ).bind fun (b, ρ1) => if b = true then fa ρ1 else fb ρ1) k := rfl
theorem eIf_ap (tc : Env' → Res (Bool × Env')) (fa fb : Env' → Res (RV × Env')) (ρ : Env') : eIf tc fa fb ρ = ((tc ρ).bind fun (b, ρ1) => if b = true then fa ρ1 else fb ρ1) := rfl
@[simp ↓] theorem eChain_bind {β : Type} (g g' : D → D → Option D) (fa fb fc : Env' → Res (RV × Env')) (ρ : Env') (k : _ → Res β) : (eChain g g' fa fb fc ρ).bind k = Res.bind ((fa ρ).bind fun (r1, ρ1) => (fb ρ1).bind fun (r2, ρ2) => (Res.of (look ρ2 r1)).bind fun d1 => (Res.of (look ρ2 r2)).bind fun d2 => match g d1 d2 with
    | some (.bl true) => (fc ρ2).bind fun (r3, ρ3) => (Res.of (look ρ3 r2)).bind fun d2 => (Res.of (look ρ3 r3)).bind fun d3 => (Res.of (g' d2 d3)).bind fun d => .ok (.leaf d, ρ3)
    | some (.bl false) => .ok (.leaf (.bl false), ρ2)
    | _ => .bad) k := rfl
theorem eChain_ap (g g' : D → D → Option D) (fa fb fc : Env' → Res (RV × Env')) (ρ : Env') : eChain g g' fa fb fc ρ = ((fa ρ).bind fun (r1, ρ1) => (fb ρ1).bind fun (r2, ρ2) => (Res.of (look ρ2 r1)).bind fun d1 => (Res.of (look ρ2 r2)).bind fun d2 => match g d1 d2 with
    | some (.bl true) => (fc ρ2).bind fun (r3, ρ3) => (Res.of (look ρ3 r2)).bind fun d2 => (Res.of (look ρ3 r3)).bind fun d3 => (Res.of (g' d2 d3)).bind fun d => .ok (.leaf d, ρ3)
    | some (.bl false) => .ok (.leaf (.bl false), ρ2)
    | _ => .bad) := rfl
@[simp ↓] theorem eSl_bind {β : Type} (fa : Env' → Res (RV × Env')) (fl fh : Env' → Res (Option Int × Env')) (ρ : Env') (k : _ → Res β) : (eSl fa fl fh ρ).bind k = Res.bind ((fa ρ).bind fun (r, ρ1) => (fl ρ1).bind fun (lo, ρ2) => (fh ρ2).bind fun (hi, ρ3) => (Res.of ((look ρ3 r).bind (D.sl lo hi))).bind fun d => .ok (.leaf d, ρ3)) k := rfl
theorem eSl_ap (fa : Env' → Res (RV × Env')) (fl fh : Env' → Res (Option Int × Env')) (ρ : Env') : eSl fa fl fh ρ = ((fa ρ).bind fun (r, ρ1) => (fl ρ1).bind fun (lo, ρ2) => (fh ρ2).bind fun (hi, ρ3) => (Res.of ((look ρ3 r).bind (D.sl lo hi))).bind fun d => .ok (.leaf d, ρ3)) := rfl
@[simp ↓] theorem oOf_bind {β : Type} (na : Env' → Res (T × Env')) (ρ : Env') (k : _ → Res β) : (oOf na ρ).bind k = Res.bind ((na ρ).bind fun (t, ρ1) => .ok (.leaf t.d, ρ1)) k := rfl
theorem oOf_ap (na : Env' → Res (T × Env')) (ρ : Env') : oOf na ρ = ((na ρ).bind fun (t, ρ1) => .ok (.leaf t.d, ρ1)) := rfl
@[simp ↓] theorem nOf_bind {β : Type} (fa : Env' → Res (RV × Env')) (ρ : Env') (k : _ → Res β) : (nOf fa ρ).bind k = Res.bind ((fa ρ).bind fun (r, ρ1) => (Res.of (esc ρ1 r)).bind fun (d, ρ2) => .ok (.sh d, ρ2)) k := rfl
theorem nOf_ap (fa : Env' → Res (RV × Env')) (ρ : Env') : nOf fa ρ = ((fa ρ).bind fun (r, ρ1) => (Res.of (esc ρ1 r)).bind fun (d, ρ2) => .ok (.sh d, ρ2)) := rfl
@[simp ↓] theorem nB_bind {β : Type} (g : List D → Option (List D)) (fs : Env' → Res (List RV × Env')) (ρ : Env') (k : _ → Res β) : (nB g fs ρ).bind k = Res.bind ((fs ρ).bind fun (rs, ρ1) => (Res.of (looks ρ1 rs)).bind fun ds => (Res.of (g ds)).bind fun es => .ok (.lst (es.map T.sh), ρ1)) k := rfl
theorem nB_ap (g : List D → Option (List D)) (fs : Env' → Res (List RV × Env')) (ρ : Env') : nB g fs ρ = ((fs ρ).bind fun (rs, ρ1) => (Res.of (looks ρ1 rs)).bind fun ds => (Res.of (g ds)).bind fun es => .ok (.lst (es.map T.sh), ρ1)) := rfl
@[simp ↓] theorem nLst_bind {β : Type} (ns : Env' → Res (List T × Env')) (ρ : Env') (k : _ → Res β) : (nLst ns ρ).bind k = Res.bind ((ns ρ).bind fun (ts, ρ1) => if ts.length ≤ sizeLine then .ok (.lst ts, ρ1) else .bad) k := rfl
theorem nLst_ap (ns : Env' → Res (List T × Env')) (ρ : Env') : nLst ns ρ = ((ns ρ).bind fun (ts, ρ1) => if ts.length ≤ sizeLine then .ok (.lst ts, ρ1) else .bad) := rfl
@[simp ↓] theorem nBin_bind {β : Type} (g : D → D → Option (List D)) (fa fb : Env' → Res (RV × Env')) (ρ : Env') (k : _ → Res β) : (nBin g fa fb ρ).bind k = Res.bind ((fa ρ).bind fun (r1, ρ1) => (fb ρ1).bind fun (r2, ρ2) => (Res.of (look ρ2 r1)).bind fun d1 => (Res.of (look ρ2 r2)).bind fun d2 => (Res.of (g d1 d2)).bind fun es => .ok (.lst (es.map T.sh), ρ2)) k := rfl
theorem nBin_ap (g : D → D → Option (List D)) (fa fb : Env' → Res (RV × Env')) (ρ : Env') : nBin g fa fb ρ = ((fa ρ).bind fun (r1, ρ1) => (fb ρ1).bind fun (r2, ρ2) => (Res.of (look ρ2 r1)).bind fun d1 => (Res.of (look ρ2 r2)).bind fun d2 => (Res.of (g d1 d2)).bind fun es => .ok (.lst (es.map T.sh), ρ2)) := rfl
@[simp ↓] theorem nSl_bind {β : Type} (fa : Env' → Res (RV × Env')) (fl fh : Env' → Res (Option Int × Env')) (ρ : Env') (k : _ → Res β) : (nSl fa fl fh ρ).bind k = Res.bind ((fa ρ).bind fun (r, ρ1) => (fl ρ1).bind fun (lo, ρ2) => (fh ρ2).bind fun (hi, ρ3) => match look ρ3 r with
    | some (.lst ds) => .ok (.lst ((cutD ds lo hi).map T.sh), ρ3)
    | some (.fz ds) => .ok (.lst ((cutD ds lo hi).map T.sh), ρ3)
    | _ => .bad) k := rfl
theorem nSl_ap (fa : Env' → Res (RV × Env')) (fl fh : Env' → Res (Option Int × Env')) (ρ : Env') : nSl fa fl fh ρ = ((fa ρ).bind fun (r, ρ1) => (fl ρ1).bind fun (lo, ρ2) => (fh ρ2).bind fun (hi, ρ3) => match look ρ3 r with
    | some (.lst ds) => .ok (.lst ((cutD ds lo hi).map T.sh), ρ3)
    | some (.fz ds) => .ok (.lst ((cutD ds lo hi).map T.sh), ρ3)
    | _ => .bad) := rfl
@[simp ↓] theorem nIf_bind {β : Type} (tc : Env' → Res (Bool × Env')) (na nb : Env' → Res (T × Env')) (ρ : Env') (k : _ → Res β) : (nIf tc na nb ρ).bind k = Res.bind ((tc ρ).bind fun (b, ρ1) => if b = true then na ρ1 else nb ρ1) k := rfl
theorem nIf_ap (tc : Env' → Res (Bool × Env')) (na nb : Env' → Res (T × Env')) (ρ : Env') : nIf tc na nb ρ = ((tc ρ).bind fun (b, ρ1) => if b = true then na ρ1 else nb ρ1) := rfl
@[simp ↓] theorem nLc_bind {β : Type} (fi : Env' → Res (List D × Env')) (gt : D → Env' → Option Env') (tt : Env' → Res (Bool × Env')) (ne : Env' → Res (T × Env')) (vs : List Nat) (ρ : Env') (k : _ → Res β) : (nLc fi gt tt ne vs ρ).bind k = Res.bind ((fi ρ).bind fun (ds, ρ1) => if ds.length ≤ sizeLine then (lcGo gt tt ne vs ds (wipeE ρ1 vs)).bind fun (ts, ρ2) => .ok (.lst ts, backE ρ1 ρ2 vs) else .bad) k := rfl
theorem nLc_ap (fi : Env' → Res (List D × Env')) (gt : D → Env' → Option Env') (tt : Env' → Res (Bool × Env')) (ne : Env' → Res (T × Env')) (vs : List Nat) (ρ : Env') : nLc fi gt tt ne vs ρ = ((fi ρ).bind fun (ds, ρ1) => if ds.length ≤ sizeLine then (lcGo gt tt ne vs ds (wipeE ρ1 vs)).bind fun (ts, ρ2) => .ok (.lst ts, backE ρ1 ρ2 vs) else .bad) := rfl
@[simp ↓] theorem eM_bind {β : Type} (T : String) (g : D → List D → Option D) (fa : Env' → Res (RV × Env')) (fs : Env' → Res (List RV × Env')) (ρ : Env') (k : _ → Res β) : (eM T g fa fs ρ).bind k = Res.bind ((fa ρ).bind fun (r, ρ1) => (Res.of (look ρ1 r)).bind fun d0 => if D.isTy T d0 = true then (fs ρ1).bind fun (rs, ρ2) => (Res.of (look ρ2 r)).bind fun d => (Res.of (looks ρ2 rs)).bind fun ds => (Res.of (g d ds)).bind fun e => .ok (.leaf e, ρ2) else .bad) k := rfl
theorem eM_ap (T : String) (g : D → List D → Option D) (fa : Env' → Res (RV × Env')) (fs : Env' → Res (List RV × Env')) (ρ : Env') : eM T g fa fs ρ = ((fa ρ).bind fun (r, ρ1) => (Res.of (look ρ1 r)).bind fun d0 => if D.isTy T d0 = true then (fs ρ1).bind fun (rs, ρ2) => (Res.of (look ρ2 r)).bind fun d => (Res.of (looks ρ2 rs)).bind fun ds => (Res.of (g d ds)).bind fun e => .ok (.leaf e, ρ2) else .bad) := rfl
@[simp ↓] theorem eCall_bind {β : Type} (m : List D → Out D) (fs : Env' → Res (List RV × Env')) (ρ : Env') (k : _ → Res β) : (eCall m fs ρ).bind k = Res.bind ((fs ρ).bind fun (rs, ρ1) => (Res.of (leafs rs)).bind fun ds => match m ds with
  | .ok d => .ok (.leaf d, ρ1)
  | .exc c => .exc c ρ1
  | .bad => .bad) k := rfl
theorem eCall_ap (m : List D → Out D) (fs : Env' → Res (List RV × Env')) (ρ : Env') : eCall m fs ρ = ((fs ρ).bind fun (rs, ρ1) => (Res.of (leafs rs)).bind fun ds => match m ds with
  | .ok d => .ok (.leaf d, ρ1)
  | .exc c => .exc c ρ1
  | .bad => .bad) := rfl
@[simp ↓] theorem nCall_bind {β : Type} (m : List D → Out T) (fs : Env' → Res (List RV × Env')) (ρ : Env') (k : _ → Res β) : (nCall m fs ρ).bind k = Res.bind ((fs ρ).bind fun (rs, ρ1) => (Res.of (leafs rs)).bind fun ds => match m ds with
  | .ok t => .ok (t, ρ1)
  | .exc c => .exc c ρ1
  | .bad => .bad) k := rfl
theorem nCall_ap (m : List D → Out T) (fs : Env' → Res (List RV × Env')) (ρ : Env') : nCall m fs ρ = ((fs ρ).bind fun (rs, ρ1) => (Res.of (leafs rs)).bind fun ds => match m ds with
  | .ok t => .ok (t, ρ1)
  | .exc c => .exc c ρ1
  | .bad => .bad) := rfl
@[simp ↓] theorem ePop_bind {β : Type} (i : Nat) (ρ : Env') (k : _ → Res β) : (ePop i ρ).bind k = Res.bind (match ρ[i]? with
  | some (some (.lst ts)) => match ts[ts.length - 1]? with
    | some (.sh d) => .ok (.leaf d, ρ.set i (some (.lst ts.dropLast)))
    | _ => .bad
  | _ => .bad) k := rfl
theorem ePop_ap (i : Nat) (ρ : Env') : ePop i ρ = (match ρ[i]? with
  | some (some (.lst ts)) => match ts[ts.length - 1]? with
    | some (.sh d) => .ok (.leaf d, ρ.set i (some (.lst ts.dropLast)))
    | _ => .bad
  | _ => .bad) := rfl
@[simp ↓] theorem aNil_bind {β : Type} (ρ : Env') (k : _ → Res β) : (aNil  ρ).bind k = Res.bind (.ok ([], ρ)) k := rfl
theorem aNil_ap (ρ : Env') : aNil  ρ = (.ok ([], ρ)) := rfl
@[simp ↓] theorem aCons_bind {β : Type} (fa : Env' → Res (RV × Env')) (fr : Env' → Res (List RV × Env')) (ρ : Env') (k : _ → Res β) : (aCons fa fr ρ).bind k = Res.bind ((fa ρ).bind fun (r, ρ1) => (fr ρ1).bind fun (rs, ρ2) => .ok (r :: rs, ρ2)) k := rfl
theorem aCons_ap (fa : Env' → Res (RV × Env')) (fr : Env' → Res (List RV × Env')) (ρ : Env') : aCons fa fr ρ = ((fa ρ).bind fun (r, ρ1) => (fr ρ1).bind fun (rs, ρ2) => .ok (r :: rs, ρ2)) := rfl
@[simp ↓] theorem aConsE_bind {β : Type} (fa : Env' → Res (RV × Env')) (fr : Env' → Res (List RV × Env')) (ρ : Env') (k : _ → Res β) : (aConsE fa fr ρ).bind k = Res.bind ((fa ρ).bind fun (r, ρ1) => (Res.of (esc ρ1 r)).bind fun (d, ρ1') => (fr ρ1').bind fun (rs, ρ2) => .ok (.leaf d :: rs, ρ2)) k := rfl
theorem aConsE_ap (fa : Env' → Res (RV × Env')) (fr : Env' → Res (List RV × Env')) (ρ : Env') : aConsE fa fr ρ = ((fa ρ).bind fun (r, ρ1) => (Res.of (esc ρ1 r)).bind fun (d, ρ1') => (fr ρ1').bind fun (rs, ρ2) => .ok (.leaf d :: rs, ρ2)) := rfl
@[simp ↓] theorem atNil_bind {β : Type} (ρ : Env') (k : _ → Res β) : (atNil  ρ).bind k = Res.bind (.ok ([], ρ)) k := rfl
theorem atNil_ap (ρ : Env') : atNil  ρ = (.ok ([], ρ)) := rfl
@[simp ↓] theorem atCons_bind {β : Type} (na : Env' → Res (T × Env')) (nr : Env' → Res (List T × Env')) (ρ : Env') (k : _ → Res β) : (atCons na nr ρ).bind k = Res.bind ((na ρ).bind fun (t, ρ1) => (nr ρ1).bind fun (ts, ρ2) => .ok (t :: ts, ρ2)) k := rfl
theorem atCons_ap (na : Env' → Res (T × Env')) (nr : Env' → Res (List T × Env')) (ρ : Env') : atCons na nr ρ = ((na ρ).bind fun (t, ρ1) => (nr ρ1).bind fun (ts, ρ2) => .ok (t :: ts, ρ2)) := rfl
@[simp ↓] theorem tstV_bind {β : Type} (fa : Env' → Res (RV × Env')) (ρ : Env') (k : _ → Res β) : (tstV fa ρ).bind k = Res.bind ((fa ρ).bind fun (r, ρ1) => match look ρ1 r with
  | some (.bl b) => .ok (b, ρ1)
  | _ => .bad) k := rfl
theorem tstV_ap (fa : Env' → Res (RV × Env')) (ρ : Env') : tstV fa ρ = ((fa ρ).bind fun (r, ρ1) => match look ρ1 r with
  | some (.bl b) => .ok (b, ρ1)
  | _ => .bad) := rfl
@[simp ↓] theorem tstT_bind {β : Type} (fa : Env' → Res (RV × Env')) (ρ : Env') (k : _ → Res β) : (tstT fa ρ).bind k = Res.bind ((fa ρ).bind fun (r, ρ1) => (Res.of ((look ρ1 r).bind D.truth)).bind fun b => .ok (b, ρ1)) k := rfl
theorem tstT_ap (fa : Env' → Res (RV × Env')) (ρ : Env') : tstT fa ρ = ((fa ρ).bind fun (r, ρ1) => (Res.of ((look ρ1 r).bind D.truth)).bind fun b => .ok (b, ρ1)) := rfl
@[simp ↓] theorem tstNot_bind {β : Type} (ta : Env' → Res (Bool × Env')) (ρ : Env') (k : _ → Res β) : (tstNot ta ρ).bind k = Res.bind ((ta ρ).bind fun (b, ρ1) => .ok (!b, ρ1)) k := rfl
theorem tstNot_ap (ta : Env' → Res (Bool × Env')) (ρ : Env') : tstNot ta ρ = ((ta ρ).bind fun (b, ρ1) => .ok (!b, ρ1)) := rfl
@[simp ↓] theorem tstAnd_bind {β : Type} (ta tb : Env' → Res (Bool × Env')) (ρ : Env') (k : _ → Res β) : (tstAnd ta tb ρ).bind k = Res.bind ((ta ρ).bind fun (b, ρ1) => if b = true then tb ρ1 else .ok (false, ρ1)) k := rfl
theorem tstAnd_ap (ta tb : Env' → Res (Bool × Env')) (ρ : Env') : tstAnd ta tb ρ = ((ta ρ).bind fun (b, ρ1) => if b = true then tb ρ1 else .ok (false, ρ1)) := rfl
@[simp ↓] theorem tstOr_bind {β : Type} (ta tb : Env' → Res (Bool × Env')) (ρ : Env') (k : _ → Res β) : (tstOr ta tb ρ).bind k = Res.bind ((ta ρ).bind fun (b, ρ1) => if b = true then .ok (true, ρ1) else tb ρ1) k := rfl
theorem tstOr_ap (ta tb : Env' → Res (Bool × Env')) (ρ : Env') : tstOr ta tb ρ = ((ta ρ).bind fun (b, ρ1) => if b = true then .ok (true, ρ1) else tb ρ1) := rfl
@[simp ↓] theorem pNone_bind {β : Type} (ρ : Env') (k : _ → Res β) : (pNone  ρ).bind k = Res.bind (.ok (none, ρ)) k := rfl
theorem pNone_ap (ρ : Env') : pNone  ρ = (.ok (none, ρ)) := rfl
@[simp ↓] theorem pSome_bind {β : Type} (fa : Env' → Res (RV × Env')) (ρ : Env') (k : _ → Res β) : (pSome fa ρ).bind k = Res.bind ((fa ρ).bind fun (r, ρ1) => match look ρ1 r with
  | some (.int i) => .ok (some i, ρ1)
  | _ => .bad) k := rfl
theorem pSome_ap (fa : Env' → Res (RV × Env')) (ρ : Env') : pSome fa ρ = ((fa ρ).bind fun (r, ρ1) => match look ρ1 r with
  | some (.int i) => .ok (some i, ρ1)
  | _ => .bad) := rfl
@[simp ↓] theorem ttYes_bind {β : Type} (ρ : Env') (k : _ → Res β) : (ttYes  ρ).bind k = Res.bind (.ok (true, ρ)) k := rfl
theorem ttYes_ap (ρ : Env') : ttYes  ρ = (.ok (true, ρ)) := rfl
@[simp ↓] theorem sNil_bind {β : Type} (ρ : Env') (k : _ → Res β) : (sNil  ρ).bind k = Res.bind (.ok (.nx ρ)) k := rfl
theorem sNil_ap (ρ : Env') : sNil  ρ = (.ok (.nx ρ)) := rfl
@[simp ↓] theorem sSeq_bind {β : Type} (f g : Env' → Res Fl) (ρ : Env') (k : _ → Res β) : (sSeq f g ρ).bind k = Res.bind ((f ρ).bind fun r => match r with
  | .nx ρ' => g ρ'
  | r => .ok r) k := rfl
theorem sSeq_ap (f g : Env' → Res Fl) (ρ : Env') : sSeq f g ρ = ((f ρ).bind fun r => match r with
  | .nx ρ' => g ρ'
  | r => .ok r) := rfl
@[simp ↓] theorem sExpr_bind {β : Type} (fa : Env' → Res (RV × Env')) (ρ : Env') (k : _ → Res β) : (sExpr fa ρ).bind k = Res.bind ((fa ρ).bind fun (_, ρ1) => .ok (.nx ρ1)) k := rfl
theorem sExpr_ap (fa : Env' → Res (RV × Env')) (ρ : Env') : sExpr fa ρ = ((fa ρ).bind fun (_, ρ1) => .ok (.nx ρ1)) := rfl
@[simp ↓] theorem sSet_bind {β : Type} (i : Nat) (na : Env' → Res (T × Env')) (ρ : Env') (k : _ → Res β) : (sSet i na ρ).bind k = Res.bind ((na ρ).bind fun (t, ρ1) => if i < ρ1.length then .ok (.nx (ρ1.set i (some t))) else .bad) k := rfl
theorem sSet_ap (i : Nat) (na : Env' → Res (T × Env')) (ρ : Env') : sSet i na ρ = ((na ρ).bind fun (t, ρ1) => if i < ρ1.length then .ok (.nx (ρ1.set i (some t))) else .bad) := rfl
@[simp ↓] theorem sRet_bind {β : Type} (na : Env' → Res (T × Env')) (ρ : Env') (k : _ → Res β) : (sRet na ρ).bind k = Res.bind ((na ρ).bind fun (t, ρ1) => .ok (.rt t ρ1)) k := rfl
theorem sRet_ap (na : Env' → Res (T × Env')) (ρ : Env') : sRet na ρ = ((na ρ).bind fun (t, ρ1) => .ok (.rt t ρ1)) := rfl
@[simp ↓] theorem sRetN_bind {β : Type} (ρ : Env') (k : _ → Res β) : (sRetN  ρ).bind k = Res.bind (.ok (.rt (.sh .non) ρ)) k := rfl
theorem sRetN_ap (ρ : Env') : sRetN  ρ = (.ok (.rt (.sh .non) ρ)) := rfl
@[simp ↓] theorem sRetOwn_bind {β : Type} (i : Nat) (ρ : Env') (k : _ → Res β) : (sRetOwn i ρ).bind k = Res.bind (match ρ[i]? with
  | some (some t) => .ok (.rt t (ρ.set i none))
  | _ => .bad) k := rfl
theorem sRetOwn_ap (i : Nat) (ρ : Env') : sRetOwn i ρ = (match ρ[i]? with
  | some (some t) => .ok (.rt t (ρ.set i none))
  | _ => .bad) := rfl
@[simp ↓] theorem sIf_bind {β : Type} (ta : Env' → Res (Bool × Env')) (f g : Env' → Res Fl) (ρ : Env') (k : _ → Res β) : (sIf ta f g ρ).bind k = Res.bind ((ta ρ).bind fun (b, ρ1) => if b = true then f ρ1 else g ρ1) k := rfl
theorem sIf_ap (ta : Env' → Res (Bool × Env')) (f g : Env' → Res Fl) (ρ : Env') : sIf ta f g ρ = ((ta ρ).bind fun (b, ρ1) => if b = true then f ρ1 else g ρ1) := rfl
@[simp ↓] theorem sBk_bind {β : Type} (ρ : Env') (k : _ → Res β) : (sBk  ρ).bind k = Res.bind (.ok (.bk ρ)) k := rfl
theorem sBk_ap (ρ : Env') : sBk  ρ = (.ok (.bk ρ)) := rfl
@[simp ↓] theorem sCt_bind {β : Type} (ρ : Env') (k : _ → Res β) : (sCt  ρ).bind k = Res.bind (.ok (.ct ρ)) k := rfl
theorem sCt_ap (ρ : Env') : sCt  ρ = (.ok (.ct ρ)) := rfl
@[simp ↓] theorem sFor_bind {β : Type} (fi : Env' → Res (List D × Env')) (gt : D → Env' → Option Env') (f : Env' → Res Fl) (ρ : Env') (k : _ → Res β) : (sFor fi gt f ρ).bind k = Res.bind ((fi ρ).bind fun (ds, ρ1) => forGo gt f ds ρ1) k := rfl
theorem sFor_ap (fi : Env' → Res (List D × Env')) (gt : D → Env' → Option Env') (f : Env' → Res Fl) (ρ : Env') : sFor fi gt f ρ = ((fi ρ).bind fun (ds, ρ1) => forGo gt f ds ρ1) := rfl
@[simp ↓] theorem sUnpack_bind {β : Type} (fa : Env' → Res (RV × Env')) (gt : D → Env' → Option Env') (ρ : Env') (k : _ → Res β) : (sUnpack fa gt ρ).bind k = Res.bind ((fa ρ).bind fun (r, ρ1) => (Res.of (esc ρ1 r)).bind fun (d, ρ2) => (Res.of (gt d ρ2)).bind fun ρ3 => .ok (.nx ρ3)) k := rfl
theorem sUnpack_ap (fa : Env' → Res (RV × Env')) (gt : D → Env' → Option Env') (ρ : Env') : sUnpack fa gt ρ = ((fa ρ).bind fun (r, ρ1) => (Res.of (esc ρ1 r)).bind fun (d, ρ2) => (Res.of (gt d ρ2)).bind fun ρ3 => .ok (.nx ρ3)) := rfl
@[simp ↓] theorem sPar_bind {β : Type} (i j : Nat) (fs : Env' → Res (List RV × Env')) (ρ : Env') (k : _ → Res β) : (sPar i j fs ρ).bind k = Res.bind ((fs ρ).bind fun (rs, ρ1) => match rs with
  | [.leaf d, .leaf e] => if i < ρ1.length ∧ j < ρ1.length then .ok (.nx ((ρ1.set i (some (.sh d))).set j (some (.sh e)))) else .bad
  | _ => .bad) k := rfl
theorem sPar_ap (i j : Nat) (fs : Env' → Res (List RV × Env')) (ρ : Env') : sPar i j fs ρ = ((fs ρ).bind fun (rs, ρ1) => match rs with
  | [.leaf d, .leaf e] => if i < ρ1.length ∧ j < ρ1.length then .ok (.nx ((ρ1.set i (some (.sh d))).set j (some (.sh e)))) else .bad
  | _ => .bad) := rfl
@[simp ↓] theorem sAug_bind {β : Type} (i : Nat) (g : D → D → Option D) (fa : Env' → Res (RV × Env')) (ρ : Env') (k : _ → Res β) : (sAug i g fa ρ).bind k = Res.bind (match ρ[i]? with
  | some (some (.sh d1)) => (fa ρ).bind fun (r, ρ1) => (Res.of (look ρ1 r)).bind fun d2 => (Res.of (g d1 d2)).bind fun d => if i < ρ1.length then .ok (.nx (ρ1.set i (some (.sh d)))) else .bad
  | _ => .bad) k := rfl
theorem sAug_ap (i : Nat) (g : D → D → Option D) (fa : Env' → Res (RV × Env')) (ρ : Env') : sAug i g fa ρ = (match ρ[i]? with
  | some (some (.sh d1)) => (fa ρ).bind fun (r, ρ1) => (Res.of (look ρ1 r)).bind fun d2 => (Res.of (g d1 d2)).bind fun d => if i < ρ1.length then .ok (.nx (ρ1.set i (some (.sh d)))) else .bad
  | _ => .bad) := rfl
@[simp ↓] theorem sAppend_bind {β : Type} (i : Nat) (na : Env' → Res (T × Env')) (ρ : Env') (k : _ → Res β) : (sAppend i na ρ).bind k = Res.bind (match ρ[i]? with
  | some (some (.lst _)) => (na ρ).bind fun (t, ρ1) => match ρ1[i]? with
    | some (some (.lst ts)) => if ts.length < sizeLine then .ok (.nx (ρ1.set i (some (.lst (ts ++ [t]))))) else .bad
    | _ => .bad
  | _ => .bad) k := rfl
theorem sAppend_ap (i : Nat) (na : Env' → Res (T × Env')) (ρ : Env') : sAppend i na ρ = (match ρ[i]? with
  | some (some (.lst _)) => (na ρ).bind fun (t, ρ1) => match ρ1[i]? with
    | some (some (.lst ts)) => if ts.length < sizeLine then .ok (.nx (ρ1.set i (some (.lst (ts ++ [t]))))) else .bad
    | _ => .bad
  | _ => .bad) := rfl
@[simp ↓] theorem sExtend_bind {β : Type} (i : Nat) (fa : Env' → Res (RV × Env')) (ρ : Env') (k : _ → Res β) : (sExtend i fa ρ).bind k = Res.bind (match ρ[i]? with
  | some (some (.lst _)) => (fa ρ).bind fun (r, ρ1) => match look ρ1 r with
    | some (.lst ds) => match ρ1[i]? with
      | some (some (.lst ts)) => if ts.length + ds.length ≤ sizeLine then .ok (.nx (ρ1.set i (some (.lst (ts ++ ds.map T.sh))))) else .bad
      | _ => .bad
    | _ => .bad
  | _ => .bad) k := rfl
theorem sExtend_ap (i : Nat) (fa : Env' → Res (RV × Env')) (ρ : Env') : sExtend i fa ρ = (match ρ[i]? with
  | some (some (.lst _)) => (fa ρ).bind fun (r, ρ1) => match look ρ1 r with
    | some (.lst ds) => match ρ1[i]? with
      | some (some (.lst ts)) => if ts.length + ds.length ≤ sizeLine then .ok (.nx (ρ1.set i (some (.lst (ts ++ ds.map T.sh))))) else .bad
      | _ => .bad
    | _ => .bad
  | _ => .bad) := rfl
@[simp ↓] theorem sSetIx_bind {β : Type} (i : Nat) (na : Env' → Res (T × Env')) (fb : Env' → Res (RV × Env')) (ρ : Env') (k : _ → Res β) : (sSetIx i na fb ρ).bind k = Res.bind ((na ρ).bind fun (t, ρ1) => match t, ρ1[i]? with
  | .sh d, some (some _) => (fb ρ1).bind fun (r, ρ2) => match look ρ2 r, ρ2[i]? with
    | some (.int k), some (some (.lst ts)) => match ixN ts.length k with
      | some j => match ts[j]? with
        | some (.sh _) => .ok (.nx (ρ2.set i (some (.lst (ts.set j (.sh d))))))
        | _ => .bad
      | none => .bad
    | _, _ => .bad
  | _, _ => .bad) k := rfl
theorem sSetIx_ap (i : Nat) (na : Env' → Res (T × Env')) (fb : Env' → Res (RV × Env')) (ρ : Env') : sSetIx i na fb ρ = ((na ρ).bind fun (t, ρ1) => match t, ρ1[i]? with
  | .sh d, some (some _) => (fb ρ1).bind fun (r, ρ2) => match look ρ2 r, ρ2[i]? with
    | some (.int k), some (some (.lst ts)) => match ixN ts.length k with
      | some j => match ts[j]? with
        | some (.sh _) => .ok (.nx (ρ2.set i (some (.lst (ts.set j (.sh d))))))
        | _ => .bad
      | none => .bad
    | _, _ => .bad
  | _, _ => .bad) := rfl
@[simp ↓] theorem sAugIx_bind {β : Type} (i : Nat) (g : D → D → Option D) (fb fa : Env' → Res (RV × Env')) (ρ : Env') (k : _ → Res β) : (sAugIx i g fb fa ρ).bind k = Res.bind (match ρ[i]? with
  | some (some _) => (fb ρ).bind fun (r, ρ1) => match look ρ1 r, ρ1[i]? with
    | some (.int k), some (some (.lst ts)) => match (ixN ts.length k).bind fun j => ts[j]? with
      | some (.sh d1) => (fa ρ1).bind fun (r2, ρ2) => (Res.of (look ρ2 r2)).bind fun d2 => (Res.of (g d1 d2)).bind fun d => match ρ2[i]? with
        | some (some (.lst ts2)) => match ixN ts2.length k with
          | some j => match ts2[j]? with
            | some (.sh _) => .ok (.nx (ρ2.set i (some (.lst (ts2.set j (.sh d))))))
            | _ => .bad
          | none => .bad
        | _ => .bad
      | _ => .bad
    | _, _ => .bad
  | _ => .bad) k := rfl
theorem sAugIx_ap (i : Nat) (g : D → D → Option D) (fb fa : Env' → Res (RV × Env')) (ρ : Env') : sAugIx i g fb fa ρ = (match ρ[i]? with
  | some (some _) => (fb ρ).bind fun (r, ρ1) => match look ρ1 r, ρ1[i]? with
    | some (.int k), some (some (.lst ts)) => match (ixN ts.length k).bind fun j => ts[j]? with
      | some (.sh d1) => (fa ρ1).bind fun (r2, ρ2) => (Res.of (look ρ2 r2)).bind fun d2 => (Res.of (g d1 d2)).bind fun d => match ρ2[i]? with
        | some (some (.lst ts2)) => match ixN ts2.length k with
          | some j => match ts2[j]? with
            | some (.sh _) => .ok (.nx (ρ2.set i (some (.lst (ts2.set j (.sh d))))))
            | _ => .bad
          | none => .bad
        | _ => .bad
      | _ => .bad
    | _, _ => .bad
  | _ => .bad) := rfl
@[simp ↓] theorem sRaise_bind {β : Type} (x : Str) (ρ : Env') (k : _ → Res β) : (sRaise x ρ).bind k = Res.bind (.exc x ρ) k := rfl
theorem sRaise_ap (x : Str) (ρ : Env') : sRaise x ρ = (.exc x ρ) := rfl
@[simp ↓] theorem iSeq_bind {β : Type} (fa : Env' → Res (RV × Env')) (ρ : Env') (k : _ → Res β) : (iSeq fa ρ).bind k = Res.bind ((fa ρ).bind fun (r, ρ1) => (Res.of (esc ρ1 r)).bind fun (d, ρ2) => (Res.of d.walk).bind fun ds => .ok (ds, ρ2)) k := rfl
theorem iSeq_ap (fa : Env' → Res (RV × Env')) (ρ : Env') : iSeq fa ρ = ((fa ρ).bind fun (r, ρ1) => (Res.of (esc ρ1 r)).bind fun (d, ρ2) => (Res.of d.walk).bind fun ds => .ok (ds, ρ2)) := rfl
@[simp ↓] theorem iRange1_bind {β : Type} (fs : Env' → Res (List RV × Env')) (ρ : Env') (k : _ → Res β) : (iRange1 fs ρ).bind k = Res.bind ((fs ρ).bind fun (rs, ρ1) => match looks ρ1 rs with
  | some [.int j] => if rOk j then .ok (rangeD 0 j.toNat, ρ1) else .bad
  | _ => .bad) k := rfl
theorem iRange1_ap (fs : Env' → Res (List RV × Env')) (ρ : Env') : iRange1 fs ρ = ((fs ρ).bind fun (rs, ρ1) => match looks ρ1 rs with
  | some [.int j] => if rOk j then .ok (rangeD 0 j.toNat, ρ1) else .bad
  | _ => .bad) := rfl
@[simp ↓] theorem iRange2_bind {β : Type} (fs : Env' → Res (List RV × Env')) (ρ : Env') (k : _ → Res β) : (iRange2 fs ρ).bind k = Res.bind ((fs ρ).bind fun (rs, ρ1) => match looks ρ1 rs with
  | some [.int i, .int j] => if rOk i ∧ rOk j then .ok (rangeD i (j - i).toNat, ρ1) else .bad
  | _ => .bad) k := rfl
theorem iRange2_ap (fs : Env' → Res (List RV × Env')) (ρ : Env') : iRange2 fs ρ = ((fs ρ).bind fun (rs, ρ1) => match looks ρ1 rs with
  | some [.int i, .int j] => if rOk i ∧ rOk j then .ok (rangeD i (j - i).toNat, ρ1) else .bad
  | _ => .bad) := rfl
@[simp ↓] theorem iEnum_bind {β : Type} (fa : Env' → Res (RV × Env')) (ρ : Env') (k : _ → Res β) : (iEnum fa ρ).bind k = Res.bind ((aConsE fa aNil ρ).bind fun (rs, ρ1) => match rs with
  | [.leaf d] => (Res.of d.walk).bind fun ds => .ok (enumFrom 0 ds, ρ1)
  | _ => .bad) k := rfl
theorem iEnum_ap (fa : Env' → Res (RV × Env')) (ρ : Env') : iEnum fa ρ = ((aConsE fa aNil ρ).bind fun (rs, ρ1) => match rs with
  | [.leaf d] => (Res.of d.walk).bind fun ds => .ok (enumFrom 0 ds, ρ1)
  | _ => .bad) := rfl
end
@[simp] theorem look_leaf (ρ : Env') (d : D) : look ρ (.leaf d) = some d := rfl
@[simp] theorem look_slot (ρ : Env') (i : Nat) : look ρ (.slot i) = (match ρ[i]? with | some (some t) => t.top | _ => none) := rfl
@[simp] theorem looks_nil (ρ : Env') : looks ρ [] = some [] := rfl
@[simp] theorem looks_cons (ρ : Env') (r : RV) (rs : List RV) : looks ρ (r :: rs) = (look ρ r).bind fun d => (looks ρ rs).map (d :: ·) := rfl
@[simp] theorem esc_leaf (ρ : Env') (d : D) : esc ρ (.leaf d) = some (d, ρ) := rfl
@[simp] theorem esc_slot (ρ : Env') (i : Nat) : esc ρ (.slot i) = (match ρ[i]? with | some (some t) => some (t.d, ρ.set i (some (.sh t.d))) | _ => none) := rfl
@[simp] theorem top_sh (d : D) : (T.sh d).top = some d := rfl
theorem top_lst (ds : List D) : (T.lst (ds.map T.sh)).top = some (.lst ds) := by simp [T.top, T.leaves_sh]
@[simp] theorem d_sh (d : D) : (T.sh d).d = d := rfl
theorem d_lst (ds : List D) : (T.lst (ds.map T.sh)).d = .lst ds := by rw [T.d, T.go_sh]
@[simp] theorem leafs_nil : eTup.leafs [] = some [] := rfl
@[simp] theorem leafs_cons (d : D) (rs : List RV) : eTup.leafs (.leaf d :: rs) = (eTup.leafs rs).map (d :: ·) := rfl
@[simp] theorem leafs_eq (rs : List RV) : leafs rs = eTup.leafs rs := rfl
/-! ### what comes of a mirror, where it comes to an end -/
structure Res.sat {α : Type} (r : Res α) (P : α → Prop) : Prop where
  of :: (h : match r with
    | .ok a => P a
    | _ => False)
@[simp] theorem sat_ok {α : Type} (a : α) (P : α → Prop) : (Res.ok a).sat P = P a := propext ⟨fun h => h.h, fun h => ⟨h⟩⟩
@[simp] theorem sat_bad {α : Type} (P : α → Prop) : (Res.bad : Res α).sat P = False := propext ⟨fun h => h.h, fun h => h.elim⟩
@[simp] theorem sat_exc {α : Type} (c : Str) (ρ : Env') (P : α → Prop) : (Res.exc c ρ : Res α).sat P = False := propext ⟨fun h => h.h, fun h => h.elim⟩
@[simp ↓] theorem eC_sat (d : D) (ρ : Env') (P : _ → Prop) : (eC d ρ).sat P = Res.sat (.ok (.leaf d, ρ)) P := rfl
@[simp ↓] theorem eVar_sat (i : Nat) (ρ : Env') (P : _ → Prop) : (eVar i ρ).sat P = Res.sat (match ρ[i]? with
  | some (some (.sh d)) => .ok (.leaf d, ρ)
  | some (some _) => .ok (.slot i, ρ)
  | _ => .bad) P := rfl
@[simp ↓] theorem eBin_sat (g : D → D → Option D) (fa fb : Env' → Res (RV × Env')) (ρ : Env') (P : _ → Prop) : (eBin g fa fb ρ).sat P = Res.sat ((fa ρ).bind fun (r1, ρ1) => (fb ρ1).bind fun (r2, ρ2) => (Res.of (look ρ2 r1)).bind fun d1 => (Res.of (look ρ2 r2)).bind fun d2 => (Res.of (g d1 d2)).bind fun d => .ok (.leaf d, ρ2)) P := rfl
@[simp ↓] theorem eUn_sat (g : D → Option D) (fa : Env' → Res (RV × Env')) (ρ : Env') (P : _ → Prop) : (eUn g fa ρ).sat P = Res.sat ((fa ρ).bind fun (r1, ρ1) => (Res.of (look ρ1 r1)).bind fun d1 => (Res.of (g d1)).bind fun d => .ok (.leaf d, ρ1)) P := rfl
@[simp ↓] theorem eB_sat (g : List D → Option D) (fs : Env' → Res (List RV × Env')) (ρ : Env') (P : _ → Prop) : (eB g fs ρ).sat P = Res.sat ((fs ρ).bind fun (rs, ρ1) => (Res.of (looks ρ1 rs)).bind fun ds => (Res.of (g ds)).bind fun d => .ok (.leaf d, ρ1)) P := rfl
@[simp ↓] theorem eTup_sat (fs : Env' → Res (List RV × Env')) (ρ : Env') (P : _ → Prop) : (eTup fs ρ).sat P = Res.sat ((fs ρ).bind fun (rs, ρ1) => (Res.of (leafs rs)).bind fun ds => if ds.length ≤ sizeLine then .ok (.leaf (.tup ds), ρ1) else .bad) P := rfl
@[simp ↓] theorem eAnd_sat (fa fb : Env' → Res (RV × Env')) (ρ : Env') (P : _ → Prop) : (eAnd fa fb ρ).sat P = Res.sat ((fa ρ).bind fun (r, ρ1) => match look ρ1 r with
  | some (.bl true) => fb ρ1
  | some (.bl false) => .ok (.leaf (.bl false), ρ1)
  | _ => .bad) P := rfl
@[simp ↓] theorem eOr_sat (fa fb : Env' → Res (RV × Env')) (ρ : Env') (P : _ → Prop) : (eOr fa fb ρ).sat P = Res.sat ((fa ρ).bind fun (r, ρ1) => match look ρ1 r with
  | some (.bl false) => fb ρ1
  | some (.bl true) => .ok (.leaf (.bl true), ρ1)
  | _ => .bad) P := rfl
@[simp ↓] theorem eNot_sat (fa : Env' → Res (RV × Env')) (ρ : Env') (P : _ → Prop) : (eNot fa ρ).sat P = Res.sat ((fa ρ).bind fun (r, ρ1) => match look ρ1 r with
  | some (.bl b) => .ok (.leaf (.bl (!b)), ρ1)
  | _ => .bad) P := rfl
@[simp ↓] theorem eIf_sat (tc : Env' → Res (Bool × Env')) (fa fb : Env' → Res (RV × Env')) (ρ : Env') (P : _ → Prop) : (eIf tc fa fb ρ).sat P = Res.sat ((tc ρ).bind fun (b, ρ1) => if b = true then fa ρ1 else fb ρ1) P := rfl
@[simp ↓] theorem eChain_sat (g g' : D → D → Option D) (fa fb fc : Env' → Res (RV × Env')) (ρ : Env') (P : _ → Prop) : (eChain g g' fa fb fc ρ).sat P = Res.sat ((fa ρ).bind fun (r1, ρ1) => (fb ρ1).bind fun (r2, ρ2) => (Res.of (look ρ2 r1)).bind fun d1 => (Res.of (look ρ2 r2)).bind fun d2 => match g d1 d2 with
    | some (.bl true) => (fc ρ2).bind fun (r3, ρ3) => (Res.of (look ρ3 r2)).bind fun d2 => (Res.of (look ρ3 r3)).bind fun d3 => (Res.of (g' d2 d3)).bind fun d => .ok (.leaf d, ρ3)
    | some (.bl false) => .ok (.leaf (.bl false), ρ2)
    | _ => .bad) P := rfl
@[simp ↓] theorem eSl_sat (fa : Env' → Res (RV × Env')) (fl fh : Env' → Res (Option Int × Env')) (ρ : Env') (P : _ → Prop) : (eSl fa fl fh ρ).sat P = Res.sat ((fa ρ).bind fun (r, ρ1) => (fl ρ1).bind fun (lo, ρ2) => (fh ρ2).bind fun (hi, ρ3) => (Res.of ((look ρ3 r).bind (D.sl lo hi))).bind fun d => .ok (.leaf d, ρ3)) P := rfl
@[simp ↓] theorem oOf_sat (na : Env' → Res (T × Env')) (ρ : Env') (P : _ → Prop) : (oOf na ρ).sat P = Res.sat ((na ρ).bind fun (t, ρ1) => .ok (.leaf t.d, ρ1)) P := rfl
@[simp ↓] theorem nOf_sat (fa : Env' → Res (RV × Env')) (ρ : Env') (P : _ → Prop) : (nOf fa ρ).sat P = Res.sat ((fa ρ).bind fun (r, ρ1) => (Res.of (esc ρ1 r)).bind fun (d, ρ2) => .ok (.sh d, ρ2)) P := rfl
@[simp ↓] theorem nB_sat (g : List D → Option (List D)) (fs : Env' → Res (List RV × Env')) (ρ : Env') (P : _ → Prop) : (nB g fs ρ).sat P = Res.sat ((fs ρ).bind fun (rs, ρ1) => (Res.of (looks ρ1 rs)).bind fun ds => (Res.of (g ds)).bind fun es => .ok (.lst (es.map T.sh), ρ1)) P := rfl
@[simp ↓] theorem nLst_sat (ns : Env' → Res (List T × Env')) (ρ : Env') (P : _ → Prop) : (nLst ns ρ).sat P = Res.sat ((ns ρ).bind fun (ts, ρ1) => if ts.length ≤ sizeLine then .ok (.lst ts, ρ1) else .bad) P := rfl
@[simp ↓] theorem nBin_sat (g : D → D → Option (List D)) (fa fb : Env' → Res (RV × Env')) (ρ : Env') (P : _ → Prop) : (nBin g fa fb ρ).sat P = Res.sat ((fa ρ).bind fun (r1, ρ1) => (fb ρ1).bind fun (r2, ρ2) => (Res.of (look ρ2 r1)).bind fun d1 => (Res.of (look ρ2 r2)).bind fun d2 => (Res.of (g d1 d2)).bind fun es => .ok (.lst (es.map T.sh), ρ2)) P := rfl
@[simp ↓] theorem nSl_sat (fa : Env' → Res (RV × Env')) (fl fh : Env' → Res (Option Int × Env')) (ρ : Env') (P : _ → Prop) : (nSl fa fl fh ρ).sat P = Res.sat ((fa ρ).bind fun (r, ρ1) => (fl ρ1).bind fun (lo, ρ2) => (fh ρ2).bind fun (hi, ρ3) => match look ρ3 r with
    | some (.lst ds) => .ok (.lst ((cutD ds lo hi).map T.sh), ρ3)
    | some (.fz ds) => .ok (.lst ((cutD ds lo hi).map T.sh), ρ3)
    | _ => .bad) P := rfl
@[simp ↓] theorem nIf_sat (tc : Env' → Res (Bool × Env')) (na nb : Env' → Res (T × Env')) (ρ : Env') (P : _ → Prop) : (nIf tc na nb ρ).sat P = Res.sat ((tc ρ).bind fun (b, ρ1) => if b = true then na ρ1 else nb ρ1) P := rfl
@[simp ↓] theorem nLc_sat (fi : Env' → Res (List D × Env')) (gt : D → Env' → Option Env') (tt : Env' → Res (Bool × Env')) (ne : Env' → Res (T × Env')) (vs : List Nat) (ρ : Env') (P : _ → Prop) : (nLc fi gt tt ne vs ρ).sat P = Res.sat ((fi ρ).bind fun (ds, ρ1) => if ds.length ≤ sizeLine then (lcGo gt tt ne vs ds (wipeE ρ1 vs)).bind fun (ts, ρ2) => .ok (.lst ts, backE ρ1 ρ2 vs) else .bad) P := rfl
@[simp ↓] theorem eM_sat (T : String) (g : D → List D → Option D) (fa : Env' → Res (RV × Env')) (fs : Env' → Res (List RV × Env')) (ρ : Env') (P : _ → Prop) : (eM T g fa fs ρ).sat P = Res.sat ((fa ρ).bind fun (r, ρ1) => (Res.of (look ρ1 r)).bind fun d0 => if D.isTy T d0 = true then (fs ρ1).bind fun (rs, ρ2) => (Res.of (look ρ2 r)).bind fun d => (Res.of (looks ρ2 rs)).bind fun ds => (Res.of (g d ds)).bind fun e => .ok (.leaf e, ρ2) else .bad) P := rfl
@[simp ↓] theorem eCall_sat (m : List D → Out D) (fs : Env' → Res (List RV × Env')) (ρ : Env') (P : _ → Prop) : (eCall m fs ρ).sat P = Res.sat ((fs ρ).bind fun (rs, ρ1) => (Res.of (leafs rs)).bind fun ds => match m ds with
  | .ok d => .ok (.leaf d, ρ1)
  | .exc c => .exc c ρ1
  | .bad => .bad) P := rfl
@[simp ↓] theorem nCall_sat (m : List D → Out T) (fs : Env' → Res (List RV × Env')) (ρ : Env') (P : _ → Prop) : (nCall m fs ρ).sat P = Res.sat ((fs ρ).bind fun (rs, ρ1) => (Res.of (leafs rs)).bind fun ds => match m ds with
  | .ok t => .ok (t, ρ1)
  | .exc c => .exc c ρ1
  | .bad => .bad) P := rfl
@[simp ↓] theorem ePop_sat (i : Nat) (ρ : Env') (P : _ → Prop) : (ePop i ρ).sat P = Res.sat (match ρ[i]? with
  | some (some (.lst ts)) => match ts[ts.length - 1]? with
    | some (.sh d) => .ok (.leaf d, ρ.set i (some (.lst ts.dropLast)))
    | _ => .bad
  | _ => .bad) P := rfl
@[simp ↓] theorem aNil_sat (ρ : Env') (P : _ → Prop) : (aNil  ρ).sat P = Res.sat (.ok ([], ρ)) P := rfl
@[simp ↓] theorem aCons_sat (fa : Env' → Res (RV × Env')) (fr : Env' → Res (List RV × Env')) (ρ : Env') (P : _ → Prop) : (aCons fa fr ρ).sat P = Res.sat ((fa ρ).bind fun (r, ρ1) => (fr ρ1).bind fun (rs, ρ2) => .ok (r :: rs, ρ2)) P := rfl
@[simp ↓] theorem aConsE_sat (fa : Env' → Res (RV × Env')) (fr : Env' → Res (List RV × Env')) (ρ : Env') (P : _ → Prop) : (aConsE fa fr ρ).sat P = Res.sat ((fa ρ).bind fun (r, ρ1) => (Res.of (esc ρ1 r)).bind fun (d, ρ1') => (fr ρ1').bind fun (rs, ρ2) => .ok (.leaf d :: rs, ρ2)) P := rfl
@[simp ↓] theorem atNil_sat (ρ : Env') (P : _ → Prop) : (atNil  ρ).sat P = Res.sat (.ok ([], ρ)) P := rfl
@[simp ↓] theorem atCons_sat (na : Env' → Res (T × Env')) (nr : Env' → Res (List T × Env')) (ρ : Env') (P : _ → Prop) : (atCons na nr ρ).sat P = Res.sat ((na ρ).bind fun (t, ρ1) => (nr ρ1).bind fun (ts, ρ2) => .ok (t :: ts, ρ2)) P := rfl
@[simp ↓] theorem tstV_sat (fa : Env' → Res (RV × Env')) (ρ : Env') (P : _ → Prop) : (tstV fa ρ).sat P = Res.sat ((fa ρ).bind fun (r, ρ1) => match look ρ1 r with
  | some (.bl b) => .ok (b, ρ1)
  | _ => .bad) P := rfl
@[simp ↓] theorem tstT_sat (fa : Env' → Res (RV × Env')) (ρ : Env') (P : _ → Prop) : (tstT fa ρ).sat P = Res.sat ((fa ρ).bind fun (r, ρ1) => (Res.of ((look ρ1 r).bind D.truth)).bind fun b => .ok (b, ρ1)) P := rfl
@[simp ↓] theorem tstNot_sat (ta : Env' → Res (Bool × Env')) (ρ : Env') (P : _ → Prop) : (tstNot ta ρ).sat P = Res.sat ((ta ρ).bind fun (b, ρ1) => .ok (!b, ρ1)) P := rfl
@[simp ↓] theorem tstAnd_sat (ta tb : Env' → Res (Bool × Env')) (ρ : Env') (P : _ → Prop) : (tstAnd ta tb ρ).sat P = Res.sat ((ta ρ).bind fun (b, ρ1) => if b = true then tb ρ1 else .ok (false, ρ1)) P := rfl
@[simp ↓] theorem tstOr_sat (ta tb : Env' → Res (Bool × Env')) (ρ : Env') (P : _ → Prop) : (tstOr ta tb ρ).sat P = Res.sat ((ta ρ).bind fun (b, ρ1) => if b = true then .ok (true, ρ1) else tb ρ1) P := rfl
@[simp ↓] theorem pNone_sat (ρ : Env') (P : _ → Prop) : (pNone  ρ).sat P = Res.sat (.ok (none, ρ)) P := rfl
@[simp ↓] theorem pSome_sat (fa : Env' → Res (RV × Env')) (ρ : Env') (P : _ → Prop) : (pSome fa ρ).sat P = Res.sat ((fa ρ).bind fun (r, ρ1) => match look ρ1 r with
  | some (.int i) => .ok (some i, ρ1)
  | _ => .bad) P := rfl
@[simp ↓] theorem ttYes_sat (ρ : Env') (P : _ → Prop) : (ttYes  ρ).sat P = Res.sat (.ok (true, ρ)) P := rfl
@[simp ↓] theorem sNil_sat (ρ : Env') (P : _ → Prop) : (sNil  ρ).sat P = Res.sat (.ok (.nx ρ)) P := rfl
@[simp ↓] theorem sSeq_sat (f g : Env' → Res Fl) (ρ : Env') (P : _ → Prop) : (sSeq f g ρ).sat P = Res.sat ((f ρ).bind fun r => match r with
  | .nx ρ' => g ρ'
  | r => .ok r) P := rfl
@[simp ↓] theorem sExpr_sat (fa : Env' → Res (RV × Env')) (ρ : Env') (P : _ → Prop) : (sExpr fa ρ).sat P = Res.sat ((fa ρ).bind fun (_, ρ1) => .ok (.nx ρ1)) P := rfl
@[simp ↓] theorem sSet_sat (i : Nat) (na : Env' → Res (T × Env')) (ρ : Env') (P : _ → Prop) : (sSet i na ρ).sat P = Res.sat ((na ρ).bind fun (t, ρ1) => if i < ρ1.length then .ok (.nx (ρ1.set i (some t))) else .bad) P := rfl
@[simp ↓] theorem sRet_sat (na : Env' → Res (T × Env')) (ρ : Env') (P : _ → Prop) : (sRet na ρ).sat P = Res.sat ((na ρ).bind fun (t, ρ1) => .ok (.rt t ρ1)) P := rfl
@[simp ↓] theorem sRetN_sat (ρ : Env') (P : _ → Prop) : (sRetN  ρ).sat P = Res.sat (.ok (.rt (.sh .non) ρ)) P := rfl
@[simp ↓] theorem sRetOwn_sat (i : Nat) (ρ : Env') (P : _ → Prop) : (sRetOwn i ρ).sat P = Res.sat (match ρ[i]? with
  | some (some t) => .ok (.rt t (ρ.set i none))
  | _ => .bad) P := rfl
@[simp ↓] theorem sIf_sat (ta : Env' → Res (Bool × Env')) (f g : Env' → Res Fl) (ρ : Env') (P : _ → Prop) : (sIf ta f g ρ).sat P = Res.sat ((ta ρ).bind fun (b, ρ1) => if b = true then f ρ1 else g ρ1) P := rfl
@[simp ↓] theorem sBk_sat (ρ : Env') (P : _ → Prop) : (sBk  ρ).sat P = Res.sat (.ok (.bk ρ)) P := rfl
@[simp ↓] theorem sCt_sat (ρ : Env') (P : _ → Prop) : (sCt  ρ).sat P = Res.sat (.ok (.ct ρ)) P := rfl
@[simp ↓] theorem sFor_sat (fi : Env' → Res (List D × Env')) (gt : D → Env' → Option Env') (f : Env' → Res Fl) (ρ : Env') (P : _ → Prop) : (sFor fi gt f ρ).sat P = Res.sat ((fi ρ).bind fun (ds, ρ1) => forGo gt f ds ρ1) P := rfl
@[simp ↓] theorem sUnpack_sat (fa : Env' → Res (RV × Env')) (gt : D → Env' → Option Env') (ρ : Env') (P : _ → Prop) : (sUnpack fa gt ρ).sat P = Res.sat ((fa ρ).bind fun (r, ρ1) => (Res.of (esc ρ1 r)).bind fun (d, ρ2) => (Res.of (gt d ρ2)).bind fun ρ3 => .ok (.nx ρ3)) P := rfl
@[simp ↓] theorem sPar_sat (i j : Nat) (fs : Env' → Res (List RV × Env')) (ρ : Env') (P : _ → Prop) : (sPar i j fs ρ).sat P = Res.sat ((fs ρ).bind fun (rs, ρ1) => match rs with
  | [.leaf d, .leaf e] => if i < ρ1.length ∧ j < ρ1.length then .ok (.nx ((ρ1.set i (some (.sh d))).set j (some (.sh e)))) else .bad
  | _ => .bad) P := rfl
@[simp ↓] theorem sAug_sat (i : Nat) (g : D → D → Option D) (fa : Env' → Res (RV × Env')) (ρ : Env') (P : _ → Prop) : (sAug i g fa ρ).sat P = Res.sat (match ρ[i]? with
  | some (some (.sh d1)) => (fa ρ).bind fun (r, ρ1) => (Res.of (look ρ1 r)).bind fun d2 => (Res.of (g d1 d2)).bind fun d => if i < ρ1.length then .ok (.nx (ρ1.set i (some (.sh d)))) else .bad
  | _ => .bad) P := rfl
@[simp ↓] theorem sAppend_sat (i : Nat) (na : Env' → Res (T × Env')) (ρ : Env') (P : _ → Prop) : (sAppend i na ρ).sat P = Res.sat (match ρ[i]? with
  | some (some (.lst _)) => (na ρ).bind fun (t, ρ1) => match ρ1[i]? with
    | some (some (.lst ts)) => if ts.length < sizeLine then .ok (.nx (ρ1.set i (some (.lst (ts ++ [t]))))) else .bad
    | _ => .bad
  | _ => .bad) P := rfl
@[simp ↓] theorem sExtend_sat (i : Nat) (fa : Env' → Res (RV × Env')) (ρ : Env') (P : _ → Prop) : (sExtend i fa ρ).sat P = Res.sat (match ρ[i]? with
  | some (some (.lst _)) => (fa ρ).bind fun (r, ρ1) => match look ρ1 r with
    | some (.lst ds) => match ρ1[i]? with
      | some (some (.lst ts)) => if ts.length + ds.length ≤ sizeLine then .ok (.nx (ρ1.set i (some (.lst (ts ++ ds.map T.sh))))) else .bad
      | _ => .bad
    | _ => .bad
  | _ => .bad) P := rfl
@[simp ↓] theorem sSetIx_sat (i : Nat) (na : Env' → Res (T × Env')) (fb : Env' → Res (RV × Env')) (ρ : Env') (P : _ → Prop) : (sSetIx i na fb ρ).sat P = Res.sat ((na ρ).bind fun (t, ρ1) => match t, ρ1[i]? with
  | .sh d, some (some _) => (fb ρ1).bind fun (r, ρ2) => match look ρ2 r, ρ2[i]? with
    | some (.int k), some (some (.lst ts)) => match ixN ts.length k with
      | some j => match ts[j]? with
        | some (.sh _) => .ok (.nx (ρ2.set i (some (.lst (ts.set j (.sh d))))))
        | _ => .bad
      | none => .bad
    | _, _ => .bad
  | _, _ => .bad) P := rfl
@[simp ↓] theorem sAugIx_sat (i : Nat) (g : D → D → Option D) (fb fa : Env' → Res (RV × Env')) (ρ : Env') (P : _ → Prop) : (sAugIx i g fb fa ρ).sat P = Res.sat (match ρ[i]? with
  | some (some _) => (fb ρ).bind fun (r, ρ1) => match look ρ1 r, ρ1[i]? with
    | some (.int k), some (some (.lst ts)) => match (ixN ts.length k).bind fun j => ts[j]? with
      | some (.sh d1) => (fa ρ1).bind fun (r2, ρ2) => (Res.of (look ρ2 r2)).bind fun d2 => (Res.of (g d1 d2)).bind fun d => match ρ2[i]? with
        | some (some (.lst ts2)) => match ixN ts2.length k with
          | some j => match ts2[j]? with
            | some (.sh _) => .ok (.nx (ρ2.set i (some (.lst (ts2.set j (.sh d))))))
            | _ => .bad
          | none => .bad
        | _ => .bad
      | _ => .bad
    | _, _ => .bad
  | _ => .bad) P := rfl
@[simp ↓] theorem sRaise_sat (x : Str) (ρ : Env') (P : _ → Prop) : (sRaise x ρ).sat P = Res.sat (.exc x ρ) P := rfl
@[simp ↓] theorem iSeq_sat (fa : Env' → Res (RV × Env')) (ρ : Env') (P : _ → Prop) : (iSeq fa ρ).sat P = Res.sat ((fa ρ).bind fun (r, ρ1) => (Res.of (esc ρ1 r)).bind fun (d, ρ2) => (Res.of d.walk).bind fun ds => .ok (ds, ρ2)) P := rfl
@[simp ↓] theorem iRange1_sat (fs : Env' → Res (List RV × Env')) (ρ : Env') (P : _ → Prop) : (iRange1 fs ρ).sat P = Res.sat ((fs ρ).bind fun (rs, ρ1) => match looks ρ1 rs with
  | some [.int j] => if rOk j then .ok (rangeD 0 j.toNat, ρ1) else .bad
  | _ => .bad) P := rfl
@[simp ↓] theorem iRange2_sat (fs : Env' → Res (List RV × Env')) (ρ : Env') (P : _ → Prop) : (iRange2 fs ρ).sat P = Res.sat ((fs ρ).bind fun (rs, ρ1) => match looks ρ1 rs with
  | some [.int i, .int j] => if rOk i ∧ rOk j then .ok (rangeD i (j - i).toNat, ρ1) else .bad
  | _ => .bad) P := rfl
@[simp ↓] theorem iEnum_sat (fa : Env' → Res (RV × Env')) (ρ : Env') (P : _ → Prop) : (iEnum fa ρ).sat P = Res.sat ((aConsE fa aNil ρ).bind fun (rs, ρ1) => match rs with
  | [.leaf d] => (Res.of d.walk).bind fun ds => .ok (enumFrom 0 ds, ρ1)
  | _ => .bad) P := rfl
@[simp ↓] theorem sat_ite_bind {α β : Type} (c : Prop) [Decidable c] (x y : Res α) (k : α → Res β) (P : β → Prop) : ((if c then x else y).bind k).sat P = ((c → (x.bind k).sat P) ∧ (¬ c → (y.bind k).sat P)) := by
  by_cases h : c <;> simp [h]
@[simp ↓] theorem sat_ite2 {α : Type} (c : Prop) [Decidable c] (x y : Res α) (P : α → Prop) : (if c then x else y).sat P = ((c → x.sat P) ∧ (¬ c → y.sat P)) := by
  by_cases h : c <;> simp [h]
@[simp ↓ high] theorem sat_if_bind {α β : Type} (c : Prop) [Decidable c] (x : Res α) (k : α → Res β) (P : β → Prop) : ((if c then x else Res.bad).bind k).sat P = (c ∧ (x.bind k).sat P) := by
  by_cases h : c <;> simp [h]
@[simp ↓ high] theorem sat_if2 {α : Type} (c : Prop) [Decidable c] (x : Res α) (P : α → Prop) : (if c then x else Res.bad).sat P = (c ∧ x.sat P) := by
  by_cases h : c <;> simp [h]
@[simp ↓ high] theorem sat_of_if {α β : Type} (c : Prop) [Decidable c] (x : α) (k : α → Res β) (P : β → Prop) : ((Res.of (if c then some x else none)).bind k).sat P = (c ∧ (k x).sat P) := by
  by_cases h : c <;> simp [h]
theorem sat_bind {α β : Type} {x : Res α} {k : α → Res β} {P : β → Prop} (Q : α → Prop) (h : x.sat Q) (h2 : ∀ a, Q a → (k a).sat P) : (x.bind k).sat P := by
  cases x with
  | ok a => exact h2 a h.h
  | exc c ρ => exact h.h.elim
  | bad => exact h.h.elim
theorem sat_mono {α : Type} {x : Res α} {P Q : α → Prop} (h : x.sat Q) (i : ∀ a, Q a → P a) : x.sat P := by
  cases x with
  | ok a => exact ⟨i a h.h⟩
  | exc c ρ => exact h.h.elim
  | bad => exact h.h.elim
theorem sat_eq {α : Type} {x : Res α} {P : α → Prop} (h : x.sat P) : ∃ a, x = .ok a ∧ P a := by
  cases x with
  | ok a => exact ⟨a, rfl, h.h⟩
  | exc c ρ => exact h.h.elim
  | bad => exact h.h.elim
/-- a statement, then the rest; Q: where the statement is passed -/
theorem sat_seq {f g : Env' → Res Fl} {ρ : Env'} {P : Fl → Prop} (Q : Env' → Prop) (h : (f ρ).sat fun r => ∃ ρ', r = .nx ρ' ∧ Q ρ') (h2 : ∀ ρ', Q ρ' → (g ρ').sat P) : (sSeq f g ρ).sat P := by
  rw [sSeq_ap]
  exact sat_bind _ h fun a ⟨ρ', e, q⟩ => by subst e; exact h2 ρ' q
theorem sat_seqR {f g : Env' → Res Fl} {ρ : Env'} {P : Fl → Prop} (Q : Env' → Prop) (h : (f ρ).sat fun r => match r with
    | .nx ρ' => Q ρ'
    | r => P r) (h2 : ∀ ρ', Q ρ' → (g ρ').sat P) : (sSeq f g ρ).sat P := by
  rw [sSeq_ap]
  refine sat_bind _ h fun a h => ?_
  cases a with
  | nx ρ' => exact h2 ρ' h
  | rt t ρ' => exact ⟨h⟩
  | bk ρ' => exact ⟨h⟩
  | ct ρ' => exact ⟨h⟩
/-- a loop: I at each turn; R what is told when it returns; B behind a break -/
theorem sat_for {gt : D → Env' → Option Env'} {f : Env' → Res Fl} {P : Fl → Prop} (I : Nat → Env' → Prop) : ∀ {ds : List D} {ρ : Env'} (n : Nat), I n ρ →
    (∀ i d ρ, ds[i]? = some d → I (n + i) ρ → ∃ ρ1, gt d ρ = some ρ1 ∧ (f ρ1).sat fun r => match r with
      | .nx ρ' => I (n + i + 1) ρ'
      | .ct ρ' => I (n + i + 1) ρ'
      | .bk ρ' => P (.nx ρ')
      | .rt t ρ' => P (.rt t ρ')) →
    (∀ ρ, I (n + ds.length) ρ → P (.nx ρ)) → (forGo gt f ds ρ).sat P
  | [], ρ, n, h0, _, h2 => ⟨h2 ρ h0⟩
  | d :: ds, ρ, n, h0, h1, h2 => by
    rw [forGo]
    obtain ⟨ρ1, e1, s1⟩ := h1 0 d ρ rfl h0
    rw [e1]
    simp only [of_some, bind_ok]
    refine sat_bind _ s1 fun r hr => ?_
    have next : ∀ ρ', I (n + 0 + 1) ρ' → (forGo gt f ds ρ').sat P := fun ρ' q => sat_for I (n + 1) (by simpa using q) (fun i d' ρ2 hd hi => by
      have := h1 (i + 1) d' ρ2 (by simpa using hd) (by rw [show n + (i + 1) = n + 1 + i by omega]; exact hi)
      rw [show n + (i + 1) = n + 1 + i by omega] at this
      exact this) (fun ρ q => h2 ρ (by rw [List.length_cons, show n + (ds.length + 1) = n + 1 + ds.length by omega]; exact q))
    cases r with
    | nx ρ' => exact next ρ' hr
    | ct ρ' => exact next ρ' hr
    | bk ρ' => exact ⟨hr⟩
    | rt t ρ' => exact ⟨hr⟩
theorem range_get {lo : Int} {n i : Nat} {d : D} (h : (rangeD lo n)[i]? = some d) : d = .int (lo + i) ∧ i < n := by
  unfold rangeD at h
  rw [List.getElem?_map] at h
  cases e : (List.range n)[i]? with
  | none => rw [e] at h; cases h
  | some k =>
    rw [e] at h
    obtain ⟨hk, ek⟩ := List.getElem?_eq_some_iff.mp e
    rw [List.getElem_range] at ek
    subst ek
    cases h
    exact ⟨rfl, by simpa using hk⟩
@[simp] theorem range_length (lo : Int) (n : Nat) : (rangeD lo n).length = n := by simp [rangeD]
/-- a while by a measure -/
theorem sat_while {ta : Env' → Res (Bool × Env')} {f : Env' → Res Fl} {P : Fl → Prop} (I : Nat → Env' → Prop) (h : ∀ n ρ, I n ρ → (ta ρ).sat fun (b, ρ1) => if b = true then (f ρ1).sat fun r => match r with
      | .nx ρ' => ∃ m, m < n ∧ I m ρ'
      | .ct ρ' => ∃ m, m < n ∧ I m ρ'
      | .bk ρ' => P (.nx ρ')
      | .rt t ρ' => P (.rt t ρ') else P (.nx ρ1)) : ∀ (n : Nat) {ρ : Env'}, I n ρ → (sWhile ta f ρ).sat P := by
  intro n
  induction n using Nat.strongRecOn with
  | ind n ih =>
    intro ρ hi
    rw [sWhile_step]
    refine sat_bind _ (h n ρ hi) fun (b, ρ1) q => ?_
    cases b with
    | false => simpa using q
    | true =>
      simp only [if_true] at q ⊢
      refine sat_bind _ q fun r hr => ?_
      cases r with
      | nx ρ' => obtain ⟨m, hm, hi'⟩ := hr; exact ih m hm hi'
      | ct ρ' => obtain ⟨m, hm, hi'⟩ := hr; exact ih m hm hi'
      | bk ρ' => exact ⟨hr⟩
      | rt t ρ' => exact ⟨hr⟩
theorem mirP_sat {np nN : Nat} {b : Env' → Res Fl} {ds : List D} {P : D → Prop} (hl : ds.length = np) (h : (b (startE nN ds)).sat fun r => match r with
    | .nx _ => P .non
    | .rt (.sh d) _ => P d
    | _ => False) : ∃ d, mirP np nN b ds = .ok d ∧ P d := by
  obtain ⟨r, e, q⟩ := sat_eq h
  unfold mirP
  rw [if_pos hl, e]
  cases r with
  | nx ρ => exact ⟨_, rfl, q⟩
  | rt t ρ =>
    cases t with
    | sh d => exact ⟨_, rfl, q⟩
    | _ => exact q.elim
  | bk ρ => exact q.elim
  | ct ρ => exact q.elim
theorem atI_pos {α : Type} (xs : List α) (i : Int) (h : 0 ≤ i) : L2.atI xs i = xs[i.toNat]? := by
  unfold L2.atI L2.ixN
  rw [if_pos h]
  split
  · rfl
  · rename_i q
    rw [List.getElem?_eq_none_iff.mpr (by omega)]
    rfl
theorem mulOk_l {i j : Int} (h : -(2 ^ 64) < i ∧ i < 2 ^ 64) : mulOk i j := .inl (.inl h)
theorem mulOk_r {i j : Int} (h : -(2 ^ 64) < j ∧ j < 2 ^ 64) : mulOk i j := .inl (.inr h)
theorem log_small {j : Int} (h0 : 0 < j) (h : j < 2 ^ 64) : j.natAbs.log2 < 9000 := by
  have : j.natAbs < 2 ^ 64 := by omega
  exact Nat.lt_trans (PySem.Flt.log2_lt_of (by decide) this) (by decide)
/-! ### operations on data, kind by kind -/
@[simp] theorem add_int (i j : Int) : D.add (.int i) (.int j) = some (.int (i + j)) := rfl
@[simp] theorem sub_int (i j : Int) : D.sub (.int i) (.int j) = some (.int (i - j)) := rfl
@[simp] theorem mul_int (i j : Int) : D.mul (.int i) (.int j) = if mulOk i j then some (.int (i * j)) else none := rfl
@[simp] theorem fdiv_int (i j : Int) : D.fdiv (.int i) (.int j) = if 0 < j ∧ j.natAbs.log2 < 9000 then some (.int (i / j)) else none := rfl
@[simp] theorem mod_int (i j : Int) : D.mod (.int i) (.int j) = if 0 < j then some (.int (i % j)) else none := rfl
@[simp] theorem pow_int (i j : Int) : D.pow (.int i) (.int j) = if 0 ≤ j ∧ j ≤ 1000000 ∧ i.natAbs < 2 ^ 64 then some (.int (i ^ j.toNat)) else none := rfl
@[simp] theorem lt_int (i j : Int) : D.lt (.int i) (.int j) = some (.bl (decide (i < j))) := rfl
@[simp] theorem le_int (i j : Int) : D.le (.int i) (.int j) = some (.bl (decide (i ≤ j))) := rfl
@[simp] theorem gt_int (i j : Int) : D.gt (.int i) (.int j) = some (.bl (decide (j < i))) := rfl
@[simp] theorem ge_int (i j : Int) : D.ge (.int i) (.int j) = some (.bl (decide (j ≤ i))) := rfl
@[simp] theorem neg_int (i : Int) : D.neg (.int i) = some (.int (-i)) := rfl
@[simp] theorem is_non (d : D) : D.is d .non = some (.bl d.isNon) := by cases d <;> rfl
@[simp] theorem isnt_non (d : D) : D.isnt d .non = some (.bl (!d.isNon)) := by cases d <;> rfl
@[simp] theorem is_bl (a b : Bool) : D.is (.bl a) (.bl b) = some (.bl (decide (a = b))) := rfl
@[simp] theorem isnt_bl (a b : Bool) : D.isnt (.bl a) (.bl b) = some (.bl (!decide (a = b))) := rfl
@[simp] theorem isNon_non : D.isNon .non = true := rfl
@[simp] theorem isNon_int (i : Int) : D.isNon (.int i) = false := rfl
@[simp] theorem isNon_str (x : Str) : D.isNon (.str x) = false := rfl
@[simp] theorem isNon_bl (x : Bool) : D.isNon (.bl x) = false := rfl
@[simp] theorem isNon_tup (x : List D) : D.isNon (.tup x) = false := rfl
@[simp] theorem isNon_lst (x : List D) : D.isNon (.lst x) = false := rfl
@[simp] theorem len_lst (ds : List D) : D.len [.lst ds] = some (.int ds.length) := rfl
@[simp] theorem len_fz (ds : List D) : D.len [.fz ds] = some (.int ds.length) := rfl
@[simp] theorem len_tup (ds : List D) : D.len [.tup ds] = some (.int ds.length) := rfl
@[simp] theorem len_str (x : Str) : D.len [.str x] = some (.int x.length) := rfl
@[simp] theorem toInt_int (i : Int) : D.toInt [.int i] = some (.int i) := rfl
@[simp] theorem toInt_bl (b : Bool) : D.toInt [.bl b] = some (.int (if b then 1 else 0)) := rfl
@[simp] theorem toTup_lst (ds : List D) : D.toTup [.lst ds] = some (.tup ds) := rfl
@[simp] theorem toTup_tup (ds : List D) : D.toTup [.tup ds] = some (.tup ds) := rfl
@[simp] theorem toLst_lst (ds : List D) : D.toLst [.lst ds] = some ds := rfl
@[simp] theorem toLst_tup (ds : List D) : D.toLst [.tup ds] = some ds := rfl
@[simp] theorem toLst_fz (ds : List D) : D.toLst [.fz ds] = some ds := rfl
@[simp] theorem ix_lst (ds : List D) (i : Int) : D.ix (.lst ds) (.int i) = L2.atI ds i := rfl
@[simp] theorem ix_fz (ds : List D) (i : Int) : D.ix (.fz ds) (.int i) = L2.atI ds i := rfl
@[simp] theorem ix_tup (ds : List D) (i : Int) : D.ix (.tup ds) (.int i) = L2.atI ds i := rfl
@[simp] theorem ix_str (x : Str) (i : Int) : D.ix (.str x) (.int i) = (L2.atI x.cps.toList i).map fun c => .str ⟨#[c]⟩ := rfl
@[simp] theorem walk_lst (ds : List D) : D.walk (.lst ds) = some ds := rfl
@[simp] theorem walk_fz (ds : List D) : D.walk (.fz ds) = some ds := rfl
@[simp] theorem walk_tup (ds : List D) : D.walk (.tup ds) = some ds := rfl
@[simp] theorem walk_str (x : Str) : D.walk (.str x) = some (signs x) := rfl
@[simp] theorem truth_bl (b : Bool) : D.truth (.bl b) = some b := rfl
@[simp] theorem truth_int (i : Int) : D.truth (.int i) = some (i != 0) := rfl
@[simp] theorem truth_non : D.truth .non = some false := rfl
@[simp] theorem truth_lst (xs : List D) : D.truth (.lst xs) = some (!xs.isEmpty) := rfl
@[simp] theorem iadd_int (i j : Int) : D.iadd (.int i) (.int j) = some (.int (i + j)) := rfl
@[simp] theorem all_bls (bs : List Bool) : D.all [.lst (bs.map D.bl)] = some (.bl (bs.all id)) := by simp [D.all]
@[simp] theorem any_bls (bs : List Bool) : D.any [.lst (bs.map D.bl)] = some (.bl (bs.any id)) := by simp [D.any]
theorem atI_map {α β : Type} (f : α → β) (xs : List α) (i : Int) : L2.atI (xs.map f) i = (L2.atI xs i).map f := by
  unfold L2.atI
  rw [List.length_map]
  cases L2.ixN xs.length i with
  | none => rfl
  | some j => simp
theorem atI_in {α : Type} {xs : List α} {i : Int} (h : 0 ≤ i) (h2 : i < xs.length) : L2.atI xs i = some (xs[i.toNat]'(by omega)) := by
  rw [atI_pos xs i h]
  exact List.getElem?_eq_getElem _
theorem atI_neg1 {α : Type} {xs : List α} (h : 0 < xs.length) : L2.atI xs (-1) = some (xs[xs.length - 1]'(by omega)) := by
  unfold L2.atI L2.ixN
  rw [if_neg (by omega), if_pos (by omega)]
  simp only [Option.bind]
  rw [show (-1 + (xs.length : Int)).toNat = xs.length - 1 by omega]
  exact List.getElem?_eq_getElem _
@[simp] theorem atI_cons0 {α : Type} (x : α) (xs : List α) : L2.atI (x :: xs) 0 = some x := by rw [atI_pos _ _ (by omega)]; rfl
@[simp] theorem gN_ap (i : Nat) (d : D) (ρ : Env') : gN i d ρ = if i < ρ.length then some (ρ.set i (some (.sh d))) else none := rfl
@[simp] theorem gsNil_ap (ρ : Env') : gsNil [] ρ = some ρ := rfl
@[simp] theorem gsCons_ap (g : D → Env' → Option Env') (gs : List D → Env' → Option Env') (d : D) (r : List D) (ρ : Env') : gsCons g gs (d :: r) ρ = (g d ρ).bind (gs r) := rfl
@[simp] theorem gT_ap (gs : List D → Env' → Option Env') (n : Nat) (ds : List D) (ρ : Env') : gT gs n (.tup ds) ρ = if ds.length = n then gs ds ρ else none := rfl
@[simp high] theorem mul_int' {i j : Int} (h : (-(2 ^ 64) < i ∧ i < 2 ^ 64) ∨ (-(2 ^ 64) < j ∧ j < 2 ^ 64)) : D.mul (.int i) (.int j) = some (.int (i * j)) := by rw [mul_int, if_pos (.inl h)]
@[simp high] theorem fdiv_int' {i j : Int} (h : 0 < j ∧ j < 2 ^ 64) : D.fdiv (.int i) (.int j) = some (.int (i / j)) := by rw [fdiv_int, if_pos ⟨h.1, log_small h.1 h.2⟩]
@[simp high] theorem mod_int' {i j : Int} (h : 0 < j) : D.mod (.int i) (.int j) = some (.int (i % j)) := by rw [mod_int, if_pos h]
/-! ### texts as lists of signs -/
def S (l : List Nat) : Str := ⟨l.toArray⟩
theorem S_of (x : Str) : x = S x.cps.toList := by cases x; simp [S]
@[simp] theorem S_cps (l : List Nat) : (S l).cps.toList = l := rfl
@[simp] theorem S_length (l : List Nat) : (S l).length = l.length := by simp [S, Str.length]
@[simp] theorem S_app (a b : List Nat) : S a ++ S b = S (a ++ b) := by
  show (⟨a.toArray ++ b.toArray⟩ : Str) = _
  simp [S]
@[simp] theorem S_inj (a b : List Nat) : S a = S b ↔ a = b := by
  constructor
  · intro h
    have := congrArg (fun x : Str => x.cps.toList) h
    simpa using this
  · intro h; rw [h]
@[simp] theorem S_beq (a b : List Nat) : (S a == S b) = (a == b) := by
  rw [Bool.eq_iff_iff]
  simp
@[simp] theorem sign_S (c : Nat) : (⟨#[c]⟩ : Str) = S [c] := rfl
@[simp] theorem ix_S (l : List Nat) (i : Int) : D.ix (.str (S l)) (.int i) = (L2.atI l i).map fun c => .str (S [c]) := rfl
@[simp] theorem signs_S (l : List Nat) : signs (S l) = l.map fun c => .str (S [c]) := rfl
@[simp] theorem add_S (a b : List Nat) : D.add (.str (S a)) (.str (S b)) = if a.length + b.length ≤ sizeLine then some (.str (S (a ++ b))) else none := by simp [D.add]
@[simp] theorem iadd_S (a b : List Nat) : D.iadd (.str (S a)) (.str (S b)) = if a.length + b.length ≤ sizeLine then some (.str (S (a ++ b))) else none := by simp [D.iadd]
@[simp] theorem sIn_S1 (c : Nat) (z : List Nat) : sIn (S [c]) (S z) = decide (c ∈ z) := by
  unfold sIn
  simp only [S_cps]
  exact decide_eq_decide.mpr Iff.rfl
@[simp] theorem isin_S (a z : List Nat) : D.isin (.str (S a)) (.str (S z)) = some (.bl (sIn (S a) (S z))) := rfl
@[simp] theorem notin_S (a z : List Nat) : D.notin (.str (S a)) (.str (S z)) = some (.bl (!sIn (S a) (S z))) := rfl
theorem sIx_pos (n d : Nat) (i : Int) (h : 0 ≤ i) : HT.sIx n d (some i) = min i.toNat n := by
  show (if i < 0 then _ else _) = _
  rw [if_neg (by omega)]
/-- the items from one place to another -/
def sub {α : Type} (xs : List α) (i j : Nat) : List α := (xs.take j).drop i
theorem cut_gen {α : Type} (xs : List α) (i j : Nat) (hj : j ≤ xs.length) : (xs.drop i).take (j - i) = (xs.take j).drop i := by
  rw [List.drop_take]
@[simp] theorem cutD_from (xs : List D) (i : Int) (h : 0 ≤ i) : cutD xs (some i) none = xs.drop i.toNat := by
  unfold cutD
  rw [sIx_pos _ _ _ h, HT.sIx_none]
  apply List.ext_getElem?
  intro k
  rw [List.getElem?_take, List.getElem?_drop, List.getElem?_drop]
  split
  · rw [show min i.toNat xs.length = i.toNat by omega]
  · rw [List.getElem?_eq_none_iff.mpr (by omega)]
@[simp] theorem cutD_to (xs : List D) (i : Int) (h : 0 ≤ i) : cutD xs none (some i) = xs.take i.toNat := by
  unfold cutD
  rw [sIx_pos _ _ _ h, HT.sIx_none]
  apply List.ext_getElem?
  intro k
  rw [List.getElem?_take, List.getElem?_drop, List.getElem?_take]
  split
  · rw [if_pos (by omega)]; simp
  · split
    · rw [List.getElem?_eq_none_iff.mpr (by omega)]
    · rfl
@[simp] theorem cutD_fromto (xs : List D) (i j : Int) (h : 0 ≤ i) (h2 : 0 ≤ j) : cutD xs (some i) (some j) = (xs.take j.toNat).drop i.toNat := by
  unfold cutD
  rw [sIx_pos _ _ _ h, sIx_pos _ _ _ h2]
  apply List.ext_getElem?
  intro k
  rw [List.getElem?_take, List.getElem?_drop, List.getElem?_drop, List.getElem?_take]
  split
  · rw [if_pos (by omega), show min i.toNat xs.length = i.toNat by omega]
  · split
    · rw [List.getElem?_eq_none_iff.mpr (by omega)]
    · rfl
@[simp] theorem cutS_from (l : List Nat) (i : Int) (h : 0 ≤ i) : cutS (S l) (some i) none = S (l.drop i.toNat) := by
  unfold cutS
  rw [S_length, sIx_pos _ _ _ h, HT.sIx_none, S_cps]
  show S _ = S _
  rw [S_inj]
  apply List.ext_getElem?
  intro k
  rw [List.getElem?_take, List.getElem?_drop, List.getElem?_drop]
  split
  · rw [show min i.toNat l.length = i.toNat by omega]
  · rw [List.getElem?_eq_none_iff.mpr (by omega)]
@[simp] theorem cutS_to (l : List Nat) (i : Int) (h : 0 ≤ i) : cutS (S l) none (some i) = S (l.take i.toNat) := by
  unfold cutS
  rw [S_length, sIx_pos _ _ _ h, HT.sIx_none, S_cps]
  show S _ = S _
  rw [S_inj]
  apply List.ext_getElem?
  intro k
  rw [List.getElem?_take, List.getElem?_drop, List.getElem?_take]
  split
  · rw [if_pos (by omega)]; simp
  · split
    · rw [List.getElem?_eq_none_iff.mpr (by omega)]
    · rfl
@[simp] theorem cutS_fromto (l : List Nat) (i j : Int) (h : 0 ≤ i) (h2 : 0 ≤ j) : cutS (S l) (some i) (some j) = S ((l.take j.toNat).drop i.toNat) := by
  unfold cutS
  rw [S_length, sIx_pos _ _ _ h, sIx_pos _ _ _ h2, S_cps]
  show S _ = S _
  rw [S_inj]
  apply List.ext_getElem?
  intro k
  rw [List.getElem?_take, List.getElem?_drop, List.getElem?_drop, List.getElem?_take]
  split
  · rw [if_pos (by omega), show min i.toNat l.length = i.toNat by omega]
  · split
    · rw [List.getElem?_eq_none_iff.mpr (by omega)]
    · rfl
@[simp] theorem sl_S (l : List Nat) (lo hi : Option Int) : D.sl lo hi (.str (S l)) = some (.str (cutS (S l) lo hi)) := rfl
@[simp] theorem sl_lst (l : List D) (lo hi : Option Int) : D.sl lo hi (.lst l) = some (.lst (cutD l lo hi)) := rfl
@[simp] theorem sl_tup (l : List D) (lo hi : Option Int) : D.sl lo hi (.tup l) = some (.tup (cutD l lo hi)) := rfl
/-! == of data -/
@[simp] theorem cmpOk_int (i : Int) : D.cmpOk (.int i) = true := rfl
@[simp] theorem cmpOk_str (x : Str) : D.cmpOk (.str x) = true := rfl
@[simp] theorem cmpOk_bl (x : Bool) : D.cmpOk (.bl x) = true := rfl
@[simp] theorem cmpOk_non : D.cmpOk .non = true := rfl
@[simp] theorem flat_int (i : Int) : D.flat (.int i) = true := rfl
@[simp] theorem flat_str (i : Str) : D.flat (.str i) = true := rfl
@[simp] theorem flat_bl (i : Bool) : D.flat (.bl i) = true := rfl
@[simp] theorem flat_non : D.flat .non = true := rfl
@[simp] theorem eqb_int (i j : Int) : D.eqb (.int i) (.int j) = (i == j) := by simp [D.eqb, D.py, PyData.eqv]
@[simp] theorem eqb_str (i j : Str) : D.eqb (.str i) (.str j) = (i == j) := by simp [D.eqb, D.py, PyData.eqv]
@[simp] theorem eqb_bl (i j : Bool) : D.eqb (.bl i) (.bl j) = (i == j) := by simp [D.eqb, D.py, PyData.eqv]
@[simp] theorem eqb_non : D.eqb .non .non = true := by simp [D.eqb, D.py, PyData.eqv]
theorem eqb_tup (xs ys : List D) : D.eqb (.tup xs) (.tup ys) = PyData.eqvAll (D.pys xs) (D.pys ys) := by simp [D.eqb, D.py, PyData.eqv]
theorem eqb_lst (xs ys : List D) : D.eqb (.lst xs) (.lst ys) = PyData.eqvAll (D.pys xs) (D.pys ys) := by simp [D.eqb, D.py, PyData.eqv]
@[simp] theorem eqs_nil : PyData.eqvAll (D.pys []) (D.pys []) = true := by simp [D.pys, PyData.eqvAll]
@[simp] theorem eqs_nil_cons (y : D) (ys : List D) : PyData.eqvAll (D.pys []) (D.pys (y :: ys)) = false := by simp [D.pys, PyData.eqvAll]
@[simp] theorem eqs_cons_nil (x : D) (xs : List D) : PyData.eqvAll (D.pys (x :: xs)) (D.pys []) = false := by simp [D.pys, PyData.eqvAll]
@[simp] theorem eqs_cons (x y : D) (xs ys : List D) : PyData.eqvAll (D.pys (x :: xs)) (D.pys (y :: ys)) = (D.eqb x y && PyData.eqvAll (D.pys xs) (D.pys ys)) := by simp [D.pys, PyData.eqvAll, D.eqb]
theorem eq_ap (d e : D) : D.eq d e = if D.cmpOk d = true ∧ D.cmpOk e = true then some (.bl (D.eqb d e)) else none := rfl
theorem ne_ap (d e : D) : D.ne d e = if D.cmpOk d = true ∧ D.cmpOk e = true then some (.bl (!D.eqb d e)) else none := rfl
@[simp] theorem eq_int (i j : Int) : D.eq (.int i) (.int j) = some (.bl (i == j)) := by simp [eq_ap]
@[simp] theorem ne_int (i j : Int) : D.ne (.int i) (.int j) = some (.bl (!(i == j))) := by simp [ne_ap]
@[simp] theorem eq_str (i j : Str) : D.eq (.str i) (.str j) = some (.bl (i == j)) := by simp [eq_ap]
@[simp] theorem ne_str (i j : Str) : D.ne (.str i) (.str j) = some (.bl (!(i == j))) := by simp [ne_ap]
@[simp] theorem eq_bl (i j : Bool) : D.eq (.bl i) (.bl j) = some (.bl (i == j)) := by simp [eq_ap]
@[simp] theorem ne_bl (i j : Bool) : D.ne (.bl i) (.bl j) = some (.bl (!(i == j))) := by simp [ne_ap]
theorem cmpOk_tup (ds : List D) : D.cmpOk (.tup ds) = (D.datas ds && decide (D.deeps ds + 1 ≤ 60)) := rfl
theorem cmpOk_lst (ds : List D) : D.cmpOk (.lst ds) = (D.datas ds && decide (D.deeps ds + 1 ≤ 60)) := rfl
@[simp] theorem datas_nil : D.datas [] = true := rfl
@[simp] theorem datas_cons (d : D) (ds : List D) : D.datas (d :: ds) = (d.data && D.datas ds) := rfl
@[simp] theorem deeps_nil : D.deeps [] = 0 := rfl
@[simp] theorem deeps_cons (d : D) (ds : List D) : D.deeps (d :: ds) = max d.deep (D.deeps ds) := rfl
@[simp] theorem data_int (i : Int) : D.data (.int i) = true := rfl
@[simp] theorem data_str (i : Str) : D.data (.str i) = true := rfl
@[simp] theorem data_bl (i : Bool) : D.data (.bl i) = true := rfl
@[simp] theorem data_non : D.data .non = true := rfl
@[simp] theorem data_tup (ds : List D) : D.data (.tup ds) = D.datas ds := rfl
@[simp] theorem data_lst (ds : List D) : D.data (.lst ds) = D.datas ds := rfl
@[simp] theorem deep_int (i : Int) : D.deep (.int i) = 0 := rfl
@[simp] theorem deep_str (i : Str) : D.deep (.str i) = 0 := rfl
@[simp] theorem deep_bl (i : Bool) : D.deep (.bl i) = 0 := rfl
@[simp] theorem deep_non : D.deep .non = 0 := rfl
@[simp] theorem deep_tup (ds : List D) : D.deep (.tup ds) = D.deeps ds + 1 := rfl
@[simp] theorem deep_lst (ds : List D) : D.deep (.lst ds) = D.deeps ds + 1 := rfl
theorem datas_map {α : Type} (f : α → D) (h : ∀ a, (f a).data = true) : ∀ xs : List α, D.datas (xs.map f) = true
  | [] => rfl
  | x :: xs => by simp [h, datas_map f h xs]
theorem deeps_map {α : Type} (f : α → D) (n : Nat) (h : ∀ a, (f a).deep ≤ n) : ∀ xs : List α, D.deeps (xs.map f) ≤ n
  | [] => by simp
  | x :: xs => by
    have := deeps_map f n h xs
    have := h x
    simp only [List.map_cons, deeps_cons]
    omega
theorem eqs_map {α : Type} [BEq α] (f : α → D) (h : ∀ a b, D.eqb (f a) (f b) = (a == b)) : ∀ xs ys : List α, PyData.eqvAll (D.pys (xs.map f)) (D.pys (ys.map f)) = (xs == ys)
  | [], [] => by simp
  | [], y :: ys => by simp
  | x :: xs, [] => by simp
  | x :: xs, y :: ys => by simp only [List.map_cons, eqs_cons, h, eqs_map f h xs ys]; rfl
/-- lists of flat things of one kind -/
theorem cmpOk_map {α : Type} (f : α → D) (h : ∀ a, (f a).data = true ∧ (f a).deep = 0) (xs : List α) : D.cmpOk (.lst (xs.map f)) = true ∧ D.cmpOk (.tup (xs.map f)) = true := by
  have h1 := datas_map f (fun a => (h a).1) xs
  have h2 := deeps_map f 0 (fun a => Nat.le_of_eq (h a).2) xs
  rw [cmpOk_lst, cmpOk_tup, h1]
  simp only [Bool.true_and, decide_eq_true_eq]
  omega
@[simp] theorem tyN_int (i : Int) : D.tyN (.int i) = some "int" := rfl
@[simp] theorem tyN_str (i : Str) : D.tyN (.str i) = some "str" := rfl
@[simp] theorem tyN_bl (i : Bool) : D.tyN (.bl i) = some "bool" := rfl
@[simp] theorem tyN_non : D.tyN .non = some "NoneType" := rfl
@[simp] theorem tyN_tup (i : List D) : D.tyN (.tup i) = some "tuple" := rfl
@[simp] theorem tyN_lst (i : List D) : D.tyN (.lst i) = some "list" := rfl
@[simp] theorem isinst_int (d : D) : D.isinst [d, .ty "int"] = d.tyN.map fun m => .bl (isT m "int") := by simp [D.isinst]
@[simp] theorem isinst_str (d : D) : D.isinst [d, .ty "str"] = d.tyN.map fun m => .bl (isT m "str") := by simp [D.isinst]
@[simp] theorem isinst_bool (d : D) : D.isinst [d, .ty "bool"] = d.tyN.map fun m => .bl (isT m "bool") := by simp [D.isinst]
@[simp] theorem isinst_tuple (d : D) : D.isinst [d, .ty "tuple"] = d.tyN.map fun m => .bl (isT m "tuple") := by simp [D.isinst]
@[simp] theorem isinst_list (d : D) : D.isinst [d, .ty "list"] = d.tyN.map fun m => .bl (isT m "list") := by simp [D.isinst]
@[simp] theorem isinst_dict (d : D) : D.isinst [d, .ty "dict"] = d.tyN.map fun m => .bl (isT m "dict") := by simp [D.isinst]
/-- the letters -/
def L26 : List Nat := [97, 98, 99, 100, 101, 102, 103, 104, 105, 106, 107, 108, 109, 110, 111, 112, 113, 114, 115, 116, 117, 118, 119, 120, 121, 122]
theorem letters_S : (Str.ofString "abcdefghijklmnopqrstuvwxyz") = S L26 := by decide +kernel
theorem L26_nodup : L26.Nodup := by decide +kernel
theorem L26_len : L26.length = 26 := rfl
/-- letters alone -/
def AllL (l : List Nat) : Prop := ∀ c ∈ l, c ∈ L26
theorem AllL.nil : AllL [] := fun _ h => by cases h
theorem AllL.app {a b : List Nat} (h : AllL a) (k : AllL b) : AllL (a ++ b) := fun c hc => (List.mem_append.mp hc).elim (h c) (k c)
theorem AllL.one {c : Nat} (h : c ∈ L26) : AllL [c] := fun d hd => by rw [List.mem_singleton.mp hd]; exact h
theorem AllL.drop {a : List Nat} (h : AllL a) (n : Nat) : AllL (a.drop n) := fun c hc => h c (List.mem_of_mem_drop hc)
theorem AllL.take {a : List Nat} (h : AllL a) (n : Nat) : AllL (a.take n) := fun c hc => h c (List.mem_of_mem_take hc)
@[simp] theorem wipeE_nil (ρ : Env') : wipeE ρ [] = ρ := rfl
@[simp] theorem wipeE_cons (ρ : Env') (v : Nat) (vs : List Nat) : wipeE ρ (v :: vs) = (wipeE ρ vs).set v none := rfl
@[simp] theorem backE_nil (ρ0 ρ : Env') : backE ρ0 ρ [] = ρ := rfl
@[simp] theorem backE_cons (ρ0 ρ : Env') (v : Nat) (vs : List Nat) : backE ρ0 ρ (v :: vs) = back1 ρ0 (backE ρ0 ρ vs) v := rfl
@[simp] theorem back1_ap (ρ0 ρ : Env') (i : Nat) : back1 ρ0 ρ i = (match ρ0[i]? with | some (some (.sh d)) => ρ.set i (some (.sh d)) | _ => ρ.set i none) := rfl
@[simp] theorem ofString_nil : Str.ofString "" = S [] := rfl
/-- a comprehension whose turns leave all as it was -/
theorem lc_pure {gt : D → Env' → Option Env'} {tt : Env' → Res (Bool × Env')} {ne : Env' → Res (T × Env')} {vs : List Nat} {ρ : Env'} (p : D → Bool) (g : D → T) : ∀ {ds : List D},
    (∀ d ∈ ds, ∃ ρ1, gt d ρ = some ρ1 ∧ tt ρ1 = .ok (p d, ρ1) ∧ (p d = true → ne ρ1 = .ok (g d, ρ1)) ∧ wipeE ρ1 vs = ρ) → lcGo gt tt ne vs ds ρ = .ok ((ds.filter p).map g, ρ)
  | [], _ => rfl
  | d :: ds, h => by
    obtain ⟨ρ1, e1, e2, e3, e4⟩ := h d (by simp)
    have ih := lc_pure (ds := ds) p g fun d' hd => h d' (by simp [hd])
    rw [lcGo, e1]
    simp only [of_some, bind_ok, e2, Res.nx]
    by_cases hp : p d = true
    · simp [hp, e3 hp, e4, ih]
    · simp [hp, e4, ih]
abbrev iI (i : Int) : Option T := some (.sh (.int i))
abbrev sS (l : List Nat) : Option T := some (.sh (.str (S l)))
abbrev dD (d : D) : Option T := some (.sh d)
@[simp high] theorem add_S' {a b : List Nat} (h : a.length + b.length ≤ 16777216) : D.add (.str (S a)) (.str (S b)) = some (.str (S (a ++ b))) := by rw [add_S, if_pos (by rw [sizeLine_eq]; exact h)]
theorem size_le {n : Nat} (h : n ≤ 16777216) : n ≤ sizeLine := by rw [sizeLine_eq]; exact h
theorem size_lt {n : Nat} (h : n < 16777216) : n < sizeLine := by rw [sizeLine_eq]; exact h
abbrev oIs (xs : List Int) : Option T := some (.lst (xs.map fun i => .sh (.int i)))
theorem d_ints (xs : List Int) : (T.lst (xs.map fun i => T.sh (.int i))).d = .lst (xs.map .int) := by
  have := d_lst (xs.map D.int)
  rw [List.map_map] at this
  exact this
theorem top_ints (xs : List Int) : (T.lst (xs.map fun i => T.sh (.int i))).top = some (.lst (xs.map .int)) := by
  have := top_lst (xs.map D.int)
  rw [List.map_map] at this
  exact this
theorem nodup_le {α : Type} [DecidableEq α] : ∀ {xs ys : List α}, xs.Nodup → (∀ x ∈ xs, x ∈ ys) → xs.length ≤ ys.length
  | [], _, _, _ => Nat.zero_le _
  | x :: xs, ys, nd, h => by
    obtain ⟨n1, n2⟩ := List.nodup_cons.mp nd
    have := nodup_le (ys := ys.erase x) n2 fun y hy => (List.mem_erase_of_ne (fun e => n1 (by rw [← e]; exact hy))).mpr (h y (by simp [hy]))
    rw [List.length_erase_of_mem (h x (by simp))] at this
    have := List.length_pos_of_mem (h x (by simp))
    rw [List.length_cons]
    omega
@[simp] theorem top_lst' (ts : List T) : (T.lst ts).top = (T.leaves ts).map D.lst := rfl
@[simp] theorem leaves_nil : T.leaves [] = some [] := rfl
@[simp] theorem leaves_cons (d : D) (ts : List T) : T.leaves (.sh d :: ts) = (T.leaves ts).map (d :: ·) := rfl
@[simp] theorem leaves_map {α : Type} (f : α → D) (xs : List α) : T.leaves (xs.map fun a => T.sh (f a)) = some (xs.map f) := by
  have := T.leaves_sh (xs.map f)
  rw [List.map_map] at this
  exact this
@[simp] theorem leaves_comp {α : Type} (f : α → D) (xs : List α) : T.leaves (xs.map (T.sh ∘ f)) = some (xs.map f) := leaves_map f xs
@[simp] theorem leaves_sh' (ds : List D) : T.leaves (ds.map T.sh) = some ds := T.leaves_sh ds
@[simp] theorem leaves_app : ∀ (xs ys : List T), T.leaves (xs ++ ys) = (T.leaves xs).bind fun a => (T.leaves ys).map (a ++ ·)
  | [], ys => by simp
  | .sh d :: xs, ys => by
    simp only [List.cons_append, leaves_cons, leaves_app xs ys]
    cases T.leaves xs <;> cases T.leaves ys <;> rfl
  | .lst _ :: xs, ys => rfl
  | .dic _ _ :: xs, ys => rfl
  | .dit _ _ :: xs, ys => rfl
  | .at _ _ :: xs, ys => rfl
@[simp] theorem d_lst' (ts : List T) : (T.lst ts).d = .lst (T.d.go ts) := rfl
@[simp] theorem go_nil : T.d.go [] = [] := rfl
@[simp] theorem go_cons (t : T) (ts : List T) : T.d.go (t :: ts) = t.d :: T.d.go ts := rfl
@[simp] theorem go_map {α : Type} (f : α → D) (xs : List α) : T.d.go (xs.map fun a => T.sh (f a)) = xs.map f := by
  have := T.go_sh (xs.map f)
  rw [List.map_map] at this
  exact this
@[simp] theorem go_comp {α : Type} (f : α → D) (xs : List α) : T.d.go (xs.map (T.sh ∘ f)) = xs.map f := go_map f xs
@[simp] theorem go_sh' (ds : List D) : T.d.go (ds.map T.sh) = ds := T.go_sh ds
@[simp] theorem go_app (xs ys : List T) : T.d.go (xs ++ ys) = T.d.go xs ++ T.d.go ys := by rw [T.go_map, T.go_map, T.go_map, List.map_append]
theorem atI_ex {α β : Type} (f : α → β) {xs : List α} {i : Int} (h : 0 ≤ i) (h2 : i < xs.length) : ∃ x ∈ xs, L2.atI (xs.map f) i = some (f x) :=
  ⟨xs[i.toNat]'(by omega), List.getElem_mem _, by rw [atI_map, atI_in h h2]; rfl⟩
@[simp] theorem size_le' {n : Nat} (h : n ≤ 16777216) : (n ≤ sizeLine) = True := eq_true (size_le h)
@[simp] theorem size_lt' {n : Nat} (h : n < 16777216) : (n < sizeLine) = True := eq_true (size_lt h)
@[simp] theorem rOk' {i : Int} (h : -4611686018427387904 < i ∧ i < 4611686018427387904) : rOk i = True := eq_true (by unfold rOk; omega)
@[simp] theorem log_small' {j : Int} (h : 0 < j ∧ j < 18446744073709551616) : (j.natAbs.log2 < 9000) = True := eq_true (log_small h.1 h.2)
@[simp] theorem atI_lit {α : Type} (x : α) (xs : List α) (n : Nat) : L2.atI (x :: xs) (no_index (@OfNat.ofNat Int n instOfNat)) = (x :: xs)[(@OfNat.ofNat Nat n (instOfNatNat n))]? := by
  rw [atI_pos _ _ (by exact Int.natCast_nonneg n)]
  rfl
@[simp] theorem ixN_lit (m n : Nat) : L2.ixN m (no_index (@OfNat.ofNat Int n instOfNat)) = if (@OfNat.ofNat Nat n (instOfNatNat n)) < m then some (@OfNat.ofNat Nat n (instOfNatNat n)) else none := by
  show L2.ixN m (n : Int) = if n < m then some n else none
  unfold L2.ixN
  rw [if_pos (by omega)]
  simp
theorem ixN_in {n : Nat} {i : Int} (h : 0 ≤ i ∧ i < n) : L2.ixN n i = some i.toNat := by
  unfold L2.ixN
  rw [if_pos (by omega), if_pos (by omega)]
/-- what is told is this; so all that holds of this -/
theorem sat_is {α : Type} {x : Res α} {P : α → Prop} (a : α) (h : x.sat fun r => r = a) (h2 : P a) : x.sat P :=
  sat_mono h fun b e => by subst e; exact h2
theorem sat_for0 {gt : D → Env' → Option Env'} {f : Env' → Res Fl} {P : Fl → Prop} (I : Nat → Env' → Prop) {ds : List D} {ρ : Env'} (h0 : I 0 ρ)
    (h1 : ∀ i d ρ, ds[i]? = some d → I i ρ → ∃ ρ1, gt d ρ = some ρ1 ∧ (f ρ1).sat fun r => match r with
      | .nx ρ' => I (i + 1) ρ'
      | .ct ρ' => I (i + 1) ρ'
      | .bk ρ' => P (.nx ρ')
      | .rt t ρ' => P (.rt t ρ'))
    (h2 : ∀ ρ, I ds.length ρ → P (.nx ρ)) : (forGo gt f ds ρ).sat P :=
  sat_for I 0 h0 (fun i d ρ hd hi => by rw [Nat.zero_add] at hi ⊢; exact h1 i d ρ hd hi) (fun ρ h => h2 ρ (by rwa [Nat.zero_add] at h))
/-- over a range from 0 -/
theorem sat_range {i : Nat} {f : Env' → Res Fl} {P : Fl → Prop} {n : Nat} (I : Nat → Env' → Prop) {ρ : Env'} (h0 : I 0 ρ)
    (h1 : ∀ k ρ, k < n → I k ρ → i < ρ.length ∧ (f (ρ.set i (iI k))).sat fun r => match r with
      | .nx ρ' => I (k + 1) ρ'
      | .ct ρ' => I (k + 1) ρ'
      | .bk ρ' => P (.nx ρ')
      | .rt t ρ' => P (.rt t ρ'))
    (h2 : ∀ ρ, I n ρ → P (.nx ρ)) : (forGo (gN i) f (rangeD 0 n) ρ).sat P :=
  sat_for0 I h0 (fun k d ρ hd hi => by
    obtain ⟨rfl, hk⟩ := range_get hd
    obtain ⟨a, b⟩ := h1 k ρ hk hi
    exact ⟨_, by rw [gN_ap, if_pos a], by rw [Int.zero_add]; exact b⟩) (fun ρ h => h2 ρ (by simpa using h))
/-! the same, with what is to hold left unread -/
theorem mirP_v {np nN : Nat} {b : Env' → Res Fl} {ds : List D} (P : D → Prop) (hl : ds.length = np) (h : ∀ Q : D → Prop, (∀ d, P d → Q d) → (b (startE nN ds)).sat fun r => match r with
    | .nx _ => Q .non
    | .rt (.sh d) _ => Q d
    | _ => False) : ∃ d, mirP np nN b ds = .ok d ∧ P d := mirP_sat hl (h P fun _ => id)
theorem seq_v {f g : Env' → Res Fl} {ρ : Env'} {P : Fl → Prop} (I : Env' → Prop) (h : ∀ Q : Env' → Prop, (∀ ρ, I ρ → Q ρ) → (f ρ).sat fun r => match r with
    | .nx ρ' => Q ρ'
    | r => P r) (h2 : ∀ ρ', I ρ' → (g ρ').sat P) : (sSeq f g ρ).sat P := sat_seqR I (h I fun _ => id) h2
theorem for_v {gt : D → Env' → Option Env'} {f : Env' → Res Fl} {P : Fl → Prop} (I : Nat → Env' → Prop) {ds : List D} {ρ : Env'} (h0 : I 0 ρ)
    (h1 : ∀ i d ρ, ds[i]? = some d → I i ρ → ∀ Q : Env' → Prop, (∀ ρ, I (i + 1) ρ → Q ρ) → ∃ ρ1, gt d ρ = some ρ1 ∧ (f ρ1).sat fun r => match r with
      | .nx ρ' => Q ρ'
      | .ct ρ' => Q ρ'
      | .bk ρ' => P (.nx ρ')
      | .rt t ρ' => P (.rt t ρ'))
    (h2 : ∀ ρ, I ds.length ρ → P (.nx ρ)) : (forGo gt f ds ρ).sat P :=
  sat_for0 I h0 (fun i d ρ hd hi => h1 i d ρ hd hi _ fun _ => id) h2
theorem range_v {i : Nat} {f : Env' → Res Fl} {P : Fl → Prop} {n : Nat} (I : Nat → Env' → Prop) {ρ : Env'} (h0 : I 0 ρ)
    (h1 : ∀ k ρ, k < n → I k ρ → ∀ Q : Env' → Prop, (∀ ρ, I (k + 1) ρ → Q ρ) → i < ρ.length ∧ (f (ρ.set i (iI k))).sat fun r => match r with
      | .nx ρ' => Q ρ'
      | .ct ρ' => Q ρ'
      | .bk ρ' => P (.nx ρ')
      | .rt t ρ' => P (.rt t ρ'))
    (h2 : ∀ ρ, I n ρ → P (.nx ρ)) : (forGo (gN i) f (rangeD 0 n) ρ).sat P :=
  sat_range I h0 (fun k ρ hk hi => h1 k ρ hk hi _ fun _ => id) h2
theorem while_v {ta : Env' → Res (Bool × Env')} {f : Env' → Res Fl} {P : Fl → Prop} (I : Nat → Env' → Prop) (h : ∀ n ρ, I n ρ → ∀ Q : Env' → Prop, (∀ m ρ, m < n → I m ρ → Q ρ) → (ta ρ).sat fun (b, ρ1) => if b = true then (f ρ1).sat fun r => match r with
      | .nx ρ' => Q ρ'
      | .ct ρ' => Q ρ'
      | .bk ρ' => P (.nx ρ')
      | .rt t ρ' => P (.rt t ρ') else P (.nx ρ1)) (n : Nat) {ρ : Env'} (hi : I n ρ) : (sWhile ta f ρ).sat P :=
  sat_while I (fun n ρ hi => h n ρ hi _ fun m ρ hm hI => ⟨m, hm, hI⟩) n hi
@[simp] theorem isTy_lst (ds : List D) : D.isTy "list" (.lst ds) = true := rfl
@[simp] theorem isTy_str (x : Str) : D.isTy "str" (.str x) = true := rfl
theorem go_set (L : List T) (j : Nat) (t : T) : T.d.go (L.set j t) = (T.d.go L).set j t.d := by
  rw [T.go_map, T.go_map, List.map_set]
theorem atI_n {α : Type} (xs : List α) (i : Nat) : L2.atI xs (i : Int) = xs[i]? := by
  rw [atI_pos _ _ (by omega)]
  rfl
theorem ixN_n (n i : Nat) : L2.ixN n (i : Int) = if i < n then some i else none := by
  unfold L2.ixN
  rw [if_pos (by omega)]
  simp
@[simp] theorem isin_tup (d : D) (ds : List D) : D.isin d (.tup ds) = if d.flat = true ∧ ds.all D.flat = true then some (.bl (ds.any fun z => D.eqb z d)) else none := rfl
@[simp] theorem isin_lst (d : D) (ds : List D) : D.isin d (.lst ds) = if D.cmpOk d = true ∧ D.cmpOk (.lst ds) = true then some (.bl (ds.any fun z => D.eqb z d)) else none := rfl
@[simp] theorem notin_tup (d : D) (ds : List D) : D.notin d (.tup ds) = if d.flat = true ∧ ds.all D.flat = true then some (.bl (!ds.any fun z => D.eqb z d)) else none := by
  unfold D.notin
  rw [isin_tup]
  split <;> simp_all
@[simp] theorem notin_lst (d : D) (ds : List D) : D.notin d (.lst ds) = if D.cmpOk d = true ∧ D.cmpOk (.lst ds) = true then some (.bl (!ds.any fun z => D.eqb z d)) else none := by
  unfold D.notin
  rw [isin_lst]
  split <;> simp_all
@[simp] theorem add_lst (a b : List D) : D.add (.lst a) (.lst b) = if a.length + b.length ≤ sizeLine then some (.lst (a ++ b)) else none := rfl
@[simp high] theorem add_lst' {a b : List D} (h : a.length + b.length ≤ 16777216) : D.add (.lst a) (.lst b) = some (.lst (a ++ b)) := by rw [add_lst, if_pos (size_le h)]
@[simp] theorem catN_lst (a b : List D) : D.catN (.lst a) (.lst b) = if a.length + b.length ≤ sizeLine then some (a ++ b) else none := rfl
@[simp high] theorem catN_lst' {a b : List D} (h : a.length + b.length ≤ 16777216) : D.catN (.lst a) (.lst b) = some (a ++ b) := by rw [catN_lst, if_pos (size_le h)]
theorem L26_size : L26.length ≤ sizeLine := by rw [L26_len, sizeLine_eq]; decide
end FL

namespace FL
open PySem PySem.Spec PyProof.Rows L2
/-! ### reckoning: zip, try -/
@[simp ↓] theorem iZip_bind {β : Type} (fa fb : Env' → Res (RV × Env')) (ρ : Env') (k : _ → Res β) : (iZip fa fb ρ).bind k = Res.bind ((aConsE fa (aConsE fb aNil) ρ).bind fun (rs, ρ1) => match rs with
  | [.leaf d, .leaf e] => (Res.of (zip2 d e)).bind fun ds => .ok (ds, ρ1)
  | _ => .bad) k := rfl
@[simp] theorem zip2_lst (a b : List D) : zip2 (.lst a) (.lst b) = some (zipD a b) := rfl
@[simp] theorem zip2_tup (a b : List D) : zip2 (.tup a) (.tup b) = some (zipD a b) := rfl
@[simp] theorem rev_lst (a : List D) : D.rev (.lst a) = some (.tup a.reverse) := rfl
@[simp] theorem rev_fz (a : List D) : D.rev (.fz a) = some (.tup a.reverse) := rfl
/-- a try whose body comes to an end -/
theorem try_ok {all : List Str} {gs : List (List Str × (Env' → Res Fl))} {f : Env' → Res Fl} {ρ : Env'} {P : Fl → Prop} (h : (f ρ).sat P) : (sTry all gs f ρ).sat P := by
  obtain ⟨a, e, p⟩ := sat_eq h
  unfold sTry
  rw [e]
  cases a <;> exact ⟨p⟩
/-- a try whose body raises -/
theorem try_exc {all : List Str} {gs : List (List Str × (Env' → Res Fl))} {f : Env' → Res Fl} {ρ ρ' : Env'} {c : Str} {P : Fl → Prop} (h : f ρ = .exc c ρ') (hc : c ∈ all) (hp : (hGo gs c ρ').sat P) : (sTry all gs f ρ).sat P := by
  unfold sTry
  rw [h]
  simp only [hc, if_true]
  exact hp
@[simp] theorem hGo_cons (cs : List Str) (g : Env' → Res Fl) (r : List (List Str × (Env' → Res Fl))) (c : Str) (ρ : Env') : hGo ((cs, g) :: r) c ρ = if c ∈ cs then g ρ else hGo r c ρ := rfl
@[simp] theorem hGo_nil (c : Str) (ρ : Env') : hGo [] c ρ = .exc c ρ := rfl
/-- a function that raises: its body, in the form that simp reckons with -/
theorem mirP_exc {np nN : Nat} {b : Env' → Res Fl} {ds : List D} {c : Str} (hl : ds.length = np) (h : ∃ ρ, (b (startE nN ds)).bind Res.ok = .exc c ρ) : mirP np nN b ds = .exc c := by
  obtain ⟨ρ, e⟩ := h
  rw [← bind_id] at e
  unfold mirP
  rw [if_pos hl, e]
end FL

namespace FL
open PySem PySem.Spec PyProof.Rows L2
/-! ### dicts: keys are ints and texts, or tuples of them -/
def keyD : D → Option Key
  | .int i => some (.inl i)
  | .str x => some (.inr x)
  | _ => none
def keysD : List D → Option (List Key)
  | [] => some []
  | d :: ds => (keyD d).bind fun k => (keysD ds).map (k :: ·)
theorem den_key {K H d v k} (h : Den K H d v) (e : keyD d = some k) : v = kV k := by
  cases d <;> cases e
  · exact h
  · exact h.1
theorem den_keys {K H} : ∀ {ds : List D} {vs : List V} {ks : List Key}, DenL K H ds vs → keysD ds = some ks → vs = ks.map kV
  | [], _, _, h, e => by cases e; exact h
  | d :: ds, _, ks, ⟨v, r, e1, e2, e3⟩, e => by
    simp only [keysD] at e
    cases h1 : keyD d with
    | none => rw [h1] at e; cases e
    | some k =>
      rw [h1] at e
      simp only [Option.bind_some, Option.map_eq_some_iff] at e
      obtain ⟨ks', h2, rfl⟩ := e
      rw [e1, den_key e2 h1, den_keys e3 h2]; rfl
def lkD {κ : Type} [DecidableEq κ] : List κ → List D → κ → Option D
  | k :: ks, d :: ds, j => if k = j then some d else lkD ks ds j
  | _, _, _ => none
theorem lk_den {κ : Type} [DecidableEq κ] {K H} (j : κ) : ∀ {kv : List (κ × V)} {ds : List D}, DenL K H ds (kv.map (·.2)) → (∃ d v, lkD (kv.map (·.1)) ds j = some d ∧ valV kv j = some v ∧ Den K H d v) ∨ (lkD (kv.map (·.1)) ds j = none ∧ valV kv j = none)
  | [], _, h => .inr ⟨by simp [lkD], rfl⟩
  | p :: kv, [], h => by cases h
  | p :: kv, d :: ds, ⟨v, r, e1, e2, e3⟩ => by
    simp only [List.map_cons, List.cons.injEq] at e1
    obtain ⟨rfl, rfl⟩ := e1
    by_cases e : p.1 = j
    · exact .inl ⟨d, p.2, by simp [lkD, e], valV_pos e, e2⟩
    · rw [valV_neg e]
      simp only [List.map_cons, lkD, if_neg e]
      exact lk_den j e3
def putD {κ : Type} [DecidableEq κ] : List κ → List D → κ → D → List κ × List D
  | k :: ks, d :: ds, j, e => if k = j then (k :: ks, e :: ds) else ((k :: (putD ks ds j e).1), (d :: (putD ks ds j e).2))
  | _, _, j, e => ([j], [e])
/-- what a dict holds at a thing -/
def D.dat : D → D → Option (Option D)
  | .dic ks ds, e => (keyD e).map (lkD ks ds)
  | .dit ks ds, .tup es => (keysD es).map (lkD ks ds)
  | _, _ => none
theorem dat_get {K Hs H d e x y o} (s : Same Hs H) (h1 : Den1 K Hs H d x) (h2 : Den1 K Hs H e y) (g : D.dat d e = some o) :
    ∃ a r, x = .ref a ∧ DGet H a y r ∧ ((∃ d v, o = some d ∧ r = some v ∧ Den K Hs d v) ∨ (o = none ∧ r = none)) := by
  unfold D.dat at g
  split at g
  · simp only [Option.map_eq_some_iff] at g
    obtain ⟨k, g1, rfl⟩ := g
    obtain ⟨a, kv, rfl, k1, rfl, k2⟩ := h1
    have hy : y = kV k := by
      cases e <;> cases g1
      · exact h2
      · exact h2.1
    subst hy
    refine ⟨a, _, rfl, DGet.k k1, ?_⟩
    rcases lk_den k k2 with ⟨d, v, e1, e2, e3⟩ | ⟨e1, e2⟩
    · exact .inl ⟨d, v, e1, e2, e3⟩
    · exact .inr ⟨e1, e2⟩
  · simp only [Option.map_eq_some_iff] at g
    obtain ⟨k, g1, rfl⟩ := g
    obtain ⟨a, kv, rfl, k1, rfl, k2⟩ := h1
    obtain ⟨b, vs, rfl, m1, m2⟩ := h2
    have hv := den_keys m2 g1
    subst hv
    refine ⟨a, _, rfl, DGet.t k1 (s _ _ m1), ?_⟩
    rcases lk_den k k2 with ⟨d, v, e1, e2, e3⟩ | ⟨e1, e2⟩
    · exact .inl ⟨d, v, e1, e2, e3⟩
    · exact .inr ⟨e1, e2⟩
  · cases g
def D.dget (d e : D) : Option D := match D.dat d e with
  | some (some v) => some v
  | _ => none
def D.din (e d : D) : Option D := (D.dat d e).map fun o => .bl o.isSome
def D.dnin (e d : D) : Option D := (D.dat d e).map fun o => .bl (!o.isSome)
section
variable {X : Cx} {mg : Str → Option Value} {W : WX} {a b : Expr} {fa fb fc : Env' → Res (RV × Env')} {pos p tpos : Pos}
theorem fo_dget (hu : X.A.units + 1 < cLine) (ha : PE X a (tFO X.K mg W fa)) (hb : PE X b (tFO X.K mg W fb)) (hs : NoSl b) : PE X (.Subscript a b pos) (tFO X.K mg W (eBin D.dget fa fb)) :=
  (pe_dget hu ha hb hs).imp fun _ _ _ h => bin_go (r := fun x y H Q => ∃ a v, x = .ref a ∧ DGet H a y (some v) ∧ Q v H) (fun x y H Q ⟨Hs, d1, d2, d, e, h1, h2, g, q⟩ => by
    unfold D.dget at g
    split at g
    · rename_i v hd
      cases g
      obtain ⟨a, r, e1, e2, ⟨d', v', e3, e4, e5⟩ | ⟨e3, _⟩⟩ := dat_get e h1 h2 hd
      · cases e3
        exact ⟨a, v', e1, e4 ▸ e2, q _ _ _ (.refl e) e5⟩
      · cases e3
    · cases g) h
theorem din_r {x y : V} {H : Hp} {Q : VK} (h : ∃ Hs d1 d2 d, Same Hs H ∧ Den1 X.K Hs H d1 x ∧ Den1 X.K Hs H d2 y ∧ D.din d1 d2 = some d ∧ ∀ v Hs' H', Ext Hs H Hs' H' → Den X.K Hs' d v → Q v H') : ∃ a o, y = .ref a ∧ DGet H a x o ∧ Q (.bl o.isSome) H := by
  obtain ⟨Hs, d1, d2, d, e, h1, h2, g, q⟩ := h
  unfold D.din at g
  simp only [Option.map_eq_some_iff] at g
  obtain ⟨o, g1, rfl⟩ := g
  obtain ⟨a, r, e1, e2, h⟩ := dat_get e h2 h1 g1
  refine ⟨a, r, e1, e2, ?_⟩
  have : r.isSome = o.isSome := by rcases h with ⟨_, _, rfl, rfl, _⟩ | ⟨rfl, rfl⟩ <;> rfl
  rw [this]
  exact q _ _ _ (.refl e) rfl
theorem dnin_r {x y : V} {H : Hp} {Q : VK} (h : ∃ Hs d1 d2 d, Same Hs H ∧ Den1 X.K Hs H d1 x ∧ Den1 X.K Hs H d2 y ∧ D.dnin d1 d2 = some d ∧ ∀ v Hs' H', Ext Hs H Hs' H' → Den X.K Hs' d v → Q v H') : ∃ a o, y = .ref a ∧ DGet H a x o ∧ Q (.bl (!o.isSome)) H := by
  obtain ⟨Hs, d1, d2, d, e, h1, h2, g, q⟩ := h
  unfold D.dnin at g
  simp only [Option.map_eq_some_iff] at g
  obtain ⟨o, g1, rfl⟩ := g
  obtain ⟨a, r, e1, e2, h⟩ := dat_get e h2 h1 g1
  refine ⟨a, r, e1, e2, ?_⟩
  have : r.isSome = o.isSome := by rcases h with ⟨_, _, rfl, rfl, _⟩ | ⟨rfl, rfl⟩ <;> rfl
  rw [this]
  exact q _ _ _ (.refl e) rfl
theorem fo_din (hu : X.A.units + 1 < cLine) (ha : PE X a (tFO X.K mg W fa)) (hb : PE X b (tFO X.K mg W fb)) (hm : behindInMarks .In b = false) : PE X (.Compare a [.In] [b] pos) (tFO X.K mg W (eBin D.din fa fb)) :=
  (pe_cmp (pc_din hu ha hb) hm).imp fun _ _ _ h => bin_go (r := fun y x H Q => ∃ a o, x = .ref a ∧ DGet H a y o ∧ Q (.bl o.isSome) H) (fun x y H Q h => din_r h) h
theorem fo_dnin (hu : X.A.units + 1 < cLine) (ha : PE X a (tFO X.K mg W fa)) (hb : PE X b (tFO X.K mg W fb)) (hm : behindInMarks .NotIn b = false) : PE X (.Compare a [.NotIn] [b] pos) (tFO X.K mg W (eBin D.dnin fa fb)) :=
  (pe_cmp (pc_dnotin hu ha hb) hm).imp fun _ _ _ h => bin_go (r := fun y x H Q => ∃ a o, x = .ref a ∧ DGet H a y o ∧ Q (.bl (!o.isSome)) H) (fun x y H Q h => dnin_r h) h
theorem ft_din (hu : X.A.units + 1 < cLine) (ha : PE X a (tFO X.K mg W fa)) (hb : PE X b (tFO X.K mg W fb)) (hm : behindInMarks .In b = false) : PT X (.Compare a [.In] [b] pos) (tFB X.K mg W (tstV (eBin D.din fa fb))) :=
  (pt_cmp (pc_din hu ha hb) hm).imp fun σ H Q q => tst_go (fun _ _ _ h => bin_go (r := fun y x H Q => ∃ a o, x = .ref a ∧ DGet H a y o ∧ Q (.bl o.isSome) H) (fun x y H Q h => din_r h) h) q
theorem ft_dnin (hu : X.A.units + 1 < cLine) (ha : PE X a (tFO X.K mg W fa)) (hb : PE X b (tFO X.K mg W fb)) (hm : behindInMarks .NotIn b = false) : PT X (.Compare a [.NotIn] [b] pos) (tFB X.K mg W (tstV (eBin D.dnin fa fb))) :=
  (pt_cmp (pc_dnotin hu ha hb) hm).imp fun σ H Q q => tst_go (fun _ _ _ h => bin_go (r := fun y x H Q => ∃ a o, x = .ref a ∧ DGet H a y o ∧ Q (.bl (!o.isSome)) H) (fun x y H Q h => dnin_r h) h) q

/-! ### an owned dict -/
/-- the owned dict in a slot: its object, and the rest with another one in its place -/
theorem putD_len {κ : Type} [DecidableEq κ] : ∀ (ks : List κ) (ds : List D) (j : κ) (e : D), ks.length = ds.length → (putD ks ds j e).1.length = (putD ks ds j e).2.length
  | [], [], _, _, _ => rfl
  | k :: ks, d :: ds, j, e, h => by
    unfold putD
    split
    · simpa using h
    · simpa using putD_len ks ds j e (by simpa using h)
theorem putK_nil {κ : Type} [DecidableEq κ] (k : κ) (v : V) : putK ([] : List (κ × V)) k v = [(k, v)] := rfl
theorem putD_none {κ : Type} [DecidableEq κ] : ∀ (ks : List κ) (ds : List D) (j : κ) (e : D), ks.length = ds.length → j ∉ ks → putD ks ds j e = (ks ++ [j], ds ++ [e])
  | [], [], _, _, _, _ => rfl
  | k :: ks, d :: ds, j, e, h, hn => by
    simp only [List.mem_cons, not_or] at hn
    unfold putD
    rw [if_neg fun z => hn.1 z.symm, putD_none ks ds j e (by simpa using h) hn.2]; rfl
theorem any_keys {κ : Type} [DecidableEq κ] (kv : List (κ × V)) (j : κ) : (kv.any fun kv => decide (kv.1 = j)) = decide (j ∈ kv.map (·.1)) := by
  induction kv with
  | nil => simp
  | cons p r ih =>
    rw [List.any_cons, ih, List.map_cons]
    by_cases e : p.1 = j
    · simp [e]
    · have : ¬j = p.1 := fun z => e z.symm
      simp [e, this]
theorem DenL.repl {κ : Type} [DecidableEq κ] {K H} {j : κ} {e : D} {w : V} (hw : Den K H e w) : ∀ {kv : List (κ × V)} {ds : List D}, (kv.map (·.1)).Nodup → j ∈ kv.map (·.1) → DenL K H ds (kv.map (·.2)) →
    (kv.map fun p => if p.1 = j then (p.1, w) else p).map (·.1) = (putD (kv.map (·.1)) ds j e).1 ∧ DenL K H (putD (kv.map (·.1)) ds j e).2 ((kv.map fun p => if p.1 = j then (p.1, w) else p).map (·.2))
  | [], _, _, h, _ => by cases h
  | p :: kv, [], _, _, h => by cases h
  | p :: kv, d :: ds, nd, h, ⟨v, r, e1, e2, e3⟩ => by
    simp only [List.map_cons, List.cons.injEq] at e1
    obtain ⟨rfl, rfl⟩ := e1
    simp only [List.map_cons, List.nodup_cons] at nd
    by_cases z : p.1 = j
    · have hn : (kv.map fun p => if p.1 = j then (p.1, w) else p) = kv := by
        refine (List.map_congr_left fun q hq => if_neg fun y => nd.1 ?_).trans (List.map_id kv)
        rw [z, ← y]; exact List.mem_map_of_mem hq
      simp only [List.map_cons, if_pos z, hn, putD]
      exact ⟨trivial, w, _, rfl, hw, e3⟩
    · have h' : j ∈ kv.map (·.1) := by
        simp only [List.map_cons, List.mem_cons] at h
        rcases h with h | h
        · exact absurd h.symm z
        · exact h
      obtain ⟨i1, i2⟩ := DenL.repl hw nd.2 h' e3
      simp only [List.map_cons, if_neg z, putD]
      exact ⟨by rw [i1], p.2, _, rfl, e2, i2⟩
theorem putK_den {κ : Type} [DecidableEq κ] {K H} {j : κ} {e : D} {w : V} (hw : Den K H e w) {kv : List (κ × V)} {ds : List D} (nd : (kv.map (·.1)).Nodup) (h : DenL K H ds (kv.map (·.2))) :
    (putK kv j w).map (·.1) = (putD (kv.map (·.1)) ds j e).1 ∧ DenL K H (putD (kv.map (·.1)) ds j e).2 ((putK kv j w).map (·.2)) := by
  unfold putK
  rw [any_keys]
  by_cases z : j ∈ kv.map (·.1)
  · rw [if_pos (decide_eq_true z)]
    exact h.repl hw nd z
  · rw [if_neg (by simpa using z), putD_none _ _ _ _ (by have := h.length; simpa using this) z]
    simp only [List.map_append, List.map_cons, List.map_nil]
    exact ⟨trivial, h.append ⟨w, [], rfl, hw, rfl⟩⟩
theorem den1_key {K Hs H e y k} (h : Den1 K Hs H e y) (g : keyD e = some k) : y = kV k := by
  cases e with
  | int i => cases g; exact h
  | str x => cases g; exact h.1
  | _ => cases g
/-- d[k] = e, d an owned dict of shared things -/
noncomputable def D.dput : D → D → D → Option T
  | .dic ks ds, e, v => (keyD e).bind fun k => if ks.Nodup ∧ ks.length < sizeLine then some (.dic (putD ks ds k v).1 ((putD ks ds k v).2.map .sh)) else none
  | .dit ks ds, .tup es, v => (keysD es).bind fun k => if ks.Nodup ∧ ks.length < sizeLine then some (.dit (putD ks ds k v).1 ((putD ks ds k v).2.map .sh)) else none
  | _, _, _ => none
theorem OkAt.ownD {K G σ H ρ Hs fp i t} (ok : OkAt K G σ H ρ Hs fp) (hi : ρ[i]? = some (some t)) (hs : ∀ d, t ≠ .sh d) {d e v : D} {y w : V} {t' : T} (ht : t.top = some d) (hy : Den1 K Hs H e y) (hw : Den K Hs v w) (hp : D.dput d e v = some t') :
    ∃ l, σ[i]? = some (some (.ref l)) ∧ ∃ H', DPut H l y w H' ∧ ∃ fp', OkAt K G σ H' (ρ.set i (some t')) Hs fp' := by
  obtain ⟨v0, f1, f2, f3, h1, h2, h3, h4, _⟩ := ok.env.at hi
  have key : ∀ (l : Addr) (o : HO), v0 = .ref l → l ∈ f2 → (∀ H', H' = upd H l o → ∀ t' f', (∀ a ∈ f', a ∈ f2) → f'.Nodup → DenT K Hs H' t' (.ref l) f' → ∃ fp', OkAt K G σ H' (ρ.set i (some t')) Hs fp') := by
    rintro l o rfl hl H' rfl t' f' hsub hnd hd
    have hln : Hs l = none := ok.disj l (by rw [h2]; simp [hl])
    have nd := ok.nd
    rw [h2] at nd
    have hstay : ∀ a, a ≠ l → upd H l o a = H a := fun a h => upd_ne h
    have same : Same Hs (upd H l o) := fun b u e => by rw [upd_ne (fun z => by subst z; rw [hln] at e; cases e)]; exact ok.sh b u e
    refine ⟨f1 ++ (f' ++ f3), same, ok.base, fun b u e => ?_, fun a e1 e2 => ?_, fun a ha => ?_, ?_, ?_⟩
    · cases z : G.1 b with
      | some o' =>
        have := ok.base b o' z
        rw [upd_ne (fun q => by subst q; rw [hln] at this; cases this)]
        exact ok.frame b u e
      | none =>
        have := (ok.priv b (by rw [e]; rfl) z).2
        rw [upd_ne (fun q => this (by rw [h2, q]; simp [hl]))]
        exact ok.frame b u e
    · obtain ⟨q1, q2⟩ := ok.priv a e1 e2
      refine ⟨q1, fun hm => q2 ?_⟩
      rw [h2]
      simp only [List.mem_append] at hm ⊢
      rcases hm with hm | hm | hm
      · exact .inl hm
      · exact .inr (.inl (hsub a hm))
      · exact .inr (.inr hm)
    · refine ok.disj a ?_
      rw [h2]
      simp only [List.mem_append] at ha ⊢
      rcases ha with hm | hm | hm
      · exact .inl hm
      · exact .inr (.inl (hsub a hm))
      · exact .inr (.inr hm)
    · rw [List.nodup_append] at nd ⊢
      obtain ⟨n1, n2, n3⟩ := nd
      rw [List.nodup_append] at n2
      obtain ⟨n4, n5, n6⟩ := n2
      refine ⟨n1, List.nodup_append.mpr ⟨hnd, n5, fun a ha b hb => n6 a (hsub a ha) b hb⟩, fun a ha b hb => ?_⟩
      rcases List.mem_append.mp hb with hb | hb
      · exact n3 a ha b (by simp [hsub b hb])
      · exact n3 a ha b (by simp [hb])
    · have := h4 Hs (upd H l o) (Same.refl _) (fun a ha => hstay a fun z => by
        subst z
        rw [List.nodup_append] at nd
        obtain ⟨n1, n2, n3⟩ := nd
        rw [List.nodup_append] at n2
        rcases List.mem_append.mp ha with ha | ha
        · exact n3 a ha a (by simp [hl]) rfl
        · exact n2.2.2 a hl a ha rfl) t' (.ref l) f' hd
      have hsame : σ.set i (some (.ref l)) = σ := by
        apply List.ext_getElem?
        intro j
        rw [List.getElem?_set]
        split
        · rename_i q
          subst q
          have hlt : i < σ.length := (List.getElem?_eq_some_iff.mp h1).1
          rw [if_pos hlt]; exact h1.symm
        · rfl
      rw [hsame] at this
      exact this
  cases d with
  | dic ks ds =>
    simp only [D.dput, Option.bind_eq_some_iff] at hp
    obtain ⟨k, g1, g2⟩ := hp
    split at g2
    · rename_i c
      cases g2
      have hk := den1_key hy g1
      subst hk
      cases t with
      | sh d => exact absurd rfl (hs d)
      | dic ks' ts =>
        simp only [T.top, Option.map_eq_some_iff] at ht
        obtain ⟨ds', q1, q2⟩ := ht
        cases q2
        have q1 := T.leaves_eq q1
        subst q1
        obtain ⟨l, kv, fr, rfl, e2, e3, rfl, e5⟩ := h3
        obtain ⟨dl, rfl⟩ := DenTL.leaf e5
        obtain ⟨p1, p2⟩ := putK_den (j := k) hw c.1 dl
        obtain ⟨fp', ok'⟩ := key l (.dK (putK kv k w)) rfl (by rw [e2]; simp) _ rfl (.dic (putD (kv.map (·.1)) ds k v).1 ((putD (kv.map (·.1)) ds k v).2.map .sh)) [l] (fun a ha => by rw [e2]; simpa using ha) (by simp)
          ⟨l, _, [], rfl, rfl, upd_same, p1, DenTL.sh p2⟩
        exact ⟨l, h1, _, DPut.k e3 (by have := c.2; simpa using this), fp', ok'⟩
      | lst ts => simp only [T.top, Option.map_eq_some_iff] at ht; obtain ⟨_, _, q⟩ := ht; cases q
      | dit ks ts => simp only [T.top, Option.map_eq_some_iff] at ht; obtain ⟨_, _, q⟩ := ht; cases q
      | «at» b ts => simp only [T.top, Option.map_eq_some_iff] at ht; obtain ⟨_, _, q⟩ := ht; cases q
    · cases g2
  | dit ks ds =>
    cases e with
    | tup es =>
      simp only [D.dput, Option.bind_eq_some_iff] at hp
      obtain ⟨k, g1, g2⟩ := hp
      split at g2
      · rename_i c
        cases g2
        obtain ⟨b, vs, rfl, m1, m2⟩ := hy
        have hv := den_keys m2 g1
        subst hv
        cases t with
        | sh d => exact absurd rfl (hs d)
        | dit ks' ts =>
          simp only [T.top, Option.map_eq_some_iff] at ht
          obtain ⟨ds', q1, q2⟩ := ht
          cases q2
          have q1 := T.leaves_eq q1
          subst q1
          obtain ⟨l, kv, fr, rfl, e2, e3, rfl, e5⟩ := h3
          obtain ⟨dl, rfl⟩ := DenTL.leaf e5
          obtain ⟨p1, p2⟩ := putK_den (j := k) hw c.1 dl
          obtain ⟨fp', ok'⟩ := key l (.dT (putK kv k w)) rfl (by rw [e2]; simp) _ rfl (.dit (putD (kv.map (·.1)) ds k v).1 ((putD (kv.map (·.1)) ds k v).2.map .sh)) [l] (fun a ha => by rw [e2]; simpa using ha) (by simp)
            ⟨l, _, [], rfl, rfl, upd_same, p1, DenTL.sh p2⟩
          exact ⟨l, h1, _, DPut.t e3 (ok.sh _ _ m1) (by have := c.2; simpa using this), fp', ok'⟩
        | lst ts => simp only [T.top, Option.map_eq_some_iff] at ht; obtain ⟨_, _, q⟩ := ht; cases q
        | dic ks ts => simp only [T.top, Option.map_eq_some_iff] at ht; obtain ⟨_, _, q⟩ := ht; cases q
        | «at» b ts => simp only [T.top, Option.map_eq_some_iff] at ht; obtain ⟨_, _, q⟩ := ht; cases q
      · cases g2
    | _ => cases hp
  | _ => cases hp
end
end FL

namespace FL
open PySem PySem.Spec PyProof.Rows L2
/-- the owned dict in a slot -/
noncomputable def ownT (ρ : Env') (i : Nat) : Option D := match ρ[i]? with
  | some (some (.dic ks ts)) => (T.dic ks ts).top
  | some (some (.dit ks ts)) => (T.dit ks ts).top
  | _ => none
theorem ownT_at {ρ : Env'} {i : Nat} {d : D} (h : ownT ρ i = some d) : ∃ t, ρ[i]? = some (some t) ∧ (∀ d, t ≠ .sh d) ∧ t.top = some d := by
  unfold ownT at h
  split at h
  · rename_i ks ts e; exact ⟨_, e, (fun d z => nomatch z), h⟩
  · rename_i ks ts e; exact ⟨_, e, (fun d z => nomatch z), h⟩
  · cases h
noncomputable def sDput (i : Nat) (na : Env' → Res (T × Env')) (fb : Env' → Res (RV × Env')) : Env' → Res Fl := fun ρ => (na ρ).bind fun (t, ρ1) => match t with
  | .sh v => (Res.of (ownT ρ1 i)).bind fun _ => (fb ρ1).bind fun (r, ρ2) => (Res.of (look ρ2 r)).bind fun e => (Res.of (ownT ρ2 i)).bind fun d => (Res.of (D.dput d e v)).bind fun t' => .ok (.nx (ρ2.set i (some t')))
  | _ => .bad
noncomputable def sDaug (i : Nat) (g : D → D → Option D) (fb fa : Env' → Res (RV × Env')) : Env' → Res Fl := fun ρ => (Res.of (ownT ρ i)).bind fun _ => (fb ρ).bind fun (r, ρ1) => (Res.of (look ρ1 r)).bind fun e => (Res.of (ownT ρ1 i)).bind fun d => (Res.of (D.dget d e)).bind fun d1 =>
  (fa ρ1).bind fun (r2, ρ2) => (Res.of (look ρ2 r2)).bind fun d2 => (Res.of (g d1 d2)).bind fun v => (Res.of (look ρ2 r)).bind fun e' => (Res.of (ownT ρ2 i)).bind fun d => (Res.of (D.dput d e' v)).bind fun t' => .ok (.nx (ρ2.set i (some t')))
/-! new dicts -/
noncomputable def nDicK : Env' → Res (T × Env') := fun ρ => .ok (.dic [] [], ρ)
noncomputable def nDicT : Env' → Res (T × Env') := fun ρ => .ok (.dit [] [], ρ)
noncomputable def nDisp (ks : List Key) (fs : Env' → Res (List RV × Env')) : Env' → Res (T × Env') := fun ρ => (fs ρ).bind fun (rs, ρ1) => (Res.of (leafs rs)).bind fun ds => if ks.Nodup ∧ ks.length = ds.length ∧ ds.length ≤ 15 then .ok (.dic ks (ds.map .sh), ρ1) else .bad
/-- {(..): v} -/
noncomputable def nDispT (fk fv : Env' → Res (RV × Env')) : Env' → Res (T × Env') := fun ρ => (fk ρ).bind fun (r1, ρ1) => (Res.of (esc ρ1 r1)).bind fun (d1, ρ1') => (fv ρ1').bind fun (r2, ρ2) => (Res.of (esc ρ2 r2)).bind fun (d2, ρ3) => match d1 with
  | .tup es => (Res.of (keysD es)).bind fun k => .ok (.dit [k] [.sh d2], ρ3)
  | _ => .bad
theorem leafs_eq' (rs : List RV) : leafs rs = eTup.leafs rs := rfl
section
variable {X : Cx} {mg : Str → Option Value} {W : WX} {a b : Expr} {x : Str} {fa fb fc : Env' → Res (RV × Env')} {na : Env' → Res (T × Env')} {pos p tpos : Pos}
theorem fs_dput (i : Nat) (hu : X.A.units + 1 < cLine) (ha : PE X a (tFN X.K mg W na)) (hb : PE X b (tFO X.K mg W fb)) (hN : X.N[i]? = some x := by rfl) (hv : Vis X.env.scope x := by first | exact Or.inl rfl | exact Or.inr (Or.inl rfl) | exact Or.inr (Or.inr rfl)) (hd : (x == ("__debug__" : Str)) = false := by decide) (hcd : (x == ("__classdict__" : Str)) = false := by decide)
    (hs : swapsWith a (some (.Subscript (.Name x p) b tpos)) pos.line X.env = pure false := by rfl) :
    PS X (.Assign [.Subscript (.Name x p) b tpos] a pos) (tFS X.K mg W (sDput i na fb)) := by
  refine (ps_dput hu (pe_var hN hv hd hcd) hb ha hs).imp fun EE σ H ⟨G, ρ, ⟨Hs, fp, ok⟩, po⟩ => ?_
  refine goN (P := PoS X.K mg W G EE) ok po (fun c ρ' h => h σ) id fun t ρ1 y H1 Hs1 fp1 ft ok1 dt nd q po1 => ?_
  have ok1' := ok.back ok1
  cases t with
  | sh v =>
    simp only at po1
    cases e0 : ownT ρ1 i with
    | none => simp only [e0] at po1; exact po1.elim
    | some d0 =>
      simp only [e0, of_some, bind_ok] at po1
      obtain ⟨t0, hi0, _, _⟩ := ownT_at e0
      obtain ⟨v0, _, _, _, hv0, _⟩ := ok1'.env.at hi0
      refine ⟨v0, hv0, goE (P := PoS X.K mg W G EE) ok1' po1 (fun c ρ' h => h σ) id fun r2 ρ2 w H2 Hs2 fp2 ok2 dw po2 => ?_⟩
      have ok2' := ok1'.back ok2
      cases e1 : look ρ2 r2 with
      | none => simp only [e1] at po2; exact po2.elim
      | some e =>
        cases e2 : ownT ρ2 i with
        | none => simp only [e1, e2, of_some, bind_ok] at po2; exact po2.elim
        | some d =>
          cases e3 : D.dput d e v with
          | none => simp only [e1, e2, e3, of_some, bind_ok] at po2; exact po2.elim
          | some t' =>
            simp only [e1, e2, e3, of_some, bind_ok] at po2
            obtain ⟨t1, hi1, hns, htop⟩ := ownT_at e2
            obtain ⟨l, hl, H', hput, fp', ok3⟩ := ok2'.ownD hi1 hns htop (look_den ok2' dw e1) (dt.2.mono ok2.base) e3
            rw [hv0] at hl
            cases hl
            exact ⟨l, H', rfl, hput, po2 _ _ ⟨Hs2, fp', ok3⟩⟩
  | lst _ => simp only at po1; exact po1.elim
  | dic _ _ => simp only at po1; exact po1.elim
  | dit _ _ => simp only at po1; exact po1.elim
  | «at» _ _ => simp only at po1; exact po1.elim
theorem fs_daug (i : Nat) {op : Operator} {g : D → D → Option D} (hu : X.A.units + 1 < cLine) (ho : IpD X op g) (hb : PE X b (tFO X.K mg W fb)) (ha : PE X a (tFO X.K mg W fa)) (hN : X.N[i]? = some x := by rfl) (hv : Vis X.env.scope x := by first | exact Or.inl rfl | exact Or.inr (Or.inl rfl) | exact Or.inr (Or.inr rfl)) (hd : (x == ("__debug__" : Str)) = false := by decide) (hcd : (x == ("__classdict__" : Str)) = false := by decide)
    (hg : ∀ ov iv new, augStore b ov iv new = (do holding [new, ov, iv] (setItem ov iv new); release [new, ov, iv] []; pure .next) := by intros; rfl) :
    PS X (.AugAssign (.Subscript (.Name x p) b tpos) op a pos) (tFS X.K mg W (sDaug i g fb fa)) := by
  refine (ps_daug hu (pe_var hN hv hd hcd) hb ha ho hg).imp fun EE σ H ⟨G, ρ, ⟨Hs, fp, ok⟩, po⟩ => ?_
  unfold sDaug at po
  cases e0 : ownT ρ i with
  | none => rw [e0] at po; exact po.elim
  | some d0 =>
    rw [e0, of_some, bind_ok] at po
    obtain ⟨t0, hi0, _, _⟩ := ownT_at e0
    obtain ⟨v0, _, _, _, hv0, _⟩ := ok.env.at hi0
    refine ⟨v0, hv0, goE (P := PoS X.K mg W G EE) ok po (fun c ρ' h => h σ) id fun r1 ρ1 w H1 Hs1 fp1 ok1 dw po1 => ?_⟩
    have ok1' := ok.back ok1
    cases e1 : look ρ1 r1 with
    | none => simp only [e1] at po1; exact po1.elim
    | some e =>
      cases e2 : ownT ρ1 i with
      | none => simp only [e1, e2, of_some, bind_ok] at po1; exact po1.elim
      | some d =>
        cases e3 : D.dget d e with
        | none => simp only [e1, e2, e3, of_some, bind_ok] at po1; exact po1.elim
        | some d1 =>
          simp only [e1, e2, e3, of_some, bind_ok] at po1
          obtain ⟨t1, hi1, hns1, htop1⟩ := ownT_at e2
          have hd1 : Den1 X.K Hs1 H1 d v0 := by
            obtain ⟨v1, f1, f2, f3, g1, g2, g3, _⟩ := ok1'.env.at hi1
            rw [hv0] at g1
            cases g1
            exact g3.top ok1'.sh htop1
          unfold D.dget at e3
          split at e3
          · rename_i v1 hdat
            cases e3
            obtain ⟨l, o, ev, hget, ⟨d', w1, q1, q2, q3⟩ | ⟨q1, _⟩⟩ := dat_get ok1'.sh hd1 (look_den ok1' dw e1) hdat
            · cases q1
              subst q2
              refine ⟨l, w1, ev, hget, goE (P := PoS X.K mg W G EE) ok1' po1 (fun c ρ' h => h σ) id fun r2 ρ2 u H2 Hs2 fp2 ok2 du po2 => ?_⟩
              have ok2' := ok1'.back ok2
              cases f2 : look ρ2 r2 with
              | none => simp only [f2] at po2; exact po2.elim
              | some d2 =>
                cases f3 : g d1 d2 with
                | none => simp only [f2, f3, of_some, bind_ok] at po2; exact po2.elim
                | some v =>
                  simp only [f2, f3, of_some, bind_ok] at po2
                  refine ⟨Hs2, d1, d2, v, ok2'.sh, Den.one ok2'.sh (q3.mono ok2.base), look_den ok2' du f2, f3, fun z Hs3 H3 ex dz => ?_⟩
                  cases f4 : look ρ2 r1 with
                  | none => simp only [f4] at po2; exact po2.elim
                  | some e' =>
                    cases f5 : ownT ρ2 i with
                    | none => simp only [f4, f5, of_some, bind_ok] at po2; exact po2.elim
                    | some dd =>
                      cases f6 : D.dput dd e' v with
                      | none => simp only [f4, f5, f6, of_some, bind_ok] at po2; exact po2.elim
                      | some t' =>
                        simp only [f4, f5, f6, of_some, bind_ok] at po2
                        obtain ⟨t2, hi2, hns, htop⟩ := ownT_at f5
                        have ok3 := ok2'.ext ex
                        obtain ⟨l2, hl, H', hput, fp', ok4⟩ := ok3.ownD hi2 hns htop (look_den ok3 ((dw.mono ok2.base).mono ex.s) f4) dz f6
                        rw [hv0] at hl
                        cases hl
                        cases ev
                        exact ⟨H', hput, po2 _ _ ⟨Hs3, fp', ok4⟩⟩
            · cases q1
          · cases e3
theorem fn_dicK : PE X (.Dict [] [] pos) (tFN X.K mg W nDicK) := by
  refine pe_dnewK.imp fun σ H Q ⟨G, ρ, ⟨Hs, fp, ok⟩, po⟩ => fun p hp => ?_
  refine po (.ref p) _ Hs fp [p] (ok.ext (.out ok.sh hp)) ⟨p, [], [], rfl, rfl, upd_same, rfl, rfl, rfl⟩ (by simp) fun a ha => ?_
  rw [List.mem_singleton.mp ha]
  refine ⟨ok.sh.free hp, fun hm => ?_, Same.free ok.frame hp⟩
  obtain ⟨o, eo⟩ := ok.env.there p hm
  rw [hp] at eo; cases eo
theorem fn_dicT : PE X (.Dict [] [] pos) (tFN X.K mg W nDicT) := by
  refine pe_dnewT.imp fun σ H Q ⟨G, ρ, ⟨Hs, fp, ok⟩, po⟩ => fun p hp => ?_
  refine po (.ref p) _ Hs fp [p] (ok.ext (.out ok.sh hp)) ⟨p, [], [], rfl, rfl, upd_same, rfl, rfl, rfl⟩ (by simp) fun a ha => ?_
  rw [List.mem_singleton.mp ha]
  refine ⟨ok.sh.free hp, fun hm => ?_, Same.free ok.frame hp⟩
  obtain ⟨o, eo⟩ := ok.env.there p hm
  rw [hp] at eo; cases eo
theorem fn_dic_fin {K mg W} {G : Gh} {σ : L2.St} {H H2 : Hp} {ρ ρ2 : Env'} {Hs Hs2 : Hp} {fp fp2 : List Addr} {p : Addr} {o o2 : HO} (ok : OkAt K G σ H ρ Hs fp) (hp : H p = none) (ok2 : OkAt K (Hs, rem (upd H p o) fp) σ H2 ρ2 Hs2 fp2) {Q : VK} {t : T} (po : PoN K mg W G σ Q (.ok (t, ρ2)))
    (ht : DenT K Hs2 (upd H2 p o2) t (.ref p) [p]) : Q (.ref p) (upd H2 p o2) ∧ H2 p = some o := by
  have npf : p ∉ fp := fun hm => by
    obtain ⟨q, eq⟩ := ok.env.there p hm
    rw [hp] at eq; cases eq
  have hr : rem (upd H p o) fp p = some o := by simp [rem, npf, upd_same]
  obtain ⟨q1, q2⟩ := ok2.priv p (by show ((rem (upd H p o) fp) p).isSome = true; rw [hr]; rfl) (ok.sh.free hp)
  have hp2 : H2 p = some o := ok2.frame p o hr
  have okx : OkAt K G σ (upd H p o) ρ Hs fp := ok.ext (.out ok.sh hp)
  have okb := okx.back ok2
  refine ⟨po (.ref p) _ Hs2 fp2 [p] ?_ ht (by simp) fun a ha => ?_, hp2⟩
  · have hst : ∀ a, a ≠ p → upd H2 p o2 a = H2 a := fun a h => upd_ne h
    refine ⟨fun b u e => by rw [hst b fun z => by subst z; rw [q1] at e; cases e]; exact okb.sh b u e, okb.base, fun b u e => ?_, okb.priv, okb.disj, okb.nd, okb.env.mono (Same.refl _) fun a ha => hst a fun z => q2 (z ▸ ha)⟩
    rw [hst b fun z => by
      subst z
      have := ok.frame b u e
      rw [hp] at this; cases this]
    exact okb.frame b u e
  · rw [List.mem_singleton.mp ha]
    exact ⟨q1, q2, Same.free ok.frame hp⟩
inductive ChainF (X : Cx) (mg : Str → Option Value) (W : WX) : List Key → List (TE × TE) → (Env' → Res (List RV × Env')) → Prop
  | nil : ChainF X mg W [] [] aNil
  | cons {k : Key} {ks : List Key} {trs : List (TE × TE)} {f : Env' → Res (RV × Env')} {fr : Env' → Res (List RV × Env')} (h : ChainF X mg W ks trs fr) : ChainF X mg W (k :: ks) ((tC (kV k), tFO X.K mg W f) :: trs) (aConsE f fr)
theorem ChainF.go {X : Cx} {mg : Str → Option Value} {W : WX} {ks : List Key} {trs : List (TE × TE)} {fs : Env' → Res (List RV × Env')} (h : ChainF X mg W ks trs fs) : ∀ {σ : L2.St} {H : Hp} {Q : List (V × V) → Hp → Prop}, tFA X.K mg W fs σ H (fun vs H' => Q ((ks.map kV).zip vs) H') → tPairs trs σ H Q := by
  induction h with
  | nil =>
    rintro σ H Q ⟨G, ρ, ⟨Hs, fp, ok⟩, po⟩
    exact po [] H Hs fp ok rfl
  | cons h ih =>
    rintro σ H Q ⟨G, ρ, ⟨Hs, fp, ok⟩, po⟩
    refine goE ok po (fun _ _ h => h) id fun r1 ρ1 x H1 Hs1 fp1 ok1 dx po1 => ?_
    have ok1' := ok.back ok1
    cases e1 : esc ρ1 r1 with
    | none => simp only [e1] at po1; exact po1.elim
    | some p =>
      obtain ⟨d, ρ1'⟩ := p
      simp only [e1, of_some, bind_ok] at po1
      obtain ⟨Hs1', fp1', okE, sE, dE⟩ := esc_den ok1' dx e1
      refine ih (goA okE po1 (fun _ _ h => h) id fun rs ρ2 ys H2 Hs2 fp2 ok2 dy po2 => ?_)
      have ok2' := okE.back ok2
      exact po2 _ H2 Hs2 fp2 ok2' ⟨x, ys, rfl, dE.mono ok2.base, dy⟩
theorem zip_keys : ∀ {ks : List Key} {vs : List V}, ks.length = vs.length → (ks.map kV).zip vs = (ks.zip vs).map fun kv => (kV kv.1, kv.2)
  | [], [], _ => rfl
  | k :: ks, v :: vs, h => by simp [zip_keys (by simpa using h : ks.length = vs.length)]
theorem zip_fst : ∀ {ks : List Key} {vs : List V}, ks.length = vs.length → (ks.zip vs).map (·.1) = ks
  | [], [], _ => rfl
  | k :: ks, v :: vs, h => by simp [zip_fst (by simpa using h : ks.length = vs.length)]
theorem zip_snd : ∀ {ks : List Key} {vs : List V}, ks.length = vs.length → (ks.zip vs).map (·.2) = vs
  | [], [], _ => rfl
  | k :: ks, v :: vs, h => by simp [zip_snd (by simpa using h : ks.length = vs.length)]
theorem merge_new : ∀ (more kvs : List (Key × V)), (more.map (·.1)).Nodup → (∀ k ∈ more.map (·.1), k ∉ kvs.map (·.1)) → mergeK kvs more = kvs ++ more
  | [], kvs, _, _ => by simp [mergeK]
  | p :: more, kvs, nd, h => by
    simp only [List.map_cons, List.nodup_cons] at nd
    have e : putK kvs p.1 p.2 = kvs ++ [p] := by
      unfold putK
      rw [any_keys, if_neg (by simpa using h p.1 (by simp))]
    show mergeK (putK kvs p.1 p.2) more = _
    rw [e, merge_new more (kvs ++ [p]) nd.2 fun k hk => ?_]
    · simp
    · rw [List.map_append, List.mem_append]
      rintro (z | z)
      · exact h k (by simp [hk]) z
      · simp at z; subst z; exact nd.1 hk
theorem fn_disp {keys : List (Option Expr)} {values : List Expr} {ks : List Key} {trs : List (TE × TE)} {fs : Env' → Res (List RV × Env')} (hc : ChainF X mg W ks trs fs) (h : PPs X pos keys values trs) (hall : keys.all (·.isSome) = true) (hl : keys.length = values.length) (h0 : keys ≠ [])
    (h15 : keys.length ≤ 15) : PE X (.Dict keys values pos) (tFN X.K mg W (nDisp ks fs)) := by
  refine (pe_disp h hall hl h0 h15).imp fun σ H Q ⟨G, ρ, ⟨Hs, fp, ok⟩, po⟩ => fun p hp => ?_
  have okx : OkAt X.K G σ (upd H p (.dK [])) ρ Hs fp := ok.ext (.out ok.sh hp)
  refine hc.go (goA okx po (fun _ _ h => h) id fun rs ρ2 vs H2 Hs2 fp2 ok2 dy po2 => ?_)
  cases e1 : eTup.leafs rs with
  | none => simp only [leafs_eq', e1] at po2; exact po2.elim
  | some ds =>
    simp only [leafs_eq', e1, of_some, bind_ok] at po2
    have dl := leafs_den dy e1
    split at po2
    · rename_i c
      have hlen : ks.length = vs.length := by rw [dl.length]; exact c.2.1
      have ht : DenT X.K Hs2 (upd H2 p (.dK (ks.zip vs))) (.dic ks (ds.map .sh)) (.ref p) [p] := ⟨p, ks.zip vs, [], rfl, rfl, upd_same, zip_fst hlen, by rw [zip_snd hlen]; exact DenTL.sh dl⟩
      obtain ⟨q1, q2⟩ := fn_dic_fin (o2 := .dK (ks.zip vs)) ok hp ok2 po2 ht
      refine ⟨q2, ks.zip vs, zip_keys hlen, by rw [List.length_zip]; omega, ?_⟩
      rw [merge_new _ _ (by rw [zip_fst hlen]; exact c.1) (by simp), List.nil_append]
      exact q1
    · exact po2.elim
end
end FL

namespace FL
open PySem PySem.Spec PyProof.Rows L2
theorem dict_pairsH' {prog : Program} {w : World} {K : Type} [DecidableEq K] {knd : HeapKind prog w K} {A : Around} {E : Value → Shared → Prop} {s : Shared} {env : Env} {keys : List (Option Expr)} {values : List Expr} {pos : Pos} {pairs : List (Sem Value × Sem Value)} {Q : Value → Shared → Prop} (hu : knd.room A)
    (hshape : (evalEachOpt keys env).zip ((evalEach values env).map fun v => do let x ← v; standAt pos; pure x) = pairs.map fun p => (some p.1, p.2)) (h0 : pairs ≠ []) (hlen : pairs.length ≤ 15)
    (h : wpAny (model prog w) A (evalPairs pairs) (fun vs s₁ => ∃ ps, CarriesH knd s₁.heap vs ps ∧ s₁.heap.DictOfH knd s.heap.objs.size [] ∧
      ∀ h' tk, h'.DictOfH knd s.heap.objs.size (storedAllH [] ps) → Heap.SameBut s.heap.objs.size s₁.heap h' → Q (.ref s.heap.objs.size) { s₁ with heap := h', toks := tk }) E
      { s with heap := s.heap.push { cls := .type "dict", data := .dict #[] } }) :
    wpAny (model prog w) A (eval (.Dict keys values pos) env) Q E s := by
  rw [arm_eval_Dict, hshape, dictDisplay_pairs pairs h0 (by omega)]
  exact wpAny_bind (wpAny_standAt (wpAny_bind (wpAny_subDictH (knd := knd) (Q := fun d s' => wpAny (model prog w) A (pure (Value.ref d)) Q E s') hu hlen
    (wpAny_mono h (fun vs s₁ h₁ => by obtain ⟨ps, hc, hm, hq⟩ := h₁; exact ⟨ps, hc, hm, fun h' tk a b => wpAny_pure (hq h' tk a b)⟩) fun _ _ e => e))))
/-- {(..): v} -/
def tDispT1 (tk tv : TE) : TE := fun σ H Q => ∀ p, H p = none → tPairs [(tk, tv)] σ (upd H p (.dT [])) fun ps H2 => ∃ k b u, ps = [(.ref b, u)] ∧ H2 b = some (.tup (k.map kV)) ∧ H2 p = some (.dT []) ∧ Q (.ref p) (upd H2 p (.dT [(k, u)]))
theorem pe_dispT1 {X : Cx} {pos : Pos} {k v : Expr} {tk tv : TE} (hu : X.A.units < cLine) (hk : PE X k tk) (hv : PE X v tv) : PE X (.Dict [some k] [v] pos) (tDispT1 tk tv) := by
  refine ⟨fun pins s σ H Q I q => ?_⟩
  have hn := I.hok.fresh (Nat.le_refl s.heap.objs.size)
  have I1 := I.laid (a := s.heap.objs.size) (o := .dT []) (h' := s.heap.push { cls := .type "dict", data := .dict #[] }) (t' := s.toks) (fun _ _ q => Heap.get?_push_of_some _ q) (Nat.le_refl _) (dt_empty s.heap I.big)
  have hp : PPs X pos [some k] [v] [(tk, tv)] := pps_cons hk hv pps_nil
  have hl : (pairTrees [some k] [v] X.env pos).length = 1 := pairTrees_length [some k] [v] X.env pos rfl rfl
  refine dict_pairsH' (knd := tupleKind (mixKind X.prog X.w)) (pairs := pairTrees [some k] [v] X.env pos) hu (zip_pairTrees [some k] [v] X.env pos rfl rfl) (fun z => ?_) (by omega)
    (thn (hp.run pins _ σ _ _ I1 (q _ hn)) fun ws s2 ⟨ps, H2, I2, rel, kk, b, u, eps, eb, ep, q2⟩ => ?_)
  · rw [z] at hl; cases hl
  · subst eps
    cases rel with
    | @cons a c as bs hac t =>
      cases t
      obtain ⟨c1, c2⟩ := c
      obtain ⟨r1, r2⟩ := hac
      cases (show c1 = Value.ref b from r1)
      obtain ⟨z, hd, xs, r0, dd⟩ := dt_of I2.hok ep
      cases r0
      refine ⟨[(kk, b, c2)], ⟨rfl, rfl, key_of I2.hok eb, trivial⟩, dd, fun h' tk dd' hs => ⟨.ref s.heap.objs.size, _, ?_, rfl, q2⟩⟩
      obtain ⟨qq, es, epp, hq, h2, h3, h4, _, h5⟩ := dd'
      exact d_write I2 (by rw [ep]; exact True.intro) hs ⟨qq, hq⟩ ⟨by show (1 : Nat) ≤ sizeLine; decide, hd, [(kk, b, c2)], .cons ⟨rfl, by rw [upd_ne (ne_of eb ep (fun z => nomatch z))]; exact eb, r2⟩ .nil, qq, es, epp, hq, h2, h3, h4, h5⟩
section
variable {X : Cx} {mg : Str → Option Value} {W : WX} {a b : Expr} {fa fb : Env' → Res (RV × Env')} {pos : Pos}
theorem fn_dispT (hu : X.A.units < cLine) (ha : PE X a (tFO X.K mg W fa)) (hb : PE X b (tFO X.K mg W fb)) : PE X (.Dict [some a] [b] pos) (tFN X.K mg W (nDispT fa fb)) := by
  refine (pe_dispT1 hu ha hb).imp fun σ H Q ⟨G, ρ, ⟨Hs, fp, ok⟩, po⟩ => fun p hp => ?_
  have okx : OkAt X.K G σ (upd H p (.dT [])) ρ Hs fp := ok.ext (.out ok.sh hp)
  refine goE (P := PoN X.K mg W G σ Q) okx po (fun _ _ h => h) id fun r1 ρ1 x H1 Hs1 fp1 ok1 dx po1 => ?_
  cases e1 : esc ρ1 r1 with
  | none => simp only [e1] at po1; exact po1.elim
  | some q1 =>
    obtain ⟨d1, ρ1'⟩ := q1
    simp only [e1, of_some, bind_ok] at po1
    obtain ⟨Hs1', fp1', okE, sE, dE⟩ := esc_den ok1 dx e1
    refine goE (P := PoN X.K mg W G σ Q) okE po1 (fun c ρ' h H' C hc o => h H' C hc (Ok.back okx o)) id fun r2 ρ2 y H2 Hs2 fp2 ok2 dy po2 => ?_
    have ok2' := okE.back ok2
    cases e2 : esc ρ2 r2 with
    | none => simp only [e2] at po2; exact po2.elim
    | some q2 =>
      obtain ⟨d2, ρ3⟩ := q2
      simp only [e2, of_some, bind_ok] at po2
      obtain ⟨Hs3, fp3, ok3, s3, dE2⟩ := esc_den ok2' dy e2
      cases d1 with
      | tup es =>
        cases e3 : keysD es with
        | none => simp only [e3] at po2; exact po2.elim
        | some k =>
          simp only [e3, of_some, bind_ok] at po2
          have dE3 := (dE.mono ok2.base).mono s3
          obtain ⟨b, vs, rfl, m1, m2⟩ := dE3
          have hv := den_keys m2 e3
          subst hv
          have ht : DenT X.K Hs3 (upd H2 p (.dT [(k, y)])) (.dit [k] [.sh d2]) (.ref p) [p] := ⟨p, [(k, y)], [], rfl, rfl, upd_same, rfl, y, [], [], [], rfl, rfl, ⟨rfl, dE2⟩, rfl, rfl⟩
          obtain ⟨q1, q2⟩ := fn_dic_fin (o2 := .dT [(k, y)]) ok hp ok3 po2 ht
          exact ⟨k, b, y, rfl, ok3.sh _ _ m1, q2, q1⟩
      | _ => exact po2.elim
end
end FL

namespace L2
open PySem PySem.Spec PyProof.Rows HT
/-! ### xs[::-1] of lists, tuples and texts -/
theorem adjust_rev (n : Nat) : Builtin.Slice.sliceAdjust none none (-1) (n : Int) = ((n : Int) - 1, -1) := by
  unfold Builtin.Slice.sliceAdjust
  first | rfl | simp
theorem places_rev (n : Nat) : Builtin.Slice.slicePlaces ((n : Int) - 1) (-1) (-1) = n := by
  unfold Builtin.Slice.slicePlaces
  have h1 : ¬ ((-1 : Int) > 0) := by omega
  simp only [h1, if_false]
  split
  · rw [show (- -1 : Int) = 1 by decide, Int.ediv_one]; omega
  · omega
theorem fm_congr {α β : Type} {f g : α → Option β} : ∀ {l : List α}, (∀ x ∈ l, f x = g x) → l.filterMap f = l.filterMap g
  | [], _ => rfl
  | x :: l, h => by rw [List.filterMap_cons, List.filterMap_cons, h x (List.mem_cons_self ..), fm_congr (l := l) fun y hy => h y (List.mem_cons_of_mem _ hy)]
theorem pick_rev (xs : Array Value) : ((List.range xs.size).filterMap fun (m : Nat) => xs[(((xs.size : Int) - 1) + (m : Int) * (-1)).toNat]?).toArray = xs.toList.reverse.toArray := by
  congr 1
  have e : ((List.range xs.size).filterMap fun (m : Nat) => xs[(((xs.size : Int) - 1) + (m : Int) * (-1)).toNat]?) = ((List.range xs.size).map fun k => xs.size - 1 - k).filterMap (xs[·]?) := by
    rw [List.filterMap_map]
    refine fm_congr fun m hm => ?_
    have := List.mem_range.mp hm
    show xs[_]? = xs[xs.size - 1 - m]?
    congr 1
    omega
  rw [e, ← PySem.W.krv_sliceRange]
  have := PySem.W.krv_pick xs
  unfold slicePick at this
  rw [PySem.W.krv_bounds] at this
  have := congrArg Array.toList this
  simpa using this
section
variable {prog : Program} {w : World} {A : Around} {E : Value → Shared → Prop} {s : Shared}
theorem sliceApplied_rev {sl : Addr} {vs : Value} {n : Nat} {Q : Int × Int × Nat → Shared → Prop} (hs : s.heap.IsSliceOf sl .none .none vs) (ps : IsPart vs (some (-1)))
    (h : Q ((n : Int) - 1, -1, n) s) : wpAny (model prog w) A (Builtin.Slice.sliceApplied (.ref sl) (pure (n : Int))) Q E s := by
  obtain ⟨os, hos, hcs, hds⟩ := id hs
  unfold Builtin.Slice.sliceApplied Builtin.Slice.sliceFields
  refine wpAny_bind (wpAny_bind (wpAny_field hos hds (x := .none) rfl (wpAny_bind (wpAny_field hos hds (x := .none) rfl (wpAny_bind (wpAny_field hos hds (x := vs) rfl (wpAny_pure ?_)))))))
  refine wpAny_bind (slicePart_ ps ?_)
  show wpAny _ _ (if ((-1 : Int) == 0) = true then _ else _) _ _ s
  rw [if_neg (by decide)]
  refine wpAny_bind (slicePart_none (wpAny_bind (slicePart_none (wpAny_bind (wpAny_pure ?_)))))
  show wpAny _ _ (match Builtin.Slice.sliceAdjust none none (-1) (n : Int) with | (lo, hi) => pure (lo, (-1 : Int), Builtin.Slice.slicePlaces lo hi (-1))) _ _ s
  rw [adjust_rev n]
  show wpAny _ _ (pure ((n : Int) - 1, (-1 : Int), Builtin.Slice.slicePlaces ((n : Int) - 1) (-1) (-1))) _ _ s
  rw [places_rev]
  exact wpAny_pure h
theorem getItem_tuple_rev {t sl : Addr} {items : Array Value} {vs : Value} {Q : Value → Shared → Prop} (ht : IsTup s.heap t items) (hs : s.heap.IsSliceOf sl .none .none vs) (ps : IsPart vs (some (-1)))
    (h : Q (.ref s.heap.objs.size) { s with heap := s.heap.push { cls := .type "tuple", data := .seq items.toList.reverse.toArray } })
    (hsz : items.size ≤ sizeLine) : wpAny (model prog w) A (getItem (.ref t) (.ref sl)) Q E s := by
  have htake : sizeOk (.seq items.toList.reverse.toArray) := by
    show items.toList.reverse.toArray.size ≤ sizeLine
    rw [List.size_toArray, List.length_reverse, Array.length_toList]
    omega
  obtain ⟨os, hos, hcs, hds⟩ := id hs
  have hTs : s.TypeIs (.ref sl) "slice" := ⟨os, hos, hcs⟩
  unfold getItem
  try with_reducible refine wpAny_holding ?_
  first | refine wpAny_bind (wpAny_pure ?_) | skip
  refine wpAny_bind (wpAny_sequenceKey ht.typeIs (by decide) ?_)
  refine wpAny_bind (wpAny_callSpecial?_slot (name := Str.ofString "__getitem__") ht.typeIs PyProof.Rows.slot_tuple_getitem
    (wpAny_call_entry PyProof.Rows.slot_tuple_getitem ht.typeIs entry_tuple_getitem ?_ (args_tuple_getitem _ _)))
  show wpAny _ _ (Builtin.Tuple.tupleItemsOf (.ref t) >>= _) _ _ s
  refine wpAny_bind (tupleItemsOf_ ht ?_)
  refine wpAny_bind (wpAny_typeOf hTs ?_)
  rw [if_pos (by decide)]
  refine wpAny_bind (sliceApplied_rev hs ps ?_)
  have hno : ¬ (((items.size : Int) - 1 == 0 && (-1 : Int) == 1 && items.size == items.size) = true) := by
    intro q
    rw [Bool.and_eq_true, Bool.and_eq_true] at q
    exact absurd q.1.2 (by decide)
  show wpAny _ _ (if ((items.size : Int) - 1 == 0 && (-1 : Int) == 1 && items.size == items.size) = true then _ else _) _ _ s
  rw [if_neg hno, pick_rev]
  first
    | exact wpAny_bind (m := Builtin.Tuple.tupleExact _) (wpAny_newObj_type (wpAny_pure ⟨_, rfl, wpAny_pure h⟩) htake)
    | exact wpAny_bind (m := Builtin.Tuple.tupleExact _) (wpAny_newObj_type (wpAny_bind (wpAny_pure (wpAny_pure ⟨_, rfl, wpAny_pure h⟩))) htake)
    | exact wpAny_bind (wpAny_bind (m := Builtin.Tuple.tupleExact _) (wpAny_newObj_type (wpAny_pure (wpAny_pure ⟨_, rfl, wpAny_pure h⟩)) htake))
    | exact wpAny_bind (wpAny_bind (m := Builtin.Tuple.tupleExact _) (wpAny_newObj_type (wpAny_pure ⟨_, rfl, wpAny_pure h⟩) htake))
end
theorem strRev (z : Str) : ((Builtin.Str.strSliceIndices none none (-1) z.length).filterMap (z.cps[·]?)) = z.cps.toList.reverse := by
  unfold Builtin.Str.strSliceIndices
  have h1 : ¬ ((-1 : Int) > 0) := by decide
  simp only [h1, if_false]
  rw [PySem.W.krv_sliceRange, PySem.W.krv_range, List.filterMap_reverse, show z.length = z.cps.size from rfl, PySem.W.krv_all]
def revS (z : Str) : Str := ⟨z.cps.toList.reverse.toArray⟩
/-- what [::-1] takes -/
def tRevA (K : PySem.W.Frag) (te : TE) : TE := fun σ H Q => te σ H fun x H1 =>
  (∃ a xs, x = .ref a ∧ SqL K H1 a xs ∧ ∀ p, H1 p = none → Q (.ref p) (upd H1 p (.lst xs.reverse))) ∨
  (∃ a xs, x = .ref a ∧ SqT K H1 a xs ∧ ∀ p, H1 p = none → Q (.ref p) (upd H1 p (.tup xs.reverse))) ∨
  (∃ z, x = .str z ∧ z.length ≤ sizeLine ∧ Q (.str (revS z)) H1)
section
variable {X : Cx}
theorem pe_revA {e : Expr} {te : TE} {k : Nat} {p1 p2 p3 pos : Pos} (he : PE X e te) : PE X (.Subscript e (.Slice none none (some (.UnaryOp .USub (.Constant (.int 1) k p1) p2)) p3) pos) (tRevA X.K te) := by
  refine ⟨fun pins s σ H Q I h => ?_⟩
  refine Subscript_ (thn (he.run pins s σ H _ I h) fun v s1 ⟨x, H1, I1, r1, q1⟩ => ?_)
  have hst : PO X (some (.UnaryOp .USub (.Constant (.int 1) k p1) p2)) (tPart (tUn (rU fun i => .int (-i)) (tC (.int 1)))) := po_some (pe_un un_neg pe_int)
  refine wpAny_Slice (thn (po_none.run pins s1 σ H1 (fun o H2 => o = none ∧ H2 = H1) I1 ⟨rfl, rfl⟩) fun vl s2 ⟨l, H2, I2, pl, el, e2⟩ => ?_)
  subst el e2
  refine thn (po_none.run pins s2 σ H2 (fun o H3 => o = none ∧ H3 = H2) I2 ⟨rfl, rfl⟩) fun vu s3 ⟨u, H3, I3, pu, eu, e3⟩ => ?_
  subst eu e3
  refine thn (hst.run pins s3 σ H3 (fun o H4 => o = some (-1) ∧ H4 = H3) I3 ⟨1, rfl, -1, rfl, rfl, rfl⟩) fun vs s4 ⟨o, H4, I4, ps, eo, e4⟩ => ?_
  subst eo e4
  have I5 : Inv X pins σ H4 { s4 with heap := s4.heap.push { cls := .type "slice", data := .fields #[vl, vu, vs] } } := I4.kept (t' := s4.toks) fun b ob q => Heap.get?_push_of_some _ q
  cases pl
  cases pu
  rcases q1 with ⟨a, xs, ex, hx, q⟩ | ⟨a, xs, ex, hx, q⟩ | ⟨z, ex, hz, q⟩
  · subst ex
    cases r1
    obtain ⟨its, r, ht, hz⟩ := I5.list hx
    have hlen := r.length
    show wpAny (model X.prog X.w) X.A (subscriptTail e (.Slice none none (some (.UnaryOp .USub (.Constant (.int 1) k p1) p2)) p3) (.ref a) (.ref s4.heap.objs.size)) (EP X pins σ Q) X.xe { s4 with heap := s4.heap.push { cls := .type "slice", data := .fields #[.none, .none, vs] } }
    refine tail_any (ops := [.ref a, .ref s4.heap.objs.size]) ht.isList.typeIs (PySem.slot_list_getitem.lookup) ?_ (by with_unfolding_all rfl)
    refine wpAny_getItem_list_slice ht.isList (Heap.IsSliceOf.new _ .none .none vs) .none .none ps (by decide) ?_ (by rw [List.size_toArray]; omega)
    rw [PySem.W.krv_pick]
    refine ⟨.ref _, _, I5.laid (t' := s4.toks) (o := .lst xs.reverse) (fun b ob q => Heap.get?_push_of_some _ q) (Nat.le_refl _) ?_, rfl, q _ (I5.hok.fresh (Nat.le_refl _))⟩
    exact ⟨by rw [List.length_reverse]; exact hz, _, 0, r.reverse, Heap.get?_push_size _ rfl⟩
  · subst ex
    cases r1
    obtain ⟨its, r, ht, hz⟩ := I5.tuple hx
    have hlen := r.length
    show wpAny (model X.prog X.w) X.A (subscriptTail e (.Slice none none (some (.UnaryOp .USub (.Constant (.int 1) k p1) p2)) p3) (.ref a) (.ref s4.heap.objs.size)) (EP X pins σ Q) X.xe { s4 with heap := s4.heap.push { cls := .type "slice", data := .fields #[.none, .none, vs] } }
    refine tail_any (ops := [.ref a, .ref s4.heap.objs.size]) ht.typeIs (PyProof.Rows.slot_tuple_getitem.lookup) ?_ (by with_unfolding_all rfl)
    refine getItem_tuple_rev ht (Heap.IsSliceOf.new _ .none .none vs) ps ?_ (by rw [List.size_toArray]; omega)
    refine ⟨.ref _, _, I5.laid (t' := s4.toks) (o := .tup xs.reverse) (fun b ob q => Heap.get?_push_of_some _ q) (Nat.le_refl _) ?_, rfl, q _ (I5.hok.fresh (Nat.le_refl _))⟩
    exact ⟨by rw [List.length_reverse]; exact hz, _, r.reverse, IsTup.new _ _⟩
  · subst ex
    obtain ⟨t, rfl⟩ := r1
    obtain ⟨st, hv, h1⟩ := IsPart.raw ps
    subst hv
    show wpAny (model X.prog X.w) X.A (subscriptTail e (.Slice none none (some (.UnaryOp .USub (.Constant (.int 1) k p1) p2)) p3) (.str z t) (.ref s4.heap.objs.size)) (EP X pins σ Q) X.xe _
    refine tail_any (ops := [.str z t, .ref s4.heap.objs.size]) (typeIs_str _ _ _) (F.slot_str_getitem.lookup) ?_ (by with_unfolding_all rfl)
    refine wpAny_getItem_str_slice (l := none) (u := none) (st := st) ⟨_, Heap.get?_push_size _ rfl, rfl, rfl⟩ (by rw [h1]; rfl) ?_
    unfold sliceMade slicePicked
    rw [h1]
    show Made.post (if ((-1 : Int) == 1 && (Builtin.Str.strSliceIndices none none (-1) z.length).length == z.length) = true then Made.val (.str z t)
      else Made.str ⟨((Builtin.Str.strSliceIndices none none (-1) z.length).filterMap (z.cps[·]?)).toArray⟩) (EP X pins σ Q) _
    rw [if_neg (by simp)]
    rw [strRev]
    refine ⟨by show z.cps.toList.reverse.toArray.size ≤ _; rw [List.size_toArray, List.length_reverse, Array.length_toList]; exact hz, .str _, H4, I5.tok _, ⟨_, rfl⟩, q⟩
end
end L2
namespace FL
open PySem PySem.Spec PyProof.Rows L2
noncomputable section
def D.revSl : D → Option D
  | .lst ds => some (.lst ds.reverse)
  | .fz ds => some (.lst ds.reverse)
  | .tup ds => some (.tup ds.reverse)
  | .ftup ds => some (.tup ds.reverse)
  | .str z => some (.str (revS z))
  | _ => none
end
section
variable {X : Cx} {mg : Str → Option Value} {W : WX} {a : Expr} {fa : Env' → Res (RV × Env')}
theorem revS_ok {z : Str} (h : sOk z) : sOk (revS z) := sOk_sub h (fun c hc => List.mem_reverse.mp (by simpa [revS] using hc)) (by simp [revS, Str.length])
theorem fo_revSl {k : Nat} {p1 p2 p3 pos : Pos} (ha : PE X a (tFO X.K mg W fa)) : PE X (.Subscript a (.Slice none none (some (.UnaryOp .USub (.Constant (.int 1) k p1) p2)) p3) pos) (tFO X.K mg W (eUn D.revSl fa)) := by
  refine (pe_revA ha).imp fun σ H Q ⟨G, ρ, ⟨Hs, fp, ok⟩, po⟩ => ?_
  refine goE ok po (fun _ _ h => h) id fun r1 ρ1 x H1 Hs1 fp1 ok1 dx po1 => ?_
  have ok1' := ok.back ok1
  cases e1 : look ρ1 r1 with
  | none => simp only [e1, Option.bind] at po1; exact po1.elim
  | some d =>
    have q := look_den ok1' dx e1
    simp only [e1, Option.bind] at po1
    cases d with
    | lst ds =>
      obtain ⟨a, vs, rfl, k1, k2⟩ := q
      refine .inl ⟨a, vs, rfl, SqL.lst k1, fun p hp => ?_⟩
      have ex := Ext.new (o := .lst vs.reverse) ok1'.sh hp
      exact po1 _ _ _ fp1 (ok1'.ext ex) ⟨p, _, rfl, upd_same, (k2.rev).mono ex.s⟩
    | fz ds =>
      obtain ⟨a, vs, rfl, k1, k2⟩ := q
      refine .inl ⟨a, vs, rfl, ok1'.sh.seq k1, fun p hp => ?_⟩
      have ex := Ext.new (o := .lst vs.reverse) ok1'.sh hp
      exact po1 _ _ _ fp1 (ok1'.ext ex) ⟨p, _, rfl, upd_same, (k2.rev).mono ex.s⟩
    | tup ds =>
      obtain ⟨a, vs, rfl, k1, k2⟩ := q
      refine .inr (.inl ⟨a, vs, rfl, SqT.of (ok1'.sh _ _ k1), fun p hp => ?_⟩)
      have ex := Ext.new (o := .tup vs.reverse) ok1'.sh hp
      exact po1 _ _ _ fp1 (ok1'.ext ex) ⟨p, _, rfl, upd_same, (k2.rev).mono ex.s⟩
    | ftup ds =>
      obtain ⟨a, vs, rfl, k1, k2⟩ := q
      refine .inr (.inl ⟨a, vs, rfl, ok1'.sh.seqT k1, fun p hp => ?_⟩)
      have ex := Ext.new (o := .tup vs.reverse) ok1'.sh hp
      exact po1 _ _ _ fp1 (ok1'.ext ex) ⟨p, _, rfl, upd_same, (k2.rev).mono ex.s⟩
    | str z =>
      obtain ⟨rfl, k⟩ := q
      exact .inr (.inr ⟨z, rfl, k.1, po1 _ _ _ fp1 ok1' ⟨rfl, revS_ok k⟩⟩)
    | _ => exact po1.elim
end
end FL

namespace FL
open PySem PySem.Spec PyProof.Rows L2
/-! ### a, b, .. = x, y, ..: with things of one's own -/
theorem OkAt.put' {K G σ H ρ Hs fp i t v f} (ok : OkAt K G σ H ρ Hs fp) (hi : i < ρ.length) (d : DenT K Hs H t v f) (nd : f.Nodup) (q : ∀ a ∈ f, Hs a = none ∧ a ∉ fp ∧ G.2 a = none) :
    ∃ fp', OkAt K G (σ.set i (some v)) H (ρ.set i (some t)) Hs fp' ∧ ∀ a ∈ fp', a ∈ fp ∨ a ∈ f := by
  obtain ⟨f1, f2, f3, e, env⟩ := ok.env.put hi d
  have nfp := ok.nd
  refine ⟨f1 ++ (f ++ f3), ⟨ok.sh, ok.base, ok.frame, fun a p1 p2 => ?_, fun a ha => ?_, ?_, env⟩, fun a ha => ?_⟩
  · obtain ⟨q1, q2⟩ := ok.priv a p1 p2
    refine ⟨q1, fun hm => ?_⟩
    rw [e] at q2
    simp only [List.mem_append, not_or] at q2 hm
    rcases hm with h | h | h
    · exact q2.1 h
    · rw [(q a h).2.2] at p1; cases p1
    · exact q2.2.2 h
  · simp only [List.mem_append] at ha
    rcases ha with h | h | h
    · exact ok.disj a (by rw [e]; simp [h])
    · exact (q a h).1
    · exact ok.disj a (by rw [e]; simp [h])
  · rw [e, List.nodup_append] at nfp
    obtain ⟨n1, n2, n3⟩ := nfp
    rw [List.nodup_append] at n2
    rw [List.nodup_append, List.nodup_append]
    refine ⟨n1, ⟨nd, n2.2.1, fun a ha b hb z => ?_⟩, fun a ha b hb z => ?_⟩
    · subst z
      exact (q a ha).2.1 (by rw [e]; simp [hb])
    · subst z
      rcases List.mem_append.mp hb with hb | hb
      · exact (q a hb).2.1 (by rw [e]; simp [ha])
      · exact n3 a ha a (List.mem_append_right _ hb) rfl
  · simp only [List.mem_append] at ha
    rcases ha with h | h | h
    · exact .inl (by rw [e]; simp [h])
    · exact .inr h
    · exact .inl (by rw [e]; simp [h])
def setTs : Env' → List Nat → List T → Env'
  | ρ, i :: is, t :: ts => setTs (ρ.set i (some t)) is ts
  | ρ, _, _ => ρ
def setVs : L2.St → List Nat → List V → L2.St
  | σ, i :: is, v :: vs => setVs (σ.set i (some v)) is vs
  | σ, _, _ => σ
theorem OkAt.putL {K G H Hs} : ∀ (is : List Nat) {ts : List T} {vs : List V} {f : List Addr} {σ : L2.St} {ρ : Env'} {fp : List Addr}, OkAt K G σ H ρ Hs fp → (∀ i ∈ is, i < ρ.length) → DenTL K Hs H ts vs f → f.Nodup → (∀ a ∈ f, Hs a = none ∧ a ∉ fp ∧ G.2 a = none) →
    Ok K G (setVs σ is vs) H (setTs ρ is ts)
  | [], _, _, _, _, _, _, ok, _, _, _, _ => by unfold setVs setTs; exact ⟨_, _, ok⟩
  | i :: is, [], vs, f, σ, ρ, fp, ok, _, d, _, _ => by
    obtain ⟨rfl, rfl⟩ := d
    unfold setVs setTs
    exact ⟨_, _, ok⟩
  | i :: is, t :: ts, vs, f, σ, ρ, fp, ok, hi, d, nd, q => by
    obtain ⟨v, r, f1, f2, rfl, rfl, d1, d2⟩ := d
    rw [List.nodup_append] at nd
    obtain ⟨n1, n2, n3⟩ := nd
    obtain ⟨fp', ok', hm⟩ := ok.put' (hi i (by simp)) d1 n1 fun a ha => q a (List.mem_append_left _ ha)
    unfold setVs setTs
    refine OkAt.putL is ok' (fun j hj => by rw [List.length_set]; exact hi j (List.mem_cons_of_mem _ hj)) d2 n2 fun a ha => ?_
    obtain ⟨q1, q2, q3⟩ := q a (List.mem_append_right _ ha)
    refine ⟨q1, fun hf => ?_, q3⟩
    rcases hm a hf with h | h
    · exact q2 h
    · exact n3 a h a ha rfl
noncomputable def sParT (is : List Nat) (ns : Env' → Res (List T × Env')) : Env' → Res Fl := fun ρ => (ns ρ).bind fun (ts, ρ1) =>
  if ts.length = is.length ∧ ∀ i ∈ is, i < ρ1.length then .ok (.nx (setTs ρ1 is ts)) else .bad
def gNames : List Nat → TGs
  | [] => gNil
  | i :: is => gCons (gName i) (gNames is)
theorem gNames_of : ∀ (is : List Nat) (vs : List V) (σ : L2.St) (H : Hp) (Q : L2.St → Hp → Prop), vs.length = is.length → Q (setVs σ is vs) H → gNames is vs σ H Q
  | [], vs, σ, H, Q, hl, h => by
    obtain rfl := List.eq_nil_of_length_eq_zero hl
    exact ⟨rfl, by unfold setVs at h; exact h⟩
  | i :: is, [], σ, H, Q, hl, h => by cases hl
  | i :: is, v :: vs, σ, H, Q, hl, h => ⟨v, vs, rfl, gNames_of is vs _ H Q (by simpa using hl) (by unfold setVs at h; exact h)⟩
section
variable {X : Cx} {mg : Str → Option Value} {W : WX} {a b c : Expr}
theorem parT_go {D : Ends} {σ : L2.St} {H : Hp} {is : List Nat} {ns : Env' → Res (List T × Env')} {R : List V → Hp → Prop} (h : tFS X.K mg W (sParT is ns) D σ H)
    (hR : ∀ vs H1, vs.length = is.length → (∀ H2, (∀ G ρ Hs fp, OkAt X.K G (setVs σ is vs) H1 ρ Hs fp → OkAt X.K G (setVs σ is vs) H2 ρ Hs fp) → D.nx (setVs σ is vs) H2) → R vs H1) : tFAT X.K mg W ns σ H R := by
  obtain ⟨G, ρ, ⟨Hs, fp, ok⟩, po⟩ := h
  refine goAT (P := PoS X.K mg W G D) ok po (fun c ρ' h => h σ) id fun ts ρ1 xs H1 Hs1 fp1 ft ok1 dx nd q po1 => ?_
  have ok1' := ok.back ok1
  simp only at po1
  split at po1
  · rename_i c
    have hl : xs.length = is.length := by rw [dx.length]; exact c.1
    obtain ⟨Hs2, fp2, ok2⟩ := ok1'.putL is c.2 dx nd fun a ha => ⟨(q a ha).1, (q a ha).2.1, rem_none ok (q a ha).2.2⟩
    exact hR xs H1 hl fun H2 k => po1 _ _ ⟨Hs2, fp2, k _ _ _ _ ok2⟩
  · exact po1.elim
theorem fs_parT2 {i j : Nat} {x y : Str} {ns : Env' → Res (List T × Env')} {px py pt : Pos} {kt k2 pt2} (hc : X.calm = true) (hN : X.N.Nodup) (hi : X.N[i]? = some x) (hj : X.N[j]? = some y) (hij : i ≠ j)
    (hx : X.env.scope.names.lookup x = some .local) (hy : X.env.scope.names.lookup y = some .local) (ha : PA X [a, b] (tFAT X.K mg W ns))
    (hw : swappedStores [.Tuple [.Name x px, .Name y py] kt pt] (.Tuple [a, b] k2 pt2) X.env = pure (some [x, y]))
    (hs : swapsWithSole [.Tuple [.Name x px, .Name y py] kt pt] (.Tuple [a, b] k2 pt2) pos.line X.env = pure false := by rfl) :
    PS X (.Assign [.Tuple [.Name x px, .Name y py] kt pt] (.Tuple [a, b] k2 pt2) pos) (tFS X.K mg W (sParT [i, j] ns)) := by
  refine (ps_par hc hN hi hj hij hx hy ha hw hs).imp fun D σ H h => parT_go h fun vs H1 hl q => ?_
  match vs, hl with
  | [v, w], _ => exact ⟨v, w, rfl, q H1 fun _ _ _ _ o => o⟩
theorem fs_parT3 {i j l : Nat} {x y z : Str} {ns : Env' → Res (List T × Env')} {px py pz pt pos : Pos} {kt k2 pt2} (hc : X.calm = true) (hN : X.N.Nodup) (hi : X.N[i]? = some x) (hj : X.N[j]? = some y) (hl : X.N[l]? = some z) (hij : i ≠ j) (hil : i ≠ l) (hjl : j ≠ l)
    (hx : X.env.scope.names.lookup x = some .local) (hy : X.env.scope.names.lookup y = some .local) (hz : X.env.scope.names.lookup z = some .local) (ha : PA X [a, b, c] (tFAT X.K mg W ns))
    (hw : swappedStores [.Tuple [.Name x px, .Name y py, .Name z pz] kt pt] (.Tuple [a, b, c] k2 pt2) X.env = pure (some [x, y, z]))
    (hs : swapsWithSole [.Tuple [.Name x px, .Name y py, .Name z pz] kt pt] (.Tuple [a, b, c] k2 pt2) pos.line X.env = pure false := by rfl) :
    PS X (.Assign [.Tuple [.Name x px, .Name y py, .Name z pz] kt pt] (.Tuple [a, b, c] k2 pt2) pos) (tFS X.K mg W (sParT [i, j, l] ns)) := by
  refine (ps_par3 hc hN hi hj hl hij hil hjl hx hy hz ha hw hs).imp fun D σ H h => parT_go h fun vs H1 hl q => ?_
  match vs, hl with
  | [v, w, u], _ => exact ⟨v, w, u, rfl, q H1 fun _ _ _ _ o => o⟩
/-- names stored from the left -/
theorem fs_parTN {is : List Nat} {tg : List Expr} {es : List Expr} {ns : Env' → Res (List T × Env')} {pt pos : Pos} {kt k2 pt2} (hc : X.calm = true) (hg : PGs X tg (gNames is)) (ha : PA X es (tFAT X.K mg W ns))
    (hw : swappedStores [.Tuple tg kt pt] (.Tuple es k2 pt2) X.env = pure none)
    (hn : (assignEach tg X.env).length = is.length := by rfl) (hst : (assignEach tg X.env).findIdx? (·.1) = none := by rfl) (hz : is.length ≤ sizeLine := by decide)
    (hs : swapsWithSole [.Tuple tg kt pt] (.Tuple es k2 pt2) pos.line X.env = pure false := by rfl) (h1 : (assignEach [.Tuple tg kt pt] X.env).map (·.2) = [assign (.Tuple tg kt pt) X.env] := by rfl) :
    PS X (.Assign [.Tuple tg kt pt] (.Tuple es k2 pt2) pos) (tFS X.K mg W (sParT is ns)) := by
  refine (ps_asg (pe_tup ha) (pg_tup hc hg hn hst) hs hw h1).imp fun D σ H h => parT_go h fun vs H1 hl q => ?_
  refine ⟨by rw [hl]; exact hz, fun p hp => ⟨p, vs, rfl, SqT.of upd_same, hl, gNames_of is vs σ _ _ hl (q _ fun G ρ Hs fp o => o.ext (.out o.sh hp))⟩⟩
end
end FL

namespace FL
open PySem PySem.Spec PyProof.Rows L2
/-! ### defs that change the list which is their first argument -/
noncomputable section
def startIO (nN : Nat) (a : Addr) (ts : List T) (ds : List D) : Env' := some (.at a ts) :: (ds.map (fun d => some (.sh d)) ++ List.replicate (nN - (ds.length + 1)) none)
def endIO (a : Addr) (t : T) (ρ : Env') : Option (T × List T) := match ρ[0]? with
  | some (some (T.at c ts')) => if c = a then some (t, ts') else none
  | _ => none
def runIO (nN : Nat) (b : Env' → Res Fl) (a : Addr) (ts : List T) (ds : List D) : Option (T × List T) := match b (startIO nN a ts ds) with
  | .ok (.rt t ρ') => endIO a t ρ'
  | .ok (.nx ρ') => endIO a (.sh .non) ρ'
  | _ => none
open Classical in
def mIO (np nN : Nat) (b : Env' → Res Fl) (ts : List T) (ds : List D) : Option (T × List T) :=
  if h : ds.length + 1 = np ∧ ∃ r, ∀ a, runIO nN b a ts ds = some r then some h.2.choose else none
theorem mIO_eq {np nN : Nat} {b : Env' → Res Fl} {ts : List T} {ds : List D} {r : T × List T} (hl : ds.length + 1 = np) (h : ∀ a, runIO nN b a ts ds = some r) : mIO np nN b ts ds = some r := by
  unfold mIO
  have k : ds.length + 1 = np ∧ ∃ r, ∀ a, runIO nN b a ts ds = some r := ⟨hl, r, h⟩
  rw [dif_pos k]
  have := k.2.choose_spec 0
  rw [h 0] at this
  exact this.symm
theorem mIO_run {np nN : Nat} {b : Env' → Res Fl} {ts : List T} {ds : List D} {r : T × List T} (h : mIO np nN b ts ds = some r) (a : Addr) : ds.length + 1 = np ∧ runIO nN b a ts ds = some r := by
  unfold mIO at h
  split at h
  · rename_i k
    cases h
    exact ⟨k.1, k.2.choose_spec a⟩
  · cases h
def spIO (K : PySem.W.Frag) (np : Nat) (m : List T → List D → Option (T × List T)) : Sp := fun vs H Q _ => vs.length = np ∧ ∃ Hs a fa ts ds us, Same Hs H ∧ vs = V.ref a :: us ∧ DenT K Hs H (.at a ts) (.ref a) fa ∧ fa.Nodup ∧ (∀ b ∈ fa, Hs b = none) ∧ DenL K Hs ds us ∧ match m ts ds with
  | some (t, ts') => ∀ v Hs' H' ft fa', Same Hs Hs' → Same Hs' H' → Same (rem H fa) H' → (∀ b, (rem H fa b).isSome = true → Hs b = none → Hs' b = none) → DenT K Hs' H' (.at a ts') (.ref a) fa' → DenT K Hs' H' t v ft → fa'.Nodup → ft.Nodup →
      (∀ b ∈ fa', Hs' b = none ∧ rem H fa b = none) → (∀ b ∈ ft, Hs' b = none ∧ b ∉ fa' ∧ rem H fa b = none) → Q v H'
  | none => False
def callIO (i : Nat) (m : List T → List D → Option (T × List T)) (fs : Env' → Res (List RV × Env')) : Env' → Res (T × Env') := fun ρ => (aCons (eVar i) fs ρ).bind fun (rs, ρ1) => match rs with
  | .slot j :: rs' => (Res.of (leafs rs')).bind fun ds => match ρ1[j]? with
    | some (some (.lst ts)) => (Res.of (m ts ds)).bind fun (t, ts') => .ok (t, ρ1.set j (some (.lst ts')))
    | some (some (.at a ts)) => (Res.of (m ts ds)).bind fun (t, ts') => .ok (t, ρ1.set j (some (.at a ts')))
    | _ => .bad
  | _ => .bad
theorem set_self {α : Type} : ∀ {l : List α} {i : Nat} {a : α}, l[i]? = some a → l.set i a = l
  | _ :: _, 0, _, h => by cases h; rfl
  | _ :: l, i + 1, _, h => by rw [List.set_cons_succ, set_self (l := l) (by simpa using h)]
/-- the caller's state behind a call that has changed the list at slot j -/
theorem OkAt.io {K G σ H ρ Hs fp j t l f1 f2 f3 t' fa' Hs' H'} (ok : OkAt K G σ H ρ Hs fp) (hi : ρ[j]? = some (some t)) (h1 : σ[j]? = some (some (V.ref l))) (hf : fp = f1 ++ (f2 ++ f3))
    (up : ∀ Hs' H', Same Hs Hs' → (∀ a ∈ f1 ++ f3, H' a = H a) → ∀ t' v' f', DenT K Hs' H' t' v' f' → DenE K Hs' H' (ρ.set j (some t')) (σ.set j (some v')) (f1 ++ (f' ++ f3)))
    (s1 : Same Hs Hs') (s2 : Same Hs' H') (s3 : Same (rem H f2) H') (pr : ∀ b, (rem H f2 b).isSome = true → Hs b = none → Hs' b = none) (d : DenT K Hs' H' t' (.ref l) fa') (nd : fa'.Nodup) (hn : ∀ b ∈ fa', Hs' b = none ∧ rem H f2 b = none) :
    OkAt K G σ H' (ρ.set j (some t')) Hs' (f1 ++ (fa' ++ f3)) ∧ ∀ a ∈ f1 ++ f3, (rem H f2 a).isSome = true := by
  have n0 := ok.nd
  rw [hf, List.nodup_append] at n0
  obtain ⟨n1, n2, n3⟩ := n0
  rw [List.nodup_append] at n2
  have out : ∀ a ∈ f1 ++ f3, a ∉ f2 := fun a ha hb => by
    rcases List.mem_append.mp ha with h | h
    · exact n3 a h a (List.mem_append_left _ hb) rfl
    · exact n2.2.2 a hb a h rfl
  have inp : ∀ a ∈ f1 ++ f3, a ∈ fp := fun a ha => by
    rw [hf]; simp only [List.mem_append] at ha ⊢
    rcases ha with h | h
    · exact .inl h
    · exact .inr (.inr h)
  have isr : ∀ a ∈ f1 ++ f3, (rem H f2 a).isSome = true := fun a ha => by
    obtain ⟨o, eo⟩ := ok.env.there a (inp a ha)
    simp [rem, out a ha, eo]
  have same : ∀ a ∈ f1 ++ f3, H' a = H a := fun a ha => by
    obtain ⟨o, eo⟩ := ok.env.there a (inp a ha)
    rw [eo]
    exact s3 a o (by simp [rem, out a ha, eo])
  have e := up Hs' H' s1 same t' (.ref l) fa' d
  rw [set_self h1] at e
  refine ⟨⟨s2, ok.base.trans s1, fun a o z => ?_, fun a z1 z2 => ?_, fun a ha => ?_, ?_, e⟩, isr⟩
  · cases y : G.1 a with
    | some u =>
      have q := ok.base a u y
      have q1 := ok.sh a u q
      have q2 := ok.frame a o z
      rw [q1] at q2
      cases q2
      exact s2 a _ (s1 a _ q)
    | none =>
      have n : a ∉ f2 := fun hm => (ok.priv a (by rw [z]; rfl) y).2 (by rw [hf]; simp [hm])
      exact s3 a o (by simp [rem, n, ok.frame a o z])
  · obtain ⟨p1, p2⟩ := ok.priv a z1 z2
    obtain ⟨o, eo⟩ := Option.isSome_iff_exists.mp z1
    have n : a ∉ f2 := fun hm => p2 (by rw [hf]; simp [hm])
    have r : (rem H f2 a).isSome = true := by simp [rem, n, ok.frame a o eo]
    refine ⟨pr a r p1, fun hm => ?_⟩
    simp only [List.mem_append] at hm
    rcases hm with h | h | h
    · exact p2 (inp a (by simp [h]))
    · rw [(hn a h).2] at r; cases r
    · exact p2 (inp a (by simp [h]))
  · simp only [List.mem_append] at ha
    rcases ha with h | h | h
    · exact pr a (isr a (by simp [h])) (ok.disj a (inp a (by simp [h])))
    · exact (hn a h).1
    · exact pr a (isr a (by simp [h])) (ok.disj a (inp a (by simp [h])))
  · rw [List.nodup_append, List.nodup_append]
    refine ⟨n1, ⟨nd, n2.2.1, fun a ha b hb z => ?_⟩, fun a ha b hb z => ?_⟩
    · subst z
      have := isr a (by simp [hb])
      rw [(hn a ha).2] at this
      cases this
    · subst z
      rcases List.mem_append.mp hb with h | h
      · have := isr a (by simp [ha])
        rw [(hn a h).2] at this
        cases this
      · exact n3 a ha a (List.mem_append_right _ h) rfl
section
variable {X : Cx} {mg : Str → Option Value} {W : WX} {k np : Nat} {f : Addr} {fd : FuncData} {ps : List Str} {x : Str} {p pos : Pos} {e : Expr} {es : List Expr} {fs : Env' → Res (List RV × Env')}
theorem leafs_len : ∀ {rs : List RV} {ds : List D}, eTup.leafs rs = some ds → ds.length = rs.length := by
  intro rs
  induction rs with
  | nil => intro ds h; cases h; rfl
  | cons r rs ih =>
    intro ds h
    cases r with
    | slot i => cases h
    | leaf d =>
      simp only [eTup.leafs, Option.map_eq_some_iff] at h
      obtain ⟨es, h1, rfl⟩ := h
      simp [ih h1]
theorem fn_callIO {m : List T → List D → Option (T × List T)} (i : Nat) (F : FnOk X.prog X.w X.K X.mg X.base (L2.CX X.prog X.w) k f fd ps (spIO X.K np m)) (hr : Room k X.A) (hg : Gl X x) (hm : X.mg x = some (.ref f)) (hk : PySem.W.keepIn X.K (.ref f) = true) (hb : Binds X.K fd ps []) (tk : Takes X W)
    (hl : (e :: es).length = np) (ha : PA X (e :: es) (tFA X.K mg W (aCons (eVar i) fs))) (hlen : ∀ ρ rs ρ', fs ρ = .ok (rs, ρ') → rs.length + 1 = np) (hdb : (x == ("__debug__" : Str)) = false := by decide) (he : starEach (e :: es) X.env = (false, eval e X.env) :: starEach es X.env := by rfl) (hpl : (backTo pos (starEach es X.env)).any (·.1) = false := by rfl) :
    PE X (.Call (.Name x p) (e :: es) [] pos) (tFN X.K mg W (callIO i m fs)) := by
  refine (pe_callS F hr hg hm hk hb (fun σ => passAt tk σ) ha hdb he hpl).imp fun σ H Q ⟨G, ρ, ⟨Hs, fp, ok⟩, po⟩ => ?_
  refine ⟨_, ρ, ⟨Hs, fp, ok.self⟩, ?_⟩
  unfold callIO at po
  cases e0 : aCons (eVar i) fs ρ with
  | bad => rw [e0] at po; exact po
  | exc c ρ' => rw [e0] at po; exact fun H' C hc o => po H' C hc (Ok.back ok o)
  | ok q =>
    obtain ⟨rs, ρ1⟩ := q
    rw [e0] at po
    intro xs H1 Hs1 fp1 ok1 dx
    have ok1' := ok.back ok1
    have hrs : rs.length = np := by
      unfold aCons at e0
      cases y : eVar i ρ with
      | bad => rw [y] at e0; cases e0
      | exc c ρ' => rw [y] at e0; cases e0
      | ok q =>
        obtain ⟨r, ρa⟩ := q
        rw [y] at e0
        simp only [bind_ok] at e0
        cases y2 : fs ρa with
        | bad => rw [y2] at e0; cases e0
        | exc c ρ' => rw [y2] at e0; cases e0
        | ok q2 =>
          obtain ⟨rr, ρb⟩ := q2
          rw [y2] at e0
          cases e0
          exact hlen _ _ _ y2
    simp only [bind_ok] at po
    match rs, hrs, dx, po with
    | [], _, _, po => exact po.elim
    | .leaf _ :: _, _, _, po => exact po.elim
    | .slot j :: rs', hrs, dx, po =>
      simp only at po
      cases e1 : eTup.leafs rs' with
      | none => simp only [leafs, e1] at po; exact po.elim
      | some ds =>
        simp only [leafs, e1, of_some, bind_ok] at po
        obtain ⟨v0, us, rfl, d1, d2⟩ := dx
        have d1 : σ[j]? = some (some v0) := d1
        have dl := leafs_den d2 e1
        have hn : (v0 :: us).length = np := by
          rw [List.length_cons, dl.length, leafs_len e1]
          simpa using hrs
        have main : ∀ (t0 : T) (ts : List T) (mk : List T → T), ρ1[j]? = some (some t0) → (∀ v f, DenT X.K Hs1 H1 t0 v f → ∃ l, v = .ref l ∧ DenT X.K Hs1 H1 (.at l ts) v f ∧ ∀ Hs' H' ts' f', DenT X.K Hs' H' (.at l ts') v f' → DenT X.K Hs' H' (mk ts') v f') →
            PoN X.K mg W G σ Q ((Res.of (m ts ds)).bind fun (t, ts') => .ok (t, ρ1.set j (some (mk ts')))) → spIO X.K np m (v0 :: us) H1 Q (fun v d H => W v d σ H) := by
          intro t0 ts mk hi hd po
          obtain ⟨v, f1, f2, f3, h1, h2, h3, h4, _⟩ := ok1'.env.at hi
          rw [d1] at h1
          cases h1
          obtain ⟨l, rfl, k1, k2⟩ := hd _ _ h3
          have nd := ok1'.nd
          rw [h2, List.nodup_append] at nd
          obtain ⟨n1, n2, n3⟩ := nd
          rw [List.nodup_append] at n2
          refine ⟨hn, Hs1, l, f2, ts, ds, us, ok1'.sh, rfl, k1, n2.1, fun b hb => ok1'.disj b (by rw [h2]; simp [hb]), dl, ?_⟩
          cases e2 : m ts ds with
          | none => rw [e2] at po; exact po
          | some r =>
            obtain ⟨t, ts'⟩ := r
            rw [e2] at po
            intro v Hs' H' ft fa' s1 s2 s3 pr da dt na nt hna hnt
            obtain ⟨okE, isr⟩ := ok1'.io hi d1 h2 h4 s1 s2 s3 pr (k2 _ _ _ _ da) na hna
            refine po v H' Hs' _ ft okE dt nt fun a ha => ?_
            obtain ⟨q1, q2, q3⟩ := hnt a ha
            refine ⟨q1, fun hm => ?_, ?_⟩
            · simp only [List.mem_append] at hm
              rcases hm with h | h | h
              · have := isr a (by simp [h]); rw [q3] at this; cases this
              · exact q2 h
              · have := isr a (by simp [h]); rw [q3] at this; cases this
            · cases z : G.2 a with
              | none => rfl
              | some o =>
                exfalso
                have hfr := ok1'.frame a o z
                have n : a ∈ f2 := by
                  by_cases hm : a ∈ f2
                  · exact hm
                  · simp [rem, hm, hfr] at q3
                cases y : G.1 a with
                | none => exact (ok1'.priv a (by rw [z]; rfl) y).2 (by rw [h2]; simp [n])
                | some u =>
                  have := ok1'.disj a (by rw [h2]; simp [n])
                  rw [ok1'.base a u y] at this
                  cases this
        split at po
        · rename_i ts hi
          exact main _ ts .lst hi (fun v f ⟨a, vs, fr, e1, e2, e3, e4⟩ => ⟨a, e1, ⟨a, vs, fr, e1, e2, e3, rfl, e4⟩, fun Hs' H' ts' f' ⟨a', vs', fr', g1, g2, g3, g4, g5⟩ => ⟨a', vs', fr', g1, g2, g3, g5⟩⟩) po
        · rename_i b ts hi
          exact main _ ts (.at b) hi (fun v f ⟨a, vs, fr, e1, e2, e3, e5, e4⟩ => ⟨a, e1, ⟨a, vs, fr, e1, e2, e3, rfl, e4⟩, fun Hs' H' ts' f' ⟨a', vs', fr', g1, g2, g3, g4, g5⟩ => ⟨a', vs', fr', g1, g2, g3, g4.trans e5, g5⟩⟩) po
        · exact po.elim
end
section
variable {P : Program} {w : World} {K : PySem.W.Frag} {base : Heap} {mg : Str → Option Value}
theorem def_okIO {x qual : Str} {st : Stmt} {f : Addr} {fd : FuncData} {N ps : List Str} {k : Nat} {b : Env' → Res Fl} (F : Fun K x qual st f fd) (S : FnScope N ps (defScope st)) (hN : ps.length ≤ N.length)
    (hb : ∀ (cdv : Value) (A : Around) (outer : List Env) (s : Shared) (H : Hp) (E : XK), Room k (A.deeper (envOfC qual (defScope st) s.heap.objs.size f cdv)) →
      Takes (cxOf (L2.CX P w) P w K mg base N qual (defScope st) f cdv A outer s H E) (fun cls d _ H => E cls d H) → PSs (cxOf (L2.CX P w) P w K mg base N qual (defScope st) f cdv A outer s H E) (defBody st) (tFS K mg (fun cls d _ H => E cls d H) b)) :
    FnOk P w K mg base (L2.CX P w) (k + 1) f fd ps (spIO K ps.length (mIO ps.length N.length b)) := by
  refine F.okX S (fun vs H Q E h => h.1) fun cdv A outer s H vs Q E hr h => ⟨_, hb cdv A outer s H E hr (takes_of rfl rfl rfl rfl), ?_⟩
  obtain ⟨hl, Hs, a, fa, ts, ds, us, e, rfl, da, nda, hna, dl, po⟩ := h
  have l := dl.length
  cases e1 : mIO ps.length N.length b ts ds with
  | none => rw [e1] at po; exact po.elim
  | some r =>
    obtain ⟨t, ts'⟩ := r
    rw [e1] at po
    obtain ⟨hl2, hrun⟩ := mIO_run e1 a
    refine ⟨(Hs, rem H fa), startIO N.length a ts ds, ⟨Hs, fa, ⟨e, Same.refl _, fun b o z => ?_, fun b z1 z2 => ⟨z2, fun hm => by simp [rem, hm] at z1⟩, hna, nda, ?_⟩⟩, ?_⟩
    · have z : rem H fa b = some o := z
      unfold rem at z
      split at z
      · cases z
      · exact z
    · unfold startIO L2.start
      refine ⟨.ref a, _, fa, [], by simp only [List.map_cons, List.cons_append]; rfl, by simp, da, ?_⟩
      rw [List.length_cons, l]
      exact start_ok (N := N) dl _
    · have fin : ∀ (t : T) (ρ' : Env') (r : T × List T), endIO a t ρ' = some r → r = (t, r.2) ∧ ρ'[0]? = some (some (.at a r.2)) := by
        intro t ρ' r h
        unfold endIO at h
        split at h
        · split at h
          · rename_i c ts2 h0 hc
            cases h
            subst hc
            exact ⟨rfl, h0⟩
          · cases h
        · cases h
      have last : ∀ (t0 : T) (ρ' : Env'), endIO a t0 ρ' = some (t, ts') → ∀ v σ' H' Hs' fp' ft, OkAt K (Hs, rem H fa) σ' H' ρ' Hs' fp' → DenT K Hs' H' t0 v ft → ft.Nodup → (∀ b ∈ ft, Hs' b = none ∧ b ∉ fp' ∧ rem H fa b = none) → Q v H' := by
        intro t0 ρ' he v σ' H' Hs' fp' ft ok dt nt hnt
        obtain ⟨q1, q2⟩ := fin _ _ _ he
        cases q1
        obtain ⟨v0, f1, f2, f3, h1, h2, h3, h4, _⟩ := ok.env.at q2
        have hv : v0 = .ref a := by
          obtain ⟨a', vs, fr, z1, z2, z3, z4, z5⟩ := h3
          rw [z1, z4]
        subst hv
        have sub : ∀ b ∈ f2, b ∈ fp' := fun b hb => by rw [h2]; simp [hb]
        have nd := ok.nd
        rw [h2, List.nodup_append] at nd
        have n2 := nd.2.1
        rw [List.nodup_append] at n2
        refine po v Hs' H' ft f2 ok.base ok.sh ok.frame (fun b z1 z2 => (ok.priv b z1 z2).1) h3 dt n2.1 nt (fun b hb => ⟨ok.disj b (sub b hb), ?_⟩) fun b hb => ⟨(hnt b hb).1, fun hm => (hnt b hb).2.1 (sub b hm), (hnt b hb).2.2⟩
        cases z : rem H fa b with
        | none => rfl
        | some o =>
          exfalso
          cases y : Hs b with
          | none => exact (ok.priv b (by show (rem H fa b).isSome = true; rw [z]; rfl) y).2 (sub b hb)
          | some u =>
            have := ok.disj b (sub b hb)
            rw [ok.base b u y] at this
            cases this
      unfold runIO at hrun
      cases e0 : b (startIO N.length a ts ds) with
      | bad => rw [e0] at hrun; cases hrun
      | exc c ρ' => rw [e0] at hrun; cases hrun
      | ok r =>
        rw [e0] at hrun
        cases r with
        | nx ρ' => exact fun σ' H' ⟨Hs', fp', ok⟩ => last _ ρ' hrun .non σ' H' Hs' fp' [] ok ⟨rfl, rfl⟩ (by simp) (fun _ h => by cases h)
        | rt t0 ρ' => exact fun v σ' H' Hs' fp' ft ok dt nt hnt => last t0 ρ' hrun v σ' H' Hs' fp' ft ok dt nt hnt
        | bk ρ' => cases hrun
        | ct ρ' => cases hrun
end
end
end FL

namespace FL
open PySem PySem.Spec PyProof.Rows L2
/-! ### a store into the caller's list -/
theorem OkAt.ownA {K G σ H ρ Hs fp i ts} {b : Addr} (ok : OkAt K G σ H ρ Hs fp) (hi : ρ[i]? = some (some (.at b ts))) :
    ∃ vs fr, σ[i]? = some (some (.ref b)) ∧ H b = some (.lst vs) ∧ DenTL K Hs H ts vs fr ∧ (b :: fr).Nodup ∧ (∀ a ∈ b :: fr, a ∈ fp) ∧
      ∀ vs' ts' fr', DenTL K Hs H ts' vs' fr' → fr'.Nodup → (∀ a ∈ fr', a ∈ fr ∨ (Hs a = none ∧ a ∉ fp ∧ G.2 a = none)) → ∃ fp', OkAt K G σ (upd H b (.lst vs')) (ρ.set i (some (.at b ts'))) Hs fp' := by
  obtain ⟨v, f1, f2, f3, h1, h2, h3, h4, _⟩ := ok.env.at hi
  obtain ⟨l, vs, fr, e1, e2, e3, e5, e4⟩ := h3
  subst e1
  subst e2
  subst e5
  have nd := ok.nd
  rw [h2, List.nodup_append] at nd
  obtain ⟨n1, n2, n3⟩ := nd
  rw [List.nodup_append] at n2
  refine ⟨vs, fr, h1, e3, e4, n2.1, fun a ha => by rw [h2]; simp only [List.mem_append]; exact .inr (.inl ha), fun vs' ts' fr' d nd' hn => ?_⟩
  have nl : l ∉ fr' := fun hm => by
    rcases hn l hm with z | z
    · exact (List.nodup_cons.mp n2.1).1 z
    · exact z.2.1 (by rw [h2]; simp)
  refine ⟨f1 ++ ((l :: fr') ++ f3), ok.turn (t' := .at l ts') (f' := l :: fr') hi h1 h2 h4 (fun a ha => upd_ne fun e => ha (by simp [e])) ⟨l, vs', fr', rfl, rfl, upd_same, rfl, d.mono (Same.refl _) fun a ha => upd_ne fun e => nl (e ▸ ha)⟩ (List.nodup_cons.mpr ⟨nl, nd'⟩) fun a ha => ?_⟩
  rcases List.mem_cons.mp ha with rfl | ha
  · exact .inl (by simp)
  · rcases hn a ha with z | z
    · exact .inl (by simp [z])
    · exact .inr z
noncomputable def sSetIxA (i : Nat) (na : Env' → Res (T × Env')) (fb : Env' → Res (RV × Env')) : Env' → Res Fl := fun ρ => (na ρ).bind fun (t, ρ1) => match t, ρ1[i]? with
  | .sh d, some (some _) => (fb ρ1).bind fun (r, ρ2) => match look ρ2 r, ρ2[i]? with
    | some (.int k), some (some (T.at b ts)) => match ixN ts.length k with
      | some j => match ts[j]? with
        | some (.sh _) => .ok (.nx (ρ2.set i (some (.at b (ts.set j (.sh d))))))
        | _ => .bad
      | none => .bad
    | _, _ => .bad
  | _, _ => .bad
theorem alen_io {n np : Nat} {fs : Env' → Res (List RV × Env')} (h : ∀ (ρ : Env') (rs : List RV) (ρ' : Env'), fs ρ = .ok (rs, ρ') → rs.length = n) (e : n + 1 = np := by rfl) : ∀ (ρ : Env') (rs : List RV) (ρ' : Env'), fs ρ = .ok (rs, ρ') → rs.length + 1 = np := fun ρ rs ρ' q => by rw [h ρ rs ρ' q]; exact e
section
variable {X : Cx} {mg : Str → Option Value} {W : WX} {a b : Expr} {na : Env' → Res (T × Env')} {fb : Env' → Res (RV × Env')} {x : Str} {p tpos pos : Pos}
theorem fs_setIxA (i : Nat) (ha : PE X a (tFN X.K mg W na)) (hb : PE X b (tFO X.K mg W fb)) (hN : X.N[i]? = some x := by rfl) (hv : Vis X.env.scope x := by first | exact Or.inl rfl | exact Or.inr (Or.inl rfl) | exact Or.inr (Or.inr rfl)) (hd : (x == ("__debug__" : Str)) = false := by decide) (hcd : (x == ("__classdict__" : Str)) = false := by decide)
    (hs : swapsWithSole [.Subscript (.Name x p) b tpos] a pos.line X.env = pure false := by rfl) (hw : swappedStores [.Subscript (.Name x p) b tpos] a X.env = pure none := by rfl)
    (h1 : (assignEach [.Subscript (.Name x p) b tpos] X.env).map (·.2) = [assign (.Subscript (.Name x p) b tpos) X.env] := by rfl)
    (hg : ∀ v, assign (.Subscript (.Name x p) b tpos) X.env v = (do
      let ov ← holding [v] (eval (.Name x p) X.env)
      let iv ← holding [v, ov] (eval b X.env)
      standAt tpos
      holding [v, ov, iv] (setItem ov iv v)
      release [v, ov, iv] []) := by intro _; rfl) :
    PS X (.Assign [.Subscript (.Name x p) b tpos] a pos) (tFS X.K mg W (sSetIxA i na fb)) := by
  refine (ps_asg ha (pg_sub (pe_var hN hv hd hcd) hb set_list hg) hs hw h1).imp fun D σ H ⟨G, ρ, ⟨Hs, fp, ok⟩, po⟩ => ?_
  refine goN (P := PoS X.K mg W G D) ok po (fun c ρ' h => h σ) id fun t ρ1 y H1 Hs1 fp1 ft ok1 dt nd q po1 => ?_
  have ok1' := ok.back ok1
  simp only at po1
  split at po1
  · rename_i d t0 hi0
    obtain ⟨v, _, _, _, hv, _⟩ := ok1'.env.at hi0
    refine ⟨v, hv, goE (P := PoS X.K mg W G D) ok1' po1 (fun c ρ' h => h σ) id fun r2 ρ2 w H2 Hs2 fp2 ok2 dw po2 => ?_⟩
    have ok2' := ok1'.back ok2
    simp only at po2
    split at po2
    · rename_i k l ts e1 hi
      cases (show w = .int k from look_den ok2' dw e1)
      split at po2
      · rename_i j hj
        split at po2
        · rename_i e0 ht
          obtain ⟨vs, fr, h1, h2, h3, h4, h5, h6⟩ := ok2'.ownA hi
          rw [hv] at h1
          cases h1
          refine ⟨l, vs, k, j, rfl, rfl, h2, by rw [h3.length]; exact hj, ?_⟩
          obtain ⟨fp', ok3⟩ := h6 (vs.set j y) (ts.set j (.sh d)) fr (DenTL.setSh (dt.2.mono ok2.base) h3 ht) (List.nodup_cons.mp h4).2 fun a ha => .inl ha
          exact po2 _ _ ⟨Hs2, fp', ok3⟩
        · exact po2.elim
      · exact po2.elim
    · exact po2.elim
  · exact po1.elim
end
end FL

namespace FL
open PySem PySem.Spec PyProof.Rows L2
/-! ### typed results -/
def Out.bind {α β : Type} : Out α → (α → Out β) → Out β
  | .ok a, f => f a
  | .exc c, _ => .exc c
  | .bad, _ => .bad
@[simp] theorem Out.ok_bind {α β : Type} (a : α) (f : α → Out β) : (Out.ok a).bind f = f a := rfl
@[simp] theorem Out.exc_bind {α β : Type} (c : Str) (f : α → Out β) : (Out.exc c).bind f = .exc c := rfl
@[simp] theorem Out.bad_bind {α β : Type} (f : α → Out β) : (Out.bad).bind f = .bad := rfl
theorem Out.bind_assoc {α β γ : Type} (x : Out α) (f : α → Out β) (g : β → Out γ) : (x.bind f).bind g = x.bind fun a => (f a).bind g := by cases x <;> rfl
def Out.of {α : Type} : Option α → Out α
  | some a => .ok a
  | none => .bad
@[simp] theorem Out.of_some {α : Type} (a : α) : Out.of (some a) = .ok a := rfl
@[simp] theorem Out.of_none {α : Type} : Out.of (none : Option α) = .bad := rfl
/-- a check of the model's size -/
def chk {α : Type} (b : Prop) [Decidable b] (a : α) : Out α := if b then .ok a else .bad
theorem chk_ok {α : Type} {b : Prop} [Decidable b] (a : α) (h : b) : chk b a = .ok a := if_pos h
def Out.nx {α : Type} : Out α → Out α
  | .exc _ => .bad
  | r => r
@[simp] theorem Out.nx_ok {α : Type} (a : α) : (Out.ok a).nx = .ok a := rfl
end FL
namespace TL
open PySem PySem.Spec PyProof.Rows L2 FL

/-! ### encoders -/
def cD (d : D) : D := d
def cI (i : Int) : D := .int i
def cB (b : Bool) : D := .bl b
def cS (l : List Nat) : D := .str (S l)
def cN (_ : Unit) : D := .non
def cL {α : Type} (c : α → D) (xs : List α) : D := .lst (xs.map c)
def cU {α : Type} (c : α → D) (xs : List α) : D := .tup (xs.map c)
def cF {α : Type} (c : α → D) (xs : List α) : D := .fz (xs.map c)
def cO {α : Type} (c : α → D) : Option α → D
  | none => .non
  | some a => c a
def c0 (_ : Unit) : D := .tup []
def c1 {α : Type} (c : α → D) (p : α) : D := .tup [c p]
def c2 {α β : Type} (c : α → D) (d : β → D) (p : α × β) : D := .tup [c p.1, d p.2]
def c3 {α β γ : Type} (c : α → D) (d : β → D) (e : γ → D) (p : α × β × γ) : D := .tup [c p.1, d p.2.1, e p.2.2]
def c4 {α β γ δ : Type} (c : α → D) (d : β → D) (e : γ → D) (f : δ → D) (p : α × β × γ × δ) : D := .tup [c p.1, d p.2.1, e p.2.2.1, f p.2.2.2]
def c5 {α β γ δ ε : Type} (c : α → D) (d : β → D) (e : γ → D) (f : δ → D) (g : ε → D) (p : α × β × γ × δ × ε) : D := .tup [c p.1, d p.2.1, e p.2.2.1, f p.2.2.2.1, g p.2.2.2.2]
def c6 {α β γ δ ε ζ : Type} (c : α → D) (d : β → D) (e : γ → D) (f : δ → D) (g : ε → D) (h : ζ → D) (p : α × β × γ × δ × ε × ζ) : D := .tup [c p.1, d p.2.1, e p.2.2.1, f p.2.2.2.1, g p.2.2.2.2.1, h p.2.2.2.2.2]
/-- an owned list -/
def oL {α : Type} (c : α → D) (xs : List α) : T := .lst (xs.map fun a => .sh (c a))
def oS {α : Type} (c : α → D) (a : α) : T := .sh (c a)
theorem oL_top {α : Type} (c : α → D) (xs : List α) : (oL c xs).top = some (cL c xs) := by simp [oL, cL]
theorem oS_top {α : Type} (c : α → D) (a : α) : (oS c a).top = some (c a) := rfl
theorem oL_d {α : Type} (c : α → D) (xs : List α) : (oL c xs).d = cL c xs := by simp [oL, cL]

/-! ### slots -/
inductive Sl where
  | any | vw (d : D) | own (t : T)
def Sl.ok : Sl → Option T → Prop
  | .any, _ => True
  | .vw d, o => ∃ t, o = some t ∧ t.top = some d
  | .own t, o => o = some t
def ER : List Sl → Env' → Prop
  | [], ρ => ρ = []
  | p :: ps, ρ => ∃ o r, ρ = o :: r ∧ p.ok o ∧ ER ps r
theorem ER.len : ∀ {Ps : List Sl} {ρ : Env'}, ER Ps ρ → ρ.length = Ps.length
  | [], _, h => by cases h; rfl
  | _ :: _, _, ⟨o, r, e, _, h⟩ => by rw [e]; simp [ER.len h]
theorem ER.get : ∀ {Ps : List Sl} {ρ : Env'} {i : Nat} {p : Sl}, ER Ps ρ → Ps[i]? = some p → ∃ o, ρ[i]? = some o ∧ p.ok o
  | _ :: _, _, 0, _, ⟨o, r, e, h, _⟩, q => by
    cases q; exact ⟨o, by rw [e]; rfl, h⟩
  | _ :: _, _, i + 1, p, ⟨o, r, e, _, h⟩, q => by
    obtain ⟨o', h1, h2⟩ := ER.get h (i := i) (by simpa using q)
    exact ⟨o', by rw [e]; simpa using h1, h2⟩
theorem ER.set : ∀ {Ps : List Sl} {ρ : Env'} (i : Nat) {p : Sl} {o : Option T}, ER Ps ρ → p.ok o → ER (Ps.set i p) (ρ.set i o)
  | [], _, _, _, _, h, _ => by cases h; simp [ER]
  | _ :: _, _, 0, _, _, ⟨o, r, e, _, h⟩, q => by rw [e]; exact ⟨_, _, rfl, q, h⟩
  | _ :: _, _, i + 1, _, _, ⟨o, r, e, h0, h⟩, q => by rw [e]; exact ⟨_, _, rfl, h0, ER.set i h q⟩
theorem ER.setSame : ∀ {Ps : List Sl} {ρ : Env'} {i : Nat} {p : Sl} {o : Option T}, ER Ps ρ → Ps[i]? = some p → p.ok o → ER Ps (ρ.set i o)
  | _ :: _, _, 0, _, _, ⟨o, r, e, _, h⟩, q, z => by cases q; rw [e]; exact ⟨_, _, rfl, z, h⟩
  | _ :: _, _, i + 1, _, _, ⟨o, r, e, h0, h⟩, q, z => by rw [e]; exact ⟨_, _, rfl, h0, ER.setSame (i := i) h (by simpa using q) z⟩
theorem ER.lt {Ps : List Sl} {ρ : Env'} {i : Nat} {p : Sl} (h : ER Ps ρ) (q : Ps[i]? = some p) : i < ρ.length := by
  rw [h.len]; exact (List.getElem?_eq_some_iff.mp q).1
inductive LeS : List Sl → List Sl → Prop
  | nil : LeS [] []
  | a {p : Sl} {ps qs : List Sl} (h : LeS ps qs) : LeS (p :: ps) (.any :: qs)
  | r {p : Sl} {ps qs : List Sl} (h : LeS ps qs) : LeS (p :: ps) (p :: qs)
  | v {t : T} {d : D} {ps qs : List Sl} (e : t.top = some d) (h : LeS ps qs) : LeS (.own t :: ps) (.vw d :: qs)
theorem LeS.er {Ps Qs : List Sl} (l : LeS Ps Qs) : ∀ {ρ : Env'}, ER Ps ρ → ER Qs ρ := by
  induction l with
  | nil => exact fun h => h
  | a _ ih => rintro _ ⟨o, r, e, _, h⟩; exact ⟨o, r, e, trivial, ih h⟩
  | r _ ih => rintro _ ⟨o, r, e, h0, h⟩; exact ⟨o, r, e, h0, ih h⟩
  | v e1 _ ih => rintro _ ⟨o, r, e, h0, h⟩; exact ⟨o, r, e, ⟨_, h0, e1⟩, ih h⟩
theorem LeS.refl : ∀ {Ps : List Sl}, LeS Ps Ps
  | [] => .nil
  | _ :: _ => .r LeS.refl
theorem top_d : ∀ {t : T} {d : D}, t.top = some d → t.d = d
  | .sh _, _, h => by cases h; rfl
  | .lst ts, d, h => by
    simp only [T.top, Option.map_eq_some_iff] at h
    obtain ⟨ds, h1, h2⟩ := h
    rw [T.leaves_eq h1, ← h2]; simp
  | .dic ks ts, d, h => by
    simp only [T.top, Option.map_eq_some_iff] at h
    obtain ⟨ds, h1, h2⟩ := h
    rw [T.leaves_eq h1, ← h2]; simp [T.d]
  | .dit ks ts, d, h => by
    simp only [T.top, Option.map_eq_some_iff] at h
    obtain ⟨ds, h1, h2⟩ := h
    rw [T.leaves_eq h1, ← h2]; simp [T.d]
  | .at b ts, d, h => by
    simp only [T.top, Option.map_eq_some_iff] at h
    obtain ⟨ds, h1, h2⟩ := h
    rw [T.leaves_eq h1, ← h2]; simp [T.d, T.go_sh]

/-! ### going along -/
def Sm {α β : Type} (x : Res β) (e : Out α) (K : α → β → Prop) (E : Env' → Prop) : Prop := match e with
  | .ok a => ∃ b, x = .ok b ∧ K a b
  | .exc c => ∃ ρ', x = .exc c ρ' ∧ E ρ'
  | .bad => True
theorem Sm.bind {α β γ δ : Type} {x : Res β} {e : Out α} {K : α → β → Prop} {E E' : Env' → Prop} {h : β → Res δ} {k : α → Out γ} {K' : γ → δ → Prop}
    (hx : Sm x e K E) (hk : ∀ a b, K a b → Sm (h b) (k a) K' E') (he : ∀ ρ, E ρ → E' ρ) : Sm (x.bind h) (e.bind k) K' E' := by
  cases e with
  | ok a => obtain ⟨b, e1, e2⟩ := hx; rw [e1]; exact hk a b e2
  | exc c => obtain ⟨ρ', e1, e2⟩ := hx; rw [e1]; exact ⟨ρ', rfl, he _ e2⟩
  | bad => trivial
theorem Sm.imp {α β : Type} {x : Res β} {e : Out α} {K K' : α → β → Prop} {E E' : Env' → Prop} (hx : Sm x e K E) (hk : ∀ a b, K a b → K' a b) (he : ∀ ρ, E ρ → E' ρ) : Sm x e K' E' := by
  cases e with
  | ok a => obtain ⟨b, e1, e2⟩ := hx; exact ⟨b, e1, hk a b e2⟩
  | exc c => obtain ⟨ρ', e1, e2⟩ := hx; exact ⟨ρ', e1, he _ e2⟩
  | bad => trivial
/-- the value alone: a pure result -/
theorem Sm.okI {α β : Type} {a : α} {b : β} {K : α → β → Prop} {E : Env' → Prop} (h : K a b) : Sm (.ok b) (.ok a) K E := ⟨b, rfl, h⟩
def RR (m : Bool) (Ps : List Sl) (r : RV) (d : D) : Prop := (∀ ρ, ER Ps ρ → look ρ r = some d) ∧ (m = true → ∀ ρ, ER Ps ρ → ∃ ρ', esc ρ r = some (d, ρ') ∧ ER Ps ρ')
theorem RR.leaf {m : Bool} {Ps : List Sl} {d : D} : RR m Ps (.leaf d) d := ⟨fun _ _ => rfl, fun _ ρ h => ⟨ρ, rfl, h⟩⟩
section
variable {α β γ δ : Type}
def X (m : Bool) (Ps : List Sl) (f : Env' → Res (RV × Env')) (e : Out α) (c : α → D) : Prop := ∀ ρ, ER Ps ρ → Sm (f ρ) e (fun a b => ER Ps b.2 ∧ RR m Ps b.1 (c a)) (ER Ps)
def TJ (Ps : List Sl) (f : Env' → Res (Bool × Env')) (e : Out Bool) : Prop := ∀ ρ, ER Ps ρ → Sm (f ρ) e (fun a b => b.1 = a ∧ ER Ps b.2) (ER Ps)
def NJ (Ps : List Sl) (f : Env' → Res (T × Env')) (e : Out α) (t : α → T) : Prop := ∀ ρ, ER Ps ρ → Sm (f ρ) e (fun a b => b.1 = t a ∧ ER Ps b.2) (ER Ps)
def NLJ (Ps : List Sl) (f : Env' → Res (List T × Env')) (e : Out (List α)) (t : α → T) : Prop := ∀ ρ, ER Ps ρ → Sm (f ρ) e (fun a b => b.1 = a.map t ∧ ER Ps b.2) (ER Ps)
def IJ (Ps : List Sl) (f : Env' → Res (List D × Env')) (e : Out (List α)) (c : α → D) : Prop := ∀ ρ, ER Ps ρ → Sm (f ρ) e (fun a b => b.1 = a.map c ∧ ER Ps b.2) (ER Ps)
def PJ (Ps : List Sl) (f : Env' → Res (Option Int × Env')) (e : Out (Option Int)) : Prop := ∀ ρ, ER Ps ρ → Sm (f ρ) e (fun a b => b.1 = a ∧ ER Ps b.2) (ER Ps)
/-- arguments that are handed on -/
def AE (Ps : List Sl) (f : Env' → Res (List RV × Env')) (e : Out α) (dn : α → List D) : Prop := ∀ ρ, ER Ps ρ → Sm (f ρ) e (fun a b => b.1 = (dn a).map RV.leaf ∧ ER Ps b.2) (ER Ps)
/-- arguments that are looked at -/
def AL (Ps : List Sl) (f : Env' → Res (List RV × Env')) (e : Out α) (dn : α → List D) : Prop := ∀ ρ, ER Ps ρ → Sm (f ρ) e (fun a b => ER Ps b.2 ∧ ∀ ρ, ER Ps ρ → looks ρ b.1 = some (dn a)) (ER Ps)
def J (Ps : List Sl) (f : Env' → Res Fl) (p : Out γ) (R : γ → Fl → Prop) (E : Env' → Prop) : Prop := ∀ ρ, ER Ps ρ → Sm (f ρ) p R E
variable {m m' m'' : Bool} {Ps Qs : List Sl} {fa fb fc : Env' → Res (RV × Env')} {ca : α → D} {cb : β → D} {cc : γ → D} {cr : δ → D} {ea : Out α} {eb : Out β} {ec : Out γ}

/-! ### expressions -/
theorem X_eq {e e' : Out α} (h : X m Ps fa e ca) (q : e' = e) : X m Ps fa e' ca := q ▸ h
theorem X_lk (h : X m Ps fa ea ca) : X false Ps fa ea ca := fun ρ h1 => (h ρ h1).imp (fun _ _ q => ⟨q.1, q.2.1, fun z => nomatch z⟩) fun _ h => h
theorem X_var (i : Nat) (c : α → D) (a : α) (h : Ps[i]? = some (.vw (c a))) : X true Ps (eVar i) (.ok a) c := fun ρ e => by
  obtain ⟨o, h1, t, h2, h3⟩ := e.get h
  subst h2
  have lk : ∀ ρ, ER Ps ρ → look ρ (.slot i) = some (c a) ∧ ∃ ρ', esc ρ (.slot i) = some (c a, ρ') ∧ ER Ps ρ' := fun ρ e => by
    obtain ⟨o, h1, t, h2, h3⟩ := e.get h
    subst h2
    refine ⟨by simp only [look, h1]; exact h3, ρ.set i (some (.sh (c a))), ?_, e.setSame h ⟨_, rfl, rfl⟩⟩
    simp only [esc, h1, top_d h3]
  unfold eVar
  rw [h1]
  cases t with
  | sh d => cases h3; exact Sm.okI ⟨e, .leaf⟩
  | lst ts => exact Sm.okI ⟨e, fun ρ e => (lk ρ e).1, fun _ ρ e => (lk ρ e).2⟩
  | dic ks ts => exact Sm.okI ⟨e, fun ρ e => (lk ρ e).1, fun _ ρ e => (lk ρ e).2⟩
  | dit ks ts => exact Sm.okI ⟨e, fun ρ e => (lk ρ e).1, fun _ ρ e => (lk ρ e).2⟩
  | «at» b ts => exact Sm.okI ⟨e, fun ρ e => (lk ρ e).1, fun _ ρ e => (lk ρ e).2⟩
/-- an owned thing, looked at -/
theorem X_own (i : Nat) (c : α → D) (a : α) {t : T} (h : Ps[i]? = some (.own t)) (ht : t.top = some (c a)) : X false Ps (eVar i) (.ok a) c := fun ρ e => by
  obtain ⟨o, h1, h2⟩ := e.get h
  cases h2
  have lk : ∀ ρ, ER Ps ρ → look ρ (.slot i) = some (c a) := fun ρ e => by
    obtain ⟨o, h1, h2⟩ := e.get h
    cases h2
    simp only [look, h1]; exact ht
  unfold eVar
  rw [h1]
  cases t with
  | sh d => cases ht; exact Sm.okI ⟨e, .leaf⟩
  | lst ts => exact Sm.okI ⟨e, fun ρ e => lk ρ e, fun z => nomatch z⟩
  | dic ks ts => exact Sm.okI ⟨e, fun ρ e => lk ρ e, fun z => nomatch z⟩
  | dit ks ts => exact Sm.okI ⟨e, fun ρ e => lk ρ e, fun z => nomatch z⟩
  | «at» b ts => exact Sm.okI ⟨e, fun ρ e => lk ρ e, fun z => nomatch z⟩
theorem X_c (c : α → D) (a : α) {d : D} (h : d = c a) : X true Ps (eC d) (.ok a) c := fun ρ e => Sm.okI ⟨e, h ▸ .leaf⟩
theorem X_i (i : Int) : X true Ps (eC (.int i)) (.ok i) cI := X_c cI i rfl
theorem X_b (i : Bool) : X true Ps (eC (.bl i)) (.ok i) cB := X_c cB i rfl
theorem X_n : X true Ps (eC .non) (.ok ()) cN := X_c cN () rfl
theorem X_s {x : Str} (l : List Nat) (h : x = S l) : X true Ps (eC (.str x)) (.ok l) cS := X_c cS l (by rw [h]; rfl)
theorem X_dyn (h : X m Ps fa ea ca) : X m Ps fa (ea.bind fun a => .ok (ca a)) cD := fun ρ e => by
  have := h ρ e
  cases ea with
  | ok a => exact this
  | exc c => exact this
  | bad => trivial
/-- another reading of the same thing -/
theorem X_as {k : α → δ} (h : X m Ps fa ea ca) (hk : ∀ a, ca a = cr (k a)) : X m Ps fa (ea.bind fun a => .ok (k a)) cr := fun ρ e => by
  have := h ρ e
  cases ea with
  | ok a =>
    obtain ⟨b, e1, e2, e3⟩ := this
    exact ⟨b, e1, e2, hk a ▸ e3⟩
  | exc c => exact this
  | bad => trivial
/-- what an operation tells, as the typed one does -/
def RO (o : Option D) (r : Out δ) (c : δ → D) : Prop := match r with
  | .ok r => o = some (c r)
  | .exc _ => False
  | .bad => True
def ROL (o : Option (List D)) (r : Out (List δ)) (c : δ → D) : Prop := match r with
  | .ok r => o = some (r.map c)
  | .exc _ => False
  | .bad => True
def ROB (o : Option Bool) (r : Out Bool) : Prop := match r with
  | .ok r => o = some r
  | .exc _ => False
  | .bad => True
def OpT (g : D → D → Option D) (ca : α → D) (cb : β → D) (cr : δ → D) (f : α → β → Out δ) : Prop := ∀ a b, RO (g (ca a) (cb b)) (f a b) cr
theorem X_bin {g : D → D → Option D} {f : α → β → Out δ} (ho : OpT g ca cb cr f) (ha : X m Ps fa ea ca) (hb : X m' Ps fb eb cb) : X true Ps (eBin g fa fb) (ea.bind fun a => eb.bind fun b => f a b) cr := fun ρ h =>
  Sm.bind (ha ρ h) (fun a ⟨r, ρ1⟩ ⟨h1, q1⟩ => Sm.bind (hb ρ1 h1) (fun b ⟨r2, ρ2⟩ ⟨h2, q2⟩ => by
    have h2 : ER Ps ρ2 := h2
    have o := ho a b
    simp only [RO, ROL, ROB] at o
    show Sm ((Res.of (look ρ2 r)).bind fun d1 => (Res.of (look ρ2 r2)).bind fun d2 => (Res.of (g d1 d2)).bind fun d => .ok (RV.leaf d, ρ2)) _ _ _
    rw [q1.1 _ h2, q2.1 _ h2]
    cases e : f a b with
    | ok r => rw [e] at o; simp only [of_some, bind_ok, o]; exact Sm.okI ⟨h2, .leaf⟩
    | exc c => rw [e] at o; exact o.elim
    | bad => trivial) fun _ h => h) fun _ h => h
def UnT (g : D → Option D) (ca : α → D) (cr : δ → D) (f : α → Out δ) : Prop := ∀ a, RO (g (ca a)) (f a) cr
theorem X_un {g : D → Option D} {f : α → Out δ} (ho : UnT g ca cr f) (ha : X m Ps fa ea ca) : X true Ps (eUn g fa) (ea.bind f) cr := fun ρ h =>
  Sm.bind (ha ρ h) (fun a ⟨r, ρ1⟩ ⟨h1, q1⟩ => by
    have h1 : ER Ps ρ1 := h1
    have o := ho a
    simp only [RO, ROL, ROB] at o
    show Sm ((Res.of (look ρ1 r)).bind fun d1 => (Res.of (g d1)).bind fun d => .ok (RV.leaf d, ρ1)) _ _ _
    rw [q1.1 _ h1]
    cases e : f a with
    | ok r => rw [e] at o; simp only [of_some, bind_ok, o]; exact Sm.okI ⟨h1, .leaf⟩
    | exc c => rw [e] at o; exact o.elim
    | bad => trivial) fun _ h => h
/-- a tuple's place -/
theorem X_prj {k : Int} {π : α → δ} (ha : X m Ps fa ea ca) (hp : ∀ a, D.ix (ca a) (.int k) = some (cr (π a))) : X true Ps (eBin D.ix fa (eC (.int k))) (ea.bind fun a => .ok (π a)) cr := by
  have := X_bin (g := D.ix) (f := fun a (i : Int) => if i = k then Out.ok (π a) else .bad) (cb := cI) (cr := cr) (fun a b => by
    by_cases e : b = k
    · simp only [if_pos e]; rw [e]; exact hp a
    · simp only [if_neg e]; trivial) ha (X_i k)
  simpa using this
theorem AL_nil : AL Ps aNil (.ok ()) fun _ => [] := fun ρ h => Sm.okI ⟨h, fun _ _ => rfl⟩
theorem AL_cons {fr : Env' → Res (List RV × Env')} {er : Out β} {dn : β → List D} (ha : X m Ps fa ea ca) (hr : AL Ps fr er dn) : AL Ps (aCons fa fr) (ea.bind fun a => er.bind fun b => .ok (a, b)) fun g => ca g.1 :: dn g.2 := fun ρ h =>
  Sm.bind (ha ρ h) (fun a ⟨r, ρ1⟩ ⟨h1, q1⟩ => Sm.bind (hr ρ1 h1) (fun b ⟨rs, ρ2⟩ ⟨h2, q2⟩ => Sm.okI ⟨h2, fun ρ h => by simp [looks, q1.1 ρ h, q2 ρ h]⟩) fun _ h => h) fun _ h => h
theorem AE_nil : AE Ps aNil (.ok ()) fun _ => [] := fun ρ h => Sm.okI ⟨rfl, h⟩
theorem AE_cons {fr : Env' → Res (List RV × Env')} {er : Out β} {dn : β → List D} (ha : X true Ps fa ea ca) (hr : AE Ps fr er dn) : AE Ps (aConsE fa fr) (ea.bind fun a => er.bind fun b => .ok (a, b)) fun g => ca g.1 :: dn g.2 := fun ρ h =>
  Sm.bind (ha ρ h) (fun a ⟨r, ρ1⟩ ⟨h1, q1⟩ => by
    obtain ⟨ρ', e1, e2⟩ := q1.2 rfl ρ1 h1
    show Sm ((Res.of (esc ρ1 r)).bind fun (d, ρ1') => (fr ρ1').bind fun (rs, ρ2) => .ok (RV.leaf d :: rs, ρ2)) _ _ _
    rw [e1]
    show Sm ((fr ρ').bind fun (rs, ρ2) => .ok (RV.leaf (ca a) :: rs, ρ2)) _ _ _
    exact Sm.bind (hr ρ' e2) (fun b ⟨rs, ρ2⟩ ⟨h2, q2⟩ => Sm.okI ⟨by rw [show rs = _ from h2]; rfl, q2⟩) fun _ h => h) fun _ h => h
def BT (g : List D → Option D) (dn : α → List D) (cr : δ → D) (f : α → Out δ) : Prop := ∀ a, RO (g (dn a)) (f a) cr
theorem X_B {g : List D → Option D} {fs : Env' → Res (List RV × Env')} {dn : α → List D} {f : α → Out δ} (ho : BT g dn cr f) (ha : AL Ps fs ea dn) : X true Ps (eB g fs) (ea.bind f) cr := fun ρ h =>
  Sm.bind (ha ρ h) (fun a ⟨rs, ρ1⟩ ⟨h1, q1⟩ => by
    have h1 : ER Ps ρ1 := h1
    have o := ho a
    simp only [RO, ROL, ROB] at o
    show Sm ((Res.of (looks ρ1 rs)).bind fun ds => (Res.of (g ds)).bind fun d => .ok (RV.leaf d, ρ1)) _ _ _
    rw [q1 _ h1]
    cases e : f a with
    | ok r => rw [e] at o; simp only [of_some, bind_ok, o]; exact Sm.okI ⟨h1, .leaf⟩
    | exc c => rw [e] at o; exact o.elim
    | bad => trivial) fun _ h => h
theorem X_B1 {g : List D → Option D} {f : α → Out δ} (ho : ∀ a, RO (g [ca a]) (f a) cr) (ha : X m Ps fa ea ca) : X true Ps (eB g (aCons fa aNil)) (ea.bind f) cr := by
  have := X_B (g := g) (dn := fun x : α × Unit => [ca x.1]) (f := fun p : α × Unit => f p.1) (cr := cr) (fun a => ho a.1) (AL_cons ha AL_nil)
  refine X_eq this ?_
  cases ea <;> rfl
theorem X_B2 {g : List D → Option D} {f : α → β → Out δ} (ho : ∀ a b, RO (g [ca a, cb b]) (f a b) cr) (ha : X m Ps fa ea ca) (hb : X m' Ps fb eb cb) : X true Ps (eB g (aCons fa (aCons fb aNil))) (ea.bind fun a => eb.bind fun b => f a b) cr := by
  have := X_B (g := g) (dn := fun x : α × β × Unit => [ca x.1, cb x.2.1]) (f := fun p : α × β × Unit => f p.1 p.2.1) (cr := cr) (fun a => ho a.1 a.2.1) (AL_cons ha (AL_cons hb AL_nil))
  refine X_eq this ?_
  cases ea <;> cases eb <;> rfl
theorem leafs_leaf : ∀ ds : List D, leafs (ds.map RV.leaf) = some ds
  | [] => rfl
  | d :: ds => by
    have := leafs_leaf ds
    rw [leafs_eq] at this ⊢
    simp [this]
/-- a tuple of few things -/
theorem X_tup {fs : Env' → Res (List RV × Env')} {dn : α → List D} {n : Nat} (ha : AE Ps fs ea dn) (hn : ∀ a, (dn a).length = n) (h16 : n ≤ 16777216) {π : α → δ} (hc : ∀ a, D.tup (dn a) = cr (π a)) : X true Ps (eTup fs) (ea.bind fun a => .ok (π a)) cr := fun ρ h =>
  Sm.bind (ha ρ h) (fun a ⟨rs, ρ1⟩ ⟨h1, q1⟩ => by
    have h1 : rs = _ := h1
    show Sm ((Res.of (leafs rs)).bind fun ds => if ds.length ≤ sizeLine then .ok (RV.leaf (.tup ds), ρ1) else .bad) _ _ _
    rw [h1, leafs_leaf, of_some, bind_ok, if_pos (size_le (by rw [hn]; exact h16)), hc]
    exact Sm.okI ⟨q1, .leaf⟩) fun _ h => h
theorem X_not {ea : Out Bool} (ha : X m Ps fa ea cB) : X true Ps (eNot fa) (ea.bind fun b => .ok (!b)) cB := fun ρ h =>
  Sm.bind (ha ρ h) (fun a ⟨r, ρ1⟩ ⟨h1, q1⟩ => by
    have h1 : ER Ps ρ1 := h1
    show Sm (match look ρ1 r with
      | some (.bl b) => .ok (RV.leaf (.bl (!b)), ρ1)
      | _ => .bad) _ _ _
    rw [q1.1 _ h1]
    exact Sm.okI ⟨h1, .leaf⟩) fun _ h => h
theorem X_and {ea : Out Bool} (ha : X m Ps fa ea cB) {eb : Out Bool} (hb : X m' Ps fb eb cB) : X m' Ps (eAnd fa fb) (ea.bind fun b => if b = true then eb else .ok false) cB := fun ρ h =>
  Sm.bind (ha ρ h) (fun a ⟨r, ρ1⟩ ⟨h1, q1⟩ => by
    have h1 : ER Ps ρ1 := h1
    show Sm (match look ρ1 r with
      | some (.bl true) => fb ρ1
      | some (.bl false) => .ok (RV.leaf (.bl false), ρ1)
      | _ => .bad) _ _ _
    rw [q1.1 _ h1]
    cases a with
    | true => exact hb ρ1 h1
    | false => exact Sm.okI ⟨h1, .leaf⟩) fun _ h => h
theorem X_or {ea : Out Bool} (ha : X m Ps fa ea cB) {eb : Out Bool} (hb : X m' Ps fb eb cB) : X m' Ps (eOr fa fb) (ea.bind fun b => if b = true then .ok true else eb) cB := fun ρ h =>
  Sm.bind (ha ρ h) (fun a ⟨r, ρ1⟩ ⟨h1, q1⟩ => by
    have h1 : ER Ps ρ1 := h1
    show Sm (match look ρ1 r with
      | some (.bl false) => fb ρ1
      | some (.bl true) => .ok (RV.leaf (.bl true), ρ1)
      | _ => .bad) _ _ _
    rw [q1.1 _ h1]
    cases a with
    | false => exact hb ρ1 h1
    | true => exact Sm.okI ⟨h1, .leaf⟩) fun _ h => h
theorem X_andp {a b : Bool} (ha : X m Ps fa (.ok a) cB) (hb : X m' Ps fb (.ok b) cB) : X m' Ps (eAnd fa fb) (.ok (a && b)) cB := X_eq (X_and ha hb) (by cases a <;> rfl)
theorem X_orp {a b : Bool} (ha : X m Ps fa (.ok a) cB) (hb : X m' Ps fb (.ok b) cB) : X m' Ps (eOr fa fb) (.ok (a || b)) cB := X_eq (X_or ha hb) (by cases a <;> rfl)
theorem X_if {ta : Env' → Res (Bool × Env')} {et : Out Bool} {eb : Out α} (ht : TJ Ps ta et) (ha : X m Ps fa ea ca) (hb : X m Ps fb eb ca) : X m Ps (eIf ta fa fb) (et.bind fun b => if b = true then ea else eb) ca := fun ρ h =>
  Sm.bind (ht ρ h) (fun a ⟨b, ρ1⟩ ⟨h1, q1⟩ => by
    have h1 : b = a := h1
    subst h1
    show Sm (if b = true then fa ρ1 else fb ρ1) _ _ _
    cases b with
    | true => exact ha ρ1 q1
    | false => exact hb ρ1 q1) fun _ h => h
theorem X_ifp {ta : Env' → Res (Bool × Env')} {t : Bool} {a b : α} (ht : TJ Ps ta (.ok t)) (ha : X m Ps fa (.ok a) ca) (hb : X m Ps fb (.ok b) ca) : X m Ps (eIf ta fa fb) (.ok (if t = true then a else b)) ca := X_eq (X_if ht ha hb) (by cases t <;> rfl)
theorem X_chain {g g' : D → D → Option D} {f : α → β → Out Bool} {f' : β → γ → Out Bool} (ho : OpT g ca cb cB f) (ho' : OpT g' cb cc cB f') (ha : X m Ps fa ea ca) (hb : X m' Ps fb eb cb) (hc : X m'' Ps fc ec cc) :
    X true Ps (eChain g g' fa fb fc) (ea.bind fun a => eb.bind fun b => (f a b).bind fun t => if t = true then ec.bind fun c => f' b c else .ok false) cB := fun ρ h =>
  Sm.bind (ha ρ h) (fun a ⟨r, ρ1⟩ ⟨h1, q1⟩ => Sm.bind (hb ρ1 h1) (fun b ⟨r2, ρ2⟩ ⟨h2, q2⟩ => by
    have h2 : ER Ps ρ2 := h2
    have o := ho a b
    simp only [RO, ROL, ROB] at o
    show Sm ((Res.of (look ρ2 r)).bind fun d1 => (Res.of (look ρ2 r2)).bind fun d2 => match g d1 d2 with
      | some (.bl true) => (fc ρ2).bind fun (r3, ρ3) => (Res.of (look ρ3 r2)).bind fun d2 => (Res.of (look ρ3 r3)).bind fun d3 => (Res.of (g' d2 d3)).bind fun d => .ok (RV.leaf d, ρ3)
      | some (.bl false) => .ok (RV.leaf (.bl false), ρ2)
      | _ => .bad) _ _ _
    rw [q1.1 _ h2, q2.1 _ h2]
    cases e : f a b with
    | ok t =>
      rw [e] at o
      simp only [of_some, bind_ok, Out.ok_bind, o, cB]
      cases t with
      | true =>
        refine Sm.bind (hc ρ2 h2) (fun c ⟨r3, ρ3⟩ ⟨h3, q3⟩ => ?_) fun _ h => h
        have h3 : ER Ps ρ3 := h3
        have o' := ho' b c
        simp only [RO] at o'
        show Sm ((Res.of (look ρ3 r2)).bind fun d2 => (Res.of (look ρ3 r3)).bind fun d3 => (Res.of (g' d2 d3)).bind fun d => .ok (RV.leaf d, ρ3)) _ _ _
        rw [q2.1 _ h3, q3.1 _ h3]
        cases e' : f' b c with
        | ok r => rw [e'] at o'; simp only [of_some, bind_ok, o']; exact Sm.okI ⟨h3, .leaf⟩
        | exc c => rw [e'] at o'; exact o'.elim
        | bad => trivial
      | false => exact Sm.okI ⟨h2, .leaf⟩
    | exc c => rw [e] at o; exact o.elim
    | bad => trivial) fun _ h => h) fun _ h => h
theorem X_chainp {g g' : D → D → Option D} {f : α → β → Bool} {f' : β → γ → Bool} {a : α} {b : β} {c : γ} (ho : OpT g ca cb cB fun a b => .ok (f a b)) (ho' : OpT g' cb cc cB fun b c => .ok (f' b c)) (ha : X m Ps fa (.ok a) ca) (hb : X m' Ps fb (.ok b) cb) (hc : X m'' Ps fc (.ok c) cc) :
    X true Ps (eChain g g' fa fb fc) (.ok (f a b && f' b c)) cB := X_eq (X_chain ho ho' ha hb hc) (by simp only [Out.ok_bind]; cases f a b <;> rfl)
theorem PJ_none : PJ Ps pNone (.ok none) := fun ρ h => Sm.okI ⟨rfl, h⟩
theorem PJ_some {e : Out Int} (ha : X m Ps fa e cI) : PJ Ps (pSome fa) (e.bind fun i => .ok (some i)) := fun ρ h =>
  Sm.bind (ha ρ h) (fun a ⟨r, ρ1⟩ ⟨h1, q1⟩ => by
    have h1 : ER Ps ρ1 := h1
    show Sm (match look ρ1 r with
      | some (.int i) => .ok (some i, ρ1)
      | _ => .bad) _ _ _
    rw [q1.1 _ h1]
    exact Sm.okI ⟨rfl, h1⟩) fun _ h => h
def SlT (ca : α → D) (cr : δ → D) (f : Option Int → Option Int → α → δ) : Prop := ∀ lo hi a, D.sl lo hi (ca a) = some (cr (f lo hi a))
theorem X_sl {fl fh : Env' → Res (Option Int × Env')} {el eh : Out (Option Int)} {f : Option Int → Option Int → α → δ} (ho : SlT ca cr f) (ha : X m Ps fa ea ca) (hl : PJ Ps fl el) (hh : PJ Ps fh eh) :
    X true Ps (eSl fa fl fh) (ea.bind fun a => el.bind fun lo => eh.bind fun hi => .ok (f lo hi a)) cr := fun ρ h =>
  Sm.bind (ha ρ h) (fun a ⟨r, ρ1⟩ ⟨h1, q1⟩ => Sm.bind (hl ρ1 h1) (fun lo ⟨lo', ρ2⟩ ⟨h2, q2⟩ => Sm.bind (hh ρ2 q2) (fun hi ⟨hi', ρ3⟩ ⟨h3, q3⟩ => by
    have h2 : lo' = lo := h2
    have h3 : hi' = hi := h3
    have q3 : ER Ps ρ3 := q3
    subst h2; subst h3
    show Sm ((Res.of ((look ρ3 r).bind (D.sl lo' hi'))).bind fun d => .ok (RV.leaf d, ρ3)) _ _ _
    rw [q1.1 _ q3]
    simp only [Option.bind_some, ho lo' hi' a, of_some, bind_ok]
    exact Sm.okI ⟨q3, .leaf⟩) fun _ h => h) fun _ h => h) fun _ h => h
theorem X_m {T : String} {g : D → List D → Option D} {fs : Env' → Res (List RV × Env')} {dn : β → List D} {f : α → β → Out δ} (ht : ∀ a, D.isTy T (ca a) = true) (ho : ∀ a b, RO (g (ca a) (dn b)) (f a b) cr) (ha : X m Ps fa ea ca) (hb : AL Ps fs eb dn) : X true Ps (eM T g fa fs) (ea.bind fun a => eb.bind fun b => f a b) cr := fun ρ h =>
  Sm.bind (ha ρ h) (fun a ⟨r, ρ1⟩ ⟨h1, q1⟩ => by
    have h1 : ER Ps ρ1 := h1
    show Sm ((Res.of (look ρ1 r)).bind fun d0 => if D.isTy T d0 = true then (fs ρ1).bind fun (rs, ρ2) => (Res.of (look ρ2 r)).bind fun d => (Res.of (looks ρ2 rs)).bind fun ds => (Res.of (g d ds)).bind fun e => .ok (RV.leaf e, ρ2) else .bad) _ _ _
    rw [q1.1 _ h1, of_some, bind_ok, if_pos (ht a)]
    refine Sm.bind (hb ρ1 h1) (fun b ⟨rs, ρ2⟩ ⟨h2, q2⟩ => ?_) fun _ h => h
    have h2 : ER Ps ρ2 := h2
    have o := ho a b
    simp only [RO, ROL, ROB] at o
    show Sm ((Res.of (look ρ2 r)).bind fun d => (Res.of (looks ρ2 rs)).bind fun ds => (Res.of (g d ds)).bind fun e => .ok (RV.leaf e, ρ2)) _ _ _
    rw [q1.1 _ h2, q2 _ h2]
    cases e : f a b with
    | ok r => rw [e] at o; simp only [of_some, bind_ok, o]; exact Sm.okI ⟨h2, .leaf⟩
    | exc c => rw [e] at o; exact o.elim
    | bad => trivial) fun _ h => h
/-- a def's call -/
def Sim (o : Out D) (p : Out α) (c : α → D) : Prop := match p with
  | .ok a => o = .ok (c a)
  | .exc k => o = .exc k
  | .bad => True
def SimT (o : Out T) (p : Out α) (t : α → T) : Prop := match p with
  | .ok a => o = .ok (t a)
  | .exc k => o = .exc k
  | .bad => True
theorem X_call {mf : List D → Out D} {fs : Env' → Res (List RV × Env')} {dn : α → List D} {p : α → Out δ} (hm : ∀ a, Sim (mf (dn a)) (p a) cr) (ha : AE Ps fs ea dn) : X true Ps (eCall mf fs) (ea.bind p) cr := fun ρ h =>
  Sm.bind (ha ρ h) (fun a ⟨rs, ρ1⟩ ⟨h1, q1⟩ => by
    have h1 : rs = _ := h1
    have o := hm a
    show Sm ((Res.of (leafs rs)).bind fun ds => match mf ds with
      | .ok d => .ok (RV.leaf d, ρ1)
      | .exc c => .exc c ρ1
      | .bad => .bad) _ _ _
    rw [h1, leafs_leaf, of_some, bind_ok]
    cases e : p a with
    | ok r => rw [e] at o; rw [show mf (dn a) = _ from o]; exact Sm.okI ⟨q1, .leaf⟩
    | exc c => rw [e] at o; rw [show mf (dn a) = _ from o]; exact ⟨_, rfl, q1⟩
    | bad => trivial) fun _ h => h

/-! ### new things -/
theorem NJ_eq {e e' : Out α} {na : Env' → Res (T × Env')} {t : α → T} (h : NJ Ps na e t) (q : e' = e) : NJ Ps na e' t := q ▸ h
theorem N_of (ha : X true Ps fa ea ca) : NJ Ps (nOf fa) ea (oS ca) := fun ρ h => by
  have : Sm ((fa ρ).bind fun (r, ρ1) => (Res.of (esc ρ1 r)).bind fun (d, ρ2) => .ok (T.sh d, ρ2)) (ea.bind .ok) (fun a b => b.1 = oS ca a ∧ ER Ps b.2) (ER Ps) :=
    Sm.bind (ha ρ h) (fun a ⟨r, ρ1⟩ ⟨h1, q1⟩ => by
      obtain ⟨ρ', e1, e2⟩ := q1.2 rfl ρ1 h1
      show Sm ((Res.of (esc ρ1 r)).bind fun (d, ρ2) => .ok (T.sh d, ρ2)) _ _ _
      rw [e1]
      exact Sm.okI ⟨rfl, e2⟩) fun _ h => h
  cases ea <;> exact this
theorem X_of {na : Env' → Res (T × Env')} {t : α → T} (ha : NJ Ps na ea t) (ht : ∀ a, (t a).d = ca a) : X true Ps (oOf na) ea ca := fun ρ h => by
  have : Sm ((na ρ).bind fun (t, ρ1) => .ok (RV.leaf t.d, ρ1)) (ea.bind .ok) (fun a b => ER Ps b.2 ∧ RR true Ps b.1 (ca a)) (ER Ps) :=
    Sm.bind (ha ρ h) (fun a ⟨t', ρ1⟩ ⟨h1, q1⟩ => by
      have h1 : t' = _ := h1
      show Sm (.ok (RV.leaf t'.d, ρ1)) _ _ _
      rw [h1, ht]
      exact Sm.okI ⟨q1, .leaf⟩) fun _ h => h
  cases ea <;> exact this
theorem X_ofL {na : Env' → Res (T × Env')} {ea : Out (List α)} (ha : NJ Ps na ea (oL ca)) : X true Ps (oOf na) ea (cL ca) := X_of ha fun a => oL_d ca a
theorem NL_nil {t : α → T} : NLJ Ps atNil (.ok []) t := fun ρ h => Sm.okI ⟨rfl, h⟩
theorem NL_cons {na : Env' → Res (T × Env')} {nr : Env' → Res (List T × Env')} {er : Out (List α)} {t : α → T} (ha : NJ Ps na ea t) (hr : NLJ Ps nr er t) : NLJ Ps (atCons na nr) (ea.bind fun a => er.bind fun r => .ok (a :: r)) t := fun ρ h =>
  Sm.bind (ha ρ h) (fun a ⟨t', ρ1⟩ ⟨h1, q1⟩ => Sm.bind (hr ρ1 q1) (fun b ⟨ts, ρ2⟩ ⟨h2, q2⟩ => by
    have h1 : t' = _ := h1
    have h2 : ts = _ := h2
    subst h1; subst h2
    exact Sm.okI ⟨rfl, q2⟩) fun _ h => h) fun _ h => h
theorem N_lst {ns : Env' → Res (List T × Env')} {e : Out (List α)} (h : NLJ Ps ns e (oS ca)) {n : Nat} (hn : ∀ xs, e = .ok xs → xs.length = n) (h16 : n ≤ 16777216) : NJ Ps (nLst ns) e (oL ca) := fun ρ h0 => by
  have : Sm ((ns ρ).bind fun (ts, ρ1) => if ts.length ≤ sizeLine then .ok (T.lst ts, ρ1) else .bad) (e.bind .ok) (fun a b => b.1 = oL ca a ∧ ER Ps b.2) (ER Ps) := by
    cases e with
    | ok xs =>
      obtain ⟨⟨ts, ρ1⟩, e1, e2, e3⟩ := h ρ h0
      have e2 : ts = _ := e2
      subst e2
      rw [e1]
      show Sm (if (xs.map (oS ca)).length ≤ sizeLine then .ok (T.lst (xs.map (oS ca)), ρ1) else .bad) _ _ _
      rw [if_pos (size_le (by rw [List.length_map, hn xs rfl]; exact h16))]
      exact Sm.okI ⟨rfl, e3⟩
    | exc c => obtain ⟨ρ', e1, e2⟩ := h ρ h0; rw [e1]; exact ⟨ρ', rfl, e2⟩
    | bad => trivial
  cases e <;> exact this
theorem N_lstp {ns : Env' → Res (List T × Env')} {xs : List α} (h : NLJ Ps ns (.ok xs) (oS ca)) (h16 : xs.length ≤ 16777216) : NJ Ps (nLst ns) (.ok xs) (oL ca) := N_lst h (n := xs.length) (fun ys e => by cases e; rfl) h16
theorem N_B {g : List D → Option (List D)} {fs : Env' → Res (List RV × Env')} {dn : α → List D} {f : α → Out (List δ)} (ho : ∀ a, ROL (g (dn a)) (f a) cr) (ha : AL Ps fs ea dn) : NJ Ps (nB g fs) (ea.bind f) (oL cr) := fun ρ h =>
  Sm.bind (ha ρ h) (fun a ⟨rs, ρ1⟩ ⟨h1, q1⟩ => by
    have h1 : ER Ps ρ1 := h1
    have o := ho a
    simp only [RO, ROL, ROB] at o
    show Sm ((Res.of (looks ρ1 rs)).bind fun ds => (Res.of (g ds)).bind fun es => .ok (T.lst (es.map T.sh), ρ1)) _ _ _
    rw [q1 _ h1]
    cases e : f a with
    | ok r =>
      rw [e] at o; simp only [of_some, bind_ok, o]
      exact Sm.okI ⟨by simp [oL, Function.comp_def], h1⟩
    | exc c => rw [e] at o; exact o.elim
    | bad => trivial) fun _ h => h
theorem N_B1 {g : List D → Option (List D)} {f : α → Out (List δ)} (ho : ∀ a, ROL (g [ca a]) (f a) cr) (ha : X m Ps fa ea ca) : NJ Ps (nB g (aCons fa aNil)) (ea.bind f) (oL cr) := by
  have := N_B (g := g) (dn := fun x : α × Unit => [ca x.1]) (f := fun p : α × Unit => f p.1) (cr := cr) (fun a => ho a.1) (AL_cons ha AL_nil)
  refine NJ_eq this ?_
  cases ea <;> rfl
theorem N_bin {g : D → D → Option (List D)} {f : α → β → Out (List δ)} (ho : ∀ a b, ROL (g (ca a) (cb b)) (f a b) cr) (ha : X m Ps fa ea ca) (hb : X m' Ps fb eb cb) : NJ Ps (nBin g fa fb) (ea.bind fun a => eb.bind fun b => f a b) (oL cr) := fun ρ h =>
  Sm.bind (ha ρ h) (fun a ⟨r, ρ1⟩ ⟨h1, q1⟩ => Sm.bind (hb ρ1 h1) (fun b ⟨r2, ρ2⟩ ⟨h2, q2⟩ => by
    have h2 : ER Ps ρ2 := h2
    have o := ho a b
    simp only [RO, ROL, ROB] at o
    show Sm ((Res.of (look ρ2 r)).bind fun d1 => (Res.of (look ρ2 r2)).bind fun d2 => (Res.of (g d1 d2)).bind fun es => .ok (T.lst (es.map T.sh), ρ2)) _ _ _
    rw [q1.1 _ h2, q2.1 _ h2]
    cases e : f a b with
    | ok r => rw [e] at o; simp only [of_some, bind_ok, o]; exact Sm.okI ⟨by simp [oL, Function.comp_def], h2⟩
    | exc c => rw [e] at o; exact o.elim
    | bad => trivial) fun _ h => h) fun _ h => h
/-- a slice of a list -/
def slL {α : Type} (lo hi : Option Int) (xs : List α) : List α := (xs.drop (HT.sIx xs.length 0 lo)).take (HT.sIx xs.length xs.length hi - HT.sIx xs.length 0 lo)
theorem slL_map {α β : Type} (f : α → β) (lo hi : Option Int) (xs : List α) : (slL lo hi xs).map f = slL lo hi (xs.map f) := by simp [slL, List.map_take, List.map_drop]
theorem cutD_map {α : Type} (c : α → D) (lo hi : Option Int) (xs : List α) : cutD (xs.map c) lo hi = (slL lo hi xs).map c := by rw [slL_map]; rfl
theorem N_sl {fl fh : Env' → Res (Option Int × Env')} {el eh : Out (Option Int)} {ea : Out (List α)} (ha : X m Ps fa ea (cL ca)) (hl : PJ Ps fl el) (hh : PJ Ps fh eh) :
    NJ Ps (nSl fa fl fh) (ea.bind fun a => el.bind fun lo => eh.bind fun hi => .ok (slL lo hi a)) (oL ca) := fun ρ h =>
  Sm.bind (ha ρ h) (fun a ⟨r, ρ1⟩ ⟨h1, q1⟩ => Sm.bind (hl ρ1 h1) (fun lo ⟨lo', ρ2⟩ ⟨h2, q2⟩ => Sm.bind (hh ρ2 q2) (fun hi ⟨hi', ρ3⟩ ⟨h3, q3⟩ => by
    have h2 : lo' = lo := h2
    have h3 : hi' = hi := h3
    have q3 : ER Ps ρ3 := q3
    subst h2; subst h3
    show Sm (match look ρ3 r with
      | some (.lst ds) => .ok (T.lst ((cutD ds lo' hi').map T.sh), ρ3)
      | some (.fz ds) => .ok (T.lst ((cutD ds lo' hi').map T.sh), ρ3)
      | _ => .bad) _ _ _
    rw [q1.1 _ q3]
    refine Sm.okI ⟨?_, q3⟩
    simp [oL, cutD_map, Function.comp_def]) fun _ h => h) fun _ h => h) fun _ h => h
theorem N_if {ta : Env' → Res (Bool × Env')} {et : Out Bool} {na nb : Env' → Res (T × Env')} {eb : Out α} {t : α → T} (ht : TJ Ps ta et) (ha : NJ Ps na ea t) (hb : NJ Ps nb eb t) : NJ Ps (nIf ta na nb) (et.bind fun b => if b = true then ea else eb) t := fun ρ h =>
  Sm.bind (ht ρ h) (fun a ⟨b, ρ1⟩ ⟨h1, q1⟩ => by
    have h1 : b = a := h1
    subst h1
    show Sm (if b = true then na ρ1 else nb ρ1) _ _ _
    cases b with
    | true => exact ha ρ1 q1
    | false => exact hb ρ1 q1) fun _ h => h
theorem N_ifp {ta : Env' → Res (Bool × Env')} {et : Bool} {na nb : Env' → Res (T × Env')} {a b : α} {t : α → T} (ht : TJ Ps ta (.ok et)) (ha : NJ Ps na (.ok a) t) (hb : NJ Ps nb (.ok b) t) : NJ Ps (nIf ta na nb) (.ok (if et = true then a else b)) t := NJ_eq (N_if ht ha hb) (by cases et <;> rfl)
theorem N_call {mf : List D → Out T} {fs : Env' → Res (List RV × Env')} {dn : α → List D} {p : α → Out δ} {t : δ → T} (hm : ∀ a, SimT (mf (dn a)) (p a) t) (ha : AE Ps fs ea dn) : NJ Ps (nCall mf fs) (ea.bind p) t := fun ρ h =>
  Sm.bind (ha ρ h) (fun a ⟨rs, ρ1⟩ ⟨h1, q1⟩ => by
    have h1 : rs = _ := h1
    have o := hm a
    show Sm ((Res.of (leafs rs)).bind fun ds => match mf ds with
      | .ok d => .ok (d, ρ1)
      | .exc c => .exc c ρ1
      | .bad => .bad) _ _ _
    rw [h1, leafs_leaf, of_some, bind_ok]
    cases e : p a with
    | ok r => rw [e] at o; rw [show mf (dn a) = _ from o]; exact Sm.okI ⟨rfl, q1⟩
    | exc c => rw [e] at o; rw [show mf (dn a) = _ from o]; exact ⟨_, rfl, q1⟩
    | bad => trivial) fun _ h => h

/-! ### tests -/
theorem T_v {e : Out Bool} (ha : X m Ps fa e cB) : TJ Ps (tstV fa) e := fun ρ h => by
  have : Sm ((fa ρ).bind fun (r, ρ1) => match look ρ1 r with
    | some (.bl b) => .ok (b, ρ1)
    | _ => .bad) (e.bind .ok) (fun a b => b.1 = a ∧ ER Ps b.2) (ER Ps) :=
    Sm.bind (ha ρ h) (fun a ⟨r, ρ1⟩ ⟨h1, q1⟩ => by
      have h1 : ER Ps ρ1 := h1
      show Sm (match look ρ1 r with
        | some (.bl b) => .ok (b, ρ1)
        | _ => .bad) _ _ _
      rw [q1.1 _ h1]
      exact Sm.okI ⟨rfl, h1⟩) fun _ h => h
  cases e <;> exact this
theorem T_t {f : α → Out Bool} (ho : ∀ a, ROB (D.truth (ca a)) (f a)) (ha : X m Ps fa ea ca) : TJ Ps (tstT fa) (ea.bind f) := fun ρ h =>
  Sm.bind (ha ρ h) (fun a ⟨r, ρ1⟩ ⟨h1, q1⟩ => by
    have h1 : ER Ps ρ1 := h1
    have o := ho a
    simp only [RO, ROL, ROB] at o
    show Sm ((Res.of ((look ρ1 r).bind D.truth)).bind fun b => .ok (b, ρ1)) _ _ _
    rw [q1.1 _ h1]
    cases e : f a with
    | ok r => rw [e] at o; simp only [Option.bind_some, of_some, bind_ok, o]; exact Sm.okI ⟨rfl, h1⟩
    | exc c => rw [e] at o; exact o.elim
    | bad => trivial) fun _ h => h
theorem T_tB {e : Out Bool} (ha : X m Ps fa e cB) : TJ Ps (tstT fa) e := fun ρ h => by
  have := T_t (f := Out.ok) (fun a => (rfl : D.truth (cB a) = some a)) ha ρ h
  cases e <;> exact this
variable {ta tb : Env' → Res (Bool × Env')} {e1 e2 : Out Bool}
theorem T_not (ha : TJ Ps ta e1) : TJ Ps (tstNot ta) (e1.bind fun b => .ok (!b)) := fun ρ h =>
  Sm.bind (ha ρ h) (fun a ⟨b, ρ1⟩ ⟨h1, q1⟩ => Sm.okI ⟨by rw [show b = a from h1], q1⟩) fun _ h => h
theorem T_and (ha : TJ Ps ta e1) (hb : TJ Ps tb e2) : TJ Ps (tstAnd ta tb) (e1.bind fun b => if b = true then e2 else .ok false) := fun ρ h =>
  Sm.bind (ha ρ h) (fun a ⟨b, ρ1⟩ ⟨h1, q1⟩ => by
    have h1 : b = a := h1
    subst h1
    show Sm (if b = true then tb ρ1 else .ok (false, ρ1)) _ _ _
    cases b with
    | true => exact hb ρ1 q1
    | false => exact Sm.okI ⟨rfl, q1⟩) fun _ h => h
theorem T_or (ha : TJ Ps ta e1) (hb : TJ Ps tb e2) : TJ Ps (tstOr ta tb) (e1.bind fun b => if b = true then .ok true else e2) := fun ρ h =>
  Sm.bind (ha ρ h) (fun a ⟨b, ρ1⟩ ⟨h1, q1⟩ => by
    have h1 : b = a := h1
    subst h1
    show Sm (if b = true then .ok (true, ρ1) else tb ρ1) _ _ _
    cases b with
    | false => exact hb ρ1 q1
    | true => exact Sm.okI ⟨rfl, q1⟩) fun _ h => h
theorem TJ_eq {e e' : Out Bool} (h : TJ Ps ta e) (q : e' = e) : TJ Ps ta e' := q ▸ h
theorem T_andp {a b : Bool} (ha : TJ Ps ta (.ok a)) (hb : TJ Ps tb (.ok b)) : TJ Ps (tstAnd ta tb) (.ok (a && b)) := TJ_eq (T_and ha hb) (by cases a <;> rfl)
theorem T_orp {a b : Bool} (ha : TJ Ps ta (.ok a)) (hb : TJ Ps tb (.ok b)) : TJ Ps (tstOr ta tb) (.ok (a || b)) := TJ_eq (T_or ha hb) (by cases a <;> rfl)
theorem T_yes : TJ Ps ttYes (.ok true) := fun ρ h => Sm.okI ⟨rfl, h⟩
end
end TL

namespace TL
open PySem PySem.Spec PyProof.Rows L2 FL
noncomputable section
theorem map_cD (ds : List D) : ds.map cD = ds := List.map_id ds
variable {α β γ δ σ ι : Type}
variable {m m' m'' : Bool} {Ps Qs : List Sl} {fa fb fc : Env' → Res (RV × Env')} {ca : α → D} {cb : β → D} {cc : γ → D} {cr : δ → D} {ci : ι → D} {ea : Out α} {eb : Out β} {ec : Out γ}

/-! ### what is walked -/
theorem IJ_eq {e e' : Out (List α)} {fi : Env' → Res (List D × Env')} (h : IJ Ps fi e ca) (q : e' = e) : IJ Ps fi e' ca := q ▸ h
theorem I_seq {f : α → List ι} (ho : ∀ a, D.walk (ca a) = some ((f a).map ci)) (ha : X true Ps fa ea ca) : IJ Ps (iSeq fa) (ea.bind fun a => .ok (f a)) ci := fun ρ h =>
  Sm.bind (ha ρ h) (fun a ⟨r, ρ1⟩ ⟨h1, q1⟩ => by
    obtain ⟨ρ', e1, e2⟩ := q1.2 rfl ρ1 h1
    show Sm ((Res.of (esc ρ1 r)).bind fun (d, ρ2) => (Res.of d.walk).bind fun ds => .ok (ds, ρ2)) _ _ _
    rw [e1]
    show Sm ((Res.of (ca a).walk).bind fun ds => .ok (ds, ρ')) _ _ _
    rw [ho]
    exact Sm.okI ⟨rfl, e2⟩) fun _ h => h
theorem I_id {e : Out (List α)} {fi : Env' → Res (List D × Env')} (h : IJ Ps fi (e.bind fun a => .ok a) ca) : IJ Ps fi e ca := by cases e <;> exact h
theorem I_L {ea : Out (List α)} (ha : X true Ps fa ea (cL ca)) : IJ Ps (iSeq fa) ea ca := I_id (I_seq (f := fun a => a) (fun _ => rfl) ha)
theorem I_F {ea : Out (List α)} (ha : X true Ps fa ea (cF ca)) : IJ Ps (iSeq fa) ea ca := I_id (I_seq (f := fun a => a) (fun _ => rfl) ha)
theorem I_U {ea : Out (List α)} (ha : X true Ps fa ea (cU ca)) : IJ Ps (iSeq fa) ea ca := I_id (I_seq (f := fun a => a) (fun _ => rfl) ha)
/-- a text, sign by sign -/
def sgs (l : List Nat) : List (List Nat) := l.map fun c => [c]
theorem I_S {ea : Out (List Nat)} (ha : X true Ps fa ea cS) : IJ Ps (iSeq fa) (ea.bind fun a => .ok (sgs a)) cS := I_seq (fun a => by simp [cS, sgs, Function.comp_def]) ha
def itD (d : D) : Out (List D) := Out.of d.walk
theorem I_D {ea : Out D} (ha : X true Ps fa ea cD) : IJ Ps (iSeq fa) (ea.bind itD) cD := fun ρ h =>
  Sm.bind (ha ρ h) (fun a ⟨r, ρ1⟩ ⟨h1, q1⟩ => by
    obtain ⟨ρ', e1, e2⟩ := q1.2 rfl ρ1 h1
    show Sm ((Res.of (esc ρ1 r)).bind fun (d, ρ2) => (Res.of d.walk).bind fun ds => .ok (ds, ρ2)) _ _ _
    rw [e1]
    show Sm ((Res.of (cD a).walk).bind fun ds => .ok (ds, ρ')) (itD a) _ _
    unfold itD cD
    cases a.walk with
    | none => trivial
    | some ds => exact Sm.okI ⟨(map_cD ds).symm, e2⟩) fun _ h => h
def rng (i j : Int) : List Int := (List.range (j - i).toNat).map fun k => i + ((k : Nat) : Int)
def rng1 (j : Int) : Out (List Int) := if rOk j then .ok (rng 0 j) else .bad
def rng2 (i j : Int) : Out (List Int) := if rOk i ∧ rOk j then .ok (rng i j) else .bad
theorem I_r1 {e : Out Int} (ha : X m Ps fa e cI) : IJ Ps (iRange1 (aCons fa aNil)) (e.bind rng1) cI := fun ρ h => by
  have this : Sm ((aCons fa aNil) ρ) e (fun a b => ER Ps b.2 ∧ ∀ ρ, ER Ps ρ → looks ρ b.1 = some [cI a]) (ER Ps) := by
    have z := AL_cons ha AL_nil ρ h
    cases e <;> exact z
  exact Sm.bind (h := fun (rs, ρ1) => match looks ρ1 rs with
      | some [.int j] => if rOk j then .ok (rangeD 0 j.toNat, ρ1) else .bad
      | _ => .bad) this (fun a ⟨rs, ρ1⟩ ⟨h1, q1⟩ => by
    have h1 : ER Ps ρ1 := h1
    show Sm (match looks ρ1 rs with
      | some [.int j] => if rOk j then .ok (rangeD 0 j.toNat, ρ1) else .bad
      | _ => .bad) (rng1 a) _ _
    rw [q1 _ h1]
    unfold rng1
    show Sm (if rOk a then .ok (rangeD 0 a.toNat, ρ1) else .bad) _ _ _
    by_cases hr : rOk a
    · rw [if_pos hr, if_pos hr]
      exact Sm.okI ⟨by simp [rangeD, rng, cI, Function.comp_def], h1⟩
    · rw [if_neg hr, if_neg hr]; trivial) fun _ h => h
theorem I_r2 {e e' : Out Int} (ha : X m Ps fa e cI) (hb : X m' Ps fb e' cI) : IJ Ps (iRange2 (aCons fa (aCons fb aNil))) (e.bind fun i => e'.bind fun j => rng2 i j) cI := fun ρ h => by
  have : Sm ((aCons fa (aCons fb aNil)) ρ) (e.bind fun a => e'.bind fun b => .ok (a, b)) (fun a b => ER Ps b.2 ∧ ∀ ρ, ER Ps ρ → looks ρ b.1 = some [cI a.1, cI a.2]) (ER Ps) := by
    have z := AL_cons ha (AL_cons hb AL_nil) ρ h
    cases e with
    | ok a => cases e' with
      | ok b => exact z
      | exc c => exact z
      | bad => trivial
    | exc c => exact z
    | bad => trivial
  have q := Sm.bind (k := fun p : Int × Int => rng2 p.1 p.2) (K' := fun a b => b.1 = a.map cI ∧ ER Ps b.2) (E' := ER Ps) (h := fun (rs, ρ1) => match looks ρ1 rs with
      | some [.int i, .int j] => if rOk i ∧ rOk j then .ok (rangeD i (j - i).toNat, ρ1) else .bad
      | _ => .bad) this (fun ⟨a, b⟩ ⟨rs, ρ1⟩ ⟨h1, q1⟩ => by
    have h1 : ER Ps ρ1 := h1
    show Sm (match looks ρ1 rs with
      | some [.int i, .int j] => if rOk i ∧ rOk j then .ok (rangeD i (j - i).toNat, ρ1) else .bad
      | _ => .bad) (rng2 a b) _ _
    rw [q1 _ h1]
    unfold rng2
    show Sm (if rOk a ∧ rOk b then .ok (rangeD a (b - a).toNat, ρ1) else .bad) _ _ _
    by_cases hr : rOk a ∧ rOk b
    · rw [if_pos hr, if_pos hr]
      exact Sm.okI ⟨by simp [rangeD, rng, cI, Function.comp_def], h1⟩
    · rw [if_neg hr, if_neg hr]; trivial) fun _ h => h
  cases e with
  | ok a => cases e' with
    | ok b => exact q
    | exc c => exact q
    | bad => trivial
  | exc c => exact q
  | bad => trivial
def enumN {α : Type} : Nat → List α → List (Int × α)
  | _, [] => []
  | n, a :: r => ((n : Int), a) :: enumN (n + 1) r
abbrev enum {α : Type} (xs : List α) : List (Int × α) := enumN 0 xs
theorem enumFrom_map (c : α → D) : ∀ (xs : List α) (n : Nat), enumFrom n (xs.map c) = (enumN n xs).map (c2 cI c)
  | [], _ => rfl
  | a :: r, n => by simp [enumFrom, enumN, enumFrom_map c r, c2, cI]
theorem I_enum {f : α → List ι} (ho : ∀ a, D.walk (ca a) = some ((f a).map ci)) (ha : X true Ps fa ea ca) : IJ Ps (iEnum fa) (ea.bind fun a => .ok (enum (f a))) (c2 cI ci) := fun ρ h => by
  have z := AE_cons ha AE_nil ρ h
  have : Sm ((aConsE fa aNil) ρ) ea (fun a b => b.1 = [RV.leaf (ca a)] ∧ ER Ps b.2) (ER Ps) := by cases ea <;> exact z
  exact Sm.bind this (fun a ⟨rs, ρ1⟩ ⟨h1, q1⟩ => by
    have h1 : rs = _ := h1
    subst h1
    show Sm ((Res.of (ca a).walk).bind fun ds => .ok (enumFrom 0 ds, ρ1)) _ _ _
    rw [ho]
    exact Sm.okI ⟨enumFrom_map ci _ _, q1⟩) fun _ h => h
def itEnumD (d : D) : Out (List (Int × D)) := (Out.of d.walk).bind fun ds => .ok (enum ds)
theorem I_enumD {ea : Out D} (ha : X true Ps fa ea cD) : IJ Ps (iEnum fa) (ea.bind itEnumD) (c2 cI cD) := fun ρ h => by
  have z := AE_cons ha AE_nil ρ h
  have : Sm ((aConsE fa aNil) ρ) ea (fun a b => b.1 = [RV.leaf (cD a)] ∧ ER Ps b.2) (ER Ps) := by cases ea <;> exact z
  exact Sm.bind this (fun a ⟨rs, ρ1⟩ ⟨h1, q1⟩ => by
    have h1 : rs = _ := h1
    subst h1
    show Sm ((Res.of a.walk).bind fun ds => .ok (enumFrom 0 ds, ρ1)) (itEnumD a) _ _
    unfold itEnumD
    cases a.walk with
    | none => trivial
    | some ds => exact Sm.okI ⟨by have := enumFrom_map cD ds 0; rw [map_cD] at this; exact this, q1⟩) fun _ h => h
theorem zipD_map (c : α → D) (d : β → D) : ∀ (xs : List α) (ys : List β), zipD (xs.map c) (ys.map d) = (xs.zip ys).map (c2 c d)
  | [], _ => by simp [zipD]
  | _ :: _, [] => by simp [zipD]
  | a :: r, b :: s => by simp [zipD, zipD_map c d r s, c2]
theorem I_zip {f : α → β → List ι} (ho : ∀ a b, zip2 (ca a) (cb b) = some ((f a b).map ci)) (ha : X true Ps fa ea ca) (hb : X true Ps fb eb cb) : IJ Ps (iZip fa fb) (ea.bind fun a => eb.bind fun b => .ok (f a b)) ci := fun ρ h => by
  have : Sm ((aConsE fa (aConsE fb aNil)) ρ) (ea.bind fun a => eb.bind fun b => .ok (a, b)) (fun a b => b.1 = [RV.leaf (ca a.1), RV.leaf (cb a.2)] ∧ ER Ps b.2) (ER Ps) := by
    have z := AE_cons ha (AE_cons hb AE_nil) ρ h
    cases ea with
    | ok a => cases eb with
      | ok b => exact z
      | exc c => exact z
      | bad => trivial
    | exc c => exact z
    | bad => trivial
  have q := Sm.bind (k := fun p : α × β => Out.ok (f p.1 p.2)) (K' := fun a b => b.1 = a.map ci ∧ ER Ps b.2) (E' := ER Ps) (h := fun (rs, ρ1) => match rs with
    | [.leaf d, .leaf e] => (Res.of (zip2 d e)).bind fun ds => .ok (ds, ρ1)
    | _ => .bad) this (fun ⟨a, b⟩ ⟨rs, ρ1⟩ ⟨h1, q1⟩ => by
      have h1 : rs = _ := h1
      subst h1
      show Sm ((Res.of (zip2 (ca a) (cb b))).bind fun ds => .ok (ds, ρ1)) _ _ _
      rw [ho]
      exact Sm.okI ⟨rfl, q1⟩) fun _ h => h
  cases ea with
  | ok a => cases eb with
    | ok b => exact q
    | exc c => exact q
    | bad => trivial
  | exc c => exact q
  | bad => trivial
theorem zip_LL (xs : List α) (ys : List β) : zip2 (cL ca xs) (cL cb ys) = some ((xs.zip ys).map (c2 ca cb)) := by simp [zip2, cL, zipD_map]
theorem zip_UU (xs : List α) (ys : List β) : zip2 (cU ca xs) (cU cb ys) = some ((xs.zip ys).map (c2 ca cb)) := by simp [zip2, cU, zipD_map]

/-! ### targets -/
/-- what a target makes of the slots -/
def GJ (Ps : List Sl) (g : D → Env' → Option Env') (d : D) (Qs : List Sl) : Prop := ∀ ρ, ER Ps ρ → ∃ ρ', g d ρ = some ρ' ∧ ER Qs ρ'
theorem G_n (i : Nat) {p : Sl} {d : D} (h : Ps[i]? = some p) : GJ Ps (gN i) d (Ps.set i (.vw d)) := fun ρ e => by
  refine ⟨ρ.set i (some (.sh d)), ?_, e.set i ⟨_, rfl, rfl⟩⟩
  unfold gN
  rw [if_pos (e.lt h)]
def GsJ (Ps : List Sl) (g : List D → Env' → Option Env') (ds : List D) (Qs : List Sl) : Prop := ∀ ρ, ER Ps ρ → ∃ ρ', g ds ρ = some ρ' ∧ ER Qs ρ'
theorem Gs_nil : GsJ Ps gsNil [] Ps := fun ρ e => ⟨ρ, rfl, e⟩
theorem Gs_cons {g : D → Env' → Option Env'} {gs : List D → Env' → Option Env'} {d : D} {ds : List D} {Rs : List Sl} (h : GJ Ps g d Qs) (k : GsJ Qs gs ds Rs) : GsJ Ps (gsCons g gs) (d :: ds) Rs := fun ρ e => by
  obtain ⟨ρ1, e1, e2⟩ := h ρ e
  obtain ⟨ρ2, e3, e4⟩ := k ρ1 e2
  exact ⟨ρ2, by show (g d ρ).bind (gs ds) = _; rw [e1]; exact e3, e4⟩
theorem G_t {gs : List D → Env' → Option Env'} {ds : List D} {n : Nat} {d : D} (hd : d = .tup ds) (hn : ds.length = n) (h : GsJ Ps gs ds Qs) : GJ Ps (gT gs n) d Qs := fun ρ e => by
  obtain ⟨ρ', e1, e2⟩ := h ρ e
  exact ⟨ρ', by subst hd; show (if ds.length = n then gs ds ρ else none) = _; rw [if_pos hn]; exact e1, e2⟩
theorem G_le {g : D → Env' → Option Env'} {d : D} {Rs : List Sl} (h : GJ Ps g d Qs) (l : LeS Qs Rs) : GJ Ps g d Rs := fun ρ e => by
  obtain ⟨ρ', e1, e2⟩ := h ρ e
  exact ⟨ρ', e1, l.er e2⟩

/-! ### comprehensions -/
def lcM {ι α : Type} (t : ι → Out Bool) (e : ι → Out α) : List ι → Out (List α)
  | [] => .ok []
  | x :: xs => (t x).nx.bind fun b => if b = true then (e x).nx.bind fun a => (lcM t e xs).bind fun r => .ok (a :: r) else lcM t e xs
def lcR {ι α : Type} (t : ι → Out Bool) (e : ι → Out α) (xs : List ι) : Out (List α) := if xs.length ≤ 16777216 then lcM t e xs else .bad
/-- a comprehension whose parts tell values alone -/
def lcP {ι α : Type} (xs : List ι) (t : ι → Bool) (e : ι → α) : Out (List α) := if xs.length ≤ 16777216 then .ok ((xs.filter t).map e) else .bad
def lcA {ι α : Type} (xs : List ι) (e : ι → α) : Out (List α) := if xs.length ≤ 16777216 then .ok (xs.map e) else .bad
theorem lcM_pure (t : ι → Bool) (e : ι → α) : ∀ xs : List ι, lcM (fun x => .ok (t x)) (fun x => .ok (e x)) xs = .ok ((xs.filter t).map e)
  | [] => rfl
  | x :: xs => by
    show (if t x = true then _ else _) = _
    rw [lcM_pure t e xs]
    cases h : t x <;> simp [h]
theorem lcR_pure (t : ι → Bool) (e : ι → α) (xs : List ι) : lcP xs t e = lcR (fun x => .ok (t x)) (fun x => .ok (e x)) xs := by unfold lcP lcR; rw [lcM_pure]
theorem lcR_all (e : ι → α) (xs : List ι) : lcA xs e = lcR (fun _ => .ok true) (fun x => .ok (e x)) xs := by unfold lcA lcR; rw [lcM_pure (fun _ => true), List.filter_eq_self.mpr fun _ _ => rfl]
theorem Sm.nxE {x : Res β} {e : Out α} {K : α → β → Prop} {E E' : Env' → Prop} (h : Sm x e K E) : Sm x.nx e.nx K E' := by
  cases e with
  | ok a => obtain ⟨b, e1, e2⟩ := h; rw [e1]; exact ⟨b, rfl, e2⟩
  | exc c => trivial
  | bad => trivial
theorem lc_go {gt : D → Env' → Option Env'} {tt : Env' → Res (Bool × Env')} {ne : Env' → Res (T × Env')} {vs : List Nat} {Pw : List Sl} {Qs : ι → List Sl} {t : ι → Out Bool} {e : ι → Out α} {tn : α → T}
    (hg : ∀ x, GJ Pw gt (ci x) (Qs x)) (ht : ∀ x, TJ (Qs x) tt (t x)) (he : ∀ x, NJ (Qs x) ne (e x) tn) (hw : ∀ x ρ, ER (Qs x) ρ → ER Pw (wipeE ρ vs)) : ∀ (xs : List ι) (ρ : Env'), ER Pw ρ →
    Sm (lcGo gt tt ne vs (xs.map ci) ρ) (lcM t e xs) (fun a b => b.1 = a.map tn ∧ ER Pw b.2) (fun _ => False)
  | [], ρ, h => Sm.okI ⟨rfl, h⟩
  | x :: xs, ρ, h => by
    obtain ⟨ρ1, e1, e2⟩ := hg x ρ h
    have q : lcGo gt tt ne vs ((x :: xs).map ci) ρ = (tt ρ1).nx.bind fun (b, ρ2) => if b = true then (ne ρ2).nx.bind fun (t, ρ3) => (lcGo gt tt ne vs (xs.map ci) (wipeE ρ3 vs)).bind fun (ts, ρ4) => .ok (t :: ts, ρ4) else lcGo gt tt ne vs (xs.map ci) (wipeE ρ2 vs) := by
      rw [List.map_cons, lcGo, e1]; rfl
    rw [q]
    unfold lcM
    refine Sm.bind (Sm.nxE (E' := fun _ => False) (ht x ρ1 e2)) (fun b ⟨b', ρ2⟩ ⟨h1, h2⟩ => ?_) fun _ h => h
    have h1 : b' = b := h1
    subst h1
    show Sm (if b' = true then _ else _) (if b' = true then _ else _) _ _
    cases b' with
    | false => exact lc_go hg ht he hw xs _ (hw x _ h2)
    | true =>
      refine Sm.bind (Sm.nxE (E' := fun _ => False) (he x ρ2 h2)) (fun a ⟨t', ρ3⟩ ⟨h3, h4⟩ => ?_) fun _ h => h
      refine Sm.bind (lc_go hg ht he hw xs _ (hw x _ h4)) (fun r ⟨ts, ρ4⟩ ⟨h5, h6⟩ => ?_) fun _ h => h
      have h3 : t' = _ := h3
      have h5 : ts = _ := h5
      subst h3; subst h5
      exact Sm.okI ⟨rfl, h6⟩
/-- slots that a comprehension's names take -/
def Free (Ps : List Sl) : List Nat → Prop
  | [] => True
  | v :: vs => Ps[v]? = some .any ∧ Free Ps vs
theorem wipe_er : ∀ {vs : List Nat} {Ps : List Sl} {ρ : Env'}, Free Ps vs → ER Ps ρ → ER Ps (wipeE ρ vs)
  | [], _, _, _, h => h
  | v :: vs, Ps, ρ, f, h => (wipe_er f.2 h).setSame f.1 trivial
theorem back_er : ∀ {vs : List Nat} {Ps : List Sl} {ρ0 ρ : Env'}, Free Ps vs → ER Ps ρ → ER Ps (backE ρ0 ρ vs)
  | [], _, _, _, _, h => h
  | v :: vs, Ps, ρ0, ρ, f, h => by
    have := back_er (ρ0 := ρ0) f.2 h
    show ER Ps (back1 ρ0 (backE ρ0 ρ vs) v)
    unfold back1
    split <;> exact this.setSame f.1 trivial
theorem N_lc {fi : Env' → Res (List D × Env')} {gt : D → Env' → Option Env'} {tt : Env' → Res (Bool × Env')} {ne : Env' → Res (T × Env')} {vs : List Nat} {Qs : ι → List Sl} {xs : Out (List ι)} {t : ι → Out Bool} {e : ι → Out α} {tn : α → T}
    (hf : Free Ps vs) (hi : IJ Ps fi xs ci) (hg : ∀ x, GJ Ps gt (ci x) (Qs x)) (hl : ∀ x, LeS (Qs x) Ps) (ht : ∀ x, TJ (Qs x) tt (t x)) (he : ∀ x, NJ (Qs x) ne (e x) tn) :
    NJ Ps (nLc fi gt tt ne vs) (xs.bind fun xs => lcR t e xs) (fun a => .lst (a.map tn)) := fun ρ h =>
  Sm.bind (hi ρ h) (fun xs ⟨ds, ρ1⟩ ⟨h1, h2⟩ => by
    have h1 : ds = _ := h1
    subst h1
    have h2 : ER Ps ρ1 := h2
    show Sm (if (xs.map ci).length ≤ sizeLine then (lcGo gt tt ne vs (xs.map ci) (wipeE ρ1 vs)).bind fun (ts, ρ2) => .ok (T.lst ts, backE ρ1 ρ2 vs) else .bad) (lcR t e xs) _ _
    unfold lcR
    by_cases hs : xs.length ≤ 16777216
    · rw [if_pos (size_le (by rw [List.length_map]; exact hs)), if_pos hs]
      have q := lc_go hg ht he (fun x ρ h => wipe_er hf ((hl x).er h)) xs _ (wipe_er hf h2)
      cases e' : lcM t e xs with
      | ok a =>
        rw [e'] at q
        obtain ⟨⟨ts, ρ2⟩, e1, e2, e3⟩ := q
        have e2 : ts = _ := e2
        subst e2
        rw [e1]
        exact Sm.okI ⟨rfl, back_er hf e3⟩
      | exc c => rw [e'] at q; obtain ⟨ρ', _, f⟩ := q; exact f.elim
      | bad => trivial
    · rw [if_neg hs]; trivial) fun _ h => h
theorem N_lcR {fi : Env' → Res (List D × Env')} {gt : D → Env' → Option Env'} {tt : Env' → Res (Bool × Env')} {ne : Env' → Res (T × Env')} {vs : List Nat} {Qs : ι → List Sl} {xs : Out (List ι)} {t : ι → Out Bool} {e : ι → Out α}
    (hf : Free Ps vs) (hi : IJ Ps fi xs ci) (hg : ∀ x, GJ Ps gt (ci x) (Qs x)) (hl : ∀ x, LeS (Qs x) Ps) (ht : ∀ x, TJ (Qs x) tt (t x)) (he : ∀ x, NJ (Qs x) ne (e x) (oS ca)) :
    NJ Ps (nLc fi gt tt ne vs) (xs.bind fun xs => lcR t e xs) (oL ca) := N_lc hf hi hg hl ht he
theorem N_lcP {fi : Env' → Res (List D × Env')} {gt : D → Env' → Option Env'} {tt : Env' → Res (Bool × Env')} {ne : Env' → Res (T × Env')} {vs : List Nat} {Qs : ι → List Sl} {xs : Out (List ι)} {t : ι → Bool} {e : ι → α}
    (hf : Free Ps vs) (hi : IJ Ps fi xs ci) (hg : ∀ x, GJ Ps gt (ci x) (Qs x)) (hl : ∀ x, LeS (Qs x) Ps) (ht : ∀ x, TJ (Qs x) tt (.ok (t x))) (he : ∀ x, NJ (Qs x) ne (.ok (e x)) (oS ca)) :
    NJ Ps (nLc fi gt tt ne vs) (xs.bind fun xs => lcP xs t e) (oL ca) := NJ_eq (N_lc hf hi hg hl ht he) (by congr; funext xs; exact lcR_pure t e xs)
theorem N_lcA {fi : Env' → Res (List D × Env')} {gt : D → Env' → Option Env'} {ne : Env' → Res (T × Env')} {vs : List Nat} {Qs : ι → List Sl} {xs : Out (List ι)} {e : ι → α}
    (hf : Free Ps vs) (hi : IJ Ps fi xs ci) (hg : ∀ x, GJ Ps gt (ci x) (Qs x)) (hl : ∀ x, LeS (Qs x) Ps) (he : ∀ x, NJ (Qs x) ne (.ok (e x)) (oS ca)) :
    NJ Ps (nLc fi gt ttYes ne vs) (xs.bind fun xs => lcA xs e) (oL ca) := NJ_eq (N_lc hf hi hg hl (fun _ => T_yes) he) (by congr; funext xs; exact lcR_all e xs)

/-! ### statements -/
variable {R R' : γ → Fl → Prop} {E E' : Env' → Prop} {p : Out γ} {f g : Env' → Res Fl}
def Rn (Qs : α → List Sl) : α → Fl → Prop := fun a fl => ∃ ρ', fl = .nx ρ' ∧ ER (Qs a) ρ'
def NoNx : Fl → Prop
  | .nx _ => False
  | _ => True
def Rx (R : γ → Fl → Prop) : γ → Fl → Prop := fun a fl => R a fl ∧ NoNx fl
theorem J_eq {p' : Out γ} (h : J Ps f p R E) (q : p' = p) : J Ps f p' R E := q ▸ h
theorem J_le (l : LeS Ps Qs) (h : J Qs f p R E) : J Ps f p R E := fun ρ e => h ρ (l.er e)
theorem J_imp (h : J Ps f p R E) (hR : ∀ a fl, R a fl → R' a fl) : J Ps f p R' E := fun ρ e => (h ρ e).imp hR fun _ h => h
theorem J_seq {e : Out α} {Qs : α → List Sl} {k : α → Out γ} (h : J Ps f e (Rn Qs) E) (hk : ∀ a, J (Qs a) g (k a) R E) : J Ps (sSeq f g) (e.bind k) R E := fun ρ h0 =>
  Sm.bind (h ρ h0) (fun a fl ⟨ρ', e1, e2⟩ => by subst e1; exact hk a ρ' e2) fun _ h => h
theorem J_last (h : J Ps (sSeq f sNil) p R E) : J Ps f p R E := fun ρ h0 => by
  have := h ρ h0
  unfold sSeq at this
  cases e : f ρ with
  | ok fl => rw [e] at this; cases fl <;> exact this
  | exc c ρ' => rw [e] at this; exact this
  | bad => rw [e] at this; exact this
theorem J_nil {a : γ} (h : ∀ ρ, ER Ps ρ → R a (.nx ρ)) : J Ps sNil (.ok a) R E := fun ρ h0 => Sm.okI (h ρ h0)
theorem J_nilN {a : α} {Qs : α → List Sl} (l : LeS Ps (Qs a)) : J Ps sNil (.ok a) (Rn Qs) E := fun ρ h0 => Sm.okI ⟨ρ, rfl, l.er h0⟩
/-- x = e -/
theorem J_set {i : Nat} {na : Env' → Res (T × Env')} {t : α → T} {p0 : Sl} (hE : ∀ ρ, ER Ps ρ → E ρ) (hi : Ps[i]? = some p0) (h : NJ Ps na ea t) (w : α → Sl) (hw : ∀ a, (w a).ok (some (t a))) : J Ps (sSet i na) ea (Rn fun a => Ps.set i (w a)) E := fun ρ h0 => by
  have : Sm ((na ρ).bind fun (t, ρ1) => if i < ρ1.length then .ok (Fl.nx (ρ1.set i (some t))) else .bad) (ea.bind .ok) (Rn fun a => Ps.set i (w a)) E :=
    Sm.bind (h ρ h0) (fun a ⟨t', ρ1⟩ ⟨h1, h2⟩ => by
      have h1 : t' = _ := h1
      have h2 : ER Ps ρ1 := h2
      subst h1
      show Sm (if i < ρ1.length then .ok (Fl.nx (ρ1.set i (some (t a)))) else .bad) _ _ _
      rw [if_pos (h2.lt hi)]
      exact Sm.okI ⟨_, rfl, h2.set i (hw a)⟩) hE
  cases ea <;> exact this
theorem J_setV {i : Nat} {na : Env' → Res (T × Env')} {t : α → T} {p0 : Sl} (hE : ∀ ρ, ER Ps ρ → E ρ) (hi : Ps[i]? = some p0) (h : NJ Ps na ea t) (ht : ∀ a, (t a).top = some (ca a)) : J Ps (sSet i na) ea (Rn fun a => Ps.set i (.vw (ca a))) E :=
  J_set hE hi h (fun a => .vw (ca a)) fun a => ⟨_, rfl, ht a⟩
theorem J_setS {i : Nat} {na : Env' → Res (T × Env')} {p0 : Sl} (hE : ∀ ρ, ER Ps ρ → E ρ) (hi : Ps[i]? = some p0) (h : NJ Ps na ea (oS ca)) : J Ps (sSet i na) ea (Rn fun a => Ps.set i (.vw (ca a))) E := J_setV hE hi h fun _ => rfl
theorem J_setLV {i : Nat} {na : Env' → Res (T × Env')} {ea : Out (List α)} {p0 : Sl} (hE : ∀ ρ, ER Ps ρ → E ρ) (hi : Ps[i]? = some p0) (h : NJ Ps na ea (oL ca)) : J Ps (sSet i na) ea (Rn fun a => Ps.set i (.vw (cL ca a))) E := J_setV hE hi h fun a => oL_top ca a
theorem J_setLO {i : Nat} {na : Env' → Res (T × Env')} {ea : Out (List α)} {p0 : Sl} (hE : ∀ ρ, ER Ps ρ → E ρ) (hi : Ps[i]? = some p0) (h : NJ Ps na ea (oL ca)) : J Ps (sSet i na) ea (Rn fun a => Ps.set i (.own (oL ca a))) E := J_set hE hi h (fun a => .own (oL ca a)) fun a => rfl
theorem J_expr (hE : ∀ ρ, ER Ps ρ → E ρ) (h : X m Ps fa ea ca) : J Ps (sExpr fa) ea (Rn fun _ => Ps) E := fun ρ h0 => by
  have : Sm ((fa ρ).bind fun (_, ρ1) => .ok (Fl.nx ρ1)) (ea.bind .ok) (Rn fun _ => Ps) E := Sm.bind (h ρ h0) (fun a ⟨r, ρ1⟩ ⟨h1, h2⟩ => Sm.okI ⟨ρ1, rfl, h1⟩) hE
  cases ea <;> exact this
theorem J_ret {na : Env' → Res (T × Env')} {t : α → T} {k : α → γ} (hE : ∀ ρ, ER Ps ρ → E ρ) (h : NJ Ps na ea t) (hR : ∀ a ρ', R (k a) (.rt (t a) ρ')) : J Ps (sRet na) (ea.bind fun a => .ok (k a)) R E := fun ρ h0 =>
  Sm.bind (h ρ h0) (fun a ⟨t', ρ1⟩ ⟨h1, h2⟩ => by
    have h1 : t' = _ := h1
    subst h1
    exact Sm.okI (hR a ρ1)) hE
theorem J_retN {k : γ} (hR : ∀ ρ', R k (.rt (.sh .non) ρ')) : J Ps sRetN (.ok k) R E := fun ρ h0 => Sm.okI (hR ρ)
theorem J_retOwn {i : Nat} {t : T} {k : γ} (hi : Ps[i]? = some (.own t)) (hR : ∀ ρ', R k (.rt t ρ')) : J Ps (sRetOwn i) (.ok k) R E := fun ρ h0 => by
  obtain ⟨o, h1, h2⟩ := h0.get hi
  cases h2
  unfold sRetOwn
  rw [h1]
  exact Sm.okI (hR _)
theorem J_raise {c : Str} (hE : ∀ ρ, ER Ps ρ → E ρ) : J Ps (sRaise c) (.exc c) R E := fun ρ h0 => ⟨ρ, rfl, hE ρ h0⟩
theorem J_bk {k : γ} (hR : ∀ ρ, ER Ps ρ → R k (.bk ρ)) : J Ps sBk (.ok k) R E := fun ρ h0 => Sm.okI (hR ρ h0)
theorem J_ct {k : γ} (hR : ∀ ρ, ER Ps ρ → R k (.ct ρ)) : J Ps sCt (.ok k) R E := fun ρ h0 => Sm.okI (hR ρ h0)
theorem J_if {ta : Env' → Res (Bool × Env')} {et : Out Bool} {pA pB : Out γ} (hE : ∀ ρ, ER Ps ρ → E ρ) (ht : TJ Ps ta et) (ha : J Ps f pA R E) (hb : J Ps g pB R E) : J Ps (sIf ta f g) (et.bind fun b => if b = true then pA else pB) R E := fun ρ h0 =>
  Sm.bind (ht ρ h0) (fun a ⟨b, ρ1⟩ ⟨h1, h2⟩ => by
    have h1 : b = a := h1
    subst h1
    show Sm (if b = true then f ρ1 else g ρ1) _ _ _
    cases b with
    | true => exact ha ρ1 h2
    | false => exact hb ρ1 h2) hE
/-- if c: A (which goes out), then the rest -/
theorem J_guard {ta : Env' → Res (Bool × Env')} {et : Out Bool} {pA pB : Out γ} (hE : ∀ ρ, ER Ps ρ → E ρ) (ht : TJ Ps ta et) (ha : J Ps f pA (Rx R) E) (hb : J Ps g pB R E) : J Ps (sSeq (sIf ta f sNil) g) (et.bind fun b => if b = true then pA else pB) R E := fun ρ h0 => by
  have q := ht ρ h0
  cases et with
  | ok b =>
    obtain ⟨⟨b', ρ1⟩, e1, e2, e3⟩ := q
    have e2 : b' = b := e2
    subst e2
    show Sm ((Res.bind (Res.bind (ta ρ) _) _)) (if b' = true then pA else pB) R E
    rw [e1]
    cases b' with
    | true =>
      have qa := ha ρ1 e3
      show Sm ((f ρ1).bind _) pA R E
      cases pA with
      | ok a =>
        obtain ⟨fl, z1, z2, z3⟩ := qa
        rw [z1]
        cases fl with
        | nx _ => exact z3.elim
        | rt _ _ => exact ⟨_, rfl, z2⟩
        | bk _ => exact ⟨_, rfl, z2⟩
        | ct _ => exact ⟨_, rfl, z2⟩
      | exc c => obtain ⟨ρ', z1, z2⟩ := qa; rw [z1]; exact ⟨ρ', rfl, z2⟩
      | bad => trivial
    | false => exact hb ρ1 e3
  | exc c =>
    obtain ⟨ρ', e1, e2⟩ := q
    show Sm ((Res.bind (Res.bind (ta ρ) _) _)) (.exc c) R E
    rw [e1]
    exact ⟨ρ', rfl, hE _ e2⟩
  | bad => trivial
/-- the same with an else that goes on: if c: A (goes out) else: B, then the rest -/
theorem J_guardE {ta : Env' → Res (Bool × Env')} {et : Out Bool} {pA pB : Out γ} {h : Env' → Res Fl} (hE : ∀ ρ, ER Ps ρ → E ρ) (ht : TJ Ps ta et) (ha : J Ps f pA (Rx R) E) (hb : J Ps (sSeq h g) pB R E) : J Ps (sSeq (sIf ta f h) g) (et.bind fun b => if b = true then pA else pB) R E := fun ρ h0 => by
  have q := ht ρ h0
  cases et with
  | ok b =>
    obtain ⟨⟨b', ρ1⟩, e1, e2, e3⟩ := q
    have e2 : b' = b := e2
    subst e2
    show Sm ((Res.bind (Res.bind (ta ρ) _) _)) (if b' = true then pA else pB) R E
    rw [e1]
    cases b' with
    | true =>
      have qa := ha ρ1 e3
      show Sm ((f ρ1).bind _) pA R E
      cases pA with
      | ok a =>
        obtain ⟨fl, z1, z2, z3⟩ := qa
        rw [z1]
        cases fl with
        | nx _ => exact z3.elim
        | rt _ _ => exact ⟨_, rfl, z2⟩
        | bk _ => exact ⟨_, rfl, z2⟩
        | ct _ => exact ⟨_, rfl, z2⟩
      | exc c => obtain ⟨ρ', z1, z2⟩ := qa; rw [z1]; exact ⟨ρ', rfl, z2⟩
      | bad => trivial
    | false => exact hb ρ1 e3
  | exc c =>
    obtain ⟨ρ', e1, e2⟩ := q
    show Sm ((Res.bind (Res.bind (ta ρ) _) _)) (.exc c) R E
    rw [e1]
    exact ⟨ρ', rfl, hE _ e2⟩
  | bad => trivial
/-- a, b = e -/
theorem J_unp {gt : D → Env' → Option Env'} {Qs : α → List Sl} (hE : ∀ ρ, ER Ps ρ → E ρ) (h : X true Ps fa ea ca) (hg : ∀ a, GJ Ps gt (ca a) (Qs a)) : J Ps (sUnpack fa gt) ea (Rn Qs) E := fun ρ h0 => by
  have : Sm ((fa ρ).bind fun (r, ρ1) => (Res.of (esc ρ1 r)).bind fun (d, ρ2) => (Res.of (gt d ρ2)).bind fun ρ3 => .ok (Fl.nx ρ3)) (ea.bind .ok) (Rn Qs) E :=
    Sm.bind (h ρ h0) (fun a ⟨r, ρ1⟩ ⟨h1, q1⟩ => by
      obtain ⟨ρ', e1, e2⟩ := q1.2 rfl ρ1 h1
      obtain ⟨ρ'', e3, e4⟩ := hg a ρ' e2
      show Sm ((Res.of (esc ρ1 r)).bind fun (d, ρ2) => (Res.of (gt d ρ2)).bind fun ρ3 => .ok (Fl.nx ρ3)) _ _ _
      rw [e1]
      show Sm ((Res.of (gt (ca a) ρ')).bind fun ρ3 => .ok (Fl.nx ρ3)) _ _ _
      rw [e3]
      exact Sm.okI ⟨_, rfl, e4⟩) hE
  cases ea <;> exact this
theorem J_par {i j : Nat} {p0 p1 : Sl} (hE : ∀ ρ, ER Ps ρ → E ρ) (hi : Ps[i]? = some p0) (hj : Ps[j]? = some p1) (ha : X true Ps fa ea ca) (hb : X true Ps fb eb cb) :
    J Ps (sPar i j (aConsE fa (aConsE fb aNil))) (ea.bind fun a => eb.bind fun b => .ok (a, b)) (Rn fun g => (Ps.set i (.vw (ca g.1))).set j (.vw (cb g.2))) E := fun ρ h0 => by
  have : Sm ((aConsE fa (aConsE fb aNil)) ρ) (ea.bind fun a => eb.bind fun b => .ok (a, b)) (fun a b => b.1 = [RV.leaf (ca a.1), RV.leaf (cb a.2)] ∧ ER Ps b.2) (ER Ps) := by
    have z := AE_cons ha (AE_cons hb AE_nil) ρ h0
    cases ea with
    | ok a => cases eb with
      | ok b => exact z
      | exc c => exact z
      | bad => trivial
    | exc c => exact z
    | bad => trivial
  have q := Sm.bind (k := fun p : α × β => Out.ok p) (K' := Rn fun g : α × β => (Ps.set i (.vw (ca g.1))).set j (.vw (cb g.2))) (E' := E) (h := fun (rs, ρ1) => match rs with
    | [.leaf d, .leaf e] => if i < ρ1.length ∧ j < ρ1.length then .ok (.nx ((ρ1.set i (some (.sh d))).set j (some (.sh e)))) else .bad
    | _ => .bad) this (fun ⟨a, b⟩ ⟨rs, ρ1⟩ ⟨h1, q1⟩ => by
      have h1 : rs = [RV.leaf (ca a), RV.leaf (cb b)] := h1
      have q1 : ER Ps ρ1 := q1
      subst h1
      show Sm (if i < ρ1.length ∧ j < ρ1.length then .ok (Fl.nx ((ρ1.set i (some (.sh (ca a)))).set j (some (.sh (cb b))))) else .bad) _ _ _
      rw [if_pos ⟨q1.lt hi, q1.lt hj⟩]
      exact Sm.okI ⟨_, rfl, (q1.set (p := .vw (ca a)) i ⟨_, rfl, rfl⟩).set (p := .vw (cb b)) j ⟨_, rfl, rfl⟩⟩) hE
  cases ea with
  | ok a => cases eb with
    | ok b => exact q
    | exc c => exact q
    | bad => trivial
  | exc c => exact q
  | bad => trivial
/-- x op= e -/
theorem J_aug {i : Nat} {g : D → D → Option D} {f : α → β → Out δ} {a : α} (hE : ∀ ρ, ER Ps ρ → E ρ) (hi : Ps[i]? = some (.vw (ca a))) (hl : ∀ t : T, t.top = some (ca a) → t = .sh (ca a)) (ho : OpT g ca cb cr f) (hb : X m Ps fb eb cb) :
    J Ps (sAug i g fb) (eb.bind fun b => f a b) (Rn fun r => Ps.set i (.vw (cr r))) E := fun ρ h0 => by
  obtain ⟨o, h1, t, h2, h3⟩ := h0.get hi
  subst h2
  rw [hl t h3] at h1
  unfold sAug
  rw [h1]
  exact Sm.bind (hb ρ h0) (fun b ⟨r, ρ1⟩ ⟨h1, q1⟩ => by
    have h1 : ER Ps ρ1 := h1
    have o := ho a b
    simp only [RO, ROL, ROB] at o
    show Sm ((Res.of (look ρ1 r)).bind fun d2 => (Res.of (g (ca a) d2)).bind fun d => if i < ρ1.length then .ok (Fl.nx (ρ1.set i (some (.sh d)))) else .bad) _ _ _
    rw [q1.1 _ h1]
    cases e : f a b with
    | ok r =>
      rw [e] at o; simp only [of_some, bind_ok, o]
      rw [if_pos (h1.lt hi)]
      exact Sm.okI ⟨_, rfl, h1.set i ⟨_, rfl, rfl⟩⟩
    | exc c => rw [e] at o; exact o.elim
    | bad => trivial) hE
/-! owned lists -/
def appR {α : Type} (xs : List α) (a : α) : Out (List α) := if xs.length < 16777216 then .ok (xs ++ [a]) else .bad
def extR {α : Type} (xs ys : List α) : Out (List α) := if xs.length + ys.length ≤ 16777216 then .ok (xs ++ ys) else .bad
def setR {α : Type} (xs : List α) (k : Int) (a : α) : Out (List α) := match ixN xs.length k with
  | some j => .ok (xs.set j a)
  | none => .bad
def popR {α : Type} (xs : List α) : Out (α × List α) := match xs.getLast? with
  | some a => .ok (a, xs.dropLast)
  | none => .bad
theorem J_app {i : Nat} {na : Env' → Res (T × Env')} {xs : List α} (hE : ∀ ρ, ER Ps ρ → E ρ) (hi : Ps[i]? = some (.own (oL ca xs))) (h : NJ Ps na ea (oS ca)) : J Ps (sAppend i na) (ea.bind fun a => appR xs a) (Rn fun r => Ps.set i (.own (oL ca r))) E := fun ρ h0 => by
  obtain ⟨o, h1, h2⟩ := h0.get hi
  cases h2
  unfold sAppend
  rw [h1]
  refine Sm.bind (h ρ h0) (fun a ⟨t', ρ1⟩ ⟨h1, h2⟩ => ?_) hE
  have h1 : t' = _ := h1
  have h2 : ER Ps ρ1 := h2
  subst h1
  obtain ⟨o, h3, h4⟩ := h2.get hi
  cases h4
  show Sm (match ρ1[i]? with
    | some (some (.lst ts)) => if ts.length < sizeLine then .ok (Fl.nx (ρ1.set i (some (.lst (ts ++ [oS ca a]))))) else .bad
    | _ => .bad) _ _ _
  rw [h3]
  unfold appR
  show Sm (if (xs.map fun a => T.sh (ca a)).length < sizeLine then _ else _) _ _ _
  by_cases hs : xs.length < 16777216
  · rw [if_pos (size_lt (by rw [List.length_map]; exact hs)), if_pos hs]
    refine Sm.okI ⟨_, rfl, h2.set i ?_⟩
    show _ = some (oL ca (xs ++ [a]))
    simp [oL, oS]
  · rw [if_neg hs]; trivial
theorem J_ext {i : Nat} {xs : List α} {ey : Out (List α)} (hE : ∀ ρ, ER Ps ρ → E ρ) (hi : Ps[i]? = some (.own (oL ca xs))) (h : X m Ps fb ey (cL ca)) : J Ps (sExtend i fb) (ey.bind fun ys => extR xs ys) (Rn fun r => Ps.set i (.own (oL ca r))) E := fun ρ h0 => by
  obtain ⟨o, h1, h2⟩ := h0.get hi
  cases h2
  unfold sExtend
  rw [h1]
  refine Sm.bind (h ρ h0) (fun ys ⟨r, ρ1⟩ ⟨h1, q1⟩ => ?_) hE
  have h2 : ER Ps ρ1 := h1
  obtain ⟨o, h3, h4⟩ := h2.get hi
  cases h4
  show Sm (match look ρ1 r with
    | some (.lst ds) => match ρ1[i]? with
      | some (some (.lst ts)) => if ts.length + ds.length ≤ sizeLine then .ok (Fl.nx (ρ1.set i (some (.lst (ts ++ ds.map T.sh))))) else .bad
      | _ => .bad
    | _ => .bad) _ _ _
  rw [q1.1 _ h2, h3]
  unfold extR
  show Sm (if (xs.map fun a => T.sh (ca a)).length + (ys.map ca).length ≤ sizeLine then _ else _) _ _ _
  by_cases hs : xs.length + ys.length ≤ 16777216
  · rw [if_pos (size_le (by rw [List.length_map, List.length_map]; exact hs)), if_pos hs]
    refine Sm.okI ⟨_, rfl, h2.set i ?_⟩
    show _ = some (oL ca (xs ++ ys))
    simp [oL, Function.comp_def]
  · rw [if_neg hs]; trivial
/-- x = xs.pop() -/
theorem J_pop {i j : Nat} {p0 : Sl} {xs : List α} (hE : ∀ ρ, ER Ps ρ → E ρ) (hi : Ps[i]? = some (.own (oL ca xs))) (hj : Ps[j]? = some p0) : J Ps (sSet j (nOf (ePop i))) (popR xs) (Rn fun r => (Ps.set i (.own (oL ca r.2))).set j (.vw (ca r.1))) E := fun ρ h0 => by
  obtain ⟨o, h1, h2⟩ := h0.get hi
  cases h2
  unfold popR
  cases e : xs.getLast? with
  | none => trivial
  | some a =>
    have hl : (xs.map fun a => T.sh (ca a))[(xs.map fun a => T.sh (ca a)).length - 1]? = some (.sh (ca a)) := by
      rw [← List.getLast?_eq_getElem?, List.getLast?_map, e]; rfl
    have : ePop i ρ = .ok (.leaf (ca a), ρ.set i (some (.lst (xs.map fun a => T.sh (ca a)).dropLast))) := by
      unfold ePop
      rw [h1]
      show (match (xs.map fun a => T.sh (ca a))[(xs.map fun a => T.sh (ca a)).length - 1]? with
        | some (.sh d) => Res.ok (RV.leaf d, ρ.set i (some (.lst (xs.map fun a => T.sh (ca a)).dropLast)))
        | _ => .bad) = _
      rw [hl]
    refine ⟨.nx ((ρ.set i (some (.lst (xs.map fun a => T.sh (ca a)).dropLast))).set j (some (.sh (ca a)))), ?_, _, rfl, ?_⟩
    · unfold sSet nOf
      rw [this]
      show (if j < (ρ.set i _).length then _ else _) = _
      rw [if_pos (by rw [List.length_set]; exact h0.lt hj)]
    · refine (h0.set i ?_).set j ⟨_, rfl, rfl⟩
      show _ = some (oL ca xs.dropLast)
      simp [oL, List.map_dropLast]
theorem J_setIx {i : Nat} {na : Env' → Res (T × Env')} {xs : List α} {ek : Out Int} (hE : ∀ ρ, ER Ps ρ → E ρ) (hi : Ps[i]? = some (.own (oL ca xs))) (h : NJ Ps na ea (oS ca)) (hk : X m Ps fb ek cI) :
    J Ps (sSetIx i na fb) (ea.bind fun a => ek.bind fun k => setR xs k a) (Rn fun r => Ps.set i (.own (oL ca r))) E := fun ρ h0 => by
  unfold sSetIx
  refine Sm.bind (h ρ h0) (fun a ⟨t', ρ1⟩ ⟨h1, h2⟩ => ?_) hE
  have h1 : t' = _ := h1
  have h2 : ER Ps ρ1 := h2
  subst h1
  obtain ⟨o, h3, h4⟩ := h2.get hi
  cases h4
  show Sm (match oS ca a, ρ1[i]? with
    | .sh d, some (some _) => (fb ρ1).bind fun (r, ρ2) => match look ρ2 r, ρ2[i]? with
      | some (.int k), some (some (.lst ts)) => match ixN ts.length k with
        | some j => match ts[j]? with
          | some (.sh _) => .ok (Fl.nx (ρ2.set i (some (.lst (ts.set j (.sh d))))))
          | _ => .bad
        | none => .bad
      | _, _ => .bad
    | _, _ => .bad) _ _ _
  rw [h3]
  refine Sm.bind (hk ρ1 h2) (fun k ⟨r, ρ2⟩ ⟨h5, q5⟩ => ?_) hE
  have h5 : ER Ps ρ2 := h5
  obtain ⟨o, h6, h7⟩ := h5.get hi
  cases h7
  show Sm (match look ρ2 r, ρ2[i]? with
      | some (.int k), some (some (.lst ts)) => match ixN ts.length k with
        | some j => match ts[j]? with
          | some (.sh _) => .ok (Fl.nx (ρ2.set i (some (.lst (ts.set j (.sh (ca a)))))))
          | _ => .bad
        | none => .bad
      | _, _ => .bad) _ _ _
  rw [q5.1 _ h5, h6]
  show Sm (match ixN (xs.map fun a => T.sh (ca a)).length k with
        | some j => match (xs.map fun a => T.sh (ca a))[j]? with
          | some (.sh _) => .ok (Fl.nx (ρ2.set i (some (.lst ((xs.map fun a => T.sh (ca a)).set j (.sh (ca a)))))))
          | _ => .bad
        | none => .bad) (setR xs k a) _ _
  unfold setR
  rw [List.length_map]
  cases e : ixN xs.length k with
  | none => trivial
  | some j =>
    show Sm (match (xs.map fun a => T.sh (ca a))[j]? with
          | some (.sh _) => .ok (Fl.nx (ρ2.set i (some (.lst ((xs.map fun a => T.sh (ca a)).set j (.sh (ca a)))))))
          | _ => .bad) (.ok (xs.set j a)) _ _
    have hj : j < xs.length := by
      unfold ixN at e
      split at e
      · split at e
        · cases e; omega
        · cases e
      · split at e
        · cases e; omega
        · cases e
    rw [List.getElem?_map, List.getElem?_eq_getElem hj]
    refine Sm.okI ⟨_, rfl, h5.set i ?_⟩
    show _ = some (oL ca (xs.set j a))
    simp [oL, List.map_set]
end
end TL

namespace TL
open PySem PySem.Spec PyProof.Rows L2 FL
noncomputable section
inductive Lp (σ γ : Type) where
  | nx (s : σ) | bk (s : σ) | out (g : γ)
inductive Fj (σ γ : Type) where
  | nx (s : σ) | out (g : γ)
def jn {σ γ : Type} (e : Out (Fj σ γ)) (k : σ → Out γ) : Out γ := e.bind fun j => match j with
  | .nx s => k s
  | .out g => .ok g
def forF {ι σ γ : Type} (b : ι → σ → Out (Lp σ γ)) : List ι → σ → Out (Fj σ γ)
  | [], s => .ok (.nx s)
  | x :: xs, s => (b x s).bind fun r => match r with
    | .nx s' => forF b xs s'
    | .bk s' => .ok (.nx s')
    | .out g => .ok (.out g)
def forS {ι σ : Type} (b : ι → σ → Out σ) : List ι → σ → Out σ
  | [], s => .ok s
  | x :: xs, s => (b x s).bind fun s' => forS b xs s'
def whN {σ γ : Type} (c : σ → Out Bool) (b : σ → Out (Lp σ γ)) : Nat → σ → Out (Fj σ γ)
  | 0, _ => .bad
  | n + 1, s => (c s).bind fun t => if t = true then (b s).bind fun r => match r with
    | .nx s' => whN c b n s'
    | .bk s' => .ok (.nx s')
    | .out g => .ok (.out g)
    else .ok (.nx s)
open Classical in
def whF {σ γ : Type} (c : σ → Out Bool) (b : σ → Out (Lp σ γ)) (s : σ) : Out (Fj σ γ) := if h : ∃ n, whN c b n s ≠ .bad then whN c b h.choose s else .bad
theorem whN_mono {σ γ : Type} {c : σ → Out Bool} {b : σ → Out (Lp σ γ)} : ∀ (n : Nat) (s : σ), whN c b n s ≠ .bad → whN c b (n + 1) s = whN c b n s
  | 0, _, h => absurd rfl h
  | n + 1, s, h => by
    rw [whN] at h ⊢
    conv => rhs; rw [whN]
    cases e : c s with
    | ok t =>
      rw [e] at h
      simp only [Out.ok_bind] at h ⊢
      cases t with
      | false => rfl
      | true =>
        simp only [if_true] at h ⊢
        cases e2 : b s with
        | ok r =>
          rw [e2] at h
          simp only [Out.ok_bind] at h ⊢
          cases r with
          | nx s' => exact whN_mono n s' h
          | bk s' => rfl
          | out g => rfl
        | exc k => rfl
        | bad => rfl
    | exc k => rfl
    | bad => rfl
theorem whN_le {σ γ : Type} {c : σ → Out Bool} {b : σ → Out (Lp σ γ)} {s : σ} {n : Nat} (h : whN c b n s ≠ .bad) : ∀ k, whN c b (n + k) s = whN c b n s
  | 0 => rfl
  | k + 1 => by
    have ih := whN_le h k
    rw [← ih]
    exact whN_mono (n + k) s (by rw [ih]; exact h)
theorem whF_eq {σ γ : Type} {c : σ → Out Bool} {b : σ → Out (Lp σ γ)} {s : σ} {n : Nat} (h : whN c b n s ≠ .bad) : whF c b s = whN c b n s := by
  have hx : ∃ n, whN c b n s ≠ .bad := ⟨n, h⟩
  have h2 := hx.choose_spec
  unfold whF
  rw [dif_pos hx]
  rcases Nat.le_total hx.choose n with l | l
  · obtain ⟨k, e⟩ := Nat.le.dest l
    rw [← e]; exact (whN_le h2 k).symm
  · obtain ⟨k, e⟩ := Nat.le.dest l
    rw [← e]; exact whN_le h k
/-- one turn of a while -/
theorem whF_step {σ γ : Type} (c : σ → Out Bool) (b : σ → Out (Lp σ γ)) (s : σ) : whF c b s = (c s).bind fun t => if t = true then (b s).bind fun r => match r with
    | .nx s' => whF c b s'
    | .bk s' => .ok (.nx s')
    | .out g => .ok (.out g)
    else .ok (.nx s) := by
  have key : ∀ s, (∀ n, whN c b n s = .bad) → whF c b s = .bad := fun s h => by
    unfold whF
    rw [dif_neg]
    rintro ⟨n, hn⟩
    exact hn (h n)
  by_cases hx : ∃ n, whN c b n s ≠ .bad
  · obtain ⟨n, hn⟩ := hx
    rw [whF_eq hn]
    cases n with
    | zero => exact absurd rfl hn
    | succ n =>
      rw [whN] at hn ⊢
      cases e : c s with
      | ok t =>
        rw [e] at hn
        simp only [Out.ok_bind] at hn ⊢
        cases t with
        | false => rfl
        | true =>
          simp only [if_true] at hn ⊢
          cases e2 : b s with
          | ok r =>
            rw [e2] at hn
            simp only [Out.ok_bind] at hn ⊢
            cases r with
            | nx s' => exact (whF_eq hn).symm
            | bk s' => rfl
            | out g => rfl
          | exc k => rfl
          | bad => rfl
      | exc k => rfl
      | bad => rfl
  · have hb : ∀ n, whN c b n s = .bad := fun n => Classical.byContradiction fun z => hx ⟨n, z⟩
    rw [key s hb]
    have h1 : ∀ n, whN c b (n + 1) s = .bad := fun n => hb (n + 1)
    simp only [whN] at h1
    cases e : c s with
    | ok t =>
      simp only [e, Out.ok_bind] at h1 ⊢
      cases t with
      | false => have := h1 0; cases this
      | true =>
        simp only [if_true] at h1 ⊢
        cases e2 : b s with
        | ok r =>
          simp only [e2, Out.ok_bind] at h1 ⊢
          cases r with
          | nx s' => exact (key s' h1).symm
          | bk s' => have := h1 0; cases this
          | out g => have := h1 0; cases this
        | exc k => simp only [e2] at h1; have := h1 0; cases this
        | bad => rfl
    | exc k => simp only [e] at h1; have := h1 0; cases this
    | bad => rfl
/-- a try: rs the classes that the body may raise -/
def tryR {γ : Type} (rs : List Str) (h : Str → Out γ) (p : Out γ) : Out γ := match p with
  | .exc k => if k ∈ rs then h k else .bad
  | r => r
def goH {γ : Type} : List (List Str × Out γ) → Str → Out γ
  | [], c => .exc c
  | (cs, p) :: r, c => if c ∈ cs then p else goH r c
section
variable {α β γ δ σ ι : Type}
variable {m m' m'' : Bool} {Ps Qs : List Sl} {fa fb fc : Env' → Res (RV × Env')} {ca : α → D} {cb : β → D} {cc : γ → D} {cr : δ → D} {ci : ι → D} {ea : Out α} {eb : Out β} {ec : Out γ}
variable {R R' : γ → Fl → Prop} {E E' : Env' → Prop} {p : Out γ} {f g : Env' → Res Fl}
def RJ (Ls : σ → List Sl) (Ro : γ → Fl → Prop) : Fj σ γ → Fl → Prop
  | .nx s, fl => ∃ ρ', fl = .nx ρ' ∧ ER (Ls s) ρ'
  | .out g, fl => Ro g fl ∧ NoNx fl
def RB (Ls : σ → List Sl) (Ro : γ → Fl → Prop) : Lp σ γ → Fl → Prop
  | .nx s, fl => ∃ ρ', (fl = .nx ρ' ∨ fl = .ct ρ') ∧ ER (Ls s) ρ'
  | .bk s, fl => ∃ ρ', fl = .bk ρ' ∧ ER (Ls s) ρ'
  | .out g, fl => Ro g fl ∧ ∃ t ρ', fl = .rt t ρ'
def RC (Ls : σ → List Sl) : σ → Fl → Prop := fun s fl => ∃ ρ', (fl = .nx ρ' ∨ fl = .ct ρ') ∧ ER (Ls s) ρ'
theorem J_jn {e : Out (Fj σ γ)} {Qs : σ → List Sl} {k : σ → Out γ} (h : J Ps f e (RJ Qs R) E) (hk : ∀ s, J (Qs s) g (k s) R E) : J Ps (sSeq f g) (jn e k) R E := fun ρ h0 => by
  refine Sm.bind (h ρ h0) (fun j fl hj => ?_) fun _ h => h
  cases j with
  | nx s => obtain ⟨ρ', e1, e2⟩ := hj; subst e1; exact hk s ρ' e2
  | out a =>
    obtain ⟨h1, h2⟩ := hj
    cases fl with
    | nx _ => exact h2.elim
    | rt _ _ => exact Sm.okI h1
    | bk _ => exact Sm.okI h1
    | ct _ => exact Sm.okI h1
theorem J_for {fi : Env' → Res (List D × Env')} {gt : D → Env' → Option Env'} {xs : Out (List ι)} {s0 : σ} {b : ι → σ → Out (Lp σ γ)} (Ls : σ → List Sl) {Bs : ι → σ → List Sl} (hE : ∀ ρ, ER Ps ρ → E ρ) (hi : IJ Ps fi xs ci) (l : LeS Ps (Ls s0))
    (hg : ∀ x s, GJ (Ls s) gt (ci x) (Bs x s)) (hb : ∀ x s, J (Bs x s) f (b x s) (RB Ls R) E) : J Ps (sFor fi gt f) (xs.bind fun xs => forF b xs s0) (RJ Ls R) E := fun ρ h0 => by
  refine Sm.bind (hi ρ h0) (fun xs ⟨ds, ρ1⟩ ⟨h1, h2⟩ => ?_) hE
  have h1 : ds = _ := h1
  have h2 : ER Ps ρ1 := h2
  subst h1
  show Sm (forGo gt f (xs.map ci) ρ1) _ _ _
  have key : ∀ (xs : List ι) (s : σ) (ρ : Env'), ER (Ls s) ρ → Sm (forGo gt f (xs.map ci) ρ) (forF b xs s) (RJ Ls R) E := by
    intro xs
    induction xs with
    | nil => exact fun s ρ h => Sm.okI ⟨ρ, rfl, h⟩
    | cons x xs ih =>
      intro s ρ h
      obtain ⟨ρ', e1, e2⟩ := hg x s ρ h
      have q := hb x s ρ' e2
      rw [List.map_cons, forGo, e1]
      show Sm ((f ρ').bind fun r => match r with
        | .nx ρ' => forGo gt f (xs.map ci) ρ'
        | .ct ρ' => forGo gt f (xs.map ci) ρ'
        | .bk ρ' => .ok (.nx ρ')
        | .rt t ρ' => .ok (.rt t ρ')) _ _ _
      unfold forF
      refine Sm.bind q (fun r fl hr => ?_) fun _ h => h
      cases r with
      | nx s' =>
        obtain ⟨ρ'', e3, e4⟩ := hr
        rcases e3 with e3 | e3 <;> (subst e3; exact ih s' ρ'' e4)
      | bk s' => obtain ⟨ρ'', e3, e4⟩ := hr; subst e3; exact Sm.okI ⟨ρ'', rfl, e4⟩
      | out g => obtain ⟨h3, t, ρ'', e3⟩ := hr; subst e3; exact Sm.okI ⟨h3, trivial⟩
  exact key xs s0 ρ1 (l.er h2)
theorem J_forS {fi : Env' → Res (List D × Env')} {gt : D → Env' → Option Env'} {xs : Out (List ι)} {s0 : σ} {b : ι → σ → Out σ} (Ls : σ → List Sl) {Bs : ι → σ → List Sl} (hE : ∀ ρ, ER Ps ρ → E ρ) (hi : IJ Ps fi xs ci) (l : LeS Ps (Ls s0))
    (hg : ∀ x s, GJ (Ls s) gt (ci x) (Bs x s)) (hb : ∀ x s, J (Bs x s) f (b x s) (RC Ls) E) : J Ps (sFor fi gt f) (xs.bind fun xs => forS b xs s0) (Rn Ls) E := fun ρ h0 => by
  refine Sm.bind (hi ρ h0) (fun xs ⟨ds, ρ1⟩ ⟨h1, h2⟩ => ?_) hE
  have h1 : ds = _ := h1
  have h2 : ER Ps ρ1 := h2
  subst h1
  show Sm (forGo gt f (xs.map ci) ρ1) _ _ _
  have key : ∀ (xs : List ι) (s : σ) (ρ : Env'), ER (Ls s) ρ → Sm (forGo gt f (xs.map ci) ρ) (forS b xs s) (Rn Ls) E := by
    intro xs
    induction xs with
    | nil => exact fun s ρ h => Sm.okI ⟨ρ, rfl, h⟩
    | cons x xs ih =>
      intro s ρ h
      obtain ⟨ρ', e1, e2⟩ := hg x s ρ h
      have q := hb x s ρ' e2
      rw [List.map_cons, forGo, e1]
      show Sm ((f ρ').bind fun r => match r with
        | .nx ρ' => forGo gt f (xs.map ci) ρ'
        | .ct ρ' => forGo gt f (xs.map ci) ρ'
        | .bk ρ' => .ok (.nx ρ')
        | .rt t ρ' => .ok (.rt t ρ')) _ _ _
      unfold forS
      refine Sm.bind q (fun s' fl hr => ?_) fun _ h => h
      obtain ⟨ρ'', e3, e4⟩ := hr
      rcases e3 with e3 | e3 <;> (subst e3; exact ih s' ρ'' e4)
  exact key xs s0 ρ1 (l.er h2)
theorem J_while {ta : Env' → Res (Bool × Env')} {s0 : σ} {c : σ → Out Bool} {b : σ → Out (Lp σ γ)} (Ls : σ → List Sl) (hE : ∀ s ρ, ER (Ls s) ρ → E ρ) (l : LeS Ps (Ls s0)) (ht : ∀ s, TJ (Ls s) ta (c s)) (hb : ∀ s, J (Ls s) f (b s) (RB Ls R) E) :
    J Ps (sWhile ta f) (whF c b s0) (RJ Ls R) E := fun ρ h0 => by
  have key : ∀ (n : Nat) (s : σ) (ρ : Env'), ER (Ls s) ρ → Sm (whGo ta f n ρ) (whN c b n s) (RJ Ls R) E := by
    intro n
    induction n with
    | zero => exact fun _ _ _ => trivial
    | succ n ih =>
      intro s ρ h
      unfold whGo whN
      refine Sm.bind (ht s ρ h) (fun t ⟨t', ρ1⟩ ⟨h1, h2⟩ => ?_) (hE s)
      have h1 : t' = t := h1
      subst h1
      show Sm (if t' = true then _ else _) (if t' = true then _ else _) _ _
      cases t' with
      | false => exact Sm.okI ⟨ρ1, rfl, h2⟩
      | true =>
        refine Sm.bind (hb s ρ1 h2) (fun r fl hr => ?_) fun _ h => h
        cases r with
        | nx s' =>
          obtain ⟨ρ'', e3, e4⟩ := hr
          rcases e3 with e3 | e3 <;> (subst e3; exact ih s' ρ'' e4)
        | bk s' => obtain ⟨ρ'', e3, e4⟩ := hr; subst e3; exact Sm.okI ⟨ρ'', rfl, e4⟩
        | out g => obtain ⟨h3, t, ρ'', e3⟩ := hr; subst e3; exact Sm.okI ⟨h3, trivial⟩
  unfold whF
  split
  · rename_i hx
    have h2 := hx.choose_spec
    have q := key hx.choose s0 ρ (l.er h0)
    rw [sWhile_eq (n := hx.choose)]
    · exact q
    · intro z
      rw [z] at q
      cases e : whN c b hx.choose s0 with
      | ok a => rw [e] at q; obtain ⟨_, e1, _⟩ := q; cases e1
      | exc k => rw [e] at q; obtain ⟨_, e1, _⟩ := q; cases e1
      | bad => exact h2 e
  · trivial
inductive HJ (Ps : List Sl) (R : γ → Fl → Prop) (E : Env' → Prop) (rs : List Str) : List (List Str × (Env' → Res Fl)) → List (List Str × Out γ) → Prop
  | nil : HJ Ps R E rs [] []
  | cons {cs cs' : List Str} {g : Env' → Res Fl} {p : Out γ} {gs : List (List Str × (Env' → Res Fl))} {ps : List (List Str × Out γ)} (h : ∀ k ∈ rs, (k ∈ cs ↔ k ∈ cs')) (hg : J Ps g p R E) (r : HJ Ps R E rs gs ps) : HJ Ps R E rs ((cs, g) :: gs) ((cs', p) :: ps)
theorem HJ.go {rs : List Str} {gs : List (List Str × (Env' → Res Fl))} {ps : List (List Str × Out γ)} (hE : ∀ ρ, ER Ps ρ → E ρ) (h : HJ Ps R E rs gs ps) {k : Str} (hk : k ∈ rs) {ρ : Env'} (h0 : ER Ps ρ) : Sm (hGo gs k ρ) (goH ps k) R E := by
  induction h with
  | nil => exact ⟨ρ, rfl, hE ρ h0⟩
  | @cons cs cs' g p gs ps h hg r ih =>
    unfold hGo goH
    by_cases q : k ∈ cs
    · rw [if_pos q, if_pos ((h k hk).mp q)]; exact hg ρ h0
    · rw [if_neg q, if_neg fun z => q ((h k hk).mpr z)]; exact ih
theorem J_try {all rs : List Str} {gs : List (List Str × (Env' → Res Fl))} {ps : List (List Str × Out γ)} (hE : ∀ ρ, ER Qs ρ → E ρ) (h : J Ps f p R (ER Qs)) (ha : ∀ k ∈ rs, k ∈ all) (hh : HJ Qs R E rs gs ps) : J Ps (sTry all gs f) (tryR rs (goH ps) p) R E := fun ρ h0 => by
  have q := h ρ h0
  unfold sTry tryR
  cases e : p with
  | ok a => rw [e] at q; obtain ⟨fl, e1, e2⟩ := q; rw [e1]; exact Sm.okI e2
  | exc k =>
    rw [e] at q
    obtain ⟨ρ', e1, e2⟩ := q
    rw [e1]
    show Sm (if k ∈ all then hGo gs k ρ' else .bad) (if k ∈ rs then goH ps k else .bad) R E
    by_cases hk : k ∈ rs
    · rw [if_pos hk, if_pos (ha k hk)]; exact hh.go hE hk e2
    · rw [if_neg hk]; trivial
  | bad => trivial
/-! ### a def -/
def RF (c : α → D) : α → Fl → Prop := fun a fl => (∃ ρ', fl = .rt (.sh (c a)) ρ') ∨ (c a = .non ∧ ∃ ρ', fl = .nx ρ')
def RT (t : α → T) : α → Fl → Prop := fun a fl => ∃ ρ', fl = .rt (t a) ρ'
theorem start_er : ∀ (ds : List D) (n : Nat), ER (ds.map Sl.vw ++ List.replicate n .any) (ds.map (fun d => some (.sh d)) ++ List.replicate n none)
  | [], 0 => rfl
  | [], n + 1 => ⟨none, _, rfl, trivial, start_er [] n⟩
  | d :: ds, n => ⟨_, _, rfl, ⟨_, rfl, rfl⟩, start_er ds n⟩
theorem simP {np nN : Nat} {b : Env' → Res Fl} {ds : List D} {p : Out α} (hl : ds.length = np) (hp : ds.map Sl.vw ++ List.replicate (nN - ds.length) .any = Ps) (h : J Ps b p (RF ca) fun _ => True) : Sim (mirP np nN b ds) p ca := by
  have q := h _ (hp ▸ start_er ds (nN - ds.length))
  unfold mirP
  rw [if_pos hl]
  show Sim (match b (ds.map (fun d => some (.sh d)) ++ List.replicate (nN - ds.length) none) with
    | .ok (.nx _) => .ok .non
    | .ok (.rt (.sh d) _) => .ok d
    | .exc c _ => .exc c
    | _ => .bad) p ca
  cases p with
  | ok a =>
    obtain ⟨fl, e1, e2⟩ := q
    rw [e1]
    rcases e2 with ⟨ρ', e2⟩ | ⟨e3, ρ', e2⟩
    · subst e2; rfl
    · subst e2; show Out.ok _ = .ok (ca a); rw [e3]
  | exc k => obtain ⟨ρ', e1, _⟩ := q; rw [e1]; rfl
  | bad => trivial
theorem simT {np nN : Nat} {b : Env' → Res Fl} {ds : List D} {p : Out α} {t : α → T} (hl : ds.length = np) (hp : ds.map Sl.vw ++ List.replicate (nN - ds.length) .any = Ps) (h : J Ps b p (RT t) fun _ => True) : SimT (mirT np nN b ds) p t := by
  have q := h _ (hp ▸ start_er ds (nN - ds.length))
  unfold mirT
  rw [if_pos hl]
  show SimT (match b (ds.map (fun d => some (.sh d)) ++ List.replicate (nN - ds.length) none) with
    | .ok (.rt t _) => .ok t
    | .exc c _ => .exc c
    | _ => .bad) p t
  cases p with
  | ok a =>
    obtain ⟨fl, e1, ρ', e2⟩ := q
    rw [e1, e2]; rfl
  | exc k => obtain ⟨ρ', e1, _⟩ := q; rw [e1]; rfl
  | bad => trivial
/-! ways out, in each kind of tail -/
theorem rf_rt (a : α) (ρ' : Env') : RF ca a (.rt (oS ca a) ρ') := .inl ⟨ρ', rfl⟩
theorem rf_n (ρ' : Env') : RF cN () (.rt (.sh .non) ρ') := .inl ⟨ρ', rfl⟩
theorem rf_nx (ρ' : Env') : RF cN () (.nx ρ') := .inr ⟨rfl, ρ', rfl⟩
theorem rt_rt {t : α → T} (a : α) (ρ' : Env') : RT t a (.rt (t a) ρ') := ⟨ρ', rfl⟩
theorem rx_rt {a : γ} {t : T} {ρ' : Env'} (h : R a (.rt t ρ')) : Rx R a (.rt t ρ') := ⟨h, trivial⟩
theorem rx_bk {a : γ} {ρ' : Env'} (h : R a (.bk ρ')) : Rx R a (.bk ρ') := ⟨h, trivial⟩
theorem rx_ct {a : γ} {ρ' : Env'} (h : R a (.ct ρ')) : Rx R a (.ct ρ') := ⟨h, trivial⟩
theorem rj_rt {Ls : σ → List Sl} {a : γ} {t : T} {ρ' : Env'} (h : R a (.rt t ρ')) : RJ Ls R (.out a) (.rt t ρ') := ⟨h, trivial⟩
theorem rj_bk {Ls : σ → List Sl} {a : γ} {ρ' : Env'} (h : R a (.bk ρ')) : RJ Ls R (.out a) (.bk ρ') := ⟨h, trivial⟩
theorem rj_ct {Ls : σ → List Sl} {a : γ} {ρ' : Env'} (h : R a (.ct ρ')) : RJ Ls R (.out a) (.ct ρ') := ⟨h, trivial⟩
theorem rj_nx {Ls : σ → List Sl} {s : σ} {ρ' : Env'} (h : ER (Ls s) ρ') : RJ (γ := γ) Ls R (.nx s) (.nx ρ') := ⟨ρ', rfl, h⟩
theorem rn_nx {Ls : σ → List Sl} {s : σ} {ρ' : Env'} (h : ER (Ls s) ρ') : Rn Ls s (.nx ρ') := ⟨ρ', rfl, h⟩
theorem rb_rt {Ls : σ → List Sl} {a : γ} {t : T} {ρ' : Env'} (h : R a (.rt t ρ')) : RB Ls R (.out a) (.rt t ρ') := ⟨h, t, ρ', rfl⟩
theorem rb_nx {Ls : σ → List Sl} {s : σ} {ρ' : Env'} (h : ER (Ls s) ρ') : RB (γ := γ) Ls R (.nx s) (.nx ρ') := ⟨ρ', .inl rfl, h⟩
theorem rb_ct {Ls : σ → List Sl} {s : σ} {ρ' : Env'} (h : ER (Ls s) ρ') : RB (γ := γ) Ls R (.nx s) (.ct ρ') := ⟨ρ', .inr rfl, h⟩
theorem rb_bk {Ls : σ → List Sl} {s : σ} {ρ' : Env'} (h : ER (Ls s) ρ') : RB (γ := γ) Ls R (.bk s) (.bk ρ') := ⟨ρ', rfl, h⟩
theorem rc_nx {Ls : σ → List Sl} {s : σ} {ρ' : Env'} (h : ER (Ls s) ρ') : RC Ls s (.nx ρ') := ⟨ρ', .inl rfl, h⟩
theorem rc_ct {Ls : σ → List Sl} {s : σ} {ρ' : Env'} (h : ER (Ls s) ρ') : RC Ls s (.ct ρ') := ⟨ρ', .inr rfl, h⟩
end
end
end TL

namespace TL
open PySem PySem.Spec PyProof.Rows L2 FL
noncomputable section
section
variable {α β γ δ : Type} {ca : α → D} {cb : β → D}
/-! ### arithmetic -/
theorem o_add : OpT D.add cI cI cI fun a b => .ok (a + b) := fun _ _ => rfl
theorem o_sub : OpT D.sub cI cI cI fun a b => .ok (a - b) := fun _ _ => rfl
def mulR (a b : Int) : Out Int := if mulOk a b then .ok (a * b) else .bad
def divR (a b : Int) : Out Int := if 0 < b ∧ b.natAbs.log2 < 9000 then .ok (a / b) else .bad
def modR (a b : Int) : Out Int := if 0 < b then .ok (a % b) else .bad
def powR (a b : Int) : Out Int := if 0 ≤ b ∧ b ≤ 1000000 ∧ a.natAbs < 2 ^ 64 then .ok (a ^ b.toNat) else .bad
theorem o_mul : OpT D.mul cI cI cI mulR := fun a b => by
  unfold mulR
  by_cases z : mulOk a b
  · rw [if_pos z]
    show D.mul (.int a) (.int b) = some (.int _)
    simp only [D.mul, if_pos z]
  · rw [if_neg z]; trivial
theorem o_div : OpT D.fdiv cI cI cI divR := fun a b => by
  unfold divR
  by_cases z : 0 < b ∧ b.natAbs.log2 < 9000
  · rw [if_pos z]
    show D.fdiv (.int a) (.int b) = some (.int _)
    simp only [D.fdiv, if_pos z]
  · rw [if_neg z]; trivial
theorem o_mod : OpT D.mod cI cI cI modR := fun a b => by
  unfold modR
  by_cases z : 0 < b
  · rw [if_pos z]
    show D.mod (.int a) (.int b) = some (.int _)
    simp only [D.mod, if_pos z]
  · rw [if_neg z]; trivial
theorem o_pow : OpT D.pow cI cI cI powR := fun a b => by
  unfold powR
  by_cases z : 0 ≤ b ∧ b ≤ 1000000 ∧ a.natAbs < 2 ^ 64
  · rw [if_pos z]
    show D.pow (.int a) (.int b) = some (.int _)
    simp only [D.pow, if_pos z]
  · rw [if_neg z]; trivial
theorem u_neg : UnT D.neg cI cI fun a => .ok (-a) := fun _ => rfl
/-! ### putting together -/
def catR {α : Type} (a b : List α) : Out (List α) := if a.length + b.length ≤ 16777216 then .ok (a ++ b) else .bad
theorem o_catS : OpT D.add cS cS cS catR := fun a b => by
  unfold catR
  by_cases z : a.length + b.length ≤ 16777216
  · rw [if_pos z]
    show D.add (.str (S a)) (.str (S b)) = some (.str (S (a ++ b)))
    rw [add_S, if_pos (size_le z)]
  · rw [if_neg z]; trivial
theorem o_catU : OpT D.add (cU ca) (cU ca) (cU ca) catR := fun a b => by
  unfold catR
  by_cases z : a.length + b.length ≤ 16777216
  · rw [if_pos z]
    show D.add (.tup (a.map ca)) (.tup (b.map ca)) = some (.tup ((a ++ b).map ca))
    simp only [D.add, List.length_map, if_pos (size_le z), List.map_append]
  · rw [if_neg z]; trivial
theorem o_catL : OpT D.add (cL ca) (cL ca) (cL ca) catR := fun a b => by
  unfold catR
  by_cases z : a.length + b.length ≤ 16777216
  · rw [if_pos z]
    show D.add (.lst (a.map ca)) (.lst (b.map ca)) = some (.lst ((a ++ b).map ca))
    simp only [D.add, List.length_map, if_pos (size_le z), List.map_append]
  · rw [if_neg z]; trivial
theorem n_cat : ∀ a b : List α, ROL (D.catN (cL ca a) (cL ca b)) (catR a b) ca := fun a b => by
  unfold catR
  by_cases z : a.length + b.length ≤ 16777216
  · rw [if_pos z]
    show D.catN (.lst (a.map ca)) (.lst (b.map ca)) = some ((a ++ b).map ca)
    simp only [D.catN, List.length_map, if_pos (size_le z), List.map_append]
  · rw [if_neg z]; trivial
def repR {α : Type} (a : List α) (k : Int) : Out (List α) := if -9223372036854775808 ≤ k ∧ k < 9223372036854775808 ∧ a.length * k.toNat ≤ 16777216 then .ok (List.replicate k.toNat a).flatten else .bad
theorem n_rep : ∀ (a : List α) (k : Int), ROL (D.repN (cL ca a) (cI k)) (repR a k) ca := fun a k => by
  unfold repR
  by_cases z : -9223372036854775808 ≤ k ∧ k < 9223372036854775808 ∧ a.length * k.toNat ≤ 16777216
  · rw [if_pos z]
    show D.repN (.lst (a.map ca)) (.int k) = some ((List.replicate k.toNat a).flatten.map ca)
    have e : (-(2 ^ 63) : Int) ≤ k ∧ k < 2 ^ 63 ∧ (a.map ca).length * k.toNat ≤ sizeLine := ⟨by omega, by omega, size_le (by rw [List.length_map]; exact z.2.2)⟩
    simp only [D.repN, if_pos e]
    rw [List.map_flatten, List.map_replicate]
  · rw [if_neg z]; trivial
/-! ### places -/
def atR {α : Type} (xs : List α) (i : Int) : Out α := Out.of (L2.atI xs i)
theorem atR_ok {xs : List α} {i : Int} {a : α} (h : L2.atI xs i = some a) : atR xs i = .ok a := by unfold atR; rw [h]; rfl
theorem o_ixL : OpT D.ix (cL ca) cI ca atR := fun a i => by
  unfold atR cL cI
  cases h : L2.atI a i with
  | none => trivial
  | some x => show L2.atI (a.map ca) i = _; rw [atI_map, h]; rfl
theorem o_ixU : OpT D.ix (cU ca) cI ca atR := fun a i => by
  unfold atR cU cI
  cases h : L2.atI a i with
  | none => trivial
  | some x => show L2.atI (a.map ca) i = _; rw [atI_map, h]; rfl
theorem o_ixF : OpT D.ix (cF ca) cI ca atR := fun a i => by
  unfold atR cF cI
  cases h : L2.atI a i with
  | none => trivial
  | some x => show L2.atI (a.map ca) i = _; rw [atI_map, h]; rfl
/-- a text's sign, as a text -/
def sgR (l : List Nat) (i : Int) : Out (List Nat) := (atR l i).bind fun c => .ok [c]
theorem o_ixS : OpT D.ix cS cI cS sgR := fun a i => by
  unfold sgR atR cS cI
  cases h : L2.atI a i with
  | none => trivial
  | some x => show D.ix (.str (S a)) (.int i) = _; rw [ix_S, h]; rfl
def ixD (d : D) (i : Int) : Out D := Out.of (D.ix d (.int i))
theorem o_ixD : OpT D.ix cD cI cD ixD := fun a i => by
  unfold ixD cD cI
  cases h : D.ix a (.int i) <;> trivial
def slS (lo hi : Option Int) (l : List Nat) : List Nat := (cutS (S l) lo hi).cps.toList
theorem s_S : SlT cS cS slS := fun lo hi a => by
  unfold cS slS
  rw [sl_S, ← S_of]
theorem s_L : SlT (cL ca) (cL ca) slL := fun lo hi a => by
  show some (D.lst (cutD (a.map ca) lo hi)) = _
  rw [cutD_map]; rfl
theorem s_U : SlT (cU ca) (cU ca) slL := fun lo hi a => by
  show some (D.tup (cutD (a.map ca) lo hi)) = _
  rw [cutD_map]; rfl
theorem s_F : SlT (cF ca) (cL ca) slL := fun lo hi a => by
  show some (D.lst (cutD (a.map ca) lo hi)) = _
  rw [cutD_map]; rfl
/-! ### like -/
/-- things that can be held against each other -/
structure Fai {α : Type} [DecidableEq α] (n : Nat) (c : α → D) : Prop where
  data : ∀ a, (c a).data = true
  deep : ∀ a, (c a).deep ≤ n
  eq : ∀ a b, D.eqb (c a) (c b) = decide (a = b)
theorem Fai.I : Fai 0 cI := ⟨fun _ => rfl, fun _ => Nat.le_refl _, fun a b => by show D.eqb (.int a) (.int b) = _; rw [eqb_int]; rfl⟩
theorem Fai.B : Fai 0 cB := ⟨fun _ => rfl, fun _ => Nat.le_refl _, fun a b => by show D.eqb (.bl a) (.bl b) = _; rw [eqb_bl]; cases a <;> cases b <;> rfl⟩
theorem Fai.S : Fai 0 cS := ⟨fun _ => rfl, fun _ => Nat.le_refl _, fun a b => by show D.eqb (.str (FL.S a)) (.str (FL.S b)) = _; rw [eqb_str, S_beq]; exact Bool.beq_eq_decide_eq a b⟩
theorem Fai.N : Fai 0 cN := ⟨fun _ => rfl, fun _ => Nat.le_refl _, fun a b => by show D.eqb .non .non = _; rw [eqb_non]; simp⟩
theorem eqs_mapD [DecidableEq α] (h : ∀ a b, D.eqb (ca a) (ca b) = decide (a = b)) : ∀ xs ys : List α, PyData.eqvAll (D.pys (xs.map ca)) (D.pys (ys.map ca)) = decide (xs = ys)
  | [], [] => by simp
  | [], y :: ys => by simp
  | x :: xs, [] => by simp
  | x :: xs, y :: ys => by
    rw [List.map_cons, List.map_cons, eqs_cons, h, eqs_mapD h xs ys]
    by_cases e : x = y <;> by_cases e' : xs = ys <;> simp [e, e']
theorem Fai.L [DecidableEq α] {n : Nat} (h : Fai n ca) : Fai (n + 1) (cL ca) :=
  ⟨fun a => datas_map ca h.data a, fun a => by show D.deeps (a.map ca) + 1 ≤ n + 1; exact Nat.succ_le_succ (deeps_map ca n h.deep a), fun a b => by show D.eqb (.lst _) (.lst _) = _; rw [eqb_lst]; exact eqs_mapD h.eq a b⟩
theorem Fai.U [DecidableEq α] {n : Nat} (h : Fai n ca) : Fai (n + 1) (cU ca) :=
  ⟨fun a => datas_map ca h.data a, fun a => by show D.deeps (a.map ca) + 1 ≤ n + 1; exact Nat.succ_le_succ (deeps_map ca n h.deep a), fun a b => by show D.eqb (.tup _) (.tup _) = _; rw [eqb_tup]; exact eqs_mapD h.eq a b⟩
theorem Fai.t2 [DecidableEq α] [DecidableEq β] {n m : Nat} (h : Fai n ca) (k : Fai m cb) : Fai (max n m + 1) (c2 ca cb) :=
  ⟨fun a => by show D.datas [_, _] = true; simp [h.data, k.data], fun a => by
    show D.deeps [_, _] + 1 ≤ _
    have h1 := h.deep a.1
    have h2 := k.deep a.2
    simp only [deeps_cons, deeps_nil]
    omega, fun a b => by
    show D.eqb (.tup [_, _]) (.tup [_, _]) = _
    rw [eqb_tup]
    simp only [eqs_cons, eqs_nil, h.eq, k.eq]
    obtain ⟨a1, a2⟩ := a
    obtain ⟨b1, b2⟩ := b
    by_cases e : a1 = b1 <;> by_cases e' : a2 = b2 <;> simp [e, e']⟩
variable {cc : γ → D} {cd : δ → D}
theorem Fai.t3 [DecidableEq α] [DecidableEq β] [DecidableEq γ] {n m l : Nat} (h : Fai n ca) (k : Fai m cb) (i : Fai l cc) : Fai (max n (max m l) + 1) (c3 ca cb cc) :=
  ⟨fun a => by show D.datas [_, _, _] = true; simp [h.data, k.data, i.data], fun a => by
    show D.deeps [_, _, _] + 1 ≤ _
    have h1 := h.deep a.1
    have h2 := k.deep a.2.1
    have h3 := i.deep a.2.2
    simp only [deeps_cons, deeps_nil]
    omega, fun a b => by
    show D.eqb (.tup [_, _, _]) (.tup [_, _, _]) = _
    rw [eqb_tup]
    simp only [eqs_cons, eqs_nil, h.eq, k.eq, i.eq]
    obtain ⟨a1, a2, a3⟩ := a
    obtain ⟨b1, b2, b3⟩ := b
    by_cases e : a1 = b1 <;> by_cases e' : a2 = b2 <;> by_cases e'' : a3 = b3 <;> simp [e, e', e'']⟩
theorem Fai.t4 [DecidableEq α] [DecidableEq β] [DecidableEq γ] [DecidableEq δ] {n m l o : Nat} (h : Fai n ca) (k : Fai m cb) (i : Fai l cc) (j : Fai o cd) : Fai (max n (max m (max l o)) + 1) (c4 ca cb cc cd) :=
  ⟨fun a => by show D.datas [_, _, _, _] = true; simp [h.data, k.data, i.data, j.data], fun a => by
    show D.deeps [_, _, _, _] + 1 ≤ _
    have h1 := h.deep a.1
    have h2 := k.deep a.2.1
    have h3 := i.deep a.2.2.1
    have h4 := j.deep a.2.2.2
    simp only [deeps_cons, deeps_nil]
    omega, fun a b => by
    show D.eqb (.tup [_, _, _, _]) (.tup [_, _, _, _]) = _
    rw [eqb_tup]
    simp only [eqs_cons, eqs_nil, h.eq, k.eq, i.eq, j.eq]
    obtain ⟨a1, a2, a3, a4⟩ := a
    obtain ⟨b1, b2, b3, b4⟩ := b
    by_cases e : a1 = b1 <;> by_cases e' : a2 = b2 <;> by_cases e'' : a3 = b3 <;> by_cases e''' : a4 = b4 <;> simp [e, e', e'', e''']⟩
theorem Fai.cmp [DecidableEq α] {n : Nat} (h : Fai n ca) (hn : n ≤ 60) (a : α) : D.cmpOk (ca a) = true := by
  have := h.deep a
  unfold D.cmpOk
  rw [h.data]
  simp only [Bool.true_and, decide_eq_true_eq]
  omega
theorem o_eq [DecidableEq α] {n : Nat} (h : Fai n ca) (hn : n ≤ 60 := by decide) : OpT D.eq ca ca cB fun a b => .ok (decide (a = b)) := fun a b => by
  show D.eq (ca a) (ca b) = some (.bl _)
  rw [eq_ap, if_pos ⟨h.cmp hn a, h.cmp hn b⟩, h.eq]
theorem o_ne [DecidableEq α] {n : Nat} (h : Fai n ca) (hn : n ≤ 60 := by decide) : OpT D.ne ca ca cB fun a b => .ok (!decide (a = b)) := fun a b => by
  show D.ne (ca a) (ca b) = some (.bl _)
  rw [ne_ap, if_pos ⟨h.cmp hn a, h.cmp hn b⟩, h.eq]
/-- like, of any things -/
def eqD (a b : D) : Out Bool := if D.cmpOk a = true ∧ D.cmpOk b = true then .ok (D.eqb a b) else .bad
def neD (a b : D) : Out Bool := if D.cmpOk a = true ∧ D.cmpOk b = true then .ok (!D.eqb a b) else .bad
theorem o_eqD : OpT D.eq cD cD cB eqD := fun a b => by
  unfold eqD
  by_cases z : D.cmpOk a = true ∧ D.cmpOk b = true
  · rw [if_pos z]
    show D.eq a b = some (.bl _)
    simp only [D.eq, if_pos z]
  · rw [if_neg z]; trivial
theorem o_neD : OpT D.ne cD cD cB neD := fun a b => by
  unfold neD
  by_cases z : D.cmpOk a = true ∧ D.cmpOk b = true
  · rw [if_pos z]
    show D.ne a b = some (.bl _)
    simp only [D.ne, if_pos z]
  · rw [if_neg z]; trivial
/-! ### order -/
theorem o_lt : OpT D.lt cI cI cB fun a b => .ok (decide (a < b)) := fun _ _ => rfl
theorem o_le : OpT D.le cI cI cB fun a b => .ok (decide (a ≤ b)) := fun _ _ => rfl
theorem o_gt : OpT D.gt cI cI cB fun a b => .ok (decide (b < a)) := fun _ _ => rfl
theorem o_ge : OpT D.ge cI cI cB fun a b => .ok (decide (b ≤ a)) := fun _ _ => rfl
theorem o_ltS : OpT D.lt cS cS cB fun a b => .ok (decide (a < b)) := fun _ _ => rfl
/-- one of them, of any things -/
def opD (g : D → D → Option D) (a b : D) : Out Bool := match g a b with
  | some (.bl k) => .ok k
  | _ => .bad
theorem o_opD (g : D → D → Option D) : OpT g cD cD cB (opD g) := fun a b => by
  unfold opD cD
  cases h : g a b with
  | none => trivial
  | some d => cases d <;> trivial
/-! ### is it within -/
def inS (a z : List Nat) : Bool := sIn (S a) (S z)
theorem o_inS : OpT D.isin cS cS cB fun a b => .ok (inS a b) := fun _ _ => rfl
theorem o_ninS : OpT D.notin cS cS cB fun a b => .ok (!inS a b) := fun _ _ => rfl
theorem inS_1 (c : Nat) (z : List Nat) : inS [c] z = decide (c ∈ z) := sIn_S1 c z
theorem any_eqb [DecidableEq α] (h : ∀ a b, D.eqb (ca a) (ca b) = decide (a = b)) (x : α) : ∀ xs : List α, ((xs.map ca).any fun z => D.eqb z (ca x)) = decide (x ∈ xs)
  | [] => by simp
  | y :: ys => by
    rw [List.map_cons, List.any_cons, h, any_eqb h x ys]
    by_cases e : y = x
    · simp [e]
    · by_cases e' : x ∈ ys
      · simp [e']
      · have : ¬x = y := fun z => e z.symm
        simp [e, e', this]
theorem o_inL [DecidableEq α] {n : Nat} (h : Fai n ca) (hn : n ≤ 59 := by decide) : OpT D.isin ca (cL ca) cB fun a b => .ok (decide (a ∈ b)) := fun a b => by
  show D.isin (ca a) (.lst (b.map ca)) = some (.bl _)
  rw [isin_lst, if_pos ⟨h.cmp (by omega) a, h.L.cmp (by omega) b⟩, any_eqb h.eq]
theorem o_ninL [DecidableEq α] {n : Nat} (h : Fai n ca) (hn : n ≤ 59 := by decide) : OpT D.notin ca (cL ca) cB fun a b => .ok (!decide (a ∈ b)) := fun a b => by
  show D.notin (ca a) (.lst (b.map ca)) = some (.bl _)
  rw [notin_lst, if_pos ⟨h.cmp (by omega) a, h.L.cmp (by omega) b⟩, any_eqb h.eq]
theorem o_inU [DecidableEq α] (h : Fai 0 ca) (hf : ∀ a, (ca a).flat = true) : OpT D.isin ca (cU ca) cB fun a b => .ok (decide (a ∈ b)) := fun a b => by
  show D.isin (ca a) (.tup (b.map ca)) = some (.bl _)
  rw [isin_tup, if_pos ⟨hf a, by simp [hf]⟩, any_eqb h.eq]
theorem o_ninU [DecidableEq α] (h : Fai 0 ca) (hf : ∀ a, (ca a).flat = true) : OpT D.notin ca (cU ca) cB fun a b => .ok (!decide (a ∈ b)) := fun a b => by
  show D.notin (ca a) (.tup (b.map ca)) = some (.bl _)
  rw [notin_tup, if_pos ⟨hf a, by simp [hf]⟩, any_eqb h.eq]
theorem flI (a : Int) : (cI a).flat = true := rfl
theorem flS (a : List Nat) : (cS a).flat = true := rfl
/-! ### None -/
theorem o_isN : OpT D.is cD cN cB fun a _ => .ok a.isNon := fun a b => by show D.is a .non = _; rw [is_non]; rfl
theorem o_isntN : OpT D.isnt cD cN cB fun a _ => .ok (!a.isNon) := fun a b => by show D.isnt a .non = _; rw [isnt_non]; rfl
theorem o_isO (h : ∀ a, (ca a).isNon = false) : OpT D.is (cO ca) cN cB fun a _ => .ok a.isNone := fun a b => by
  show D.is (cO ca a) .non = _
  rw [is_non]
  cases a with
  | none => rfl
  | some a => show some (D.bl (ca a).isNon) = _; rw [h]; rfl
theorem o_isntO (h : ∀ a, (ca a).isNon = false) : OpT D.isnt (cO ca) cN cB fun a _ => .ok a.isSome := fun a b => by
  show D.isnt (cO ca a) .non = _
  rw [isnt_non]
  cases a with
  | none => rfl
  | some a => show some (D.bl !(ca a).isNon) = _; rw [h]; rfl
/-! ### built-ins -/
theorem b_lenL : ∀ a : List α, RO (D.len [cL ca a]) (Out.ok (a.length : Int)) cI := fun a => by show D.len [.lst _] = _; simp [cI]
theorem b_lenU : ∀ a : List α, RO (D.len [cU ca a]) (Out.ok (a.length : Int)) cI := fun a => by show D.len [.tup _] = _; simp [cI]
theorem b_lenF : ∀ a : List α, RO (D.len [cF ca a]) (Out.ok (a.length : Int)) cI := fun a => by show D.len [.fz _] = _; simp [cI]
theorem b_lenS : ∀ a : List Nat, RO (D.len [cS a]) (Out.ok (a.length : Int)) cI := fun a => by show D.len [.str (S a)] = _; simp [cI]
def lenD (d : D) : Out Int := match D.len [d] with
  | some (.int i) => .ok i
  | _ => .bad
theorem b_lenD : ∀ a : D, RO (D.len [cD a]) (lenD a) cI := fun a => by
  unfold lenD cD
  cases h : D.len [a] with
  | none => trivial
  | some d => cases d <;> trivial
theorem b_int : ∀ a : Int, RO (D.toInt [cI a]) (Out.ok a) cI := fun a => rfl
theorem b_intB : ∀ a : Bool, RO (D.toInt [cB a]) (.ok (if a = true then 1 else 0)) cI := fun a => rfl
theorem b_tupL : ∀ a : List α, RO (D.toTup [cL ca a]) (Out.ok a) (cU ca) := fun a => rfl
theorem b_tupU : ∀ a : List α, RO (D.toTup [cU ca a]) (Out.ok a) (cU ca) := fun a => rfl
theorem b_lstL : ∀ a : List α, ROL (D.toLst [cL ca a]) ((Out.ok a)) ca := fun a => rfl
theorem b_lstU : ∀ a : List α, ROL (D.toLst [cU ca a]) ((Out.ok a)) ca := fun a => rfl
theorem b_all : ∀ a : List Bool, RO (D.all [cL cB a]) (Out.ok (a.all id)) cB := fun a => all_bls a
theorem b_any : ∀ a : List Bool, RO (D.any [cL cB a]) (Out.ok (a.any id)) cB := fun a => any_bls a
def sumR (a : List Int) : Out Int := match D.sum [cL cI a] with
  | some (.int i) => .ok i
  | _ => .bad
theorem b_sum : ∀ a : List Int, RO (D.sum [cL cI a]) (sumR a) cI := fun a => by
  unfold sumR
  cases h : D.sum [cL cI a] with
  | none => trivial
  | some d => cases d <;> trivial
def maxR (a : List Int) : Out Int := match D.max [cL cI a] with
  | some (.int i) => .ok i
  | _ => .bad
theorem b_max : ∀ a : List Int, RO (D.max [cL cI a]) (maxR a) cI := fun a => by
  unfold maxR
  cases h : D.max [cL cI a] with
  | none => trivial
  | some d => cases d <;> trivial
def minR (a : List Int) : Out Int := match D.min [cL cI a] with
  | some (.int i) => .ok i
  | _ => .bad
theorem b_min : ∀ a : List Int, RO (D.min [cL cI a]) (minR a) cI := fun a => by
  unfold minR
  cases h : D.min [cL cI a] with
  | none => trivial
  | some d => cases d <;> trivial
/-- isinstance -/
def isD (n : String) (d : D) : Out Bool := match D.isinst [d, .ty n] with
  | some (.bl b) => .ok b
  | _ => .bad
variable {m : Bool} {Ps : List Sl} {fa : Env' → Res (RV × Env')}
theorem X_isinst {n : String} {e : Out D} (ha : X m Ps fa e cD) : X true Ps (eB D.isinst (aCons fa (aCons (eC (.ty n)) aNil))) (e.bind (isD n)) cB := by
  have := X_B2 (g := D.isinst) (ca := cD) (cb := fun _ : Unit => D.ty n) (cr := cB) (f := fun a _ => isD n a) (fun a b => by
    unfold isD cD
    cases h : D.isinst [a, .ty n] with
    | none => trivial
    | some d => cases d <;> trivial) ha (X_c (fun _ : Unit => D.ty n) () rfl : X true Ps (eC (.ty n)) (.ok ()) _)
  simpa using this
/-- a list's place of a thing -/
def idxR {α : Type} [DecidableEq α] (xs : List α) (a : α) : Out Int := match xs.findIdx? (fun z => decide (z = a)) with
  | some j => .ok (j : Int)
  | none => .bad
theorem m_index [DecidableEq α] (h : Fai 0 ca) (hf : ∀ a, (ca a).flat = true) : ∀ (xs : List α) (p : α × Unit), RO (D.lindex (cL ca xs) [ca p.1]) (idxR xs p.1) cI := fun xs ⟨a, _⟩ => by
  have e : D.lindex (cL ca xs) [ca a] = (xs.findIdx? (fun z => decide (z = a))).map fun j => .int ((j : Nat) : Int) := by
    unfold cL D.lindex
    simp only [hf, List.all_map, Function.comp_def, List.all_eq_true, implies_true, and_self, if_true]
    congr 1
    rw [List.findIdx?_map]
    congr 1
    funext z
    exact h.eq z a
  unfold idxR
  rw [e]
  cases xs.findIdx? (fun z => decide (z = a)) <;> trivial
def sidxR (z a : List Nat) : Out Int := match D.sindex (cS z) [cS a] with
  | some (.int i) => .ok i
  | _ => .bad
theorem m_sindex : ∀ (z : List Nat) (p : List Nat × Unit), RO (D.sindex (cS z) [cS p.1]) (sidxR z p.1) cI := fun z p => by
  unfold sidxR
  cases h : D.sindex (cS z) [cS p.1] with
  | none => trivial
  | some d => cases d <;> trivial
def scntR (z a : List Nat) : Int := Txt.count (S z) (S a)
theorem m_scount : ∀ (z : List Nat) (p : List Nat × Unit), RO (D.scount (cS z) [cS p.1]) (Out.ok (scntR z p.1)) cI := fun z p => rfl
theorem u_revL : UnT D.rev (cL ca) (cU ca) fun a => .ok a.reverse := fun a => by show D.rev (.lst _) = _; simp [cU]
/-! in place -/
theorem i_add : OpT D.iadd cI cI cI fun a b => .ok (a + b) := fun _ _ => rfl
theorem i_sub : OpT D.sub cI cI cI fun a b => .ok (a - b) := fun _ _ => rfl
theorem i_catS : OpT D.iadd cS cS cS catR := fun a b => by
  unfold catR
  by_cases z : a.length + b.length ≤ 16777216
  · rw [if_pos z]
    show D.iadd (.str (S a)) (.str (S b)) = some (.str (S (a ++ b)))
    rw [iadd_S, if_pos (size_le z)]
  · rw [if_neg z]; trivial
theorem t_int (i : Int) : ∀ t : T, t.top = some (cI i) → t = .sh (cI i)
  | .sh _, h => by cases h; rfl
  | .lst ts, h => by simp only [T.top, Option.map_eq_some_iff] at h; obtain ⟨_, _, h⟩ := h; cases h
  | .dic _ ts, h => by simp only [T.top, Option.map_eq_some_iff] at h; obtain ⟨_, _, h⟩ := h; cases h
  | .dit _ ts, h => by simp only [T.top, Option.map_eq_some_iff] at h; obtain ⟨_, _, h⟩ := h; cases h
  | .at _ ts, h => by simp only [T.top, Option.map_eq_some_iff] at h; obtain ⟨_, _, h⟩ := h; cases h
theorem t_str (i : List Nat) : ∀ t : T, t.top = some (cS i) → t = .sh (cS i)
  | .sh _, h => by cases h; rfl
  | .lst ts, h => by simp only [T.top, Option.map_eq_some_iff] at h; obtain ⟨_, _, h⟩ := h; cases h
  | .dic _ ts, h => by simp only [T.top, Option.map_eq_some_iff] at h; obtain ⟨_, _, h⟩ := h; cases h
  | .dit _ ts, h => by simp only [T.top, Option.map_eq_some_iff] at h; obtain ⟨_, _, h⟩ := h; cases h
  | .at _ ts, h => by simp only [T.top, Option.map_eq_some_iff] at h; obtain ⟨_, _, h⟩ := h; cases h
/-- truth -/
theorem tr_L : ∀ a : List α, ROB (D.truth (cL ca a)) ((Out.ok (!a.isEmpty))) := fun a => by show some (!(a.map ca).isEmpty) = _; simp
theorem tr_U : ∀ a : List α, ROB (D.truth (cU ca a)) ((Out.ok (!a.isEmpty))) := fun a => by show some (!(a.map ca).isEmpty) = _; simp
theorem tr_I : ∀ a : Int, ROB (D.truth (cI a)) ((Out.ok (a != 0))) := fun a => rfl
def trD (d : D) : Out Bool := Out.of d.truth
theorem tr_D : ∀ a : D, ROB (D.truth (cD a)) (trD a) := fun a => by
  unfold trD cD
  cases a.truth <;> trivial
end
end
end TL

namespace TL
open PySem PySem.Spec PyProof.Rows L2 FL
noncomputable section
section
variable {α β γ δ σ ι : Type}
variable {m m' m'' : Bool} {Ps Qs : List Sl} {fa fb fc : Env' → Res (RV × Env')} {ca : α → D} {cb : β → D} {cc : γ → D} {cr : δ → D} {ci : ι → D} {ea : Out α} {eb : Out β} {ec : Out γ}
variable {R R' : γ → Fl → Prop} {E E' : Env' → Prop} {p : Out γ} {f g : Env' → Res Fl}
theorem X_cl {mf : List D → Out D} {fs : Env' → Res (List RV × Env')} {dn : α → List D} {p : α → Out δ} (ha : AE Ps fs ea dn) (hm : ∀ a, Sim (mf (dn a)) (p a) cr) : X true Ps (eCall mf fs) (ea.bind p) cr := X_call hm ha
theorem N_cl {mf : List D → Out T} {fs : Env' → Res (List RV × Env')} {dn : α → List D} {p : α → Out δ} {t : δ → T} (ha : AE Ps fs ea dn) (hm : ∀ a, SimT (mf (dn a)) (p a) t) : NJ Ps (nCall mf fs) (ea.bind p) t := N_call hm ha
theorem X_mt {T : String} {g : D → List D → Option D} {fs : Env' → Res (List RV × Env')} {dn : β → List D} {f : α → β → Out δ} (ha : X m Ps fa ea ca) (hb : AL Ps fs eb dn) (ht : ∀ a, D.isTy T (ca a) = true) (ho : ∀ a b, RO (g (ca a) (dn b)) (f a b) cr) : X true Ps (eM T g fa fs) (ea.bind fun a => eb.bind fun b => f a b) cr := X_m ht ho ha hb
def NKJ (n : Nat) (Ps : List Sl) (f : Env' → Res (List T × Env')) (e : Out (List α)) (t : α → T) : Prop := ∀ ρ, ER Ps ρ → Sm (f ρ) e (fun a b => b.1 = a.map t ∧ a.length = n ∧ ER Ps b.2) (ER Ps)
theorem NK_nil {t : α → T} : NKJ 0 Ps atNil (.ok []) t := fun ρ h => Sm.okI ⟨rfl, rfl, h⟩
theorem NK_cons {n : Nat} {na : Env' → Res (T × Env')} {nr : Env' → Res (List T × Env')} {er : Out (List α)} {t : α → T} (ha : NJ Ps na ea t) (hr : NKJ n Ps nr er t) : NKJ (n + 1) Ps (atCons na nr) (ea.bind fun a => er.bind fun r => .ok (a :: r)) t := fun ρ h =>
  Sm.bind (ha ρ h) (fun a ⟨t', ρ1⟩ ⟨h1, q1⟩ => Sm.bind (hr ρ1 q1) (fun b ⟨ts, ρ2⟩ ⟨h2, h3, q2⟩ => by
    have h1 : t' = _ := h1
    have h2 : ts = _ := h2
    subst h1; subst h2
    exact Sm.okI ⟨rfl, by simp [h3], q2⟩) fun _ h => h) fun _ h => h
theorem N_lstn {n : Nat} {ns : Env' → Res (List T × Env')} {e : Out (List α)} (h : NKJ n Ps ns e (oS ca)) (h16 : n ≤ 16777216) : NJ Ps (nLst ns) e (oL ca) := fun ρ h0 => by
  have : Sm ((ns ρ).bind fun (ts, ρ1) => if ts.length ≤ sizeLine then .ok (T.lst ts, ρ1) else .bad) (e.bind .ok) (fun a b => b.1 = oL ca a ∧ ER Ps b.2) (ER Ps) :=
    Sm.bind (h ρ h0) (fun xs ⟨ts, ρ1⟩ ⟨h1, h2, h3⟩ => by
      have h1 : ts = _ := h1
      subst h1
      show Sm (if (xs.map (oS ca)).length ≤ sizeLine then .ok (T.lst (xs.map (oS ca)), ρ1) else .bad) _ _ _
      rw [if_pos (size_le (by rw [List.length_map, h2]; exact h16))]
      exact Sm.okI ⟨rfl, h3⟩) fun _ h => h
  cases e <;> exact this
theorem J_ret0 {na : Env' → Res (T × Env')} {e : Out γ} {t : γ → T} (hE : ∀ ρ, ER Ps ρ → E ρ) (h : NJ Ps na e t) (hR : ∀ a ρ', R a (.rt (t a) ρ')) : J Ps (sRet na) e R E := by
  have := J_ret (k := fun a => a) hE h hR
  refine J_eq this ?_
  cases e <;> rfl
theorem w_S (a : List Nat) : D.walk (cS a) = some ((sgs a).map cS) := by simp [cS, sgs, Function.comp_def]
theorem X_slT {lo hi : Option Int} {fl fh : Env' → Res (Option Int × Env')} {π : α → δ} (ha : X m Ps fa ea ca) (hl : PJ Ps fl (.ok lo)) (hh : PJ Ps fh (.ok hi)) (hc : ∀ p, D.sl lo hi (ca p) = some (cr (π p))) : X true Ps (eSl fa fl fh) (ea.bind fun p => .ok (π p)) cr := fun ρ h =>
  Sm.bind (ha ρ h) (fun a ⟨r, ρ1⟩ ⟨h1, q1⟩ => by
    obtain ⟨⟨l', ρ2⟩, e1, e2, e3⟩ := hl ρ1 h1
    obtain ⟨⟨i', ρ3⟩, e4, e5, e6⟩ := hh ρ2 e3
    have e2 : l' = lo := e2
    have e5 : i' = hi := e5
    have e6 : ER Ps ρ3 := e6
    subst e2; subst e5
    show Sm ((fl ρ1).bind fun (lo, ρ2) => (fh ρ2).bind fun (hi, ρ3) => (Res.of ((look ρ3 r).bind (D.sl lo hi))).bind fun d => .ok (RV.leaf d, ρ3)) _ _ _
    rw [e1]
    show Sm ((fh ρ2).bind fun (hi, ρ3) => (Res.of ((look ρ3 r).bind (D.sl l' hi))).bind fun d => .ok (RV.leaf d, ρ3)) _ _ _
    rw [e4]
    show Sm ((Res.of ((look ρ3 r).bind (D.sl l' i'))).bind fun d => .ok (RV.leaf d, ρ3)) _ _ _
    rw [q1.1 _ e6]
    simp only [Option.bind_some, hc a, of_some, bind_ok]
    exact Sm.okI ⟨e6, .leaf⟩) fun _ h => h
theorem J_augIx {i : Nat} {g : D → D → Option D} {f : α → β → Out α} {xs : List α} {ek : Out Int} (hE : ∀ ρ, ER Ps ρ → E ρ) (hi : Ps[i]? = some (.own (oL ca xs))) (ho : OpT g ca cb ca f) (hk : X m Ps fc ek cI) (hb : X m' Ps fb eb cb) :
    J Ps (sAugIx i g fc fb) (ek.bind fun k => (atR xs k).bind fun o => eb.bind fun y => (f o y).bind fun w => setR xs k w) (Rn fun r => Ps.set i (.own (oL ca r))) E := fun ρ h0 => by
  obtain ⟨o, h1, h2⟩ := h0.get hi
  cases h2
  unfold sAugIx
  rw [h1]
  refine Sm.bind (hk ρ h0) (fun k ⟨r, ρ1⟩ ⟨h3, q3⟩ => ?_) hE
  have h3 : ER Ps ρ1 := h3
  obtain ⟨o, h4, h5⟩ := h3.get hi
  cases h5
  have e0 : ∀ j, ixN xs.length k = some j → j < xs.length := fun j e => by
    unfold ixN at e
    split at e
    · split at e
      · cases e; omega
      · cases e
    · split at e
      · cases e; omega
      · cases e
  unfold atR
  cases e : ixN xs.length k with
  | none =>
    have : L2.atI xs k = none := by unfold L2.atI; rw [e]; rfl
    rw [this]; trivial
  | some j =>
    have hj := e0 j e
    have : L2.atI xs k = some xs[j] := by unfold L2.atI; rw [e]; exact List.getElem?_eq_getElem hj
    rw [this]
    have hx : (xs.map fun a => T.sh (ca a))[j]? = some (.sh (ca xs[j])) := by rw [List.getElem?_map, List.getElem?_eq_getElem hj]; rfl
    have hxe : ∀ (ts : List T), (ixN (xs.map fun a => T.sh (ca a)).length k) = some j := fun _ => by rw [List.length_map]; exact e
    have e1 : (ixN (xs.map fun a => T.sh (ca a)).length k).bind (fun j => (xs.map fun a => T.sh (ca a))[j]?) = some (.sh (ca xs[j])) := by rw [hxe []]; exact hx
    dsimp only
    rw [q3.1 _ h3, h4]
    show Sm (match (ixN (xs.map fun a => T.sh (ca a)).length k).bind (fun j => (xs.map fun a => T.sh (ca a))[j]?) with
      | some (.sh d1) => (fb ρ1).bind fun (r2, ρ2) => (Res.of (look ρ2 r2)).bind fun d2 => (Res.of (g d1 d2)).bind fun d => match ρ2[i]? with
        | some (some (.lst ts2)) => match ixN ts2.length k with
          | some j => match ts2[j]? with
            | some (.sh _) => .ok (Fl.nx (ρ2.set i (some (.lst (ts2.set j (.sh d))))))
            | _ => .bad
          | none => .bad
        | _ => .bad
      | _ => .bad) _ _ _
    rw [e1]
    rw [Out.of_some, Out.ok_bind]
    refine Sm.bind (hb ρ1 h3) (fun y ⟨r2, ρ2⟩ ⟨h6, q6⟩ => ?_) hE
    have h6 : ER Ps ρ2 := h6
    obtain ⟨o, h7, h8⟩ := h6.get hi
    cases h8
    have oo := ho xs[j] y
    simp only [RO] at oo
    show Sm ((Res.of (look ρ2 r2)).bind fun d2 => (Res.of (g (ca xs[j]) d2)).bind fun d => match ρ2[i]? with
        | some (some (.lst ts2)) => match ixN ts2.length k with
          | some j => match ts2[j]? with
            | some (.sh _) => .ok (Fl.nx (ρ2.set i (some (.lst (ts2.set j (.sh d))))))
            | _ => .bad
          | none => .bad
        | _ => .bad) _ _ _
    rw [q6.1 _ h6]
    cases e2 : f xs[j] y with
    | ok w =>
      rw [e2] at oo
      simp only [of_some, bind_ok, oo, h7, Out.ok_bind, oL, hxe [], hx]
      unfold setR
      rw [e]
      refine Sm.okI ⟨_, rfl, h6.set i ?_⟩
      show _ = some (oL ca (xs.set j w))
      simp [oL, List.map_set]
    | exc c => rw [e2] at oo; exact oo.elim
    | bad => trivial
/-! a thing taken as one of a kind -/
def DnP (o : Out α) (P : α → Prop) : Prop := match o with
  | .ok a => P a
  | .exc _ => False
  | .bad => True
theorem DnP.bind {o : Out α} {k : α → Out β} {P : α → Prop} {Q : β → Prop} (h : DnP o P) (hk : ∀ a, P a → DnP (k a) Q) : DnP (o.bind k) Q := by
  cases o with
  | ok a => exact hk a h
  | exc c => exact h
  | bad => trivial
def DnT (c : α → D) (f : D → Out α) : Prop := ∀ d, DnP (f d) fun a => d = c a
theorem X_dn {e : Out D} {f : D → Out α} (h : DnT ca f) (ha : X m Ps fa e cD) : X m Ps fa (e.bind f) ca := fun ρ h0 => by
  have q := ha ρ h0
  cases e with
  | ok d =>
    have o := h d
    show Sm (fa ρ) (f d) _ _
    cases z : f d with
    | ok a =>
      rw [z] at o
      obtain ⟨b, e1, e2, e3⟩ := q
      exact ⟨b, e1, e2, (show d = ca a from o) ▸ e3⟩
    | exc c => rw [z] at o; exact o.elim
    | bad => trivial
  | exc c => exact q
  | bad => trivial
def asI : D → Out Int
  | .int i => .ok i
  | _ => .bad
def asB : D → Out Bool
  | .bl i => .ok i
  | _ => .bad
def asS : D → Out (List Nat)
  | .str x => .ok x.cps.toList
  | _ => .bad
def asM {α : Type} (f : D → Out α) : List D → Out (List α)
  | [] => .ok []
  | d :: ds => (f d).bind fun a => (asM f ds).bind fun r => .ok (a :: r)
def asL {α : Type} (f : D → Out α) : D → Out (List α)
  | .lst ds => asM f ds
  | _ => .bad
def asU {α : Type} (f : D → Out α) : D → Out (List α)
  | .tup ds => asM f ds
  | _ => .bad
theorem dn_I : DnT cI asI := fun d => by cases d <;> trivial
theorem dn_B : DnT cB asB := fun d => by cases d <;> trivial
theorem dn_S : DnT cS asS := fun d => by cases d <;> trivial
theorem dn_M {f : D → Out α} (h : DnT ca f) : ∀ ds : List D, DnP (asM f ds) fun xs => ds = xs.map ca
  | [] => rfl
  | d :: ds => (h d).bind fun a e => (dn_M h ds).bind fun r e' => by subst e; subst e'; rfl
theorem dn_L {f : D → Out α} (h : DnT ca f) : DnT (cL ca) (asL f) := fun d => by
  cases d <;> try trivial
  rename_i ds
  have := dn_M h ds
  show DnP (asM f ds) _
  cases e : asM f ds with
  | ok xs => rw [e] at this; exact congrArg D.lst this
  | exc c => rw [e] at this; exact this
  | bad => trivial
theorem dn_U {f : D → Out α} (h : DnT ca f) : DnT (cU ca) (asU f) := fun d => by
  cases d <;> try trivial
  rename_i ds
  have := dn_M h ds
  show DnP (asM f ds) _
  cases e : asM f ds with
  | ok xs => rw [e] at this; exact congrArg D.tup this
  | exc c => rw [e] at this; exact this
  | bad => trivial
def asD (d : D) : Out D := .ok d
theorem dn_D : DnT cD asD := fun d => rfl
def as2 {α β : Type} (f : D → Out α) (g : D → Out β) : D → Out (α × β)
  | .tup [a, b] => (f a).bind fun a => (g b).bind fun b => .ok (a, b)
  | _ => .bad
def as3 {α β γ : Type} (f : D → Out α) (g : D → Out β) (h : D → Out γ) : D → Out (α × β × γ)
  | .tup [a, b, c] => (f a).bind fun a => (g b).bind fun b => (h c).bind fun c => .ok (a, b, c)
  | _ => .bad
def as4 {α β γ δ : Type} (f : D → Out α) (g : D → Out β) (h : D → Out γ) (i : D → Out δ) : D → Out (α × β × γ × δ)
  | .tup [a, b, c, d] => (f a).bind fun a => (g b).bind fun b => (h c).bind fun c => (i d).bind fun d => .ok (a, b, c, d)
  | _ => .bad
theorem dn_2 {f : D → Out α} {g : D → Out β} (hf : DnT ca f) (hg : DnT cb g) : DnT (c2 ca cb) (as2 f g) := fun d => by
  unfold as2
  split
  · exact (hf _).bind fun a e => (hg _).bind fun b e' => by subst e; subst e'; rfl
  · trivial
theorem dn_3 {f : D → Out α} {g : D → Out β} {h : D → Out γ} (hf : DnT ca f) (hg : DnT cb g) (hh : DnT cc h) : DnT (c3 ca cb cc) (as3 f g h) := fun d => by
  unfold as3
  split
  · exact (hf _).bind fun a e => (hg _).bind fun b e' => (hh _).bind fun c e'' => by subst e; subst e'; subst e''; rfl
  · trivial
theorem dn_4 {f : D → Out α} {g : D → Out β} {h : D → Out γ} {i : D → Out δ} (hf : DnT ca f) (hg : DnT cb g) (hh : DnT cc h) (hi : DnT cr i) : DnT (c4 ca cb cc cr) (as4 f g h i) := fun d => by
  unfold as4
  split
  · exact (hf _).bind fun a e => (hg _).bind fun b e' => (hh _).bind fun c e'' => (hi _).bind fun d e''' => by subst e; subst e'; subst e''; subst e'''; rfl
  · trivial
def slD (lo hi : Option Int) (d : D) : Out D := Out.of (D.sl lo hi d)
theorem X_slD {fl fh : Env' → Res (Option Int × Env')} {el eh : Out (Option Int)} {ea : Out D} (ha : X m Ps fa ea cD) (hl : PJ Ps fl el) (hh : PJ Ps fh eh) :
    X true Ps (eSl fa fl fh) (ea.bind fun a => el.bind fun lo => eh.bind fun hi => slD lo hi a) cD := fun ρ h =>
  Sm.bind (ha ρ h) (fun a ⟨r, ρ1⟩ ⟨h1, q1⟩ => Sm.bind (hl ρ1 h1) (fun lo ⟨lo', ρ2⟩ ⟨h2, q2⟩ => Sm.bind (hh ρ2 q2) (fun hi ⟨hi', ρ3⟩ ⟨h3, q3⟩ => by
    have h2 : lo' = lo := h2
    have h3 : hi' = hi := h3
    have q3 : ER Ps ρ3 := q3
    subst h2; subst h3
    show Sm ((Res.of ((look ρ3 r).bind (D.sl lo' hi'))).bind fun d => .ok (RV.leaf d, ρ3)) _ _ _
    rw [q1.1 _ q3]
    unfold slD cD
    simp only [Option.bind_some]
    cases D.sl lo' hi' a with
    | none => trivial
    | some d => exact Sm.okI ⟨q3, .leaf⟩) fun _ h => h) fun _ h => h) fun _ h => h
@[simp] theorem asI_c (i : Int) : asI (cI i) = .ok i := rfl
@[simp] theorem asB_c (i : Bool) : asB (cB i) = .ok i := rfl
@[simp] theorem asS_c (l : List Nat) : asS (cS l) = .ok l := rfl
theorem asM_map {f : D → Out α} (h : ∀ a, f (ca a) = .ok a) : ∀ xs : List α, asM f (xs.map ca) = .ok xs
  | [] => rfl
  | a :: xs => by rw [List.map_cons, asM, h, Out.ok_bind, asM_map h xs]; rfl
@[simp] theorem asL_S (xs : List (List Nat)) : asL asS (cL cS xs) = .ok xs := asM_map asS_c xs
@[simp] theorem asU_S (xs : List (List Nat)) : asU asS (cU cS xs) = .ok xs := asM_map asS_c xs
@[simp] theorem asL_I (xs : List Int) : asL asI (cL cI xs) = .ok xs := asM_map asI_c xs
@[simp] theorem asU_I (xs : List Int) : asU asI (cU cI xs) = .ok xs := asM_map asI_c xs
theorem J_guardp {ta : Env' → Res (Bool × Env')} {b : Bool} {pA pB : Out γ} (hE : ∀ ρ, ER Ps ρ → E ρ) (ht : TJ Ps ta (.ok b)) (ha : J Ps f pA (Rx R) E) (hb : J Ps g pB R E) : J Ps (sSeq (sIf ta f sNil) g) (if b = true then pA else pB) R E := J_guard hE ht ha hb
theorem J_ifp {ta : Env' → Res (Bool × Env')} {b : Bool} {pA pB : Out γ} (hE : ∀ ρ, ER Ps ρ → E ρ) (ht : TJ Ps ta (.ok b)) (ha : J Ps f pA R E) (hb : J Ps g pB R E) : J Ps (sIf ta f g) (if b = true then pA else pB) R E := J_if hE ht ha hb
def max2 (a b : Int) : Int := if b > a then b else a
def min2 (a b : Int) : Int := if b < a then b else a
theorem b_max2 : ∀ a b : Int, RO (D.max [cI a, cI b]) (Out.ok (max2 a b)) cI := fun a b => rfl
theorem b_min2 : ∀ a b : Int, RO (D.min [cI a, cI b]) (Out.ok (min2 a b)) cI := fun a b => rfl
theorem max2_eq (a b : Int) : max2 a b = max a b := by unfold max2; split <;> omega
theorem min2_eq (a b : Int) : min2 a b = min a b := by unfold min2; split <;> omega
end
end
end TL

namespace TL
open PySem PySem.Spec PyProof.Rows L2 FL
noncomputable section
variable {α β γ δ σ ι : Type}
variable {m m' m'' : Bool} {Ps Qs : List Sl} {fa fb fc : Env' → Res (RV × Env')} {ca : α → D} {cb : β → D} {cc : γ → D} {cr : δ → D} {ci : ι → D} {ea : Out α} {eb : Out β} {ec : Out γ}
/-! ### tuples that the top has written -/
def cV {α : Type} (c : α → D) (xs : List α) : D := .ftup (xs.map c)
theorem I_V {ea : Out (List α)} (ha : X true Ps fa ea (cV ca)) : IJ Ps (iSeq fa) ea ca := I_id (I_seq (f := fun a => a) (fun _ => rfl) ha)
theorem b_lenV : ∀ a : List α, RO (D.len [cV ca a]) (Out.ok (a.length : Int)) cI := fun a => by show D.len [.ftup _] = _; simp [cI, D.len]
theorem o_ixV : OpT D.ix (cV ca) cI ca atR := fun a i => by
  unfold atR cV cI
  cases h : L2.atI a i with
  | none => trivial
  | some x => show L2.atI (a.map ca) i = _; rw [atI_map, h]; rfl
theorem isin_ftup (d : D) (ds : List D) : D.isin d (.ftup ds) = if d.flat = true ∧ ds.all D.flat = true then some (.bl (ds.any fun z => D.eqb z d)) else none := rfl
theorem notin_ftup (d : D) (ds : List D) : D.notin d (.ftup ds) = if d.flat = true ∧ ds.all D.flat = true then some (.bl (!ds.any fun z => D.eqb z d)) else none := by
  unfold D.notin
  rw [isin_ftup]
  by_cases h : d.flat = true ∧ ds.all D.flat = true
  · rw [if_pos h, if_pos h]
  · rw [if_neg h, if_neg h]
theorem o_inV [DecidableEq α] (h : Fai 0 ca) (hf : ∀ a, (ca a).flat = true) : OpT D.isin ca (cV ca) cB fun a b => .ok (decide (a ∈ b)) := fun a b => by
  show D.isin (ca a) (.ftup (b.map ca)) = some (.bl _)
  rw [isin_ftup, if_pos ⟨hf a, by simp [hf]⟩, any_eqb h.eq]
theorem o_ninV [DecidableEq α] (h : Fai 0 ca) (hf : ∀ a, (ca a).flat = true) : OpT D.notin ca (cV ca) cB fun a b => .ok (!decide (a ∈ b)) := fun a b => by
  show D.notin (ca a) (.ftup (b.map ca)) = some (.bl _)
  rw [notin_ftup, if_pos ⟨hf a, by simp [hf]⟩, any_eqb h.eq]
theorem zip_UV (xs : List α) (ys : List β) : zip2 (cU ca xs) (cV cb ys) = some ((xs.zip ys).map (c2 ca cb)) := by simp [zip2, cU, cV, zipD_map]
theorem zip_VU (xs : List α) (ys : List β) : zip2 (cV ca xs) (cU cb ys) = some ((xs.zip ys).map (c2 ca cb)) := by simp [zip2, cU, cV, zipD_map]
theorem zip_VV (xs : List α) (ys : List β) : zip2 (cV ca xs) (cV cb ys) = some ((xs.zip ys).map (c2 ca cb)) := by simp [zip2, cV, zipD_map]
theorem b_tupV : ∀ a : List α, RO (D.toTup [cV ca a]) (Out.ok a) (cV ca) := fun a => rfl
theorem b_lstV : ∀ a : List α, ROL (D.toLst [cV ca a]) ((Out.ok a)) ca := fun a => rfl
/-! turned about -/
theorem u_rvL : UnT D.revSl (cL ca) (cL ca) fun a => .ok a.reverse := fun a => by show D.revSl (.lst _) = _; simp [cL, D.revSl]
theorem u_rvU : UnT D.revSl (cU ca) (cU ca) fun a => .ok a.reverse := fun a => by show D.revSl (.tup _) = _; simp [cU, D.revSl]
theorem u_rvV : UnT D.revSl (cV ca) (cU ca) fun a => .ok a.reverse := fun a => by show D.revSl (.ftup _) = _; simp [cU, D.revSl]
theorem u_rvS : UnT D.revSl cS cS fun a => .ok a.reverse := fun a => by
  show D.revSl (.str (S a)) = some (.str (S a.reverse))
  simp [D.revSl, revS, S]
def rvD (d : D) : Out D := Out.of d.revSl
theorem u_rvD : UnT D.revSl cD cD rvD := fun a => by
  unfold rvD cD
  cases a.revSl <;> trivial
/-! a list or a tuple unpacked -/
def unp2 {α : Type} : List α → Out (α × α)
  | [a, b] => .ok (a, b)
  | _ => .bad
def unp3 {α : Type} : List α → Out (α × α × α)
  | [a, b, c] => .ok (a, b, c)
  | _ => .bad
def unp4 {α : Type} : List α → Out (α × α × α × α)
  | [a, b, c, d] => .ok (a, b, c, d)
  | _ => .bad
def absR (i : Int) : Int := if i < 0 then -i else i
theorem b_abs : ∀ a : Int, RO (D.abs [cI a]) (Out.ok (absR a)) cI := fun a => rfl
theorem opD_inV (a : List Nat) (ms : List (List Nat)) : opD D.isin (cS a) (cV cS ms) = .ok (decide (a ∈ ms)) := by
  have := o_inV Fai.S flS a ms
  simp only [RO] at this
  unfold opD
  rw [this]
  simp only [cB]
  exact congrArg Out.ok (decide_eq_decide.mpr Iff.rfl)
end
end TL

namespace TL
open PySem PySem.Spec PyProof.Rows L2 FL
noncomputable section
/-! ### expressions that change one list on their way -/
def M.up {S α : Type} (e : Out α) : S → Out (α × S) := fun s => e.bind fun a => .ok (a, s)
def M.rt {S α : Type} (a : α) : S → Out (α × S) := fun s => .ok (a, s)
def M.bd {S α β : Type} (m : S → Out (α × S)) (k : α → S → Out (β × S)) : S → Out (β × S) := fun s => (m s).bind fun p => k p.1 p.2
def M.nx {S α : Type} (m : S → Out (α × S)) : S → Out (α × S) := fun s => (m s).nx
theorem M.bd_assoc {S α β γ : Type} {m : S → Out (α × S)} {k : α → S → Out (β × S)} {l : β → S → Out (γ × S)} : M.bd (M.bd m k) l = M.bd m fun a => M.bd (k a) l := by
  funext s
  unfold M.bd
  cases m s <;> rfl
theorem M.rt_bd {S α β : Type} {a : α} {k : α → S → Out (β × S)} : M.bd (M.rt a) k = k a := rfl
theorem M.up_ok {S α : Type} {a : α} : (M.up (Out.ok a) : S → Out (α × S)) = M.rt a := rfl
theorem M.up_bind {S α β : Type} {e : Out α} {k : α → Out β} : (M.up (e.bind k) : S → Out (β × S)) = M.bd (M.up e) fun a => M.up (k a) := by
  funext s
  unfold M.bd M.up
  cases e <;> rfl
theorem M.rt_ap {S α : Type} {a : α} {s : S} : M.rt a s = .ok (a, s) := rfl
theorem M.up_ap {S α : Type} {e : Out α} {s : S} : M.up e s = e.bind fun a => .ok (a, s) := rfl
theorem M.bd_ap {S α β : Type} {m : S → Out (α × S)} {k : α → S → Out (β × S)} {s : S} : M.bd m k s = (m s).bind fun p => k p.1 p.2 := rfl
def lcMS {S ι α : Type} (t : ι → S → Out (Bool × S)) (e : ι → S → Out (α × S)) : List ι → S → Out (List α × S)
  | [] => M.rt []
  | x :: xs => M.bd (M.nx (t x)) fun b => if b = true then M.bd (M.nx (e x)) fun a => M.bd (lcMS t e xs) fun r => M.rt (a :: r) else lcMS t e xs
def lcS {S ι α : Type} (t : ι → S → Out (Bool × S)) (e : ι → S → Out (α × S)) (xs : List ι) : S → Out (List α × S) := if xs.length ≤ 16777216 then lcMS t e xs else fun _ => .bad
section
variable {S α β γ δ ι : Type}
structure Dk (i : Nat) (o : S → T) (Ps : S → List Sl) : Prop where
  sw : ∀ s s', Ps s' = (Ps s).set i (.own (o s'))
  pt : ∀ s, (Ps s)[i]? = some (.own (o s))
  ns : ∀ s d, o s ≠ .sh d
def EM (Ps : S → List Sl) : Env' → Prop := fun ρ => ∃ s, ER (Ps s) ρ
def RRM (Ps : S → List Sl) (r : RV) (d : D) : Prop := (∀ s ρ, ER (Ps s) ρ → look ρ r = some d) ∧ (∀ s ρ, ER (Ps s) ρ → ∃ ρ', esc ρ r = some (d, ρ') ∧ ER (Ps s) ρ')
theorem RRM.leaf {Ps : S → List Sl} {d : D} : RRM Ps (.leaf d) d := ⟨fun _ _ _ => rfl, fun _ ρ h => ⟨ρ, rfl, h⟩⟩
def XM (Ps : S → List Sl) (f : Env' → Res (RV × Env')) (e : S → Out (α × S)) (c : α → D) : Prop := ∀ s ρ, ER (Ps s) ρ → Sm (f ρ) (e s) (fun a b => ER (Ps a.2) b.2 ∧ RRM Ps b.1 (c a.1)) (EM Ps)
def TM (Ps : S → List Sl) (f : Env' → Res (Bool × Env')) (e : S → Out (Bool × S)) : Prop := ∀ s ρ, ER (Ps s) ρ → Sm (f ρ) (e s) (fun a b => b.1 = a.1 ∧ ER (Ps a.2) b.2) (EM Ps)
def NM (Ps : S → List Sl) (f : Env' → Res (T × Env')) (e : S → Out (α × S)) (t : α → T) : Prop := ∀ s ρ, ER (Ps s) ρ → Sm (f ρ) (e s) (fun a b => b.1 = t a.1 ∧ ER (Ps a.2) b.2) (EM Ps)
def NKM (n : Nat) (Ps : S → List Sl) (f : Env' → Res (List T × Env')) (e : S → Out (List α × S)) (t : α → T) : Prop := ∀ s ρ, ER (Ps s) ρ → Sm (f ρ) (e s) (fun a b => b.1 = a.1.map t ∧ a.1.length = n ∧ ER (Ps a.2) b.2) (EM Ps)
def IM (Ps : S → List Sl) (f : Env' → Res (List D × Env')) (e : S → Out (List α × S)) (c : α → D) : Prop := ∀ s ρ, ER (Ps s) ρ → Sm (f ρ) (e s) (fun a b => b.1 = a.1.map c ∧ ER (Ps a.2) b.2) (EM Ps)
def PM (Ps : S → List Sl) (f : Env' → Res (Option Int × Env')) (e : S → Out (Option Int × S)) : Prop := ∀ s ρ, ER (Ps s) ρ → Sm (f ρ) (e s) (fun a b => b.1 = a.1 ∧ ER (Ps a.2) b.2) (EM Ps)
def AM (Ps : S → List Sl) (f : Env' → Res (List RV × Env')) (e : S → Out (α × S)) (dn : α → List D) : Prop := ∀ s ρ, ER (Ps s) ρ → Sm (f ρ) (e s) (fun a b => b.1 = (dn a.1).map RV.leaf ∧ ER (Ps a.2) b.2) (EM Ps)
def ALM (Ps : S → List Sl) (f : Env' → Res (List RV × Env')) (e : S → Out (α × S)) (dn : α → List D) : Prop := ∀ s ρ, ER (Ps s) ρ → Sm (f ρ) (e s) (fun a b => ER (Ps a.2) b.2 ∧ ∀ s ρ, ER (Ps s) ρ → looks ρ b.1 = some (dn a.1)) (EM Ps)
variable {Ps : S → List Sl} {fa fb fc : Env' → Res (RV × Env')} {ca : α → D} {cb : β → D} {cc : γ → D} {cr : δ → D} {ci : ι → D} {ea : S → Out (α × S)} {eb : S → Out (β × S)} {i : Nat} {o : S → T}
theorem Sm.up {Y : Type} {x : Res Y} {e : Out α} {K : α → Y → Prop} {K' : α × S → Y → Prop} {E E' : Env' → Prop} {s : S} (h : Sm x e K E) (hk : ∀ a b, K a b → K' (a, s) b) (he : ∀ ρ, E ρ → E' ρ) : Sm x (M.up e s) K' E' := by
  unfold M.up
  cases e with
  | ok a => obtain ⟨b, e1, e2⟩ := h; exact ⟨b, e1, hk a b e2⟩
  | exc c => obtain ⟨ρ', e1, e2⟩ := h; exact ⟨ρ', e1, he _ e2⟩
  | bad => trivial
theorem RR.m (D : Dk i o Ps) {s : S} {ρ : Env'} {r : RV} {d : FL.D} (h : ER (Ps s) ρ) (q : RR true (Ps s) r d) : RRM Ps r d := by
  cases r with
  | leaf d' =>
    have := q.1 ρ h
    cases this
    exact .leaf
  | slot j =>
    have esc_eq : ∀ (ρ : Env') (t : T), ρ[j]? = some (some t) → esc ρ (.slot j) = some (t.d, ρ.set j (some (.sh t.d))) := fun ρ t e => by simp only [esc, e]
    have look_eq : ∀ (ρ : Env') (t : T), ρ[j]? = some (some t) → look ρ (.slot j) = t.top := fun ρ t e => by simp only [look, e]
    have ex : ∀ ρ, look ρ (.slot j) = some d → ∃ t, ρ[j]? = some (some t) ∧ t.top = some d := fun ρ z => by
      simp only [look] at z
      split at z
      · rename_i t e; exact ⟨t, e, z⟩
      · cases z
    have ji : j ≠ i := fun e => by
      subst e
      obtain ⟨ρ', z1, z2⟩ := q.2 rfl ρ h
      obtain ⟨t, e1, e2⟩ := ex ρ (q.1 ρ h)
      rw [esc_eq _ _ e1] at z1
      cases z1
      obtain ⟨w, e3, e4⟩ := z2.get (D.pt s)
      have hlt : j < ρ.length := (List.getElem?_eq_some_iff.mp e1).1
      rw [List.getElem?_set_self hlt] at e3
      cases e3
      exact D.ns s _ (Option.some.inj e4).symm
    have mv : ∀ s' ρ', ER (Ps s') ρ' → ER (Ps s) (ρ'.set i (some (o s))) := fun s' ρ' h' => by
      rw [D.sw s' s]; exact h'.set i rfl
    have gt : ∀ s' ρ', ER (Ps s') ρ' → ∃ t, ρ'[j]? = some (some t) ∧ t.top = some d := fun s' ρ' h' => by
      obtain ⟨t, e1, e2⟩ := ex _ (q.1 _ (mv s' ρ' h'))
      rw [List.getElem?_set_ne (Ne.symm ji)] at e1
      exact ⟨t, e1, e2⟩
    refine ⟨fun s' ρ' h' => ?_, fun s' ρ' h' => ?_⟩
    · obtain ⟨t, e1, e2⟩ := gt s' ρ' h'
      rw [look_eq _ _ e1]; exact e2
    · obtain ⟨t, e1, e2⟩ := gt s' ρ' h'
      have td := top_d e2
      refine ⟨ρ'.set j (some (.sh t.d)), by rw [esc_eq _ _ e1, td], ?_⟩
      obtain ⟨ρ2, z1, z2⟩ := q.2 rfl _ (mv s' ρ' h')
      have e1' : (ρ'.set i (some (o s)))[j]? = some (some t) := by rw [List.getElem?_set_ne (Ne.symm ji)]; exact e1
      rw [esc_eq _ _ e1'] at z1
      cases z1
      have z3 := z2.set i (p := .own (o s')) (o := some (o s')) rfl
      rw [← D.sw s s'] at z3
      rw [List.set_comm _ _ (Ne.symm ji), List.set_set] at z3
      obtain ⟨w, e3, e4⟩ := h'.get (D.pt s')
      have e4 : w = some (o s') := e4
      subst e4
      have : (ρ'.set j (some (T.sh t.d))).set i (some (o s')) = ρ'.set j (some (.sh t.d)) := FL.set_self (by rw [List.getElem?_set_ne ji]; exact e3)
      rw [this] at z3
      exact z3
theorem XM_up (D : Dk i o Ps) {e : Out α} (h : ∀ s, X true (Ps s) fa e ca) : XM Ps fa (M.up e) ca := fun s ρ hr => Sm.up (h s ρ hr) (fun a b q => ⟨q.1, q.2.m D q.1⟩) fun ρ h => ⟨s, h⟩
theorem NM_up {e : Out α} {na : Env' → Res (T × Env')} {t : α → T} (h : ∀ s, NJ (Ps s) na e t) : NM Ps na (M.up e) t := fun s ρ hr => Sm.up (h s ρ hr) (fun a b q => q) fun ρ h => ⟨s, h⟩
theorem TM_up {e : Out Bool} {ta : Env' → Res (Bool × Env')} (h : ∀ s, TJ (Ps s) ta e) : TM Ps ta (M.up e) := fun s ρ hr => Sm.up (h s ρ hr) (fun a b q => q) fun ρ h => ⟨s, h⟩
theorem IM_up {e : Out (List α)} {fi : Env' → Res (List FL.D × Env')} (h : ∀ s, IJ (Ps s) fi e ca) : IM Ps fi (M.up e) ca := fun s ρ hr => Sm.up (h s ρ hr) (fun a b q => q) fun ρ h => ⟨s, h⟩
theorem PM_up {e : Out (Option Int)} {fi : Env' → Res (Option Int × Env')} (h : ∀ s, PJ (Ps s) fi e) : PM Ps fi (M.up e) := fun s ρ hr => Sm.up (h s ρ hr) (fun a b q => q) fun ρ h => ⟨s, h⟩
/-- going on behind a part -/
theorem Sm.bd {X Y : Type} {x : Res X} {m : S → Out (α × S)} {s : S} {K : α × S → X → Prop} {E E' : Env' → Prop} {h : X → Res Y} {k : α → S → Out (β × S)} {K' : β × S → Y → Prop}
    (hx : Sm x (m s) K E) (hk : ∀ a s b, K (a, s) b → Sm (h b) (k a s) K' E') (he : ∀ ρ, E ρ → E' ρ) : Sm (x.bind h) (M.bd m k s) K' E' :=
  Sm.bind hx (fun a b q => hk a.1 a.2 b q) he
theorem XM_bin {g : FL.D → FL.D → Option FL.D} {f : α → β → Out δ} (ho : OpT g ca cb cr f) (ha : XM Ps fa ea ca) (hb : XM Ps fb eb cb) : XM Ps (eBin g fa fb) (M.bd ea fun a => M.bd eb fun b => M.up (f a b)) cr := fun s ρ h =>
  Sm.bd (ha s ρ h) (fun a s1 ⟨r, ρ1⟩ ⟨h1, q1⟩ => Sm.bd (hb s1 ρ1 h1) (fun b s2 ⟨r2, ρ2⟩ ⟨h2, q2⟩ => by
    have h2 : ER (Ps s2) ρ2 := h2
    have o := ho a b
    simp only [RO, ROL, ROB] at o
    show Sm ((Res.of (look ρ2 r)).bind fun d1 => (Res.of (look ρ2 r2)).bind fun d2 => (Res.of (g d1 d2)).bind fun d => .ok (RV.leaf d, ρ2)) _ _ _
    rw [q1.1 _ _ h2, q2.1 _ _ h2]
    unfold M.up
    cases e : f a b with
    | ok r => rw [e] at o; simp only [of_some, bind_ok, o]; exact Sm.okI ⟨h2, .leaf⟩
    | exc c => rw [e] at o; exact o.elim
    | bad => trivial) fun _ h => h) fun _ h => h
theorem XM_un {g : FL.D → Option FL.D} {f : α → Out δ} (ho : UnT g ca cr f) (ha : XM Ps fa ea ca) : XM Ps (eUn g fa) (M.bd ea fun a => M.up (f a)) cr := fun s ρ h =>
  Sm.bd (ha s ρ h) (fun a s1 ⟨r, ρ1⟩ ⟨h1, q1⟩ => by
    have h1 : ER (Ps s1) ρ1 := h1
    have o := ho a
    simp only [RO, ROL, ROB] at o
    show Sm ((Res.of (look ρ1 r)).bind fun d1 => (Res.of (g d1)).bind fun d => .ok (RV.leaf d, ρ1)) _ _ _
    rw [q1.1 _ _ h1]
    unfold M.up
    cases e : f a with
    | ok r => rw [e] at o; simp only [of_some, bind_ok, o]; exact Sm.okI ⟨h1, .leaf⟩
    | exc c => rw [e] at o; exact o.elim
    | bad => trivial) fun _ h => h
theorem XM_as {k : α → δ} (ha : XM Ps fa ea ca) (hk : ∀ a, ca a = cr (k a)) : XM Ps fa (M.bd ea fun a => M.rt (k a)) cr := fun s ρ h => by
  have q := ha s ρ h
  unfold M.bd M.rt
  cases e : ea s with
  | ok a => rw [e] at q; obtain ⟨b, e1, e2, e3⟩ := q; exact ⟨b, e1, e2, hk a.1 ▸ e3⟩
  | exc c => rw [e] at q; exact q
  | bad => trivial
theorem XM_dyn (ha : XM Ps fa ea ca) : XM Ps fa (M.bd ea fun a => M.rt (ca a)) cD := XM_as ha fun _ => rfl
theorem XM_prj {k : Int} {π : α → δ} (ha : XM Ps fa ea ca) (hp : ∀ a, D.ix (ca a) (.int k) = some (cr (π a))) : XM Ps (eBin D.ix fa (eC (.int k))) (M.bd ea fun a => M.rt (π a)) cr := fun s ρ h =>
  Sm.bd (ha s ρ h) (fun a s1 ⟨r, ρ1⟩ ⟨h1, q1⟩ => by
    have h1 : ER (Ps s1) ρ1 := h1
    show Sm ((Res.of (look ρ1 r)).bind fun d1 => (Res.of (D.ix d1 (.int k))).bind fun d => .ok (RV.leaf d, ρ1)) _ _ _
    rw [q1.1 _ _ h1]
    simp only [of_some, bind_ok, hp]
    exact Sm.okI ⟨h1, .leaf⟩) fun _ h => h
theorem ALM_nil : ALM Ps aNil (M.rt ()) fun _ => [] := fun s ρ h => Sm.okI ⟨h, fun _ _ _ => rfl⟩
theorem ALM_cons {fr : Env' → Res (List RV × Env')} {er : S → Out (β × S)} {dn : β → List FL.D} (ha : XM Ps fa ea ca) (hr : ALM Ps fr er dn) : ALM Ps (aCons fa fr) (M.bd ea fun a => M.bd er fun b => M.rt (a, b)) fun g => ca g.1 :: dn g.2 := fun s ρ h =>
  Sm.bd (ha s ρ h) (fun a s1 ⟨r, ρ1⟩ ⟨h1, q1⟩ => Sm.bd (hr s1 ρ1 h1) (fun b s2 ⟨rs, ρ2⟩ ⟨h2, q2⟩ => Sm.okI ⟨h2, fun s ρ h => by simp [looks, q1.1 s ρ h, q2 s ρ h]⟩) fun _ h => h) fun _ h => h
theorem AM_nil : AM Ps aNil (M.rt ()) fun _ => [] := fun s ρ h => Sm.okI ⟨rfl, h⟩
theorem AM_cons {fr : Env' → Res (List RV × Env')} {er : S → Out (β × S)} {dn : β → List FL.D} (ha : XM Ps fa ea ca) (hr : AM Ps fr er dn) : AM Ps (aConsE fa fr) (M.bd ea fun a => M.bd er fun b => M.rt (a, b)) fun g => ca g.1 :: dn g.2 := fun s ρ h =>
  Sm.bd (ha s ρ h) (fun a s1 ⟨r, ρ1⟩ ⟨h1, q1⟩ => by
    obtain ⟨ρ', e1, e2⟩ := q1.2 s1 ρ1 h1
    show Sm ((Res.of (esc ρ1 r)).bind fun (d, ρ1') => (fr ρ1').bind fun (rs, ρ2) => .ok (RV.leaf d :: rs, ρ2)) _ _ _
    rw [e1]
    show Sm ((fr ρ').bind fun (rs, ρ2) => .ok (RV.leaf (ca a) :: rs, ρ2)) _ _ _
    exact Sm.bd (hr s1 ρ' e2) (fun b s2 ⟨rs, ρ2⟩ ⟨h2, q2⟩ => Sm.okI ⟨by rw [show rs = _ from h2]; rfl, q2⟩) fun _ h => h) fun _ h => h
theorem XM_B {g : List FL.D → Option FL.D} {fs : Env' → Res (List RV × Env')} {dn : α → List FL.D} {f : α → Out δ} (ho : BT g dn cr f) (ha : ALM Ps fs ea dn) : XM Ps (eB g fs) (M.bd ea fun a => M.up (f a)) cr := fun s ρ h =>
  Sm.bd (ha s ρ h) (fun a s1 ⟨rs, ρ1⟩ ⟨h1, q1⟩ => by
    have h1 : ER (Ps s1) ρ1 := h1
    have o := ho a
    simp only [RO, ROL, ROB] at o
    show Sm ((Res.of (looks ρ1 rs)).bind fun ds => (Res.of (g ds)).bind fun d => .ok (RV.leaf d, ρ1)) _ _ _
    rw [q1 _ _ h1]
    unfold M.up
    cases e : f a with
    | ok r => rw [e] at o; simp only [of_some, bind_ok, o]; exact Sm.okI ⟨h1, .leaf⟩
    | exc c => rw [e] at o; exact o.elim
    | bad => trivial) fun _ h => h
theorem M.bd_unit {m : S → Out (α × S)} {k : α × Unit → S → Out (β × S)} : M.bd (M.bd m fun a => M.bd (M.rt ()) fun b => M.rt (a, b)) k = M.bd m fun a => k (a, ()) := by
  funext s
  unfold M.bd M.rt
  cases m s <;> rfl
theorem XM_eq {e e' : S → Out (α × S)} (h : XM Ps fa e ca) (q : e' = e) : XM Ps fa e' ca := q ▸ h
theorem NM_eq {e e' : S → Out (α × S)} {na : Env' → Res (T × Env')} {t : α → T} (h : NM Ps na e t) (q : e' = e) : NM Ps na e' t := q ▸ h
theorem TM_eq {e e' : S → Out (Bool × S)} {ta : Env' → Res (Bool × Env')} (h : TM Ps ta e) (q : e' = e) : TM Ps ta e' := q ▸ h
theorem IM_eq {e e' : S → Out (List α × S)} {fi : Env' → Res (List FL.D × Env')} (h : IM Ps fi e ca) (q : e' = e) : IM Ps fi e' ca := q ▸ h
theorem XM_B1 {g : List FL.D → Option FL.D} {f : α → Out δ} (ho : ∀ a, RO (g [ca a]) (f a) cr) (ha : XM Ps fa ea ca) : XM Ps (eB g (aCons fa aNil)) (M.bd ea fun a => M.up (f a)) cr := by
  have := XM_B (g := g) (dn := fun x : α × Unit => [ca x.1]) (f := fun p : α × Unit => f p.1) (cr := cr) (fun a => ho a.1) (ALM_cons ha ALM_nil)
  rw [M.bd_unit] at this
  exact this
/-- a call of a def that changes nothing -/
theorem XM_cl {mf : List FL.D → FL.Out FL.D} {fs : Env' → Res (List RV × Env')} {dn : α → List FL.D} {p : α → Out δ} (ha : AM Ps fs ea dn) (hm : ∀ a, Sim (mf (dn a)) (p a) cr) : XM Ps (eCall mf fs) (M.bd ea fun a => M.up (p a)) cr := fun s ρ h =>
  Sm.bd (ha s ρ h) (fun a s1 ⟨rs, ρ1⟩ ⟨h1, q1⟩ => by
    have h1 : rs = _ := h1
    have o := hm a
    show Sm ((Res.of (leafs rs)).bind fun ds => match mf ds with
      | .ok d => .ok (RV.leaf d, ρ1)
      | .exc c => .exc c ρ1
      | .bad => .bad) _ _ _
    rw [h1, leafs_leaf, of_some, bind_ok]
    unfold M.up
    cases e : p a with
    | ok r => rw [e] at o; rw [show mf (dn a) = _ from o]; exact Sm.okI ⟨q1, .leaf⟩
    | exc c => rw [e] at o; rw [show mf (dn a) = _ from o]; exact ⟨_, rfl, _, q1⟩
    | bad => trivial) fun _ h => h
theorem NM_cl {mf : List FL.D → FL.Out T} {fs : Env' → Res (List RV × Env')} {dn : α → List FL.D} {p : α → Out δ} {t : δ → T} (ha : AM Ps fs ea dn) (hm : ∀ a, SimT (mf (dn a)) (p a) t) : NM Ps (nCall mf fs) (M.bd ea fun a => M.up (p a)) t := fun s ρ h =>
  Sm.bd (ha s ρ h) (fun a s1 ⟨rs, ρ1⟩ ⟨h1, q1⟩ => by
    have h1 : rs = _ := h1
    have o := hm a
    show Sm ((Res.of (leafs rs)).bind fun ds => match mf ds with
      | .ok d => .ok (d, ρ1)
      | .exc c => .exc c ρ1
      | .bad => .bad) _ _ _
    rw [h1, leafs_leaf, of_some, bind_ok]
    unfold M.up
    cases e : p a with
    | ok r => rw [e] at o; rw [show mf (dn a) = _ from o]; exact Sm.okI ⟨rfl, q1⟩
    | exc c => rw [e] at o; rw [show mf (dn a) = _ from o]; exact ⟨_, rfl, _, q1⟩
    | bad => trivial) fun _ h => h
theorem XM_tup {fs : Env' → Res (List RV × Env')} {dn : α → List FL.D} {n : Nat} (ha : AM Ps fs ea dn) (hn : ∀ a, (dn a).length = n) (h16 : n ≤ 16777216) {π : α → δ} (hc : ∀ a, D.tup (dn a) = cr (π a)) : XM Ps (eTup fs) (M.bd ea fun a => M.rt (π a)) cr := fun s ρ h =>
  Sm.bd (ha s ρ h) (fun a s1 ⟨rs, ρ1⟩ ⟨h1, q1⟩ => by
    have h1 : rs = _ := h1
    show Sm ((Res.of (leafs rs)).bind fun ds => if ds.length ≤ sizeLine then .ok (RV.leaf (.tup ds), ρ1) else .bad) _ _ _
    rw [h1, leafs_leaf, of_some, bind_ok, if_pos (size_le (by rw [hn]; exact h16)), hc]
    exact Sm.okI ⟨q1, .leaf⟩) fun _ h => h
theorem NM_of (ha : XM Ps fa ea ca) : NM Ps (nOf fa) ea (oS ca) := fun s ρ h => by
  have q := ha s ρ h
  cases e : ea s with
  | ok a =>
    rw [e] at q
    obtain ⟨⟨r, ρ1⟩, e1, e2, e3⟩ := q
    obtain ⟨ρ', e4, e5⟩ := e3.2 _ ρ1 e2
    refine ⟨(T.sh (ca a.1), ρ'), ?_, rfl, e5⟩
    unfold nOf
    rw [e1]
    show ((Res.of (esc ρ1 r)).bind fun (d, ρ2) => Res.ok (T.sh d, ρ2)) = _
    rw [e4]; rfl
  | exc c =>
    rw [e] at q
    obtain ⟨ρ', e1, e2⟩ := q
    exact ⟨ρ', by unfold nOf; rw [e1]; rfl, e2⟩
  | bad => trivial
theorem XM_of {na : Env' → Res (T × Env')} {t : α → T} (ha : NM Ps na ea t) (ht : ∀ a, (t a).d = ca a) : XM Ps (oOf na) ea ca := fun s ρ h => by
  have q := ha s ρ h
  cases e : ea s with
  | ok a =>
    rw [e] at q
    obtain ⟨⟨t', ρ1⟩, e1, e2, e3⟩ := q
    have e2 : t' = _ := e2
    subst e2
    refine ⟨(RV.leaf (t a.1).d, ρ1), ?_, e3, by rw [ht]; exact .leaf⟩
    unfold oOf
    rw [e1]; rfl
  | exc c =>
    rw [e] at q
    obtain ⟨ρ', e1, e2⟩ := q
    exact ⟨ρ', by unfold oOf; rw [e1]; rfl, e2⟩
  | bad => trivial
theorem XM_ofL {na : Env' → Res (T × Env')} {ea : S → Out (List α × S)} (ha : NM Ps na ea (oL ca)) : XM Ps (oOf na) ea (cL ca) := XM_of ha fun a => oL_d ca a
theorem XM_ofS {na : Env' → Res (T × Env')} (ha : NM Ps na ea (oS ca)) : XM Ps (oOf na) ea ca := XM_of ha fun a => rfl
theorem NKM_nil {t : α → T} : NKM 0 Ps atNil (M.rt []) t := fun s ρ h => Sm.okI ⟨rfl, rfl, h⟩
theorem NKM_cons {n : Nat} {na : Env' → Res (T × Env')} {nr : Env' → Res (List T × Env')} {er : S → Out (List α × S)} {t : α → T} (ha : NM Ps na ea t) (hr : NKM n Ps nr er t) : NKM (n + 1) Ps (atCons na nr) (M.bd ea fun a => M.bd er fun r => M.rt (a :: r)) t := fun s ρ h =>
  Sm.bd (ha s ρ h) (fun a s1 ⟨t', ρ1⟩ ⟨h1, q1⟩ => Sm.bd (hr s1 ρ1 q1) (fun b s2 ⟨ts, ρ2⟩ ⟨h2, h3, q2⟩ => by
    have h1 : t' = _ := h1
    have h2 : ts = _ := h2
    subst h1; subst h2
    exact Sm.okI ⟨rfl, by simp [show b.length = n from h3], q2⟩) fun _ h => h) fun _ h => h
theorem NM_lstn {n : Nat} {ns : Env' → Res (List T × Env')} {e : S → Out (List α × S)} (h : NKM n Ps ns e (oS ca)) (h16 : n ≤ 16777216) : NM Ps (nLst ns) e (oL ca) := fun s ρ h0 => by
  have q := h s ρ h0
  cases e' : e s with
  | ok a =>
    rw [e'] at q
    obtain ⟨⟨ts, ρ1⟩, e1, e2, e3, e4⟩ := q
    have e2 : ts = _ := e2
    subst e2
    refine ⟨(oL ca a.1, ρ1), ?_, rfl, e4⟩
    unfold nLst
    rw [e1]
    show (if (a.1.map (oS ca)).length ≤ sizeLine then Res.ok (T.lst (a.1.map (oS ca)), ρ1) else .bad) = _
    rw [if_pos (size_le (by rw [List.length_map, e3]; exact h16))]
    rfl
  | exc c =>
    rw [e'] at q
    obtain ⟨ρ', e1, e2⟩ := q
    exact ⟨ρ', by unfold nLst; rw [e1]; rfl, e2⟩
  | bad => trivial
theorem NM_B1 {g : List FL.D → Option (List FL.D)} {f : α → Out (List δ)} (ho : ∀ a, ROL (g [ca a]) (f a) cr) (ha : XM Ps fa ea ca) : NM Ps (nB g (aCons fa aNil)) (M.bd ea fun a => M.up (f a)) (oL cr) := by
  have ha' := ALM_cons ha ALM_nil
  have : NM Ps (nB g (aCons fa aNil)) (M.bd (M.bd ea fun a => M.bd (M.rt ()) fun b => M.rt (a, b)) fun p : α × Unit => M.up (f p.1)) (oL cr) := fun s ρ h =>
    Sm.bd (ha' s ρ h) (fun a s1 ⟨rs, ρ1⟩ ⟨h1, q1⟩ => by
      have h1 : ER (Ps s1) ρ1 := h1
      have o := ho a.1
      simp only [RO, ROL, ROB] at o
      show Sm ((Res.of (looks ρ1 rs)).bind fun ds => (Res.of (g ds)).bind fun es => .ok (T.lst (es.map T.sh), ρ1)) _ _ _
      rw [q1 _ _ h1]
      unfold M.up
      simp only [of_some, bind_ok]
      cases e : f a.1 with
      | ok r => rw [e] at o; rw [show g [ca a.1] = _ from o]; exact Sm.okI ⟨by simp [oL, Function.comp_def], h1⟩
      | exc c => rw [e] at o; exact o.elim
      | bad => trivial) fun _ h => h
  rw [M.bd_unit] at this
  exact this
theorem NM_bin {g : FL.D → FL.D → Option (List FL.D)} {f : α → β → Out (List δ)} (ho : ∀ a b, ROL (g (ca a) (cb b)) (f a b) cr) (ha : XM Ps fa ea ca) (hb : XM Ps fb eb cb) : NM Ps (nBin g fa fb) (M.bd ea fun a => M.bd eb fun b => M.up (f a b)) (oL cr) := fun s ρ h =>
  Sm.bd (ha s ρ h) (fun a s1 ⟨r, ρ1⟩ ⟨h1, q1⟩ => Sm.bd (hb s1 ρ1 h1) (fun b s2 ⟨r2, ρ2⟩ ⟨h2, q2⟩ => by
    have h2 : ER (Ps s2) ρ2 := h2
    have o := ho a b
    simp only [RO, ROL, ROB] at o
    show Sm ((Res.of (look ρ2 r)).bind fun d1 => (Res.of (look ρ2 r2)).bind fun d2 => (Res.of (g d1 d2)).bind fun es => .ok (T.lst (es.map T.sh), ρ2)) _ _ _
    rw [q1.1 _ _ h2, q2.1 _ _ h2]
    unfold M.up
    cases e : f a b with
    | ok r => rw [e] at o; simp only [of_some, bind_ok, o]; exact Sm.okI ⟨by simp [oL, Function.comp_def], h2⟩
    | exc c => rw [e] at o; exact o.elim
    | bad => trivial) fun _ h => h) fun _ h => h
/-- the promise of a def that changes the list handed to it -/
def SimIO (m : List T → List FL.D → Option (T × List T)) (ts : S → List T) (ds : List FL.D) (p : S → Out (δ × S)) (t : δ → T) : Prop := ∀ s r s', p s = .ok (r, s') → m (ts s) ds = some (t r, ts s')
theorem NM_io {m : List T → List FL.D → Option (T × List T)} {fs : Env' → Res (List RV × Env')} {dn : α → List FL.D} {p : α → S → Out (δ × S)} {t : δ → T} {ts : S → List T} (D : Dk i o Ps) (ho : (∀ s, o s = .lst (ts s)) ∨ ∃ b, ∀ s, o s = .at b (ts s)) (ha : AM Ps fs ea dn) (hm : ∀ a, SimIO m ts (dn a) (p a) t) :
    NM Ps (callIO i m fs) (M.bd ea fun a => M.nx (p a)) t := fun s ρ h => by
  obtain ⟨w, e1, e2⟩ := h.get (D.pt s)
  have e2 : w = some (o s) := e2
  subst e2
  have q := ha s ρ h
  have hv : eVar i ρ = .ok (.slot i, ρ) := by
    unfold eVar
    rw [e1]
    rcases ho with ho | ⟨b, ho⟩ <;> rw [ho]
  have key : ∀ rs ρ1, fs ρ = .ok (rs, ρ1) → aCons (eVar i) fs ρ = .ok (.slot i :: rs, ρ1) := fun rs ρ1 e => by
    unfold aCons
    rw [hv, bind_ok]
    show ((fs ρ).bind fun (rs, ρ2) => Res.ok (RV.slot i :: rs, ρ2)) = _
    rw [e]; rfl
  unfold M.bd
  cases e : ea s with
  | ok a =>
    rw [e] at q
    obtain ⟨⟨rs, ρ1⟩, e3, e4, e5⟩ := q
    have e4 : rs = _ := e4
    subst e4
    show Sm _ (M.nx (p a.1) a.2) _ _
    unfold M.nx
    cases e6 : p a.1 a.2 with
    | bad => trivial
    | exc c => trivial
    | ok r =>
      have hm' := hm a.1 a.2 r.1 r.2 e6
      obtain ⟨w, e7, e8⟩ := e5.get (D.pt a.2)
      have e8 : w = some (o a.2) := e8
      subst e8
      have e7 : ρ1[i]? = some (some (o a.2)) := e7
      refine ⟨(t r.1, ρ1.set i (some (o r.2))), ?_, rfl, ?_⟩
      · unfold callIO
        rw [key _ _ e3]
        show ((Res.of (leafs ((dn a.1).map RV.leaf))).bind fun ds => match ρ1[i]? with
          | some (some (.lst ts)) => (Res.of (m ts ds)).bind fun (t, ts') => .ok (t, ρ1.set i (some (.lst ts')))
          | some (some (T.at a ts)) => (Res.of (m ts ds)).bind fun (t, ts') => .ok (t, ρ1.set i (some (.at a ts')))
          | _ => .bad) = _
        rw [leafs_leaf, of_some, bind_ok, e7]
        rcases ho with ho | ⟨b, ho⟩
        · rw [ho, ho]
          show ((Res.of (m (ts a.2) (dn a.1))).bind fun (t, ts') => Res.ok (t, ρ1.set i (some (.lst ts')))) = _
          rw [hm']; rfl
        · rw [ho, ho]
          show ((Res.of (m (ts a.2) (dn a.1))).bind fun (t, ts') => Res.ok (t, ρ1.set i (some (T.at b ts')))) = _
          rw [hm']; rfl
      · show ER (Ps r.2) (ρ1.set i (some (o r.2)))
        rw [D.sw a.2 r.2]; exact e5.set i rfl
  | exc c =>
    rw [e] at q
    obtain ⟨ρ', e1, e2⟩ := q
    refine ⟨ρ', ?_, e2⟩
    unfold callIO aCons
    rw [hv, bind_ok]
    show (((fs ρ).bind fun (rs, ρ2) => Res.ok (RV.slot i :: rs, ρ2)).bind _) = _
    rw [e1]; rfl
  | bad => trivial
/-! tests -/
theorem TM_v {e : S → Out (Bool × S)} (ha : XM Ps fa e cB) : TM Ps (tstV fa) e := fun s ρ h => by
  have q := ha s ρ h
  cases e' : e s with
  | ok a =>
    rw [e'] at q
    obtain ⟨⟨r, ρ1⟩, e1, e2, e3⟩ := q
    refine ⟨(a.1, ρ1), ?_, rfl, e2⟩
    unfold tstV
    rw [e1]
    show (match look ρ1 r with
        | some (.bl b) => Res.ok (b, ρ1)
        | _ => .bad) = _
    rw [e3.1 _ _ e2]; rfl
  | exc c =>
    rw [e'] at q
    obtain ⟨ρ', e1, e2⟩ := q
    exact ⟨ρ', by unfold tstV; rw [e1]; rfl, e2⟩
  | bad => trivial
theorem TM_t {f : α → Out Bool} (ho : ∀ a, ROB (D.truth (ca a)) (f a)) (ha : XM Ps fa ea ca) : TM Ps (tstT fa) (M.bd ea fun a => M.up (f a)) := fun s ρ h =>
  Sm.bd (ha s ρ h) (fun a s1 ⟨r, ρ1⟩ ⟨h1, q1⟩ => by
    have h1 : ER (Ps s1) ρ1 := h1
    have o := ho a
    simp only [RO, ROL, ROB] at o
    show Sm ((Res.of ((look ρ1 r).bind D.truth)).bind fun b => .ok (b, ρ1)) _ _ _
    rw [q1.1 _ _ h1]
    unfold M.up
    cases e : f a with
    | ok r => rw [e] at o; simp only [Option.bind_some, of_some, bind_ok, o]; exact Sm.okI ⟨rfl, h1⟩
    | exc c => rw [e] at o; exact o.elim
    | bad => trivial) fun _ h => h
theorem M.bd_up_ok {m : S → Out (α × S)} : M.bd m (fun a => M.up (.ok a)) = m := by
  funext s
  unfold M.bd M.up
  cases m s <;> rfl
theorem TM_tB {e : S → Out (Bool × S)} (ha : XM Ps fa e cB) : TM Ps (tstT fa) e := by
  have := TM_t (f := Out.ok) (fun a => (rfl : D.truth (cB a) = some a)) ha
  rw [M.bd_up_ok] at this
  exact this
variable {ta tb : Env' → Res (Bool × Env')} {e1 e2 : S → Out (Bool × S)}
theorem TM_yes : TM Ps ttYes (M.rt true) := fun s ρ h => Sm.okI ⟨rfl, h⟩
theorem TM_not (ha : TM Ps ta e1) : TM Ps (tstNot ta) (M.bd e1 fun b => M.rt (!b)) := fun s ρ h =>
  Sm.bd (ha s ρ h) (fun a s1 ⟨b, ρ1⟩ ⟨h1, q1⟩ => Sm.okI ⟨by rw [show b = a from h1], q1⟩) fun _ h => h
theorem TM_and (ha : TM Ps ta e1) (hb : TM Ps tb e2) : TM Ps (tstAnd ta tb) (M.bd e1 fun b => if b = true then e2 else M.rt false) := fun s ρ h =>
  Sm.bd (ha s ρ h) (fun a s1 ⟨b, ρ1⟩ ⟨h1, q1⟩ => by
    have h1 : b = a := h1
    subst h1
    show Sm (if b = true then tb ρ1 else .ok (false, ρ1)) _ _ _
    cases b with
    | true => exact hb s1 ρ1 q1
    | false => exact Sm.okI ⟨rfl, q1⟩) fun _ h => h
theorem TM_or (ha : TM Ps ta e1) (hb : TM Ps tb e2) : TM Ps (tstOr ta tb) (M.bd e1 fun b => if b = true then M.rt true else e2) := fun s ρ h =>
  Sm.bd (ha s ρ h) (fun a s1 ⟨b, ρ1⟩ ⟨h1, q1⟩ => by
    have h1 : b = a := h1
    subst h1
    show Sm (if b = true then .ok (true, ρ1) else tb ρ1) _ _ _
    cases b with
    | false => exact hb s1 ρ1 q1
    | true => exact Sm.okI ⟨rfl, q1⟩) fun _ h => h
theorem XM_not {ea : S → Out (Bool × S)} (ha : XM Ps fa ea cB) : XM Ps (eNot fa) (M.bd ea fun b => M.rt (!b)) cB := fun s ρ h =>
  Sm.bd (ha s ρ h) (fun a s1 ⟨r, ρ1⟩ ⟨h1, q1⟩ => by
    have h1 : ER (Ps s1) ρ1 := h1
    show Sm (match look ρ1 r with
      | some (.bl b) => .ok (RV.leaf (.bl (!b)), ρ1)
      | _ => .bad) _ _ _
    rw [q1.1 _ _ h1]
    exact Sm.okI ⟨h1, .leaf⟩) fun _ h => h
theorem XM_and {ea eb : S → Out (Bool × S)} (ha : XM Ps fa ea cB) (hb : XM Ps fb eb cB) : XM Ps (eAnd fa fb) (M.bd ea fun b => if b = true then eb else M.rt false) cB := fun s ρ h =>
  Sm.bd (ha s ρ h) (fun a s1 ⟨r, ρ1⟩ ⟨h1, q1⟩ => by
    have h1 : ER (Ps s1) ρ1 := h1
    show Sm (match look ρ1 r with
      | some (.bl true) => fb ρ1
      | some (.bl false) => .ok (RV.leaf (.bl false), ρ1)
      | _ => .bad) _ _ _
    rw [q1.1 _ _ h1]
    cases a with
    | true => exact hb s1 ρ1 h1
    | false => exact Sm.okI ⟨h1, .leaf⟩) fun _ h => h
theorem XM_or {ea eb : S → Out (Bool × S)} (ha : XM Ps fa ea cB) (hb : XM Ps fb eb cB) : XM Ps (eOr fa fb) (M.bd ea fun b => if b = true then M.rt true else eb) cB := fun s ρ h =>
  Sm.bd (ha s ρ h) (fun a s1 ⟨r, ρ1⟩ ⟨h1, q1⟩ => by
    have h1 : ER (Ps s1) ρ1 := h1
    show Sm (match look ρ1 r with
      | some (.bl false) => fb ρ1
      | some (.bl true) => .ok (RV.leaf (.bl true), ρ1)
      | _ => .bad) _ _ _
    rw [q1.1 _ _ h1]
    cases a with
    | false => exact hb s1 ρ1 h1
    | true => exact Sm.okI ⟨h1, .leaf⟩) fun _ h => h
theorem XM_if {et : S → Out (Bool × S)} {ea eb : S → Out (α × S)} (ht : TM Ps ta et) (ha : XM Ps fa ea ca) (hb : XM Ps fb eb ca) : XM Ps (eIf ta fa fb) (M.bd et fun b => if b = true then ea else eb) ca := fun s ρ h =>
  Sm.bd (ht s ρ h) (fun a s1 ⟨b, ρ1⟩ ⟨h1, q1⟩ => by
    have h1 : b = a := h1
    subst h1
    show Sm (if b = true then fa ρ1 else fb ρ1) _ _ _
    cases b with
    | true => exact ha s1 ρ1 q1
    | false => exact hb s1 ρ1 q1) fun _ h => h
theorem NM_if {et : S → Out (Bool × S)} {na nb : Env' → Res (T × Env')} {ea eb : S → Out (α × S)} {t : α → T} (ht : TM Ps ta et) (ha : NM Ps na ea t) (hb : NM Ps nb eb t) : NM Ps (nIf ta na nb) (M.bd et fun b => if b = true then ea else eb) t := fun s ρ h =>
  Sm.bd (ht s ρ h) (fun a s1 ⟨b, ρ1⟩ ⟨h1, q1⟩ => by
    have h1 : b = a := h1
    subst h1
    show Sm (if b = true then na ρ1 else nb ρ1) _ _ _
    cases b with
    | true => exact ha s1 ρ1 q1
    | false => exact hb s1 ρ1 q1) fun _ h => h
/-! what is walked -/
theorem IM_seq {f : α → List ι} (ho : ∀ a, D.walk (ca a) = some ((f a).map ci)) (ha : XM Ps fa ea ca) : IM Ps (iSeq fa) (M.bd ea fun a => M.rt (f a)) ci := fun s ρ h =>
  Sm.bd (ha s ρ h) (fun a s1 ⟨r, ρ1⟩ ⟨h1, q1⟩ => by
    obtain ⟨ρ', e1, e2⟩ := q1.2 s1 ρ1 h1
    show Sm ((Res.of (esc ρ1 r)).bind fun (d, ρ2) => (Res.of d.walk).bind fun ds => .ok (ds, ρ2)) _ _ _
    rw [e1]
    show Sm ((Res.of (ca a).walk).bind fun ds => .ok (ds, ρ')) _ _ _
    rw [ho]
    exact Sm.okI ⟨rfl, e2⟩) fun _ h => h
theorem IM_L {e : S → Out (List α × S)} (ha : XM Ps fa e (cL ca)) : IM Ps (iSeq fa) e ca := IM_eq (IM_seq (f := fun a => a) (fun _ => rfl) ha) (by funext s; unfold M.bd M.rt; cases e s <;> rfl)
theorem IM_U {e : S → Out (List α × S)} (ha : XM Ps fa e (cU ca)) : IM Ps (iSeq fa) e ca := IM_eq (IM_seq (f := fun a => a) (fun _ => rfl) ha) (by funext s; unfold M.bd M.rt; cases e s <;> rfl)
theorem IM_r1 {e : S → Out (Int × S)} (ha : XM Ps fa e cI) : IM Ps (iRange1 (aCons fa aNil)) (M.bd e fun j => M.up (rng1 j)) cI := by
  have ha' := ALM_cons ha ALM_nil
  have : IM Ps (iRange1 (aCons fa aNil)) (M.bd (M.bd e fun a => M.bd (M.rt ()) fun b => M.rt (a, b)) fun p : Int × Unit => M.up (rng1 p.1)) cI := fun s ρ h =>
    Sm.bd (ha' s ρ h) (fun a s1 ⟨rs, ρ1⟩ ⟨h1, q1⟩ => by
      have h1 : ER (Ps s1) ρ1 := h1
      show Sm (match looks ρ1 rs with
        | some [.int j] => if rOk j then .ok (rangeD 0 j.toNat, ρ1) else .bad
        | _ => .bad) _ _ _
      rw [q1 _ _ h1]
      unfold M.up rng1
      show Sm (if rOk a.1 then .ok (rangeD 0 a.1.toNat, ρ1) else .bad) _ _ _
      by_cases hr : rOk a.1
      · rw [if_pos hr, if_pos hr]
        exact Sm.okI ⟨by simp [rangeD, rng, cI, Function.comp_def], h1⟩
      · rw [if_neg hr, if_neg hr]; trivial) fun _ h => h
  rw [M.bd_unit] at this
  exact this
theorem M.bd_unit2 {m : S → Out (α × S)} {m' : S → Out (β × S)} {k : α × β × Unit → S → Out (γ × S)} : M.bd (M.bd m fun a => M.bd (M.bd m' fun b => M.bd (M.rt ()) fun c => M.rt (b, c)) fun b => M.rt (a, b)) k = M.bd m fun a => M.bd m' fun b => k (a, b, ()) := by
  funext s
  unfold M.bd M.rt
  cases m s with
  | ok p => simp only [Out.ok_bind]; cases m' p.2 <;> rfl
  | exc c => rfl
  | bad => rfl
theorem IM_r2 {e e' : S → Out (Int × S)} (ha : XM Ps fa e cI) (hb : XM Ps fb e' cI) : IM Ps (iRange2 (aCons fa (aCons fb aNil))) (M.bd e fun i => M.bd e' fun j => M.up (rng2 i j)) cI := by
  have ha' := ALM_cons ha (ALM_cons hb ALM_nil)
  have : IM Ps (iRange2 (aCons fa (aCons fb aNil))) (M.bd (M.bd e fun a => M.bd (M.bd e' fun b => M.bd (M.rt ()) fun c => M.rt (b, c)) fun b => M.rt (a, b)) fun p : Int × Int × Unit => M.up (rng2 p.1 p.2.1)) cI := fun s ρ h =>
    Sm.bd (ha' s ρ h) (fun a s1 ⟨rs, ρ1⟩ ⟨h1, q1⟩ => by
      have h1 : ER (Ps s1) ρ1 := h1
      show Sm (match looks ρ1 rs with
        | some [.int i, .int j] => if rOk i ∧ rOk j then .ok (rangeD i (j - i).toNat, ρ1) else .bad
        | _ => .bad) _ _ _
      rw [q1 _ _ h1]
      unfold M.up rng2
      show Sm (if rOk a.1 ∧ rOk a.2.1 then .ok (rangeD a.1 (a.2.1 - a.1).toNat, ρ1) else .bad) _ _ _
      by_cases hr : rOk a.1 ∧ rOk a.2.1
      · rw [if_pos hr, if_pos hr]
        exact Sm.okI ⟨by simp [rangeD, rng, cI, Function.comp_def], h1⟩
      · rw [if_neg hr, if_neg hr]; trivial) fun _ h => h
  rw [M.bd_unit2] at this
  exact this
/-! comprehensions -/
theorem Sm.nxM {X : Type} {x : Res X} {m : S → Out (α × S)} {s : S} {K : α × S → X → Prop} {E E' : Env' → Prop} (h : Sm x (m s) K E) : Sm x.nx (M.nx m s) K E' := Sm.nxE h
theorem lc_goM {Pw : S → List Sl} {gt : FL.D → Env' → Option Env'} {tt : Env' → Res (Bool × Env')} {ne : Env' → Res (T × Env')} {vs : List Nat} {Qs : ι → S → List Sl} {t : ι → S → Out (Bool × S)} {e : ι → S → Out (α × S)} {tn : α → T}
    (hg : ∀ x s, GJ (Pw s) gt (ci x) (Qs x s)) (ht : ∀ x, TM (Qs x) tt (t x)) (he : ∀ x, NM (Qs x) ne (e x) tn) (hw : ∀ x s ρ, ER (Qs x s) ρ → ER (Pw s) (wipeE ρ vs)) : ∀ (xs : List ι) (s : S) (ρ : Env'), ER (Pw s) ρ →
    Sm (lcGo gt tt ne vs (xs.map ci) ρ) (lcMS t e xs s) (fun a b => b.1 = a.1.map tn ∧ ER (Pw a.2) b.2) (fun _ => False)
  | [], s, ρ, h => Sm.okI ⟨rfl, h⟩
  | x :: xs, s, ρ, h => by
    obtain ⟨ρ1, e1, e2⟩ := hg x s ρ h
    have q : lcGo gt tt ne vs ((x :: xs).map ci) ρ = (tt ρ1).nx.bind fun (b, ρ2) => if b = true then (ne ρ2).nx.bind fun (t, ρ3) => (lcGo gt tt ne vs (xs.map ci) (wipeE ρ3 vs)).bind fun (ts, ρ4) => .ok (t :: ts, ρ4) else lcGo gt tt ne vs (xs.map ci) (wipeE ρ2 vs) := by
      rw [List.map_cons, lcGo, e1]; rfl
    rw [q]
    unfold lcMS
    refine Sm.bd (Sm.nxM (E' := fun _ => False) (ht x s ρ1 e2)) (fun b s1 ⟨b', ρ2⟩ ⟨h1, h2⟩ => ?_) fun _ h => h
    have h1 : b' = b := h1
    subst h1
    show Sm (if b' = true then _ else _) ((if b' = true then _ else _ : S → Out (List α × S)) s1) _ _
    cases b' with
    | false => exact lc_goM hg ht he hw xs s1 _ (hw x _ _ h2)
    | true =>
      show Sm ((ne ρ2).nx.bind fun (t, ρ3) => (lcGo gt tt ne vs (xs.map ci) (wipeE ρ3 vs)).bind fun (ts, ρ4) => .ok (t :: ts, ρ4)) (M.bd (M.nx (e x)) (fun a => M.bd (lcMS t e xs) fun r => M.rt (a :: r)) s1) _ _
      refine Sm.bd (Sm.nxM (E' := fun _ => False) (he x s1 ρ2 h2)) (fun a s2 ⟨t', ρ3⟩ ⟨h3, h4⟩ => ?_) fun _ h => h
      refine Sm.bd (lc_goM hg ht he hw xs s2 _ (hw x _ _ h4)) (fun r s3 ⟨ts, ρ4⟩ ⟨h5, h6⟩ => ?_) fun _ h => h
      have h3 : t' = _ := h3
      have h5 : ts = _ := h5
      subst h3; subst h5
      exact Sm.okI ⟨rfl, h6⟩
theorem NM_lc {fi : Env' → Res (List FL.D × Env')} {gt : FL.D → Env' → Option Env'} {tt : Env' → Res (Bool × Env')} {ne : Env' → Res (T × Env')} {vs : List Nat} {Qs : ι → S → List Sl} {xs : S → Out (List ι × S)} {t : ι → S → Out (Bool × S)} {e : ι → S → Out (α × S)}
    (hf : ∀ s, Free (Ps s) vs) (hi : IM Ps fi xs ci) (hg : ∀ x s, GJ (Ps s) gt (ci x) (Qs x s)) (hl : ∀ x s, LeS (Qs x s) (Ps s)) (ht : ∀ x, TM (Qs x) tt (t x)) (he : ∀ x, NM (Qs x) ne (e x) (oS ca)) :
    NM Ps (nLc fi gt tt ne vs) (M.bd xs fun xs => lcS t e xs) (oL ca) := fun s ρ h =>
  Sm.bd (hi s ρ h) (fun xs s1 ⟨ds, ρ1⟩ ⟨h1, h2⟩ => by
    have h1 : ds = _ := h1
    subst h1
    have h2 : ER (Ps s1) ρ1 := h2
    show Sm (if (xs.map ci).length ≤ sizeLine then (lcGo gt tt ne vs (xs.map ci) (wipeE ρ1 vs)).bind fun (ts, ρ2) => .ok (T.lst ts, backE ρ1 ρ2 vs) else .bad) (lcS t e xs s1) _ _
    unfold lcS
    by_cases hs : xs.length ≤ 16777216
    · rw [if_pos (size_le (by rw [List.length_map]; exact hs)), if_pos hs]
      have q := lc_goM hg ht he (fun x s ρ h => wipe_er (hf s) ((hl x s).er h)) xs s1 _ (wipe_er (hf s1) h2)
      cases e' : lcMS t e xs s1 with
      | ok a =>
        rw [e'] at q
        obtain ⟨⟨ts, ρ2⟩, e1, e2, e3⟩ := q
        have e2 : ts = _ := e2
        subst e2
        rw [e1]
        exact Sm.okI ⟨rfl, back_er (hf _) e3⟩
      | exc c => rw [e'] at q; obtain ⟨ρ', _, f⟩ := q; exact f.elim
      | bad => trivial
    · rw [if_neg hs]; trivial) fun _ h => h
end
end
end TL

namespace TL
open PySem PySem.Spec PyProof.Rows L2 FL
noncomputable section
/-! ### the deck: cells and four numbers -/
abbrev Dck := List Int × Int × Int × Int × Int
def tsK (s : Dck) : List T := [.sh (cL cI s.1), .sh (cI s.2.1), .sh (cI s.2.2.1), .sh (cI s.2.2.2.1), .sh (cI s.2.2.2.2)]
def oK (s : Dck) : T := .lst (tsK s)
def oA (b : Addr) (s : Dck) : T := .at b (tsK s)
def cK (s : Dck) : D := .lst [cL cI s.1, cI s.2.1, cI s.2.2.1, cI s.2.2.2.1, cI s.2.2.2.2]
theorem oK_top (s : Dck) : (oK s).top = some (cK s) := rfl
theorem oA_top (b : Addr) (s : Dck) : (oA b s).top = some (cK s) := rfl
theorem oK_d (s : Dck) : (oK s).d = cK s := rfl
theorem dkK {Ps : Dck → List Sl} {i : Nat} (sw : ∀ s s', Ps s' = (Ps s).set i (.own (oK s')) := by intros; rfl) (pt : ∀ s, (Ps s)[i]? = some (.own (oK s)) := by intros; rfl) : Dk i oK Ps := ⟨sw, pt, fun _ _ h => nomatch h⟩
theorem dkA {Ps : Dck → List Sl} {i : Nat} {b : Addr} (sw : ∀ s s', Ps s' = (Ps s).set i (.own (oA b s')) := by intros; rfl) (pt : ∀ s, (Ps s)[i]? = some (.own (oA b s)) := by intros; rfl) : Dk i (oA b) Ps := ⟨sw, pt, fun _ _ h => nomatch h⟩
theorem isK : (∀ s, oK s = .lst (tsK s)) ∨ ∃ b, ∀ s, oK s = .at b (tsK s) := .inl fun _ => rfl
theorem isA {b : Addr} : (∀ s, oA b s = .lst (tsK s)) ∨ ∃ b', ∀ s, oA b s = .at b' (tsK s) := .inr ⟨b, fun _ => rfl⟩
section
variable {S α β γ δ ι σ : Type}
variable {m m' : Bool} {Qs : List Sl} {Ps : S → List Sl} {fa fb fc : Env' → Res (RV × Env')} {ca : α → D} {cb : β → D} {cc : γ → D} {cr : δ → D} {ci : ι → D} {ea : S → Out (α × S)} {eb : S → Out (β × S)} {i : Nat} {o : S → T} {s : S}
variable {R R' : γ → Fl → Prop} {E E' : Env' → Prop} {p : Out γ} {f g : Env' → Res Fl}
theorem EM.le (hE : ∀ s ρ, ER (Ps s) ρ → E ρ) : ∀ ρ, EM Ps ρ → E ρ := fun ρ ⟨s, h⟩ => hE s ρ h
/-! lists of unlike things -/
def HL (Qs : List Sl) (f : Env' → Res (List T × Env')) (e : Out α) (t : α → List T) : Prop := ∀ ρ, ER Qs ρ → Sm (f ρ) e (fun a b => b.1 = t a ∧ ER Qs b.2) (ER Qs)
theorem HL_nil : HL Qs atNil (.ok ()) fun _ => [] := fun ρ h => Sm.okI ⟨rfl, h⟩
theorem HL_cons {na : Env' → Res (T × Env')} {nr : Env' → Res (List T × Env')} {ea : Out α} {er : Out β} {t : α → T} {u : β → List T} (ha : NJ Qs na ea t) (hr : HL Qs nr er u) : HL Qs (atCons na nr) (ea.bind fun a => er.bind fun b => .ok (a, b)) fun p => t p.1 :: u p.2 := fun ρ h =>
  Sm.bind (ha ρ h) (fun a ⟨t', ρ1⟩ ⟨h1, q1⟩ => Sm.bind (hr ρ1 q1) (fun b ⟨ts, ρ2⟩ ⟨h2, q2⟩ => by
    have h1 : t' = _ := h1
    have h2 : ts = _ := h2
    subst h1; subst h2
    exact Sm.okI ⟨rfl, q2⟩) fun _ h => h) fun _ h => h
theorem N_H {ns : Env' → Res (List T × Env')} {e : Out α} {u : α → List T} {n : Nat} (h : HL Qs ns e u) (hn : ∀ a, (u a).length = n) (h16 : n ≤ 16777216) {k : α → δ} {o : δ → T} (ho : ∀ a, T.lst (u a) = o (k a)) : NJ Qs (nLst ns) (e.bind fun a => .ok (k a)) o := fun ρ h0 =>
  Sm.bind (h ρ h0) (fun a ⟨ts, ρ1⟩ ⟨h1, h2⟩ => by
    have h1 : ts = _ := h1
    subst h1
    show Sm (if (u a).length ≤ sizeLine then Res.ok (T.lst (u a), ρ1) else .bad) _ _ _
    rw [if_pos (size_le (by rw [hn]; exact h16)), ho]
    exact Sm.okI ⟨rfl, h2⟩) fun _ h => h
/-- the new deck -/
theorem N_K {n0 n1 n2 n3 n4 : Env' → Res (T × Env')} {e0 : Out (List Int)} {e1 e2 e3 e4 : Out Int} (h0 : NJ Qs n0 e0 (oS (cL cI))) (h1 : NJ Qs n1 e1 (oS cI)) (h2 : NJ Qs n2 e2 (oS cI)) (h3 : NJ Qs n3 e3 (oS cI)) (h4 : NJ Qs n4 e4 (oS cI)) :
    NJ Qs (nLst (atCons n0 (atCons n1 (atCons n2 (atCons n3 (atCons n4 atNil)))))) (e0.bind fun a => e1.bind fun b => e2.bind fun c => e3.bind fun d => e4.bind fun e => .ok (a, b, c, d, e)) oK := by
  have := N_H (n := 5) (k := fun (p : List Int × Int × Int × Int × Int × Unit) => (p.1, p.2.1, p.2.2.1, p.2.2.2.1, p.2.2.2.2.1)) (o := oK) (HL_cons h0 (HL_cons h1 (HL_cons h2 (HL_cons h3 (HL_cons h4 HL_nil))))) (fun _ => rfl) (by decide) fun _ => rfl
  refine NJ_eq this ?_
  simp only [Out.bind_assoc, Out.ok_bind]
/-- a, b, .. = x, y, .. -/
def setSl : List Sl → List Nat → List Sl → List Sl
  | Ps, i :: is, p :: ps => setSl (Ps.set i p) is ps
  | Ps, _, _ => Ps
theorem setSl_len : ∀ (is : List Nat) (Ps ps : List Sl), (setSl Ps is ps).length = Ps.length
  | [], Ps, ps => by unfold setSl; rfl
  | i :: is, Ps, [] => by unfold setSl; rfl
  | i :: is, Ps, p :: ps => by unfold setSl; rw [setSl_len is, List.length_set]
theorem ER.setL : ∀ (is : List Nat) {Qs ps : List Sl} {ts : List T} {ρ : Env'}, ER Qs ρ → ps.length = ts.length → (∀ (k : Nat) (p : Sl) (t : T), ps[k]? = some p → ts[k]? = some t → p.ok (some t)) → ER (setSl Qs is ps) (setTs ρ is ts)
  | [], _, _, _, _, h, _, _ => by unfold setSl setTs; exact h
  | i :: is, _, [], [], _, h, _, _ => by unfold setSl setTs; exact h
  | i :: is, _, [], _ :: _, _, _, hl, _ => by cases hl
  | i :: is, _, _ :: _, [], _, _, hl, _ => by cases hl
  | i :: is, _, p :: ps, t :: ts, _, h, hl, hk => by
    unfold setSl setTs
    exact ER.setL is (h.set i (hk 0 p t rfl rfl)) (by simpa using hl) fun k p t h1 h2 => hk (k + 1) p t (by simpa using h1) (by simpa using h2)
inductive PkL : List Sl → List T → Prop
  | nil : PkL [] []
  | cons {p : Sl} {t : T} {ps : List Sl} {ts : List T} (h : p.ok (some t)) (r : PkL ps ts) : PkL (p :: ps) (t :: ts)
theorem PkL.len {ps : List Sl} {ts : List T} (h : PkL ps ts) : ps.length = ts.length := by
  induction h with
  | nil => rfl
  | cons _ _ ih => simp [ih]
theorem PkL.at {ps : List Sl} {ts : List T} (h : PkL ps ts) : ∀ (k : Nat) (p : Sl) (t : T), ps[k]? = some p → ts[k]? = some t → p.ok (some t) := by
  induction h with
  | nil => intro k p t h1; cases h1
  | cons h r ih =>
    intro k p t h1 h2
    cases k with
    | zero => cases h1; cases h2; exact h
    | succ k => exact ih k p t (by simpa using h1) (by simpa using h2)
theorem pk_v {c : α → D} {a : α} : Sl.ok (.vw (c a)) (some (oS c a)) := ⟨_, rfl, rfl⟩
theorem pk_o {t : T} : Sl.ok (.own t) (some t) := rfl
theorem J_parT {is : List Nat} {ns : Env' → Res (List T × Env')} {e : Out α} {u : α → List T} (w : α → List Sl) (hE : ∀ ρ, ER Qs ρ → E ρ) (h : HL Qs ns e u) (hw : ∀ a, PkL (w a) (u a)) (hl : ∀ a, (u a).length = is.length) (hi : ∀ i ∈ is, i < Qs.length) :
    J Qs (sParT is ns) e (Rn fun a => setSl Qs is (w a)) E := fun ρ h0 => by
  have : Sm ((ns ρ).bind fun (ts, ρ1) => if ts.length = is.length ∧ ∀ i ∈ is, i < ρ1.length then .ok (Fl.nx (setTs ρ1 is ts)) else .bad) (e.bind .ok) (Rn fun a => setSl Qs is (w a)) E :=
    Sm.bind (h ρ h0) (fun a ⟨ts, ρ1⟩ ⟨h1, h2⟩ => by
      have h1 : ts = _ := h1
      have h2 : ER Qs ρ1 := h2
      subst h1
      show Sm (if (u a).length = is.length ∧ ∀ i ∈ is, i < ρ1.length then .ok (Fl.nx (setTs ρ1 is (u a))) else .bad) _ _ _
      rw [if_pos ⟨hl a, fun i hm => by rw [h2.len]; exact hi i hm⟩]
      exact Sm.okI ⟨_, rfl, ER.setL is h2 (hw a).len (hw a).at⟩) hE
  cases e <;> exact this
theorem J_setK0 {j : Nat} {na : Env' → Res (T × Env')} {e : Out Dck} {p0 : Sl} (hE : ∀ ρ, ER Qs ρ → E ρ) (hi : Qs[j]? = some p0) (h : NJ Qs na e oK) : J Qs (sSet j na) e (Rn fun a => Qs.set j (.own (oK a))) E := J_set hE hi h (fun a => .own (oK a)) fun _ => rfl
/-- deck[k] = e -/
theorem J_setKA {b : Addr} {k : Nat} {na : Env' → Res (T × Env')} {e : Out α} {s : Dck} {u : α → Dck} (hE : ∀ ρ, ER Qs ρ → E ρ) (hi : Qs[i]? = some (.own (oA b s))) (h : NJ Qs na e (oS ca)) (hk : k < 5) (hu : ∀ a, (tsK s).set k (.sh (ca a)) = tsK (u a)) :
    J Qs (sSetIxA i na (eC (.int (k : Int)))) (e.bind fun a => .ok (u a)) (Rn fun r => Qs.set i (.own (oA b r))) E := fun ρ h0 => by
  unfold sSetIxA
  refine Sm.bind (h ρ h0) (fun a ⟨t', ρ1⟩ ⟨h1, h2⟩ => ?_) hE
  have h1 : t' = _ := h1
  have h2 : ER Qs ρ1 := h2
  subst h1
  obtain ⟨w, h3, h4⟩ := h2.get hi
  have h4 : w = some (oA b s) := h4
  subst h4
  have hx : ixN (tsK s).length (k : Int) = some k := by
    unfold ixN
    rw [if_pos (by omega), if_pos (by show (k : Int) < ((5 : Nat) : Int); omega)]
    simp
  have hg : ∃ d, (tsK s)[k]? = some (T.sh d) := by
    match k, hk with
    | 0, _ => exact ⟨_, rfl⟩
    | 1, _ => exact ⟨_, rfl⟩
    | 2, _ => exact ⟨_, rfl⟩
    | 3, _ => exact ⟨_, rfl⟩
    | 4, _ => exact ⟨_, rfl⟩
  obtain ⟨d, hg⟩ := hg
  refine ⟨.nx (ρ1.set i (some (.at b ((tsK s).set k (.sh (ca a)))))), ?_, _, rfl, ?_⟩
  · show (match oS ca a, ρ1[i]? with
      | .sh d, some (some _) => ((Res.ok (RV.leaf (D.int (k : Int)), ρ1) : Res (RV × Env'))).bind fun (r, ρ2) => match look ρ2 r, ρ2[i]? with
        | some (.int k), some (some (T.at b ts)) => match ixN ts.length k with
          | some j => match ts[j]? with
            | some (.sh _) => Res.ok (Fl.nx (ρ2.set i (some (.at b (ts.set j (.sh d))))))
            | _ => .bad
          | none => .bad
        | _, _ => .bad
      | _, _ => .bad) = _
    rw [h3]
    show (match look ρ1 (RV.leaf (D.int (k : Int))), ρ1[i]? with
        | some (.int k), some (some (T.at b ts)) => match ixN ts.length k with
          | some j => match ts[j]? with
            | some (.sh _) => Res.ok (Fl.nx (ρ1.set i (some (.at b (ts.set j (.sh (ca a)))))))
            | _ => .bad
          | none => .bad
        | _, _ => .bad) = _
    rw [h3]
    show (match ixN (tsK s).length (k : Int) with
          | some j => match (tsK s)[j]? with
            | some (.sh _) => Res.ok (Fl.nx (ρ1.set i (some (.at b ((tsK s).set j (.sh (ca a)))))))
            | _ => .bad
          | none => .bad) = _
    rw [hx]
    show (match (tsK s)[k]? with
            | some (.sh _) => Res.ok (Fl.nx (ρ1.set i (some (.at b ((tsK s).set k (.sh (ca a)))))))
            | _ => .bad) = _
    rw [hg]
  · rw [hu]
    exact h2.set i rfl
/-! statements with such expressions -/
theorem J_setM {j : Nat} {na : Env' → Res (T × Env')} {t : α → T} (hE : ∀ s ρ, ER (Ps s) ρ → E ρ) (hj : ∀ s, j < (Ps s).length) (h : NM Ps na ea t) (w : α → Sl) (hw : ∀ a, (w a).ok (some (t a))) : J (Ps s) (sSet j na) (ea s) (Rn fun p => (Ps p.2).set j (w p.1)) E := fun ρ h0 => by
  have : Sm ((na ρ).bind fun (t, ρ1) => if j < ρ1.length then .ok (Fl.nx (ρ1.set j (some t))) else .bad) ((ea s).bind .ok) (Rn fun p => (Ps p.2).set j (w p.1)) E :=
    Sm.bind (h s ρ h0) (fun a ⟨t', ρ1⟩ ⟨h1, h2⟩ => by
      have h1 : t' = _ := h1
      have h2 : ER (Ps a.2) ρ1 := h2
      subst h1
      show Sm (if j < ρ1.length then .ok (Fl.nx (ρ1.set j (some (t a.1)))) else .bad) _ _ _
      rw [if_pos (by rw [h2.len]; exact hj _)]
      exact Sm.okI ⟨_, rfl, h2.set j (hw a.1)⟩) (EM.le hE)
  cases e : ea s <;> rw [e] at this <;> exact this
theorem J_setSM {j : Nat} {na : Env' → Res (T × Env')} (hE : ∀ s ρ, ER (Ps s) ρ → E ρ) (hj : ∀ s, j < (Ps s).length) (h : NM Ps na ea (oS ca)) : J (Ps s) (sSet j na) (ea s) (Rn fun p => (Ps p.2).set j (.vw (ca p.1))) E := J_setM hE hj h (fun a => .vw (ca a)) fun a => ⟨_, rfl, rfl⟩
theorem J_setLVM {j : Nat} {na : Env' → Res (T × Env')} {ea : S → Out (List α × S)} (hE : ∀ s ρ, ER (Ps s) ρ → E ρ) (hj : ∀ s, j < (Ps s).length) (h : NM Ps na ea (oL ca)) : J (Ps s) (sSet j na) (ea s) (Rn fun p => (Ps p.2).set j (.vw (cL ca p.1))) E := J_setM hE hj h (fun a => .vw (cL ca a)) fun a => ⟨_, rfl, oL_top ca a⟩
theorem J_setLOM {j : Nat} {na : Env' → Res (T × Env')} {ea : S → Out (List α × S)} (hE : ∀ s ρ, ER (Ps s) ρ → E ρ) (hj : ∀ s, j < (Ps s).length) (h : NM Ps na ea (oL ca)) : J (Ps s) (sSet j na) (ea s) (Rn fun p => (Ps p.2).set j (.own (oL ca p.1))) E := J_setM hE hj h (fun a => .own (oL ca a)) fun a => rfl
theorem J_exprM (hE : ∀ s ρ, ER (Ps s) ρ → E ρ) (h : XM Ps fa ea ca) : J (Ps s) (sExpr fa) (ea s) (Rn fun p => Ps p.2) E := fun ρ h0 => by
  have : Sm ((fa ρ).bind fun (_, ρ1) => .ok (Fl.nx ρ1)) ((ea s).bind .ok) (Rn fun p => Ps p.2) E := Sm.bind (h s ρ h0) (fun a ⟨r, ρ1⟩ ⟨h1, h2⟩ => Sm.okI ⟨ρ1, rfl, h1⟩) (EM.le hE)
  cases e : ea s <;> rw [e] at this <;> exact this
theorem J_unpM {gt : D → Env' → Option Env'} {Qs : α → S → List Sl} (hE : ∀ s ρ, ER (Ps s) ρ → E ρ) (h : XM Ps fa ea ca) (hg : ∀ a s, GJ (Ps s) gt (ca a) (Qs a s)) : J (Ps s) (sUnpack fa gt) (ea s) (Rn fun p => Qs p.1 p.2) E := fun ρ h0 => by
  have : Sm ((fa ρ).bind fun (r, ρ1) => (Res.of (esc ρ1 r)).bind fun (d, ρ2) => (Res.of (gt d ρ2)).bind fun ρ3 => .ok (Fl.nx ρ3)) ((ea s).bind .ok) (Rn fun p => Qs p.1 p.2) E :=
    Sm.bind (h s ρ h0) (fun a ⟨r, ρ1⟩ ⟨h1, q1⟩ => by
      obtain ⟨ρ', e1, e2⟩ := q1.2 a.2 ρ1 h1
      obtain ⟨ρ'', e3, e4⟩ := hg a.1 a.2 ρ' e2
      show Sm ((Res.of (esc ρ1 r)).bind fun (d, ρ2) => (Res.of (gt d ρ2)).bind fun ρ3 => .ok (Fl.nx ρ3)) _ _ _
      rw [e1]
      show Sm ((Res.of (gt (ca a.1) ρ')).bind fun ρ3 => .ok (Fl.nx ρ3)) _ _ _
      rw [e3]
      exact Sm.okI ⟨_, rfl, e4⟩) (EM.le hE)
  cases e : ea s <;> rw [e] at this <;> exact this
theorem J_parM {i j : Nat} (hE : ∀ s ρ, ER (Ps s) ρ → E ρ) (hi : ∀ s, i < (Ps s).length) (hj : ∀ s, j < (Ps s).length) (ha : XM Ps fa ea ca) (hb : XM Ps fb eb cb) :
    J (Ps s) (sPar i j (aConsE fa (aConsE fb aNil))) (M.bd ea (fun a => M.bd eb fun b => M.rt (a, b)) s) (Rn fun p => ((Ps p.2).set i (.vw (ca p.1.1))).set j (.vw (cb p.1.2))) E := fun ρ h0 => by
  have z := AM_cons ha (AM_cons hb AM_nil) s ρ h0
  have e : (M.bd ea fun a => M.bd (M.bd eb fun b => M.bd (M.rt ()) fun c => M.rt (b, c)) fun b => M.rt (a, b)) s = (M.bd (M.bd ea fun a => M.bd eb fun b => M.rt (a, b)) fun q => M.rt (q.1, q.2, ())) s := by
    unfold M.bd M.rt
    cases ea s with
    | ok p => simp only [Out.ok_bind]; cases eb p.2 <;> rfl
    | exc c => rfl
    | bad => rfl
  rw [e] at z
  have w : ∀ r : Out ((α × β) × S), (r.bind fun p => Out.ok ((p.1.1, p.1.2, ()), p.2)) = (r.bind fun p => Out.ok ((p.1.1, p.1.2, ()), p.2)) := fun _ => rfl
  unfold sPar
  cases h : M.bd ea (fun a => M.bd eb fun b => M.rt (a, b)) s with
  | ok p =>
    have : (M.bd (M.bd ea fun a => M.bd eb fun b => M.rt (a, b)) fun q => M.rt (q.1, q.2, ())) s = .ok ((p.1.1, p.1.2, ()), p.2) := by
      show ((M.bd ea (fun a => M.bd eb fun b => M.rt (a, b)) s).bind _) = _
      rw [h]; rfl
    rw [this] at z
    obtain ⟨⟨rs, ρ1⟩, e1, e2, e3⟩ := z
    have e2 : rs = [RV.leaf (ca p.1.1), RV.leaf (cb p.1.2)] := e2
    have e3 : ER (Ps p.2) ρ1 := e3
    subst e2
    rw [e1]
    show Sm (if i < ρ1.length ∧ j < ρ1.length then .ok (Fl.nx ((ρ1.set i (some (.sh (ca p.1.1)))).set j (some (.sh (cb p.1.2))))) else .bad) _ _ _
    rw [if_pos ⟨by rw [e3.len]; exact hi _, by rw [e3.len]; exact hj _⟩]
    exact Sm.okI ⟨_, rfl, (e3.set (p := .vw (ca p.1.1)) i ⟨_, rfl, rfl⟩).set (p := .vw (cb p.1.2)) j ⟨_, rfl, rfl⟩⟩
  | exc c =>
    have : (M.bd (M.bd ea fun a => M.bd eb fun b => M.rt (a, b)) fun q => M.rt (q.1, q.2, ())) s = .exc c := by
      show ((M.bd ea (fun a => M.bd eb fun b => M.rt (a, b)) s).bind _) = _
      rw [h]; rfl
    rw [this] at z
    obtain ⟨ρ', e1, e2⟩ := z
    rw [e1]
    exact ⟨ρ', rfl, EM.le hE _ e2⟩
  | bad => trivial
theorem J_retM {na : Env' → Res (T × Env')} {t : α → T} {k : α × S → γ} (hE : ∀ s ρ, ER (Ps s) ρ → E ρ) (h : NM Ps na ea t) (hR : ∀ a s ρ', ER (Ps s) ρ' → R (k (a, s)) (.rt (t a) ρ')) : J (Ps s) (sRet na) ((ea s).bind fun p => .ok (k p)) R E := fun ρ h0 =>
  Sm.bind (h s ρ h0) (fun a ⟨t', ρ1⟩ ⟨h1, h2⟩ => by
    have h1 : t' = _ := h1
    subst h1
    exact Sm.okI (hR a.1 a.2 ρ1 h2)) (EM.le hE)
theorem J_retE {na : Env' → Res (T × Env')} {t : α → T} {e : Out α} {k : α → γ} (hE : ∀ ρ, ER Qs ρ → E ρ) (h : NJ Qs na e t) (hR : ∀ a ρ', ER Qs ρ' → R (k a) (.rt (t a) ρ')) : J Qs (sRet na) (e.bind fun a => .ok (k a)) R E := fun ρ h0 =>
  Sm.bind (h ρ h0) (fun a ⟨t', ρ1⟩ ⟨h1, h2⟩ => by
    have h1 : t' = _ := h1
    subst h1
    exact Sm.okI (hR a ρ1 h2)) hE
theorem J_ifM {ta : Env' → Res (Bool × Env')} {et : S → Out (Bool × S)} {pA pB : S → Out γ} (hE : ∀ s ρ, ER (Ps s) ρ → E ρ) (ht : TM Ps ta et) (ha : ∀ s, J (Ps s) f (pA s) R E) (hb : ∀ s, J (Ps s) g (pB s) R E) : J (Ps s) (sIf ta f g) ((et s).bind fun p => if p.1 = true then pA p.2 else pB p.2) R E := fun ρ h0 =>
  Sm.bind (ht s ρ h0) (fun a ⟨b, ρ1⟩ ⟨h1, h2⟩ => by
    have h1 : b = a.1 := h1
    subst h1
    show Sm (if a.1 = true then f ρ1 else g ρ1) _ _ _
    cases h : a.1 with
    | true => exact ha _ ρ1 h2
    | false => exact hb _ ρ1 h2) (EM.le hE)
theorem J_guardM {ta : Env' → Res (Bool × Env')} {et : S → Out (Bool × S)} {pA pB : S → Out γ} (hE : ∀ s ρ, ER (Ps s) ρ → E ρ) (ht : TM Ps ta et) (ha : ∀ s, J (Ps s) f (pA s) (Rx R) E) (hb : ∀ s, J (Ps s) g (pB s) R E) : J (Ps s) (sSeq (sIf ta f sNil) g) ((et s).bind fun p => if p.1 = true then pA p.2 else pB p.2) R E := fun ρ h0 => by
  have q := ht s ρ h0
  cases e : et s with
  | ok p =>
    rw [e] at q
    obtain ⟨⟨b', ρ1⟩, e1, e2, e3⟩ := q
    have e2 : b' = p.1 := e2
    subst e2
    show Sm ((Res.bind (Res.bind (ta ρ) _) _)) (if p.1 = true then pA p.2 else pB p.2) R E
    rw [e1]
    cases hb' : p.1 with
    | true =>
      have qa := ha p.2 ρ1 e3
      show Sm ((f ρ1).bind _) (pA p.2) R E
      cases h : pA p.2 with
      | ok a =>
        rw [h] at qa
        obtain ⟨fl, z1, z2, z3⟩ := qa
        rw [z1]
        cases fl with
        | nx _ => exact z3.elim
        | rt _ _ => exact ⟨_, rfl, z2⟩
        | bk _ => exact ⟨_, rfl, z2⟩
        | ct _ => exact ⟨_, rfl, z2⟩
      | exc c => rw [h] at qa; obtain ⟨ρ', z1, z2⟩ := qa; rw [z1]; exact ⟨ρ', rfl, z2⟩
      | bad => trivial
    | false => exact hb p.2 ρ1 e3
  | exc c =>
    rw [e] at q
    obtain ⟨ρ', e1, e2⟩ := q
    show Sm ((Res.bind (Res.bind (ta ρ) _) _)) (.exc c) R E
    rw [e1]
    exact ⟨ρ', rfl, EM.le hE _ e2⟩
  | bad => trivial
theorem J_forM {fi : Env' → Res (List D × Env')} {gt : D → Env' → Option Env'} {xs : S → Out (List ι × S)} {s0 : S → σ} {b : ι → σ → Out (Lp σ γ)} (Ls : σ → List Sl) {Bs : ι → σ → List Sl} (hE : ∀ s ρ, ER (Ps s) ρ → E ρ) (hi : IM Ps fi xs ci) (l : ∀ s, LeS (Ps s) (Ls (s0 s)))
    (hg : ∀ x s, GJ (Ls s) gt (ci x) (Bs x s)) (hb : ∀ x s, J (Bs x s) f (b x s) (RB Ls R) E) : J (Ps s) (sFor fi gt f) ((xs s).bind fun p => forF b p.1 (s0 p.2)) (RJ Ls R) E := fun ρ h0 => by
  refine Sm.bind (hi s ρ h0) (fun xs ⟨ds, ρ1⟩ ⟨h1, h2⟩ => ?_) (EM.le hE)
  have h1 : ds = _ := h1
  have h2 : ER (Ps xs.2) ρ1 := h2
  subst h1
  have := J_for (E := fun ρ => E ρ ∨ ER (Ps xs.2) ρ) (Ps := Ps xs.2) (fi := fun ρ => .ok (xs.1.map ci, ρ)) (gt := gt) (f := f) (xs := .ok xs.1) (s0 := s0 xs.2) (b := b) Ls (fun ρ h => .inr h) (fun ρ h => Sm.okI ⟨rfl, h⟩) (l xs.2) hg (fun x s ρ h => (hb x s ρ h).imp (fun _ _ h => h) fun ρ h => .inl h) ρ1 h2
  exact this.imp (fun _ _ h => h) fun ρ h => h.elim id fun h => hE _ ρ h
theorem J_forSM {fi : Env' → Res (List D × Env')} {gt : D → Env' → Option Env'} {xs : S → Out (List ι × S)} {s0 : S → σ} {b : ι → σ → Out σ} (Ls : σ → List Sl) {Bs : ι → σ → List Sl} (hE : ∀ s ρ, ER (Ps s) ρ → E ρ) (hi : IM Ps fi xs ci) (l : ∀ s, LeS (Ps s) (Ls (s0 s)))
    (hg : ∀ x s, GJ (Ls s) gt (ci x) (Bs x s)) (hb : ∀ x s, J (Bs x s) f (b x s) (RC Ls) E) : J (Ps s) (sFor fi gt f) ((xs s).bind fun p => forS b p.1 (s0 p.2)) (Rn Ls) E := fun ρ h0 => by
  refine Sm.bind (hi s ρ h0) (fun xs ⟨ds, ρ1⟩ ⟨h1, h2⟩ => ?_) (EM.le hE)
  have h1 : ds = _ := h1
  have h2 : ER (Ps xs.2) ρ1 := h2
  subst h1
  have := J_forS (E := fun ρ => E ρ ∨ ER (Ps xs.2) ρ) (Ps := Ps xs.2) (fi := fun ρ => .ok (xs.1.map ci, ρ)) (gt := gt) (f := f) (xs := .ok xs.1) (s0 := s0 xs.2) (b := b) Ls (fun ρ h => .inr h) (fun ρ h => Sm.okI ⟨rfl, h⟩) (l xs.2) hg (fun x s ρ h => (hb x s ρ h).imp (fun _ _ h => h) fun ρ h => .inl h) ρ1 h2
  exact this.imp (fun _ _ h => h) fun ρ h => h.elim id fun h => hE _ ρ h
/-- xs.append(e) -/
theorem J_appM {i : Nat} {na : Env' → Res (T × Env')} {xs : List α} (hE : ∀ s ρ, ER (Ps s) ρ → E ρ) (hi : ∀ s, (Ps s)[i]? = some (.own (oL ca xs))) (h : NM Ps na ea (oS ca)) : J (Ps s) (sAppend i na) ((ea s).bind fun p => (appR xs p.1).bind fun r => .ok (r, p.2)) (Rn fun r => (Ps r.2).set i (.own (oL ca r.1))) E := fun ρ h0 => by
  have q := h s ρ h0
  cases e : ea s with
  | ok p =>
    rw [e] at q
    obtain ⟨⟨t', ρ1⟩, e1, e2, e3⟩ := q
    have e2 : t' = _ := e2
    subst e2
    have k := J_app (E := fun _ => True) (Ps := Ps p.2) (i := i) (na := fun ρ => .ok (oS ca p.1, ρ)) (ea := .ok p.1) (xs := xs) (fun _ _ => trivial) (hi p.2) (fun ρ h => Sm.okI ⟨rfl, h⟩) ρ1 e3
    have k2 : sAppend i na ρ = sAppend i (fun ρ => .ok (oS ca p.1, ρ)) ρ1 := by
      unfold sAppend
      obtain ⟨w, z1, z2⟩ := h0.get (hi s)
      obtain ⟨w', z3, z4⟩ := ER.get e3 (hi p.2)
      cases z2; cases z4
      have z3 : ρ1[i]? = _ := z3
      rw [z1, z3]
      show (na ρ).bind _ = _
      rw [e1]
      rfl
    rw [k2]
    show Sm _ ((appR xs p.1).bind fun r => Out.ok (r, p.2)) _ _
    have k : Sm (sAppend i (fun ρ => .ok (oS ca p.1, ρ)) ρ1) (appR xs p.1) (Rn fun r => (Ps p.2).set i (.own (oL ca r))) (fun _ => True) := k
    cases e4 : appR xs p.1 with
    | ok r => rw [e4] at k; exact k
    | exc c => unfold appR at e4; split at e4 <;> cases e4
    | bad => trivial
  | exc c =>
    rw [e] at q
    obtain ⟨ρ', e1, e2⟩ := q
    refine ⟨ρ', ?_, EM.le hE _ e2⟩
    unfold sAppend
    obtain ⟨w, z1, z2⟩ := h0.get (hi s)
    cases z2
    rw [z1]
    show (na ρ).bind _ = _
    rw [e1]; rfl
  | bad => trivial
/-! a list or a tuple, unpacked -/
theorem gT_seq {gs : List D → Env' → Option Env'} {ds : List D} {n : Nat} {d : D} (hd : d = .lst ds ∨ d = .tup ds ∨ d = .ftup ds ∨ d = .fz ds) (hn : ds.length = n) (ρ : Env') : gT gs n d ρ = gs ds ρ := by
  rcases hd with rfl | rfl | rfl | rfl <;> exact if_pos hn
theorem J_unpG {gs : List D → Env' → Option Env'} {fa : Env' → Res (RV × Env')} {ea : Out (List α)} {cx : List α → D} {n : Nat} {Ws : β → List Sl} {π : List α → Out β} {dn : β → List D} (hE : ∀ ρ, ER Qs ρ → E ρ) (h : X true Qs fa ea cx)
    (hc : ∀ xs : List α, cx xs = .lst (xs.map ca) ∨ cx xs = .tup (xs.map ca) ∨ cx xs = .ftup (xs.map ca) ∨ cx xs = .fz (xs.map ca)) (hπ : ∀ xs, (∃ p, π xs = .ok p ∧ xs.map ca = dn p ∧ (dn p).length = n) ∨ π xs = .bad) (hg : ∀ p, GsJ Qs gs (dn p) (Ws p)) : J Qs (sUnpack fa (gT gs n)) (ea.bind π) (Rn Ws) E := fun ρ h0 =>
  Sm.bind (h ρ h0) (fun a ⟨r, ρ1⟩ ⟨h1, q1⟩ => by
    obtain ⟨ρ', e1, e2⟩ := q1.2 rfl ρ1 h1
    show Sm ((Res.of (esc ρ1 r)).bind fun (d, ρ2) => (Res.of (gT gs n d ρ2)).bind fun ρ3 => .ok (Fl.nx ρ3)) _ _ _
    rw [e1]
    show Sm ((Res.of (gT gs n (cx a) ρ')).bind fun ρ3 => .ok (Fl.nx ρ3)) _ _ _
    rcases hπ a with ⟨p, z1, z2, z3⟩ | z
    · rw [z1, gT_seq (hc a) (by rw [z2]; exact z3), z2]
      obtain ⟨ρ'', e3, e4⟩ := hg p ρ' e2
      rw [e3]
      exact Sm.okI ⟨_, rfl, e4⟩
    · rw [z]; trivial) hE
theorem unp2_pi (c : α → D) (xs : List α) : (∃ p, unp2 xs = .ok p ∧ xs.map c = [c p.1, c p.2] ∧ [c p.1, c p.2].length = 2) ∨ unp2 xs = .bad := by
  unfold unp2
  split
  · exact .inl ⟨_, rfl, rfl, rfl⟩
  · exact .inr rfl
theorem unp3_pi (c : α → D) (xs : List α) : (∃ p, unp3 xs = .ok p ∧ xs.map c = [c p.1, c p.2.1, c p.2.2] ∧ [c p.1, c p.2.1, c p.2.2].length = 3) ∨ unp3 xs = .bad := by
  unfold unp3
  split
  · exact .inl ⟨_, rfl, rfl, rfl⟩
  · exact .inr rfl
theorem unp4_pi (c : α → D) (xs : List α) : (∃ p, unp4 xs = .ok p ∧ xs.map c = [c p.1, c p.2.1, c p.2.2.1, c p.2.2.2] ∧ [c p.1, c p.2.1, c p.2.2.1, c p.2.2.2].length = 4) ∨ unp4 xs = .bad := by
  unfold unp4
  split
  · exact .inl ⟨_, rfl, rfl, rfl⟩
  · exact .inr rfl
theorem sqL (c : α → D) : ∀ xs : List α, cL c xs = .lst (xs.map c) ∨ cL c xs = .tup (xs.map c) ∨ cL c xs = .ftup (xs.map c) ∨ cL c xs = .fz (xs.map c) := fun _ => .inl rfl
theorem sqU (c : α → D) : ∀ xs : List α, cU c xs = .lst (xs.map c) ∨ cU c xs = .tup (xs.map c) ∨ cU c xs = .ftup (xs.map c) ∨ cU c xs = .fz (xs.map c) := fun _ => .inr (.inl rfl)
theorem sqV (c : α → D) : ∀ xs : List α, cV c xs = .lst (xs.map c) ∨ cV c xs = .tup (xs.map c) ∨ cV c xs = .ftup (xs.map c) ∨ cV c xs = .fz (xs.map c) := fun _ => .inr (.inr (.inl rfl))
theorem sqF (c : α → D) : ∀ xs : List α, cF c xs = .lst (xs.map c) ∨ cF c xs = .tup (xs.map c) ∨ cF c xs = .ftup (xs.map c) ∨ cF c xs = .fz (xs.map c) := fun _ => .inr (.inr (.inr rfl))
/-! a def that changes the deck -/
def RIO (b : Addr) (t : α → T) : α × Dck → Fl → Prop := fun p fl => (∃ ρ', fl = .rt (t p.1) ρ' ∧ ρ'[0]? = some (some (oA b p.2))) ∨ (t p.1 = .sh .non ∧ ∃ ρ', fl = .nx ρ' ∧ ρ'[0]? = some (some (oA b p.2)))
theorem er0 {Ps : List Sl} {b : Addr} {s : Dck} {ρ' : Env'} (h : ER (.own (oA b s) :: Ps) ρ') : ρ'[0]? = some (some (oA b s)) := by
  obtain ⟨w, h1, h2⟩ := h.get (i := 0) rfl
  have h2 : w = some (oA b s) := h2
  rw [h1, h2]
theorem rio_rt {Ps : List Sl} {b : Addr} {t : α → T} {a : α} {s : Dck} {ρ' : Env'} (h : ER (.own (oA b s) :: Ps) ρ') : RIO b t (a, s) (.rt (t a) ρ') := .inl ⟨ρ', rfl, er0 h⟩
theorem rio_nx {Ps : List Sl} {b : Addr} {s : Dck} {ρ' : Env'} (h : ER (.own (oA b s) :: Ps) ρ') : RIO b (oS cN) ((), s) (.nx ρ') := .inr ⟨rfl, ρ', rfl, er0 h⟩
theorem endIO_eq {a : Addr} {t : T} {ρ : Env'} {s : Dck} (h : ρ[0]? = some (some (oA a s))) : endIO a t ρ = some (t, tsK s) := by
  unfold endIO
  rw [h]
  show (if a = a then some (t, tsK s) else none) = _
  rw [if_pos rfl]
theorem simIO {np nN : Nat} {bd : Env' → Res Fl} {ds : List D} {p : Dck → Out (α × Dck)} {t : α → T} {Ps : Addr → Dck → List Sl} (hl : ds.length + 1 = np) (hp : ∀ b s, .own (oA b s) :: (ds.map Sl.vw ++ List.replicate (nN - (ds.length + 1)) .any) = Ps b s)
    (h : ∀ b s, J (Ps b s) bd (p s) (RIO b t) fun _ => True) : SimIO (mIO np nN bd) tsK ds p t := fun s r s' hs => by
  refine mIO_eq hl fun b => ?_
  have q := h b s (startIO nN b (tsK s) ds) (hp b s ▸ ⟨_, _, rfl, rfl, start_er ds (nN - (ds.length + 1))⟩)
  rw [hs] at q
  obtain ⟨fl, e1, e2⟩ := q
  unfold runIO
  rw [e1]
  rcases e2 with ⟨ρ', e2, e3⟩ | ⟨e4, ρ', e2, e3⟩
  · subst e2; exact endIO_eq e3
  · subst e2
    show endIO b (.sh .non) ρ' = _
    rw [← show t r = .sh .non from e4]
    exact endIO_eq e3
end
end
end TL

namespace TL
open PySem PySem.Spec PyProof.Rows L2 FL
/-! ### reckoning with typed programs -/
section
variable {α β γ δ σ ι : Type}
@[simp] theorem modR_ok {a b : Int} (h : 0 < b) : modR a b = .ok (a % b) := if_pos h
@[simp] theorem divR_ok {a b : Int} (h : 0 < b ∧ b < 18446744073709551616) : divR a b = .ok (a / b) := if_pos ⟨h.1, log_small h.1 h.2⟩
@[simp] theorem mulR_ok {a b : Int} (h : -18446744073709551616 < a ∧ a < 18446744073709551616) : mulR a b = .ok (a * b) := if_pos (mulOk_l ⟨by omega, by omega⟩)
theorem mulR_okr {a b : Int} (h : -18446744073709551616 < b ∧ b < 18446744073709551616) : mulR a b = .ok (a * b) := if_pos (mulOk_r ⟨by omega, by omega⟩)
@[simp] theorem catR_ok {a b : List α} (h : a.length + b.length ≤ 16777216) : catR a b = .ok (a ++ b) := if_pos h
@[simp] theorem appR_ok {a : List α} {b : α} (h : a.length < 16777216) : appR a b = .ok (a ++ [b]) := if_pos h
@[simp] theorem extR_ok {a b : List α} (h : a.length + b.length ≤ 16777216) : extR a b = .ok (a ++ b) := if_pos h
@[simp] theorem lcA_ok {xs : List ι} {e : ι → α} (h : xs.length ≤ 16777216) : lcA xs e = .ok (xs.map e) := if_pos h
@[simp] theorem lcP_ok {xs : List ι} {t : ι → Bool} {e : ι → α} (h : xs.length ≤ 16777216) : lcP xs t e = .ok ((xs.filter t).map e) := if_pos h
theorem lcR_ok {xs : List ι} {t : ι → Out Bool} {e : ι → Out α} (p : ι → Bool) (g : ι → α) (h : xs.length ≤ 16777216) (ht : ∀ x ∈ xs, t x = .ok (p x)) (he : ∀ x ∈ xs, p x = true → e x = .ok (g x)) : lcR t e xs = .ok ((xs.filter p).map g) := by
  unfold lcR
  rw [if_pos h]
  clear h
  induction xs with
  | nil => rfl
  | cons x xs ih =>
    rw [lcM, ht x (by simp)]
    show (if p x = true then _ else _) = _
    rw [ih (fun y hy => ht y (by simp [hy])) fun y hy => he y (by simp [hy])]
    by_cases q : p x = true
    · rw [if_pos q, he x (by simp) q]; simp [q]
    · simp [q]
theorem lcR_okA {xs : List ι} {e : ι → Out α} (g : ι → α) (h : xs.length ≤ 16777216) (he : ∀ x ∈ xs, e x = .ok (g x)) : lcR (fun _ => .ok true) e xs = .ok (xs.map g) := by
  rw [lcR_ok (fun _ => true) g h (fun _ _ => rfl) fun x hx _ => he x hx, List.filter_eq_self.mpr fun _ _ => rfl]
@[simp] theorem rng1_ok {j : Int} (h : -4611686018427387904 < j ∧ j < 4611686018427387904) : rng1 j = .ok (rng 0 j) := if_pos (by unfold rOk; omega)
@[simp] theorem rng2_ok {i j : Int} (h : (-4611686018427387904 < i ∧ i < 4611686018427387904) ∧ (-4611686018427387904 < j ∧ j < 4611686018427387904)) : rng2 i j = .ok (rng i j) := if_pos ⟨by unfold rOk; omega, by unfold rOk; omega⟩
@[simp] theorem rng_length (i j : Int) : (rng i j).length = (j - i).toNat := by simp [rng]
theorem rng_get {i j : Int} {k : Nat} {x : Int} (h : (rng i j)[k]? = some x) : x = i + (k : Int) ∧ k < (j - i).toNat := by
  unfold rng at h
  rw [List.getElem?_map] at h
  cases e : (List.range (j - i).toNat)[k]? with
  | none => rw [e] at h; cases h
  | some y =>
    rw [e] at h
    obtain ⟨h1, h2⟩ := List.getElem?_eq_some_iff.mp e
    rw [List.getElem_range] at h2
    rw [List.length_range] at h1
    subst h2
    simp at h
    exact ⟨h.symm, h1⟩
theorem rng_mem {i j x : Int} : x ∈ rng i j ↔ i ≤ x ∧ x < j := by
  unfold rng
  simp only [List.mem_map, List.mem_range]
  constructor
  · rintro ⟨k, h1, rfl⟩; omega
  · rintro ⟨h1, h2⟩; exact ⟨(x - i).toNat, by omega, by omega⟩
theorem rng0 (n : Nat) : rng 0 (n : Int) = (List.range n).map fun k : Nat => (k : Int) := by simp [rng]
@[simp] theorem pow_10_18 : powR 10 18 = .ok 1000000000000000000 := by
  unfold powR
  rw [if_pos ⟨by decide, by decide, by decide⟩]
  rfl
/-! places -/
@[simp] theorem atR_nat (xs : List α) (i : Nat) : atR xs (i : Int) = Out.of xs[i]? := by unfold atR; rw [atI_n]
theorem atR_in {xs : List α} {i : Int} (h : 0 ≤ i) (h2 : i < xs.length) : atR xs i = .ok (xs[i.toNat]'(by omega)) := atR_ok (atI_in h h2)
theorem atR_ex {xs : List α} {i : Int} (h : 0 ≤ i) (h2 : i < xs.length) : ∃ a ∈ xs, atR xs i = .ok a := ⟨_, List.getElem_mem _, atR_in h h2⟩
theorem atR_last {xs : List α} (h : 0 < xs.length) : atR xs (-1) = .ok (xs[xs.length - 1]'(by omega)) := atR_ok (atI_neg1 h)
@[simp] theorem atR_0 (x : α) (xs : List α) : atR (x :: xs) 0 = .ok x := atR_ok (atI_cons0 x xs)
@[simp] theorem atR_lit (x : α) (xs : List α) (n : Nat) : atR (x :: xs) (no_index (@OfNat.ofNat Int n instOfNat)) = Out.of (x :: xs)[(@OfNat.ofNat Nat n (instOfNatNat n))]? := by unfold atR; rw [atI_lit]
theorem atR_nil (i : Int) : atR ([] : List α) i = .bad := by
  unfold atR L2.atI
  cases ixN ([] : List α).length i <;> rfl
theorem sgR_ex {l : List Nat} {i : Int} (h : 0 ≤ i) (h2 : i < l.length) : ∃ c ∈ l, sgR l i = .ok [c] := by
  obtain ⟨c, h1, h2⟩ := atR_ex h h2
  exact ⟨c, h1, by unfold sgR; rw [h2]; rfl⟩
theorem sgR_in {l : List Nat} {i : Int} (h : 0 ≤ i) (h2 : i < l.length) : sgR l i = .ok [l[i.toNat]'(by omega)] := by unfold sgR; rw [atR_in h h2]; rfl
@[simp] theorem sgR_nat (l : List Nat) (i : Nat) : sgR l (i : Int) = Out.of (l[i]?.map fun c => [c]) := by
  unfold sgR; rw [atR_nat]; cases l[i]? <;> rfl
@[simp] theorem sgR_0 (x : Nat) (xs : List Nat) : sgR (x :: xs) 0 = .ok [x] := by unfold sgR; rw [atR_0]; rfl
@[simp] theorem sgR_lit (x : Nat) (xs : List Nat) (n : Nat) : sgR (x :: xs) (no_index (@OfNat.ofNat Int n instOfNat)) = Out.of ((x :: xs)[(@OfNat.ofNat Nat n (instOfNatNat n))]?.map fun c => [c]) := by
  unfold sgR; rw [atR_lit]; cases ((x :: xs)[(@OfNat.ofNat Nat n (instOfNatNat n))]?) <;> rfl
theorem setR_in {xs : List α} {i : Int} {a : α} (h : 0 ≤ i) (h2 : i < xs.length) : setR xs i a = .ok (xs.set i.toNat a) := by unfold setR; rw [ixN_in ⟨h, h2⟩]
@[simp] theorem setR_nat {xs : List α} {i : Nat} {a : α} (h : i < xs.length) : setR xs (i : Int) a = .ok (xs.set i a) := by
  rw [setR_in (by omega) (by omega)]; simp
/-! slices -/
theorem slL_from {xs : List α} {i : Int} (h : 0 ≤ i) : slL (some i) none xs = xs.drop i.toNat := by
  unfold slL
  rw [sIx_pos _ _ _ h]
  show (xs.drop _).take (xs.length - _) = _
  rw [List.take_of_length_le (by simp)]
  rcases Nat.le_total i.toNat xs.length with l | l
  · rw [Nat.min_eq_left l]
  · rw [Nat.min_eq_right l, List.drop_eq_nil_iff.mpr (Nat.le_refl _), List.drop_eq_nil_iff.mpr l]
theorem slL_to {xs : List α} {i : Int} (h : 0 ≤ i) : slL none (some i) xs = xs.take i.toNat := by
  unfold slL
  rw [sIx_pos _ _ _ h]
  show (xs.drop 0).take (min i.toNat xs.length - 0) = _
  rw [List.drop_zero, Nat.sub_zero]
  rcases Nat.le_total i.toNat xs.length with l | l
  · rw [Nat.min_eq_left l]
  · rw [Nat.min_eq_right l, List.take_of_length_le (Nat.le_refl _), List.take_of_length_le l]
theorem slL_fromto {xs : List α} {i j : Int} (h : 0 ≤ i) (h2 : 0 ≤ j) : slL (some i) (some j) xs = (xs.take j.toNat).drop i.toNat := by
  unfold slL
  rw [sIx_pos _ _ _ h, sIx_pos _ _ _ h2]
  rcases Nat.le_total i.toNat xs.length with l | l
  · rw [Nat.min_eq_left l, cut_gen _ _ _ (Nat.min_le_right _ _)]
    rcases Nat.le_total j.toNat xs.length with l' | l'
    · rw [Nat.min_eq_left l']
    · rw [Nat.min_eq_right l', List.take_of_length_le (Nat.le_refl _), List.take_of_length_le l']
  · rw [Nat.min_eq_right l, List.drop_eq_nil_iff.mpr (Nat.le_refl _), List.take_nil, List.drop_eq_nil_iff.mpr (by rw [List.length_take]; omega)]
theorem slL_all (xs : List α) : slL none none xs = xs := by
  unfold slL
  show (xs.drop 0).take (xs.length - 0) = xs
  simp
theorem slS_from {l : List Nat} {i : Int} (h : 0 ≤ i) : slS (some i) none l = l.drop i.toNat := by unfold slS; rw [cutS_from _ _ h]; rfl
theorem slS_to {l : List Nat} {i : Int} (h : 0 ≤ i) : slS none (some i) l = l.take i.toNat := by unfold slS; rw [cutS_to _ _ h]; rfl
theorem slS_fromto {l : List Nat} {i j : Int} (h : 0 ≤ i) (h2 : 0 ≤ j) : slS (some i) (some j) l = (l.take j.toNat).drop i.toNat := by unfold slS; rw [cutS_fromto _ _ _ h h2]; rfl
@[simp] theorem sgs_length (l : List Nat) : (sgs l).length = l.length := by simp [sgs]
/-! ### loops -/
@[simp] theorem jn_nx (s : σ) (k : σ → Out γ) : jn (.ok (.nx s)) k = k s := rfl
@[simp] theorem jn_out (g : γ) (k : σ → Out γ) : jn (.ok (.out g)) k = .ok g := rfl
@[simp] theorem jn_exc (c : Str) (k : σ → Out γ) : jn (.exc c) k = .exc c := rfl
theorem jn_bind (e : Out α) (f : α → Out (Fj σ γ)) (k : σ → Out γ) : jn (e.bind f) k = e.bind fun a => jn (f a) k := by unfold jn; rw [Out.bind_assoc]
@[simp] theorem jn_if (c : Prop) [Decidable c] (a b : Out (Fj σ γ)) (k : σ → Out γ) : jn (if c then a else b) k = if c then jn a k else jn b k := by split <;> rfl
@[simp] theorem bind_if (c : Prop) [Decidable c] (a b : Out α) (k : α → Out γ) : (if c then a else b).bind k = if c then a.bind k else b.bind k := by split <;> rfl
theorem forS_nil (b : ι → σ → Out σ) (s : σ) : forS b [] s = .ok s := rfl
theorem forS_cons (b : ι → σ → Out σ) (x : ι) (xs : List ι) (s : σ) : forS b (x :: xs) s = (b x s).bind fun s' => forS b xs s' := rfl
theorem forF_nil (b : ι → σ → Out (Lp σ γ)) (s : σ) : forF b [] s = .ok (.nx s) := rfl
theorem forF_cons (b : ι → σ → Out (Lp σ γ)) (x : ι) (xs : List ι) (s : σ) : forF b (x :: xs) s = (b x s).bind fun r => match r with
    | .nx s' => forF b xs s'
    | .bk s' => .ok (.nx s')
    | .out g => .ok (.out g) := by
  rw [forF]
  cases b x s with
  | ok r => cases r <;> rfl
  | exc c => rfl
  | bad => rfl
/-- a loop whose turns all come to an end, by an invariant -/
theorem forS_inv {b : ι → σ → Out σ} (I : Nat → σ → Prop) : ∀ (xs : List ι) (n : Nat) (s : σ), I n s → (∀ i x s, xs[i]? = some x → I (n + i) s → ∃ s', b x s = .ok s' ∧ I (n + i + 1) s') → ∃ s', forS b xs s = .ok s' ∧ I (n + xs.length) s'
  | [], n, s, h, _ => ⟨s, rfl, h⟩
  | x :: xs, n, s, h, hs => by
    obtain ⟨s1, e1, h1⟩ := hs 0 x s rfl h
    obtain ⟨s2, e2, h2⟩ := forS_inv I xs (n + 1) s1 h1 fun i y s hy hi => by
      have := hs (i + 1) y s (by simpa using hy) (by rw [show n + (i + 1) = n + 1 + i by omega]; exact hi)
      rw [show n + (i + 1) + 1 = n + 1 + i + 1 by omega] at this
      exact this
    refine ⟨s2, by rw [forS_cons, e1]; exact e2, ?_⟩
    rw [List.length_cons, show n + (xs.length + 1) = n + 1 + xs.length by omega]
    exact h2
theorem forS_ex {b : ι → σ → Out σ} (I : Nat → σ → Prop) {xs : List ι} {s : σ} (h0 : I 0 s) (hs : ∀ i x s, xs[i]? = some x → I i s → ∃ s', b x s = .ok s' ∧ I (i + 1) s') : ∃ s', forS b xs s = .ok s' ∧ I xs.length s' := by
  have := forS_inv I xs 0 s h0 fun i x s hx hi => by
    have := hs i x s hx (by simpa using hi)
    simpa using this
  simpa using this
/-- over the numbers from 0 on -/
theorem forS_rng {b : Int → σ → Out σ} {n : Nat} (I : Nat → σ → Prop) {s : σ} {j : Int} (hj : j = n) (h0 : I 0 s) (hs : ∀ (i : Nat) s, i < n → I i s → ∃ s', b (i : Int) s = .ok s' ∧ I (i + 1) s') : ∃ s', forS b (rng 0 j) s = .ok s' ∧ I n s' := by
  subst hj
  have := forS_ex (b := b) (xs := rng 0 (n : Int)) I h0 fun i x s hx hi => by
    obtain ⟨h1, h2⟩ := rng_get hx
    have h1 : x = (i : Int) := by omega
    subst h1
    exact hs i s (by omega) hi
  simpa using this
/-- a loop whose turns do what a plain function says -/
theorem forS_fold {b : ι → σ → Out σ} (f : σ → ι → σ) (P : σ → Prop) : ∀ (xs : List ι) (s : σ), P s → (∀ x ∈ xs, ∀ s, P s → b x s = .ok (f s x) ∧ P (f s x)) → forS b xs s = .ok (xs.foldl f s) ∧ P (xs.foldl f s)
  | [], s, h, _ => ⟨rfl, h⟩
  | x :: xs, s, h, hs => by
    obtain ⟨h1, h2⟩ := hs x (by simp) s h
    rw [forS_cons, h1]
    exact forS_fold f P xs _ h2 fun y hy => hs y (by simp [hy])
/-- a loop none of whose turns goes out -/
theorem forF_inv {b : ι → σ → Out (Lp σ γ)} (I : Nat → σ → Prop) : ∀ (xs : List ι) (n : Nat) (s : σ), I n s → (∀ i x s, xs[i]? = some x → I (n + i) s → ∃ s', b x s = .ok (.nx s') ∧ I (n + i + 1) s') → ∃ s', forF b xs s = .ok (.nx s') ∧ I (n + xs.length) s'
  | [], n, s, h, _ => ⟨s, rfl, h⟩
  | x :: xs, n, s, h, hs => by
    obtain ⟨s1, e1, h1⟩ := hs 0 x s rfl h
    obtain ⟨s2, e2, h2⟩ := forF_inv I xs (n + 1) s1 h1 fun i y s hy hi => by
      have := hs (i + 1) y s (by simpa using hy) (by rw [show n + (i + 1) = n + 1 + i by omega]; exact hi)
      rw [show n + (i + 1) + 1 = n + 1 + i + 1 by omega] at this
      exact this
    refine ⟨s2, by rw [forF_cons, e1]; exact e2, ?_⟩
    rw [List.length_cons, show n + (xs.length + 1) = n + 1 + xs.length by omega]
    exact h2
theorem forF_ex {b : ι → σ → Out (Lp σ γ)} (I : Nat → σ → Prop) {xs : List ι} {s : σ} (h0 : I 0 s) (hs : ∀ i x s, xs[i]? = some x → I i s → ∃ s', b x s = .ok (.nx s') ∧ I (i + 1) s') : ∃ s', forF b xs s = .ok (.nx s') ∧ I xs.length s' := by
  have := forF_inv I xs 0 s h0 fun i x s hx hi => by
    have := hs i x s hx (by simpa using hi)
    simpa using this
  simpa using this
theorem forF_rng {b : Int → σ → Out (Lp σ γ)} {n : Nat} (I : Nat → σ → Prop) {s : σ} {j : Int} (hj : j = n) (h0 : I 0 s) (hs : ∀ (i : Nat) s, i < n → I i s → ∃ s', b (i : Int) s = .ok (.nx s') ∧ I (i + 1) s') : ∃ s', forF b (rng 0 j) s = .ok (.nx s') ∧ I n s' := by
  subst hj
  have := forF_ex (b := b) (xs := rng 0 (n : Int)) I h0 fun i x s hx hi => by
    obtain ⟨h1, h2⟩ := rng_get hx
    have h1 : x = (i : Int) := by omega
    subst h1
    exact hs i s (by omega) hi
  simpa using this
/-- a law's loop: no state, no turn goes out -/
theorem forF_unit {b : ι → Unit → Out (Lp Unit γ)} : ∀ {xs : List ι}, (∀ x ∈ xs, b x () = .ok (.nx ())) → forF b xs () = .ok (.nx ())
  | [], _ => rfl
  | x :: xs, h => by rw [forF_cons, h x (by simp)]; exact forF_unit fun y hy => h y (by simp [hy])
/-- a while, by a measure -/
theorem whF_ex {c : σ → Out Bool} {b : σ → Out (Lp σ γ)} (I : σ → Prop) (μ : σ → Nat) (P : σ → Prop) (hc : ∀ s, I s → (c s = .ok false ∧ P s) ∨ (c s = .ok true ∧ ∃ s', b s = .ok (.nx s') ∧ I s' ∧ μ s' < μ s)) (s : σ) (h : I s) : ∃ s', whF c b s = .ok (.nx s') ∧ P s' := by
  generalize hn : μ s = n
  induction n using Nat.strongRecOn generalizing s with
  | _ n ih =>
    rw [whF_step]
    rcases hc s h with ⟨h1, h2⟩ | ⟨h1, s', h2, h3, h4⟩
    · rw [h1]; exact ⟨s, rfl, h2⟩
    · rw [h1]
      simp only [Out.ok_bind, if_true, h2]
      exact ih _ (hn ▸ h4) s' h3 rfl
end
/-! ### shapes of any things -/
@[simp] theorem isD_str (l : List Nat) : isD "str" (cS l) = .ok true := by simp [isD, cS]; decide
@[simp] theorem itD_S (l : List Nat) : itD (cS l) = .ok (l.map fun c => cS [c]) := by simp [itD, cS]
@[simp] theorem opD_inS (a b : List Nat) : opD D.isin (cS a) (cS b) = .ok (inS a b) := by simp [opD, cS, inS]
@[simp] theorem opD_ninS (a b : List Nat) : opD D.notin (cS a) (cS b) = .ok (!inS a b) := by simp [opD, cS, inS]
end TL

namespace TL
open PySem PySem.Spec PyProof.Rows L2 FL
section
variable {α β γ δ σ ι : Type}
/-- a program comes to an end, with a value of this kind -/
def Sat (p : Out α) (P : α → Prop) : Prop := ∃ a, p = .ok a ∧ P a
@[simp] theorem Sat_ok (a : α) (P : α → Prop) : Sat (.ok a) P ↔ P a := ⟨fun ⟨_, e, h⟩ => by cases e; exact h, fun h => ⟨a, rfl, h⟩⟩
@[simp] theorem Sat_bad (P : α → Prop) : ¬Sat (.bad : Out α) P := fun ⟨_, e, _⟩ => by cases e
@[simp] theorem Sat_exc (c : Str) (P : α → Prop) : ¬Sat (.exc c : Out α) P := fun ⟨_, e, _⟩ => by cases e
theorem Sat.bind {p : Out α} {k : α → Out β} {P : β → Prop} (Q : α → Prop) (h : Sat p Q) (hk : ∀ a, Q a → Sat (k a) P) : Sat (p.bind k) P := by
  obtain ⟨a, e, q⟩ := h
  rw [e]; exact hk a q
theorem Sat.imp {p : Out α} {P Q : α → Prop} (h : Sat p P) (hk : ∀ a, P a → Q a) : Sat p Q := by
  obtain ⟨a, e, q⟩ := h
  exact ⟨a, e, hk a q⟩
theorem Sat.of {p : Out α} {a : α} {P : α → Prop} (h : p = .ok a) (q : P a) : Sat p P := ⟨a, h, q⟩
theorem Sat.eq {p : Out α} {k : α → Out β} {P : β → Prop} {a : α} (h : p = .ok a) (hk : Sat (k a) P) : Sat (p.bind k) P := by rw [h]; exact hk
theorem Sat.is {p : Out α} {a : α} (h : Sat p fun b => b = a) : p = .ok a := by obtain ⟨b, e, rfl⟩ := h; exact e
theorem Sat.jn {e : Out (Fj σ γ)} {k : σ → Out γ} {P : γ → Prop} (I : σ → Prop) (h : Sat e fun r => ∃ s, r = .nx s ∧ I s) (hk : ∀ s, I s → Sat (k s) P) : Sat (jn e k) P := by
  obtain ⟨a, e, s, rfl, q⟩ := h
  rw [e]; exact hk s q
theorem Sat.ite {c : Prop} [Decidable c] {a b : Out α} {P : α → Prop} (h1 : c → Sat a P) (h2 : ¬c → Sat b P) : Sat (if c then a else b) P := by
  by_cases h : c
  · rw [if_pos h]; exact h1 h
  · rw [if_neg h]; exact h2 h
theorem Sat.forS {b : ι → σ → Out σ} (I : Nat → σ → Prop) {xs : List ι} {s : σ} {P : σ → Prop} (h0 : I 0 s) (hs : ∀ i x s, xs[i]? = some x → I i s → Sat (b x s) (I (i + 1))) (hd : ∀ s, I xs.length s → P s) : Sat (forS b xs s) P := by
  obtain ⟨s', e, h⟩ := forS_ex I h0 fun i x s hx hi => hs i x s hx hi
  exact ⟨s', e, hd s' h⟩
theorem Sat.rngS {b : Int → σ → Out σ} (I : Nat → σ → Prop) {n : Nat} {j : Int} {s : σ} {P : σ → Prop} (hj : j = n) (h0 : I 0 s) (hs : ∀ (i : Nat) s, i < n → I i s → Sat (b (i : Int) s) (I (i + 1))) (hd : ∀ s, I n s → P s) : Sat (TL.forS b (rng 0 j) s) P := by
  obtain ⟨s', e, h⟩ := forS_rng I hj h0 fun i s hi h => hs i s hi h
  exact ⟨s', e, hd s' h⟩
/-- what a turn of a loop with ways out may be: go on, or go out with such a thing -/
def Turn (I : σ → Prop) (O : γ → Prop) : Lp σ γ → Prop
  | .nx s => I s
  | .bk s => False
  | .out g => O g
def Done (I : σ → Prop) (O : γ → Prop) : Fj σ γ → Prop
  | .nx s => I s
  | .out g => O g
theorem Sat.forF {b : ι → σ → Out (Lp σ γ)} (I : Nat → σ → Prop) (O : γ → Prop) : ∀ {xs : List ι} {s : σ} (n : Nat), I n s → (∀ i x s, xs[i]? = some x → I (n + i) s → Sat (b x s) (Turn (I (n + i + 1)) O)) → Sat (forF b xs s) (Done (I (n + xs.length)) O)
  | [], s, n, h, _ => ⟨.nx s, rfl, h⟩
  | x :: xs, s, n, h, hs => by
    obtain ⟨r, e1, h1⟩ := hs 0 x s rfl h
    rw [forF_cons, e1]
    cases r with
    | nx s' =>
      have := Sat.forF I O (xs := xs) (s := s') (n + 1) h1 fun i y s hy hi => by
        have := hs (i + 1) y s (by simpa using hy) (by rw [show n + (i + 1) = n + 1 + i by omega]; exact hi)
        rw [show n + (i + 1) + 1 = n + 1 + i + 1 by omega] at this
        exact this
      rw [List.length_cons, show n + (xs.length + 1) = n + 1 + xs.length by omega]
      exact this
    | bk s' => exact h1.elim
    | out g => exact ⟨_, rfl, h1⟩
/-- a loop in which nothing goes out -/
theorem Sat.forN {b : ι → σ → Out (Lp σ γ)} (I : Nat → σ → Prop) {xs : List ι} {s : σ} {P : Fj σ γ → Prop} (h0 : I 0 s) (hs : ∀ i x s, xs[i]? = some x → I i s → Sat (b x s) fun r => ∃ s', r = .nx s' ∧ I (i + 1) s') (hd : ∀ s, I xs.length s → P (.nx s)) : Sat (TL.forF b xs s) P := by
  obtain ⟨s', e, h⟩ := forF_ex I h0 fun i x s hx hi => by
    obtain ⟨r, e, s', rfl, q⟩ := hs i x s hx hi
    exact ⟨s', e, q⟩
  exact ⟨_, e, hd s' h⟩
theorem Sat.rngN {b : Int → σ → Out (Lp σ γ)} (I : Nat → σ → Prop) {n : Nat} {j : Int} {s : σ} {P : Fj σ γ → Prop} (hj : j = n) (h0 : I 0 s) (hs : ∀ (i : Nat) s, i < n → I i s → Sat (b (i : Int) s) fun r => ∃ s', r = .nx s' ∧ I (i + 1) s') (hd : ∀ s, I n s → P (.nx s)) : Sat (TL.forF b (rng 0 j) s) P := by
  obtain ⟨s', e, h⟩ := forF_rng I hj h0 fun i s hi h => by
    obtain ⟨r, e, s', rfl, q⟩ := hs i s hi h
    exact ⟨s', e, q⟩
  exact ⟨_, e, hd s' h⟩
/-- a law's loop: no state at all -/
theorem law_loop {b : ι → Unit → Out (Lp Unit γ)} {xs : List ι} {k : Unit → Out γ} {P : γ → Prop} (h : ∀ x ∈ xs, Sat (b x ()) fun r => r = .nx ()) (hk : Sat (k ()) P) : Sat (TL.jn (TL.forF b xs ()) k) P := by
  rw [forF_unit fun x hx => (h x hx).is]
  exact hk
end
end TL

namespace TL
open PySem PySem.Spec PyProof.Rows L2 FL
section
variable {α β γ δ ε ζ : Type} {ca : α → D} {cb : β → D} {cc : γ → D} {cd : δ → D} {ce : ε → D} {cf : ζ → D}
/-! ### kinds of things, and their parts -/
@[simp] theorem isD_c1 (p : α) : isD "tuple" (c1 ca p) = .ok true := by simp [isD, c1]; decide
@[simp] theorem isD_c2 (p : α × β) : isD "tuple" (c2 ca cb p) = .ok true := by simp [isD, c2]; decide
@[simp] theorem isD_c3 (p : α × β × γ) : isD "tuple" (c3 ca cb cc p) = .ok true := by simp [isD, c3]; decide
@[simp] theorem isD_c4 (p : α × β × γ × δ) : isD "tuple" (c4 ca cb cc cd p) = .ok true := by simp [isD, c4]; decide
@[simp] theorem isD_cU (p : List α) : isD "tuple" (cU ca p) = .ok true := by simp [isD, cU]; decide
@[simp] theorem isD_tup (p : List D) : isD "tuple" (.tup p) = .ok true := by simp [isD]; decide
@[simp] theorem isDt_cL (p : List α) : isD "tuple" (cL ca p) = .ok false := by simp [isD, cL]; decide
@[simp] theorem isDt_cS (p : List Nat) : isD "tuple" (cS p) = .ok false := by simp [isD, cS]; decide
@[simp] theorem isDt_cI (p : Int) : isD "tuple" (cI p) = .ok false := by simp [isD, cI]; decide
@[simp] theorem isDt_cB (p : Bool) : isD "tuple" (cB p) = .ok false := by simp [isD, cB]; decide
@[simp] theorem isDt_cN (p : Unit) : isD "tuple" (cN p) = .ok false := by simp [isD, cN]; decide
@[simp] theorem isDs_c1 (p : α) : isD "str" (c1 ca p) = .ok false := by simp [isD, c1]; decide
@[simp] theorem isDs_c2 (p : α × β) : isD "str" (c2 ca cb p) = .ok false := by simp [isD, c2]; decide
@[simp] theorem isDs_c3 (p : α × β × γ) : isD "str" (c3 ca cb cc p) = .ok false := by simp [isD, c3]; decide
@[simp] theorem isDs_c4 (p : α × β × γ × δ) : isD "str" (c4 ca cb cc cd p) = .ok false := by simp [isD, c4]; decide
@[simp] theorem isDs_cU (p : List α) : isD "str" (cU ca p) = .ok false := by simp [isD, cU]; decide
@[simp] theorem isDs_cL (p : List α) : isD "str" (cL ca p) = .ok false := by simp [isD, cL]; decide
@[simp] theorem isDs_cI (p : Int) : isD "str" (cI p) = .ok false := by simp [isD, cI]; decide
@[simp] theorem isDs_cB (p : Bool) : isD "str" (cB p) = .ok false := by simp [isD, cB]; decide
@[simp] theorem isDs_cN (p : Unit) : isD "str" (cN p) = .ok false := by simp [isD, cN]; decide
@[simp] theorem isDi_cS (p : List Nat) : isD "int" (cS p) = .ok false := by simp [isD, cS]; decide
@[simp] theorem isDi_cI (p : Int) : isD "int" (cI p) = .ok true := by simp [isD, cI]; decide
@[simp] theorem isDi_cB (p : Bool) : isD "int" (cB p) = .ok true := by simp [isD, cB, isT]
@[simp] theorem isDi_cN (p : Unit) : isD "int" (cN p) = .ok false := by simp [isD, cN]; decide
@[simp] theorem isDi_cL (p : List α) : isD "int" (cL ca p) = .ok false := by simp [isD, cL]; decide
@[simp] theorem isDi_cU (p : List α) : isD "int" (cU ca p) = .ok false := by simp [isD, cU]; decide
@[simp] theorem isDb_cI (p : Int) : isD "bool" (cI p) = .ok false := by simp [isD, cI]; decide
@[simp] theorem isDb_cB (p : Bool) : isD "bool" (cB p) = .ok true := by simp [isD, cB]; decide
@[simp] theorem isDb_cS (p : List Nat) : isD "bool" (cS p) = .ok false := by simp [isD, cS]; decide
@[simp] theorem isDb_cN (p : Unit) : isD "bool" (cN p) = .ok false := by simp [isD, cN]; decide
@[simp] theorem lenD_c1 (p : α) : lenD (c1 ca p) = .ok 1 := by simp [lenD, c1]
@[simp] theorem lenD_c2 (p : α × β) : lenD (c2 ca cb p) = .ok 2 := by simp [lenD, c2]
@[simp] theorem lenD_c3 (p : α × β × γ) : lenD (c3 ca cb cc p) = .ok 3 := by simp [lenD, c3]
@[simp] theorem lenD_c4 (p : α × β × γ × δ) : lenD (c4 ca cb cc cd p) = .ok 4 := by simp [lenD, c4]
@[simp] theorem lenD_cU (p : List α) : lenD (cU ca p) = .ok (p.length : Int) := by simp [lenD, cU]
@[simp] theorem lenD_cL (p : List α) : lenD (cL ca p) = .ok (p.length : Int) := by simp [lenD, cL]
@[simp] theorem lenD_cS (p : List Nat) : lenD (cS p) = .ok (p.length : Int) := by simp [lenD, cS]
@[simp] theorem lenD_tup (p : List D) : lenD (.tup p) = .ok (p.length : Int) := by simp [lenD]
@[simp] theorem ixD_c1 (p : α) : ixD (c1 ca p) 0 = .ok (ca p) := rfl
@[simp] theorem ixD_c20 (p : α × β) : ixD (c2 ca cb p) 0 = .ok (ca p.1) := rfl
@[simp] theorem ixD_c21 (p : α × β) : ixD (c2 ca cb p) 1 = .ok (cb p.2) := rfl
@[simp] theorem ixD_c30 (p : α × β × γ) : ixD (c3 ca cb cc p) 0 = .ok (ca p.1) := rfl
@[simp] theorem ixD_c31 (p : α × β × γ) : ixD (c3 ca cb cc p) 1 = .ok (cb p.2.1) := rfl
@[simp] theorem ixD_c32 (p : α × β × γ) : ixD (c3 ca cb cc p) 2 = .ok (cc p.2.2) := rfl
@[simp] theorem ixD_c40 (p : α × β × γ × δ) : ixD (c4 ca cb cc cd p) 0 = .ok (ca p.1) := rfl
@[simp] theorem ixD_c41 (p : α × β × γ × δ) : ixD (c4 ca cb cc cd p) 1 = .ok (cb p.2.1) := rfl
@[simp] theorem ixD_c42 (p : α × β × γ × δ) : ixD (c4 ca cb cc cd p) 2 = .ok (cc p.2.2.1) := rfl
@[simp] theorem ixD_c43 (p : α × β × γ × δ) : ixD (c4 ca cb cc cd p) 3 = .ok (cd p.2.2.2) := rfl
@[simp] theorem itD_c1 (p : α) : itD (c1 ca p) = .ok [ca p] := rfl
@[simp] theorem itD_c2 (p : α × β) : itD (c2 ca cb p) = .ok [ca p.1, cb p.2] := rfl
@[simp] theorem itD_c3 (p : α × β × γ) : itD (c3 ca cb cc p) = .ok [ca p.1, cb p.2.1, cc p.2.2] := rfl
@[simp] theorem itD_cU (p : List α) : itD (cU ca p) = .ok (p.map ca) := rfl
@[simp] theorem itD_cL (p : List α) : itD (cL ca p) = .ok (p.map ca) := rfl
@[simp] theorem itD_tup (p : List D) : itD (.tup p) = .ok p := rfl
@[simp] theorem cD_ap (d : D) : cD d = d := rfl
@[simp] theorem asD_ap (d : D) : asD d = .ok d := rfl
theorem eqD_fai [DecidableEq α] {n : Nat} (h : Fai n ca) (hn : n ≤ 60) (a b : α) : eqD (ca a) (ca b) = .ok (decide (a = b)) := by
  unfold eqD; rw [if_pos ⟨h.cmp hn a, h.cmp hn b⟩, h.eq]
theorem neD_fai [DecidableEq α] {n : Nat} (h : Fai n ca) (hn : n ≤ 60) (a b : α) : neD (ca a) (ca b) = .ok (!decide (a = b)) := by
  unfold neD; rw [if_pos ⟨h.cmp hn a, h.cmp hn b⟩, h.eq]
@[simp] theorem eqD_S (a b : List Nat) : eqD (cS a) (cS b) = .ok (decide (a = b)) := eqD_fai Fai.S (by decide) a b
@[simp] theorem neD_S (a b : List Nat) : neD (cS a) (cS b) = .ok (!decide (a = b)) := neD_fai Fai.S (by decide) a b
@[simp] theorem eqD_I (a b : Int) : eqD (cI a) (cI b) = .ok (decide (a = b)) := eqD_fai Fai.I (by decide) a b
@[simp] theorem neD_I (a b : Int) : neD (cI a) (cI b) = .ok (!decide (a = b)) := neD_fai Fai.I (by decide) a b
@[simp] theorem eqD_B (a b : Bool) : eqD (cB a) (cB b) = .ok (decide (a = b)) := eqD_fai Fai.B (by decide) a b
@[simp] theorem neD_B (a b : Bool) : neD (cB a) (cB b) = .ok (!decide (a = b)) := neD_fai Fai.B (by decide) a b
@[simp] theorem opD_leI (a b : Int) : opD D.le (cI a) (cI b) = .ok (decide (a ≤ b)) := rfl
@[simp] theorem opD_ltI (a b : Int) : opD D.lt (cI a) (cI b) = .ok (decide (a < b)) := rfl
@[simp] theorem opD_geI (a b : Int) : opD D.ge (cI a) (cI b) = .ok (decide (b ≤ a)) := rfl
@[simp] theorem opD_gtI (a b : Int) : opD D.gt (cI a) (cI b) = .ok (decide (b < a)) := rfl
@[simp] theorem opD_isB (a b : Bool) : opD D.is (cB a) (cB b) = .ok (decide (a = b)) := rfl
@[simp] theorem opD_isntB (a b : Bool) : opD D.isnt (cB a) (cB b) = .ok (!decide (a = b)) := rfl
theorem opD_inU (a : List Nat) (ms : List (List Nat)) : opD D.isin (cS a) (cU cS ms) = .ok (decide (a ∈ ms)) := by
  have := o_inU Fai.S flS a ms
  simp only [RO] at this
  unfold opD
  rw [this]
  simp only [cB]
  exact congrArg Out.ok (decide_eq_decide.mpr Iff.rfl)
@[simp] theorem isNon_cS (l : List Nat) : (cS l).isNon = false := rfl
@[simp] theorem isNon_cI (l : Int) : (cI l).isNon = false := rfl
@[simp] theorem isNon_cB (l : Bool) : (cB l).isNon = false := rfl
@[simp] theorem isNon_cN (l : Unit) : (cN l).isNon = true := rfl
@[simp] theorem isNon_cU (l : List α) : (cU ca l).isNon = false := rfl
@[simp] theorem isNon_cL (l : List α) : (cL ca l).isNon = false := rfl
@[simp] theorem isNon_c1 (p : α) : (c1 ca p).isNon = false := rfl
@[simp] theorem isNon_c2 (p : α × β) : (c2 ca cb p).isNon = false := rfl
@[simp] theorem isNon_c3 (p : α × β × γ) : (c3 ca cb cc p).isNon = false := rfl
end
@[simp] theorem tryR_ok {γ : Type} (rs : List Str) (h : Str → Out γ) (a : γ) : tryR rs h (.ok a) = .ok a := rfl
@[simp] theorem tryR_exc {γ : Type} (rs : List Str) (h : Str → Out γ) (k : Str) : tryR rs h (.exc k) = if k ∈ rs then h k else .bad := rfl
@[simp] theorem goH_cons {γ : Type} (cs : List Str) (p : Out γ) (r : List (List Str × Out γ)) (c : Str) : goH ((cs, p) :: r) c = if c ∈ cs then p else goH r c := by rw [goH]
@[simp] theorem goH_nil {γ : Type} (c : Str) : goH ([] : List (List Str × Out γ)) c = .exc c := by rw [goH]
end TL

namespace TL
open PySem PySem.Spec PyProof.Rows L2 FL
section
variable {S α β γ δ σ ι : Type}
theorem Sat.guard {e : Out Bool} {A B : Out γ} {P : γ → Prop} (h : e = .ok false) (hk : Sat B P) : Sat (e.bind fun v => if v = true then A else B) P := by
  rw [h, Out.ok_bind, if_neg Bool.false_ne_true]; exact hk
/-- a program that changes its deck: it comes to an end, the deck stays good -/
def SatM (I : S → Prop) (m : S → Out (α × S)) (P : α → Prop) : Prop := ∀ s, I s → Sat (m s) fun p => P p.1 ∧ I p.2
theorem SatM.bd {I : S → Prop} {m : S → Out (α × S)} {k : α → S → Out (β × S)} {P : β → Prop} (Q : α → Prop) (h : SatM I m Q) (hk : ∀ a, Q a → SatM I (k a) P) : SatM I (M.bd m k) P := fun s hs =>
  Sat.bind _ (h s hs) fun p ⟨q1, q2⟩ => hk p.1 q1 p.2 q2
theorem SatM.rt {I : S → Prop} {a : α} {P : α → Prop} (h : P a) : SatM I (M.rt a) P := fun s hs => ⟨(a, s), rfl, h, hs⟩
theorem SatM.up {I : S → Prop} {e : Out α} {P : α → Prop} (h : Sat e P) : SatM I (M.up e) P := fun s hs => by
  obtain ⟨a, e1, h1⟩ := h
  subst e1
  exact ⟨(a, s), rfl, h1, hs⟩
theorem SatM.nx {I : S → Prop} {m : S → Out (α × S)} {P : α → Prop} (h : SatM I m P) : SatM I (M.nx m) P := fun s hs => by
  obtain ⟨a, e1, h1⟩ := h s hs
  refine ⟨a, ?_, h1⟩
  unfold M.nx
  rw [e1]; rfl
theorem SatM.imp {I : S → Prop} {m : S → Out (α × S)} {P Q : α → Prop} (h : SatM I m P) (hk : ∀ a, P a → Q a) : SatM I m Q := fun s hs => (h s hs).imp fun p q => ⟨hk _ q.1, q.2⟩
theorem SatM.ite {I : S → Prop} {c : Prop} [Decidable c] {a b : S → Out (α × S)} {P : α → Prop} (h1 : c → SatM I a P) (h2 : ¬c → SatM I b P) : SatM I (if c then a else b) P := by
  by_cases h : c
  · rw [if_pos h]; exact h1 h
  · rw [if_neg h]; exact h2 h
theorem SatM.ap {I : S → Prop} {m : S → Out (α × S)} {s : S} (P : α → Prop) {R : α × S → Prop} (hs : I s) (h : SatM I m P) (hk : ∀ a s, P a → I s → R (a, s)) : Sat (m s) R := (h s hs).imp fun p q => hk p.1 p.2 q.1 q.2
/-- a comprehension that draws -/
theorem SatM.lcS {I : S → Prop} {t : ι → S → Out (Bool × S)} {e : ι → S → Out (α × S)} {xs : List ι} {Q : α → Prop} (hl : xs.length ≤ 16777216) (ht : ∀ x ∈ xs, SatM I (t x) fun _ => True) (he : ∀ x ∈ xs, SatM I (e x) Q) : SatM I (lcS t e xs) fun r => (∀ a ∈ r, Q a) ∧ r.length ≤ xs.length := by
  unfold TL.lcS
  rw [if_pos hl]
  clear hl
  induction xs with
  | nil => exact SatM.rt ⟨fun a h => (by cases h), Nat.le_refl _⟩
  | cons x xs ih =>
    have ih := ih (fun y hy => ht y (List.mem_cons_of_mem _ hy)) fun y hy => he y (List.mem_cons_of_mem _ hy)
    unfold lcMS
    refine SatM.bd _ (SatM.nx (ht x (by simp))) fun b _ => SatM.ite (fun _ => ?_) fun _ => ih.imp fun r h => ⟨h.1, by simp; omega⟩
    refine SatM.bd _ (SatM.nx (he x (by simp))) fun a ha => SatM.bd _ ih fun r hr => SatM.rt ⟨fun b hb => ?_, by simp; omega⟩
    rcases List.mem_cons.mp hb with rfl | hb
    · exact ha
    · exact hr.1 b hb
/-- .. without a test: as many as there were -/
theorem SatM.lcA {I : S → Prop} {e : ι → S → Out (α × S)} {xs : List ι} {Q : α → Prop} (hl : xs.length ≤ 16777216) (he : ∀ x ∈ xs, SatM I (e x) Q) : SatM I (TL.lcS (fun _ => M.rt true) e xs) fun r => (∀ a ∈ r, Q a) ∧ r.length = xs.length := by
  unfold TL.lcS
  rw [if_pos hl]
  clear hl
  induction xs with
  | nil => exact SatM.rt ⟨fun a h => (by cases h), rfl⟩
  | cons x xs ih =>
    have ih := ih fun y hy => he y (List.mem_cons_of_mem _ hy)
    unfold lcMS
    refine SatM.bd (fun b => b = true) (SatM.nx (SatM.rt rfl)) fun b hb => ?_
    subst hb
    rw [if_pos rfl]
    refine SatM.bd _ (SatM.nx (he x (by simp))) fun a ha => SatM.bd _ ih fun r hr => SatM.rt ⟨fun b hb => ?_, by simp [hr.2]⟩
    rcases List.mem_cons.mp hb with rfl | hb
    · exact ha
    · exact hr.1 b hb
end
end TL

namespace TL
open PySem PySem.Spec PyProof.Rows L2 FL
noncomputable section
def P.is_word (thing : D) : Out Bool := (isD "str" thing).bind fun v3 => if v3 = true then (((itD thing).bind fun v1 => lcR (fun (sign : D) => Out.ok true) (fun (sign : D) => (opD D.isin sign (cS ([97, 98, 99, 100, 101, 102, 103, 104, 105, 106, 107, 108, 109, 110, 111, 112, 113, 114, 115, 116, 117, 118, 119, 120, 121, 122] : (List Nat))))) v1).bind fun v2 => Out.ok ((v2.all id))) else Out.ok false
def P.is_weaving (thing : D) : Out Bool := (isD "tuple" thing).bind fun v4 => if v4 = true then (((itD thing).bind fun v2 => lcR (fun (move : D) => Out.ok true) (fun (move : D) => ((isD "str" move).bind fun v1 => if v1 = true then (opD D.isin move ((cV cS) ([[120, 121], [120, 122], [116, 121], [116, 122]] : (List (List Nat))))) else Out.ok false)) v2).bind fun v3 => Out.ok ((v3.all id))) else Out.ok false
def P.raw_judged (words : (List (List Nat))) (weaving : (List (List Nat))) : Out D := (Out.ok ([(0 : Int), (0 : Int), (0 : Int), (0 : Int)] : List Int)).bind fun (taken : (List Int)) => jn (forF (fun ((at_, move) : (Int × (List Nat))) (taken : (List Int)) => (((sgR move (0 : Int)).bind fun v1 => sidxR ([120, 121, 122, 116] : (List Nat)) v1).bind fun v3 => ((sgR move (1 : Int)).bind fun v2 => sidxR ([120, 121, 122, 116] : (List Nat)) v2).bind fun v4 => Out.ok ((v3, v4))).bind fun (one, other) => (((atR taken one).bind fun v6 => ((atR words one).bind fun v5 => Out.ok ((v5.length : Int))).bind fun v7 => Out.ok ((decide (v6 = v7)))).bind fun v11 => if v11 = true then Out.ok true else ((atR taken other).bind fun v9 => ((atR words other).bind fun v8 => Out.ok ((v8.length : Int))).bind fun v10 => Out.ok ((decide (v9 = v10))))).bind fun v19 => if v19 = true then Out.ok (Lp.out ((c3 cS cI cS) (([114, 101, 102, 117, 115, 101, 100] : List Nat), at_, ([101, 110, 100] : List Nat)))) else (((atR words one).bind fun v12 => (atR taken one).bind fun v13 => sgR v12 v13).bind fun v16 => ((atR words other).bind fun v14 => (atR taken other).bind fun v15 => sgR v14 v15).bind fun v17 => Out.ok ((!decide (v16 = v17)))).bind fun v18 => if v18 = true then Out.ok (Lp.out ((c3 cS cI cS) (([114, 101, 102, 117, 115, 101, 100] : List Nat), at_, ([117, 110, 108, 105, 107, 101] : List Nat)))) else ((atR taken one).bind fun o => (Out.ok (o + (1 : Int))).bind fun w => setR taken one w).bind fun taken => ((atR taken other).bind fun o => (Out.ok (o + (1 : Int))).bind fun w => setR taken other w).bind fun taken => Out.ok (Lp.nx taken)) (enum weaving) taken) fun taken => ((lcA words (fun (word : (List Nat)) => (word.length : Int))).bind fun v20 => Out.ok ((!decide (taken = v20)))).bind fun v21 => if v21 = true then Out.ok ((c3 cS cI cS) (([114, 101, 102, 117, 115, 101, 100] : List Nat), (weaving.length : Int), ([108, 101, 102, 116] : List Nat))) else Out.ok ((c1 cS) (([119, 111, 118, 101, 110] : List Nat)))
def P.w_numbers (script : (List Int)) (thing : Int) : Out (List Int) := (Out.ok (0 : Int)).bind fun (cell : Int) => (if (decide ((0 : Int) < (script.length : Int))) = true then (((modR thing (script.length : Int)).bind fun v3 => atR script v3).bind fun v4 => Out.ok (v4)).bind fun (cell : Int) => Out.ok cell else Out.ok cell).bind fun cell => (Out.ok (0 : Int)).bind fun (rest : Int) => ((if (decide (thing < (script.length : Int))) = true then ((powR (10 : Int) (18 : Int)).bind fun v5 => Out.ok ((decide (v5 ≤ cell)))) else Out.ok false).bind fun v6 => if v6 = true then (Out.ok cell).bind fun (rest : Int) => Out.ok rest else Out.ok rest).bind fun rest => (Out.ok ([] : List Int)).bind fun (found : (List Int)) => ((rng1 (40 : Int)).bind fun v20 => forS (fun (k : Int) ((rest, found) : Int × (List Int)) => ((((((modR cell (2147483629 : Int)).bind fun v7 => (mulR (7919 : Int) k).bind fun v8 => Out.ok ((v7 + v8))).bind fun v9 => (mulR (611953 : Int) thing).bind fun v10 => Out.ok ((v9 + v10))).bind fun v11 => Out.ok ((v11 + (1 : Int)))).bind fun v12 => mulR v12 (48271 : Int)).bind fun v13 => modR v13 (2147483647 : Int)).bind fun (number : Int) => ((((divR number (1009 : Int)).bind fun v14 => Out.ok ((v14 + (69621 : Int)))).bind fun v15 => mulR number v15).bind fun v16 => modR v16 (2147483647 : Int)).bind fun (number : Int) => ((((divR number (2003 : Int)).bind fun v17 => Out.ok ((v17 + (40692 : Int)))).bind fun v18 => mulR number v18).bind fun v19 => modR v19 (2147483399 : Int)).bind fun (number : Int) => (if (decide ((0 : Int) < rest)) = true then (modR rest (1000000007 : Int)).bind fun (number : Int) => (divR rest (1000000007 : Int)).bind fun (rest : Int) => Out.ok (rest, number) else Out.ok (rest, number)).bind fun (rest, number) => (appR found number).bind fun found => Out.ok (rest, found)) v20 (rest, found)).bind fun (rest, found) => Out.ok found
def P.w_letters (number : Int) : Out (List Nat) := (Out.ok ([] : List Nat)).bind fun (found : (List Nat)) => (divR number (3 : Int)).bind fun (rest : Int) => ((((modR number (2 : Int)).bind fun v1 => Out.ok (((2 : Int) + v1))).bind fun v2 => rng1 v2).bind fun v5 => forS (fun (k : Int) ((found, rest) : (List Nat) × Int) => (lcP (sgs ([97, 98, 99, 100, 101, 102, 103, 104, 105, 106, 107, 108, 109, 110, 111, 112, 113, 114, 115, 116, 117, 118, 119, 120, 121, 122] : List Nat)) (fun (letter : (List Nat)) => (!inS letter found)) (fun (letter : (List Nat)) => letter)).bind fun (left : (List (List Nat))) => (((modR rest (left.length : Int)).bind fun v3 => atR left v3).bind fun v4 => catR found v4).bind fun (found : (List Nat)) => (divR rest (26 : Int)).bind fun (rest : Int) => Out.ok (found, rest)) v5 (found, rest)).bind fun (found, rest) => Out.ok found
def P.w_word (xs : (List Int)) (start : Int) (size : Int) (letters : (List Nat)) : Out (List Nat) := (Out.ok ([] : List Nat)).bind fun (word : (List Nat)) => ((rng2 start (start + size)).bind fun v9 => forS (fun (k : Int) (word : (List Nat)) => ((((((modR k (40 : Int)).bind fun v1 => atR xs v1).bind fun v4 => (((divR k (40 : Int)).bind fun v2 => modR v2 (3 : Int)).bind fun v3 => atR ([(1 : Int), (101 : Int), (10007 : Int)] : List Int) v3).bind fun v5 => divR v4 v5).bind fun v6 => modR v6 (letters.length : Int)).bind fun v7 => sgR letters v7).bind fun v8 => catR word v8).bind fun (word : (List Nat)) => Out.ok word) v9 word).bind fun word => Out.ok word
def P.w_woven (xs : (List Int)) (many : Int) (letters : (List Nat)) : Out ((List (List Nat)) × (List (List Nat))) := (Out.ok ([([] : List Nat), ([] : List Nat), ([] : List Nat), ([] : List Nat)] : List (List Nat))).bind fun (words : (List (List Nat))) => (Out.ok ([] : List (List Nat))).bind fun (moves : (List (List Nat))) => ((rng1 many).bind fun v15 => forS (fun (k : Int) ((words, moves) : (List (List Nat)) × (List (List Nat))) => (((modR k (40 : Int)).bind fun v1 => atR xs v1).bind fun v4 => (((divR k (40 : Int)).bind fun v2 => modR v2 (3 : Int)).bind fun v3 => atR ([(1 : Int), (101 : Int), (10007 : Int)] : List Int) v3).bind fun v5 => divR v4 v5).bind fun (number : Int) => ((modR number (4 : Int)).bind fun v6 => atR ([((0 : Int), (1 : Int)), ((0 : Int), (2 : Int)), ((3 : Int), (1 : Int)), ((3 : Int), (2 : Int))] : List (Int × Int)) v6).bind fun (one, other) => (((divR number (4 : Int)).bind fun v7 => modR v7 (letters.length : Int)).bind fun v8 => sgR letters v8).bind fun (letter : (List Nat)) => (((atR words one).bind fun v9 => catR v9 letter).bind fun v10 => setR words one v10).bind fun words => (((atR words other).bind fun v11 => catR v11 letter).bind fun v12 => setR words other v12).bind fun words => (((modR number (4 : Int)).bind fun v13 => atR ([([120, 121] : List Nat), ([120, 122] : List Nat), ([116, 121] : List Nat), ([116, 122] : List Nat)] : List (List Nat)) v13).bind fun v14 => appR moves v14).bind fun moves => Out.ok (words, moves)) v15 (words, moves)).bind fun (words, moves) => Out.ok (words, moves)
def P.w_judged (words : (List (List Nat))) (moves : (List (List Nat))) : Out D := (Out.ok words).bind fun (left : (List (List Nat))) => jn ((rng1 (moves.length : Int)).bind fun v16 => forF (fun (at_ : Int) (left : (List (List Nat))) => (((atR moves at_).bind fun v1 => idxR ([([120, 121] : List Nat), ([120, 122] : List Nat), ([116, 121] : List Nat), ([116, 122] : List Nat)] : List (List Nat)) v1).bind fun v2 => atR ([((0 : Int), (1 : Int)), ((0 : Int), (2 : Int)), ((3 : Int), (1 : Int)), ((3 : Int), (2 : Int))] : List (Int × Int)) v2).bind fun (one, other) => (((atR left one).bind fun v3 => Out.ok ((decide (v3 = ([] : List Nat))))).bind fun v5 => if v5 = true then Out.ok true else ((atR left other).bind fun v4 => Out.ok ((decide (v4 = ([] : List Nat)))))).bind fun v15 => if v15 = true then Out.ok (Lp.out ((c3 cS cI cS) (([114, 101, 102, 117, 115, 101, 100] : List Nat), at_, ([101, 110, 100] : List Nat)))) else (((atR left one).bind fun v6 => sgR v6 (0 : Int)).bind fun v8 => ((atR left other).bind fun v7 => sgR v7 (0 : Int)).bind fun v9 => Out.ok ((!decide (v8 = v9)))).bind fun v14 => if v14 = true then Out.ok (Lp.out ((c3 cS cI cS) (([114, 101, 102, 117, 115, 101, 100] : List Nat), at_, ([117, 110, 108, 105, 107, 101] : List Nat)))) else (((atR left one).bind fun v10 => Out.ok ((slS (some (1 : Int)) none v10))).bind fun v11 => setR left one v11).bind fun left => (((atR left other).bind fun v12 => Out.ok ((slS (some (1 : Int)) none v12))).bind fun v13 => setR left other v13).bind fun left => Out.ok (Lp.nx left)) v16 left) fun left => if (!decide (left = ([([] : List Nat), ([] : List Nat), ([] : List Nat), ([] : List Nat)] : List (List Nat)))) = true then Out.ok ((c3 cS cI cS) (([114, 101, 102, 117, 115, 101, 100] : List Nat), (moves.length : Int), ([108, 101, 102, 116] : List Nat))) else Out.ok ((c1 cS) (([119, 111, 118, 101, 110] : List Nat)))
def P.w_same (found : D) (due : D) : Out Bool := (Out.ok ([(found, due)] : List (D × D))).bind fun (pairs : (List (D × D))) => jn ((rng1 (30 : Int)).bind fun v22 => forF (fun (depth : Int) (pairs : (List (D × D))) => (Out.ok ([] : List (D × D))).bind fun (below : (List (D × D))) => jn (forF (fun ((one, other) : (D × D)) (below : (List (D × D))) => (isD "tuple" other).bind fun v21 => if v21 = true then (((isD "tuple" one).bind fun v1 => Out.ok ((!v1))).bind fun v4 => if v4 = true then Out.ok true else ((lenD one).bind fun v2 => (lenD other).bind fun v3 => Out.ok ((!decide (v2 = v3))))).bind fun v10 => if v10 = true then Out.ok (Lp.out (Lp.out false)) else ((((lenD other).bind fun v5 => rng1 v5).bind fun v8 => lcR (fun (k : Int) => Out.ok true) (fun (k : Int) => ((ixD one k).bind fun v6 => (ixD other k).bind fun v7 => Out.ok ((v6, v7)))) v8).bind fun v9 => extR below v9).bind fun below => Out.ok (Lp.nx below) else if other.isNon = true then if (!one.isNon) = true then Out.ok (Lp.out (Lp.out false)) else Out.ok (Lp.nx below) else ((isD "bool" one).bind fun v11 => (isD "bool" other).bind fun v12 => Out.ok ((!decide (v11 = v12)))).bind fun v20 => if v20 = true then Out.ok (Lp.out (Lp.out false)) else ((isD "str" one).bind fun v13 => (isD "str" other).bind fun v14 => Out.ok ((!decide (v13 = v14)))).bind fun v19 => if v19 = true then Out.ok (Lp.out (Lp.out false)) else (((isD "int" one).bind fun v15 => (isD "int" other).bind fun v16 => Out.ok ((!decide (v15 = v16)))).bind fun v17 => if v17 = true then Out.ok true else (neD one other)).bind fun v18 => if v18 = true then Out.ok (Lp.out (Lp.out false)) else Out.ok (Lp.nx below)) pairs below) fun below => (Out.ok below).bind fun (pairs : (List (D × D))) => Out.ok (Lp.nx pairs)) v22 pairs) fun pairs => eqD ((cL (c2 cD cD)) pairs) ((cL cD) ([] : List D))
def P.w_changed (words : (List (List Nat))) (moves : (List (List Nat))) (number : Int) (letters : (List Nat)) : Out ((List (List Nat)) × (List (List Nat))) := (Out.ok words).bind fun (words : (List (List Nat))) => (Out.ok moves).bind fun (moves : (List (List Nat))) => (modR number (8 : Int)).bind fun (way : Int) => ((divR number (8 : Int)).bind fun v1 => modR v1 ((moves.length : Int) + (1 : Int))).bind fun (at_ : Int) => (((divR number (1024 : Int)).bind fun v2 => modR v2 (4 : Int)).bind fun v3 => atR ([([120, 121] : List Nat), ([120, 122] : List Nat), ([116, 121] : List Nat), ([116, 122] : List Nat)] : List (List Nat)) v3).bind fun (move : (List Nat)) => ((divR number (4096 : Int)).bind fun v4 => modR v4 (4 : Int)).bind fun (side : Int) => ((divR number (8 : Int)).bind fun v7 => (((atR words side).bind fun v5 => Out.ok ((v5.length : Int))).bind fun v6 => Out.ok ((v6 + (1 : Int)))).bind fun v8 => modR v7 v8).bind fun (place : Int) => (((divR number (16384 : Int)).bind fun v9 => modR v9 (letters.length : Int)).bind fun v10 => sgR letters v10).bind fun (letter : (List Nat)) => (if (decide (way = (0 : Int))) = true then (catR (slL none (some at_) moves) (slL (some (at_ + (1 : Int))) none moves)).bind fun (moves : (List (List Nat))) => Out.ok moves else Out.ok moves).bind fun moves => (if (decide (way = (1 : Int))) = true then ((catR (slL none (some at_) moves) ([move] : List (List Nat))).bind fun v12 => catR v12 (slL (some at_) none moves)).bind fun (moves : (List (List Nat))) => Out.ok moves else Out.ok moves).bind fun moves => (if ((decide (way = (2 : Int))) && (decide (at_ < (moves.length : Int)))) = true then (setR moves at_ move).bind fun moves => Out.ok moves else Out.ok moves).bind fun moves => (if ((decide (way = (3 : Int))) && (decide ((at_ + (1 : Int)) < (moves.length : Int)))) = true then ((((atR moves (at_ + (1 : Int))).bind fun v17 => (atR moves at_).bind fun v18 => Out.ok (([v17, v18] : List (List Nat)))).bind fun v19 => catR (slL none (some at_) moves) v19).bind fun v20 => catR v20 (slL (some (at_ + (2 : Int))) none moves)).bind fun (moves : (List (List Nat))) => Out.ok moves else Out.ok moves).bind fun moves => ((if (decide (way = (4 : Int))) = true then (((atR words side).bind fun v21 => Out.ok ((v21.length : Int))).bind fun v22 => Out.ok ((decide (place < v22)))) else Out.ok false).bind fun v35 => if v35 = true then (((((atR words side).bind fun v29 => Out.ok ((slS none (some place) v29))).bind fun v30 => catR v30 letter).bind fun v32 => ((atR words side).bind fun v31 => Out.ok ((slS (some (place + (1 : Int))) none v31))).bind fun v33 => catR v32 v33).bind fun v34 => setR words side v34).bind fun words => Out.ok words else Out.ok words).bind fun words => ((if (decide (way = (5 : Int))) = true then (((atR words side).bind fun v36 => Out.ok ((v36.length : Int))).bind fun v37 => Out.ok ((decide (v37 < (40 : Int))))) else Out.ok false).bind fun v50 => if v50 = true then (((((atR words side).bind fun v44 => Out.ok ((slS none (some place) v44))).bind fun v45 => catR v45 letter).bind fun v47 => ((atR words side).bind fun v46 => Out.ok ((slS (some place) none v46))).bind fun v48 => catR v47 v48).bind fun v49 => setR words side v49).bind fun words => Out.ok words else Out.ok words).bind fun words => (if (decide (way = (6 : Int))) = true then ((((atR words side).bind fun v56 => Out.ok ((slS none (some place) v56))).bind fun v58 => ((atR words side).bind fun v57 => Out.ok ((slS (some (place + (1 : Int))) none v57))).bind fun v59 => catR v58 v59).bind fun v60 => setR words side v60).bind fun words => Out.ok words else Out.ok words).bind fun words => Out.ok (words, moves)
def P.check_words (words : (List D)) : Out Unit := (forS (fun (word : D) (_ : Unit) => ((P.is_word word).bind fun v1 => Out.ok ((!v1))).bind fun v2 => if v2 = true then Out.exc "NoWord" else Out.ok ()) words ()).bind fun _ => Out.ok ()
def P.check_weaving (weaving : D) : Out Unit := ((P.is_weaving weaving).bind fun v1 => Out.ok ((!v1))).bind fun v2 => if v2 = true then Out.exc "NoWeaving" else Out.ok ()
def P.judged (x : D) (y : D) (z : D) (t : D) (weaving : D) : Out D := (P.check_words ([x, y, z, t] : List D)).bind fun _ => (P.check_weaving weaving).bind fun _ => ((asS x).bind fun v1 => (asS y).bind fun v2 => (asS z).bind fun v3 => (asS t).bind fun v4 => Out.ok (([v1, v2, v3, v4] : List (List Nat)))).bind fun v5 => ((asU asS) weaving).bind fun v6 => P.raw_judged v5 v6
def P.law (script : (List Int)) : Out Bool := jn ((rng1 (6 : Int)).bind fun v40 => forF (fun (k : Int) (_ : Unit) => ((mulR (3 : Int) k).bind fun v1 => P.w_numbers script v1).bind fun (xs : (List Int)) => (((mulR (3 : Int) k).bind fun v2 => Out.ok ((v2 + (1 : Int)))).bind fun v3 => P.w_numbers script v3).bind fun (ys : (List Int)) => ((atR ys (0 : Int)).bind fun v4 => P.w_letters v4).bind fun (letters : (List Nat)) => ((((atR ys (1 : Int)).bind fun v5 => modR v5 (6 : Int)).bind fun v6 => atR ([(0 : Int), (1 : Int), (3 : Int), (6 : Int), (12 : Int), (40 : Int)] : List Int) v6).bind fun v7 => P.w_woven xs v7 letters).bind fun (words, moves) => ((P.w_judged words moves).bind fun v8 => neD v8 ((c1 cS) (([119, 111, 118, 101, 110] : List Nat)))).bind fun v39 => if v39 = true then Out.ok (Lp.out false) else jn ((rng1 (5 : Int)).bind fun v22 => forF (fun (m : Int) ((words, moves) : (List (List Nat)) × (List (List Nat))) => (if (decide ((0 : Int) < m)) = true then ((atR ys ((2 : Int) + m)).bind fun v10 => P.w_changed words moves v10 letters).bind fun (words, moves) => Out.ok (words, moves) else Out.ok (words, moves)).bind fun (words, moves) => (((atR words (0 : Int)).bind fun v11 => Out.ok ((cS v11))).bind fun v15 => ((atR words (1 : Int)).bind fun v12 => Out.ok ((cS v12))).bind fun v16 => ((atR words (2 : Int)).bind fun v13 => Out.ok ((cS v13))).bind fun v17 => ((atR words (3 : Int)).bind fun v14 => Out.ok ((cS v14))).bind fun v18 => P.judged v15 v16 v17 v18 ((cU cS) moves)).bind fun (told : D) => (((P.w_judged words moves).bind fun v19 => P.w_same told v19).bind fun v20 => Out.ok ((!v20))).bind fun v21 => if v21 = true then Out.ok (Lp.out (Lp.out false)) else Out.ok (Lp.nx (words, moves))) v22 (words, moves)) fun (words, moves) => ((rng1 (4 : Int)).bind fun v27 => lcR (fun (m : Int) => Out.ok true) (fun (m : Int) => (((mulR (7 : Int) m).bind fun v23 => Out.ok (((10 : Int) + v23))).bind fun v25 => ((atR ys ((30 : Int) + m)).bind fun v24 => modR v24 (7 : Int)).bind fun v26 => P.w_word ys v25 v26 letters)) v27).bind fun (words : (List (List Nat))) => (((atR words (0 : Int)).bind fun v28 => Out.ok ((cS v28))).bind fun v32 => ((atR words (1 : Int)).bind fun v29 => Out.ok ((cS v29))).bind fun v33 => ((atR words (2 : Int)).bind fun v30 => Out.ok ((cS v30))).bind fun v34 => ((atR words (3 : Int)).bind fun v31 => Out.ok ((cS v31))).bind fun v35 => P.judged v32 v33 v34 v35 ((cU cS) moves)).bind fun (told : D) => (((P.w_judged words moves).bind fun v36 => P.w_same told v36).bind fun v37 => Out.ok ((!v37))).bind fun v38 => if v38 = true then Out.ok (Lp.out false) else Out.ok (Lp.nx ())) v40 ()) fun _ => (P.judged (cS ([] : List Nat)) (cS ([] : List Nat)) (cS ([] : List Nat)) (cS ([] : List Nat)) (c0 ())).bind fun v41 => P.w_same v41 ((c1 cS) (([119, 111, 118, 101, 110] : List Nat)))
end
end TL

namespace TL
open PySem PySem.Spec PyProof.Rows L2 FL
noncomputable section
def P.is_integer (thing : D) : Out Bool := (isD "int" thing).bind fun v2 => if v2 = true then ((isD "bool" thing).bind fun v1 => Out.ok ((!v1))) else Out.ok false
def P.is_tuple (thing : D) (least : Int) (most : Int) : Out Bool := (isD "tuple" thing).bind fun v2 => if v2 = true then ((lenD thing).bind fun v1 => if (decide (least ≤ v1)) = true then Out.ok ((decide (v1 ≤ most))) else Out.ok false) else Out.ok false
def P.is_letter (thing : D) : Out Bool := (isD "str" thing).bind fun v3 => if v3 = true then (((lenD thing).bind fun v1 => Out.ok ((decide (v1 = (1 : Int))))).bind fun v2 => if v2 = true then (opD D.isin thing (cS ([97, 98, 99, 100, 101, 102, 103, 104, 105, 106, 107, 108, 109, 110, 111, 112, 113, 114, 115, 116, 117, 118, 119, 120, 121, 122] : (List Nat)))) else Out.ok false) else Out.ok false
def P.raw_edited (triple : (List (List Nat))) (edit : D) : Out (List (List Nat)) := ((((ixD edit (0 : Int)).bind fun v1 => asS v1).bind fun v2 => sidxR ([120, 121, 122] : (List Nat)) v2).bind fun v3 => (ixD edit (2 : Int)).bind fun v4 => Out.ok ((v3, v4))).bind fun (place, at_) => (atR triple place).bind fun (word : (List Nat)) => (((ixD edit (1 : Int)).bind fun v5 => eqD v5 (cS ([112, 117, 116] : (List Nat)))).bind fun v48 => if v48 = true then (((((asI at_).bind fun v27 => Out.ok ((some v27))).bind fun v28 => Out.ok ((slS none v28 word))).bind fun v30 => ((ixD edit (3 : Int)).bind fun v29 => asS v29).bind fun v31 => catR v30 v31).bind fun v34 => (((asI at_).bind fun v32 => Out.ok ((some v32))).bind fun v33 => Out.ok ((slS v33 none word))).bind fun v35 => catR v34 v35).bind fun (word : (List Nat)) => Out.ok word else (((((asI at_).bind fun v36 => Out.ok ((some v36))).bind fun v37 => Out.ok ((slS none v37 word))).bind fun v41 => ((((ixD edit (1 : Int)).bind fun v38 => eqD v38 (cS ([116, 117, 114, 110] : (List Nat)))).bind fun v39 => if v39 = true then (ixD edit (3 : Int)) else (Out.ok (cS ([] : List Nat)))).bind fun v40 => asS v40).bind fun v42 => catR v41 v42).bind fun v46 => ((((asI at_).bind fun v43 => Out.ok ((v43 + (1 : Int)))).bind fun v44 => Out.ok ((some v44))).bind fun v45 => Out.ok ((slS v45 none word))).bind fun v47 => catR v46 v47).bind fun (word : (List Nat)) => Out.ok word).bind fun word => (catR (slL none (some place) triple) [word]).bind fun v49 => catR v49 (slL (some (place + (1 : Int))) none triple)
def P.raw_edit_back (triple : (List (List Nat))) (edit : D) : Out D := ((ixD edit (0 : Int)).bind fun v1 => (ixD edit (2 : Int)).bind fun v2 => Out.ok ((v1, v2))).bind fun (place, at_) => ((ixD edit (1 : Int)).bind fun v3 => eqD v3 (cS ([112, 117, 116] : (List Nat)))).bind fun v13 => if v13 = true then Out.ok ((c3 cD cS cD) (place, ([99, 117, 116] : (List Nat)), at_)) else ((((asS place).bind fun v4 => sidxR ([120, 121, 122] : (List Nat)) v4).bind fun v5 => atR triple v5).bind fun v6 => (asI at_).bind fun v7 => sgR v6 v7).bind fun (letter : (List Nat)) => ((((ixD edit (1 : Int)).bind fun v8 => eqD v8 (cS ([99, 117, 116] : (List Nat)))).bind fun v9 => if v9 = true then (Out.ok ([112, 117, 116] : (List Nat))) else (Out.ok ([116, 117, 114, 110] : (List Nat)))).bind fun v10 => Out.ok ((place, v10, at_, letter))).bind fun v11 => Out.ok (((c4 cD cS cD cS) v11))
def P.w_edit (triple : (List (List Nat))) (number : Int) (letters : (List Nat)) : Out D := (modR number (3 : Int)).bind fun (at_ : Int) => (sgR ([120, 121, 122] : List Nat) at_).bind fun (place : (List Nat)) => (atR triple at_).bind fun (word : (List Nat)) => (((divR number (512 : Int)).bind fun v1 => modR v1 (letters.length : Int)).bind fun v2 => sgR letters v2).bind fun (letter : (List Nat)) => ((divR number (4096 : Int)).bind fun v3 => modR v3 ((word.length : Int) + (1 : Int))).bind fun (spot : Int) => ((divR number (3 : Int)).bind fun v4 => modR v4 (4 : Int)).bind fun (way : Int) => if ((decide (way = (0 : Int))) && (!decide (word = ([] : List Nat)))) = true then ((modR spot (word.length : Int)).bind fun v5 => Out.ok ((place, ([99, 117, 116] : List Nat), v5))).bind fun v6 => Out.ok (((c3 cS cS cI) v6)) else if ((decide (way = (1 : Int))) && (!decide (word = ([] : List Nat)))) = true then (modR spot (word.length : Int)).bind fun (spot : Int) => (((catR letters ([97, 98] : List Nat)).bind fun v8 => Out.ok ((sgs v8))).bind fun v10 => lcR (fun (one : (List Nat)) => ((sgR word spot).bind fun v9 => Out.ok ((!decide (one = v9))))) (fun (one : (List Nat)) => (Out.ok one)) v10).bind fun (others : (List (List Nat))) => ((((divR number (512 : Int)).bind fun v11 => modR v11 (others.length : Int)).bind fun v12 => atR others v12).bind fun v13 => Out.ok ((place, ([116, 117, 114, 110] : List Nat), spot, v13))).bind fun v14 => Out.ok (((c4 cS cS cI cS) v14)) else if (decide ((word.length : Int) < (8 : Int))) = true then Out.ok ((c4 cS cS cI cS) (place, ([112, 117, 116] : List Nat), spot, letter)) else ((modR spot (word.length : Int)).bind fun v16 => Out.ok ((place, ([99, 117, 116] : List Nat), v16))).bind fun v17 => Out.ok (((c3 cS cS cI) v17))
def P.w_edited (triple : (List (List Nat))) (edit : D) : Out (List (List Nat)) := (((ixD edit (0 : Int)).bind fun v1 => asS v1).bind fun v2 => sidxR ([120, 121, 122] : List Nat) v2).bind fun (at_ : Int) => (atR triple at_).bind fun (word : (List Nat)) => (ixD edit (2 : Int)).bind fun (spot : D) => (((ixD edit (1 : Int)).bind fun v3 => eqD v3 (cS ([112, 117, 116] : List Nat))).bind fun v60 => if v60 = true then (((((asI spot).bind fun v32 => Out.ok ((some v32))).bind fun v33 => Out.ok ((slS none v33 word))).bind fun v35 => ((ixD edit (3 : Int)).bind fun v34 => asS v34).bind fun v36 => catR v35 v36).bind fun v39 => (((asI spot).bind fun v37 => Out.ok ((some v37))).bind fun v38 => Out.ok ((slS v38 none word))).bind fun v40 => catR v39 v40).bind fun (word : (List Nat)) => Out.ok word else ((ixD edit (1 : Int)).bind fun v41 => eqD v41 (cS ([99, 117, 116] : List Nat))).bind fun v59 => if v59 = true then ((((asI spot).bind fun v42 => Out.ok ((some v42))).bind fun v43 => Out.ok ((slS none v43 word))).bind fun v47 => ((((asI spot).bind fun v44 => Out.ok ((v44 + (1 : Int)))).bind fun v45 => Out.ok ((some v45))).bind fun v46 => Out.ok ((slS v46 none word))).bind fun v48 => catR v47 v48).bind fun (word : (List Nat)) => Out.ok word else (((((asI spot).bind fun v49 => Out.ok ((some v49))).bind fun v50 => Out.ok ((slS none v50 word))).bind fun v52 => ((ixD edit (3 : Int)).bind fun v51 => asS v51).bind fun v53 => catR v52 v53).bind fun v57 => ((((asI spot).bind fun v54 => Out.ok ((v54 + (1 : Int)))).bind fun v55 => Out.ok ((some v55))).bind fun v56 => Out.ok ((slS v56 none word))).bind fun v58 => catR v57 v58).bind fun (word : (List Nat)) => Out.ok word).bind fun word => (catR (slL none (some at_) triple) [word]).bind fun v61 => catR v61 (slL (some (at_ + (1 : Int))) none triple)
def P.w_due (triple : (List (List Nat))) (edit : D) : Out D := ((slD none (some (3 : Int)) edit).bind fun v1 => (as3 asD asD asD) v1).bind fun (place, way, spot) => (((asS place).bind fun v2 => sidxR ([120, 121, 122] : List Nat) v2).bind fun v3 => atR triple v3).bind fun (word : (List Nat)) => (eqD way (cS ([112, 117, 116] : List Nat))).bind fun v11 => if v11 = true then Out.ok ((c3 cD cS cD) (place, ([99, 117, 116] : List Nat), spot)) else ((((eqD way (cS ([116, 117, 114, 110] : List Nat))).bind fun v4 => Out.ok ((if v4 = true then 1 else 0))).bind fun v5 => atR ([([112, 117, 116] : List Nat), ([116, 117, 114, 110] : List Nat)] : List (List Nat)) v5).bind fun v7 => ((asI spot).bind fun v6 => sgR word v6).bind fun v8 => Out.ok ((place, v7, spot, v8))).bind fun v9 => Out.ok (((c4 cD cS cD cS) v9))
def P.is_within (thing : D) (low : Int) (high : Int) : Out Bool := (P.is_integer thing).bind fun v2 => if v2 = true then ((opD D.le (cI low) thing).bind fun v1 => if v1 = true then opD D.le thing (cI high) else Out.ok false) else Out.ok false
def P.is_triple (thing : D) : Out Bool := (P.is_tuple thing (3 : Int) (3 : Int)).bind fun v3 => if v3 = true then (((itD thing).bind fun v1 => lcR (fun (word : D) => Out.ok true) (fun (word : D) => (P.is_word word)) v1).bind fun v2 => Out.ok ((v2.all id))) else Out.ok false
def P.w_triple (script : (List Int)) (base : Int) : Out (List (List Nat)) := (P.w_numbers script base).bind fun (xs : (List Int)) => (P.w_numbers script (base + (1 : Int))).bind fun (ys : (List Int)) => ((atR ys (0 : Int)).bind fun v1 => P.w_letters v1).bind fun (letters : (List Nat)) => ((((atR ys (1 : Int)).bind fun v2 => modR v2 (4 : Int)).bind fun v3 => atR ([(2 : Int), (4 : Int), (6 : Int), (9 : Int)] : List Int) v3).bind fun v4 => P.w_woven xs v4 letters).bind fun (words, moves) => (atR words (0 : Int)).bind fun (x : (List Nat)) => (((((atR ys (2 : Int)).bind fun v5 => modR v5 (3 : Int)).bind fun v6 => Out.ok ((decide (v6 = (0 : Int))))).bind fun v7 => if v7 = true then (Out.ok (!decide (x = ([] : List Nat)))) else Out.ok false).bind fun v18 => if v18 = true then ((atR ys (3 : Int)).bind fun v13 => modR v13 (x.length : Int)).bind fun (at_ : Int) => (((((atR ys (4 : Int)).bind fun v14 => modR v14 (letters.length : Int)).bind fun v15 => sgR letters v15).bind fun v16 => catR (slS none (some at_) x) v16).bind fun v17 => catR v17 (slS (some (at_ + (1 : Int))) none x)).bind fun (x : (List Nat)) => Out.ok x else Out.ok x).bind fun x => (atR words (1 : Int)).bind fun v19 => (atR words (2 : Int)).bind fun v20 => Out.ok ([x, v19, v20])
def P.check_triple (triple : D) : Out Unit := ((P.is_triple triple).bind fun v1 => Out.ok ((!v1))).bind fun v2 => if v2 = true then Out.exc "NoTriple" else Out.ok ()
def P.raw_is_edit (triple : (List (List Nat))) (thing : D) : Out Bool := (((P.is_tuple thing (3 : Int) (4 : Int)).bind fun v1 => Out.ok ((!v1))).bind fun v6 => if v6 = true then Out.ok true else ((((ixD thing (0 : Int)).bind fun v2 => P.is_letter v2).bind fun v3 => Out.ok ((!v3))).bind fun v5 => if v5 = true then Out.ok true else ((ixD thing (0 : Int)).bind fun v4 => opD D.notin v4 (cS ([120, 121, 122] : (List Nat)))))).bind fun v32 => if v32 = true then Out.ok false else (((((ixD thing (0 : Int)).bind fun v7 => asS v7).bind fun v8 => sidxR ([120, 121, 122] : (List Nat)) v8).bind fun v9 => atR triple v9).bind fun v10 => Out.ok ((v10.length : Int))).bind fun (many : Int) => (((ixD thing (1 : Int)).bind fun v11 => isD "str" v11).bind fun v12 => Out.ok ((!v12))).bind fun v31 => if v31 = true then Out.ok false else ((ixD thing (1 : Int)).bind fun v13 => eqD v13 (cS ([99, 117, 116] : (List Nat)))).bind fun v30 => if v30 = true then ((lenD thing).bind fun v14 => Out.ok ((decide (v14 = (3 : Int))))).bind fun v16 => if v16 = true then ((ixD thing (2 : Int)).bind fun v15 => P.is_within v15 (0 : Int) (many - (1 : Int))) else Out.ok false else (((ixD thing (1 : Int)).bind fun v18 => opD D.notin v18 ((c2 cS cS) (([112, 117, 116] : (List Nat)), ([116, 117, 114, 110] : (List Nat))))).bind fun v23 => if v23 = true then Out.ok true else (((lenD thing).bind fun v19 => Out.ok ((!decide (v19 = (4 : Int))))).bind fun v22 => if v22 = true then Out.ok true else (((ixD thing (3 : Int)).bind fun v20 => P.is_letter v20).bind fun v21 => Out.ok ((!v21))))).bind fun v29 => if v29 = true then Out.ok false else (ixD thing (2 : Int)).bind fun v26 => (((ixD thing (1 : Int)).bind fun v24 => eqD v24 (cS ([112, 117, 116] : (List Nat)))).bind fun v25 => if v25 = true then (Out.ok many) else (Out.ok (many - (1 : Int)))).bind fun v27 => P.is_within v26 (0 : Int) v27
def P.is_edit (triple : D) (thing : D) : Out Bool := (P.check_triple triple).bind fun _ => ((asU asS) triple).bind fun v1 => P.raw_is_edit v1 thing
def P.check_edit (triple : (List (List Nat))) (edit : D) : Out Unit := ((P.raw_is_edit triple edit).bind fun v1 => Out.ok ((!v1))).bind fun v2 => if v2 = true then Out.exc "NoEdit" else Out.ok ()
def P.edited_all (triple : D) (edits : D) : Out (List (List Nat)) := (P.check_triple triple).bind fun _ => ((isD "tuple" edits).bind fun v1 => Out.ok ((!v1))).bind fun v9 => if v9 = true then Out.exc "NoEdits" else ((itD edits).bind fun v7 => forS (fun (edit : D) (triple : D) => ((((asU asS) triple).bind fun v2 => P.raw_is_edit v2 edit).bind fun v3 => Out.ok ((!v3))).bind fun v6 => if v6 = true then Out.exc "NoEdits" else ((((asU asS) triple).bind fun v4 => P.raw_edited v4 edit).bind fun v5 => Out.ok (((cU cS) v5))).bind fun (triple : D) => Out.ok triple) v7 triple).bind fun triple => (asU asS) triple
def P.edit_back (triple : D) (edit : D) : Out D := (P.check_triple triple).bind fun _ => (((asU asS) triple).bind fun v1 => P.check_edit v1 edit).bind fun _ => ((asU asS) triple).bind fun v2 => P.raw_edit_back v2 edit
def P.w_all (triple : D) (edits : D) : Out ((List Nat) × D) := (Out.ok ([116, 111, 108, 100] : List Nat)).bind fun (word : (List Nat)) => (Out.ok (cN ())).bind fun (found : D) => (tryR ["NoEdits", "NoTriple"] (goH [(["NoTriple"], (Out.ok ([78, 111, 84, 114, 105, 112, 108, 101] : List Nat)).bind fun (word : (List Nat)) => Out.ok (word, found)), (["NoEdits"], (Out.ok ([78, 111, 69, 100, 105, 116, 115] : List Nat)).bind fun (word : (List Nat)) => Out.ok (word, found))]) (((P.edited_all triple edits).bind fun v2 => Out.ok (((cU cS) v2))).bind fun (found : D) => Out.ok (word, found))).bind fun (word, found) => Out.ok (word, found)
def P.w_back (triple : D) (edit : D) : Out ((List Nat) × D) := (Out.ok ([116, 111, 108, 100] : List Nat)).bind fun (word : (List Nat)) => (Out.ok (cN ())).bind fun (found : D) => (tryR ["NoEdit", "NoTriple"] (goH [(["NoTriple"], (Out.ok ([78, 111, 84, 114, 105, 112, 108, 101] : List Nat)).bind fun (word : (List Nat)) => Out.ok (word, found)), (["NoEdit"], (Out.ok ([78, 111, 69, 100, 105, 116] : List Nat)).bind fun (word : (List Nat)) => Out.ok (word, found))]) ((P.edit_back triple edit).bind fun (found : D) => Out.ok (word, found))).bind fun (word, found) => Out.ok (word, found)
def P.law_2 (script : (List Int)) : Out Bool := jn ((rng1 (4 : Int)).bind fun v55 => forF (fun (k : Int) (_ : Unit) => ((mulR (12 : Int) k).bind fun v1 => P.w_triple script v1).bind fun (first : (List (List Nat))) => (Out.ok first).bind fun (triple : (List (List Nat))) => (((mulR (12 : Int) k).bind fun v2 => Out.ok ((v2 + (2 : Int)))).bind fun v3 => P.w_numbers script v3).bind fun (xs : (List Int)) => ((atR xs (39 : Int)).bind fun v4 => P.w_letters v4).bind fun (letters : (List Nat)) => (Out.ok ([] : List D)).bind fun (edits : (List D)) => (Out.ok ([] : List D)).bind fun (backs : (List D)) => jn ((((atR xs (38 : Int)).bind fun v5 => modR v5 (11 : Int)).bind fun v6 => rng1 v6).bind fun v19 => forF (fun (m : Int) ((triple, edits, backs) : (List (List Nat)) × (List D) × (List D)) => ((atR xs m).bind fun v7 => P.w_edit triple v7 letters).bind fun (edit : D) => (P.w_due triple edit).bind fun (due : D) => ((((P.w_back ((cU cS) triple) edit).bind fun v8 => Out.ok (((c2 cS cD) v8))).bind fun v9 => P.w_same v9 ((c2 cS cD) (([116, 111, 108, 100] : List Nat), due))).bind fun v10 => Out.ok ((!v10))).bind fun v18 => if v18 = true then Out.ok (Lp.out (Lp.out false)) else (P.w_edited triple edit).bind fun (after : (List (List Nat))) => ((((P.is_edit ((cU cS) after) due).bind fun v11 => Out.ok ((cB v11))).bind fun v12 => opD D.isnt v12 (cB true)).bind fun v16 => if v16 = true then Out.ok true else ((((P.w_back ((cU cS) after) due).bind fun v13 => Out.ok (((c2 cS cD) v13))).bind fun v14 => P.w_same v14 ((c2 cS cD) (([116, 111, 108, 100] : List Nat), edit))).bind fun v15 => Out.ok ((!v15)))).bind fun v17 => if v17 = true then Out.ok (Lp.out (Lp.out false)) else (appR edits edit).bind fun edits => (appR backs due).bind fun backs => (Out.ok after).bind fun (triple : (List (List Nat))) => Out.ok (Lp.nx (triple, edits, backs))) v19 (triple, edits, backs)) fun (triple, edits, backs) => ((((P.w_all ((cU cS) first) ((cU cD) edits)).bind fun v20 => Out.ok (((c2 cS cD) v20))).bind fun v21 => P.w_same v21 ((c2 cS (cU cS)) (([116, 111, 108, 100] : List Nat), triple))).bind fun v22 => Out.ok ((!v22))).bind fun v54 => if v54 = true then Out.ok (Lp.out false) else ((((P.w_all ((cU cS) triple) ((cU cD) backs.reverse)).bind fun v23 => Out.ok (((c2 cS cD) v23))).bind fun v24 => P.w_same v24 ((c2 cS (cU cS)) (([116, 111, 108, 100] : List Nat), first))).bind fun v25 => Out.ok ((!v25))).bind fun v53 => if v53 = true then Out.ok (Lp.out false) else ((((atR xs (20 : Int)).bind fun v26 => modR v26 (3 : Int)).bind fun v27 => atR ([([120] : List Nat), ([121] : List Nat), ([122] : List Nat)] : List (List Nat)) v27).bind fun v29 => ((atR xs (21 : Int)).bind fun v28 => Out.ok (((40 : Int) + v28))).bind fun v30 => Out.ok ((v29, ([99, 117, 116] : List Nat), v30))).bind fun (bad : ((List Nat) × (List Nat) × Int)) => ((atR xs (22 : Int)).bind fun v31 => modR v31 ((edits.length : Int) + (1 : Int))).bind fun (at_ : Int) => (((((catR (slL none (some at_) edits) ([((c3 cS cS cI) bad)] : List D)).bind fun v32 => catR v32 (slL (some at_) none edits)).bind fun v33 => Out.ok (v33)).bind fun v34 => Out.ok (((cU cD) v34))).bind fun v36 => ((catR edits [(cN ())]).bind fun v35 => Out.ok (((cU cD) v35))).bind fun v37 => Out.ok (([v36, ((cL cD) edits), ((c3 cS cS cI) bad), (cN ()), v37, (cS ([120] : List Nat))] : List D))).bind fun (odd : (List D)) => (appR odd ((c1 (c1 cS)) ((([120] : List Nat))))).bind fun odd => (((((((atR xs (23 : Int)).bind fun v38 => modR v38 (7 : Int)).bind fun v39 => atR odd v39).bind fun v40 => P.w_all ((cU cS) first) v40).bind fun v41 => Out.ok (((c2 cS cD) v41))).bind fun v42 => neD v42 ((c2 cS cN) (([78, 111, 69, 100, 105, 116, 115] : List Nat), ()))).bind fun v45 => if v45 = true then Out.ok true else (((P.w_back ((cU cS) first) ((c3 cS cS cI) bad)).bind fun v43 => Out.ok (((c2 cS cD) v43))).bind fun v44 => neD v44 ((c2 cS cN) (([78, 111, 69, 100, 105, 116] : List Nat), ())))).bind fun v52 => if v52 = true then Out.ok (Lp.out false) else (((P.w_all ((cL cS) first) (cN ())).bind fun v46 => Out.ok (((c2 cS cD) v46))).bind fun v47 => neD v47 ((c2 cS cN) (([78, 111, 84, 114, 105, 112, 108, 101] : List Nat), ()))).bind fun v51 => if v51 = true then Out.ok (Lp.out false) else (((P.w_back ((cU cS) (slL none (some (2 : Int)) first)) (cN ())).bind fun v48 => Out.ok (((c2 cS cD) v48))).bind fun v49 => neD v49 ((c2 cS cN) (([78, 111, 84, 114, 105, 112, 108, 101] : List Nat), ()))).bind fun v50 => if v50 = true then Out.ok (Lp.out false) else Out.ok (Lp.nx ())) v55 ()) fun _ => Out.ok true
end
end TL

namespace TL
open PySem PySem.Spec PyProof.Rows L2 FL
noncomputable section
def P.divisor (one : Int) (other : Int) : Out Int := jn (whF (fun ((one, other) : Int × Int) => (Out.ok (!decide (other = (0 : Int))))) (fun ((one, other) : Int × Int) => ((modR one other).bind fun v1 => Out.ok ((other, v1))).bind fun (one, other) => Out.ok (Lp.nx (one, other))) (one, other)) fun (one, other) => Out.ok one
def P.w_deck (script : (List Int)) : Out Dck := (lcA script (fun (cell : Int) => cell)).bind fun v1 => Out.ok ((v1, (0 : Int), (0 : Int), (0 : Int), (0 : Int)))
def P.w_mixed (number : Int) (k : Int) : Out Int := (((((mulR number (48271 : Int)).bind fun v1 => (mulR k (69621 : Int)).bind fun v2 => Out.ok ((v1 + v2))).bind fun v3 => Out.ok ((v3 + (7 : Int)))).bind fun v4 => Out.ok (v4)).bind fun v5 => modR v5 (2147483647 : Int)).bind fun (one : Int) => (((((divR one (1009 : Int)).bind fun v6 => Out.ok ((v6 + (30103 : Int)))).bind fun v7 => mulR one v7).bind fun v8 => Out.ok (v8)).bind fun v9 => modR v9 (2147483629 : Int)).bind fun (one : Int) => ((((divR one (2003 : Int)).bind fun v10 => Out.ok ((v10 + (40692 : Int)))).bind fun v11 => mulR one v11).bind fun v12 => Out.ok (v12)).bind fun v13 => modR v13 (2147483399 : Int)
def P.w_lowest (top : Int) (bottom : Int) : Out (Int × Int) := (Out.ok top).bind fun (one : Int) => (Out.ok bottom).bind fun (other : Int) => jn (whF (fun ((one, other) : Int × Int) => (Out.ok (decide ((0 : Int) < other)))) (fun ((one, other) : Int × Int) => (modR one other).bind fun (rest : Int) => (Out.ok other).bind fun (one : Int) => (Out.ok rest).bind fun (other : Int) => Out.ok (Lp.nx (one, other))) (one, other)) fun (one, other) => (divR top one).bind fun v1 => (divR bottom one).bind fun v2 => Out.ok ((v1, v2))
def P.made (top : Int) (bottom : Int) : Out (Int × Int) := (P.divisor top bottom).bind fun (by_ : Int) => (divR top by_).bind fun v1 => (divR bottom by_).bind fun v2 => Out.ok ((v1, v2))
def P.sum_fourth (x : D) (y : D) (z : D) : Out Int := (forS (fun (one : D) (_ : Unit) => ((P.is_integer one).bind fun v1 => Out.ok ((!v1))).bind fun v2 => if v2 = true then Out.exc "NoInteger" else Out.ok ()) [(x, y, z).1, (x, y, z).2.1, (x, y, z).2.2] ()).bind fun _ => ((asI y).bind fun v3 => (asI z).bind fun v4 => Out.ok ((v3 + v4))).bind fun v5 => (asI x).bind fun v6 => Out.ok ((v5 - v6))
def P.is_share (thing : D) : Out Bool := (((P.is_tuple thing (2 : Int) (2 : Int)).bind fun v1 => Out.ok ((!v1))).bind fun v7 => if v7 = true then Out.ok true else ((((ixD thing (0 : Int)).bind fun v2 => P.is_integer v2).bind fun v3 => Out.ok ((!v3))).bind fun v6 => if v6 = true then Out.ok true else (((ixD thing (1 : Int)).bind fun v4 => P.is_integer v4).bind fun v5 => Out.ok ((!v5))))).bind fun v18 => if v18 = true then Out.ok false else ((ixD thing (0 : Int)).bind fun v8 => opD D.gt v8 (cI (0 : Int))).bind fun v16 => if v16 = true then (((ixD thing (1 : Int)).bind fun v9 => opD D.gt v9 (cI (0 : Int))).bind fun v15 => if v15 = true then ((((ixD thing (0 : Int)).bind fun v10 => asI v10).bind fun v12 => ((ixD thing (1 : Int)).bind fun v11 => asI v11).bind fun v13 => P.divisor v12 v13).bind fun v14 => Out.ok ((decide (v14 = (1 : Int))))) else Out.ok false) else Out.ok false
def P.w_draw (many : Int) : Dck → Out (Int × Dck) := fun deck => (Out.ok (deck.1, deck.2.1, deck.2.2.1, (deck.2.2.2.1 + (1 : Int)), deck.2.2.2.2)).bind fun deck => (if ((decide (deck.2.2.1 = (0 : Int))) && (decide (deck.2.1 < (deck.1.length : Int)))) = true then (atR deck.1 deck.2.1).bind fun (cell : Int) => (Out.ok (deck.1, (deck.2.1 + (1 : Int)), deck.2.2.1, deck.2.2.2.1, deck.2.2.2.2)).bind fun deck => (((((mulR deck.2.2.2.2 (31 : Int)).bind fun v9 => Out.ok ((v9 + cell))).bind fun v10 => Out.ok (v10)).bind fun v11 => modR v11 (2147483647 : Int)).bind fun v12 => Out.ok (deck.1, deck.2.1, deck.2.2.1, deck.2.2.2.1, v12)).bind fun deck => ((powR (10 : Int) (18 : Int)).bind fun v13 => Out.ok ((decide (v13 ≤ (absR cell))))).bind fun v16 => if v16 = true then (((mulR (2 : Int) (absR cell)).bind fun v14 => Out.ok ((v14 + (if (decide (cell < (0 : Int))) = true then 1 else 0)))).bind fun v15 => Out.ok (deck.1, deck.2.1, v15, deck.2.2.2.1, deck.2.2.2.2)).bind fun deck => Out.ok deck else Out.ok deck else Out.ok deck).bind fun deck => if (decide ((0 : Int) < deck.2.2.1)) = true then (modR deck.2.2.1 many).bind fun (digit : Int) => ((divR deck.2.2.1 many).bind fun v17 => Out.ok (deck.1, deck.2.1, v17, deck.2.2.2.1, deck.2.2.2.2)).bind fun deck => Out.ok (digit, deck) else ((((P.w_mixed deck.2.2.2.2 deck.2.2.2.1).bind fun v18 => divR v18 (7 : Int)).bind fun v19 => Out.ok (v19)).bind fun v20 => modR v20 many).bind fun v21 => Out.ok (v21, deck)
def P.w_by (x : (Int × Int)) (y : (Int × Int)) (z : (Int × Int)) : Out (Int × Int) := ((mulR y.1 z.1).bind fun v1 => mulR v1 x.2).bind fun v3 => ((mulR y.2 z.2).bind fun v2 => mulR v2 x.1).bind fun v4 => P.w_lowest v3 v4
def P.check_shares (shares : (List D)) : Out Unit := (forS (fun (share : D) (_ : Unit) => ((P.is_share share).bind fun v1 => Out.ok ((!v1))).bind fun v2 => if v2 = true then Out.exc "NoShare" else Out.ok ()) shares ()).bind fun _ => Out.ok ()
def P.raw_share_fourth (x : (Int × Int)) (y : (Int × Int)) (z : (Int × Int)) : Out (Int × Int) := ((mulR y.1 z.1).bind fun v1 => mulR v1 x.2).bind fun v3 => ((mulR y.2 z.2).bind fun v2 => mulR v2 x.1).bind fun v4 => P.made v3 v4
def P.w_great (digits : Int) : Dck → Out (Int × Dck) := fun deck => (Out.ok (0 : Int)).bind fun (found : Int) => (((M.bd (M.bd (M.nx (P.w_draw digits)) fun v1 => M.rt (((1 : Int) + v1))) fun v2 => M.up (rng1 v2)) deck).bind fun (v5, deck) => forS (fun (__ : Int) ((deck, found) : Dck × Int) => ((M.bd (M.up (mulR found (10 : Int))) fun v3 => M.bd (M.nx (P.w_draw (10 : Int))) fun v4 => M.rt ((v3 + v4))) deck).bind fun ((found : Int), deck) => Out.ok (deck, found)) v5 (deck, found)).bind fun (deck, found) => Out.ok (found, deck)
def P.w_chain (x : (Int × Int)) (y : (Int × Int)) (n : Int) : Out (List (Int × Int)) := (Out.ok ([x, y] : List (Int × Int))).bind fun (found : (List (Int × Int))) => ((rng1 (n - (2 : Int))).bind fun v3 => forS (fun (__ : Int) (found : (List (Int × Int))) => (((atR found (-1)).bind fun v1 => P.w_by x y v1).bind fun v2 => appR found v2).bind fun found => Out.ok found) v3 found).bind fun found => Out.ok found
def P.share_fourth (x : D) (y : D) (z : D) : Out (Int × Int) := (P.check_shares ([x, y, z] : List D)).bind fun _ => ((as2 asI asI) x).bind fun v1 => ((as2 asI asI) y).bind fun v2 => ((as2 asI asI) z).bind fun v3 => P.raw_share_fourth v1 v2 v3
def P.share_chain (x : D) (y : D) (n : D) : Out (List (Int × Int)) := (P.check_shares ([x, y] : List D)).bind fun _ => ((P.is_within n (2 : Int) (40 : Int)).bind fun v1 => Out.ok ((!v1))).bind fun v11 => if v11 = true then Out.exc "NoNumber" else (((as2 asI asI) x).bind fun v2 => ((as2 asI asI) y).bind fun v3 => Out.ok (([v2, v3] : List (Int × Int)))).bind fun (found : (List (Int × Int))) => ((((asI n).bind fun v4 => Out.ok ((v4 - (2 : Int)))).bind fun v5 => rng1 v5).bind fun v10 => forS (fun (turn : Int) (found : (List (Int × Int))) => ((((as2 asI asI) x).bind fun v6 => ((as2 asI asI) y).bind fun v7 => (atR found (-1)).bind fun v8 => P.raw_share_fourth v6 v7 v8).bind fun v9 => appR found v9).bind fun found => Out.ok found) v10 found).bind fun found => Out.ok found
def P.w_share (digits : Int) : Dck → Out ((Int × Int) × Dck) := fun deck => ((M.bd (M.bd (M.nx (P.w_great digits)) fun v1 => M.rt (((1 : Int) + v1))) fun v3 => M.bd (M.bd (M.nx (P.w_great digits)) fun v2 => M.rt (((1 : Int) + v2))) fun v4 => M.up (P.w_lowest v3 v4)) deck).bind fun (v5, deck) => Out.ok (v5, deck)
def P.w_refused (number : Int) (one : D) (other : D) (third : D) : Out (List Nat) := (Out.ok ([110, 111, 110, 101] : List Nat)).bind fun (told : (List Nat)) => (tryR ["NoInteger", "NoNumber", "NoShare"] (goH [(["NoInteger"], (Out.ok ([105, 110, 116, 101, 103, 101, 114] : List Nat)).bind fun (told : (List Nat)) => Out.ok told), (["NoShare"], (Out.ok ([115, 104, 97, 114, 101] : List Nat)).bind fun (told : (List Nat)) => Out.ok told), (["NoNumber"], (Out.ok ([110, 117, 109, 98, 101, 114] : List Nat)).bind fun (told : (List Nat)) => Out.ok told)]) ((if (decide (number = (0 : Int))) = true then (P.sum_fourth one other third).bind fun _ => Out.ok () else Out.ok ()).bind fun _ => (if (decide (number = (1 : Int))) = true then (P.share_fourth one other third).bind fun _ => Out.ok () else Out.ok ()).bind fun _ => if (decide (number = (2 : Int))) = true then (P.share_chain one other third).bind fun _ => Out.ok told else Out.ok told)).bind fun told => Out.ok told
def P.law_3 (script : (List Int)) : Out Bool := (P.w_deck script).bind fun (deck : Dck) => (Out.ok ([] : List Int)).bind fun (whole : (List Int)) => ((rng1 (3 : Int)).bind fun v5 => forS (fun (__ : Int) ((deck, whole) : Dck × (List Int)) => (((M.bd (M.nx (P.w_great (60 : Int))) fun v2 => M.bd (M.bd (M.nx (P.w_draw (2 : Int))) fun v1 => M.up (atR ([(1 : Int), ((0 : Int) - (1 : Int))] : List Int) v1)) fun v3 => M.up (mulR v2 v3)) deck).bind fun (v4, deck) => (appR whole v4).bind fun r => Out.ok (r, deck)).bind fun (whole, deck) => Out.ok (deck, whole)) v5 (deck, whole)).bind fun (deck, whole) => ((Out.ok whole).bind unp3).bind fun (x, y, z) => (Out.ok ((y + z) - x)).bind fun (fourth : Int) => (((P.sum_fourth (cI x) (cI y) (cI z)).bind fun v6 => Out.ok ((!decide (v6 = fourth)))).bind fun v11 => if v11 = true then Out.ok true else (((P.sum_fourth (cI x) (cI z) (cI y)).bind fun v7 => Out.ok ((!decide (v7 = fourth)))).bind fun v10 => if v10 = true then Out.ok true else (((P.sum_fourth (cI x) (cI y) (cI z)).bind fun v8 => Out.ok ((cI v8))).bind fun v9 => isD "bool" v9))).bind fun v72 => if v72 = true then Out.ok false else (((P.sum_fourth (cI y) (cI x) (cI fourth)).bind fun v12 => Out.ok ((!decide (v12 = z)))).bind fun v14 => if v14 = true then Out.ok true else ((P.sum_fourth (cI fourth) (cI y) (cI z)).bind fun v13 => Out.ok ((!decide (v13 = x))))).bind fun v71 => if v71 = true then Out.ok false else ((M.bd (M.nx (P.w_share (9 : Int))) fun v15 => M.bd (M.nx (P.w_share (9 : Int))) fun v16 => M.bd (M.nx (P.w_share (9 : Int))) fun v17 => M.rt (([v15, v16, v17] : List (Int × Int)))) deck).bind fun ((shares : (List (Int × Int))), deck) => ((Out.ok shares).bind unp3).bind fun (one, other, third) => (P.w_by one other third).bind fun (due : (Int × Int)) => (((P.share_fourth ((c2 cI cI) one) ((c2 cI cI) other) ((c2 cI cI) third)).bind fun v18 => Out.ok ((!decide (v18 = due)))).bind fun v20 => if v20 = true then Out.ok true else ((P.share_fourth ((c2 cI cI) one) ((c2 cI cI) third) ((c2 cI cI) other)).bind fun v19 => Out.ok ((!decide (v19 = due))))).bind fun v70 => if v70 = true then Out.ok false else (((P.share_fourth ((c2 cI cI) due) ((c2 cI cI) other) ((c2 cI cI) third)).bind fun v21 => Out.ok ((!decide (v21 = one)))).bind fun v23 => if v23 = true then Out.ok true else ((P.share_fourth ((c2 cI cI) other) ((c2 cI cI) one) ((c2 cI cI) due)).bind fun v22 => Out.ok ((!decide (v22 = third))))).bind fun v69 => if v69 = true then Out.ok false else ((M.bd (M.nx (P.w_draw (11 : Int))) fun v24 => M.rt (((2 : Int) + v24))) deck).bind fun ((n : Int), deck) => ((P.share_chain ((c2 cI cI) one) ((c2 cI cI) other) (cI n)).bind fun v25 => (P.w_chain one other n).bind fun v26 => Out.ok ((!decide (v25 = v26)))).bind fun v68 => if v68 = true then Out.ok false else ((M.bd (M.nx (P.w_share (1 : Int))) fun v27 => M.bd (M.nx (P.w_share (1 : Int))) fun v28 => M.rt (([v27, v28] : List (Int × Int)))) deck).bind fun ((low : (List (Int × Int))), deck) => ((M.bd (M.nx (P.w_draw (39 : Int))) fun v29 => M.rt (((2 : Int) + v29))) deck).bind fun ((n : Int), deck) => (((atR low (0 : Int)).bind fun v30 => Out.ok (((c2 cI cI) v30))).bind fun v32 => ((atR low (1 : Int)).bind fun v31 => Out.ok (((c2 cI cI) v31))).bind fun v33 => P.share_chain v32 v33 (cI n)).bind fun (chain : (List (Int × Int))) => (((atR low (0 : Int)).bind fun v34 => (atR low (1 : Int)).bind fun v35 => P.w_chain v34 v35 n).bind fun v36 => Out.ok ((!decide (chain = v36)))).bind fun v67 => if v67 = true then Out.ok false else jn ((rng2 (2 : Int) n).bind fun v46 => forF (fun (at_ : Int) (_ : Unit) => ((((atR low (0 : Int)).bind fun v37 => Out.ok (((c2 cI cI) v37))).bind fun v40 => ((atR low (1 : Int)).bind fun v38 => Out.ok (((c2 cI cI) v38))).bind fun v41 => ((atR chain (at_ - (1 : Int))).bind fun v39 => Out.ok (((c2 cI cI) v39))).bind fun v42 => P.share_fourth v40 v41 v42).bind fun v43 => (atR chain at_).bind fun v44 => Out.ok ((!decide (v43 = v44)))).bind fun v45 => if v45 = true then Out.ok (Lp.out false) else Out.ok (Lp.nx ())) v46 ()) fun _ => jn (forF (fun (wrong : D) (_ : Unit) => (((P.w_refused (0 : Int) wrong (cI y) (cI z)).bind fun v47 => Out.ok ((!decide (v47 = ([105, 110, 116, 101, 103, 101, 114] : List Nat))))).bind fun v49 => if v49 = true then Out.ok true else ((P.w_refused (0 : Int) (cI x) wrong (cI z)).bind fun v48 => Out.ok ((!decide (v48 = ([105, 110, 116, 101, 103, 101, 114] : List Nat)))))).bind fun v52 => if v52 = true then Out.ok (Lp.out false) else ((P.w_refused (0 : Int) (cI x) (cI y) wrong).bind fun v50 => Out.ok ((!decide (v50 = ([105, 110, 116, 101, 103, 101, 114] : List Nat))))).bind fun v51 => if v51 = true then Out.ok (Lp.out false) else Out.ok (Lp.nx ())) ([(cB true), (cS ([49] : List Nat)), (cN ()), ((c2 cI cI) ((1 : Int), (1 : Int)))] : List D) ()) fun _ => jn (forF (fun (wrong : D) (_ : Unit) => (((P.w_refused (1 : Int) wrong ((c2 cI cI) other) ((c2 cI cI) third)).bind fun v53 => Out.ok ((!decide (v53 = ([115, 104, 97, 114, 101] : List Nat))))).bind fun v55 => if v55 = true then Out.ok true else ((P.w_refused (1 : Int) ((c2 cI cI) one) wrong ((c2 cI cI) third)).bind fun v54 => Out.ok ((!decide (v54 = ([115, 104, 97, 114, 101] : List Nat)))))).bind fun v62 => if v62 = true then Out.ok (Lp.out false) else (((P.w_refused (1 : Int) ((c2 cI cI) one) ((c2 cI cI) other) wrong).bind fun v56 => Out.ok ((!decide (v56 = ([115, 104, 97, 114, 101] : List Nat))))).bind fun v58 => if v58 = true then Out.ok true else ((P.w_refused (2 : Int) wrong ((c2 cI cI) other) (cI (1 : Int))).bind fun v57 => Out.ok ((!decide (v57 = ([115, 104, 97, 114, 101] : List Nat)))))).bind fun v61 => if v61 = true then Out.ok (Lp.out false) else ((P.w_refused (2 : Int) ((c2 cI cI) one) wrong (cI (41 : Int))).bind fun v59 => Out.ok ((!decide (v59 = ([115, 104, 97, 114, 101] : List Nat))))).bind fun v60 => if v60 = true then Out.ok (Lp.out false) else Out.ok (Lp.nx ())) ([((c2 cI cI) ((2 : Int), (4 : Int))), ((c2 cI cI) ((0 : Int), (1 : Int))), ((c2 cI cI) (((0 : Int) - (1 : Int)), (2 : Int))), ((cL cI) ([(1 : Int), (2 : Int)] : List Int)), ((c2 cI cI) ((1 : Int), (0 : Int))), ((c2 cI cB) ((1 : Int), true)), ((c1 cI) ((1 : Int))), (cN ()), (cI (1 : Int))] : List D) ()) fun _ => ((lcR (fun (wrong : D) => ((P.w_refused (2 : Int) ((c2 cI cI) one) ((c2 cI cI) other) wrong).bind fun v63 => Out.ok ((!decide (v63 = ([110, 117, 109, 98, 101, 114] : List Nat)))))) (fun (wrong : D) => (Out.ok wrong)) ([(cI (1 : Int)), (cI (41 : Int)), (cI (0 : Int)), (cB true), (cN ()), (cS ([50] : List Nat))] : List D)).bind fun v64 => Out.ok ((v64.length : Int))).bind fun v65 => Out.ok ((decide (v65 = (0 : Int))))
end
end TL

namespace TL
open PySem PySem.Spec PyProof.Rows L2 FL
/-! ### numbers -/
theorem numbers_ok (ns : List Int) (thing : Int) (h0 : 0 ≤ thing) (h1 : thing < 100000) : Sat (P.w_numbers ns thing) fun xs => xs.length = 40 ∧ ∀ x ∈ xs, 0 ≤ x := by
  unfold P.w_numbers
  refine Sat.bind (fun z => z = 0) (by simp) ?_
  rintro _ rfl
  refine Sat.bind (fun _ => True) ?_ fun cell _ => ?_
  · refine Sat.ite (fun h => ?_) fun h => by simp
    have h : (0 : Int) < ns.length := by simpa using h
    obtain ⟨a, _, e⟩ := atR_ex (xs := ns) (Int.emod_nonneg thing (b := ns.length) (by omega)) (Int.emod_lt_of_pos thing h)
    simp (disch := assumption) [e]
  refine Sat.bind (fun z => z = 0) (by simp) ?_
  rintro _ rfl
  refine Sat.bind (fun r => 0 ≤ r) ?_ fun rest hr => ?_
  · simp only [pow_10_18, Out.ok_bind, bind_if]
    refine Sat.ite (fun _ => Sat.ite (fun h => ?_) fun _ => by simp) fun _ => by simp
    have h : (1000000000000000000 : Int) ≤ cell := by simpa using h
    simp; omega
  refine Sat.bind (fun z => z = []) (by simp) ?_
  rintro _ rfl
  rw [rng1_ok (by omega), Out.ok_bind]
  refine Sat.bind (fun s : Int × List Int => s.2.length = 40 ∧ ∀ x ∈ s.2, 0 ≤ x) ?_ fun ⟨r, f⟩ h => by simpa using h
  refine Sat.rngS (fun i (s : Int × List Int) => s.2.length = i ∧ (∀ x ∈ s.2, 0 ≤ x) ∧ 0 ≤ s.1) (n := 40) rfl ⟨rfl, by simp, hr⟩ ?_ fun s h => ⟨h.1, h.2.1⟩
  rintro i ⟨r, f⟩ hi ⟨h1, h2, h3⟩
  dsimp only at h1 h2 h3 ⊢
  have e : ∀ a b : Int, 0 < b → 0 ≤ a % b ∧ a % b < b := fun a b h => ⟨Int.emod_nonneg _ (by omega), Int.emod_lt_of_pos _ h⟩
  have q := e cell 2147483629 (by omega)
  rw [modR_ok (by omega), Out.ok_bind, mulR_ok (by omega), Out.ok_bind, Out.ok_bind, mulR_ok (by omega), Out.ok_bind, Out.ok_bind, Out.ok_bind, mulR_okr (by omega), Out.ok_bind, modR_ok (by omega), Out.ok_bind]
  generalize cell % 2147483629 = c at q ⊢
  have q1 := e ((c + 7919 * (i : Int) + 611953 * thing + 1) * 48271) 2147483647 (by omega)
  generalize (c + 7919 * (i : Int) + 611953 * thing + 1) * 48271 % 2147483647 = n1 at q1 ⊢
  rw [divR_ok (by omega), Out.ok_bind, Out.ok_bind, mulR_ok (by omega), Out.ok_bind, modR_ok (by omega), Out.ok_bind]
  have q2 := e (n1 * (n1 / 1009 + 69621)) 2147483647 (by omega)
  generalize n1 * (n1 / 1009 + 69621) % 2147483647 = n2 at q2 ⊢
  rw [divR_ok (by omega), Out.ok_bind, Out.ok_bind, mulR_ok (by omega), Out.ok_bind, modR_ok (by omega), Out.ok_bind]
  have q3 := e (n2 * (n2 / 2003 + 40692)) 2147483399 (by omega)
  generalize n2 * (n2 / 2003 + 40692) % 2147483399 = n3 at q3 ⊢
  refine Sat.bind (fun p : Int × Int => 0 ≤ p.1 ∧ 0 ≤ p.2) ?_ ?_
  · rw [modR_ok (by omega), Out.ok_bind, divR_ok (by omega), Out.ok_bind]
    refine Sat.ite (fun _ => ?_) fun _ => ?_
    · rw [Sat_ok]; dsimp only; omega
    · rw [Sat_ok]; dsimp only; omega
  rintro ⟨a, b⟩ ⟨ha, hb⟩
  dsimp only at ha hb ⊢
  rw [appR_ok (by omega), Out.ok_bind, Sat_ok]
  dsimp only
  refine ⟨by simp [h1], fun x hx => ?_, ha⟩
  rcases List.mem_append.mp hx with h | h
  · exact h2 x h
  · rw [List.mem_singleton.mp h]; exact hb

/-! ### is a thing itself -/
def szD : D → Nat
  | .tup ds => 1 + szs ds
  | _ => 1
where szs : List D → Nat
  | [] => 0
  | d :: ds => szD d + szs ds
/-- plain things: tuples of plain things, to a depth -/
def plain : Nat → D → Bool
  | 0, _ => false
  | n + 1, .tup ds => ds.all (plain n)
  | _ + 1, .non => true
  | _ + 1, .bl _ => true
  | _ + 1, .int _ => true
  | _ + 1, .str _ => true
  | _ + 1, _ => false
def kidsD : D → List D
  | .tup ds => ds
  | _ => []
theorem szs_app (a b : List D) : szD.szs (a ++ b) = szD.szs a + szD.szs b := by
  induction a with
  | nil => simp [szD.szs]
  | cons x xs ih => simp [szD.szs, ih]; omega
theorem kids_sz (es : List D) : szD.szs (es.flatMap kidsD) ≤ szD.szs es := by
  induction es with
  | nil => simp
  | cons e es ih =>
    rw [List.flatMap_cons, szs_app]
    have : szD.szs (kidsD e) ≤ szD e := by cases e <;> simp [kidsD, szD, szD.szs]
    simp only [szD.szs]; omega
theorem szs_len (es : List D) : es.length ≤ szD.szs es := by
  induction es with
  | nil => simp
  | cons e es ih =>
    have : 1 ≤ szD e := by cases e <;> simp [szD]
    simp only [szD.szs, List.length_cons]; omega
theorem szs_take (es : List D) (j : Nat) : szD.szs (es.take j) ≤ szD.szs es := by
  have := szs_app (es.take j) (es.drop j)
  rw [List.take_append_drop] at this; omega
theorem rng_getD (ds : List D) : (rng 0 (ds.length : Int)).map (fun k => (ds.getD k.toNat .non, ds.getD k.toNat .non)) = ds.map fun d => (d, d) := by
  rw [rng0]
  apply List.ext_getElem
  · simp
  · intro i h1 h2
    simp at h1 h2 ⊢
    simp [List.getElem?_eq_getElem h1]
theorem take_flat {α β : Type} (f : α → List β) (es : List α) (j : Nat) (e : α) (h : es[j]? = some e) : (es.take (j + 1)).flatMap f = (es.take j).flatMap f ++ f e := by
  obtain ⟨h1, h2⟩ := List.getElem?_eq_some_iff.mp h
  rw [List.take_succ_eq_append_getElem h1, List.flatMap_append, h2]
  simp
theorem same_ok (d : D) (hp : plain 30 d = true) (hs : szD d ≤ 16000000) : P.w_same d d = .ok true := by
  refine Sat.is ?_
  unfold P.w_same
  rw [Out.ok_bind, rng1_ok (by omega), Out.ok_bind]
  refine Sat.jn (fun s => s = []) ?_ ?_
  · refine Sat.rngN (fun i s => ∃ es : List D, s = (es.map fun e => (e, e)) ∧ (∀ e ∈ es, plain (30 - i) e = true) ∧ szD.szs es ≤ 16000000) (n := 30) rfl ⟨[d], rfl, by simpa using hp, by simpa [szD.szs] using hs⟩ ?_ ?_
    · rintro i _ hi ⟨es, rfl, h1, h2⟩
      rw [Out.ok_bind]
      refine Sat.jn (fun s => s = (es.flatMap kidsD).map fun e => (e, e)) ?_ ?_
      · refine Sat.forN (fun j s => s = ((es.take j).flatMap kidsD).map fun e => (e, e)) (by simp) ?_ fun s h => ⟨s, rfl, by simpa using h⟩
        rintro j x _ hx rfl
        rw [List.getElem?_map] at hx
        obtain ⟨e, he, rfl⟩ := Option.map_eq_some_iff.mp hx
        have hpe := h1 e (List.mem_of_getElem? he)
        rw [take_flat _ _ _ _ he]
        obtain ⟨n, hn⟩ : ∃ n, 30 - i = n + 1 := ⟨29 - i, by omega⟩
        rw [hn] at hpe
        have leaf : ∀ (h : isD "tuple" e = .ok false) (k : kidsD e = []) (r : Out (Lp (List (D × D)) (Lp (List (D × D)) Bool))), r = .ok (.nx (((es.take j).flatMap kidsD).map fun e => (e, e))) → Sat r (fun r => ∃ s', r = .nx s' ∧ s' = ((es.take j).flatMap kidsD ++ kidsD e).map fun e => (e, e)) := by
          intro _ k r hr
          rw [hr, Sat_ok, k, List.append_nil]
          exact ⟨_, rfl, rfl⟩
        cases e with
        | tup ds =>
          have q1 : isD "tuple" (.tup ds) = .ok true := by simp [isD]; decide
          have q2 : lenD (.tup ds) = .ok (ds.length : Int) := by simp [lenD]
          have hlen : ds.length ≤ 16000000 := by
            have := szs_len ds
            have h3 := szs_take [.tup ds] 1
            have : szD (.tup ds) ≤ szD.szs es := by
              have := szs_app (es.take j) (es.drop j)
              rw [List.take_append_drop] at this
              obtain ⟨hj, he'⟩ := List.getElem?_eq_some_iff.mp he
              rw [List.drop_eq_getElem_cons hj, he'] at this
              simp only [szD.szs] at this; omega
            simp only [szD] at this; omega
          have q3 : lcR (fun (k : Int) => Out.ok true) (fun (k : Int) => ((ixD (.tup ds) k).bind fun v6 => (ixD (.tup ds) k).bind fun v7 => Out.ok ((v6, v7)))) (rng 0 (ds.length : Int)) = .ok (ds.map fun d => (d, d)) := by
            rw [lcR_okA (fun k => (ds.getD k.toNat .non, ds.getD k.toNat .non)) (by rw [rng_length]; omega), rng_getD]
            intro k hk
            obtain ⟨k1, k2⟩ := rng_mem.mp hk
            have : ixD (.tup ds) k = .ok (ds.getD k.toNat .non) := by
              unfold ixD
              rw [FL.ix_tup, atI_in k1 (by omega)]
              rw [List.getD_eq_getElem?_getD, List.getElem?_eq_getElem]; rfl
            rw [this]; rfl
          have hext : (((es.take j).flatMap kidsD).map fun e => (e, e)).length + (ds.map fun d => (d, d)).length ≤ 16777216 := by
            have a1 := szs_len ((es.take j).flatMap kidsD ++ ds)
            have a2 := kids_sz (es.take (j + 1))
            rw [take_flat _ _ _ _ he] at a2
            have a3 := szs_take es (j + 1)
            simp only [kidsD] at a2
            simp only [List.length_append, List.length_map] at a1 ⊢
            omega
          simp only [q1, Out.ok_bind, if_true, Bool.not_true, Bool.false_eq_true, if_false, q2, decide_true]
          rw [rng1_ok (by omega), Out.ok_bind, q3, Out.ok_bind, extR_ok hext, Out.ok_bind, Sat_ok]
          exact ⟨_, rfl, by simp [kidsD]⟩
        | non => exact leaf rfl rfl _ (by simp [isD, isT])
        | bl b =>
          refine leaf rfl rfl _ ?_
          have e1 : isD "tuple" (.bl b) = .ok false := rfl
          have e2 : isD "bool" (.bl b) = .ok true := rfl
          have e3 : isD "str" (.bl b) = .ok false := rfl
          have e4 : isD "int" (.bl b) = .ok true := rfl
          have e5 : neD (.bl b) (.bl b) = .ok false := by simp [neD]
          simp [e1, e2, e3, e4, e5]
        | int b =>
          refine leaf rfl rfl _ ?_
          have e1 : isD "tuple" (.int b) = .ok false := rfl
          have e2 : isD "bool" (.int b) = .ok false := rfl
          have e3 : isD "str" (.int b) = .ok false := rfl
          have e4 : isD "int" (.int b) = .ok true := rfl
          have e5 : neD (.int b) (.int b) = .ok false := by simp [neD]
          simp [e1, e2, e3, e4, e5]
        | str b =>
          refine leaf rfl rfl _ ?_
          have e1 : isD "tuple" (.str b) = .ok false := rfl
          have e2 : isD "bool" (.str b) = .ok false := rfl
          have e3 : isD "str" (.str b) = .ok true := rfl
          have e4 : isD "int" (.str b) = .ok false := rfl
          have e5 : neD (.str b) (.str b) = .ok false := by simp [neD]
          simp [e1, e2, e3, e4, e5]
        | ty _ => simp [plain] at hpe
        | lst _ => simp [plain] at hpe
        | fz _ => simp [plain] at hpe
        | ftup _ => simp [plain] at hpe
        | dic _ _ => simp [plain] at hpe
        | dit _ _ => simp [plain] at hpe
      · rintro _ rfl
        rw [Out.ok_bind, Sat_ok]
        refine ⟨_, rfl, _, rfl, fun e he => ?_, Nat.le_trans (kids_sz es) h2⟩
        obtain ⟨f, hf, hk⟩ := List.mem_flatMap.mp he
        have := h1 f hf
        obtain ⟨n, hn⟩ : ∃ n, 30 - i = n + 1 := ⟨29 - i, by omega⟩
        rw [show 30 - (i + 1) = n by omega]
        rw [hn] at this
        cases f <;> simp [kidsD] at hk
        simp only [plain, List.all_eq_true] at this
        exact this e hk
    · rintro s ⟨es, rfl, h1, h2⟩
      refine ⟨_, rfl, ?_⟩
      cases es with
      | nil => rfl
      | cons e es => have := h1 e (by simp); simp [plain] at this
  · rintro _ rfl
    simp [eqD, cL, cmpOk_lst, eqb_lst]
end TL

namespace TL
open PySem PySem.Spec PyProof.Rows L2 FL
/-! ### words and weavings -/
theorem is_word_ok {l : List Nat} (h : AllL l) (hl : l.length ≤ 16777216) : P.is_word (cS l) = .ok true := by
  unfold P.is_word
  rw [isD_str, Out.ok_bind, if_pos rfl, itD_S, Out.ok_bind, lcR_okA (fun _ => true) (by simpa using hl)]
  · simp
  · intro x hx
    obtain ⟨c, hc, rfl⟩ := List.mem_map.mp hx
    rw [opD_inS, inS_1]
    exact congrArg Out.ok (decide_eq_true (h c hc))
theorem check_words_ok {ds : List D} (h : ∀ d ∈ ds, P.is_word d = .ok true) : P.check_words ds = .ok () := by
  refine Sat.is ?_
  unfold P.check_words
  refine Sat.bind (fun _ => True) (Sat.forS (fun _ _ => True) trivial ?_ fun _ _ => trivial) (by simp)
  intro i x s hx _
  rw [h x (List.mem_of_getElem? hx)]
  simp
abbrev mXY : List Nat := [120, 121]
abbrev mXZ : List Nat := [120, 122]
abbrev mTY : List Nat := [116, 121]
abbrev mTZ : List Nat := [116, 122]
def MV (ms : List (List Nat)) : Prop := ∀ m ∈ ms, m = mXY ∨ m = mXZ ∨ m = mTY ∨ m = mTZ
theorem is_weaving_ok {ms : List (List Nat)} (h : MV ms) (hl : ms.length ≤ 16777216) : P.is_weaving (cU cS ms) = .ok true := by
  unfold P.is_weaving
  have e1 : isD "tuple" (cU cS ms) = .ok true := by simp [isD, cU]; decide
  have e2 : itD (cU cS ms) = .ok (ms.map cS) := by simp [itD, cU]
  rw [e1, Out.ok_bind, if_pos rfl, e2, Out.ok_bind, lcR_okA (fun _ => true) (by simpa using hl)]
  · simp
  · intro x hx
    obtain ⟨m, hm, rfl⟩ := List.mem_map.mp hx
    rw [isD_str, Out.ok_bind, if_pos rfl]
    rw [opD_inV]
    rcases h m hm with rfl | rfl | rfl | rfl <;> rfl
theorem check_weaving_ok {ms : List (List Nat)} (h : MV ms) (hl : ms.length ≤ 16777216) : P.check_weaving (cU cS ms) = .ok () := by
  unfold P.check_weaving
  rw [is_weaving_ok h hl]
  rfl
theorem letters_ok (number : Int) (h0 : 0 ≤ number) : Sat (P.w_letters number) fun l => 2 ≤ l.length ∧ l.length ≤ 3 ∧ AllL l := by
  unfold P.w_letters
  rw [Out.ok_bind, divR_ok (by omega), Out.ok_bind, modR_ok (by omega), Out.ok_bind, Out.ok_bind, rng1_ok (by omega), Out.ok_bind]
  refine Sat.bind (fun s : List Nat × Int => 2 ≤ s.1.length ∧ s.1.length ≤ 3 ∧ AllL s.1) ?_ fun ⟨a, b⟩ h => by simpa using h
  obtain ⟨n, hn⟩ : ∃ n : Nat, 2 + number % 2 = n := ⟨(2 + number % 2).toNat, by omega⟩
  refine Sat.rngS (fun i (s : List Nat × Int) => s.1.length = i ∧ AllL s.1 ∧ 0 ≤ s.2) (n := n) hn ⟨rfl, .nil, by omega⟩ ?_ fun s h => ⟨by omega, by omega, h.2.1⟩
  rintro i ⟨l, r⟩ hi ⟨h1, h2, h3⟩
  dsimp only at h1 h2 h3 ⊢
  rw [lcP_ok (by simp), Out.ok_bind]
  have hf : ((sgs L26).filter fun letter => !inS letter l).map (fun letter => letter) = sgs (L26.filter fun c => !decide (c ∈ l)) := by
    rw [List.map_id']
    unfold sgs
    rw [List.filter_map]
    congr 1
  have hne : 0 < (L26.filter fun c => !decide (c ∈ l)).length := by
    cases e : L26.filter fun c => !decide (c ∈ l) with
    | cons t ts => simp
    | nil =>
      exfalso
      have sub : ∀ c ∈ L26, c ∈ l := fun c hc => by
        have := List.filter_eq_nil_iff.mp e c hc
        simpa using this
      have := nodup_le L26_nodup sub
      rw [L26_len] at this
      omega
  have hin : ∀ c ∈ L26.filter fun c => !decide (c ∈ l), c ∈ L26 := fun c hc => (List.mem_filter.mp hc).1
  have hle : (L26.filter fun c => !decide (c ∈ l)).length ≤ 26 := List.length_filter_le _ _
  show Sat ((((modR r ((((sgs L26).filter fun letter => !inS letter l).map (fun letter => letter)).length : Int)).bind fun v3 => atR (((sgs L26).filter fun letter => !inS letter l).map (fun letter => letter)) v3).bind fun v4 => catR l v4).bind _) _
  rw [hf]
  generalize (L26.filter fun c => !decide (c ∈ l)) = left at hne hin hle
  rw [sgs_length, modR_ok (by omega), Out.ok_bind]
  obtain ⟨a, ha, e⟩ := atR_ex (xs := sgs left) (Int.emod_nonneg r (b := (left.length : Int)) (by omega)) (by rw [sgs_length]; exact Int.emod_lt_of_pos r (by omega))
  obtain ⟨c, hc, rfl⟩ := List.mem_map.mp ha
  rw [e, Out.ok_bind, catR_ok (by simp; omega), Out.ok_bind, divR_ok (by omega), Out.ok_bind, Sat_ok]
  exact ⟨by simp [h1], h2.app (.one (hin c hc)), by dsimp only; omega⟩
/-! ### woven words -/
/-- four words are taken up by moves, letter by letter -/
def wv : List (List Nat) → List Nat → List Nat → List Nat → List Nat → Prop
  | [], x, y, z, t => x = [] ∧ y = [] ∧ z = [] ∧ t = []
  | m :: ms, x, y, z, t => (m = mXY ∧ ∃ c x' y', x = c :: x' ∧ y = c :: y' ∧ wv ms x' y' z t) ∨ (m = mXZ ∧ ∃ c x' z', x = c :: x' ∧ z = c :: z' ∧ wv ms x' y z' t) ∨
    (m = mTY ∧ ∃ c t' y', t = c :: t' ∧ y = c :: y' ∧ wv ms x y' z t') ∨ (m = mTZ ∧ ∃ c t' z', t = c :: t' ∧ z = c :: z' ∧ wv ms x y z' t')
theorem wv_xy {c : Nat} : ∀ {ms : List (List Nat)} {x y z t : List Nat}, wv ms x y z t → wv (ms ++ [mXY]) (x ++ [c]) (y ++ [c]) z t
  | [], _, _, _, _, ⟨rfl, rfl, rfl, rfl⟩ => .inl ⟨rfl, c, [], [], rfl, rfl, rfl, rfl, rfl, rfl⟩
  | _ :: _, _, _, _, _, .inl ⟨h, d, x', y', rfl, rfl, k⟩ => .inl ⟨h, d, _, _, rfl, rfl, wv_xy k⟩
  | _ :: _, _, _, _, _, .inr (.inl ⟨h, d, x', z', rfl, rfl, k⟩) => .inr (.inl ⟨h, d, _, _, rfl, rfl, wv_xy k⟩)
  | _ :: _, _, _, _, _, .inr (.inr (.inl ⟨h, d, t', y', rfl, rfl, k⟩)) => .inr (.inr (.inl ⟨h, d, _, _, rfl, rfl, wv_xy k⟩))
  | _ :: _, _, _, _, _, .inr (.inr (.inr ⟨h, d, t', z', rfl, rfl, k⟩)) => .inr (.inr (.inr ⟨h, d, _, _, rfl, rfl, wv_xy k⟩))
theorem wv_xz {c : Nat} : ∀ {ms : List (List Nat)} {x y z t : List Nat}, wv ms x y z t → wv (ms ++ [mXZ]) (x ++ [c]) y (z ++ [c]) t
  | [], _, _, _, _, ⟨rfl, rfl, rfl, rfl⟩ => .inr (.inl ⟨rfl, c, [], [], rfl, rfl, rfl, rfl, rfl, rfl⟩)
  | _ :: _, _, _, _, _, .inl ⟨h, d, x', y', rfl, rfl, k⟩ => .inl ⟨h, d, _, _, rfl, rfl, wv_xz k⟩
  | _ :: _, _, _, _, _, .inr (.inl ⟨h, d, x', z', rfl, rfl, k⟩) => .inr (.inl ⟨h, d, _, _, rfl, rfl, wv_xz k⟩)
  | _ :: _, _, _, _, _, .inr (.inr (.inl ⟨h, d, t', y', rfl, rfl, k⟩)) => .inr (.inr (.inl ⟨h, d, _, _, rfl, rfl, wv_xz k⟩))
  | _ :: _, _, _, _, _, .inr (.inr (.inr ⟨h, d, t', z', rfl, rfl, k⟩)) => .inr (.inr (.inr ⟨h, d, _, _, rfl, rfl, wv_xz k⟩))
theorem wv_ty {c : Nat} : ∀ {ms : List (List Nat)} {x y z t : List Nat}, wv ms x y z t → wv (ms ++ [mTY]) x (y ++ [c]) z (t ++ [c])
  | [], _, _, _, _, ⟨rfl, rfl, rfl, rfl⟩ => .inr (.inr (.inl ⟨rfl, c, [], [], rfl, rfl, rfl, rfl, rfl, rfl⟩))
  | _ :: _, _, _, _, _, .inl ⟨h, d, x', y', rfl, rfl, k⟩ => .inl ⟨h, d, _, _, rfl, rfl, wv_ty k⟩
  | _ :: _, _, _, _, _, .inr (.inl ⟨h, d, x', z', rfl, rfl, k⟩) => .inr (.inl ⟨h, d, _, _, rfl, rfl, wv_ty k⟩)
  | _ :: _, _, _, _, _, .inr (.inr (.inl ⟨h, d, t', y', rfl, rfl, k⟩)) => .inr (.inr (.inl ⟨h, d, _, _, rfl, rfl, wv_ty k⟩))
  | _ :: _, _, _, _, _, .inr (.inr (.inr ⟨h, d, t', z', rfl, rfl, k⟩)) => .inr (.inr (.inr ⟨h, d, _, _, rfl, rfl, wv_ty k⟩))
theorem wv_tz {c : Nat} : ∀ {ms : List (List Nat)} {x y z t : List Nat}, wv ms x y z t → wv (ms ++ [mTZ]) x y (z ++ [c]) (t ++ [c])
  | [], _, _, _, _, ⟨rfl, rfl, rfl, rfl⟩ => .inr (.inr (.inr ⟨rfl, c, [], [], rfl, rfl, rfl, rfl, rfl, rfl⟩))
  | _ :: _, _, _, _, _, .inl ⟨h, d, x', y', rfl, rfl, k⟩ => .inl ⟨h, d, _, _, rfl, rfl, wv_tz k⟩
  | _ :: _, _, _, _, _, .inr (.inl ⟨h, d, x', z', rfl, rfl, k⟩) => .inr (.inl ⟨h, d, _, _, rfl, rfl, wv_tz k⟩)
  | _ :: _, _, _, _, _, .inr (.inr (.inl ⟨h, d, t', y', rfl, rfl, k⟩)) => .inr (.inr (.inl ⟨h, d, _, _, rfl, rfl, wv_tz k⟩))
  | _ :: _, _, _, _, _, .inr (.inr (.inr ⟨h, d, t', z', rfl, rfl, k⟩)) => .inr (.inr (.inr ⟨h, d, _, _, rfl, rfl, wv_tz k⟩))
theorem wv_mv : ∀ {ms : List (List Nat)} {x y z t : List Nat}, wv ms x y z t → MV ms
  | [], _, _, _, _, _ => fun m h => by cases h
  | m :: ms, _, _, _, _, h => by
    have : (m = mXY ∨ m = mXZ ∨ m = mTY ∨ m = mTZ) ∧ MV ms := by
      rcases h with ⟨h, _, _, _, _, _, k⟩ | ⟨h, _, _, _, _, _, k⟩ | ⟨h, _, _, _, _, _, k⟩ | ⟨h, _, _, _, _, _, k⟩
      · exact ⟨.inl h, wv_mv k⟩
      · exact ⟨.inr (.inl h), wv_mv k⟩
      · exact ⟨.inr (.inr (.inl h)), wv_mv k⟩
      · exact ⟨.inr (.inr (.inr h)), wv_mv k⟩
    intro n hn
    rcases List.mem_cons.mp hn with rfl | hn
    · exact this.1
    · exact this.2 n hn
theorem wv_len : ∀ {ms : List (List Nat)} {x y z t : List Nat}, wv ms x y z t → x.length + t.length = ms.length ∧ y.length + z.length = ms.length
  | [], _, _, _, _, ⟨rfl, rfl, rfl, rfl⟩ => ⟨rfl, rfl⟩
  | m :: ms, _, _, _, _, h => by
    rcases h with ⟨h, _, _, _, rfl, rfl, k⟩ | ⟨h, _, _, _, rfl, rfl, k⟩ | ⟨h, _, _, _, rfl, rfl, k⟩ | ⟨h, _, _, _, rfl, rfl, k⟩ <;>
    · have := wv_len k
      simp only [List.length_cons]
      omega
theorem woven_ok (xs : List Int) (many : Nat) (letters : List Nat) (h40 : xs.length = 40) (hx : ∀ x ∈ xs, 0 ≤ x) (hm : many ≤ 1000) (hl : 0 < letters.length) (hl3 : letters.length ≤ 1000) :
    Sat (P.w_woven xs (many : Int) letters) fun p => ∃ x y z t, p.1 = [x, y, z, t] ∧ wv p.2 x y z t ∧ p.2.length = many ∧ (∀ c ∈ x ++ y ++ z ++ t, c ∈ letters) := by
  unfold P.w_woven
  rw [Out.ok_bind, Out.ok_bind, rng1_ok (by omega), Out.ok_bind]
  refine Sat.bind (fun p : List (List Nat) × List (List Nat) => ∃ x y z t, p.1 = [x, y, z, t] ∧ wv p.2 x y z t ∧ p.2.length = many ∧ (∀ c ∈ x ++ y ++ z ++ t, c ∈ letters)) ?_ fun ⟨a, b⟩ h => by simpa using h
  refine Sat.rngS (fun i (p : List (List Nat) × List (List Nat)) => ∃ x y z t, p.1 = [x, y, z, t] ∧ wv p.2 x y z t ∧ p.2.length = i ∧ (∀ c ∈ x ++ y ++ z ++ t, c ∈ letters)) (n := many) rfl ⟨[], [], [], [], rfl, ⟨rfl, rfl, rfl, rfl⟩, rfl, by simp⟩ ?_ fun s h => h
  rintro i ⟨w, ms⟩ hi ⟨x, y, z, t, hw, hv, hn, hc⟩
  dsimp only at hw hv hn ⊢
  subst hw
  have hlen := wv_len hv
  obtain ⟨n, hnm, e1⟩ := atR_ex (xs := xs) (i := (i : Int) % 40) (by omega) (by omega)
  obtain ⟨d, hd, e2⟩ := atR_ex (xs := [(1 : Int), 101, 10007]) (i := (i : Int) / 40 % 3) (by omega) (by simp; omega)
  have hd' : 0 < d ∧ d < 20000 := by
    simp only [List.mem_cons, List.not_mem_nil, or_false] at hd
    omega
  have hn0 := hx n hnm
  rw [modR_ok (by omega), Out.ok_bind, e1, Out.ok_bind, divR_ok (by omega), Out.ok_bind, modR_ok (by omega), Out.ok_bind, e2, Out.ok_bind, divR_ok (by omega), Out.ok_bind]
  have hq : 0 ≤ n / d := Int.ediv_nonneg hn0 (by omega)
  generalize n / d = q at hq ⊢
  obtain ⟨c, hcm, e3⟩ := sgR_ex (l := letters) (i := q / 4 % (letters.length : Int)) (Int.emod_nonneg _ (by omega)) (Int.emod_lt_of_pos _ (by omega))
  have hc' : ∀ c' ∈ x ++ y ++ z ++ t ++ [c], c' ∈ letters := fun c' h => by
    rcases List.mem_append.mp h with h | h
    · exact hc c' h
    · rw [List.mem_singleton.mp h]; exact hcm
  have hk : q % 4 = 0 ∨ q % 4 = 1 ∨ q % 4 = 2 ∨ q % 4 = 3 := by omega
  rw [modR_ok (by omega), Out.ok_bind, divR_ok (by omega), Out.ok_bind, modR_ok (by omega), Out.ok_bind, e3, Out.ok_bind]
  have mem : ∀ {a b c' d' : List Nat}, (∀ k, k ∈ a ++ b ++ c' ++ d' → k ∈ x ++ y ++ z ++ t ++ [c]) → ∀ k ∈ a ++ b ++ c' ++ d', k ∈ letters := fun h k hk => hc' k (h k hk)
  have sz : ∀ a : List Nat, a.length ≤ 1000 → catR a [c] = .ok (a ++ [c]) := fun a h => catR_ok (by simp; omega)
  rcases hk with hk | hk | hk | hk <;> rw [hk]
  · have e5 : atR [((0 : Int), (1 : Int)), (0, 2), (3, 1), (3, 2)] 0 = .ok (0, 1) := rfl
    have e6 : atR [mXY, mXZ, mTY, mTZ] 0 = .ok mXY := rfl
    rw [e5, Out.ok_bind]
    dsimp only
    have s1 : atR [x, y, z, t] 0 = .ok x := rfl
    have s2 : ∀ a, setR [x, y, z, t] 0 a = .ok [a, y, z, t] := fun _ => rfl
    have s3 : ∀ a, atR [a, y, z, t] 1 = .ok y := fun _ => rfl
    have s4 : ∀ a b, setR [a, y, z, t] 1 b = .ok [a, b, z, t] := fun _ _ => rfl
    simp (disch := omega) only [s1, s2, s3, s4, e6, Out.ok_bind, sz, appR_ok, Sat_ok]
    exact ⟨_, _, _, _, rfl, wv_xy hv, by simp [hn], mem fun k hk => by simp at hk ⊢; grind⟩
  · have e5 : atR [((0 : Int), (1 : Int)), (0, 2), (3, 1), (3, 2)] 1 = .ok (0, 2) := rfl
    have e6 : atR [mXY, mXZ, mTY, mTZ] 1 = .ok mXZ := rfl
    rw [e5, Out.ok_bind]
    dsimp only
    have s1 : atR [x, y, z, t] 0 = .ok x := rfl
    have s2 : ∀ a, setR [x, y, z, t] 0 a = .ok [a, y, z, t] := fun _ => rfl
    have s3 : ∀ a, atR [a, y, z, t] 2 = .ok z := fun _ => rfl
    have s4 : ∀ a b, setR [a, y, z, t] 2 b = .ok [a, y, b, t] := fun _ _ => rfl
    simp (disch := omega) only [s1, s2, s3, s4, e6, Out.ok_bind, sz, appR_ok, Sat_ok]
    exact ⟨_, _, _, _, rfl, wv_xz hv, by simp [hn], mem fun k hk => by simp at hk ⊢; grind⟩
  · have e5 : atR [((0 : Int), (1 : Int)), (0, 2), (3, 1), (3, 2)] 2 = .ok (3, 1) := rfl
    have e6 : atR [mXY, mXZ, mTY, mTZ] 2 = .ok mTY := rfl
    rw [e5, Out.ok_bind]
    dsimp only
    have s1 : atR [x, y, z, t] 3 = .ok t := rfl
    have s2 : ∀ a, setR [x, y, z, t] 3 a = .ok [x, y, z, a] := fun _ => rfl
    have s3 : ∀ a, atR [x, y, z, a] 1 = .ok y := fun _ => rfl
    have s4 : ∀ a b, setR [x, y, z, a] 1 b = .ok [x, b, z, a] := fun _ _ => rfl
    simp (disch := omega) only [s1, s2, s3, s4, e6, Out.ok_bind, sz, appR_ok, Sat_ok]
    exact ⟨_, _, _, _, rfl, wv_ty hv, by simp [hn], mem fun k hk => by simp at hk ⊢; grind⟩
  · have e5 : atR [((0 : Int), (1 : Int)), (0, 2), (3, 1), (3, 2)] 3 = .ok (3, 2) := rfl
    have e6 : atR [mXY, mXZ, mTY, mTZ] 3 = .ok mTZ := rfl
    rw [e5, Out.ok_bind]
    dsimp only
    have s1 : atR [x, y, z, t] 3 = .ok t := rfl
    have s2 : ∀ a, setR [x, y, z, t] 3 a = .ok [x, y, z, a] := fun _ => rfl
    have s3 : ∀ a, atR [x, y, z, a] 2 = .ok z := fun _ => rfl
    have s4 : ∀ a b, setR [x, y, z, a] 2 b = .ok [x, y, b, a] := fun _ _ => rfl
    simp (disch := omega) only [s1, s2, s3, s4, e6, Out.ok_bind, sz, appR_ok, Sat_ok]
    exact ⟨_, _, _, _, rfl, wv_tz hv, by simp [hn], mem fun k hk => by simp at hk ⊢; grind⟩
end TL

namespace TL
open PySem PySem.Spec PyProof.Rows L2 FL
/-! ### drawing -/
def Deck (s : Dck) : Prop := 0 ≤ s.2.1 ∧ 0 ≤ s.2.2.1 ∧ 0 ≤ s.2.2.2.2 ∧ s.2.2.2.2 < 2147483648
theorem mixed_ok {n k : Int} (h : 0 ≤ n) (h2 : n < 2147483648) : Sat (P.w_mixed n k) fun r => 0 ≤ r := by
  unfold P.w_mixed
  rw [mulR_ok (by omega), Out.ok_bind, mulR_okr (by omega), Out.ok_bind, Out.ok_bind, Out.ok_bind, Out.ok_bind, modR_ok (by omega), Out.ok_bind]
  generalize hz : (n * 48271 + k * 69621 + 7) % 2147483647 = z
  have z0 : 0 ≤ z := by rw [← hz]; exact Int.emod_nonneg _ (by omega)
  have z1 : z < 2147483647 := by rw [← hz]; exact Int.emod_lt_of_pos _ (by omega)
  rw [divR_ok (by omega), Out.ok_bind, Out.ok_bind, mulR_ok (by omega), Out.ok_bind, Out.ok_bind, modR_ok (by omega), Out.ok_bind]
  generalize hy : (z * (z / 1009 + 30103)) % 2147483629 = y
  have y0 : 0 ≤ y := by rw [← hy]; exact Int.emod_nonneg _ (by omega)
  have y1 : y < 2147483629 := by rw [← hy]; exact Int.emod_lt_of_pos _ (by omega)
  rw [divR_ok (by omega), Out.ok_bind, Out.ok_bind, mulR_ok (by omega), Out.ok_bind, Out.ok_bind, modR_ok (by omega), Sat_ok]
  exact Int.emod_nonneg _ (by omega)
theorem draw_ok {many : Int} (h : 0 < many) (h2 : many < 18446744073709551616) : SatM Deck (P.w_draw many) fun r => 0 ≤ r ∧ r < many := by
  rintro ⟨cs, p, q, c, n⟩ ⟨d1, d2, d3, d4⟩
  simp only at d1 d2 d3 d4
  unfold P.w_draw
  simp only [Out.ok_bind]
  refine Sat.bind (fun s => Deck s) ?_ ?_
  · refine Sat.ite (fun hc => ?_) fun _ => ?_
    · simp only [Bool.and_eq_true, decide_eq_true_eq] at hc
      obtain ⟨cell, _, e⟩ := atR_ex (xs := cs) d1 hc.2
      rw [e, Out.ok_bind, mulR_ok (by omega), Out.ok_bind, Out.ok_bind, Out.ok_bind, modR_ok (by omega), Out.ok_bind, Out.ok_bind, pow_10_18, Out.ok_bind, Out.ok_bind]
      have m0 : 0 ≤ (n * 31 + cell) % 2147483647 := Int.emod_nonneg _ (by omega)
      have m1 : (n * 31 + cell) % 2147483647 < 2147483647 := Int.emod_lt_of_pos _ (by omega)
      refine Sat.ite (fun _ => ?_) fun _ => ?_
      · rw [mulR_ok (by omega), Out.ok_bind, Out.ok_bind, Out.ok_bind, Sat_ok]
        refine ⟨by show 0 ≤ p + 1; omega, ?_, m0, by show (n * 31 + cell) % 2147483647 < 2147483648; omega⟩
        show 0 ≤ 2 * absR cell + (if decide (cell < 0) = true then 1 else 0)
        unfold absR
        split <;> split <;> omega
      · rw [Sat_ok]
        exact ⟨by show 0 ≤ p + 1; omega, d2, m0, by show (n * 31 + cell) % 2147483647 < 2147483648; omega⟩
    · rw [Sat_ok]
      exact ⟨d1, d2, d3, d4⟩
  · rintro ⟨cs, p, q, c, n⟩ ⟨d1, d2, d3, d4⟩
    simp only at d1 d2 d3 d4 ⊢
    refine Sat.ite (fun hq => ?_) fun _ => ?_
    · simp only [decide_eq_true_eq] at hq
      rw [modR_ok h, Out.ok_bind, divR_ok ⟨h, h2⟩, Out.ok_bind, Out.ok_bind, Sat_ok]
      exact ⟨⟨Int.emod_nonneg _ (by omega), Int.emod_lt_of_pos _ h⟩, d1, Int.ediv_nonneg d2 (by omega), d3, d4⟩
    · refine Sat.bind (fun v => 0 ≤ v ∧ v < many) ?_ fun v hv => by rw [Sat_ok]; exact ⟨hv, d1, d2, d3, d4⟩
      refine Sat.bind (fun _ => True) ?_ fun v _ => by rw [modR_ok h, Sat_ok]; exact ⟨Int.emod_nonneg _ (by omega), Int.emod_lt_of_pos _ h⟩
      refine Sat.bind (fun _ => True) ?_ fun v _ => by rw [Sat_ok]; trivial
      refine Sat.bind (fun _ => True) ((mixed_ok d3 d4).imp fun _ _ => trivial) fun v _ => by rw [divR_ok (by omega), Sat_ok]; trivial
theorem deck_ok {ns : List Int} (h : ns.length ≤ 63) : Sat (P.w_deck ns) Deck := by
  unfold P.w_deck
  rw [lcA_ok (by omega), Out.ok_bind, Sat_ok]
  exact ⟨Int.le_refl 0, Int.le_refl 0, Int.le_refl 0, show (0 : Int) < 2147483648 by decide⟩
theorem great_ok {digits : Int} (h : 0 < digits) (h2 : digits ≤ 60) : SatM Deck (P.w_great digits) fun r => 0 ≤ r ∧ r < 10 ^ digits.toNat := by
  intro s hs
  unfold P.w_great
  rw [Out.ok_bind]
  refine Sat.bind (fun p => (0 ≤ p.2 ∧ p.2 < 10 ^ digits.toNat) ∧ Deck p.1) ?_ fun ⟨d, f⟩ h => by rw [Sat_ok]; exact ⟨h.1, h.2⟩
  refine Sat.bind (fun p => (∃ n : Nat, p.1 = rng 0 (n : Int) ∧ n ≤ digits.toNat) ∧ Deck p.2) ?_ ?_
  · refine SatM.ap (fun xs => ∃ n : Nat, xs = rng 0 (n : Int) ∧ n ≤ digits.toNat) hs ?_ fun a s h1 h2 => ⟨h1, h2⟩
    refine SatM.bd (fun v => 1 ≤ v ∧ v ≤ digits) ?_ fun v hv => ?_
    · exact SatM.bd _ (SatM.nx (draw_ok (by omega) (by omega))) fun v hv => SatM.rt ⟨by omega, by omega⟩
    · rw [rng1_ok (by omega)]
      exact SatM.rt ⟨v.toNat, by rw [Int.toNat_of_nonneg (by omega)], by omega⟩
  · rintro ⟨xs, d⟩ ⟨⟨n, rfl, hn⟩, hd⟩
    refine Sat.rngS (fun i p => (0 ≤ p.2 ∧ p.2 < 10 ^ i) ∧ Deck p.1) (n := n) rfl ⟨⟨by show (0:Int) ≤ 0; omega, by show (0:Int) < 10 ^ 0; decide⟩, hd⟩ ?_ fun p hp => ⟨⟨hp.1.1, Int.lt_of_lt_of_le hp.1.2 ?_⟩, hp.2⟩
    · rintro i ⟨d, f⟩ hi ⟨⟨f0, f1⟩, hd⟩
      simp only at f0 f1 hd
      refine Sat.bind (fun p => (0 ≤ p.1 ∧ p.1 < 10 ^ (i + 1)) ∧ Deck p.2) ?_ fun ⟨f', d'⟩ h => by rw [Sat_ok]; exact h
      rw [mulR_okr (by omega)]
      refine SatM.ap (fun v => 0 ≤ v ∧ v < 10 ^ (i + 1)) hd ?_ fun a s h1 h2 => ⟨h1, h2⟩
      refine SatM.bd (fun v => v = f * 10) (SatM.rt rfl) fun v hv => ?_
      subst hv
      refine SatM.bd _ (SatM.nx (draw_ok (by omega) (by omega))) fun v hv => SatM.rt ?_
      have : (10 : Int) ^ (i + 1) = 10 ^ i * 10 := Int.pow_succ ..
      exact ⟨by omega, by omega⟩
    · exact_mod_cast Nat.pow_le_pow_right (by omega : 10 > 0) hn
/-! ### lowest terms -/
theorem log_big {n : Nat} (h : n < 2 ^ 9000) (h0 : n ≠ 0) : n.log2 < 9000 := (Nat.log2_lt h0).mpr h
theorem divR_big {a b : Nat} (h : 0 < b) (h2 : b < 2 ^ 9000) : divR (a : Int) (b : Int) = .ok ((a / b : Nat) : Int) := by
  unfold divR
  rw [if_pos ⟨by omega, by rw [Int.natAbs_natCast]; exact log_big h2 (by omega)⟩]
  rfl
theorem mulR_big {a b : Nat} (h : a < 2 ^ 9000) (h2 : b < 2 ^ 9000) : mulR (a : Int) (b : Int) = .ok ((a * b : Nat) : Int) := by
  unfold mulR
  have l : ∀ n : Nat, n < 2 ^ 9000 → n.log2 < 9000 := fun n hn => by
    by_cases h0 : n = 0
    · subst h0; exact Nat.lt_of_le_of_lt (Nat.le_of_eq Nat.log2_zero) (by decide)
    · exact log_big hn h0
  have := l a h
  have := l b h2
  rw [if_pos (.inr (by rw [Int.natAbs_natCast, Int.natAbs_natCast]; omega)), Int.natCast_mul]
theorem divisor_ok (m n : Nat) : P.divisor (m : Int) (n : Int) = .ok ((Nat.gcd m n : Nat) : Int) := by
  refine Sat.is ?_
  unfold P.divisor
  refine Sat.jn (fun s => s.1 = ((Nat.gcd m n : Nat) : Int)) ?_ fun s h => by rw [Sat_ok]; exact h
  obtain ⟨s', e, h⟩ := whF_ex (c := fun ((one, other) : Int × Int) => (Out.ok (!decide (other = (0 : Int))))) (b := fun ((one, other) : Int × Int) => ((modR one other).bind fun v1 => Out.ok ((other, v1))).bind fun (one, other) => Out.ok ((Lp.nx (one, other) : Lp (Int × Int) Int)))
    (fun s => ∃ a b : Nat, s = ((a : Int), (b : Int)) ∧ Nat.gcd a b = Nat.gcd m n) (fun s => s.2.toNat) (fun s => s.1 = ((Nat.gcd m n : Nat) : Int)) (fun s ⟨a, b, hs, hg⟩ => by
      subst hs
      by_cases hb : b = 0
      · subst hb
        refine .inl ⟨by simp, ?_⟩
        rw [← hg]; simp
      · refine .inr ⟨by simp [hb], ((b : Int), ((a % b : Nat) : Int)), ?_, ⟨b, a % b, rfl, ?_⟩, ?_⟩
        · show ((modR (a : Int) (b : Int)).bind _).bind _ = _
          rw [modR_ok (by omega)]; rfl
        · rw [← hg, Nat.gcd_comm a b, Nat.gcd_rec b a, Nat.gcd_comm]
        · show (((a % b : Nat) : Int)).toNat < ((b : Int)).toNat
          have := Nat.mod_lt a (Nat.pos_of_ne_zero hb)
          omega) ((m : Int), (n : Int)) ⟨m, n, rfl, rfl⟩
  exact ⟨_, e, s', rfl, h⟩
def low (a b : Nat) : Int × Int := (((a / Nat.gcd a b : Nat) : Int), ((b / Nat.gcd a b : Nat) : Int))
theorem gcd_big {a b : Nat} (h0 : 0 < a) (h : a < 2 ^ 9000) : 0 < Nat.gcd a b ∧ Nat.gcd a b < 2 ^ 9000 :=
  ⟨Nat.gcd_pos_of_pos_left _ h0, Nat.lt_of_le_of_lt (Nat.le_of_dvd h0 (Nat.gcd_dvd_left a b)) h⟩
theorem made_ok {a b : Nat} (h0 : 0 < a) (h : a < 2 ^ 9000) : P.made (a : Int) (b : Int) = .ok (low a b) := by
  obtain ⟨g0, g1⟩ := gcd_big (b := b) h0 h
  unfold P.made
  rw [divisor_ok, Out.ok_bind, divR_big g0 g1, Out.ok_bind, divR_big g0 g1]
  rfl
theorem lowest_ok {a b : Nat} (h0 : 0 < a) (h : a < 2 ^ 9000) : P.w_lowest (a : Int) (b : Int) = .ok (low a b) := by
  obtain ⟨g0, g1⟩ := gcd_big (b := b) h0 h
  refine Sat.is ?_
  unfold P.w_lowest
  rw [Out.ok_bind, Out.ok_bind]
  refine Sat.jn (fun s => s.1 = ((Nat.gcd a b : Nat) : Int)) ?_ fun s hs => ?_
  · obtain ⟨s', e, h⟩ := whF_ex (c := fun ((one, other) : Int × Int) => (Out.ok (decide ((0 : Int) < other)))) (b := fun ((one, other) : Int × Int) => (modR one other).bind fun (rest : Int) => (Out.ok other).bind fun (one : Int) => (Out.ok rest).bind fun (other : Int) => Out.ok ((Lp.nx (one, other) : Lp (Int × Int) (Int × Int))))
      (fun s => ∃ x y : Nat, s = ((x : Int), (y : Int)) ∧ Nat.gcd x y = Nat.gcd a b) (fun s => s.2.toNat) (fun s => s.1 = ((Nat.gcd a b : Nat) : Int)) (fun s ⟨x, y, hs, hg⟩ => by
        subst hs
        by_cases hb : y = 0
        · subst hb
          refine .inl ⟨by simp, ?_⟩
          rw [← hg]; simp
        · refine .inr ⟨by simp; omega, ((y : Int), ((x % y : Nat) : Int)), ?_, ⟨y, x % y, rfl, ?_⟩, ?_⟩
          · show (modR (x : Int) (y : Int)).bind _ = _
            rw [modR_ok (by omega)]; rfl
          · rw [← hg, Nat.gcd_comm x y, Nat.gcd_rec y x, Nat.gcd_comm]
          · show (((x % y : Nat) : Int)).toNat < ((y : Int)).toNat
            have := Nat.mod_lt x (Nat.pos_of_ne_zero hb)
            omega) ((a : Int), (b : Int)) ⟨a, b, rfl, rfl⟩
    exact ⟨_, e, s', rfl, h⟩
  · obtain ⟨one, other⟩ := s
    have hs : one = _ := hs
    subst hs
    show Sat ((divR (a : Int) _).bind fun v1 => (divR (b : Int) _).bind fun v2 => Out.ok (v1, v2)) _
    rw [divR_big g0 g1, Out.ok_bind, divR_big g0 g1, Out.ok_bind, Sat_ok]
    rfl
/-- the only pair in lowest terms -/
theorem low_is {A B a b : Nat} (hA : 0 < A) (hB : 0 < B) (ha : 0 < a) (hb : 0 < b) (hc : Nat.gcd a b = 1) (h : A * b = B * a) : low A B = ((a : Int), (b : Int)) := by
  have g0 : 0 < Nat.gcd A B := Nat.gcd_pos_of_pos_left _ hA
  obtain ⟨x, hx⟩ := Nat.gcd_dvd_left A B
  obtain ⟨y, hy⟩ := Nat.gcd_dvd_right A B
  have cop : Nat.Coprime (A / Nat.gcd A B) (B / Nat.gcd A B) := Nat.coprime_div_gcd_div_gcd g0
  have ey : B / Nat.gcd A B = y := Nat.div_eq_of_eq_mul_right g0 hy
  have ex : A / Nat.gcd A B = x := Nat.div_eq_of_eq_mul_right g0 hx
  rw [ex, ey] at cop
  have e : x * b = y * a := by
    have : Nat.gcd A B * (x * b) = Nat.gcd A B * (y * a) := by rw [← Nat.mul_assoc, ← Nat.mul_assoc, ← hx, ← hy]; exact h
    exact Nat.eq_of_mul_eq_mul_left g0 this
  have d1 : x ∣ a := Nat.Coprime.dvd_of_dvd_mul_left cop ⟨b, e.symm⟩
  have d2 : a ∣ x := Nat.Coprime.dvd_of_dvd_mul_right (show Nat.Coprime a b from hc) ⟨y, by rw [e, Nat.mul_comm]⟩
  have e1 : x = a := Nat.dvd_antisymm d1 d2
  have e2 : y = b := by
    rw [e1, Nat.mul_comm] at e
    exact (Nat.eq_of_mul_eq_mul_right ha e).symm
  unfold low
  rw [ex, ey, e1, e2]
theorem low_ex {A B : Nat} (hA : 0 < A) (hB : 0 < B) : ∃ a b : Nat, low A B = ((a : Int), (b : Int)) ∧ 0 < a ∧ 0 < b ∧ Nat.gcd a b = 1 ∧ A * b = B * a ∧ a ≤ A ∧ b ≤ B := by
  have g0 : 0 < Nat.gcd A B := Nat.gcd_pos_of_pos_left _ hA
  refine ⟨_, _, rfl, Nat.div_pos (Nat.le_of_dvd hA (Nat.gcd_dvd_left A B)) g0, Nat.div_pos (Nat.le_of_dvd hB (Nat.gcd_dvd_right A B)) g0, Nat.coprime_div_gcd_div_gcd g0, ?_, Nat.div_le_self _ _, Nat.div_le_self _ _⟩
  obtain ⟨x, hx⟩ := Nat.gcd_dvd_left A B
  obtain ⟨y, hy⟩ := Nat.gcd_dvd_right A B
  have ey : B / Nat.gcd A B = y := Nat.div_eq_of_eq_mul_right g0 hy
  have ex : A / Nat.gcd A B = x := Nat.div_eq_of_eq_mul_right g0 hx
  rw [ex, ey]
  calc A * y = Nat.gcd A B * x * y := by rw [← hx]
    _ = Nat.gcd A B * y * x := by rw [Nat.mul_assoc, Nat.mul_comm x y, Nat.mul_assoc]
    _ = B * x := by rw [← hy]
/-! ### shares -/
/-- a share: two numbers above 0 in lowest terms -/
structure Sh (k : Nat) (p : Int × Int) : Prop where
  ex : ∃ a b : Nat, p = ((a : Int), (b : Int)) ∧ 0 < a ∧ 0 < b ∧ Nat.gcd a b = 1 ∧ a < 2 ^ k ∧ b < 2 ^ k
theorem Sh.mono {k l : Nat} {p : Int × Int} (h : Sh k p) (hl : k ≤ l) : Sh l p := by
  obtain ⟨a, b, e, h1, h2, h3, h4, h5⟩ := h.ex
  have := Nat.pow_le_pow_right (by omega : 2 > 0) hl
  exact ⟨a, b, e, h1, h2, h3, by omega, by omega⟩
theorem mul_lt_pow {a b k l : Nat} (h : a < 2 ^ k) (h2 : b < 2 ^ l) : a * b < 2 ^ (k + l) := by
  rw [Nat.pow_add]
  exact Nat.mul_lt_mul'' h h2
theorem pow_le {k : Nat} (h : k ≤ 9000) {a : Nat} (ha : a < 2 ^ k) : a < 2 ^ 9000 := Nat.lt_of_lt_of_le ha (Nat.pow_le_pow_right (by omega) h)
theorem ok_congr {α : Type} {p : Out α} {a b : α} (h : p = .ok a) (e : a = b) : p = .ok b := e ▸ h
/-- y is to x as w is to z: what both ways of reckoning tell -/
theorem fourth_both {k l m : Nat} {x y z : Int × Int} (hx : Sh k x) (hy : Sh l y) (hz : Sh m z) (hk : k + l + m ≤ 9000) :
    ∃ w, P.raw_share_fourth x y z = .ok w ∧ P.w_by x y z = .ok w ∧ Sh (k + l + m) w ∧ ∀ a b c d e f g h : Nat, x = ((a : Int), (b : Int)) → y = ((c : Int), (d : Int)) → z = ((e : Int), (f : Int)) → w = ((g : Int), (h : Int)) → c * e * b * h = d * f * a * g := by
  obtain ⟨a, b, rfl, a0, b0, ab, a1, b1⟩ := hx.ex
  obtain ⟨c, d, rfl, c0, d0, cd, c1, d1⟩ := hy.ex
  obtain ⟨e, f, rfl, e0, f0, ef, e1, f1⟩ := hz.ex
  have p1 : c * e < 2 ^ (l + m) := mul_lt_pow c1 e1
  have p2 : c * e * b < 2 ^ (k + l + m) := by have := mul_lt_pow p1 b1; rwa [show l + m + k = k + l + m by omega] at this
  have q1 : d * f < 2 ^ (l + m) := mul_lt_pow d1 f1
  have q2 : d * f * a < 2 ^ (k + l + m) := by have := mul_lt_pow q1 a1; rwa [show l + m + k = k + l + m by omega] at this
  have A0 : 0 < c * e * b := Nat.mul_pos (Nat.mul_pos c0 e0) b0
  have B0 : 0 < d * f * a := Nat.mul_pos (Nat.mul_pos d0 f0) a0
  obtain ⟨g, h, hw, g0, h0, gh, cr, g1, h1⟩ := low_ex A0 B0
  refine ⟨low (c * e * b) (d * f * a), ?_, ?_, ⟨g, h, hw, g0, h0, gh, by omega, by omega⟩, ?_⟩
  · unfold P.raw_share_fourth
    show ((mulR (c : Int) (e : Int)).bind fun v1 => mulR v1 (b : Int)).bind (fun v3 => ((mulR (d : Int) (f : Int)).bind fun v2 => mulR v2 (a : Int)).bind fun v4 => P.made v3 v4) = _
    rw [mulR_big (pow_le (by omega) c1) (pow_le (by omega) e1), Out.ok_bind, mulR_big (pow_le (by omega) p1) (pow_le (by omega) b1), Out.ok_bind, mulR_big (pow_le (by omega) d1) (pow_le (by omega) f1), Out.ok_bind, mulR_big (pow_le (by omega) q1) (pow_le (by omega) a1), Out.ok_bind]
    exact made_ok A0 (pow_le hk p2)
  · unfold P.w_by
    show ((mulR (c : Int) (e : Int)).bind fun v1 => mulR v1 (b : Int)).bind (fun v3 => ((mulR (d : Int) (f : Int)).bind fun v2 => mulR v2 (a : Int)).bind fun v4 => P.w_lowest v3 v4) = _
    rw [mulR_big (pow_le (by omega) c1) (pow_le (by omega) e1), Out.ok_bind, mulR_big (pow_le (by omega) p1) (pow_le (by omega) b1), Out.ok_bind, mulR_big (pow_le (by omega) d1) (pow_le (by omega) f1), Out.ok_bind, mulR_big (pow_le (by omega) q1) (pow_le (by omega) a1), Out.ok_bind]
    exact lowest_ok A0 (pow_le hk p2)
  · intro a' b' c' d' e' f' g' h' r1 r2 r3 r4
    rw [hw] at r4
    simp only [Prod.mk.injEq, Int.natCast_inj] at r1 r2 r3 r4
    obtain ⟨rfl, rfl⟩ := r1
    obtain ⟨rfl, rfl⟩ := r2
    obtain ⟨rfl, rfl⟩ := r3
    obtain ⟨rfl, rfl⟩ := r4
    exact cr
/-- two shares that are as one another are one -/
theorem Sh.eq {k l : Nat} {p q : Int × Int} (hp : Sh k p) (hq : Sh l q) (h : ∀ a b c d : Nat, p = ((a : Int), (b : Int)) → q = ((c : Int), (d : Int)) → a * d = b * c) : p = q := by
  obtain ⟨a, b, rfl, a0, b0, ab, _, _⟩ := hp.ex
  obtain ⟨c, d, rfl, c0, d0, cd, _, _⟩ := hq.ex
  have e1 := low_is a0 b0 a0 b0 ab (Nat.mul_comm a b)
  have e2 := low_is a0 b0 c0 d0 cd (h a b c d rfl rfl)
  exact e1.symm.trans e2
theorem share_ok {k : Nat} {p : Int × Int} (h : Sh k p) : P.is_share (c2 cI cI p) = .ok true := by
  obtain ⟨a, b, rfl, a0, b0, ab, _, _⟩ := h.ex
  have e0 : P.is_tuple (c2 cI cI ((a : Int), (b : Int))) 2 2 = .ok true := by simp [P.is_tuple]
  have e1 : ixD (c2 cI cI ((a : Int), (b : Int))) 0 = .ok (cI a) := rfl
  have e2 : ixD (c2 cI cI ((a : Int), (b : Int))) 1 = .ok (cI b) := rfl
  have e3 : ∀ i : Int, P.is_integer (cI i) = .ok true := fun i => by simp [P.is_integer]
  unfold P.is_share
  simp only [e0, e1, e2, e3, Out.ok_bind, Bool.not_true, Bool.false_eq_true, if_false, opD_gtI]
  rw [if_pos (by simp; omega), if_pos (by simp; omega)]
  simp [divisor_ok, ab]
theorem check_ok {xs : List D} (h : ∀ x ∈ xs, P.is_share x = .ok true) : P.check_shares xs = .ok () := by
  refine Sat.is ?_
  unfold P.check_shares
  refine Sat.bind (fun _ => True) (Sat.forS (fun _ _ => True) trivial ?_ fun _ _ => trivial) (by simp)
  intro i x s hx _
  rw [h x (List.mem_of_getElem? hx)]
  simp
theorem check_no {xs ys : List D} {x : D} (h : ∀ x ∈ xs, P.is_share x = .ok true) (hx : P.is_share x = .ok false) : P.check_shares (xs ++ x :: ys) = .exc "NoShare" := by
  have key : ∀ xs : List D, (∀ x ∈ xs, P.is_share x = .ok true) → forS (fun (share : D) (_ : Unit) => ((P.is_share share).bind fun v1 => Out.ok ((!v1))).bind fun v2 => if v2 = true then Out.exc "NoShare" else Out.ok ()) (xs ++ x :: ys) () = .exc "NoShare" := by
    intro xs
    induction xs with
    | nil => intro _; simp only [List.nil_append, TL.forS, hx, Out.ok_bind, Bool.not_false, if_true]; rfl
    | cons y xs ih =>
      intro h
      simp only [List.cons_append, TL.forS, h y (by simp), Out.ok_bind, Bool.not_true, Bool.false_eq_true, if_false]
      exact ih fun z hz => h z (List.mem_cons_of_mem _ hz)
  unfold P.check_shares
  rw [key xs h]
  rfl
theorem as_sh (p : Int × Int) : (as2 asI asI) (c2 cI cI p) = .ok p := rfl
theorem sf_ok {k l m : Nat} {x y z w : Int × Int} (hx : Sh k x) (hy : Sh l y) (hz : Sh m z) (h : P.raw_share_fourth x y z = .ok w) : P.share_fourth (c2 cI cI x) (c2 cI cI y) (c2 cI cI z) = .ok w := by
  unfold P.share_fourth
  rw [check_ok (by simp [share_ok hx, share_ok hy, share_ok hz]), Out.ok_bind, as_sh, Out.ok_bind, as_sh, Out.ok_bind, as_sh, Out.ok_bind]
  exact h
theorem below {k : Nat} {a : Int} (h : 0 ≤ a) (h2 : a < 10 ^ k) (hk : k ≤ 9) : ∃ n : Nat, 1 + a = (n : Int) ∧ 0 < n ∧ n < 2 ^ 30 := by
  have : (10 : Int) ^ k ≤ 10 ^ 9 := by exact_mod_cast Nat.pow_le_pow_right (by omega : 10 > 0) hk
  have e : (10 : Int) ^ 9 = 1000000000 := by decide
  rw [e] at this
  exact ⟨(1 + a).toNat, by omega, by omega, by show (1 + a).toNat < 1073741824; omega⟩
theorem w_share_ok {digits : Int} (h : 0 < digits) (h2 : digits ≤ 9) : SatM Deck (P.w_share digits) (Sh 30) := by
  intro s hs
  unfold P.w_share
  refine Sat.bind (fun p => Sh 30 p.1 ∧ Deck p.2) ?_ fun ⟨v, d⟩ h => by rw [Sat_ok]; exact h
  refine SatM.ap (Sh 30) hs ?_ fun a s h1 h2 => ⟨h1, h2⟩
  refine SatM.bd (fun v => ∃ n : Nat, v = (n : Int) ∧ 0 < n ∧ n < 2 ^ 30) ?_ fun a ⟨m, hm, m0, m1⟩ => ?_
  · exact SatM.bd _ (SatM.nx (great_ok h (by omega))) fun v hv => SatM.rt (below hv.1 hv.2 (by omega))
  refine SatM.bd (fun v => ∃ n : Nat, v = (n : Int) ∧ 0 < n ∧ n < 2 ^ 30) ?_ fun a ⟨n, hn, n0, n1⟩ => ?_
  · exact SatM.bd _ (SatM.nx (great_ok h (by omega))) fun v hv => SatM.rt (below hv.1 hv.2 (by omega))
  subst hm; subst hn
  refine SatM.up ⟨_, lowest_ok m0 (pow_le (by omega) m1), ?_⟩
  obtain ⟨a, b, e, a0, b0, ab, _, a1, b1⟩ := low_ex m0 n0
  exact ⟨a, b, e, a0, b0, ab, by omega, by omega⟩
theorem within30 (i lo hi : Int) (h1 : lo ≤ i) (h2 : i ≤ hi) : P.is_within (cI i) lo hi = .ok true := by
  simp [P.is_within, P.is_integer, h1, h2]
/-! ### chains -/
/-- the chain's words, by the law's own way -/
noncomputable def links (x y : Int × Int) : Nat → Int × Int
  | 0 => y
  | n + 1 => match P.w_by x y (links x y n) with
    | .ok w => w
    | _ => (0, 0)
theorem links_ok {x y : Int × Int} (hx : Sh 30 x) (hy : Sh 30 y) : ∀ n : Nat, n ≤ 40 → Sh (30 + 60 * n) (links x y n) ∧ (∀ m, m + 1 = n → P.raw_share_fourth x y (links x y m) = .ok (links x y n) ∧ P.w_by x y (links x y m) = .ok (links x y n))
  | 0, _ => ⟨hy, fun m h => by omega⟩
  | n + 1, h => by
    obtain ⟨h1, _⟩ := links_ok hx hy n (by omega)
    obtain ⟨w, r1, r2, r3, _⟩ := fourth_both hx hy h1 (by omega)
    have e : links x y (n + 1) = w := by rw [links, r2]
    rw [e]
    exact ⟨r3.mono (by omega), fun m hm => by cases hm; exact ⟨r1, r2⟩⟩
noncomputable def chainOf (x y : Int × Int) (n : Nat) : List (Int × Int) := x :: (List.range n).map (links x y)
theorem chain_step (x y : Int × Int) (i : Nat) : atR (chainOf x y (i + 1)) (-1) = .ok (links x y i) := by
  rw [atR_last (by simp [chainOf])]
  congr 1
  simp [chainOf]
theorem chain_app (x y : Int × Int) (i : Nat) (h : i ≤ 100) : appR (chainOf x y (i + 1)) (links x y (i + 1)) = .ok (chainOf x y (i + 2)) := by
  rw [appR_ok (by simp [chainOf]; omega)]
  congr 1
  simp [chainOf, List.range_succ]
theorem w_chain_ok {x y : Int × Int} (hx : Sh 30 x) (hy : Sh 30 y) (n : Nat) (h : n + 1 ≤ 40) : P.w_chain x y ((n + 2 : Nat) : Int) = .ok (chainOf x y (n + 1)) := by
  refine Sat.is ?_
  unfold P.w_chain
  rw [Out.ok_bind, show ((n + 2 : Nat) : Int) - 2 = (n : Int) by omega, rng1_ok (by omega), Out.ok_bind]
  refine Sat.bind (fun s => s = chainOf x y (n + 1)) ?_ fun s hs => by rw [Sat_ok]; exact hs
  refine Sat.rngS (fun i s => s = chainOf x y (i + 1)) (n := n) rfl rfl ?_ fun s hs => hs
  rintro i _ hi rfl
  rw [chain_step, Out.ok_bind, ((links_ok hx hy (i + 1) (by omega)).2 i rfl).2, Out.ok_bind, chain_app _ _ _ (by omega), Out.ok_bind, Sat_ok]
theorem share_chain_ok {x y : Int × Int} (hx : Sh 30 x) (hy : Sh 30 y) (n : Nat) (h : n + 1 ≤ 39) : P.share_chain (c2 cI cI x) (c2 cI cI y) (cI ((n + 2 : Nat) : Int)) = .ok (chainOf x y (n + 1)) := by
  refine Sat.is ?_
  unfold P.share_chain
  rw [check_ok (by simp [share_ok hx, share_ok hy]), Out.ok_bind, within30 _ _ _ (by omega) (by omega), Out.ok_bind, Out.ok_bind]
  simp only [Bool.not_true, Bool.false_eq_true, if_false, as_sh, Out.ok_bind, asI_c]
  rw [show ((n + 2 : Nat) : Int) - 2 = (n : Int) by omega, rng1_ok (by omega), Out.ok_bind]
  refine Sat.bind (fun s => s = chainOf x y (n + 1)) ?_ fun s hs => by rw [Sat_ok]; exact hs
  refine Sat.rngS (fun i s => s = chainOf x y (i + 1)) (n := n) rfl rfl ?_ fun s hs => hs
  rintro i _ hi rfl
  rw [chain_step, Out.ok_bind, ((links_ok hx hy (i + 1) (by omega)).2 i rfl).1, Out.ok_bind, chain_app _ _ _ (by omega), Out.ok_bind, Sat_ok]
/-! ### refusals -/
theorem int_c (i : Int) : P.is_integer (cI i) = .ok true := by simp [P.is_integer]
theorem sum_ok (x y z : Int) : P.sum_fourth (cI x) (cI y) (cI z) = .ok (y + z - x) := by
  unfold P.sum_fourth
  simp [TL.forS, int_c]
theorem sum_no {a b c : D} (h : (P.is_integer a = .ok false) ∨ (P.is_integer a = .ok true ∧ P.is_integer b = .ok false) ∨ (P.is_integer a = .ok true ∧ P.is_integer b = .ok true ∧ P.is_integer c = .ok false)) : P.sum_fourth a b c = .exc "NoInteger" := by
  unfold P.sum_fourth
  rcases h with h | ⟨h, h2⟩ | ⟨h, h2, h3⟩
  · simp [TL.forS, h]
  · simp [TL.forS, h, h2]
  · simp [TL.forS, h, h2, h3]
theorem ref0 {a b c : D} (h : P.sum_fourth a b c = .exc "NoInteger") : P.w_refused 0 a b c = .ok [105, 110, 116, 101, 103, 101, 114] := by
  unfold P.w_refused
  simp [h, tryR, goH]
theorem ref1 {a b c : D} (h : P.share_fourth a b c = .exc "NoShare") : P.w_refused 1 a b c = .ok [115, 104, 97, 114, 101] := by
  unfold P.w_refused
  simp [h, tryR, goH]
  decide
theorem ref2 {a b c : D} (h : P.share_chain a b c = .exc "NoShare") : P.w_refused 2 a b c = .ok [115, 104, 97, 114, 101] := by
  unfold P.w_refused
  simp [h, tryR, goH]
  decide
theorem ref2n {a b c : D} (h : P.share_chain a b c = .exc "NoNumber") : P.w_refused 2 a b c = .ok [110, 117, 109, 98, 101, 114] := by
  unfold P.w_refused
  simp [h, tryR, goH]
  rw [if_neg (by decide), if_neg (by decide)]
theorem sf_no {a b c : D} {xs ys : List D} {x : D} (e : [a, b, c] = xs ++ x :: ys) (h : ∀ x ∈ xs, P.is_share x = .ok true) (hx : P.is_share x = .ok false) : P.share_fourth a b c = .exc "NoShare" := by
  unfold P.share_fourth
  rw [e, check_no h hx]; rfl
theorem sc_no {a b c : D} {xs ys : List D} {x : D} (e : [a, b] = xs ++ x :: ys) (h : ∀ x ∈ xs, P.is_share x = .ok true) (hx : P.is_share x = .ok false) : P.share_chain a b c = .exc "NoShare" := by
  unfold P.share_chain
  rw [e, check_no h hx]; rfl
theorem sc_nn {x y : Int × Int} (hx : Sh 30 x) (hy : Sh 30 y) {c : D} (h : P.is_within c 2 40 = .ok false) : P.share_chain (c2 cI cI x) (c2 cI cI y) c = .exc "NoNumber" := by
  unfold P.share_chain
  rw [check_ok (by simp [share_ok hx, share_ok hy]), Out.ok_bind, h]; rfl
theorem wrong_int {w : D} (h : w ∈ ([(cB true), (cS ([49] : List Nat)), (cN ()), ((c2 cI cI) ((1 : Int), (1 : Int)))] : List D)) : P.is_integer w = .ok false := by
  simp only [List.mem_cons, List.not_mem_nil, or_false] at h
  have e : isD "int" (c2 cI cI ((1 : Int), (1 : Int))) = .ok false := rfl
  rcases h with rfl | rfl | rfl | rfl <;> simp [P.is_integer, e]
theorem sh_pair (a b : Int) (h : 0 < a ∧ 0 < b → P.divisor a b = .ok 2) : P.is_share (c2 cI cI (a, b)) = .ok false := by
  have e0 : P.is_tuple (c2 cI cI (a, b)) 2 2 = .ok true := by simp [P.is_tuple]
  have e1 : ixD (c2 cI cI (a, b)) 0 = .ok (cI a) := rfl
  have e2 : ixD (c2 cI cI (a, b)) 1 = .ok (cI b) := rfl
  unfold P.is_share
  simp only [e0, e1, e2, int_c, Out.ok_bind, Bool.not_true, Bool.false_eq_true, if_false, opD_gtI]
  by_cases ha : 0 < a
  · by_cases hb : 0 < b
    · simp [ha, hb, h ⟨ha, hb⟩]
    · simp [ha, hb]
  · simp [ha]
theorem sh_none {d : D} (h : P.is_tuple d 2 2 = .ok false) : P.is_share d = .ok false := by
  unfold P.is_share
  simp [h]
theorem wrong_sh {w : D} (h : w ∈ ([((c2 cI cI) ((2 : Int), (4 : Int))), ((c2 cI cI) ((0 : Int), (1 : Int))), ((c2 cI cI) (((0 : Int) - (1 : Int)), (2 : Int))), ((cL cI) ([(1 : Int), (2 : Int)] : List Int)), ((c2 cI cI) ((1 : Int), (0 : Int))), ((c2 cI cB) ((1 : Int), true)), ((c1 cI) ((1 : Int))), (cN ()), (cI (1 : Int))] : List D)) : P.is_share w = .ok false := by
  simp only [List.mem_cons, List.not_mem_nil, or_false] at h
  rcases h with rfl | rfl | rfl | rfl | rfl | rfl | rfl | rfl | rfl
  · exact sh_pair 2 4 fun _ => divisor_ok 2 4
  · exact sh_pair 0 1 fun h => absurd h.1 (by decide)
  · exact sh_pair _ 2 fun h => absurd h.1 (by decide)
  · exact sh_none (by simp [P.is_tuple])
  · exact sh_pair 1 0 fun h => absurd h.2 (by decide)
  · have e0 : P.is_tuple (c2 cI cB ((1 : Int), true)) 2 2 = .ok true := by simp [P.is_tuple]
    have e1 : ixD (c2 cI cB ((1 : Int), true)) 0 = .ok (cI 1) := rfl
    have e2 : ixD (c2 cI cB ((1 : Int), true)) 1 = .ok (cB true) := rfl
    have e3 : P.is_integer (cB true) = .ok false := by simp [P.is_integer]
    unfold P.is_share
    simp [e0, e1, e2, e3, int_c]
  · exact sh_none (by simp [P.is_tuple])
  · exact sh_none (by simp [P.is_tuple])
  · exact sh_none (by simp [P.is_tuple])
theorem wrong_n {w : D} (h : w ∈ ([(cI (1 : Int)), (cI (41 : Int)), (cI (0 : Int)), (cB true), (cN ()), (cS ([50] : List Nat))] : List D)) : P.is_within w 2 40 = .ok false := by
  simp only [List.mem_cons, List.not_mem_nil, or_false] at h
  rcases h with rfl | rfl | rfl | rfl | rfl | rfl <;> simp [P.is_within, P.is_integer]
theorem fourth_eq {k l m r : Nat} {x y z w v : Int × Int} (hx : Sh k x) (hy : Sh l y) (hz : Sh m z) (hv : Sh r v) (hk : k + l + m ≤ 9000) (h : P.raw_share_fourth x y z = .ok w)
    (hc : ∀ a b c d e f g h : Nat, x = ((a : Int), (b : Int)) → y = ((c : Int), (d : Int)) → z = ((e : Int), (f : Int)) → v = ((g : Int), (h : Int)) → c * e * b * h = d * f * a * g) : w = v := by
  obtain ⟨w', r1, _, r3, r4⟩ := fourth_both hx hy hz hk
  rw [h] at r1
  cases r1
  refine r3.eq hv fun p q s t hp hq => ?_
  obtain ⟨a, b, rfl, a0, b0, _, _, _⟩ := hx.ex
  obtain ⟨c, d, rfl, c0, d0, _, _, _⟩ := hy.ex
  obtain ⟨e, f, rfl, e0, f0, _, _, _⟩ := hz.ex
  have e1 := r4 a b c d e f p q rfl rfl rfl hp
  have e2 := hc a b c d e f s t rfl rfl rfl hq
  -- X q = Y p, X t = Y s
  have X0 : 0 < c * e * b := Nat.mul_pos (Nat.mul_pos c0 e0) b0
  have Y0 : 0 < d * f * a := Nat.mul_pos (Nat.mul_pos d0 f0) a0
  generalize c * e * b = X at *
  generalize d * f * a = Y at *
  have : X * Y * (p * t) = X * Y * (q * s) := by
    calc X * Y * (p * t) = (Y * p) * (X * t) := by ac_rfl
      _ = (X * q) * (Y * s) := by rw [← e1, e2]
      _ = X * Y * (q * s) := by ac_rfl
  exact Nat.eq_of_mul_eq_mul_left (Nat.mul_pos X0 Y0) this
theorem law30 (ns : List Int) (hn : ns.length ≤ 63) : P.law_3 ns = .ok true := by
  refine Sat.is ?_
  unfold P.law_3
  refine Sat.bind _ (deck_ok hn) fun d0 h0 => ?_
  rw [Out.ok_bind]
  refine Sat.bind (fun p : Dck × List Int => Deck p.1 ∧ ∃ x y z, p.2 = [x, y, z]) ?_ ?_
  · rw [rng1_ok (by omega), Out.ok_bind]
    refine Sat.rngS (fun i p => Deck p.1 ∧ p.2.length = i) (n := 3) rfl ⟨h0, rfl⟩ ?_ ?_
    · rintro i ⟨d, w⟩ hi ⟨hd, hw⟩
      simp only at hd hw
      refine Sat.bind (fun p => p.1.length = i + 1 ∧ Deck p.2) ?_ fun ⟨w', d'⟩ h => by rw [Sat_ok]; exact ⟨h.2, h.1⟩
      refine Sat.bind (fun p : Int × Dck => Deck p.2) ?_ fun ⟨v, d'⟩ h => ?_
      · refine SatM.ap (fun _ => True) hd ?_ fun a s _ h => h
        refine SatM.bd _ (SatM.nx (great_ok (by omega) (by omega))) fun v hv => ?_
        refine SatM.bd (fun u => u = 1 ∨ u = -1) (SatM.bd _ (SatM.nx (draw_ok (by omega) (by omega))) fun u hu => ?_) fun u hu => ?_
        · obtain ⟨a, ha, e⟩ := atR_ex (xs := [(1 : Int), 0 - 1]) hu.1 hu.2
          rw [e]
          exact SatM.rt (by simpa using ha)
        · rw [mulR_okr (by omega)]
          exact SatM.rt trivial
      · show Sat ((appR w v).bind fun r => Out.ok (r, d')) _
        rw [appR_ok (by omega), Out.ok_bind, Sat_ok]
        exact ⟨by simp [hw], h⟩
    · rintro ⟨d, w⟩ ⟨hd, hw⟩
      refine ⟨hd, ?_⟩
      simp only at hw
      match w, hw with
      | [x, y, z], _ => exact ⟨x, y, z, rfl⟩
  rintro ⟨d1, _⟩ ⟨h1, x, y, z, hw⟩
  simp only at h1 hw
  subst hw
  show Sat ((Out.ok (x, y, z)).bind _) _
  rw [Out.ok_bind]
  show Sat ((Out.ok ((y + z) - x)).bind _) _
  rw [Out.ok_bind]
  refine Sat.guard (by
    rw [sum_ok, sum_ok]
    have e : isD "bool" (cI (y + z - x)) = .ok false := rfl
    simp [e]
    omega) ?_
  refine Sat.guard (by
    rw [sum_ok, sum_ok]
    simp
    rw [if_pos (by omega)]
    simp
    omega) ?_
  refine Sat.bind (fun p : List (Int × Int) × Dck => (∃ x y z, p.1 = [x, y, z] ∧ Sh 30 x ∧ Sh 30 y ∧ Sh 30 z) ∧ Deck p.2) ?_ ?_
  · refine SatM.ap (fun r => ∃ x y z, r = [x, y, z] ∧ Sh 30 x ∧ Sh 30 y ∧ Sh 30 z) h1 ?_ fun a s h1 h2 => ⟨h1, h2⟩
    refine SatM.bd _ (SatM.nx (w_share_ok (by omega) (by omega))) fun a ha => SatM.bd _ (SatM.nx (w_share_ok (by omega) (by omega))) fun b hb => SatM.bd _ (SatM.nx (w_share_ok (by omega) (by omega))) fun c hc => SatM.rt ⟨a, b, c, rfl, ha, hb, hc⟩
  rintro ⟨_, d2⟩ ⟨⟨one, other, third, hs, s1, s2, s3⟩, h2⟩
  simp only at hs h2
  subst hs
  show Sat ((Out.ok (one, other, third)).bind _) _
  rw [Out.ok_bind]
  obtain ⟨due, r1, r2, r3, r4⟩ := fourth_both s1 s2 s3 (by omega)
  show Sat ((P.w_by one other third).bind _) _
  rw [r2, Out.ok_bind]
  obtain ⟨due', q1, _, q3, q4⟩ := fourth_both s1 s3 s2 (by omega)
  have e1 : due' = due := fourth_eq s1 s3 s2 r3 (by omega) q1 fun a b c d e f g h z1 z2 z3 z4 => by
    have := r4 a b e f c d g h z1 z3 z2 z4
    rw [Nat.mul_comm c e, Nat.mul_comm d f]; exact this
  subst e1
  refine Sat.guard (by
    rw [sf_ok s1 s2 s3 r1, sf_ok s1 s3 s2 q1]
    simp) ?_
  obtain ⟨v, v1, _, _, _⟩ := fourth_both r3 s2 s3 (by omega)
  have ev : v = one := fourth_eq r3 s2 s3 s1 (by omega) v1 fun a b c d e f g h z1 z2 z3 z4 => by
    have := r4 g h c d e f a b z4 z2 z3 z1
    calc c * e * b * h = c * e * h * b := by ac_rfl
      _ = d * f * g * a := this
      _ = d * f * a * g := by ac_rfl
  obtain ⟨u, u1, _, _, _⟩ := fourth_both s2 s1 r3 (by omega)
  have eu : u = third := fourth_eq s2 s1 r3 s3 (by omega) u1 fun a b c d e f g h z1 z2 z3 z4 => by
    have := r4 c d a b g h e f z2 z1 z4 z3
    calc c * e * b * h = b * h * c * e := by ac_rfl
      _ = a * g * d * f := this.symm
      _ = d * f * a * g := by ac_rfl
  subst ev; subst eu
  refine Sat.guard (by
    rw [sf_ok r3 s2 s3 v1, sf_ok s2 s1 r3 u1]
    simp) ?_
  refine Sat.bind (fun p : Int × Dck => (∃ n : Nat, p.1 = ((n + 2 : Nat) : Int) ∧ n ≤ 10) ∧ Deck p.2) ?_ ?_
  · refine SatM.ap (fun r => ∃ n : Nat, r = ((n + 2 : Nat) : Int) ∧ n ≤ 10) h2 ?_ fun a s h1 h2 => ⟨h1, h2⟩
    exact SatM.bd _ (SatM.nx (draw_ok (by omega) (by omega))) fun a ha => SatM.rt ⟨a.toNat, by omega, by omega⟩
  rintro ⟨_, d3⟩ ⟨⟨n, hn1, hn2⟩, h3⟩
  simp only at hn1 h3
  subst hn1
  refine Sat.guard (by
    rw [share_chain_ok s1 s2 n (by omega), w_chain_ok s1 s2 n (by omega)]
    simp) ?_
  refine Sat.bind (fun p : List (Int × Int) × Dck => (∃ x y, p.1 = [x, y] ∧ Sh 30 x ∧ Sh 30 y) ∧ Deck p.2) ?_ ?_
  · refine SatM.ap (fun r => ∃ x y, r = [x, y] ∧ Sh 30 x ∧ Sh 30 y) h3 ?_ fun a s h1 h2 => ⟨h1, h2⟩
    refine SatM.bd _ (SatM.nx (w_share_ok (by omega) (by omega))) fun a ha => SatM.bd _ (SatM.nx (w_share_ok (by omega) (by omega))) fun b hb => SatM.rt ⟨a, b, rfl, ha, hb⟩
  rintro ⟨_, d4⟩ ⟨⟨l0, l1, hs, t1, t2⟩, h4⟩
  simp only at hs h4
  subst hs
  refine Sat.bind (fun p : Int × Dck => (∃ n : Nat, p.1 = ((n + 2 : Nat) : Int) ∧ n ≤ 38) ∧ Deck p.2) ?_ ?_
  · refine SatM.ap (fun r => ∃ n : Nat, r = ((n + 2 : Nat) : Int) ∧ n ≤ 38) h4 ?_ fun a s h1 h2 => ⟨h1, h2⟩
    exact SatM.bd _ (SatM.nx (draw_ok (by omega) (by omega))) fun a ha => SatM.rt ⟨a.toNat, by omega, by omega⟩
  rintro ⟨_, d5⟩ ⟨⟨m, hm1, hm2⟩, h5⟩
  simp only at hm1 h5
  subst hm1
  have a0 : atR [l0, l1] (0 : Int) = .ok l0 := atR_0 l0 [l1]
  have a1 : atR [l0, l1] (1 : Int) = .ok l1 := by simp
  simp only [a0, a1, Out.ok_bind]
  rw [share_chain_ok t1 t2 m (by omega), Out.ok_bind]
  refine Sat.guard (by
    rw [w_chain_ok t1 t2 m (by omega)]
    simp) ?_
  rw [rng2_ok (by omega), Out.ok_bind]
  refine law_loop ?_ ?_
  · intro at_ hat
    obtain ⟨w1, w2⟩ := rng_mem.mp hat
    obtain ⟨i, rfl⟩ : ∃ i : Nat, at_ = ((i + 2 : Nat) : Int) := ⟨(at_ - 2).toNat, by omega⟩
    have g1 : atR (chainOf l0 l1 (m + 1)) (((i + 2 : Nat) : Int) - 1) = .ok (links l0 l1 i) := by
      rw [show ((i + 2 : Nat) : Int) - 1 = ((i + 1 : Nat) : Int) by omega, atR_nat]
      simp only [chainOf, List.getElem?_cons_succ, List.getElem?_map]
      rw [List.getElem?_eq_getElem (by simp; omega)]
      simp
    have g2 : atR (chainOf l0 l1 (m + 1)) ((i + 2 : Nat) : Int) = .ok (links l0 l1 (i + 1)) := by
      rw [atR_nat]
      simp only [chainOf, List.getElem?_cons_succ, List.getElem?_map]
      rw [List.getElem?_eq_getElem (by simp; omega)]
      simp
    rw [g1, Out.ok_bind, Out.ok_bind, sf_ok t1 t2 (links_ok t1 t2 i (by omega)).1 ((links_ok t1 t2 (i + 1) (by omega)).2 i rfl).1, Out.ok_bind, g2, Out.ok_bind, Out.ok_bind]
    simp
  refine law_loop ?_ ?_
  · intro w hw
    have hi := wrong_int hw
    rw [ref0 (sum_no (.inl hi)), ref0 (sum_no (.inr (.inl ⟨int_c x, hi⟩))), ref0 (sum_no (.inr (.inr ⟨int_c x, int_c y, hi⟩)))]
    simp
  have k1 := share_ok s1
  have k2 := share_ok s2
  refine law_loop ?_ ?_
  · intro w hw
    have hi := wrong_sh hw
    rw [ref1 (sf_no (xs := []) rfl (by simp) hi), ref1 (sf_no (xs := [c2 cI cI v]) rfl (by simp [k1]) hi), ref1 (sf_no (xs := [c2 cI cI v, c2 cI cI other]) rfl (by simp [k1, k2]) hi), ref2 (sc_no (xs := []) rfl (by simp) hi), ref2 (sc_no (xs := [c2 cI cI v]) rfl (by simp [k1]) hi)]
    simp
  · rw [lcR_ok (fun _ => false) (fun w => w) (by simp) (fun w hw => by
      rw [ref2n (sc_nn s1 s2 (wrong_n hw))]
      simp) (fun w hw h => by cases h)]
    simp
end TL

namespace W_k30
open PySem PySem.Spec PyProof.Rows L2 FL
def topS (i : Nat) : Stmt := PySem.Challenge.pw_fourthword_k30_whole_sums_and_shares.main.body.getD i (.Pass ⟨0, 0, 0, 0⟩)
abbrev s_is_integer : Stmt := topS 6
abbrev N_is_integer : List Str := ["thing"]
theorem sc_is_integer : FnScope N_is_integer ["thing"] (defScope s_is_integer) := ⟨rfl, rfl, rfl, by decide +kernel, rfl, by decide +kernel, by decide +kernel⟩
abbrev s_is_within : Stmt := topS 7
abbrev N_is_within : List Str := ["thing", "low", "high"]
theorem sc_is_within : FnScope N_is_within ["thing", "low", "high"] (defScope s_is_within) := ⟨rfl, rfl, rfl, by decide +kernel, rfl, by decide +kernel, by decide +kernel⟩
abbrev s_is_tuple : Stmt := topS 8
abbrev N_is_tuple : List Str := ["thing", "least", "most"]
theorem sc_is_tuple : FnScope N_is_tuple ["thing", "least", "most"] (defScope s_is_tuple) := ⟨rfl, rfl, rfl, by decide +kernel, rfl, by decide +kernel, by decide +kernel⟩
abbrev s_divisor : Stmt := topS 11
abbrev N_divisor : List Str := ["one", "other"]
theorem sc_divisor : FnScope N_divisor ["one", "other"] (defScope s_divisor) := ⟨rfl, rfl, rfl, by decide +kernel, rfl, by decide +kernel, by decide +kernel⟩
abbrev s_made : Stmt := topS 12
abbrev N_made : List Str := ["top", "bottom", "by"]
theorem sc_made : FnScope N_made ["top", "bottom"] (defScope s_made) := ⟨rfl, rfl, rfl, by decide +kernel, rfl, by decide +kernel, by decide +kernel⟩
abbrev s_sum_fourth : Stmt := topS 13
abbrev N_sum_fourth : List Str := ["x", "y", "z", "one"]
theorem sc_sum_fourth : FnScope N_sum_fourth ["x", "y", "z"] (defScope s_sum_fourth) := ⟨rfl, rfl, rfl, by decide +kernel, rfl, by decide +kernel, by decide +kernel⟩
abbrev s_is_share : Stmt := topS 14
abbrev N_is_share : List Str := ["thing"]
theorem sc_is_share : FnScope N_is_share ["thing"] (defScope s_is_share) := ⟨rfl, rfl, rfl, by decide +kernel, rfl, by decide +kernel, by decide +kernel⟩
abbrev s_check_shares : Stmt := topS 15
abbrev N_check_shares : List Str := ["shares", "share"]
theorem sc_check_shares : FnScope N_check_shares ["shares"] (defScope s_check_shares) := ⟨rfl, rfl, rfl, by decide +kernel, rfl, by decide +kernel, by decide +kernel⟩
abbrev s_raw_share_fourth : Stmt := topS 16
abbrev N_raw_share_fourth : List Str := ["x", "y", "z"]
theorem sc_raw_share_fourth : FnScope N_raw_share_fourth ["x", "y", "z"] (defScope s_raw_share_fourth) := ⟨rfl, rfl, rfl, by decide +kernel, rfl, by decide +kernel, by decide +kernel⟩
abbrev s_share_fourth : Stmt := topS 17
abbrev N_share_fourth : List Str := ["x", "y", "z"]
theorem sc_share_fourth : FnScope N_share_fourth ["x", "y", "z"] (defScope s_share_fourth) := ⟨rfl, rfl, rfl, by decide +kernel, rfl, by decide +kernel, by decide +kernel⟩
abbrev s_share_chain : Stmt := topS 18
abbrev N_share_chain : List Str := ["x", "y", "n", "found", "turn"]
theorem sc_share_chain : FnScope N_share_chain ["x", "y", "n"] (defScope s_share_chain) := ⟨rfl, rfl, rfl, by decide +kernel, rfl, by decide +kernel, by decide +kernel⟩
abbrev s__law_deck : Stmt := topS 20
abbrev N__law_deck : List Str := ["script", "cell"]
theorem sc__law_deck : FnScope N__law_deck ["script"] (defScope s__law_deck) := ⟨rfl, rfl, rfl, by decide +kernel, rfl, by decide +kernel, by decide +kernel⟩
abbrev s__law_mixed : Stmt := topS 21
abbrev N__law_mixed : List Str := ["number", "k", "one"]
theorem sc__law_mixed : FnScope N__law_mixed ["number", "k"] (defScope s__law_mixed) := ⟨rfl, rfl, rfl, by decide +kernel, rfl, by decide +kernel, by decide +kernel⟩
abbrev s__law_draw : Stmt := topS 22
abbrev N__law_draw : List Str := ["deck", "many", "cell", "digit"]
theorem sc__law_draw : FnScope N__law_draw ["deck", "many"] (defScope s__law_draw) := ⟨rfl, rfl, rfl, by decide +kernel, rfl, by decide +kernel, by decide +kernel⟩
abbrev s__law_great : Stmt := topS 23
abbrev N__law_great : List Str := ["deck", "digits", "found", "_"]
theorem sc__law_great : FnScope N__law_great ["deck", "digits"] (defScope s__law_great) := ⟨rfl, rfl, rfl, by decide +kernel, rfl, by decide +kernel, by decide +kernel⟩
abbrev s__law_lowest : Stmt := topS 24
abbrev N__law_lowest : List Str := ["top", "bottom", "one", "other", "rest"]
theorem sc__law_lowest : FnScope N__law_lowest ["top", "bottom"] (defScope s__law_lowest) := ⟨rfl, rfl, rfl, by decide +kernel, rfl, by decide +kernel, by decide +kernel⟩
abbrev s__law_share : Stmt := topS 25
abbrev N__law_share : List Str := ["deck", "digits"]
theorem sc__law_share : FnScope N__law_share ["deck", "digits"] (defScope s__law_share) := ⟨rfl, rfl, rfl, by decide +kernel, rfl, by decide +kernel, by decide +kernel⟩
abbrev s__law_by : Stmt := topS 26
abbrev N__law_by : List Str := ["x", "y", "z"]
theorem sc__law_by : FnScope N__law_by ["x", "y", "z"] (defScope s__law_by) := ⟨rfl, rfl, rfl, by decide +kernel, rfl, by decide +kernel, by decide +kernel⟩
abbrev s__law_refused : Stmt := topS 27
abbrev N__law_refused : List Str := ["number", "one", "other", "third", "told"]
theorem sc__law_refused : FnScope N__law_refused ["number", "one", "other", "third"] (defScope s__law_refused) := ⟨rfl, rfl, rfl, by decide +kernel, rfl, by decide +kernel, by decide +kernel⟩
abbrev s__law_chain : Stmt := topS 28
abbrev N__law_chain : List Str := ["x", "y", "n", "found", "_"]
theorem sc__law_chain : FnScope N__law_chain ["x", "y", "n"] (defScope s__law_chain) := ⟨rfl, rfl, rfl, by decide +kernel, rfl, by decide +kernel, by decide +kernel⟩
abbrev s_law : Stmt := topS 29
abbrev N_law : List Str := ["script", "deck", "whole", "_", "x", "y", "z", "fourth", "shares", "one", "other", "third", "due", "n", "low", "chain", "at", "wrong"]
theorem sc_law : FnScope N_law ["script"] (defScope s_law) := ⟨rfl, rfl, rfl, by decide +kernel, rfl, by decide +kernel, by decide +kernel⟩
def c_MOST_CHAIN : D := (.int 40)
def xs_all : List Str := ["NoInteger", "NoNumber", "NoShare"]
def cs_NoInteger : List Str := ["NoInteger"]
def cs_NoNumber : List Str := ["NoNumber"]
def cs_NoShare : List Str := ["NoShare"]
noncomputable def b_is_integer : Env' → Res Fl := sRet (nOf (eAnd (eB D.isinst (aCons (eVar 0) (aCons (eC (.ty "int")) (aNil)))) (eNot (eB D.isinst (aCons (eVar 0) (aCons (eC (.ty "bool")) (aNil)))))))
noncomputable def m_is_integer : List D → Out D := mirP 1 1 b_is_integer
noncomputable def b_is_within : Env' → Res Fl := sRet (nOf (eAnd (eCall m_is_integer (aConsE (eVar 0) (aNil))) (eChain D.le D.le (eVar 1) (eVar 0) (eVar 2))))
noncomputable def m_is_within : List D → Out D := mirP 3 3 b_is_within
noncomputable def b_is_tuple : Env' → Res Fl := sRet (nOf (eAnd (eB D.isinst (aCons (eVar 0) (aCons (eC (.ty "tuple")) (aNil)))) (eChain D.le D.le (eVar 1) (eB D.len (aCons (eVar 0) (aNil))) (eVar 2))))
noncomputable def m_is_tuple : List D → Out D := mirP 3 3 b_is_tuple
noncomputable def b_divisor : Env' → Res Fl := sSeq (sWhile (tstV (eBin D.ne (eVar 1) (eC (.int 0)))) (sPar 0 1 (aConsE (eVar 1) (aConsE (eBin D.mod (eB D.toInt (aCons (eVar 0) (aNil))) (eVar 1)) (aNil))))) (sRet (nOf (eVar 0)))
noncomputable def m_divisor : List D → Out D := mirP 2 2 b_divisor
noncomputable def b_made : Env' → Res Fl := sSeq (sSet 2 (nOf (eCall m_divisor (aConsE (eVar 0) (aConsE (eVar 1) (aNil)))))) (sRet (nOf (eTup (aConsE (eBin D.fdiv (eVar 0) (eVar 2)) (aConsE (eBin D.fdiv (eVar 1) (eVar 2)) (aNil))))))
noncomputable def m_made : List D → Out D := mirP 2 3 b_made
noncomputable def b_sum_fourth : Env' → Res Fl := sSeq (sFor (iSeq (eTup (aConsE (eVar 0) (aConsE (eVar 1) (aConsE (eVar 2) (aNil)))))) (gN 3) (sIf (tstNot (tstT (eCall m_is_integer (aConsE (eVar 3) (aNil))))) (sRaise "NoInteger") (sNil))) (sRet (nOf (eBin D.sub (eBin D.add (eVar 1) (eVar 2)) (eVar 0))))
noncomputable def m_sum_fourth : List D → Out D := mirP 3 4 b_sum_fourth
noncomputable def b_is_share : Env' → Res Fl := sSeq (sIf (tstOr (tstNot (tstT (eCall m_is_tuple (aConsE (eVar 0) (aConsE (eC (.int 2)) (aConsE (eC (.int 2)) (aNil))))))) (tstOr (tstNot (tstT (eCall m_is_integer (aConsE (eBin D.ix (eVar 0) (eC (.int 0))) (aNil))))) (tstNot (tstT (eCall m_is_integer (aConsE (eBin D.ix (eVar 0) (eC (.int 1))) (aNil))))))) (sRet (nOf (eC (.bl false)))) (sNil)) (sRet (nOf (eAnd (eBin D.gt (eBin D.ix (eVar 0) (eC (.int 0))) (eC (.int 0))) (eAnd (eBin D.gt (eBin D.ix (eVar 0) (eC (.int 1))) (eC (.int 0))) (eBin D.eq (eCall m_divisor (aConsE (eBin D.ix (eVar 0) (eC (.int 0))) (aConsE (eBin D.ix (eVar 0) (eC (.int 1))) (aNil)))) (eC (.int 1)))))))
noncomputable def m_is_share : List D → Out D := mirP 1 1 b_is_share
noncomputable def b_check_shares : Env' → Res Fl := sFor (iSeq (eVar 0)) (gN 1) (sIf (tstNot (tstT (eCall m_is_share (aConsE (eVar 1) (aNil))))) (sRaise "NoShare") (sNil))
noncomputable def m_check_shares : List D → Out D := mirP 1 2 b_check_shares
noncomputable def b_raw_share_fourth : Env' → Res Fl := sRet (nOf (eCall m_made (aConsE (eBin D.mul (eBin D.mul (eBin D.ix (eVar 1) (eC (.int 0))) (eBin D.ix (eVar 2) (eC (.int 0)))) (eBin D.ix (eVar 0) (eC (.int 1)))) (aConsE (eBin D.mul (eBin D.mul (eBin D.ix (eVar 1) (eC (.int 1))) (eBin D.ix (eVar 2) (eC (.int 1)))) (eBin D.ix (eVar 0) (eC (.int 0)))) (aNil)))))
noncomputable def m_raw_share_fourth : List D → Out D := mirP 3 3 b_raw_share_fourth
noncomputable def b_share_fourth : Env' → Res Fl := sSeq (sExpr (eCall m_check_shares (aConsE (oOf (nLst (atCons (nOf (eVar 0)) (atCons (nOf (eVar 1)) (atCons (nOf (eVar 2)) (atNil)))))) (aNil)))) (sRet (nOf (eCall m_raw_share_fourth (aConsE (eVar 0) (aConsE (eVar 1) (aConsE (eVar 2) (aNil)))))))
noncomputable def m_share_fourth : List D → Out D := mirP 3 3 b_share_fourth
noncomputable def b_share_chain : Env' → Res Fl := sSeq (sExpr (eCall m_check_shares (aConsE (oOf (nLst (atCons (nOf (eVar 0)) (atCons (nOf (eVar 1)) (atNil))))) (aNil)))) (sSeq (sIf (tstNot (tstT (eCall m_is_within (aConsE (eVar 2) (aConsE (eC (.int 2)) (aConsE (eC c_MOST_CHAIN) (aNil))))))) (sRaise "NoNumber") (sNil)) (sSeq (sSet 3 (nLst (atCons (nOf (eVar 0)) (atCons (nOf (eVar 1)) (atNil))))) (sSeq (sFor (iRange1 (aCons (eBin D.sub (eVar 2) (eC (.int 2))) (aNil))) (gN 4) (sAppend 3 (nOf (eCall m_raw_share_fourth (aConsE (eVar 0) (aConsE (eVar 1) (aConsE (eBin D.ix (eVar 3) (eUn D.neg (eC (.int 1)))) (aNil)))))))) (sRet (nOf (eB D.toTup (aCons (eVar 3) (aNil))))))))
noncomputable def m_share_chain : List D → Out D := mirP 3 5 b_share_chain
noncomputable def b__law_deck : Env' → Res Fl := sRet (nLst (atCons (nOf (oOf (nLc (iSeq (eVar 0)) (gN 1) (ttYes) (nOf (eB D.toInt (aCons (eVar 1) (aNil)))) [1]))) (atCons (nOf (eC (.int 0))) (atCons (nOf (eC (.int 0))) (atCons (nOf (eC (.int 0))) (atCons (nOf (eC (.int 0))) (atNil)))))))
noncomputable def m__law_deck : List D → Out T := mirT 1 2 b__law_deck
noncomputable def b__law_mixed : Env' → Res Fl := sSeq (sSet 2 (nOf (eBin D.mod (eB D.toInt (aCons (eBin D.add (eBin D.add (eBin D.mul (eB D.toInt (aCons (eVar 0) (aNil))) (eC (.int 48271))) (eBin D.mul (eVar 1) (eC (.int 69621)))) (eC (.int 7))) (aNil))) (eC (.int 2147483647))))) (sSeq (sSet 2 (nOf (eBin D.mod (eB D.toInt (aCons (eBin D.mul (eVar 2) (eBin D.add (eBin D.fdiv (eVar 2) (eC (.int 1009))) (eC (.int 30103)))) (aNil))) (eC (.int 2147483629))))) (sRet (nOf (eBin D.mod (eB D.toInt (aCons (eBin D.mul (eVar 2) (eBin D.add (eBin D.fdiv (eVar 2) (eC (.int 2003))) (eC (.int 40692)))) (aNil))) (eC (.int 2147483399))))))
noncomputable def m__law_mixed : List D → Out D := mirP 2 3 b__law_mixed
noncomputable def b__law_draw : Env' → Res Fl := sSeq (sSetIxA 0 (nOf (eBin D.add (eBin D.ix (eVar 0) (eC (.int 3))) (eC (.int 1)))) (eC (.int 3))) (sSeq (sIf (tstAnd (tstV (eBin D.eq (eBin D.ix (eVar 0) (eC (.int 2))) (eC (.int 0)))) (tstV (eBin D.lt (eBin D.ix (eVar 0) (eC (.int 1))) (eB D.len (aCons (eBin D.ix (eVar 0) (eC (.int 0))) (aNil)))))) (sSeq (sSet 2 (nOf (eBin D.ix (eBin D.ix (eVar 0) (eC (.int 0))) (eBin D.ix (eVar 0) (eC (.int 1)))))) (sSeq (sSetIxA 0 (nOf (eBin D.add (eBin D.ix (eVar 0) (eC (.int 1))) (eC (.int 1)))) (eC (.int 1))) (sSeq (sSetIxA 0 (nOf (eBin D.mod (eB D.toInt (aCons (eBin D.add (eBin D.mul (eBin D.ix (eVar 0) (eC (.int 4))) (eC (.int 31))) (eVar 2)) (aNil))) (eC (.int 2147483647)))) (eC (.int 4))) (sIf (tstV (eBin D.ge (eB D.abs (aCons (eVar 2) (aNil))) (eBin D.pow (eC (.int 10)) (eC (.int 18))))) (sSetIxA 0 (nOf (eBin D.add (eBin D.mul (eC (.int 2)) (eB D.abs (aCons (eVar 2) (aNil)))) (eB D.toInt (aCons (eBin D.lt (eVar 2) (eC (.int 0))) (aNil))))) (eC (.int 2))) (sNil))))) (sNil)) (sSeq (sIf (tstV (eBin D.gt (eBin D.ix (eVar 0) (eC (.int 2))) (eC (.int 0)))) (sSeq (sSet 3 (nOf (eBin D.mod (eB D.toInt (aCons (eBin D.ix (eVar 0) (eC (.int 2))) (aNil))) (eVar 1)))) (sSeq (sSetIxA 0 (nOf (eBin D.fdiv (eBin D.ix (eVar 0) (eC (.int 2))) (eVar 1))) (eC (.int 2))) (sRet (nOf (eVar 3))))) (sNil)) (sRet (nOf (eBin D.mod (eB D.toInt (aCons (eBin D.fdiv (eCall m__law_mixed (aConsE (eBin D.ix (eVar 0) (eC (.int 4))) (aConsE (eBin D.ix (eVar 0) (eC (.int 3))) (aNil)))) (eC (.int 7))) (aNil))) (eVar 1))))))
noncomputable def m__law_draw : List T → List D → Option (T × List T) := mIO 2 4 b__law_draw
noncomputable def b__law_great : Env' → Res Fl := sSeq (sSet 2 (nOf (eC (.int 0)))) (sSeq (sFor (iRange1 (aCons (eBin D.add (eC (.int 1)) (oOf (callIO 0 m__law_draw (aConsE (eVar 1) (aNil))))) (aNil))) (gN 3) (sSet 2 (nOf (eBin D.add (eBin D.mul (eVar 2) (eC (.int 10))) (oOf (callIO 0 m__law_draw (aConsE (eC (.int 10)) (aNil)))))))) (sRet (nOf (eVar 2))))
noncomputable def m__law_great : List T → List D → Option (T × List T) := mIO 2 4 b__law_great
noncomputable def b__law_lowest : Env' → Res Fl := sSeq (sSet 2 (nOf (eVar 0))) (sSeq (sSet 3 (nOf (eVar 1))) (sSeq (sWhile (tstV (eBin D.gt (eVar 3) (eC (.int 0)))) (sSeq (sSet 4 (nOf (eBin D.mod (eB D.toInt (aCons (eVar 2) (aNil))) (eVar 3)))) (sSeq (sSet 2 (nOf (eVar 3))) (sSet 3 (nOf (eVar 4)))))) (sRet (nOf (eTup (aConsE (eBin D.fdiv (eVar 0) (eVar 2)) (aConsE (eBin D.fdiv (eVar 1) (eVar 2)) (aNil))))))))
noncomputable def m__law_lowest : List D → Out D := mirP 2 5 b__law_lowest
noncomputable def b__law_share : Env' → Res Fl := sRet (nOf (eCall m__law_lowest (aConsE (eBin D.add (eC (.int 1)) (oOf (callIO 0 m__law_great (aConsE (eVar 1) (aNil))))) (aConsE (eBin D.add (eC (.int 1)) (oOf (callIO 0 m__law_great (aConsE (eVar 1) (aNil))))) (aNil)))))
noncomputable def m__law_share : List T → List D → Option (T × List T) := mIO 2 2 b__law_share
noncomputable def b__law_by : Env' → Res Fl := sRet (nOf (eCall m__law_lowest (aConsE (eBin D.mul (eBin D.mul (eBin D.ix (eVar 1) (eC (.int 0))) (eBin D.ix (eVar 2) (eC (.int 0)))) (eBin D.ix (eVar 0) (eC (.int 1)))) (aConsE (eBin D.mul (eBin D.mul (eBin D.ix (eVar 1) (eC (.int 1))) (eBin D.ix (eVar 2) (eC (.int 1)))) (eBin D.ix (eVar 0) (eC (.int 0)))) (aNil)))))
noncomputable def m__law_by : List D → Out D := mirP 3 3 b__law_by
noncomputable def b__law_refused : Env' → Res Fl := sSeq (sSet 4 (nOf (eC (.str "none")))) (sSeq (sTry xs_all [(cs_NoInteger, sSet 4 (nOf (eC (.str "integer")))), (cs_NoShare, sSet 4 (nOf (eC (.str "share")))), (cs_NoNumber, sSet 4 (nOf (eC (.str "number"))))] (sSeq (sIf (tstV (eBin D.eq (eVar 0) (eC (.int 0)))) (sExpr (eCall m_sum_fourth (aConsE (eVar 1) (aConsE (eVar 2) (aConsE (eVar 3) (aNil)))))) (sNil)) (sSeq (sIf (tstV (eBin D.eq (eVar 0) (eC (.int 1)))) (sExpr (eCall m_share_fourth (aConsE (eVar 1) (aConsE (eVar 2) (aConsE (eVar 3) (aNil)))))) (sNil)) (sIf (tstV (eBin D.eq (eVar 0) (eC (.int 2)))) (sExpr (eCall m_share_chain (aConsE (eVar 1) (aConsE (eVar 2) (aConsE (eVar 3) (aNil)))))) (sNil))))) (sRet (nOf (eVar 4))))
noncomputable def m__law_refused : List D → Out D := mirP 4 5 b__law_refused
noncomputable def b__law_chain : Env' → Res Fl := sSeq (sSet 3 (nLst (atCons (nOf (eVar 0)) (atCons (nOf (eVar 1)) (atNil))))) (sSeq (sFor (iRange1 (aCons (eBin D.sub (eVar 2) (eC (.int 2))) (aNil))) (gN 4) (sAppend 3 (nOf (eCall m__law_by (aConsE (eVar 0) (aConsE (eVar 1) (aConsE (eBin D.ix (eVar 3) (eUn D.neg (eC (.int 1)))) (aNil)))))))) (sRet (nOf (eB D.toTup (aCons (eVar 3) (aNil))))))
noncomputable def m__law_chain : List D → Out D := mirP 3 5 b__law_chain
noncomputable def b_law : Env' → Res Fl := sSeq (sSet 1 (nCall m__law_deck (aConsE (eVar 0) (aNil)))) (sSeq (sSet 2 (nLst (atNil))) (sSeq (sFor (iRange1 (aCons (eC (.int 3)) (aNil))) (gN 3) (sAppend 2 (nOf (eBin D.mul (oOf (callIO 1 m__law_great (aConsE (eC (.int 60)) (aNil)))) (eBin D.ix (oOf (nLst (atCons (nOf (eC (.int 1))) (atCons (nOf (eBin D.sub (eC (.int 0)) (eC (.int 1)))) (atNil))))) (oOf (callIO 1 m__law_draw (aConsE (eC (.int 2)) (aNil))))))))) (sSeq (sUnpack (eVar 2) (gT (gsCons (gN 4) (gsCons (gN 5) (gsCons (gN 6) (gsNil)))) 3)) (sSeq (sSet 7 (nOf (eBin D.sub (eBin D.add (eVar 5) (eVar 6)) (eVar 4)))) (sSeq (sIf (tstOr (tstV (eBin D.ne (eCall m_sum_fourth (aConsE (eVar 4) (aConsE (eVar 5) (aConsE (eVar 6) (aNil))))) (eVar 7))) (tstOr (tstV (eBin D.ne (eCall m_sum_fourth (aConsE (eVar 4) (aConsE (eVar 6) (aConsE (eVar 5) (aNil))))) (eVar 7))) (tstT (eB D.isinst (aCons (eCall m_sum_fourth (aConsE (eVar 4) (aConsE (eVar 5) (aConsE (eVar 6) (aNil))))) (aCons (eC (.ty "bool")) (aNil))))))) (sRet (nOf (eC (.bl false)))) (sNil)) (sSeq (sIf (tstOr (tstV (eBin D.ne (eCall m_sum_fourth (aConsE (eVar 5) (aConsE (eVar 4) (aConsE (eVar 7) (aNil))))) (eVar 6))) (tstV (eBin D.ne (eCall m_sum_fourth (aConsE (eVar 7) (aConsE (eVar 5) (aConsE (eVar 6) (aNil))))) (eVar 4)))) (sRet (nOf (eC (.bl false)))) (sNil)) (sSeq (sSet 8 (nLst (atCons (nOf (oOf (callIO 1 m__law_share (aConsE (eC (.int 9)) (aNil))))) (atCons (nOf (oOf (callIO 1 m__law_share (aConsE (eC (.int 9)) (aNil))))) (atCons (nOf (oOf (callIO 1 m__law_share (aConsE (eC (.int 9)) (aNil))))) (atNil)))))) (sSeq (sUnpack (eVar 8) (gT (gsCons (gN 9) (gsCons (gN 10) (gsCons (gN 11) (gsNil)))) 3)) (sSeq (sSet 12 (nOf (eCall m__law_by (aConsE (eVar 9) (aConsE (eVar 10) (aConsE (eVar 11) (aNil))))))) (sSeq (sIf (tstOr (tstV (eBin D.ne (eCall m_share_fourth (aConsE (eVar 9) (aConsE (eVar 10) (aConsE (eVar 11) (aNil))))) (eVar 12))) (tstV (eBin D.ne (eCall m_share_fourth (aConsE (eVar 9) (aConsE (eVar 11) (aConsE (eVar 10) (aNil))))) (eVar 12)))) (sRet (nOf (eC (.bl false)))) (sNil)) (sSeq (sIf (tstOr (tstV (eBin D.ne (eCall m_share_fourth (aConsE (eVar 12) (aConsE (eVar 10) (aConsE (eVar 11) (aNil))))) (eVar 9))) (tstV (eBin D.ne (eCall m_share_fourth (aConsE (eVar 10) (aConsE (eVar 9) (aConsE (eVar 12) (aNil))))) (eVar 11)))) (sRet (nOf (eC (.bl false)))) (sNil)) (sSeq (sSet 13 (nOf (eBin D.add (eC (.int 2)) (oOf (callIO 1 m__law_draw (aConsE (eC (.int 11)) (aNil))))))) (sSeq (sIf (tstV (eBin D.ne (eCall m_share_chain (aConsE (eVar 9) (aConsE (eVar 10) (aConsE (eVar 13) (aNil))))) (eCall m__law_chain (aConsE (eVar 9) (aConsE (eVar 10) (aConsE (eVar 13) (aNil))))))) (sRet (nOf (eC (.bl false)))) (sNil)) (sSeq (sSet 14 (nLst (atCons (nOf (oOf (callIO 1 m__law_share (aConsE (eC (.int 1)) (aNil))))) (atCons (nOf (oOf (callIO 1 m__law_share (aConsE (eC (.int 1)) (aNil))))) (atNil))))) (sSeq (sSet 13 (nOf (eBin D.add (eC (.int 2)) (oOf (callIO 1 m__law_draw (aConsE (eC (.int 39)) (aNil))))))) (sSeq (sSet 15 (nOf (eCall m_share_chain (aConsE (eBin D.ix (eVar 14) (eC (.int 0))) (aConsE (eBin D.ix (eVar 14) (eC (.int 1))) (aConsE (eVar 13) (aNil))))))) (sSeq (sIf (tstV (eBin D.ne (eVar 15) (eCall m__law_chain (aConsE (eBin D.ix (eVar 14) (eC (.int 0))) (aConsE (eBin D.ix (eVar 14) (eC (.int 1))) (aConsE (eVar 13) (aNil))))))) (sRet (nOf (eC (.bl false)))) (sNil)) (sSeq (sFor (iRange2 (aCons (eC (.int 2)) (aCons (eVar 13) (aNil)))) (gN 16) (sIf (tstV (eBin D.ne (eCall m_share_fourth (aConsE (eBin D.ix (eVar 14) (eC (.int 0))) (aConsE (eBin D.ix (eVar 14) (eC (.int 1))) (aConsE (eBin D.ix (eVar 15) (eBin D.sub (eVar 16) (eC (.int 1)))) (aNil))))) (eBin D.ix (eVar 15) (eVar 16)))) (sRet (nOf (eC (.bl false)))) (sNil))) (sSeq (sFor (iSeq (oOf (nLst (atCons (nOf (eC (.bl true))) (atCons (nOf (eC (.str "1"))) (atCons (nOf (eC .non)) (atCons (nOf (eTup (aConsE (eC (.int 1)) (aConsE (eC (.int 1)) (aNil))))) (atNil)))))))) (gN 17) (sSeq (sIf (tstOr (tstV (eBin D.ne (eCall m__law_refused (aConsE (eC (.int 0)) (aConsE (eVar 17) (aConsE (eVar 5) (aConsE (eVar 6) (aNil)))))) (eC (.str "integer")))) (tstV (eBin D.ne (eCall m__law_refused (aConsE (eC (.int 0)) (aConsE (eVar 4) (aConsE (eVar 17) (aConsE (eVar 6) (aNil)))))) (eC (.str "integer"))))) (sRet (nOf (eC (.bl false)))) (sNil)) (sIf (tstV (eBin D.ne (eCall m__law_refused (aConsE (eC (.int 0)) (aConsE (eVar 4) (aConsE (eVar 5) (aConsE (eVar 17) (aNil)))))) (eC (.str "integer")))) (sRet (nOf (eC (.bl false)))) (sNil)))) (sSeq (sFor (iSeq (oOf (nLst (atCons (nOf (eTup (aConsE (eC (.int 2)) (aConsE (eC (.int 4)) (aNil))))) (atCons (nOf (eTup (aConsE (eC (.int 0)) (aConsE (eC (.int 1)) (aNil))))) (atCons (nOf (eTup (aConsE (eBin D.sub (eC (.int 0)) (eC (.int 1))) (aConsE (eC (.int 2)) (aNil))))) (atCons (nOf (oOf (nLst (atCons (nOf (eC (.int 1))) (atCons (nOf (eC (.int 2))) (atNil)))))) (atCons (nOf (eTup (aConsE (eC (.int 1)) (aConsE (eC (.int 0)) (aNil))))) (atCons (nOf (eTup (aConsE (eC (.int 1)) (aConsE (eC (.bl true)) (aNil))))) (atCons (nOf (eTup (aConsE (eC (.int 1)) (aNil)))) (atCons (nOf (eC .non)) (atCons (nOf (eC (.int 1))) (atNil))))))))))))) (gN 17) (sSeq (sIf (tstOr (tstV (eBin D.ne (eCall m__law_refused (aConsE (eC (.int 1)) (aConsE (eVar 17) (aConsE (eVar 10) (aConsE (eVar 11) (aNil)))))) (eC (.str "share")))) (tstV (eBin D.ne (eCall m__law_refused (aConsE (eC (.int 1)) (aConsE (eVar 9) (aConsE (eVar 17) (aConsE (eVar 11) (aNil)))))) (eC (.str "share"))))) (sRet (nOf (eC (.bl false)))) (sNil)) (sSeq (sIf (tstOr (tstV (eBin D.ne (eCall m__law_refused (aConsE (eC (.int 1)) (aConsE (eVar 9) (aConsE (eVar 10) (aConsE (eVar 17) (aNil)))))) (eC (.str "share")))) (tstV (eBin D.ne (eCall m__law_refused (aConsE (eC (.int 2)) (aConsE (eVar 17) (aConsE (eVar 10) (aConsE (eC (.int 1)) (aNil)))))) (eC (.str "share"))))) (sRet (nOf (eC (.bl false)))) (sNil)) (sIf (tstV (eBin D.ne (eCall m__law_refused (aConsE (eC (.int 2)) (aConsE (eVar 9) (aConsE (eVar 17) (aConsE (eC (.int 41)) (aNil)))))) (eC (.str "share")))) (sRet (nOf (eC (.bl false)))) (sNil))))) (sRet (nOf (eBin D.eq (eB D.len (aCons (oOf (nLc (iSeq (oOf (nLst (atCons (nOf (eC (.int 1))) (atCons (nOf (eC (.int 41))) (atCons (nOf (eC (.int 0))) (atCons (nOf (eC (.bl true))) (atCons (nOf (eC .non)) (atCons (nOf (eC (.str "2"))) (atNil)))))))))) (gN 17) (tstV (eBin D.ne (eCall m__law_refused (aConsE (eC (.int 2)) (aConsE (eVar 9) (aConsE (eVar 10) (aConsE (eVar 17) (aNil)))))) (eC (.str "number")))) (nOf (eVar 17)) [17])) (aNil))) (eC (.int 0)))))))))))))))))))))))))
noncomputable def m_law : List D → Out D := mirP 1 18 b_law
/-- what the top has written -/
structure Txt (K : PySem.W.Frag) (mg : Str → Option Value) (A : Nat → Addr) (FD : Nat → FuncData) : Prop where
  n_abs : mg "abs" = none
  n_bool : mg "bool" = none
  n_int : mg "int" = none
  n_isinstance : mg "isinstance" = none
  n_len : mg "len" = none
  n_range : mg "range" = none
  n_tuple : mg "tuple" = none
  F_is_integer : Fun K "is_integer" "is_integer" s_is_integer (A 0) (FD 0)
  g_is_integer : mg "is_integer" = some (.ref (A 0))
  b_is_integer : Binds K (FD 0) ["thing"] []
  F_is_within : Fun K "is_within" "is_within" s_is_within (A 1) (FD 1)
  g_is_within : mg "is_within" = some (.ref (A 1))
  b_is_within : Binds K (FD 1) ["thing", "low", "high"] []
  F_is_tuple : Fun K "is_tuple" "is_tuple" s_is_tuple (A 2) (FD 2)
  g_is_tuple : mg "is_tuple" = some (.ref (A 2))
  b_is_tuple : Binds K (FD 2) ["thing", "least", "most"] []
  F_divisor : Fun K "divisor" "divisor" s_divisor (A 3) (FD 3)
  g_divisor : mg "divisor" = some (.ref (A 3))
  b_divisor : Binds K (FD 3) ["one", "other"] []
  F_made : Fun K "made" "made" s_made (A 4) (FD 4)
  g_made : mg "made" = some (.ref (A 4))
  b_made : Binds K (FD 4) ["top", "bottom"] []
  F_sum_fourth : Fun K "sum_fourth" "sum_fourth" s_sum_fourth (A 5) (FD 5)
  g_sum_fourth : mg "sum_fourth" = some (.ref (A 5))
  b_sum_fourth : Binds K (FD 5) ["x", "y", "z"] []
  F_is_share : Fun K "is_share" "is_share" s_is_share (A 6) (FD 6)
  g_is_share : mg "is_share" = some (.ref (A 6))
  b_is_share : Binds K (FD 6) ["thing"] []
  F_check_shares : Fun K "check_shares" "check_shares" s_check_shares (A 7) (FD 7)
  g_check_shares : mg "check_shares" = some (.ref (A 7))
  b_check_shares : Binds K (FD 7) ["shares"] []
  F_raw_share_fourth : Fun K "raw_share_fourth" "raw_share_fourth" s_raw_share_fourth (A 8) (FD 8)
  g_raw_share_fourth : mg "raw_share_fourth" = some (.ref (A 8))
  b_raw_share_fourth : Binds K (FD 8) ["x", "y", "z"] []
  F_share_fourth : Fun K "share_fourth" "share_fourth" s_share_fourth (A 9) (FD 9)
  g_share_fourth : mg "share_fourth" = some (.ref (A 9))
  b_share_fourth : Binds K (FD 9) ["x", "y", "z"] []
  F_share_chain : Fun K "share_chain" "share_chain" s_share_chain (A 10) (FD 10)
  g_share_chain : mg "share_chain" = some (.ref (A 10))
  b_share_chain : Binds K (FD 10) ["x", "y", "n"] []
  F__law_deck : Fun K "_law_deck" "_law_deck" s__law_deck (A 11) (FD 11)
  g__law_deck : mg "_law_deck" = some (.ref (A 11))
  b__law_deck : Binds K (FD 11) ["script"] []
  F__law_mixed : Fun K "_law_mixed" "_law_mixed" s__law_mixed (A 12) (FD 12)
  g__law_mixed : mg "_law_mixed" = some (.ref (A 12))
  b__law_mixed : Binds K (FD 12) ["number", "k"] []
  F__law_draw : Fun K "_law_draw" "_law_draw" s__law_draw (A 13) (FD 13)
  g__law_draw : mg "_law_draw" = some (.ref (A 13))
  b__law_draw : Binds K (FD 13) ["deck", "many"] []
  F__law_great : Fun K "_law_great" "_law_great" s__law_great (A 14) (FD 14)
  g__law_great : mg "_law_great" = some (.ref (A 14))
  b__law_great : Binds K (FD 14) ["deck", "digits"] []
  F__law_lowest : Fun K "_law_lowest" "_law_lowest" s__law_lowest (A 15) (FD 15)
  g__law_lowest : mg "_law_lowest" = some (.ref (A 15))
  b__law_lowest : Binds K (FD 15) ["top", "bottom"] []
  F__law_share : Fun K "_law_share" "_law_share" s__law_share (A 16) (FD 16)
  g__law_share : mg "_law_share" = some (.ref (A 16))
  b__law_share : Binds K (FD 16) ["deck", "digits"] []
  F__law_by : Fun K "_law_by" "_law_by" s__law_by (A 17) (FD 17)
  g__law_by : mg "_law_by" = some (.ref (A 17))
  b__law_by : Binds K (FD 17) ["x", "y", "z"] []
  F__law_refused : Fun K "_law_refused" "_law_refused" s__law_refused (A 18) (FD 18)
  g__law_refused : mg "_law_refused" = some (.ref (A 18))
  b__law_refused : Binds K (FD 18) ["number", "one", "other", "third"] []
  F__law_chain : Fun K "_law_chain" "_law_chain" s__law_chain (A 19) (FD 19)
  g__law_chain : mg "_law_chain" = some (.ref (A 19))
  b__law_chain : Binds K (FD 19) ["x", "y", "n"] []
  F_law : Fun K "law" "law" s_law (A 20) (FD 20)
  g_law : mg "law" = some (.ref (A 20))
  b_law : Binds K (FD 20) ["script"] []
  X_NoInteger : ExT K mg "NoInteger" (A 21)
  X_NoNumber : ExT K mg "NoNumber" (A 22)
  X_NoShare : ExT K mg "NoShare" (A 23)
  H_NoInteger : HdT K mg xs_all "NoInteger" (A 21) cs_NoInteger
  H_NoNumber : HdT K mg xs_all "NoNumber" (A 22) cs_NoNumber
  H_NoShare : HdT K mg xs_all "NoShare" (A 23) cs_NoShare
  c_MOST_CHAIN : GC K mg "MOST_CHAIN" c_MOST_CHAIN
section
variable {P : Program} {w : World} {K : PySem.W.Frag} {mg : Str → Option Value} {base : Heap} {A : Nat → Addr} {FD : Nat → FuncData}
theorem ok_is_integer (T : Txt K mg A FD) : FnOk P w K mg base (L2.CX P w) 1 (A 0) (FD 0) ["thing"] (spP K mg 1 m_is_integer) :=
  def_ok T.F_is_integer sc_is_integer (by decide) fun cdv Ar outer s H E hr tk => by
    exact fss_one (fs_ret (fn_of (fo_and (fo_callB cd_isinst (by rfl) T.n_isinstance (by decide +kernel) (fa_cons (fo_var 0) (fa_cons (fo_ty (by rfl) T.n_int (by decide +kernel)) (fa_nil)))) (fo_one (fo_not (fo_callB cd_isinst (by rfl) T.n_isinstance (by decide +kernel) (fa_cons (fo_var 0) (fa_cons (fo_ty (by rfl) T.n_bool (by decide +kernel)) (fa_nil)))))))))
theorem ok_is_within (T : Txt K mg A FD) : FnOk P w K mg base (L2.CX P w) 2 (A 1) (FD 1) ["thing", "low", "high"] (spP K mg 3 m_is_within) :=
  def_ok T.F_is_within sc_is_within (by decide) fun cdv Ar outer s H E hr tk => by
    exact fss_one (fs_ret (fn_of (fo_and (fo_call (ok_is_integer T) (hr.mono (by decide)) (by rfl) T.g_is_integer T.F_is_integer.kp T.b_is_integer tk rfl (fa_consE (fo_var 0) (fa_nil)) (alen_cons (alen_nil))) (fo_one (fo_chain od_le od_le (fo_var 1) (fo_var 0) (fo_var 2))))))
theorem ok_is_tuple (T : Txt K mg A FD) : FnOk P w K mg base (L2.CX P w) 1 (A 2) (FD 2) ["thing", "least", "most"] (spP K mg 3 m_is_tuple) :=
  def_ok T.F_is_tuple sc_is_tuple (by decide) fun cdv Ar outer s H E hr tk => by
    exact fss_one (fs_ret (fn_of (fo_and (fo_callB cd_isinst (by rfl) T.n_isinstance (by decide +kernel) (fa_cons (fo_var 0) (fa_cons (fo_ty (by rfl) T.n_tuple (by decide +kernel)) (fa_nil)))) (fo_one (fo_chain od_le od_le (fo_var 1) (fo_callB cd_len (by rfl) T.n_len (by decide +kernel) (fa_cons (fo_var 0) (fa_nil))) (fo_var 2))))))
theorem ok_divisor (T : Txt K mg A FD) : FnOk P w K mg base (L2.CX P w) 1 (A 3) (FD 3) ["one", "other"] (spP K mg 2 m_divisor) :=
  def_ok T.F_divisor sc_divisor (by decide) fun cdv Ar outer s H E hr tk => by
    have hu64 := hr.units
    exact fss_cons (fs_while (passes_of rfl) (ft_cmp (od_ne hu64) (fo_var 1) (fo_int) (nomark _)) (fss_one (fs_par (i := 0) (j := 1) rfl sc_divisor.nd rfl rfl (by decide) rfl rfl (fa_consE (fo_var 1) (fa_consE (fo_bin od_mod (fo_callTy cd_int (by rfl) T.n_int (by decide +kernel) (fa_cons (fo_var 0) (fa_nil))) (fo_var 1)) (fa_nil))) (by rfl)))) (fss_one (fs_ret (fn_of (fo_var 0))))
theorem ok_made (T : Txt K mg A FD) : FnOk P w K mg base (L2.CX P w) 2 (A 4) (FD 4) ["top", "bottom"] (spP K mg 2 m_made) :=
  def_ok T.F_made sc_made (by decide) fun cdv Ar outer s H E hr tk => by
    exact fss_cons (fs_set (i := 2) sc_made.nd rfl (.inl rfl) (fn_of (fo_call (ok_divisor T) (hr.mono (by decide)) (by rfl) T.g_divisor T.F_divisor.kp T.b_divisor tk rfl (fa_consE (fo_var 0) (fa_consE (fo_var 1) (fa_nil))) (alen_cons (alen_cons (alen_nil)))))) (fss_one (fs_ret (fn_of (fo_tup (fa_consE (fo_bin od_fdiv (fo_var 0) (fo_var 2)) (fa_consE (fo_bin od_fdiv (fo_var 1) (fo_var 2)) (fa_nil)))))))
theorem ok_sum_fourth (T : Txt K mg A FD) : FnOk P w K mg base (L2.CX P w) 2 (A 5) (FD 5) ["x", "y", "z"] (spP K mg 3 m_sum_fourth) :=
  def_ok T.F_sum_fourth sc_sum_fourth (by decide) fun cdv Ar outer s H E hr tk => by
    exact fss_cons (fs_for (vs := [3]) (passes_of rfl) rfl (fi_seq (fo_tup (fa_consE (fo_var 0) (fa_consE (fo_var 1) (fa_consE (fo_var 2) (fa_nil)))))) (fg_name (by simp) sc_sum_fourth.nd rfl (.inl rfl)) (fss_one (fs_if (ft_not (ft_truth (fo_call (ok_is_integer T) (hr.mono (by decide)) (by rfl) T.g_is_integer T.F_is_integer.kp T.b_is_integer tk rfl (fa_consE (fo_var 3) (fa_nil)) (alen_cons (alen_nil))))) (fss_one (fs_raise rfl tk T.X_NoInteger rfl (by rfl))) (fss_nil)))) (fss_one (fs_ret (fn_of (fo_bin od_sub (fo_bin od_add (fo_var 1) (fo_var 2)) (fo_var 0)))))
theorem ok_is_share (T : Txt K mg A FD) : FnOk P w K mg base (L2.CX P w) 2 (A 6) (FD 6) ["thing"] (spP K mg 1 m_is_share) :=
  def_ok T.F_is_share sc_is_share (by decide) fun cdv Ar outer s H E hr tk => by
    have hu64 := hr.units
    exact fss_cons (fs_if (PW.pt (fw_or (ft_not (ft_truth (fo_call (ok_is_tuple T) (hr.mono (by decide)) (by rfl) T.g_is_tuple T.F_is_tuple.kp T.b_is_tuple tk rfl (fa_consE (fo_var 0) (fa_consE (fo_int) (fa_consE (fo_int) (fa_nil)))) (alen_cons (alen_cons (alen_cons (alen_nil))))))) (fw_or (ft_not (ft_truth (fo_call (ok_is_integer T) (hr.mono (by decide)) (by rfl) T.g_is_integer T.F_is_integer.kp T.b_is_integer tk rfl (fa_consE (fo_ix xd_ix (fo_var 0) (fo_int) (fun _ _ => rfl)) (fa_nil)) (alen_cons (alen_nil))))) (fw_or1 (ft_not (ft_truth (fo_call (ok_is_integer T) (hr.mono (by decide)) (by rfl) T.g_is_integer T.F_is_integer.kp T.b_is_integer tk rfl (fa_consE (fo_ix xd_ix (fo_var 0) (fo_int) (fun _ _ => rfl)) (fa_nil)) (alen_cons (alen_nil))))))))) (fss_one (fs_ret (fn_of (fo_bl)))) (fss_nil)) (fss_one (fs_ret (fn_of (fo_and (fo_cmp od_gt (fo_ix xd_ix (fo_var 0) (fo_int) (fun _ _ => rfl)) (fo_int) (nomark _)) (fo_and (fo_cmp od_gt (fo_ix xd_ix (fo_var 0) (fo_int) (fun _ _ => rfl)) (fo_int) (nomark _)) (fo_one (fo_cmp (od_eq hu64) (fo_call (ok_divisor T) (hr.mono (by decide)) (by rfl) T.g_divisor T.F_divisor.kp T.b_divisor tk rfl (fa_consE (fo_ix xd_ix (fo_var 0) (fo_int) (fun _ _ => rfl)) (fa_consE (fo_ix xd_ix (fo_var 0) (fo_int) (fun _ _ => rfl)) (fa_nil))) (alen_cons (alen_cons (alen_nil)))) (fo_int) (nomark _))))))))
theorem ok_check_shares (T : Txt K mg A FD) : FnOk P w K mg base (L2.CX P w) 3 (A 7) (FD 7) ["shares"] (spP K mg 1 m_check_shares) :=
  def_ok T.F_check_shares sc_check_shares (by decide) fun cdv Ar outer s H E hr tk => by
    exact fss_one (fs_for (vs := [1]) (passes_of rfl) rfl (fi_seq (fo_var 0)) (fg_name (by simp) sc_check_shares.nd rfl (.inl rfl)) (fss_one (fs_if (ft_not (ft_truth (fo_call (ok_is_share T) (hr.mono (by decide)) (by rfl) T.g_is_share T.F_is_share.kp T.b_is_share tk rfl (fa_consE (fo_var 1) (fa_nil)) (alen_cons (alen_nil))))) (fss_one (fs_raise rfl tk T.X_NoShare rfl (by rfl))) (fss_nil))))
theorem ok_raw_share_fourth (T : Txt K mg A FD) : FnOk P w K mg base (L2.CX P w) 3 (A 8) (FD 8) ["x", "y", "z"] (spP K mg 3 m_raw_share_fourth) :=
  def_ok T.F_raw_share_fourth sc_raw_share_fourth (by decide) fun cdv Ar outer s H E hr tk => by
    exact fss_one (fs_ret (fn_of (fo_call (ok_made T) (hr.mono (by decide)) (by rfl) T.g_made T.F_made.kp T.b_made tk rfl (fa_consE (fo_bin od_mul (fo_bin od_mul (fo_ix xd_ix (fo_var 1) (fo_int) (fun _ _ => rfl)) (fo_ix xd_ix (fo_var 2) (fo_int) (fun _ _ => rfl))) (fo_ix xd_ix (fo_var 0) (fo_int) (fun _ _ => rfl))) (fa_consE (fo_bin od_mul (fo_bin od_mul (fo_ix xd_ix (fo_var 1) (fo_int) (fun _ _ => rfl)) (fo_ix xd_ix (fo_var 2) (fo_int) (fun _ _ => rfl))) (fo_ix xd_ix (fo_var 0) (fo_int) (fun _ _ => rfl))) (fa_nil))) (alen_cons (alen_cons (alen_nil))))))
theorem ok_share_fourth (T : Txt K mg A FD) : FnOk P w K mg base (L2.CX P w) 4 (A 9) (FD 9) ["x", "y", "z"] (spP K mg 3 m_share_fourth) :=
  def_ok T.F_share_fourth sc_share_fourth (by decide) fun cdv Ar outer s H E hr tk => by
    exact fss_cons (fs_expr (fo_call (ok_check_shares T) (hr.mono (by decide)) (by rfl) T.g_check_shares T.F_check_shares.kp T.b_check_shares tk rfl (fa_consE (fo_of (fn_lst (fat_cons (fn_of (fo_var 0)) (fat_cons (fn_of (fo_var 1)) (fat_cons (fn_of (fo_var 2)) (fat_nil)))))) (fa_nil)) (alen_cons (alen_nil)))) (fss_one (fs_ret (fn_of (fo_call (ok_raw_share_fourth T) (hr.mono (by decide)) (by rfl) T.g_raw_share_fourth T.F_raw_share_fourth.kp T.b_raw_share_fourth tk rfl (fa_consE (fo_var 0) (fa_consE (fo_var 1) (fa_consE (fo_var 2) (fa_nil)))) (alen_cons (alen_cons (alen_cons (alen_nil))))))))
theorem ok_share_chain (T : Txt K mg A FD) : FnOk P w K mg base (L2.CX P w) 4 (A 10) (FD 10) ["x", "y", "n"] (spP K mg 3 m_share_chain) :=
  def_ok T.F_share_chain sc_share_chain (by decide) fun cdv Ar outer s H E hr tk => by
    exact fss_cons (fs_expr (fo_call (ok_check_shares T) (hr.mono (by decide)) (by rfl) T.g_check_shares T.F_check_shares.kp T.b_check_shares tk rfl (fa_consE (fo_of (fn_lst (fat_cons (fn_of (fo_var 0)) (fat_cons (fn_of (fo_var 1)) (fat_nil))))) (fa_nil)) (alen_cons (alen_nil)))) (fss_cons (fs_if (ft_not (ft_truth (fo_call (ok_is_within T) (hr.mono (by decide)) (by rfl) T.g_is_within T.F_is_within.kp T.b_is_within tk rfl (fa_consE (fo_var 2) (fa_consE (fo_int) (fa_consE (fo_gc (by rfl) T.c_MOST_CHAIN) (fa_nil)))) (alen_cons (alen_cons (alen_cons (alen_nil))))))) (fss_one (fs_raise rfl tk T.X_NoNumber rfl (by rfl))) (fss_nil)) (fss_cons (fs_set (i := 3) sc_share_chain.nd rfl (.inl rfl) (fn_lst (fat_cons (fn_of (fo_var 0)) (fat_cons (fn_of (fo_var 1)) (fat_nil))))) (fss_cons (fs_for (vs := [4]) (passes_of rfl) rfl (fi_range1 (by rfl) T.n_range (fa_cons (fo_bin od_sub (fo_var 2) (fo_int)) (fa_nil))) (fg_name (by simp) sc_share_chain.nd rfl (.inl rfl)) (fss_one (fs_append 3 (fn_of (fo_call (ok_raw_share_fourth T) (hr.mono (by decide)) (by rfl) T.g_raw_share_fourth T.F_raw_share_fourth.kp T.b_raw_share_fourth tk rfl (fa_consE (fo_var 0) (fa_consE (fo_var 1) (fa_consE (fo_ix xd_ix (fo_var 3) (fo_un ud_neg (fo_int)) (fun _ _ => rfl)) (fa_nil)))) (alen_cons (alen_cons (alen_cons (alen_nil)))))) rfl))) (fss_one (fs_ret (fn_of (fo_callTy cd_tuple (by rfl) T.n_tuple (by decide +kernel) (fa_cons (fo_var 3) (fa_nil)))))))))
theorem ok__law_deck (T : Txt K mg A FD) : FnOk P w K mg base (L2.CX P w) 1 (A 11) (FD 11) ["script"] (spT K mg 1 m__law_deck) :=
  def_okT T.F__law_deck sc__law_deck (by decide) fun cdv Ar outer s H E hr tk => by
    exact fss_one (fs_ret (fn_lst (fat_cons (fn_of (fo_of (fn_lc (own := [("cell", 1)]) rfl sc__law_deck.nd (fi_seq (fo_var 0)) (blkOk_by (N := N__law_deck) (sc := defScope s__law_deck) (by decide +kernel)) (fun _ _ _ _ _ => fg_name (by simp) sc__law_deck.nd rfl (.inl rfl)) (fun _ _ _ _ _ => fts_nil) (fun _ _ _ _ _ => fn_of (fo_callTy cd_int (by rfl) T.n_int (by decide +kernel) (fa_cons (fo_var 1) (fa_nil))))))) (fat_cons (fn_of (fo_int)) (fat_cons (fn_of (fo_int)) (fat_cons (fn_of (fo_int)) (fat_cons (fn_of (fo_int)) (fat_nil))))))))
theorem ok__law_mixed (T : Txt K mg A FD) : FnOk P w K mg base (L2.CX P w) 1 (A 12) (FD 12) ["number", "k"] (spP K mg 2 m__law_mixed) :=
  def_ok T.F__law_mixed sc__law_mixed (by decide) fun cdv Ar outer s H E hr tk => by
    exact fss_cons (fs_set (i := 2) sc__law_mixed.nd rfl (.inl rfl) (fn_of (fo_bin od_mod (fo_callTy cd_int (by rfl) T.n_int (by decide +kernel) (fa_cons (fo_bin od_add (fo_bin od_add (fo_bin od_mul (fo_callTy cd_int (by rfl) T.n_int (by decide +kernel) (fa_cons (fo_var 0) (fa_nil))) (fo_int)) (fo_bin od_mul (fo_var 1) (fo_int))) (fo_int)) (fa_nil))) (fo_int)))) (fss_cons (fs_set (i := 2) sc__law_mixed.nd rfl (.inl rfl) (fn_of (fo_bin od_mod (fo_callTy cd_int (by rfl) T.n_int (by decide +kernel) (fa_cons (fo_bin od_mul (fo_var 2) (fo_bin od_add (fo_bin od_fdiv (fo_var 2) (fo_int)) (fo_int))) (fa_nil))) (fo_int)))) (fss_one (fs_ret (fn_of (fo_bin od_mod (fo_callTy cd_int (by rfl) T.n_int (by decide +kernel) (fa_cons (fo_bin od_mul (fo_var 2) (fo_bin od_add (fo_bin od_fdiv (fo_var 2) (fo_int)) (fo_int))) (fa_nil))) (fo_int))))))
theorem ok__law_draw (T : Txt K mg A FD) : FnOk P w K mg base (L2.CX P w) 2 (A 13) (FD 13) ["deck", "many"] (spIO K 2 m__law_draw) :=
  def_okIO T.F__law_draw sc__law_draw (by decide) fun cdv Ar outer s H E hr tk => by
    have hu64 := hr.units
    exact fss_cons (fs_setIxA 0 (fn_of (fo_bin od_add (fo_ix xd_ix (fo_var 0) (fo_int) (fun _ _ => rfl)) (fo_int))) (fo_int)) (fss_cons (fs_if (PW.pt (fw_and (ft_cmp (od_eq hu64) (fo_ix xd_ix (fo_var 0) (fo_int) (fun _ _ => rfl)) (fo_int) (nomark _)) (fw_and1 (ft_cmp od_lt (fo_ix xd_ix (fo_var 0) (fo_int) (fun _ _ => rfl)) (fo_callB cd_len (by rfl) T.n_len (by decide +kernel) (fa_cons (fo_ix xd_ix (fo_var 0) (fo_int) (fun _ _ => rfl)) (fa_nil))) (nomark _))))) (fss_cons (fs_set (i := 2) sc__law_draw.nd rfl (.inl rfl) (fn_of (fo_ix xd_ix (fo_ix xd_ix (fo_var 0) (fo_int) (fun _ _ => rfl)) (fo_ix xd_ix (fo_var 0) (fo_int) (fun _ _ => rfl)) (fun _ _ => rfl)))) (fss_cons (fs_setIxA 0 (fn_of (fo_bin od_add (fo_ix xd_ix (fo_var 0) (fo_int) (fun _ _ => rfl)) (fo_int))) (fo_int)) (fss_cons (fs_setIxA 0 (fn_of (fo_bin od_mod (fo_callTy cd_int (by rfl) T.n_int (by decide +kernel) (fa_cons (fo_bin od_add (fo_bin od_mul (fo_ix xd_ix (fo_var 0) (fo_int) (fun _ _ => rfl)) (fo_int)) (fo_var 2)) (fa_nil))) (fo_int))) (fo_int)) (fss_one (fs_if (ft_cmp od_ge (fo_callB cd_abs (by rfl) T.n_abs (by decide +kernel) (fa_cons (fo_var 2) (fa_nil))) (fo_bin od_pow (fo_int) (fo_int)) (nomark _)) (fss_one (fs_setIxA 0 (fn_of (fo_bin od_add (fo_bin od_mul (fo_int) (fo_callB cd_abs (by rfl) T.n_abs (by decide +kernel) (fa_cons (fo_var 2) (fa_nil)))) (fo_callTy cd_int (by rfl) T.n_int (by decide +kernel) (fa_cons (fo_cmp od_lt (fo_var 2) (fo_int) (nomark _)) (fa_nil))))) (fo_int))) (fss_nil)))))) (fss_nil)) (fss_cons (fs_if (ft_cmp od_gt (fo_ix xd_ix (fo_var 0) (fo_int) (fun _ _ => rfl)) (fo_int) (nomark _)) (fss_cons (fs_set (i := 3) sc__law_draw.nd rfl (.inl rfl) (fn_of (fo_bin od_mod (fo_callTy cd_int (by rfl) T.n_int (by decide +kernel) (fa_cons (fo_ix xd_ix (fo_var 0) (fo_int) (fun _ _ => rfl)) (fa_nil))) (fo_var 1)))) (fss_cons (fs_setIxA 0 (fn_of (fo_bin od_fdiv (fo_ix xd_ix (fo_var 0) (fo_int) (fun _ _ => rfl)) (fo_var 1))) (fo_int)) (fss_one (fs_ret (fn_of (fo_var 3)))))) (fss_nil)) (fss_one (fs_ret (fn_of (fo_bin od_mod (fo_callTy cd_int (by rfl) T.n_int (by decide +kernel) (fa_cons (fo_bin od_fdiv (fo_call (ok__law_mixed T) (hr.mono (by decide)) (by rfl) T.g__law_mixed T.F__law_mixed.kp T.b__law_mixed tk rfl (fa_consE (fo_ix xd_ix (fo_var 0) (fo_int) (fun _ _ => rfl)) (fa_consE (fo_ix xd_ix (fo_var 0) (fo_int) (fun _ _ => rfl)) (fa_nil))) (alen_cons (alen_cons (alen_nil)))) (fo_int)) (fa_nil))) (fo_var 1)))))))
theorem ok__law_great (T : Txt K mg A FD) : FnOk P w K mg base (L2.CX P w) 3 (A 14) (FD 14) ["deck", "digits"] (spIO K 2 m__law_great) :=
  def_okIO T.F__law_great sc__law_great (by decide) fun cdv Ar outer s H E hr tk => by
    exact fss_cons (fs_set (i := 2) sc__law_great.nd rfl (.inl rfl) (fn_of (fo_int))) (fss_cons (fs_for (vs := [3]) (passes_of rfl) rfl (fi_range1 (by rfl) T.n_range (fa_cons (fo_bin od_add (fo_int) (fo_of (fn_callIO 0 (ok__law_draw T) (hr.mono (by decide)) (by rfl) T.g__law_draw T.F__law_draw.kp T.b__law_draw tk rfl (fa_cons (fo_var 0) (fa_consE (fo_var 1) (fa_nil))) (alen_io (alen_cons (alen_nil)))))) (fa_nil))) (fg_name (by simp) sc__law_great.nd rfl (.inl rfl)) (fss_one (fs_set (i := 2) sc__law_great.nd rfl (.inl rfl) (fn_of (fo_bin od_add (fo_bin od_mul (fo_var 2) (fo_int)) (fo_of (fn_callIO 0 (ok__law_draw T) (hr.mono (by decide)) (by rfl) T.g__law_draw T.F__law_draw.kp T.b__law_draw tk rfl (fa_cons (fo_var 0) (fa_consE (fo_int) (fa_nil))) (alen_io (alen_cons (alen_nil)))))))))) (fss_one (fs_ret (fn_of (fo_var 2)))))
theorem ok__law_lowest (T : Txt K mg A FD) : FnOk P w K mg base (L2.CX P w) 1 (A 15) (FD 15) ["top", "bottom"] (spP K mg 2 m__law_lowest) :=
  def_ok T.F__law_lowest sc__law_lowest (by decide) fun cdv Ar outer s H E hr tk => by
    exact fss_cons (fs_set (i := 2) sc__law_lowest.nd rfl (.inl rfl) (fn_of (fo_var 0))) (fss_cons (fs_set (i := 3) sc__law_lowest.nd rfl (.inl rfl) (fn_of (fo_var 1))) (fss_cons (fs_while (passes_of rfl) (ft_cmp od_gt (fo_var 3) (fo_int) (nomark _)) (fss_cons (fs_set (i := 4) sc__law_lowest.nd rfl (.inl rfl) (fn_of (fo_bin od_mod (fo_callTy cd_int (by rfl) T.n_int (by decide +kernel) (fa_cons (fo_var 2) (fa_nil))) (fo_var 3)))) (fss_cons (fs_set (i := 2) sc__law_lowest.nd rfl (.inl rfl) (fn_of (fo_var 3))) (fss_one (fs_set (i := 3) sc__law_lowest.nd rfl (.inl rfl) (fn_of (fo_var 4))))))) (fss_one (fs_ret (fn_of (fo_tup (fa_consE (fo_bin od_fdiv (fo_var 0) (fo_var 2)) (fa_consE (fo_bin od_fdiv (fo_var 1) (fo_var 2)) (fa_nil)))))))))
theorem ok__law_share (T : Txt K mg A FD) : FnOk P w K mg base (L2.CX P w) 4 (A 16) (FD 16) ["deck", "digits"] (spIO K 2 m__law_share) :=
  def_okIO T.F__law_share sc__law_share (by decide) fun cdv Ar outer s H E hr tk => by
    exact fss_one (fs_ret (fn_of (fo_call (ok__law_lowest T) (hr.mono (by decide)) (by rfl) T.g__law_lowest T.F__law_lowest.kp T.b__law_lowest tk rfl (fa_consE (fo_bin od_add (fo_int) (fo_of (fn_callIO 0 (ok__law_great T) (hr.mono (by decide)) (by rfl) T.g__law_great T.F__law_great.kp T.b__law_great tk rfl (fa_cons (fo_var 0) (fa_consE (fo_var 1) (fa_nil))) (alen_io (alen_cons (alen_nil)))))) (fa_consE (fo_bin od_add (fo_int) (fo_of (fn_callIO 0 (ok__law_great T) (hr.mono (by decide)) (by rfl) T.g__law_great T.F__law_great.kp T.b__law_great tk rfl (fa_cons (fo_var 0) (fa_consE (fo_var 1) (fa_nil))) (alen_io (alen_cons (alen_nil)))))) (fa_nil))) (alen_cons (alen_cons (alen_nil))))))
theorem ok__law_by (T : Txt K mg A FD) : FnOk P w K mg base (L2.CX P w) 2 (A 17) (FD 17) ["x", "y", "z"] (spP K mg 3 m__law_by) :=
  def_ok T.F__law_by sc__law_by (by decide) fun cdv Ar outer s H E hr tk => by
    exact fss_one (fs_ret (fn_of (fo_call (ok__law_lowest T) (hr.mono (by decide)) (by rfl) T.g__law_lowest T.F__law_lowest.kp T.b__law_lowest tk rfl (fa_consE (fo_bin od_mul (fo_bin od_mul (fo_ix xd_ix (fo_var 1) (fo_int) (fun _ _ => rfl)) (fo_ix xd_ix (fo_var 2) (fo_int) (fun _ _ => rfl))) (fo_ix xd_ix (fo_var 0) (fo_int) (fun _ _ => rfl))) (fa_consE (fo_bin od_mul (fo_bin od_mul (fo_ix xd_ix (fo_var 1) (fo_int) (fun _ _ => rfl)) (fo_ix xd_ix (fo_var 2) (fo_int) (fun _ _ => rfl))) (fo_ix xd_ix (fo_var 0) (fo_int) (fun _ _ => rfl))) (fa_nil))) (alen_cons (alen_cons (alen_nil))))))
theorem ok__law_refused (T : Txt K mg A FD) : FnOk P w K mg base (L2.CX P w) 5 (A 18) (FD 18) ["number", "one", "other", "third"] (spP K mg 4 m__law_refused) :=
  def_ok T.F__law_refused sc__law_refused (by decide) fun cdv Ar outer s H E hr tk => by
    have hu64 := hr.units
    exact fss_cons (fs_set (i := 4) sc__law_refused.nd rfl (.inl rfl) (fn_of (fo_str))) (fss_cons (fs_try rfl tk (fun _ _ _ tk hp => fss_cons (fs_if (ft_cmp (od_eq hu64) (fo_var 0) (fo_int) (nomark _)) (fss_one (fs_expr (fo_call (ok_sum_fourth T) (hr.mono (by decide)) (by rfl) T.g_sum_fourth T.F_sum_fourth.kp T.b_sum_fourth tk rfl (fa_consE (fo_var 1) (fa_consE (fo_var 2) (fa_consE (fo_var 3) (fa_nil)))) (alen_cons (alen_cons (alen_cons (alen_nil))))))) (fss_nil)) (fss_cons (fs_if (ft_cmp (od_eq hu64) (fo_var 0) (fo_int) (nomark _)) (fss_one (fs_expr (fo_call (ok_share_fourth T) (hr.mono (by decide)) (by rfl) T.g_share_fourth T.F_share_fourth.kp T.b_share_fourth tk rfl (fa_consE (fo_var 1) (fa_consE (fo_var 2) (fa_consE (fo_var 3) (fa_nil)))) (alen_cons (alen_cons (alen_cons (alen_nil))))))) (fss_nil)) (fss_one (fs_if (ft_cmp (od_eq hu64) (fo_var 0) (fo_int) (nomark _)) (fss_one (fs_expr (fo_call (ok_share_chain T) (hr.mono (by decide)) (by rfl) T.g_share_chain T.F_share_chain.kp T.b_share_chain tk rfl (fa_consE (fo_var 1) (fa_consE (fo_var 2) (fa_consE (fo_var 3) (fa_nil)))) (alen_cons (alen_cons (alen_cons (alen_nil))))))) (fss_nil))))) (.cons T.H_NoInteger (by rfl) (by decide) (fun _ _ _ => fss_one (fs_set (i := 4) sc__law_refused.nd rfl (.inl rfl) (fn_of (fo_str)))) (.cons T.H_NoShare (by rfl) (by decide) (fun _ _ _ => fss_one (fs_set (i := 4) sc__law_refused.nd rfl (.inl rfl) (fn_of (fo_str)))) (.cons T.H_NoNumber (by rfl) (by decide) (fun _ _ _ => fss_one (fs_set (i := 4) sc__law_refused.nd rfl (.inl rfl) (fn_of (fo_str)))) (.nil))))) (fss_one (fs_ret (fn_of (fo_var 4)))))
theorem ok__law_chain (T : Txt K mg A FD) : FnOk P w K mg base (L2.CX P w) 3 (A 19) (FD 19) ["x", "y", "n"] (spP K mg 3 m__law_chain) :=
  def_ok T.F__law_chain sc__law_chain (by decide) fun cdv Ar outer s H E hr tk => by
    exact fss_cons (fs_set (i := 3) sc__law_chain.nd rfl (.inl rfl) (fn_lst (fat_cons (fn_of (fo_var 0)) (fat_cons (fn_of (fo_var 1)) (fat_nil))))) (fss_cons (fs_for (vs := [4]) (passes_of rfl) rfl (fi_range1 (by rfl) T.n_range (fa_cons (fo_bin od_sub (fo_var 2) (fo_int)) (fa_nil))) (fg_name (by simp) sc__law_chain.nd rfl (.inl rfl)) (fss_one (fs_append 3 (fn_of (fo_call (ok__law_by T) (hr.mono (by decide)) (by rfl) T.g__law_by T.F__law_by.kp T.b__law_by tk rfl (fa_consE (fo_var 0) (fa_consE (fo_var 1) (fa_consE (fo_ix xd_ix (fo_var 3) (fo_un ud_neg (fo_int)) (fun _ _ => rfl)) (fa_nil)))) (alen_cons (alen_cons (alen_cons (alen_nil)))))) rfl))) (fss_one (fs_ret (fn_of (fo_callTy cd_tuple (by rfl) T.n_tuple (by decide +kernel) (fa_cons (fo_var 3) (fa_nil)))))))
theorem ok_law (T : Txt K mg A FD) : FnOk P w K mg base (L2.CX P w) 6 (A 20) (FD 20) ["script"] (spP K mg 1 m_law) :=
  def_ok T.F_law sc_law (by decide) fun cdv Ar outer s H E hr tk => by
    have hu64 := hr.units
    exact fss_cons (fs_set (i := 1) sc_law.nd rfl (.inl rfl) (fn_call (ok__law_deck T) (hr.mono (by decide)) (by rfl) T.g__law_deck T.F__law_deck.kp T.b__law_deck tk rfl (fa_consE (fo_var 0) (fa_nil)) (alen_cons (alen_nil)))) (fss_cons (fs_set (i := 2) sc_law.nd rfl (.inl rfl) (fn_lst (fat_nil))) (fss_cons (fs_for (vs := [3]) (passes_of rfl) rfl (fi_range1 (by rfl) T.n_range (fa_cons (fo_int) (fa_nil))) (fg_name (by simp) sc_law.nd rfl (.inl rfl)) (fss_one (fs_append 2 (fn_of (fo_bin od_mul (fo_of (fn_callIO 1 (ok__law_great T) (hr.mono (by decide)) (by rfl) T.g__law_great T.F__law_great.kp T.b__law_great tk rfl (fa_cons (fo_var 1) (fa_consE (fo_int) (fa_nil))) (alen_io (alen_cons (alen_nil))))) (fo_ix xd_ix (fo_of (fn_lst (fat_cons (fn_of (fo_int)) (fat_cons (fn_of (fo_bin od_sub (fo_int) (fo_int))) (fat_nil))))) (fo_of (fn_callIO 1 (ok__law_draw T) (hr.mono (by decide)) (by rfl) T.g__law_draw T.F__law_draw.kp T.b__law_draw tk rfl (fa_cons (fo_var 1) (fa_consE (fo_int) (fa_nil))) (alen_io (alen_cons (alen_nil))))) (fun _ _ => rfl)))) rfl))) (fss_cons (fs_unpack (vs := [4, 5, 6]) (fo_var 2) (fg_tup (us := [4, 5, 6]) rfl (fgs_cons (by simp) (pg_name (i := 4) sc_law.nd rfl (.inl rfl)) (fgs_cons (by simp) (pg_name (i := 5) sc_law.nd rfl (.inl rfl)) (fgs_cons (by simp) (pg_name (i := 6) sc_law.nd rfl (.inl rfl)) (fgs_nil)))))) (fss_cons (fs_set (i := 7) sc_law.nd rfl (.inl rfl) (fn_of (fo_bin od_sub (fo_bin od_add (fo_var 5) (fo_var 6)) (fo_var 4)))) (fss_cons (fs_if (PW.pt (fw_or (ft_cmp (od_ne hu64) (fo_call (ok_sum_fourth T) (hr.mono (by decide)) (by rfl) T.g_sum_fourth T.F_sum_fourth.kp T.b_sum_fourth tk rfl (fa_consE (fo_var 4) (fa_consE (fo_var 5) (fa_consE (fo_var 6) (fa_nil)))) (alen_cons (alen_cons (alen_cons (alen_nil))))) (fo_var 7) (nomark _)) (fw_or (ft_cmp (od_ne hu64) (fo_call (ok_sum_fourth T) (hr.mono (by decide)) (by rfl) T.g_sum_fourth T.F_sum_fourth.kp T.b_sum_fourth tk rfl (fa_consE (fo_var 4) (fa_consE (fo_var 6) (fa_consE (fo_var 5) (fa_nil)))) (alen_cons (alen_cons (alen_cons (alen_nil))))) (fo_var 7) (nomark _)) (fw_or1 (ft_truth (fo_callB cd_isinst (by rfl) T.n_isinstance (by decide +kernel) (fa_cons (fo_call (ok_sum_fourth T) (hr.mono (by decide)) (by rfl) T.g_sum_fourth T.F_sum_fourth.kp T.b_sum_fourth tk rfl (fa_consE (fo_var 4) (fa_consE (fo_var 5) (fa_consE (fo_var 6) (fa_nil)))) (alen_cons (alen_cons (alen_cons (alen_nil))))) (fa_cons (fo_ty (by rfl) T.n_bool (by decide +kernel)) (fa_nil))))))))) (fss_one (fs_ret (fn_of (fo_bl)))) (fss_nil)) (fss_cons (fs_if (PW.pt (fw_or (ft_cmp (od_ne hu64) (fo_call (ok_sum_fourth T) (hr.mono (by decide)) (by rfl) T.g_sum_fourth T.F_sum_fourth.kp T.b_sum_fourth tk rfl (fa_consE (fo_var 5) (fa_consE (fo_var 4) (fa_consE (fo_var 7) (fa_nil)))) (alen_cons (alen_cons (alen_cons (alen_nil))))) (fo_var 6) (nomark _)) (fw_or1 (ft_cmp (od_ne hu64) (fo_call (ok_sum_fourth T) (hr.mono (by decide)) (by rfl) T.g_sum_fourth T.F_sum_fourth.kp T.b_sum_fourth tk rfl (fa_consE (fo_var 7) (fa_consE (fo_var 5) (fa_consE (fo_var 6) (fa_nil)))) (alen_cons (alen_cons (alen_cons (alen_nil))))) (fo_var 4) (nomark _))))) (fss_one (fs_ret (fn_of (fo_bl)))) (fss_nil)) (fss_cons (fs_set (i := 8) sc_law.nd rfl (.inl rfl) (fn_lst (fat_cons (fn_of (fo_of (fn_callIO 1 (ok__law_share T) (hr.mono (by decide)) (by rfl) T.g__law_share T.F__law_share.kp T.b__law_share tk rfl (fa_cons (fo_var 1) (fa_consE (fo_int) (fa_nil))) (alen_io (alen_cons (alen_nil)))))) (fat_cons (fn_of (fo_of (fn_callIO 1 (ok__law_share T) (hr.mono (by decide)) (by rfl) T.g__law_share T.F__law_share.kp T.b__law_share tk rfl (fa_cons (fo_var 1) (fa_consE (fo_int) (fa_nil))) (alen_io (alen_cons (alen_nil)))))) (fat_cons (fn_of (fo_of (fn_callIO 1 (ok__law_share T) (hr.mono (by decide)) (by rfl) T.g__law_share T.F__law_share.kp T.b__law_share tk rfl (fa_cons (fo_var 1) (fa_consE (fo_int) (fa_nil))) (alen_io (alen_cons (alen_nil)))))) (fat_nil)))))) (fss_cons (fs_unpack (vs := [9, 10, 11]) (fo_var 8) (fg_tup (us := [9, 10, 11]) rfl (fgs_cons (by simp) (pg_name (i := 9) sc_law.nd rfl (.inr rfl)) (fgs_cons (by simp) (pg_name (i := 10) sc_law.nd rfl (.inr rfl)) (fgs_cons (by simp) (pg_name (i := 11) sc_law.nd rfl (.inl rfl)) (fgs_nil)))))) (fss_cons (fs_set (i := 12) sc_law.nd rfl (.inl rfl) (fn_of (fo_call (ok__law_by T) (hr.mono (by decide)) (by rfl) T.g__law_by T.F__law_by.kp T.b__law_by tk rfl (fa_consE (fo_var 9) (fa_consE (fo_var 10) (fa_consE (fo_var 11) (fa_nil)))) (alen_cons (alen_cons (alen_cons (alen_nil))))))) (fss_cons (fs_if (PW.pt (fw_or (ft_cmp (od_ne hu64) (fo_call (ok_share_fourth T) (hr.mono (by decide)) (by rfl) T.g_share_fourth T.F_share_fourth.kp T.b_share_fourth tk rfl (fa_consE (fo_var 9) (fa_consE (fo_var 10) (fa_consE (fo_var 11) (fa_nil)))) (alen_cons (alen_cons (alen_cons (alen_nil))))) (fo_var 12) (nomark _)) (fw_or1 (ft_cmp (od_ne hu64) (fo_call (ok_share_fourth T) (hr.mono (by decide)) (by rfl) T.g_share_fourth T.F_share_fourth.kp T.b_share_fourth tk rfl (fa_consE (fo_var 9) (fa_consE (fo_var 11) (fa_consE (fo_var 10) (fa_nil)))) (alen_cons (alen_cons (alen_cons (alen_nil))))) (fo_var 12) (nomark _))))) (fss_one (fs_ret (fn_of (fo_bl)))) (fss_nil)) (fss_cons (fs_if (PW.pt (fw_or (ft_cmp (od_ne hu64) (fo_call (ok_share_fourth T) (hr.mono (by decide)) (by rfl) T.g_share_fourth T.F_share_fourth.kp T.b_share_fourth tk rfl (fa_consE (fo_var 12) (fa_consE (fo_var 10) (fa_consE (fo_var 11) (fa_nil)))) (alen_cons (alen_cons (alen_cons (alen_nil))))) (fo_var 9) (nomark _)) (fw_or1 (ft_cmp (od_ne hu64) (fo_call (ok_share_fourth T) (hr.mono (by decide)) (by rfl) T.g_share_fourth T.F_share_fourth.kp T.b_share_fourth tk rfl (fa_consE (fo_var 10) (fa_consE (fo_var 9) (fa_consE (fo_var 12) (fa_nil)))) (alen_cons (alen_cons (alen_cons (alen_nil))))) (fo_var 11) (nomark _))))) (fss_one (fs_ret (fn_of (fo_bl)))) (fss_nil)) (fss_cons (fs_set (i := 13) sc_law.nd rfl (.inl rfl) (fn_of (fo_bin od_add (fo_int) (fo_of (fn_callIO 1 (ok__law_draw T) (hr.mono (by decide)) (by rfl) T.g__law_draw T.F__law_draw.kp T.b__law_draw tk rfl (fa_cons (fo_var 1) (fa_consE (fo_int) (fa_nil))) (alen_io (alen_cons (alen_nil)))))))) (fss_cons (fs_if (ft_cmp (od_ne hu64) (fo_call (ok_share_chain T) (hr.mono (by decide)) (by rfl) T.g_share_chain T.F_share_chain.kp T.b_share_chain tk rfl (fa_consE (fo_var 9) (fa_consE (fo_var 10) (fa_consE (fo_var 13) (fa_nil)))) (alen_cons (alen_cons (alen_cons (alen_nil))))) (fo_call (ok__law_chain T) (hr.mono (by decide)) (by rfl) T.g__law_chain T.F__law_chain.kp T.b__law_chain tk rfl (fa_consE (fo_var 9) (fa_consE (fo_var 10) (fa_consE (fo_var 13) (fa_nil)))) (alen_cons (alen_cons (alen_cons (alen_nil))))) (nomark _)) (fss_one (fs_ret (fn_of (fo_bl)))) (fss_nil)) (fss_cons (fs_set (i := 14) sc_law.nd rfl (.inl rfl) (fn_lst (fat_cons (fn_of (fo_of (fn_callIO 1 (ok__law_share T) (hr.mono (by decide)) (by rfl) T.g__law_share T.F__law_share.kp T.b__law_share tk rfl (fa_cons (fo_var 1) (fa_consE (fo_int) (fa_nil))) (alen_io (alen_cons (alen_nil)))))) (fat_cons (fn_of (fo_of (fn_callIO 1 (ok__law_share T) (hr.mono (by decide)) (by rfl) T.g__law_share T.F__law_share.kp T.b__law_share tk rfl (fa_cons (fo_var 1) (fa_consE (fo_int) (fa_nil))) (alen_io (alen_cons (alen_nil)))))) (fat_nil))))) (fss_cons (fs_set (i := 13) sc_law.nd rfl (.inl rfl) (fn_of (fo_bin od_add (fo_int) (fo_of (fn_callIO 1 (ok__law_draw T) (hr.mono (by decide)) (by rfl) T.g__law_draw T.F__law_draw.kp T.b__law_draw tk rfl (fa_cons (fo_var 1) (fa_consE (fo_int) (fa_nil))) (alen_io (alen_cons (alen_nil)))))))) (fss_cons (fs_set (i := 15) sc_law.nd rfl (.inl rfl) (fn_of (fo_call (ok_share_chain T) (hr.mono (by decide)) (by rfl) T.g_share_chain T.F_share_chain.kp T.b_share_chain tk rfl (fa_consE (fo_ix xd_ix (fo_var 14) (fo_int) (fun _ _ => rfl)) (fa_consE (fo_ix xd_ix (fo_var 14) (fo_int) (fun _ _ => rfl)) (fa_consE (fo_var 13) (fa_nil)))) (alen_cons (alen_cons (alen_cons (alen_nil))))))) (fss_cons (fs_if (ft_cmp (od_ne hu64) (fo_var 15) (fo_call (ok__law_chain T) (hr.mono (by decide)) (by rfl) T.g__law_chain T.F__law_chain.kp T.b__law_chain tk rfl (fa_consE (fo_ix xd_ix (fo_var 14) (fo_int) (fun _ _ => rfl)) (fa_consE (fo_ix xd_ix (fo_var 14) (fo_int) (fun _ _ => rfl)) (fa_consE (fo_var 13) (fa_nil)))) (alen_cons (alen_cons (alen_cons (alen_nil))))) (nomark _)) (fss_one (fs_ret (fn_of (fo_bl)))) (fss_nil)) (fss_cons (fs_for (vs := [16]) (passes_of rfl) rfl (fi_range2 (by rfl) T.n_range (fa_cons (fo_int) (fa_cons (fo_var 13) (fa_nil)))) (fg_name (by simp) sc_law.nd rfl (.inl rfl)) (fss_one (fs_if (ft_cmp (od_ne hu64) (fo_call (ok_share_fourth T) (hr.mono (by decide)) (by rfl) T.g_share_fourth T.F_share_fourth.kp T.b_share_fourth tk rfl (fa_consE (fo_ix xd_ix (fo_var 14) (fo_int) (fun _ _ => rfl)) (fa_consE (fo_ix xd_ix (fo_var 14) (fo_int) (fun _ _ => rfl)) (fa_consE (fo_ix xd_ix (fo_var 15) (fo_bin od_sub (fo_var 16) (fo_int)) (fun _ _ => rfl)) (fa_nil)))) (alen_cons (alen_cons (alen_cons (alen_nil))))) (fo_ix xd_ix (fo_var 15) (fo_var 16) (fun _ _ => rfl)) (nomark _)) (fss_one (fs_ret (fn_of (fo_bl)))) (fss_nil)))) (fss_cons (fs_for (vs := [17]) (passes_of rfl) rfl (fi_seq (fo_of (fn_lst (fat_cons (fn_of (fo_bl)) (fat_cons (fn_of (fo_str)) (fat_cons (fn_of (fo_non)) (fat_cons (fn_of (fo_tup (fa_consE (fo_int) (fa_consE (fo_int) (fa_nil))))) (fat_nil)))))))) (fg_name (by simp) sc_law.nd rfl (.inl rfl)) (fss_cons (fs_if (PW.pt (fw_or (ft_cmp (od_ne hu64) (fo_call (ok__law_refused T) (hr.mono (by decide)) (by rfl) T.g__law_refused T.F__law_refused.kp T.b__law_refused tk rfl (fa_consE (fo_int) (fa_consE (fo_var 17) (fa_consE (fo_var 5) (fa_consE (fo_var 6) (fa_nil))))) (alen_cons (alen_cons (alen_cons (alen_cons (alen_nil)))))) (fo_str) (nomark _)) (fw_or1 (ft_cmp (od_ne hu64) (fo_call (ok__law_refused T) (hr.mono (by decide)) (by rfl) T.g__law_refused T.F__law_refused.kp T.b__law_refused tk rfl (fa_consE (fo_int) (fa_consE (fo_var 4) (fa_consE (fo_var 17) (fa_consE (fo_var 6) (fa_nil))))) (alen_cons (alen_cons (alen_cons (alen_cons (alen_nil)))))) (fo_str) (nomark _))))) (fss_one (fs_ret (fn_of (fo_bl)))) (fss_nil)) (fss_one (fs_if (ft_cmp (od_ne hu64) (fo_call (ok__law_refused T) (hr.mono (by decide)) (by rfl) T.g__law_refused T.F__law_refused.kp T.b__law_refused tk rfl (fa_consE (fo_int) (fa_consE (fo_var 4) (fa_consE (fo_var 5) (fa_consE (fo_var 17) (fa_nil))))) (alen_cons (alen_cons (alen_cons (alen_cons (alen_nil)))))) (fo_str) (nomark _)) (fss_one (fs_ret (fn_of (fo_bl)))) (fss_nil))))) (fss_cons (fs_for (vs := [17]) (passes_of rfl) rfl (fi_seq (fo_of (fn_lst (fat_cons (fn_of (fo_tup (fa_consE (fo_int) (fa_consE (fo_int) (fa_nil))))) (fat_cons (fn_of (fo_tup (fa_consE (fo_int) (fa_consE (fo_int) (fa_nil))))) (fat_cons (fn_of (fo_tup (fa_consE (fo_bin od_sub (fo_int) (fo_int)) (fa_consE (fo_int) (fa_nil))))) (fat_cons (fn_of (fo_of (fn_lst (fat_cons (fn_of (fo_int)) (fat_cons (fn_of (fo_int)) (fat_nil)))))) (fat_cons (fn_of (fo_tup (fa_consE (fo_int) (fa_consE (fo_int) (fa_nil))))) (fat_cons (fn_of (fo_tup (fa_consE (fo_int) (fa_consE (fo_bl) (fa_nil))))) (fat_cons (fn_of (fo_tup (fa_consE (fo_int) (fa_nil)))) (fat_cons (fn_of (fo_non)) (fat_cons (fn_of (fo_int)) (fat_nil))))))))))))) (fg_name (by simp) sc_law.nd rfl (.inl rfl)) (fss_cons (fs_if (PW.pt (fw_or (ft_cmp (od_ne hu64) (fo_call (ok__law_refused T) (hr.mono (by decide)) (by rfl) T.g__law_refused T.F__law_refused.kp T.b__law_refused tk rfl (fa_consE (fo_int) (fa_consE (fo_var 17) (fa_consE (fo_var 10) (fa_consE (fo_var 11) (fa_nil))))) (alen_cons (alen_cons (alen_cons (alen_cons (alen_nil)))))) (fo_str) (nomark _)) (fw_or1 (ft_cmp (od_ne hu64) (fo_call (ok__law_refused T) (hr.mono (by decide)) (by rfl) T.g__law_refused T.F__law_refused.kp T.b__law_refused tk rfl (fa_consE (fo_int) (fa_consE (fo_var 9) (fa_consE (fo_var 17) (fa_consE (fo_var 11) (fa_nil))))) (alen_cons (alen_cons (alen_cons (alen_cons (alen_nil)))))) (fo_str) (nomark _))))) (fss_one (fs_ret (fn_of (fo_bl)))) (fss_nil)) (fss_cons (fs_if (PW.pt (fw_or (ft_cmp (od_ne hu64) (fo_call (ok__law_refused T) (hr.mono (by decide)) (by rfl) T.g__law_refused T.F__law_refused.kp T.b__law_refused tk rfl (fa_consE (fo_int) (fa_consE (fo_var 9) (fa_consE (fo_var 10) (fa_consE (fo_var 17) (fa_nil))))) (alen_cons (alen_cons (alen_cons (alen_cons (alen_nil)))))) (fo_str) (nomark _)) (fw_or1 (ft_cmp (od_ne hu64) (fo_call (ok__law_refused T) (hr.mono (by decide)) (by rfl) T.g__law_refused T.F__law_refused.kp T.b__law_refused tk rfl (fa_consE (fo_int) (fa_consE (fo_var 17) (fa_consE (fo_var 10) (fa_consE (fo_int) (fa_nil))))) (alen_cons (alen_cons (alen_cons (alen_cons (alen_nil)))))) (fo_str) (nomark _))))) (fss_one (fs_ret (fn_of (fo_bl)))) (fss_nil)) (fss_one (fs_if (ft_cmp (od_ne hu64) (fo_call (ok__law_refused T) (hr.mono (by decide)) (by rfl) T.g__law_refused T.F__law_refused.kp T.b__law_refused tk rfl (fa_consE (fo_int) (fa_consE (fo_var 9) (fa_consE (fo_var 17) (fa_consE (fo_int) (fa_nil))))) (alen_cons (alen_cons (alen_cons (alen_cons (alen_nil)))))) (fo_str) (nomark _)) (fss_one (fs_ret (fn_of (fo_bl)))) (fss_nil)))))) (fss_one (fs_ret (fn_of (fo_cmp (od_eq hu64) (fo_callB cd_len (by rfl) T.n_len (by decide +kernel) (fa_cons (fo_of (fn_lc (own := [("wrong", 17)]) rfl sc_law.nd (fi_seq (fo_of (fn_lst (fat_cons (fn_of (fo_int)) (fat_cons (fn_of (fo_int)) (fat_cons (fn_of (fo_int)) (fat_cons (fn_of (fo_bl)) (fat_cons (fn_of (fo_non)) (fat_cons (fn_of (fo_str)) (fat_nil)))))))))) (blkOk_by (N := N_law) (sc := defScope s_law) (by decide +kernel)) (fun _ _ _ _ _ => fg_name (by simp) sc_law.nd rfl (.inl rfl)) (fun _ _ _ _ _ => fts_one (ft_cmp (od_ne hu64) (fo_call (ok__law_refused T) (hr.mono (by decide)) (by rfl) T.g__law_refused T.F__law_refused.kp T.b__law_refused takes0 rfl (fa_consE (fo_int) (fa_consE (fo_var 9) (fa_consE (fo_var 10) (fa_consE (fo_var 17) (fa_nil))))) (alen_cons (alen_cons (alen_cons (alen_cons (alen_nil)))))) (fo_str) (nomark _))) (fun _ _ _ _ _ => fn_of (fo_var 17)))) (fa_nil))) (fo_int) (nomark _)))))))))))))))))))))))))
end
/-! ### the end -/
theorem all_mk {P : Program} {w : World} {K : PySem.W.Frag} {h : Heap} {mg : Str → Option Value} {fa : Addr} (X : K.In h) (G : h.Ns mainGlobals mg) (hfa : mg "law" = some (.ref fa))
    (D_is_integer : DI K "is_integer" s_is_integer)
    (D_is_within : DI K "is_within" s_is_within)
    (D_is_tuple : DI K "is_tuple" s_is_tuple)
    (D_divisor : DI K "divisor" s_divisor)
    (D_made : DI K "made" s_made)
    (D_sum_fourth : DI K "sum_fourth" s_sum_fourth)
    (D_is_share : DI K "is_share" s_is_share)
    (D_check_shares : DI K "check_shares" s_check_shares)
    (D_raw_share_fourth : DI K "raw_share_fourth" s_raw_share_fourth)
    (D_share_fourth : DI K "share_fourth" s_share_fourth)
    (D_share_chain : DI K "share_chain" s_share_chain)
    (D__law_deck : DI K "_law_deck" s__law_deck)
    (D__law_mixed : DI K "_law_mixed" s__law_mixed)
    (D__law_draw : DI K "_law_draw" s__law_draw)
    (D__law_great : DI K "_law_great" s__law_great)
    (D__law_lowest : DI K "_law_lowest" s__law_lowest)
    (D__law_share : DI K "_law_share" s__law_share)
    (D__law_by : DI K "_law_by" s__law_by)
    (D__law_refused : DI K "_law_refused" s__law_refused)
    (D__law_chain : DI K "_law_chain" s__law_chain)
    (D_law : DI K "law" s_law)
    (D_NoInteger : XI K "NoInteger")
    (D_NoNumber : XI K "NoNumber")
    (D_NoShare : XI K "NoShare")
    (E_NoInteger_NoInteger : EI K "NoInteger" "NoInteger" true)
    (E_NoNumber_NoInteger : EI K "NoNumber" "NoInteger" false)
    (E_NoShare_NoInteger : EI K "NoShare" "NoInteger" false)
    (E_NoInteger_NoNumber : EI K "NoInteger" "NoNumber" false)
    (E_NoNumber_NoNumber : EI K "NoNumber" "NoNumber" true)
    (E_NoShare_NoNumber : EI K "NoShare" "NoNumber" false)
    (E_NoInteger_NoShare : EI K "NoInteger" "NoShare" false)
    (E_NoNumber_NoShare : EI K "NoNumber" "NoShare" false)
    (E_NoShare_NoShare : EI K "NoShare" "NoShare" true)
    (D_MOST_CHAIN : GI K "MOST_CHAIN" c_MOST_CHAIN)
    (z_abs : PySem.W.nsIn K mainGlobals "abs" = some none)
    (z_bool : PySem.W.nsIn K mainGlobals "bool" = some none)
    (z_int : PySem.W.nsIn K mainGlobals "int" = some none)
    (z_isinstance : PySem.W.nsIn K mainGlobals "isinstance" = some none)
    (z_len : PySem.W.nsIn K mainGlobals "len" = some none)
    (z_range : PySem.W.nsIn K mainGlobals "range" = some none)
    (z_tuple : PySem.W.nsIn K mainGlobals "tuple" = some none)
    (hm : ∀ ns : List Int, ns.length ≤ 63 → m_law [.fz (ns.map .int)] = .ok (.bl true))
    : ∃ fd : FuncData, (∀ (s : Shared) (u : Value), BindsTo s fd ⟨[u], []⟩ [("script", u)]) ∧ ∀ base : Heap, K.In base → base.Ns mainGlobals mg → FnOk P w K mg base (L2.CX P w) 6 fa fd ["script"] (spL K) := by
  obtain ⟨f_is_integer, fd_is_integer, a_is_integer, F_is_integer⟩ := D_is_integer
  obtain ⟨f_is_within, fd_is_within, a_is_within, F_is_within⟩ := D_is_within
  obtain ⟨f_is_tuple, fd_is_tuple, a_is_tuple, F_is_tuple⟩ := D_is_tuple
  obtain ⟨f_divisor, fd_divisor, a_divisor, F_divisor⟩ := D_divisor
  obtain ⟨f_made, fd_made, a_made, F_made⟩ := D_made
  obtain ⟨f_sum_fourth, fd_sum_fourth, a_sum_fourth, F_sum_fourth⟩ := D_sum_fourth
  obtain ⟨f_is_share, fd_is_share, a_is_share, F_is_share⟩ := D_is_share
  obtain ⟨f_check_shares, fd_check_shares, a_check_shares, F_check_shares⟩ := D_check_shares
  obtain ⟨f_raw_share_fourth, fd_raw_share_fourth, a_raw_share_fourth, F_raw_share_fourth⟩ := D_raw_share_fourth
  obtain ⟨f_share_fourth, fd_share_fourth, a_share_fourth, F_share_fourth⟩ := D_share_fourth
  obtain ⟨f_share_chain, fd_share_chain, a_share_chain, F_share_chain⟩ := D_share_chain
  obtain ⟨f__law_deck, fd__law_deck, a__law_deck, F__law_deck⟩ := D__law_deck
  obtain ⟨f__law_mixed, fd__law_mixed, a__law_mixed, F__law_mixed⟩ := D__law_mixed
  obtain ⟨f__law_draw, fd__law_draw, a__law_draw, F__law_draw⟩ := D__law_draw
  obtain ⟨f__law_great, fd__law_great, a__law_great, F__law_great⟩ := D__law_great
  obtain ⟨f__law_lowest, fd__law_lowest, a__law_lowest, F__law_lowest⟩ := D__law_lowest
  obtain ⟨f__law_share, fd__law_share, a__law_share, F__law_share⟩ := D__law_share
  obtain ⟨f__law_by, fd__law_by, a__law_by, F__law_by⟩ := D__law_by
  obtain ⟨f__law_refused, fd__law_refused, a__law_refused, F__law_refused⟩ := D__law_refused
  obtain ⟨f__law_chain, fd__law_chain, a__law_chain, F__law_chain⟩ := D__law_chain
  obtain ⟨f_law, fd_law, a_law, F_law⟩ := D_law
  obtain ⟨f_NoInteger, a_NoInteger, q_NoInteger, k_NoInteger, b_NoInteger, t_NoInteger⟩ := D_NoInteger
  obtain ⟨f_NoNumber, a_NoNumber, q_NoNumber, k_NoNumber, b_NoNumber, t_NoNumber⟩ := D_NoNumber
  obtain ⟨f_NoShare, a_NoShare, q_NoShare, k_NoShare, b_NoShare, t_NoShare⟩ := D_NoShare
  obtain ⟨v_MOST_CHAIN, u_MOST_CHAIN, a_MOST_CHAIN, r_MOST_CHAIN, d_MOST_CHAIN⟩ := D_MOST_CHAIN
  have B_is_integer := F_is_integer.binds (ps := ["thing"]) fun _ _ _ _ _ _ us hl => match us, hl with | [_], _ => rfl
  have B_is_within := F_is_within.binds (ps := ["thing", "low", "high"]) fun _ _ _ _ _ _ us hl => match us, hl with | [_, _, _], _ => rfl
  have B_is_tuple := F_is_tuple.binds (ps := ["thing", "least", "most"]) fun _ _ _ _ _ _ us hl => match us, hl with | [_, _, _], _ => rfl
  have B_divisor := F_divisor.binds (ps := ["one", "other"]) fun _ _ _ _ _ _ us hl => match us, hl with | [_, _], _ => rfl
  have B_made := F_made.binds (ps := ["top", "bottom"]) fun _ _ _ _ _ _ us hl => match us, hl with | [_, _], _ => rfl
  have B_sum_fourth := F_sum_fourth.binds (ps := ["x", "y", "z"]) fun _ _ _ _ _ _ us hl => match us, hl with | [_, _, _], _ => rfl
  have B_is_share := F_is_share.binds (ps := ["thing"]) fun _ _ _ _ _ _ us hl => match us, hl with | [_], _ => rfl
  have B_check_shares := F_check_shares.binds (ps := ["shares"]) fun _ _ _ _ _ _ us hl => match us, hl with | [_], _ => rfl
  have B_raw_share_fourth := F_raw_share_fourth.binds (ps := ["x", "y", "z"]) fun _ _ _ _ _ _ us hl => match us, hl with | [_, _, _], _ => rfl
  have B_share_fourth := F_share_fourth.binds (ps := ["x", "y", "z"]) fun _ _ _ _ _ _ us hl => match us, hl with | [_, _, _], _ => rfl
  have B_share_chain := F_share_chain.binds (ps := ["x", "y", "n"]) fun _ _ _ _ _ _ us hl => match us, hl with | [_, _, _], _ => rfl
  have B__law_deck := F__law_deck.binds (ps := ["script"]) fun _ _ _ _ _ _ us hl => match us, hl with | [_], _ => rfl
  have B__law_mixed := F__law_mixed.binds (ps := ["number", "k"]) fun _ _ _ _ _ _ us hl => match us, hl with | [_, _], _ => rfl
  have B__law_draw := F__law_draw.binds (ps := ["deck", "many"]) fun _ _ _ _ _ _ us hl => match us, hl with | [_, _], _ => rfl
  have B__law_great := F__law_great.binds (ps := ["deck", "digits"]) fun _ _ _ _ _ _ us hl => match us, hl with | [_, _], _ => rfl
  have B__law_lowest := F__law_lowest.binds (ps := ["top", "bottom"]) fun _ _ _ _ _ _ us hl => match us, hl with | [_, _], _ => rfl
  have B__law_share := F__law_share.binds (ps := ["deck", "digits"]) fun _ _ _ _ _ _ us hl => match us, hl with | [_, _], _ => rfl
  have B__law_by := F__law_by.binds (ps := ["x", "y", "z"]) fun _ _ _ _ _ _ us hl => match us, hl with | [_, _, _], _ => rfl
  have B__law_refused := F__law_refused.binds (ps := ["number", "one", "other", "third"]) fun _ _ _ _ _ _ us hl => match us, hl with | [_, _, _, _], _ => rfl
  have B__law_chain := F__law_chain.binds (ps := ["x", "y", "n"]) fun _ _ _ _ _ _ us hl => match us, hl with | [_, _, _], _ => rfl
  have B_law := F_law.binds (ps := ["script"]) fun _ _ _ _ _ _ us hl => match us, hl with | [_], _ => rfl
  have T : Txt K mg (fun i => ([f_is_integer, f_is_within, f_is_tuple, f_divisor, f_made, f_sum_fourth, f_is_share, f_check_shares, f_raw_share_fourth, f_share_fourth, f_share_chain, f__law_deck, f__law_mixed, f__law_draw, f__law_great, f__law_lowest, f__law_share, f__law_by, f__law_refused, f__law_chain, f_law, f_NoInteger, f_NoNumber, f_NoShare] : List Addr).getD i 0) (fun i => ([fd_is_integer, fd_is_within, fd_is_tuple, fd_divisor, fd_made, fd_sum_fourth, fd_is_share, fd_check_shares, fd_raw_share_fourth, fd_share_fourth, fd_share_chain, fd__law_deck, fd__law_mixed, fd__law_draw, fd__law_great, fd__law_lowest, fd__law_share, fd__law_by, fd__law_refused, fd__law_chain, fd_law] : List FuncData).getD i fd_law) := {
    n_abs := PySem.W.mg_none_of X G z_abs
    n_bool := PySem.W.mg_none_of X G z_bool
    n_int := PySem.W.mg_none_of X G z_int
    n_isinstance := PySem.W.mg_none_of X G z_isinstance
    n_len := PySem.W.mg_none_of X G z_len
    n_range := PySem.W.mg_none_of X G z_range
    n_tuple := PySem.W.mg_none_of X G z_tuple
    F_is_integer := F_is_integer
    g_is_integer := PySem.W.mg_of X G a_is_integer
    b_is_integer := B_is_integer
    F_is_within := F_is_within
    g_is_within := PySem.W.mg_of X G a_is_within
    b_is_within := B_is_within
    F_is_tuple := F_is_tuple
    g_is_tuple := PySem.W.mg_of X G a_is_tuple
    b_is_tuple := B_is_tuple
    F_divisor := F_divisor
    g_divisor := PySem.W.mg_of X G a_divisor
    b_divisor := B_divisor
    F_made := F_made
    g_made := PySem.W.mg_of X G a_made
    b_made := B_made
    F_sum_fourth := F_sum_fourth
    g_sum_fourth := PySem.W.mg_of X G a_sum_fourth
    b_sum_fourth := B_sum_fourth
    F_is_share := F_is_share
    g_is_share := PySem.W.mg_of X G a_is_share
    b_is_share := B_is_share
    F_check_shares := F_check_shares
    g_check_shares := PySem.W.mg_of X G a_check_shares
    b_check_shares := B_check_shares
    F_raw_share_fourth := F_raw_share_fourth
    g_raw_share_fourth := PySem.W.mg_of X G a_raw_share_fourth
    b_raw_share_fourth := B_raw_share_fourth
    F_share_fourth := F_share_fourth
    g_share_fourth := PySem.W.mg_of X G a_share_fourth
    b_share_fourth := B_share_fourth
    F_share_chain := F_share_chain
    g_share_chain := PySem.W.mg_of X G a_share_chain
    b_share_chain := B_share_chain
    F__law_deck := F__law_deck
    g__law_deck := PySem.W.mg_of X G a__law_deck
    b__law_deck := B__law_deck
    F__law_mixed := F__law_mixed
    g__law_mixed := PySem.W.mg_of X G a__law_mixed
    b__law_mixed := B__law_mixed
    F__law_draw := F__law_draw
    g__law_draw := PySem.W.mg_of X G a__law_draw
    b__law_draw := B__law_draw
    F__law_great := F__law_great
    g__law_great := PySem.W.mg_of X G a__law_great
    b__law_great := B__law_great
    F__law_lowest := F__law_lowest
    g__law_lowest := PySem.W.mg_of X G a__law_lowest
    b__law_lowest := B__law_lowest
    F__law_share := F__law_share
    g__law_share := PySem.W.mg_of X G a__law_share
    b__law_share := B__law_share
    F__law_by := F__law_by
    g__law_by := PySem.W.mg_of X G a__law_by
    b__law_by := B__law_by
    F__law_refused := F__law_refused
    g__law_refused := PySem.W.mg_of X G a__law_refused
    b__law_refused := B__law_refused
    F__law_chain := F__law_chain
    g__law_chain := PySem.W.mg_of X G a__law_chain
    b__law_chain := B__law_chain
    F_law := F_law
    g_law := PySem.W.mg_of X G a_law
    b_law := B_law
    X_NoInteger := ⟨PySem.W.mg_of X G a_NoInteger, q_NoInteger, k_NoInteger, b_NoInteger, t_NoInteger⟩
    X_NoNumber := ⟨PySem.W.mg_of X G a_NoNumber, q_NoNumber, k_NoNumber, b_NoNumber, t_NoNumber⟩
    X_NoShare := ⟨PySem.W.mg_of X G a_NoShare, q_NoShare, k_NoShare, b_NoShare, t_NoShare⟩
    H_NoInteger := ⟨PySem.W.mg_of X G a_NoInteger, fun c hc Cc hCc => by
      simp only [xs_all, List.mem_cons, List.not_mem_nil, or_false] at hc
      rcases hc with rfl | rfl | rfl
      · cases (PySem.W.mg_of X G a_NoInteger).symm.trans hCc
        exact (E_NoInteger_NoInteger _ _ a_NoInteger a_NoInteger).trans (congrArg some (by decide +kernel))
      · cases (PySem.W.mg_of X G a_NoNumber).symm.trans hCc
        exact (E_NoNumber_NoInteger _ _ a_NoNumber a_NoInteger).trans (congrArg some (by decide +kernel))
      · cases (PySem.W.mg_of X G a_NoShare).symm.trans hCc
        exact (E_NoShare_NoInteger _ _ a_NoShare a_NoInteger).trans (congrArg some (by decide +kernel))⟩
    H_NoNumber := ⟨PySem.W.mg_of X G a_NoNumber, fun c hc Cc hCc => by
      simp only [xs_all, List.mem_cons, List.not_mem_nil, or_false] at hc
      rcases hc with rfl | rfl | rfl
      · cases (PySem.W.mg_of X G a_NoInteger).symm.trans hCc
        exact (E_NoInteger_NoNumber _ _ a_NoInteger a_NoNumber).trans (congrArg some (by decide +kernel))
      · cases (PySem.W.mg_of X G a_NoNumber).symm.trans hCc
        exact (E_NoNumber_NoNumber _ _ a_NoNumber a_NoNumber).trans (congrArg some (by decide +kernel))
      · cases (PySem.W.mg_of X G a_NoShare).symm.trans hCc
        exact (E_NoShare_NoNumber _ _ a_NoShare a_NoNumber).trans (congrArg some (by decide +kernel))⟩
    H_NoShare := ⟨PySem.W.mg_of X G a_NoShare, fun c hc Cc hCc => by
      simp only [xs_all, List.mem_cons, List.not_mem_nil, or_false] at hc
      rcases hc with rfl | rfl | rfl
      · cases (PySem.W.mg_of X G a_NoInteger).symm.trans hCc
        exact (E_NoInteger_NoShare _ _ a_NoInteger a_NoShare).trans (congrArg some (by decide +kernel))
      · cases (PySem.W.mg_of X G a_NoNumber).symm.trans hCc
        exact (E_NoNumber_NoShare _ _ a_NoNumber a_NoShare).trans (congrArg some (by decide +kernel))
      · cases (PySem.W.mg_of X G a_NoShare).symm.trans hCc
        exact (E_NoShare_NoShare _ _ a_NoShare a_NoShare).trans (congrArg some (by decide +kernel))⟩
    c_MOST_CHAIN := ⟨v_MOST_CHAIN, u_MOST_CHAIN, PySem.W.mg_of X G a_MOST_CHAIN, r_MOST_CHAIN, d_MOST_CHAIN⟩ }
  have e := hfa.symm.trans (PySem.W.mg_of X G a_law)
  cases e
  obtain ⟨oc, od, kV, doc, pm, an, cdv, ct, osl, rfl, lk, hcd⟩ := id F_law.ex
  exact ⟨_, fun s u => .of_eq rfl, fun base _ _ => (ok_law T).imp (law_imp hm)⟩
end W_k30

namespace W_k30
open PySem PySem.Spec PyProof.Rows L2 FL TL
theorem kc_MOST_CHAIN : c_MOST_CHAIN = cI 40 := by first | rfl | exact congrArg D.str (by decide +kernel) | (unfold c_MOST_CHAIN; simp only [cU, cS, List.map]; repeat (first | rfl | (congr 1; try decide +kernel)))
theorem t_is_integer (thing : D) : Sim (m_is_integer [cD thing]) (P.is_integer thing) cB := simP (Ps := [.vw (cD thing)]) rfl rfl (by unfold P.is_integer b_is_integer; exact J_eq (J_ret0 (fun _ _ => trivial) (N_of (X_and (X_isinst (X_var 0 cD thing rfl)) (X_not (X_isinst (X_var 0 cD thing rfl))))) (fun _ _ => rf_rt _ _)) (by first | rfl | simp only [Out.bind_assoc, Out.ok_bind]))
theorem t_is_tuple (thing : D) (least : Int) (most : Int) : Sim (m_is_tuple [cD thing, cI least, cI most]) (P.is_tuple thing least most) cB := simP (Ps := [.vw (cD thing), .vw (cI least), .vw (cI most)]) rfl rfl (by unfold P.is_tuple b_is_tuple; exact J_eq (J_ret0 (fun _ _ => trivial) (N_of (X_and (X_isinst (X_var 0 cD thing rfl)) (X_chain o_le o_le (X_var 1 cI least rfl) (X_B1 (cr := cI) b_lenD (X_var 0 cD thing rfl)) (X_var 2 cI most rfl)))) (fun _ _ => rf_rt _ _)) (by first | rfl | simp only [Out.bind_assoc, Out.ok_bind]))
theorem t_divisor (one : Int) (other : Int) : Sim (m_divisor [cI one, cI other]) (P.divisor one other) cI := simP (Ps := [.vw (cI one), .vw (cI other)]) rfl rfl (by unfold P.divisor b_divisor; exact J_jn (J_while (s0 := (one, other)) (c := fun ((one, other) : Int × Int) => (Out.ok (!decide (other = (0 : Int))))) (b := fun ((one, other) : Int × Int) => ((modR one other).bind fun v1 => Out.ok ((other, v1))).bind fun (one, other) => Out.ok (Lp.nx (one, other))) (fun (st_ : Int × Int) => [.vw (cI st_.1), .vw (cI st_.2)]) (fun _ _ _ => trivial) (.r (.r (.nil))) (fun ((one, other) : Int × Int) => by exact TJ_eq (T_v (X_bin (o_ne Fai.I) (X_var 1 cI other rfl) (X_i 0))) (by first | rfl | simp only [Out.bind_assoc, Out.ok_bind])) (fun ((one, other) : Int × Int) => by exact J_last (J_seq (J_eq (J_par (i := 0) (j := 1) (fun _ _ => trivial) rfl rfl (X_var 1 cI other rfl) (X_bin o_mod (X_B1 (cr := cI) b_int (X_var 0 cI one rfl)) (X_var 1 cI other rfl))) (by first | rfl | simp only [Out.bind_assoc, Out.ok_bind])) (fun (one, other) => by exact J_nil (a := (Lp.nx (one, other))) (fun _ h => rb_nx (LeS.er (.r (.r (.nil))) h)))))) (fun (one, other) => by exact J_eq (J_ret0 (fun _ _ => trivial) (N_of (X_var 0 cI one rfl)) (fun _ _ => rf_rt _ _)) (by first | rfl | simp only [Out.bind_assoc, Out.ok_bind])))
theorem t__law_deck (script : (List Int)) : SimT (m__law_deck [(cF cI) script]) (P.w_deck script) oK := simT (Ps := [.vw ((cF cI) script), .any]) rfl rfl (by unfold P.w_deck b__law_deck; exact J_eq (J_ret0 (fun _ _ => trivial) (N_K (N_of (X_ofL (N_lcA (e := fun (cell : Int) => cell) (by exact ⟨rfl, trivial⟩) (I_F (X_var 0 (cF cI) script rfl)) (fun x => G_n 1 rfl) (fun x => .r (.a (.nil))) (fun (cell : Int) => NJ_eq (N_of (X_B1 (cr := cI) b_int (X_var 1 cI cell rfl))) (by first | rfl | simp only [Out.bind_assoc, Out.ok_bind]))))) (N_of (X_i 0)) (N_of (X_i 0)) (N_of (X_i 0)) (N_of (X_i 0))) (fun _ _ => rt_rt _ _)) (by first | rfl | simp only [Out.bind_assoc, Out.ok_bind]))
theorem t__law_mixed (number : Int) (k : Int) : Sim (m__law_mixed [cI number, cI k]) (P.w_mixed number k) cI := simP (Ps := [.vw (cI number), .vw (cI k), .any]) rfl rfl (by unfold P.w_mixed b__law_mixed; exact J_seq (J_eq (J_setS (i := 2) (fun _ _ => trivial) rfl (N_of (X_bin o_mod (X_B1 (cr := cI) b_int (X_bin o_add (X_bin o_add (X_bin o_mul (X_B1 (cr := cI) b_int (X_var 0 cI number rfl)) (X_i 48271)) (X_bin o_mul (X_var 1 cI k rfl) (X_i 69621))) (X_i 7))) (X_i 2147483647)))) (by first | rfl | simp only [Out.bind_assoc, Out.ok_bind])) (fun (one : Int) => by exact J_seq (J_eq (J_setS (i := 2) (fun _ _ => trivial) rfl (N_of (X_bin o_mod (X_B1 (cr := cI) b_int (X_bin o_mul (X_var 2 cI one rfl) (X_bin o_add (X_bin o_div (X_var 2 cI one rfl) (X_i 1009)) (X_i 30103)))) (X_i 2147483629)))) (by first | rfl | simp only [Out.bind_assoc, Out.ok_bind])) (fun (one : Int) => by exact J_eq (J_ret0 (fun _ _ => trivial) (N_of (X_bin o_mod (X_B1 (cr := cI) b_int (X_bin o_mul (X_var 2 cI one rfl) (X_bin o_add (X_bin o_div (X_var 2 cI one rfl) (X_i 2003)) (X_i 40692)))) (X_i 2147483399))) (fun _ _ => rf_rt _ _)) (by first | rfl | simp only [Out.bind_assoc, Out.ok_bind]))))
theorem t__law_lowest (top : Int) (bottom : Int) : Sim (m__law_lowest [cI top, cI bottom]) (P.w_lowest top bottom) (c2 cI cI) := simP (Ps := [.vw (cI top), .vw (cI bottom), .any, .any, .any]) rfl rfl (by unfold P.w_lowest b__law_lowest; exact J_seq (J_eq (J_setS (i := 2) (fun _ _ => trivial) rfl (N_of (X_var 0 cI top rfl))) (by first | rfl | simp only [Out.bind_assoc, Out.ok_bind])) (fun (one : Int) => by exact J_seq (J_eq (J_setS (i := 3) (fun _ _ => trivial) rfl (N_of (X_var 1 cI bottom rfl))) (by first | rfl | simp only [Out.bind_assoc, Out.ok_bind])) (fun (other : Int) => by exact J_jn (J_while (s0 := (one, other)) (c := fun ((one, other) : Int × Int) => (Out.ok (decide ((0 : Int) < other)))) (b := fun ((one, other) : Int × Int) => (modR one other).bind fun (rest : Int) => (Out.ok other).bind fun (one : Int) => (Out.ok rest).bind fun (other : Int) => Out.ok (Lp.nx (one, other))) (fun (st_ : Int × Int) => [.vw (cI top), .vw (cI bottom), .vw (cI st_.1), .vw (cI st_.2), .any]) (fun _ _ _ => trivial) (.r (.r (.r (.r (.r (.nil)))))) (fun ((one, other) : Int × Int) => by exact TJ_eq (T_v (X_bin o_gt (X_var 3 cI other rfl) (X_i 0))) (by first | rfl | simp only [Out.bind_assoc, Out.ok_bind])) (fun ((one, other) : Int × Int) => by exact J_seq (J_eq (J_setS (i := 4) (fun _ _ => trivial) rfl (N_of (X_bin o_mod (X_B1 (cr := cI) b_int (X_var 2 cI one rfl)) (X_var 3 cI other rfl)))) (by first | rfl | simp only [Out.bind_assoc, Out.ok_bind])) (fun (rest : Int) => by exact J_seq (J_eq (J_setS (i := 2) (fun _ _ => trivial) rfl (N_of (X_var 3 cI other rfl))) (by first | rfl | simp only [Out.bind_assoc, Out.ok_bind])) (fun (one : Int) => by exact J_last (J_seq (J_eq (J_setS (i := 3) (fun _ _ => trivial) rfl (N_of (X_var 4 cI rest rfl))) (by first | rfl | simp only [Out.bind_assoc, Out.ok_bind])) (fun (other : Int) => by exact J_nil (a := (Lp.nx (one, other))) (fun _ h => rb_nx (LeS.er (.r (.r (.r (.r (.a (.nil)))))) h)))))))) (fun (one, other) => by exact J_eq (J_ret0 (fun _ _ => trivial) (N_of (X_tup (cr := (c2 cI cI)) (π := fun g => (g.1, g.2.1)) (n := 2) (AE_cons (X_bin o_div (X_var 0 cI top rfl) (X_var 2 cI one rfl)) (AE_cons (X_bin o_div (X_var 1 cI bottom rfl) (X_var 2 cI one rfl)) (AE_nil))) (fun _ => rfl) (by decide) (fun _ => rfl))) (fun _ _ => rf_rt _ _)) (by first | rfl | simp only [Out.bind_assoc, Out.ok_bind])))))
theorem t_is_within (thing : D) (low : Int) (high : Int) : Sim (m_is_within [cD thing, cI low, cI high]) (P.is_within thing low high) cB := simP (Ps := [.vw (cD thing), .vw (cI low), .vw (cI high)]) rfl rfl (by unfold P.is_within b_is_within; exact J_eq (J_ret0 (fun _ _ => trivial) (N_of (X_and (X_cl (AE_cons (X_var 0 cD thing rfl) (AE_nil)) (fun g => t_is_integer g.1)) (X_chain (o_opD D.le) (o_opD D.le) (X_dyn (X_var 1 cI low rfl)) (X_var 0 cD thing rfl) (X_dyn (X_var 2 cI high rfl))))) (fun _ _ => rf_rt _ _)) (by first | rfl | simp only [Out.bind_assoc, Out.ok_bind]))
theorem t_made (top : Int) (bottom : Int) : Sim (m_made [cI top, cI bottom]) (P.made top bottom) (c2 cI cI) := simP (Ps := [.vw (cI top), .vw (cI bottom), .any]) rfl rfl (by unfold P.made b_made; exact J_seq (J_eq (J_setS (i := 2) (fun _ _ => trivial) rfl (N_of (X_cl (AE_cons (X_var 0 cI top rfl) (AE_cons (X_var 1 cI bottom rfl) (AE_nil))) (fun g => t_divisor g.1 g.2.1)))) (by first | rfl | simp only [Out.bind_assoc, Out.ok_bind])) (fun (by_ : Int) => by exact J_eq (J_ret0 (fun _ _ => trivial) (N_of (X_tup (cr := (c2 cI cI)) (π := fun g => (g.1, g.2.1)) (n := 2) (AE_cons (X_bin o_div (X_var 0 cI top rfl) (X_var 2 cI by_ rfl)) (AE_cons (X_bin o_div (X_var 1 cI bottom rfl) (X_var 2 cI by_ rfl)) (AE_nil))) (fun _ => rfl) (by decide) (fun _ => rfl))) (fun _ _ => rf_rt _ _)) (by first | rfl | simp only [Out.bind_assoc, Out.ok_bind])))
theorem t_sum_fourth (x : D) (y : D) (z : D) : Sim (m_sum_fourth [cD x, cD y, cD z]) (P.sum_fourth x y z) cI := simP (Ps := [.vw (cD x), .vw (cD y), .vw (cD z), .any]) rfl rfl (by unfold P.sum_fourth b_sum_fourth; exact J_seq (J_eq (J_forS (s0 := ()) (b := fun (one : D) (_ : Unit) => ((P.is_integer one).bind fun v1 => Out.ok ((!v1))).bind fun v2 => if v2 = true then Out.exc "NoInteger" else Out.ok ()) (Bs := fun (ix_ : D) (st_ : Unit) => [.vw (cD x), .vw (cD y), .vw (cD z), .vw (cD ix_)]) (fun (st_ : Unit) => [.vw (cD x), .vw (cD y), .vw (cD z), .any]) (fun _ _ => trivial) (I_U (X_as (cr := (cU cD)) (k := fun g => [g.1, g.2.1, g.2.2]) (X_tup (cr := (c3 cD cD cD)) (π := fun g => (g.1, g.2.1, g.2.2.1)) (n := 3) (AE_cons (X_var 0 cD x rfl) (AE_cons (X_var 1 cD y rfl) (AE_cons (X_var 2 cD z rfl) (AE_nil)))) (fun _ => rfl) (by decide) (fun _ => rfl)) (fun _ => rfl))) (.r (.r (.r (.r (.nil))))) (fun x s => G_n 3 rfl) (fun (one : D) (_ : Unit) => by exact J_last (J_guard (fun _ _ => trivial) (TJ_eq (T_not (T_tB (X_cl (AE_cons (X_var 3 cD one rfl) (AE_nil)) (fun g => t_is_integer g.1)))) (by first | rfl | simp only [Out.bind_assoc, Out.ok_bind])) (J_raise (fun _ _ => trivial)) (J_nil (a := ()) (fun _ h => rc_nx (LeS.er (.r (.r (.r (.a (.nil))))) h)))))) (by first | rfl | simp only [Out.bind_assoc, Out.ok_bind])) (fun _ => by exact J_eq (J_ret0 (fun _ _ => trivial) (N_of (X_bin o_sub (X_bin o_add (X_dn dn_I (X_var 1 cD y rfl)) (X_dn dn_I (X_var 2 cD z rfl))) (X_dn dn_I (X_var 0 cD x rfl)))) (fun _ _ => rf_rt _ _)) (by first | rfl | simp only [Out.bind_assoc, Out.ok_bind])))
theorem t_is_share (thing : D) : Sim (m_is_share [cD thing]) (P.is_share thing) cB := simP (Ps := [.vw (cD thing)]) rfl rfl (by unfold P.is_share b_is_share; exact J_guard (fun _ _ => trivial) (TJ_eq (T_or (T_not (T_tB (X_cl (AE_cons (X_var 0 cD thing rfl) (AE_cons (X_i 2) (AE_cons (X_i 2) (AE_nil)))) (fun g => t_is_tuple g.1 g.2.1 g.2.2.1)))) (T_or (T_not (T_tB (X_cl (AE_cons (X_bin o_ixD (X_var 0 cD thing rfl) (X_i 0)) (AE_nil)) (fun g => t_is_integer g.1)))) (T_not (T_tB (X_cl (AE_cons (X_bin o_ixD (X_var 0 cD thing rfl) (X_i 1)) (AE_nil)) (fun g => t_is_integer g.1)))))) (by first | rfl | simp only [Out.bind_assoc, Out.ok_bind])) (J_eq (J_ret0 (fun _ _ => trivial) (N_of (X_b false)) (fun _ _ => rx_rt (rf_rt _ _))) (by first | rfl | simp only [Out.bind_assoc, Out.ok_bind])) (J_eq (J_ret0 (fun _ _ => trivial) (N_of (X_and (X_bin (o_opD D.gt) (X_bin o_ixD (X_var 0 cD thing rfl) (X_i 0)) (X_dyn (X_i 0))) (X_and (X_bin (o_opD D.gt) (X_bin o_ixD (X_var 0 cD thing rfl) (X_i 1)) (X_dyn (X_i 0))) (X_bin (o_eq Fai.I) (X_cl (AE_cons (X_dn dn_I (X_bin o_ixD (X_var 0 cD thing rfl) (X_i 0))) (AE_cons (X_dn dn_I (X_bin o_ixD (X_var 0 cD thing rfl) (X_i 1))) (AE_nil))) (fun g => t_divisor g.1 g.2.1)) (X_i 1))))) (fun _ _ => rf_rt _ _)) (by first | rfl | simp only [Out.bind_assoc, Out.ok_bind])))
theorem t__law_draw (many : Int) : SimIO m__law_draw tsK [cI many] (P.w_draw many) (oS cI) := simIO (Ps := fun b deck => [.own (oA b deck), .vw (cI many), .any, .any]) rfl (fun _ _ => rfl) (fun b deck => by unfold P.w_draw b__law_draw; exact J_seq (J_eq (J_setKA (b := b) (k := 3) (u := fun a => (deck.1, deck.2.1, deck.2.2.1, a, deck.2.2.2.2)) (fun _ _ => trivial) rfl (N_of (X_bin o_add (X_prj (cr := cI) (π := fun p => p.2.2.2.1) (X_own 0 cK deck rfl (oA_top _ _)) (fun _ => rfl)) (X_i 1))) (by decide) (fun _ => rfl)) (by first | rfl | simp only [Out.bind_assoc, Out.ok_bind])) (fun deck => by exact J_seq (J_ifp (R := Rn (fun (st_ : Dck) => [.own (oA b st_), .vw (cI many), .any, .any])) (fun _ _ => trivial) (TJ_eq (T_andp (T_v (X_bin (o_eq Fai.I) (X_prj (cr := cI) (π := fun p => p.2.2.1) (X_own 0 cK deck rfl (oA_top _ _)) (fun _ => rfl)) (X_i 0))) (T_v (X_bin o_lt (X_prj (cr := cI) (π := fun p => p.2.1) (X_own 0 cK deck rfl (oA_top _ _)) (fun _ => rfl)) (X_B1 (cr := cI) b_lenL (X_prj (cr := (cL cI)) (π := fun p => p.1) (X_own 0 cK deck rfl (oA_top _ _)) (fun _ => rfl)))))) (by first | rfl | simp only [Out.bind_assoc, Out.ok_bind])) (J_seq (J_eq (J_setS (i := 2) (fun _ _ => trivial) rfl (N_of (X_bin o_ixL (X_prj (cr := (cL cI)) (π := fun p => p.1) (X_own 0 cK deck rfl (oA_top _ _)) (fun _ => rfl)) (X_prj (cr := cI) (π := fun p => p.2.1) (X_own 0 cK deck rfl (oA_top _ _)) (fun _ => rfl))))) (by first | rfl | simp only [Out.bind_assoc, Out.ok_bind])) (fun (cell : Int) => by exact J_seq (J_eq (J_setKA (b := b) (k := 1) (u := fun a => (deck.1, a, deck.2.2.1, deck.2.2.2.1, deck.2.2.2.2)) (fun _ _ => trivial) rfl (N_of (X_bin o_add (X_prj (cr := cI) (π := fun p => p.2.1) (X_own 0 cK deck rfl (oA_top _ _)) (fun _ => rfl)) (X_i 1))) (by decide) (fun _ => rfl)) (by first | rfl | simp only [Out.bind_assoc, Out.ok_bind])) (fun deck => by exact J_seq (J_eq (J_setKA (b := b) (k := 4) (u := fun a => (deck.1, deck.2.1, deck.2.2.1, deck.2.2.2.1, a)) (fun _ _ => trivial) rfl (N_of (X_bin o_mod (X_B1 (cr := cI) b_int (X_bin o_add (X_bin o_mul (X_prj (cr := cI) (π := fun p => p.2.2.2.2) (X_own 0 cK deck rfl (oA_top _ _)) (fun _ => rfl)) (X_i 31)) (X_var 2 cI cell rfl))) (X_i 2147483647))) (by decide) (fun _ => rfl)) (by first | rfl | simp only [Out.bind_assoc, Out.ok_bind])) (fun deck => by exact J_if (fun _ _ => trivial) (TJ_eq (T_v (X_bin o_ge (X_B1 (cr := cI) b_abs (X_var 2 cI cell rfl)) (X_bin o_pow (X_i 10) (X_i 18)))) (by first | rfl | simp only [Out.bind_assoc, Out.ok_bind])) (J_last (J_seq (J_eq (J_setKA (b := b) (k := 2) (u := fun a => (deck.1, deck.2.1, a, deck.2.2.2.1, deck.2.2.2.2)) (fun _ _ => trivial) rfl (N_of (X_bin o_add (X_bin o_mul (X_i 2) (X_B1 (cr := cI) b_abs (X_var 2 cI cell rfl))) (X_B1 (cr := cI) b_intB (X_bin o_lt (X_var 2 cI cell rfl) (X_i 0))))) (by decide) (fun _ => rfl)) (by first | rfl | simp only [Out.bind_assoc, Out.ok_bind])) (fun deck => by exact J_nilN (a := deck) (.r (.r (.a (.r (.nil)))))))) (J_nilN (a := deck) (.r (.r (.a (.r (.nil)))))))))) (J_nilN (a := deck) (.r (.r (.r (.r (.nil))))))) (fun deck => by exact J_guardp (fun _ _ => trivial) (TJ_eq (T_v (X_bin o_gt (X_prj (cr := cI) (π := fun p => p.2.2.1) (X_own 0 cK deck rfl (oA_top _ _)) (fun _ => rfl)) (X_i 0))) (by first | rfl | simp only [Out.bind_assoc, Out.ok_bind])) (J_seq (J_eq (J_setS (i := 3) (fun _ _ => trivial) rfl (N_of (X_bin o_mod (X_B1 (cr := cI) b_int (X_prj (cr := cI) (π := fun p => p.2.2.1) (X_own 0 cK deck rfl (oA_top _ _)) (fun _ => rfl))) (X_var 1 cI many rfl)))) (by first | rfl | simp only [Out.bind_assoc, Out.ok_bind])) (fun (digit : Int) => by exact J_seq (J_eq (J_setKA (b := b) (k := 2) (u := fun a => (deck.1, deck.2.1, a, deck.2.2.2.1, deck.2.2.2.2)) (fun _ _ => trivial) rfl (N_of (X_bin o_div (X_prj (cr := cI) (π := fun p => p.2.2.1) (X_own 0 cK deck rfl (oA_top _ _)) (fun _ => rfl)) (X_var 1 cI many rfl))) (by decide) (fun _ => rfl)) (by first | rfl | simp only [Out.bind_assoc, Out.ok_bind])) (fun deck => by exact J_eq (J_retE (k := fun a => (a, deck)) (fun _ _ => trivial) (N_of (X_var 3 cI digit rfl)) (fun a ρ_ h => rx_rt (rio_rt h))) (by first | rfl | simp only [Out.bind_assoc, Out.ok_bind])))) (J_eq (J_retE (k := fun a => (a, deck)) (fun _ _ => trivial) (N_of (X_bin o_mod (X_B1 (cr := cI) b_int (X_bin o_div (X_cl (AE_cons (X_prj (cr := cI) (π := fun p => p.2.2.2.2) (X_own 0 cK deck rfl (oA_top _ _)) (fun _ => rfl)) (AE_cons (X_prj (cr := cI) (π := fun p => p.2.2.2.1) (X_own 0 cK deck rfl (oA_top _ _)) (fun _ => rfl)) (AE_nil))) (fun g => t__law_mixed g.1 g.2.1)) (X_i 7))) (X_var 1 cI many rfl))) (fun a ρ_ h => rio_rt h)) (by first | rfl | simp only [Out.bind_assoc, Out.ok_bind])))))
theorem t__law_by (x : (Int × Int)) (y : (Int × Int)) (z : (Int × Int)) : Sim (m__law_by [(c2 cI cI) x, (c2 cI cI) y, (c2 cI cI) z]) (P.w_by x y z) (c2 cI cI) := simP (Ps := [.vw ((c2 cI cI) x), .vw ((c2 cI cI) y), .vw ((c2 cI cI) z)]) rfl rfl (by unfold P.w_by b__law_by; exact J_eq (J_ret0 (fun _ _ => trivial) (N_of (X_cl (AE_cons (X_bin o_mul (X_bin o_mul (X_prj (cr := cI) (π := fun p => p.1) (X_var 1 (c2 cI cI) y rfl) (fun _ => rfl)) (X_prj (cr := cI) (π := fun p => p.1) (X_var 2 (c2 cI cI) z rfl) (fun _ => rfl))) (X_prj (cr := cI) (π := fun p => p.2) (X_var 0 (c2 cI cI) x rfl) (fun _ => rfl))) (AE_cons (X_bin o_mul (X_bin o_mul (X_prj (cr := cI) (π := fun p => p.2) (X_var 1 (c2 cI cI) y rfl) (fun _ => rfl)) (X_prj (cr := cI) (π := fun p => p.2) (X_var 2 (c2 cI cI) z rfl) (fun _ => rfl))) (X_prj (cr := cI) (π := fun p => p.1) (X_var 0 (c2 cI cI) x rfl) (fun _ => rfl))) (AE_nil))) (fun g => t__law_lowest g.1 g.2.1))) (fun _ _ => rf_rt _ _)) (by first | rfl | simp only [Out.bind_assoc, Out.ok_bind]))
theorem t_check_shares (shares : (List D)) : Sim (m_check_shares [(cL cD) shares]) (P.check_shares shares) cN := simP (Ps := [.vw ((cL cD) shares), .any]) rfl rfl (by unfold P.check_shares b_check_shares; exact J_last (J_seq (J_eq (J_forS (s0 := ()) (b := fun (share : D) (_ : Unit) => ((P.is_share share).bind fun v1 => Out.ok ((!v1))).bind fun v2 => if v2 = true then Out.exc "NoShare" else Out.ok ()) (Bs := fun (ix_ : D) (st_ : Unit) => [.vw ((cL cD) shares), .vw (cD ix_)]) (fun (st_ : Unit) => [.vw ((cL cD) shares), .any]) (fun _ _ => trivial) (I_L (X_var 0 (cL cD) shares rfl)) (.r (.r (.nil))) (fun x s => G_n 1 rfl) (fun (share : D) (_ : Unit) => by exact J_last (J_guard (fun _ _ => trivial) (TJ_eq (T_not (T_tB (X_cl (AE_cons (X_var 1 cD share rfl) (AE_nil)) (fun g => t_is_share g.1)))) (by first | rfl | simp only [Out.bind_assoc, Out.ok_bind])) (J_raise (fun _ _ => trivial)) (J_nil (a := ()) (fun _ h => rc_nx (LeS.er (.r (.a (.nil))) h)))))) (by first | rfl | simp only [Out.bind_assoc, Out.ok_bind])) (fun _ => by exact J_nil (fun _ _ => rf_nx _))))
theorem t_raw_share_fourth (x : (Int × Int)) (y : (Int × Int)) (z : (Int × Int)) : Sim (m_raw_share_fourth [(c2 cI cI) x, (c2 cI cI) y, (c2 cI cI) z]) (P.raw_share_fourth x y z) (c2 cI cI) := simP (Ps := [.vw ((c2 cI cI) x), .vw ((c2 cI cI) y), .vw ((c2 cI cI) z)]) rfl rfl (by unfold P.raw_share_fourth b_raw_share_fourth; exact J_eq (J_ret0 (fun _ _ => trivial) (N_of (X_cl (AE_cons (X_bin o_mul (X_bin o_mul (X_prj (cr := cI) (π := fun p => p.1) (X_var 1 (c2 cI cI) y rfl) (fun _ => rfl)) (X_prj (cr := cI) (π := fun p => p.1) (X_var 2 (c2 cI cI) z rfl) (fun _ => rfl))) (X_prj (cr := cI) (π := fun p => p.2) (X_var 0 (c2 cI cI) x rfl) (fun _ => rfl))) (AE_cons (X_bin o_mul (X_bin o_mul (X_prj (cr := cI) (π := fun p => p.2) (X_var 1 (c2 cI cI) y rfl) (fun _ => rfl)) (X_prj (cr := cI) (π := fun p => p.2) (X_var 2 (c2 cI cI) z rfl) (fun _ => rfl))) (X_prj (cr := cI) (π := fun p => p.1) (X_var 0 (c2 cI cI) x rfl) (fun _ => rfl))) (AE_nil))) (fun g => t_made g.1 g.2.1))) (fun _ _ => rf_rt _ _)) (by first | rfl | simp only [Out.bind_assoc, Out.ok_bind]))
theorem t__law_great (digits : Int) : SimIO m__law_great tsK [cI digits] (P.w_great digits) (oS cI) := simIO (Ps := fun b deck => [.own (oA b deck), .vw (cI digits), .any, .any]) rfl (fun _ _ => rfl) (fun b deck => by unfold P.w_great b__law_great; exact J_seq (J_eq (J_setS (i := 2) (fun _ _ => trivial) rfl (N_of (X_i 0))) (by first | rfl | simp only [Out.bind_assoc, Out.ok_bind])) (fun (found : Int) => by exact J_seq (J_eq (J_forSM (Ps := fun (deck : Dck) => [.own (oA b deck), .vw (cI digits), .vw (cI found), .any]) (s := deck) (s0 := fun deck => (deck, found)) (b := fun (__ : Int) ((deck, found) : Dck × Int) => ((M.bd (M.up (mulR found (10 : Int))) fun v3 => M.bd (M.nx (P.w_draw (10 : Int))) fun v4 => M.rt ((v3 + v4))) deck).bind fun ((found : Int), deck) => Out.ok (deck, found)) (Bs := fun (ix_ : Int) (st_ : Dck × Int) => [.own (oA b st_.1), .vw (cI digits), .vw (cI st_.2), .vw (cI ix_)]) (fun (st_ : Dck × Int) => [.own (oA b st_.1), .vw (cI digits), .vw (cI st_.2), .any]) (fun _ _ _ => trivial) (IM_eq (IM_r1 (XM_bin o_add (XM_up (dkA (b := b) (i := 0)) (fun deck => X_i 1)) (XM_ofS (NM_io (ts := tsK) (t := (oS cI)) (dkA (b := b) (i := 0)) isA (AM_cons (XM_up (dkA (b := b) (i := 0)) (fun deck => X_var 1 cI digits rfl)) (AM_nil)) (fun g => t__law_draw g.1))))) (by first | rfl | simp only [M.bd_assoc, M.rt_bd, M.up_ok, M.up_bind])) (fun deck => .r (.r (.r (.r (.nil))))) (fun x s => G_n 3 rfl) (fun (__ : Int) ((deck, found) : Dck × Int) => by exact J_last (J_seq (J_eq (J_setSM (Ps := fun (deck : Dck) => [.own (oA b deck), .vw (cI digits), .vw (cI found), .vw (cI __)]) (s := deck) (j := 2) (fun _ _ _ => trivial) (fun _ => (show 2 < 4 by decide)) (NM_eq (NM_of (XM_bin o_add (XM_up (e := mulR found (10 : Int)) (dkA (b := b) (i := 0)) (fun deck => X_eq (X_bin o_mul (X_var 2 cI found rfl) (X_i 10)) (by first | rfl | simp only [Out.bind_assoc, Out.ok_bind]))) (XM_ofS (NM_io (ts := tsK) (t := (oS cI)) (dkA (b := b) (i := 0)) isA (AM_cons (XM_up (dkA (b := b) (i := 0)) (fun deck => X_i 10)) (AM_nil)) (fun g => t__law_draw g.1))))) (by first | rfl | simp only [M.bd_assoc, M.rt_bd, M.up_ok, M.up_bind]))) (by first | rfl | simp only [M.bd_ap, M.rt_ap, M.up_ap, Out.bind_assoc, Out.ok_bind])) (fun ((found : Int), deck) => by exact J_nil (a := (deck, found)) (fun _ h => rc_nx (LeS.er (.r (.r (.r (.a (.nil))))) h)))))) (by first | rfl | simp only [M.bd_ap, M.rt_ap, M.up_ap, Out.bind_assoc, Out.ok_bind])) (fun (deck, found) => by exact J_eq (J_retE (k := fun a => (a, deck)) (fun _ _ => trivial) (N_of (X_var 2 cI found rfl)) (fun a ρ_ h => rio_rt h)) (by first | rfl | simp only [Out.bind_assoc, Out.ok_bind]))))
theorem t__law_chain (x : (Int × Int)) (y : (Int × Int)) (n : Int) : Sim (m__law_chain [(c2 cI cI) x, (c2 cI cI) y, cI n]) (P.w_chain x y n) (cU (c2 cI cI)) := simP (Ps := [.vw ((c2 cI cI) x), .vw ((c2 cI cI) y), .vw (cI n), .any, .any]) rfl rfl (by unfold P.w_chain b__law_chain; exact J_seq (J_eq (J_setLO (i := 3) (fun _ _ => trivial) rfl (N_lstn (ca := (c2 cI cI)) (NK_cons (N_of (X_var 0 (c2 cI cI) x rfl)) (NK_cons (N_of (X_var 1 (c2 cI cI) y rfl)) (NK_nil))) (by decide))) (by first | rfl | simp only [Out.bind_assoc, Out.ok_bind])) (fun (found : (List (Int × Int))) => by exact J_seq (J_eq (J_forS (s0 := found) (b := fun (__ : Int) (found : (List (Int × Int))) => (((atR found (-1)).bind fun v1 => P.w_by x y v1).bind fun v2 => appR found v2).bind fun found => Out.ok found) (Bs := fun (ix_ : Int) (st_ : (List (Int × Int))) => [.vw ((c2 cI cI) x), .vw ((c2 cI cI) y), .vw (cI n), .own (oL (c2 cI cI) st_), .vw (cI ix_)]) (fun (st_ : (List (Int × Int))) => [.vw ((c2 cI cI) x), .vw ((c2 cI cI) y), .vw (cI n), .own (oL (c2 cI cI) st_), .any]) (fun _ _ => trivial) (I_r1 (X_bin o_sub (X_var 2 cI n rfl) (X_i 2))) (.r (.r (.r (.r (.r (.nil)))))) (fun x s => G_n 4 rfl) (fun (__ : Int) (found : (List (Int × Int))) => by exact J_last (J_seq (J_eq (J_app (i := 3) (fun _ _ => trivial) rfl (N_of (X_cl (AE_cons (X_var 0 (c2 cI cI) x rfl) (AE_cons (X_var 1 (c2 cI cI) y rfl) (AE_cons (X_bin o_ixL (X_own 3 (cL (c2 cI cI)) found rfl (oL_top _ _)) (X_un u_neg (X_i 1))) (AE_nil)))) (fun g => t__law_by g.1 g.2.1 g.2.2.1)))) (by first | rfl | simp only [Out.bind_assoc, Out.ok_bind])) (fun found => by exact J_nil (a := found) (fun _ h => rc_nx (LeS.er (.r (.r (.r (.r (.a (.nil)))))) h)))))) (by first | rfl | simp only [Out.bind_assoc, Out.ok_bind])) (fun found => by exact J_eq (J_ret0 (fun _ _ => trivial) (N_of (X_B1 (cr := (cU (c2 cI cI))) b_tupL (X_own 3 (cL (c2 cI cI)) found rfl (oL_top _ _)))) (fun _ _ => rf_rt _ _)) (by first | rfl | simp only [Out.bind_assoc, Out.ok_bind]))))
theorem t_share_fourth (x : D) (y : D) (z : D) : Sim (m_share_fourth [cD x, cD y, cD z]) (P.share_fourth x y z) (c2 cI cI) := simP (Ps := [.vw (cD x), .vw (cD y), .vw (cD z)]) rfl rfl (by unfold P.share_fourth b_share_fourth; exact J_seq (J_eq (J_expr (fun _ _ => trivial) (X_cl (AE_cons (X_ofL (N_lstn (ca := cD) (NK_cons (N_of (X_var 0 cD x rfl)) (NK_cons (N_of (X_var 1 cD y rfl)) (NK_cons (N_of (X_var 2 cD z rfl)) (NK_nil)))) (by decide))) (AE_nil)) (fun g => t_check_shares g.1))) (by first | rfl | simp only [Out.bind_assoc, Out.ok_bind])) (fun _ => by exact J_eq (J_ret0 (fun _ _ => trivial) (N_of (X_cl (AE_cons (X_dn (dn_2 dn_I dn_I) (X_var 0 cD x rfl)) (AE_cons (X_dn (dn_2 dn_I dn_I) (X_var 1 cD y rfl)) (AE_cons (X_dn (dn_2 dn_I dn_I) (X_var 2 cD z rfl)) (AE_nil)))) (fun g => t_raw_share_fourth g.1 g.2.1 g.2.2.1))) (fun _ _ => rf_rt _ _)) (by first | rfl | simp only [Out.bind_assoc, Out.ok_bind])))
theorem t_share_chain (x : D) (y : D) (n : D) : Sim (m_share_chain [cD x, cD y, cD n]) (P.share_chain x y n) (cU (c2 cI cI)) := simP (Ps := [.vw (cD x), .vw (cD y), .vw (cD n), .any, .any]) rfl rfl (by unfold P.share_chain b_share_chain; exact J_seq (J_eq (J_expr (fun _ _ => trivial) (X_cl (AE_cons (X_ofL (N_lstn (ca := cD) (NK_cons (N_of (X_var 0 cD x rfl)) (NK_cons (N_of (X_var 1 cD y rfl)) (NK_nil))) (by decide))) (AE_nil)) (fun g => t_check_shares g.1))) (by first | rfl | simp only [Out.bind_assoc, Out.ok_bind])) (fun _ => by exact J_guard (fun _ _ => trivial) (TJ_eq (T_not (T_tB (X_cl (AE_cons (X_var 2 cD n rfl) (AE_cons (X_i 2) (AE_cons (X_c cI 40 kc_MOST_CHAIN) (AE_nil)))) (fun g => t_is_within g.1 g.2.1 g.2.2.1)))) (by first | rfl | simp only [Out.bind_assoc, Out.ok_bind])) (J_raise (fun _ _ => trivial)) (J_seq (J_eq (J_setLO (i := 3) (fun _ _ => trivial) rfl (N_lstn (ca := (c2 cI cI)) (NK_cons (N_of (X_dn (dn_2 dn_I dn_I) (X_var 0 cD x rfl))) (NK_cons (N_of (X_dn (dn_2 dn_I dn_I) (X_var 1 cD y rfl))) (NK_nil))) (by decide))) (by first | rfl | simp only [Out.bind_assoc, Out.ok_bind])) (fun (found : (List (Int × Int))) => by exact J_seq (J_eq (J_forS (s0 := found) (b := fun (turn : Int) (found : (List (Int × Int))) => ((((as2 asI asI) x).bind fun v6 => ((as2 asI asI) y).bind fun v7 => (atR found (-1)).bind fun v8 => P.raw_share_fourth v6 v7 v8).bind fun v9 => appR found v9).bind fun found => Out.ok found) (Bs := fun (ix_ : Int) (st_ : (List (Int × Int))) => [.vw (cD x), .vw (cD y), .vw (cD n), .own (oL (c2 cI cI) st_), .vw (cI ix_)]) (fun (st_ : (List (Int × Int))) => [.vw (cD x), .vw (cD y), .vw (cD n), .own (oL (c2 cI cI) st_), .any]) (fun _ _ => trivial) (I_r1 (X_bin o_sub (X_dn dn_I (X_var 2 cD n rfl)) (X_i 2))) (.r (.r (.r (.r (.r (.nil)))))) (fun x s => G_n 4 rfl) (fun (turn : Int) (found : (List (Int × Int))) => by exact J_last (J_seq (J_eq (J_app (i := 3) (fun _ _ => trivial) rfl (N_of (X_cl (AE_cons (X_dn (dn_2 dn_I dn_I) (X_var 0 cD x rfl)) (AE_cons (X_dn (dn_2 dn_I dn_I) (X_var 1 cD y rfl)) (AE_cons (X_bin o_ixL (X_own 3 (cL (c2 cI cI)) found rfl (oL_top _ _)) (X_un u_neg (X_i 1))) (AE_nil)))) (fun g => t_raw_share_fourth g.1 g.2.1 g.2.2.1)))) (by first | rfl | simp only [Out.bind_assoc, Out.ok_bind])) (fun found => by exact J_nil (a := found) (fun _ h => rc_nx (LeS.er (.r (.r (.r (.r (.a (.nil)))))) h)))))) (by first | rfl | simp only [Out.bind_assoc, Out.ok_bind])) (fun found => by exact J_eq (J_ret0 (fun _ _ => trivial) (N_of (X_B1 (cr := (cU (c2 cI cI))) b_tupL (X_own 3 (cL (c2 cI cI)) found rfl (oL_top _ _)))) (fun _ _ => rf_rt _ _)) (by first | rfl | simp only [Out.bind_assoc, Out.ok_bind]))))))
theorem t__law_share (digits : Int) : SimIO m__law_share tsK [cI digits] (P.w_share digits) (oS (c2 cI cI)) := simIO (Ps := fun b deck => [.own (oA b deck), .vw (cI digits)]) rfl (fun _ _ => rfl) (fun b deck => by unfold P.w_share b__law_share; exact J_eq (J_retM (Ps := fun (deck : Dck) => [.own (oA b deck), .vw (cI digits)]) (s := deck) (k := fun p => (p.1, p.2)) (fun _ _ _ => trivial) (NM_eq (NM_of (XM_cl (AM_cons (XM_bin o_add (XM_up (dkA (b := b) (i := 0)) (fun deck => X_i 1)) (XM_ofS (NM_io (ts := tsK) (t := (oS cI)) (dkA (b := b) (i := 0)) isA (AM_cons (XM_up (dkA (b := b) (i := 0)) (fun deck => X_var 1 cI digits rfl)) (AM_nil)) (fun g => t__law_great g.1)))) (AM_cons (XM_bin o_add (XM_up (dkA (b := b) (i := 0)) (fun deck => X_i 1)) (XM_ofS (NM_io (ts := tsK) (t := (oS cI)) (dkA (b := b) (i := 0)) isA (AM_cons (XM_up (dkA (b := b) (i := 0)) (fun deck => X_var 1 cI digits rfl)) (AM_nil)) (fun g => t__law_great g.1)))) (AM_nil))) (fun g => t__law_lowest g.1 g.2.1))) (by first | rfl | simp only [M.bd_assoc, M.rt_bd, M.up_ok, M.up_bind])) (fun a deck ρ_ h => rio_rt h)) (by first | rfl | simp only [M.bd_ap, M.rt_ap, M.up_ap, Out.bind_assoc, Out.ok_bind]))
theorem t__law_refused (number : Int) (one : D) (other : D) (third : D) : Sim (m__law_refused [cI number, cD one, cD other, cD third]) (P.w_refused number one other third) cS := simP (Ps := [.vw (cI number), .vw (cD one), .vw (cD other), .vw (cD third), .any]) rfl rfl (by unfold P.w_refused b__law_refused; exact J_seq (J_eq (J_setS (i := 4) (fun _ _ => trivial) rfl (N_of (X_s [110, 111, 110, 101] (by decide +kernel)))) (by first | rfl | simp only [Out.bind_assoc, Out.ok_bind])) (fun (told : (List Nat)) => by exact J_seq (J_try (Qs := [.vw (cI number), .vw (cD one), .vw (cD other), .vw (cD third), .vw (cS told)]) (R := Rn (fun (st_ : (List Nat)) => [.vw (cI number), .vw (cD one), .vw (cD other), .vw (cD third), .vw (cS st_)])) (fun _ _ => trivial) (J_seq (J_ifp (R := Rn (fun (st_ : Unit) => [.vw (cI number), .vw (cD one), .vw (cD other), .vw (cD third), .vw (cS told)])) (fun _ h => LeS.er (.r (.r (.r (.r (.r (.nil)))))) h) (TJ_eq (T_v (X_bin (o_eq Fai.I) (X_var 0 cI number rfl) (X_i 0))) (by first | rfl | simp only [Out.bind_assoc, Out.ok_bind])) (J_last (J_seq (J_eq (J_expr (fun _ h => LeS.er (.r (.r (.r (.r (.r (.nil)))))) h) (X_cl (AE_cons (X_var 1 cD one rfl) (AE_cons (X_var 2 cD other rfl) (AE_cons (X_var 3 cD third rfl) (AE_nil)))) (fun g => t_sum_fourth g.1 g.2.1 g.2.2.1))) (by first | rfl | simp only [Out.bind_assoc, Out.ok_bind])) (fun _ => by exact J_nilN (a := ()) (.r (.r (.r (.r (.r (.nil))))))))) (J_nilN (a := ()) (.r (.r (.r (.r (.r (.nil)))))))) (fun _ => by exact J_seq (J_ifp (R := Rn (fun (st_ : Unit) => [.vw (cI number), .vw (cD one), .vw (cD other), .vw (cD third), .vw (cS told)])) (fun _ h => LeS.er (.r (.r (.r (.r (.r (.nil)))))) h) (TJ_eq (T_v (X_bin (o_eq Fai.I) (X_var 0 cI number rfl) (X_i 1))) (by first | rfl | simp only [Out.bind_assoc, Out.ok_bind])) (J_last (J_seq (J_eq (J_expr (fun _ h => LeS.er (.r (.r (.r (.r (.r (.nil)))))) h) (X_cl (AE_cons (X_var 1 cD one rfl) (AE_cons (X_var 2 cD other rfl) (AE_cons (X_var 3 cD third rfl) (AE_nil)))) (fun g => t_share_fourth g.1 g.2.1 g.2.2.1))) (by first | rfl | simp only [Out.bind_assoc, Out.ok_bind])) (fun _ => by exact J_nilN (a := ()) (.r (.r (.r (.r (.r (.nil))))))))) (J_nilN (a := ()) (.r (.r (.r (.r (.r (.nil)))))))) (fun _ => by exact J_ifp (fun _ h => LeS.er (.r (.r (.r (.r (.r (.nil)))))) h) (TJ_eq (T_v (X_bin (o_eq Fai.I) (X_var 0 cI number rfl) (X_i 2))) (by first | rfl | simp only [Out.bind_assoc, Out.ok_bind])) (J_last (J_seq (J_eq (J_expr (fun _ h => LeS.er (.r (.r (.r (.r (.r (.nil)))))) h) (X_cl (AE_cons (X_var 1 cD one rfl) (AE_cons (X_var 2 cD other rfl) (AE_cons (X_var 3 cD third rfl) (AE_nil)))) (fun g => t_share_chain g.1 g.2.1 g.2.2.1))) (by first | rfl | simp only [Out.bind_assoc, Out.ok_bind])) (fun _ => by exact J_nilN (a := told) (.r (.r (.r (.r (.r (.nil))))))))) (J_nilN (a := told) (.r (.r (.r (.r (.r (.nil)))))))))) (by decide) (.cons (by decide) (J_last (J_seq (J_eq (J_setS (i := 4) (fun _ _ => trivial) rfl (N_of (X_s [105, 110, 116, 101, 103, 101, 114] (by decide +kernel)))) (by first | rfl | simp only [Out.bind_assoc, Out.ok_bind])) (fun (told : (List Nat)) => by exact J_nilN (a := told) (.r (.r (.r (.r (.r (.nil))))))))) (.cons (by decide) (J_last (J_seq (J_eq (J_setS (i := 4) (fun _ _ => trivial) rfl (N_of (X_s [115, 104, 97, 114, 101] (by decide +kernel)))) (by first | rfl | simp only [Out.bind_assoc, Out.ok_bind])) (fun (told : (List Nat)) => by exact J_nilN (a := told) (.r (.r (.r (.r (.r (.nil))))))))) (.cons (by decide) (J_last (J_seq (J_eq (J_setS (i := 4) (fun _ _ => trivial) rfl (N_of (X_s [110, 117, 109, 98, 101, 114] (by decide +kernel)))) (by first | rfl | simp only [Out.bind_assoc, Out.ok_bind])) (fun (told : (List Nat)) => by exact J_nilN (a := told) (.r (.r (.r (.r (.r (.nil))))))))) (.nil))))) (fun told => by exact J_eq (J_ret0 (fun _ _ => trivial) (N_of (X_var 4 cS told rfl)) (fun _ _ => rf_rt _ _)) (by first | rfl | simp only [Out.bind_assoc, Out.ok_bind]))))
theorem t_law (script : (List Int)) : Sim (m_law [(cF cI) script]) (P.law_3 script) cB := simP (Ps := [.vw ((cF cI) script), .any, .any, .any, .any, .any, .any, .any, .any, .any, .any, .any, .any, .any, .any, .any, .any, .any]) rfl rfl (by unfold P.law_3 b_law; exact J_seq (J_eq (J_setK0 (j := 1) (fun _ _ => trivial) rfl (N_cl (AE_cons (X_var 0 (cF cI) script rfl) (AE_nil)) (fun g => t__law_deck g.1))) (by first | rfl | simp only [Out.bind_assoc, Out.ok_bind])) (fun (deck : Dck) => by exact J_seq (J_eq (J_setLO (i := 2) (fun _ _ => trivial) rfl (N_lstn (ca := cI) (NK_nil) (by decide))) (by first | rfl | simp only [Out.bind_assoc, Out.ok_bind])) (fun (whole : (List Int)) => by exact J_seq (J_eq (J_forS (s0 := (deck, whole)) (b := fun (__ : Int) ((deck, whole) : Dck × (List Int)) => (((M.bd (M.nx (P.w_great (60 : Int))) fun v2 => M.bd (M.bd (M.nx (P.w_draw (2 : Int))) fun v1 => M.up (atR ([(1 : Int), ((0 : Int) - (1 : Int))] : List Int) v1)) fun v3 => M.up (mulR v2 v3)) deck).bind fun (v4, deck) => (appR whole v4).bind fun r => Out.ok (r, deck)).bind fun (whole, deck) => Out.ok (deck, whole)) (Bs := fun (ix_ : Int) (st_ : Dck × (List Int)) => [.vw ((cF cI) script), .own (oK st_.1), .own (oL cI st_.2), .vw (cI ix_), .any, .any, .any, .any, .any, .any, .any, .any, .any, .any, .any, .any, .any, .any]) (fun (st_ : Dck × (List Int)) => [.vw ((cF cI) script), .own (oK st_.1), .own (oL cI st_.2), .any, .any, .any, .any, .any, .any, .any, .any, .any, .any, .any, .any, .any, .any, .any]) (fun _ _ => trivial) (I_r1 (X_i 3)) (.r (.r (.r (.r (.r (.r (.r (.r (.r (.r (.r (.r (.r (.r (.r (.r (.r (.r (.nil))))))))))))))))))) (fun x s => G_n 3 rfl) (fun (__ : Int) ((deck, whole) : Dck × (List Int)) => by exact J_last (J_seq (J_eq (J_appM (Ps := fun (deck : Dck) => [.vw ((cF cI) script), .own (oK deck), .own (oL cI whole), .vw (cI __), .any, .any, .any, .any, .any, .any, .any, .any, .any, .any, .any, .any, .any, .any]) (s := deck) (i := 2) (fun _ _ _ => trivial) (fun _ => rfl) (NM_eq (NM_of (XM_bin o_mul (XM_ofS (NM_io (ts := tsK) (t := (oS cI)) (dkK (i := 1)) isK (AM_cons (XM_up (dkK (i := 1)) (fun deck => X_i 60)) (AM_nil)) (fun g => t__law_great g.1))) (XM_bin o_ixL (XM_up (dkK (i := 1)) (fun deck => X_ofL (N_lstn (ca := cI) (NK_cons (N_of (X_i 1)) (NK_cons (N_of (X_bin o_sub (X_i 0) (X_i 1))) (NK_nil))) (by decide)))) (XM_ofS (NM_io (ts := tsK) (t := (oS cI)) (dkK (i := 1)) isK (AM_cons (XM_up (dkK (i := 1)) (fun deck => X_i 2)) (AM_nil)) (fun g => t__law_draw g.1)))))) (by first | rfl | simp only [M.bd_assoc, M.rt_bd, M.up_ok, M.up_bind]))) (by first | rfl | simp only [M.bd_ap, M.rt_ap, M.up_ap, Out.bind_assoc, Out.ok_bind])) (fun (whole, deck) => by exact J_nil (a := (deck, whole)) (fun _ h => rc_nx (LeS.er (.r (.r (.r (.a (.r (.r (.r (.r (.r (.r (.r (.r (.r (.r (.r (.r (.r (.r (.nil))))))))))))))))))) h)))))) (by first | rfl | simp only [Out.bind_assoc, Out.ok_bind])) (fun (deck, whole) => by exact J_le (Qs := [.vw ((cF cI) script), .own (oK deck), .vw ((cL cI) whole), .any, .any, .any, .any, .any, .any, .any, .any, .any, .any, .any, .any, .any, .any, .any]) (.r (.r (.v (oL_top _ _) (.r (.r (.r (.r (.r (.r (.r (.r (.r (.r (.r (.r (.r (.r (.r (.nil))))))))))))))))))) (J_seq (J_eq (J_unpG (n := 3) (fun _ _ => trivial) (X_var 2 (cL cI) whole rfl) (sqL cI) (unp3_pi cI) (fun p => Gs_cons (G_n 4 rfl) (Gs_cons (G_n 5 rfl) (Gs_cons (G_n 6 rfl) (Gs_nil))))) (by first | rfl | simp only [Out.bind_assoc, Out.ok_bind])) (fun (x, y, z) => by exact J_seq (J_eq (J_setS (i := 7) (fun _ _ => trivial) rfl (N_of (X_bin o_sub (X_bin o_add (X_var 5 cI y rfl) (X_var 6 cI z rfl)) (X_var 4 cI x rfl)))) (by first | rfl | simp only [Out.bind_assoc, Out.ok_bind])) (fun (fourth : Int) => by exact J_guard (fun _ _ => trivial) (TJ_eq (T_or (T_v (X_bin (o_ne Fai.I) (X_cl (AE_cons (X_dyn (X_var 4 cI x rfl)) (AE_cons (X_dyn (X_var 5 cI y rfl)) (AE_cons (X_dyn (X_var 6 cI z rfl)) (AE_nil)))) (fun g => t_sum_fourth g.1 g.2.1 g.2.2.1)) (X_var 7 cI fourth rfl))) (T_or (T_v (X_bin (o_ne Fai.I) (X_cl (AE_cons (X_dyn (X_var 4 cI x rfl)) (AE_cons (X_dyn (X_var 6 cI z rfl)) (AE_cons (X_dyn (X_var 5 cI y rfl)) (AE_nil)))) (fun g => t_sum_fourth g.1 g.2.1 g.2.2.1)) (X_var 7 cI fourth rfl))) (T_tB (X_isinst (X_dyn (X_cl (AE_cons (X_dyn (X_var 4 cI x rfl)) (AE_cons (X_dyn (X_var 5 cI y rfl)) (AE_cons (X_dyn (X_var 6 cI z rfl)) (AE_nil)))) (fun g => t_sum_fourth g.1 g.2.1 g.2.2.1))))))) (by first | rfl | simp only [Out.bind_assoc, Out.ok_bind])) (J_eq (J_ret0 (fun _ _ => trivial) (N_of (X_b false)) (fun _ _ => rx_rt (rf_rt _ _))) (by first | rfl | simp only [Out.bind_assoc, Out.ok_bind])) (J_guard (fun _ _ => trivial) (TJ_eq (T_or (T_v (X_bin (o_ne Fai.I) (X_cl (AE_cons (X_dyn (X_var 5 cI y rfl)) (AE_cons (X_dyn (X_var 4 cI x rfl)) (AE_cons (X_dyn (X_var 7 cI fourth rfl)) (AE_nil)))) (fun g => t_sum_fourth g.1 g.2.1 g.2.2.1)) (X_var 6 cI z rfl))) (T_v (X_bin (o_ne Fai.I) (X_cl (AE_cons (X_dyn (X_var 7 cI fourth rfl)) (AE_cons (X_dyn (X_var 5 cI y rfl)) (AE_cons (X_dyn (X_var 6 cI z rfl)) (AE_nil)))) (fun g => t_sum_fourth g.1 g.2.1 g.2.2.1)) (X_var 4 cI x rfl)))) (by first | rfl | simp only [Out.bind_assoc, Out.ok_bind])) (J_eq (J_ret0 (fun _ _ => trivial) (N_of (X_b false)) (fun _ _ => rx_rt (rf_rt _ _))) (by first | rfl | simp only [Out.bind_assoc, Out.ok_bind])) (J_seq (J_eq (J_setLVM (Ps := fun (deck : Dck) => [.vw ((cF cI) script), .own (oK deck), .vw ((cL cI) whole), .any, .vw (cI x), .vw (cI y), .vw (cI z), .vw (cI fourth), .any, .any, .any, .any, .any, .any, .any, .any, .any, .any]) (s := deck) (j := 8) (fun _ _ _ => trivial) (fun _ => (show 8 < 18 by decide)) (NM_eq (NM_lstn (ca := (c2 cI cI)) (NKM_cons (NM_of (XM_ofS (NM_io (ts := tsK) (t := (oS (c2 cI cI))) (dkK (i := 1)) isK (AM_cons (XM_up (dkK (i := 1)) (fun deck => X_i 9)) (AM_nil)) (fun g => t__law_share g.1)))) (NKM_cons (NM_of (XM_ofS (NM_io (ts := tsK) (t := (oS (c2 cI cI))) (dkK (i := 1)) isK (AM_cons (XM_up (dkK (i := 1)) (fun deck => X_i 9)) (AM_nil)) (fun g => t__law_share g.1)))) (NKM_cons (NM_of (XM_ofS (NM_io (ts := tsK) (t := (oS (c2 cI cI))) (dkK (i := 1)) isK (AM_cons (XM_up (dkK (i := 1)) (fun deck => X_i 9)) (AM_nil)) (fun g => t__law_share g.1)))) (NKM_nil)))) (by decide)) (by first | rfl | simp only [M.bd_assoc, M.rt_bd, M.up_ok, M.up_bind]))) (by first | rfl | simp only [M.bd_ap, M.rt_ap, M.up_ap, Out.bind_assoc, Out.ok_bind])) (fun ((shares : (List (Int × Int))), deck) => by exact J_seq (J_eq (J_unpG (n := 3) (fun _ _ => trivial) (X_var 8 (cL (c2 cI cI)) shares rfl) (sqL (c2 cI cI)) (unp3_pi (c2 cI cI)) (fun p => Gs_cons (G_n 9 rfl) (Gs_cons (G_n 10 rfl) (Gs_cons (G_n 11 rfl) (Gs_nil))))) (by first | rfl | simp only [Out.bind_assoc, Out.ok_bind])) (fun (one, other, third) => by exact J_seq (J_eq (J_setS (i := 12) (fun _ _ => trivial) rfl (N_of (X_cl (AE_cons (X_var 9 (c2 cI cI) one rfl) (AE_cons (X_var 10 (c2 cI cI) other rfl) (AE_cons (X_var 11 (c2 cI cI) third rfl) (AE_nil)))) (fun g => t__law_by g.1 g.2.1 g.2.2.1)))) (by first | rfl | simp only [Out.bind_assoc, Out.ok_bind])) (fun (due : (Int × Int)) => by exact J_guard (fun _ _ => trivial) (TJ_eq (T_or (T_v (X_bin (o_ne (Fai.t2 Fai.I Fai.I)) (X_cl (AE_cons (X_dyn (X_var 9 (c2 cI cI) one rfl)) (AE_cons (X_dyn (X_var 10 (c2 cI cI) other rfl)) (AE_cons (X_dyn (X_var 11 (c2 cI cI) third rfl)) (AE_nil)))) (fun g => t_share_fourth g.1 g.2.1 g.2.2.1)) (X_var 12 (c2 cI cI) due rfl))) (T_v (X_bin (o_ne (Fai.t2 Fai.I Fai.I)) (X_cl (AE_cons (X_dyn (X_var 9 (c2 cI cI) one rfl)) (AE_cons (X_dyn (X_var 11 (c2 cI cI) third rfl)) (AE_cons (X_dyn (X_var 10 (c2 cI cI) other rfl)) (AE_nil)))) (fun g => t_share_fourth g.1 g.2.1 g.2.2.1)) (X_var 12 (c2 cI cI) due rfl)))) (by first | rfl | simp only [Out.bind_assoc, Out.ok_bind])) (J_eq (J_ret0 (fun _ _ => trivial) (N_of (X_b false)) (fun _ _ => rx_rt (rf_rt _ _))) (by first | rfl | simp only [Out.bind_assoc, Out.ok_bind])) (J_guard (fun _ _ => trivial) (TJ_eq (T_or (T_v (X_bin (o_ne (Fai.t2 Fai.I Fai.I)) (X_cl (AE_cons (X_dyn (X_var 12 (c2 cI cI) due rfl)) (AE_cons (X_dyn (X_var 10 (c2 cI cI) other rfl)) (AE_cons (X_dyn (X_var 11 (c2 cI cI) third rfl)) (AE_nil)))) (fun g => t_share_fourth g.1 g.2.1 g.2.2.1)) (X_var 9 (c2 cI cI) one rfl))) (T_v (X_bin (o_ne (Fai.t2 Fai.I Fai.I)) (X_cl (AE_cons (X_dyn (X_var 10 (c2 cI cI) other rfl)) (AE_cons (X_dyn (X_var 9 (c2 cI cI) one rfl)) (AE_cons (X_dyn (X_var 12 (c2 cI cI) due rfl)) (AE_nil)))) (fun g => t_share_fourth g.1 g.2.1 g.2.2.1)) (X_var 11 (c2 cI cI) third rfl)))) (by first | rfl | simp only [Out.bind_assoc, Out.ok_bind])) (J_eq (J_ret0 (fun _ _ => trivial) (N_of (X_b false)) (fun _ _ => rx_rt (rf_rt _ _))) (by first | rfl | simp only [Out.bind_assoc, Out.ok_bind])) (J_seq (J_eq (J_setSM (Ps := fun (deck : Dck) => [.vw ((cF cI) script), .own (oK deck), .vw ((cL cI) whole), .any, .vw (cI x), .vw (cI y), .vw (cI z), .vw (cI fourth), .vw ((cL (c2 cI cI)) shares), .vw ((c2 cI cI) one), .vw ((c2 cI cI) other), .vw ((c2 cI cI) third), .vw ((c2 cI cI) due), .any, .any, .any, .any, .any]) (s := deck) (j := 13) (fun _ _ _ => trivial) (fun _ => (show 13 < 18 by decide)) (NM_eq (NM_of (XM_bin o_add (XM_up (dkK (i := 1)) (fun deck => X_i 2)) (XM_ofS (NM_io (ts := tsK) (t := (oS cI)) (dkK (i := 1)) isK (AM_cons (XM_up (dkK (i := 1)) (fun deck => X_i 11)) (AM_nil)) (fun g => t__law_draw g.1))))) (by first | rfl | simp only [M.bd_assoc, M.rt_bd, M.up_ok, M.up_bind]))) (by first | rfl | simp only [M.bd_ap, M.rt_ap, M.up_ap, Out.bind_assoc, Out.ok_bind])) (fun ((n : Int), deck) => by exact J_guard (fun _ _ => trivial) (TJ_eq (T_v (X_bin (o_ne (Fai.U (Fai.t2 Fai.I Fai.I))) (X_cl (AE_cons (X_dyn (X_var 9 (c2 cI cI) one rfl)) (AE_cons (X_dyn (X_var 10 (c2 cI cI) other rfl)) (AE_cons (X_dyn (X_var 13 cI n rfl)) (AE_nil)))) (fun g => t_share_chain g.1 g.2.1 g.2.2.1)) (X_cl (AE_cons (X_var 9 (c2 cI cI) one rfl) (AE_cons (X_var 10 (c2 cI cI) other rfl) (AE_cons (X_var 13 cI n rfl) (AE_nil)))) (fun g => t__law_chain g.1 g.2.1 g.2.2.1)))) (by first | rfl | simp only [Out.bind_assoc, Out.ok_bind])) (J_eq (J_ret0 (fun _ _ => trivial) (N_of (X_b false)) (fun _ _ => rx_rt (rf_rt _ _))) (by first | rfl | simp only [Out.bind_assoc, Out.ok_bind])) (J_seq (J_eq (J_setLVM (Ps := fun (deck : Dck) => [.vw ((cF cI) script), .own (oK deck), .vw ((cL cI) whole), .any, .vw (cI x), .vw (cI y), .vw (cI z), .vw (cI fourth), .vw ((cL (c2 cI cI)) shares), .vw ((c2 cI cI) one), .vw ((c2 cI cI) other), .vw ((c2 cI cI) third), .vw ((c2 cI cI) due), .vw (cI n), .any, .any, .any, .any]) (s := deck) (j := 14) (fun _ _ _ => trivial) (fun _ => (show 14 < 18 by decide)) (NM_eq (NM_lstn (ca := (c2 cI cI)) (NKM_cons (NM_of (XM_ofS (NM_io (ts := tsK) (t := (oS (c2 cI cI))) (dkK (i := 1)) isK (AM_cons (XM_up (dkK (i := 1)) (fun deck => X_i 1)) (AM_nil)) (fun g => t__law_share g.1)))) (NKM_cons (NM_of (XM_ofS (NM_io (ts := tsK) (t := (oS (c2 cI cI))) (dkK (i := 1)) isK (AM_cons (XM_up (dkK (i := 1)) (fun deck => X_i 1)) (AM_nil)) (fun g => t__law_share g.1)))) (NKM_nil))) (by decide)) (by first | rfl | simp only [M.bd_assoc, M.rt_bd, M.up_ok, M.up_bind]))) (by first | rfl | simp only [M.bd_ap, M.rt_ap, M.up_ap, Out.bind_assoc, Out.ok_bind])) (fun ((low : (List (Int × Int))), deck) => by exact J_seq (J_eq (J_setSM (Ps := fun (deck : Dck) => [.vw ((cF cI) script), .own (oK deck), .vw ((cL cI) whole), .any, .vw (cI x), .vw (cI y), .vw (cI z), .vw (cI fourth), .vw ((cL (c2 cI cI)) shares), .vw ((c2 cI cI) one), .vw ((c2 cI cI) other), .vw ((c2 cI cI) third), .vw ((c2 cI cI) due), .vw (cI n), .vw ((cL (c2 cI cI)) low), .any, .any, .any]) (s := deck) (j := 13) (fun _ _ _ => trivial) (fun _ => (show 13 < 18 by decide)) (NM_eq (NM_of (XM_bin o_add (XM_up (dkK (i := 1)) (fun deck => X_i 2)) (XM_ofS (NM_io (ts := tsK) (t := (oS cI)) (dkK (i := 1)) isK (AM_cons (XM_up (dkK (i := 1)) (fun deck => X_i 39)) (AM_nil)) (fun g => t__law_draw g.1))))) (by first | rfl | simp only [M.bd_assoc, M.rt_bd, M.up_ok, M.up_bind]))) (by first | rfl | simp only [M.bd_ap, M.rt_ap, M.up_ap, Out.bind_assoc, Out.ok_bind])) (fun ((n : Int), deck) => by exact J_seq (J_eq (J_setS (i := 15) (fun _ _ => trivial) rfl (N_of (X_cl (AE_cons (X_dyn (X_bin o_ixL (X_var 14 (cL (c2 cI cI)) low rfl) (X_i 0))) (AE_cons (X_dyn (X_bin o_ixL (X_var 14 (cL (c2 cI cI)) low rfl) (X_i 1))) (AE_cons (X_dyn (X_var 13 cI n rfl)) (AE_nil)))) (fun g => t_share_chain g.1 g.2.1 g.2.2.1)))) (by first | rfl | simp only [Out.bind_assoc, Out.ok_bind])) (fun (chain : (List (Int × Int))) => by exact J_guard (fun _ _ => trivial) (TJ_eq (T_v (X_bin (o_ne (Fai.U (Fai.t2 Fai.I Fai.I))) (X_var 15 (cU (c2 cI cI)) chain rfl) (X_cl (AE_cons (X_bin o_ixL (X_var 14 (cL (c2 cI cI)) low rfl) (X_i 0)) (AE_cons (X_bin o_ixL (X_var 14 (cL (c2 cI cI)) low rfl) (X_i 1)) (AE_cons (X_var 13 cI n rfl) (AE_nil)))) (fun g => t__law_chain g.1 g.2.1 g.2.2.1)))) (by first | rfl | simp only [Out.bind_assoc, Out.ok_bind])) (J_eq (J_ret0 (fun _ _ => trivial) (N_of (X_b false)) (fun _ _ => rx_rt (rf_rt _ _))) (by first | rfl | simp only [Out.bind_assoc, Out.ok_bind])) (J_jn (J_eq (J_for (s0 := ()) (b := fun (at_ : Int) (_ : Unit) => ((((atR low (0 : Int)).bind fun v37 => Out.ok (((c2 cI cI) v37))).bind fun v40 => ((atR low (1 : Int)).bind fun v38 => Out.ok (((c2 cI cI) v38))).bind fun v41 => ((atR chain (at_ - (1 : Int))).bind fun v39 => Out.ok (((c2 cI cI) v39))).bind fun v42 => P.share_fourth v40 v41 v42).bind fun v43 => (atR chain at_).bind fun v44 => Out.ok ((!decide (v43 = v44)))).bind fun v45 => if v45 = true then Out.ok (Lp.out false) else Out.ok (Lp.nx ())) (Bs := fun (ix_ : Int) (st_ : Unit) => [.vw ((cF cI) script), .own (oK deck), .vw ((cL cI) whole), .any, .vw (cI x), .vw (cI y), .vw (cI z), .vw (cI fourth), .vw ((cL (c2 cI cI)) shares), .vw ((c2 cI cI) one), .vw ((c2 cI cI) other), .vw ((c2 cI cI) third), .vw ((c2 cI cI) due), .vw (cI n), .vw ((cL (c2 cI cI)) low), .vw ((cU (c2 cI cI)) chain), .vw (cI ix_), .any]) (fun (st_ : Unit) => [.vw ((cF cI) script), .own (oK deck), .vw ((cL cI) whole), .any, .vw (cI x), .vw (cI y), .vw (cI z), .vw (cI fourth), .vw ((cL (c2 cI cI)) shares), .vw ((c2 cI cI) one), .vw ((c2 cI cI) other), .vw ((c2 cI cI) third), .vw ((c2 cI cI) due), .vw (cI n), .vw ((cL (c2 cI cI)) low), .vw ((cU (c2 cI cI)) chain), .any, .any]) (fun _ _ => trivial) (I_r2 (X_i 2) (X_var 13 cI n rfl)) (.r (.r (.r (.r (.r (.r (.r (.r (.r (.r (.r (.r (.r (.r (.r (.r (.r (.r (.nil))))))))))))))))))) (fun x s => G_n 16 rfl) (fun (at_ : Int) (_ : Unit) => by exact J_last (J_guard (fun _ _ => trivial) (TJ_eq (T_v (X_bin (o_ne (Fai.t2 Fai.I Fai.I)) (X_cl (AE_cons (X_dyn (X_bin o_ixL (X_var 14 (cL (c2 cI cI)) low rfl) (X_i 0))) (AE_cons (X_dyn (X_bin o_ixL (X_var 14 (cL (c2 cI cI)) low rfl) (X_i 1))) (AE_cons (X_dyn (X_bin o_ixU (X_var 15 (cU (c2 cI cI)) chain rfl) (X_bin o_sub (X_var 16 cI at_ rfl) (X_i 1)))) (AE_nil)))) (fun g => t_share_fourth g.1 g.2.1 g.2.2.1)) (X_bin o_ixU (X_var 15 (cU (c2 cI cI)) chain rfl) (X_var 16 cI at_ rfl)))) (by first | rfl | simp only [Out.bind_assoc, Out.ok_bind])) (J_eq (J_ret (k := fun a => (Lp.out a)) (fun _ _ => trivial) (N_of (X_b false)) (fun _ _ => rx_rt (rb_rt (rf_rt _ _)))) (by first | rfl | simp only [Out.bind_assoc, Out.ok_bind])) (J_nil (a := (Lp.nx ())) (fun _ h => rb_nx (LeS.er (.r (.r (.r (.r (.r (.r (.r (.r (.r (.r (.r (.r (.r (.r (.r (.r (.a (.r (.nil))))))))))))))))))) h)))))) (by first | rfl | simp only [Out.bind_assoc, Out.ok_bind])) (fun _ => by exact J_jn (J_eq (J_for (s0 := ()) (b := fun (wrong : D) (_ : Unit) => (((P.w_refused (0 : Int) wrong (cI y) (cI z)).bind fun v47 => Out.ok ((!decide (v47 = ([105, 110, 116, 101, 103, 101, 114] : List Nat))))).bind fun v49 => if v49 = true then Out.ok true else ((P.w_refused (0 : Int) (cI x) wrong (cI z)).bind fun v48 => Out.ok ((!decide (v48 = ([105, 110, 116, 101, 103, 101, 114] : List Nat)))))).bind fun v52 => if v52 = true then Out.ok (Lp.out false) else ((P.w_refused (0 : Int) (cI x) (cI y) wrong).bind fun v50 => Out.ok ((!decide (v50 = ([105, 110, 116, 101, 103, 101, 114] : List Nat))))).bind fun v51 => if v51 = true then Out.ok (Lp.out false) else Out.ok (Lp.nx ())) (Bs := fun (ix_ : D) (st_ : Unit) => [.vw ((cF cI) script), .own (oK deck), .vw ((cL cI) whole), .any, .vw (cI x), .vw (cI y), .vw (cI z), .vw (cI fourth), .vw ((cL (c2 cI cI)) shares), .vw ((c2 cI cI) one), .vw ((c2 cI cI) other), .vw ((c2 cI cI) third), .vw ((c2 cI cI) due), .vw (cI n), .vw ((cL (c2 cI cI)) low), .vw ((cU (c2 cI cI)) chain), .any, .vw (cD ix_)]) (fun (st_ : Unit) => [.vw ((cF cI) script), .own (oK deck), .vw ((cL cI) whole), .any, .vw (cI x), .vw (cI y), .vw (cI z), .vw (cI fourth), .vw ((cL (c2 cI cI)) shares), .vw ((c2 cI cI) one), .vw ((c2 cI cI) other), .vw ((c2 cI cI) third), .vw ((c2 cI cI) due), .vw (cI n), .vw ((cL (c2 cI cI)) low), .vw ((cU (c2 cI cI)) chain), .any, .any]) (fun _ _ => trivial) (I_L (X_ofL (N_lstn (ca := cD) (NK_cons (N_of (X_dyn (X_b true))) (NK_cons (N_of (X_dyn (X_s [49] (by decide +kernel)))) (NK_cons (N_of (X_dyn (X_n))) (NK_cons (N_of (X_dyn (X_tup (cr := (c2 cI cI)) (π := fun g => (g.1, g.2.1)) (n := 2) (AE_cons (X_i 1) (AE_cons (X_i 1) (AE_nil))) (fun _ => rfl) (by decide) (fun _ => rfl)))) (NK_nil))))) (by decide)))) (.r (.r (.r (.r (.r (.r (.r (.r (.r (.r (.r (.r (.r (.r (.r (.r (.r (.r (.nil))))))))))))))))))) (fun x s => G_n 17 rfl) (fun (wrong : D) (_ : Unit) => by exact J_guard (fun _ _ => trivial) (TJ_eq (T_or (T_v (X_bin (o_ne Fai.S) (X_cl (AE_cons (X_i 0) (AE_cons (X_var 17 cD wrong rfl) (AE_cons (X_dyn (X_var 5 cI y rfl)) (AE_cons (X_dyn (X_var 6 cI z rfl)) (AE_nil))))) (fun g => t__law_refused g.1 g.2.1 g.2.2.1 g.2.2.2.1)) (X_s [105, 110, 116, 101, 103, 101, 114] (by decide +kernel)))) (T_v (X_bin (o_ne Fai.S) (X_cl (AE_cons (X_i 0) (AE_cons (X_dyn (X_var 4 cI x rfl)) (AE_cons (X_var 17 cD wrong rfl) (AE_cons (X_dyn (X_var 6 cI z rfl)) (AE_nil))))) (fun g => t__law_refused g.1 g.2.1 g.2.2.1 g.2.2.2.1)) (X_s [105, 110, 116, 101, 103, 101, 114] (by decide +kernel))))) (by first | rfl | simp only [Out.bind_assoc, Out.ok_bind])) (J_eq (J_ret (k := fun a => (Lp.out a)) (fun _ _ => trivial) (N_of (X_b false)) (fun _ _ => rx_rt (rb_rt (rf_rt _ _)))) (by first | rfl | simp only [Out.bind_assoc, Out.ok_bind])) (J_last (J_guard (fun _ _ => trivial) (TJ_eq (T_v (X_bin (o_ne Fai.S) (X_cl (AE_cons (X_i 0) (AE_cons (X_dyn (X_var 4 cI x rfl)) (AE_cons (X_dyn (X_var 5 cI y rfl)) (AE_cons (X_var 17 cD wrong rfl) (AE_nil))))) (fun g => t__law_refused g.1 g.2.1 g.2.2.1 g.2.2.2.1)) (X_s [105, 110, 116, 101, 103, 101, 114] (by decide +kernel)))) (by first | rfl | simp only [Out.bind_assoc, Out.ok_bind])) (J_eq (J_ret (k := fun a => (Lp.out a)) (fun _ _ => trivial) (N_of (X_b false)) (fun _ _ => rx_rt (rb_rt (rf_rt _ _)))) (by first | rfl | simp only [Out.bind_assoc, Out.ok_bind])) (J_nil (a := (Lp.nx ())) (fun _ h => rb_nx (LeS.er (.r (.r (.r (.r (.r (.r (.r (.r (.r (.r (.r (.r (.r (.r (.r (.r (.r (.a (.nil))))))))))))))))))) h))))))) (by first | rfl | simp only [Out.bind_assoc, Out.ok_bind])) (fun _ => by exact J_jn (J_eq (J_for (s0 := ()) (b := fun (wrong : D) (_ : Unit) => (((P.w_refused (1 : Int) wrong ((c2 cI cI) other) ((c2 cI cI) third)).bind fun v53 => Out.ok ((!decide (v53 = ([115, 104, 97, 114, 101] : List Nat))))).bind fun v55 => if v55 = true then Out.ok true else ((P.w_refused (1 : Int) ((c2 cI cI) one) wrong ((c2 cI cI) third)).bind fun v54 => Out.ok ((!decide (v54 = ([115, 104, 97, 114, 101] : List Nat)))))).bind fun v62 => if v62 = true then Out.ok (Lp.out false) else (((P.w_refused (1 : Int) ((c2 cI cI) one) ((c2 cI cI) other) wrong).bind fun v56 => Out.ok ((!decide (v56 = ([115, 104, 97, 114, 101] : List Nat))))).bind fun v58 => if v58 = true then Out.ok true else ((P.w_refused (2 : Int) wrong ((c2 cI cI) other) (cI (1 : Int))).bind fun v57 => Out.ok ((!decide (v57 = ([115, 104, 97, 114, 101] : List Nat)))))).bind fun v61 => if v61 = true then Out.ok (Lp.out false) else ((P.w_refused (2 : Int) ((c2 cI cI) one) wrong (cI (41 : Int))).bind fun v59 => Out.ok ((!decide (v59 = ([115, 104, 97, 114, 101] : List Nat))))).bind fun v60 => if v60 = true then Out.ok (Lp.out false) else Out.ok (Lp.nx ())) (Bs := fun (ix_ : D) (st_ : Unit) => [.vw ((cF cI) script), .own (oK deck), .vw ((cL cI) whole), .any, .vw (cI x), .vw (cI y), .vw (cI z), .vw (cI fourth), .vw ((cL (c2 cI cI)) shares), .vw ((c2 cI cI) one), .vw ((c2 cI cI) other), .vw ((c2 cI cI) third), .vw ((c2 cI cI) due), .vw (cI n), .vw ((cL (c2 cI cI)) low), .vw ((cU (c2 cI cI)) chain), .any, .vw (cD ix_)]) (fun (st_ : Unit) => [.vw ((cF cI) script), .own (oK deck), .vw ((cL cI) whole), .any, .vw (cI x), .vw (cI y), .vw (cI z), .vw (cI fourth), .vw ((cL (c2 cI cI)) shares), .vw ((c2 cI cI) one), .vw ((c2 cI cI) other), .vw ((c2 cI cI) third), .vw ((c2 cI cI) due), .vw (cI n), .vw ((cL (c2 cI cI)) low), .vw ((cU (c2 cI cI)) chain), .any, .any]) (fun _ _ => trivial) (I_L (X_ofL (N_lstn (ca := cD) (NK_cons (N_of (X_dyn (X_tup (cr := (c2 cI cI)) (π := fun g => (g.1, g.2.1)) (n := 2) (AE_cons (X_i 2) (AE_cons (X_i 4) (AE_nil))) (fun _ => rfl) (by decide) (fun _ => rfl)))) (NK_cons (N_of (X_dyn (X_tup (cr := (c2 cI cI)) (π := fun g => (g.1, g.2.1)) (n := 2) (AE_cons (X_i 0) (AE_cons (X_i 1) (AE_nil))) (fun _ => rfl) (by decide) (fun _ => rfl)))) (NK_cons (N_of (X_dyn (X_tup (cr := (c2 cI cI)) (π := fun g => (g.1, g.2.1)) (n := 2) (AE_cons (X_bin o_sub (X_i 0) (X_i 1)) (AE_cons (X_i 2) (AE_nil))) (fun _ => rfl) (by decide) (fun _ => rfl)))) (NK_cons (N_of (X_dyn (X_ofL (N_lstn (ca := cI) (NK_cons (N_of (X_i 1)) (NK_cons (N_of (X_i 2)) (NK_nil))) (by decide))))) (NK_cons (N_of (X_dyn (X_tup (cr := (c2 cI cI)) (π := fun g => (g.1, g.2.1)) (n := 2) (AE_cons (X_i 1) (AE_cons (X_i 0) (AE_nil))) (fun _ => rfl) (by decide) (fun _ => rfl)))) (NK_cons (N_of (X_dyn (X_tup (cr := (c2 cI cB)) (π := fun g => (g.1, g.2.1)) (n := 2) (AE_cons (X_i 1) (AE_cons (X_b true) (AE_nil))) (fun _ => rfl) (by decide) (fun _ => rfl)))) (NK_cons (N_of (X_dyn (X_tup (cr := (c1 cI)) (π := fun g => (g.1)) (n := 1) (AE_cons (X_i 1) (AE_nil)) (fun _ => rfl) (by decide) (fun _ => rfl)))) (NK_cons (N_of (X_dyn (X_n))) (NK_cons (N_of (X_dyn (X_i 1))) (NK_nil)))))))))) (by decide)))) (.r (.r (.r (.r (.r (.r (.r (.r (.r (.r (.r (.r (.r (.r (.r (.r (.r (.r (.nil))))))))))))))))))) (fun x s => G_n 17 rfl) (fun (wrong : D) (_ : Unit) => by exact J_guard (fun _ _ => trivial) (TJ_eq (T_or (T_v (X_bin (o_ne Fai.S) (X_cl (AE_cons (X_i 1) (AE_cons (X_var 17 cD wrong rfl) (AE_cons (X_dyn (X_var 10 (c2 cI cI) other rfl)) (AE_cons (X_dyn (X_var 11 (c2 cI cI) third rfl)) (AE_nil))))) (fun g => t__law_refused g.1 g.2.1 g.2.2.1 g.2.2.2.1)) (X_s [115, 104, 97, 114, 101] (by decide +kernel)))) (T_v (X_bin (o_ne Fai.S) (X_cl (AE_cons (X_i 1) (AE_cons (X_dyn (X_var 9 (c2 cI cI) one rfl)) (AE_cons (X_var 17 cD wrong rfl) (AE_cons (X_dyn (X_var 11 (c2 cI cI) third rfl)) (AE_nil))))) (fun g => t__law_refused g.1 g.2.1 g.2.2.1 g.2.2.2.1)) (X_s [115, 104, 97, 114, 101] (by decide +kernel))))) (by first | rfl | simp only [Out.bind_assoc, Out.ok_bind])) (J_eq (J_ret (k := fun a => (Lp.out a)) (fun _ _ => trivial) (N_of (X_b false)) (fun _ _ => rx_rt (rb_rt (rf_rt _ _)))) (by first | rfl | simp only [Out.bind_assoc, Out.ok_bind])) (J_guard (fun _ _ => trivial) (TJ_eq (T_or (T_v (X_bin (o_ne Fai.S) (X_cl (AE_cons (X_i 1) (AE_cons (X_dyn (X_var 9 (c2 cI cI) one rfl)) (AE_cons (X_dyn (X_var 10 (c2 cI cI) other rfl)) (AE_cons (X_var 17 cD wrong rfl) (AE_nil))))) (fun g => t__law_refused g.1 g.2.1 g.2.2.1 g.2.2.2.1)) (X_s [115, 104, 97, 114, 101] (by decide +kernel)))) (T_v (X_bin (o_ne Fai.S) (X_cl (AE_cons (X_i 2) (AE_cons (X_var 17 cD wrong rfl) (AE_cons (X_dyn (X_var 10 (c2 cI cI) other rfl)) (AE_cons (X_dyn (X_i 1)) (AE_nil))))) (fun g => t__law_refused g.1 g.2.1 g.2.2.1 g.2.2.2.1)) (X_s [115, 104, 97, 114, 101] (by decide +kernel))))) (by first | rfl | simp only [Out.bind_assoc, Out.ok_bind])) (J_eq (J_ret (k := fun a => (Lp.out a)) (fun _ _ => trivial) (N_of (X_b false)) (fun _ _ => rx_rt (rb_rt (rf_rt _ _)))) (by first | rfl | simp only [Out.bind_assoc, Out.ok_bind])) (J_last (J_guard (fun _ _ => trivial) (TJ_eq (T_v (X_bin (o_ne Fai.S) (X_cl (AE_cons (X_i 2) (AE_cons (X_dyn (X_var 9 (c2 cI cI) one rfl)) (AE_cons (X_var 17 cD wrong rfl) (AE_cons (X_dyn (X_i 41)) (AE_nil))))) (fun g => t__law_refused g.1 g.2.1 g.2.2.1 g.2.2.2.1)) (X_s [115, 104, 97, 114, 101] (by decide +kernel)))) (by first | rfl | simp only [Out.bind_assoc, Out.ok_bind])) (J_eq (J_ret (k := fun a => (Lp.out a)) (fun _ _ => trivial) (N_of (X_b false)) (fun _ _ => rx_rt (rb_rt (rf_rt _ _)))) (by first | rfl | simp only [Out.bind_assoc, Out.ok_bind])) (J_nil (a := (Lp.nx ())) (fun _ h => rb_nx (LeS.er (.r (.r (.r (.r (.r (.r (.r (.r (.r (.r (.r (.r (.r (.r (.r (.r (.r (.a (.nil))))))))))))))))))) h)))))))) (by first | rfl | simp only [Out.bind_assoc, Out.ok_bind])) (fun _ => by exact J_eq (J_ret0 (fun _ _ => trivial) (N_of (X_bin (o_eq Fai.I) (X_B1 (cr := cI) b_lenL (X_ofL (N_lcR (t := fun (wrong : D) => ((P.w_refused (2 : Int) ((c2 cI cI) one) ((c2 cI cI) other) wrong).bind fun v63 => Out.ok ((!decide (v63 = ([110, 117, 109, 98, 101, 114] : List Nat)))))) (e := fun (wrong : D) => (Out.ok wrong)) (by exact ⟨rfl, trivial⟩) (I_L (X_ofL (N_lstn (ca := cD) (NK_cons (N_of (X_dyn (X_i 1))) (NK_cons (N_of (X_dyn (X_i 41))) (NK_cons (N_of (X_dyn (X_i 0))) (NK_cons (N_of (X_dyn (X_b true))) (NK_cons (N_of (X_dyn (X_n))) (NK_cons (N_of (X_dyn (X_s [50] (by decide +kernel)))) (NK_nil))))))) (by decide)))) (fun x => G_n 17 rfl) (fun x => .r (.r (.r (.r (.r (.r (.r (.r (.r (.r (.r (.r (.r (.r (.r (.r (.r (.a (.nil))))))))))))))))))) (fun (wrong : D) => TJ_eq (T_v (X_bin (o_ne Fai.S) (X_cl (AE_cons (X_i 2) (AE_cons (X_dyn (X_var 9 (c2 cI cI) one rfl)) (AE_cons (X_dyn (X_var 10 (c2 cI cI) other rfl)) (AE_cons (X_var 17 cD wrong rfl) (AE_nil))))) (fun g => t__law_refused g.1 g.2.1 g.2.2.1 g.2.2.2.1)) (X_s [110, 117, 109, 98, 101, 114] (by decide +kernel)))) (by first | rfl | simp only [Out.bind_assoc, Out.ok_bind])) (fun (wrong : D) => NJ_eq (N_of (X_var 17 cD wrong rfl)) (by first | rfl | simp only [Out.bind_assoc, Out.ok_bind]))))) (X_i 0))) (fun _ _ => rf_rt _ _)) (by first | rfl | simp only [Out.bind_assoc, Out.ok_bind]))))))))))))))))))))))))
end W_k30

open TL FL in
theorem W_k30.law_true : ∀ ns : List Int, ns.length ≤ 63 → W_k30.m_law [.fz (ns.map .int)] = .ok (.bl true) := fun ns hn => by
  have h := W_k30.t_law ns
  rw [TL.law30 ns hn] at h
  exact h
open PySem PySem.W PyProof.Rows
set_option maxHeartbeats 0 in
theorem PySem.Challenge.cw_fourthword_k30_whole_sums_and_shares_holds : PySem.Challenge.rw_fourthword_k30_whole_sums_and_shares.Holds := by
  w_on; o_law; k_head; (case hw => w_witness2)
  k_fill
  refine L2.walk_of (l := PySem.Challenge.rw_fourthword_k30_whole_sums_and_shares) (n := 63) (k := 6) (x := "script") (CX := fun w => L2.CX PySem.Challenge.rw_fourthword_k30_whole_sums_and_shares.prog w) (sp := fun w => FL.spL _) rfl (by decide) rfl ⟨rfl, by decide, by decide⟩ (fun w h Y => PySem.W.kIn_of Y) ?F (fun _ _ a ns hl _ hS => ⟨a, ns, rfl, hS, hl, fun _ => rfl⟩) (fun _ _ _ _ _ h => FL.noCX h)
  case F =>
    intro w mg fa h KX G hmg
    refine' W_k30.all_mk KX G hmg (FL.di_mk ?a_is_integer ?l_is_integer ?c_is_integer ?k_is_integer) (FL.di_mk ?a_is_within ?l_is_within ?c_is_within ?k_is_within) (FL.di_mk ?a_is_tuple ?l_is_tuple ?c_is_tuple ?k_is_tuple) (FL.di_mk ?a_divisor ?l_divisor ?c_divisor ?k_divisor) (FL.di_mk ?a_made ?l_made ?c_made ?k_made) (FL.di_mk ?a_sum_fourth ?l_sum_fourth ?c_sum_fourth ?k_sum_fourth) (FL.di_mk ?a_is_share ?l_is_share ?c_is_share ?k_is_share) (FL.di_mk ?a_check_shares ?l_check_shares ?c_check_shares ?k_check_shares) (FL.di_mk ?a_raw_share_fourth ?l_raw_share_fourth ?c_raw_share_fourth ?k_raw_share_fourth) (FL.di_mk ?a_share_fourth ?l_share_fourth ?c_share_fourth ?k_share_fourth) (FL.di_mk ?a_share_chain ?l_share_chain ?c_share_chain ?k_share_chain) (FL.di_mk ?a__law_deck ?l__law_deck ?c__law_deck ?k__law_deck) (FL.di_mk ?a__law_mixed ?l__law_mixed ?c__law_mixed ?k__law_mixed) (FL.di_mk ?a__law_draw ?l__law_draw ?c__law_draw ?k__law_draw) (FL.di_mk ?a__law_great ?l__law_great ?c__law_great ?k__law_great) (FL.di_mk ?a__law_lowest ?l__law_lowest ?c__law_lowest ?k__law_lowest) (FL.di_mk ?a__law_share ?l__law_share ?c__law_share ?k__law_share) (FL.di_mk ?a__law_by ?l__law_by ?c__law_by ?k__law_by) (FL.di_mk ?a__law_refused ?l__law_refused ?c__law_refused ?k__law_refused) (FL.di_mk ?a__law_chain ?l__law_chain ?c__law_chain ?k__law_chain) (FL.di_mk ?a_law ?l_law ?c_law ?k_law) (FL.xi_mk ?a_NoInteger ?q_NoInteger ?k_NoInteger ?b_NoInteger ?t_NoInteger) (FL.xi_mk ?a_NoNumber ?q_NoNumber ?k_NoNumber ?b_NoNumber ?t_NoNumber) (FL.xi_mk ?a_NoShare ?q_NoShare ?k_NoShare ?b_NoShare ?t_NoShare) (FL.ei_mk ?p_NoInteger_NoInteger ?q_NoInteger_NoInteger ?r_NoInteger_NoInteger ?s_NoInteger_NoInteger ?t_NoInteger_NoInteger ?u_NoInteger_NoInteger) (FL.ei_mk ?p_NoNumber_NoInteger ?q_NoNumber_NoInteger ?r_NoNumber_NoInteger ?s_NoNumber_NoInteger ?t_NoNumber_NoInteger ?u_NoNumber_NoInteger) (FL.ei_mk ?p_NoShare_NoInteger ?q_NoShare_NoInteger ?r_NoShare_NoInteger ?s_NoShare_NoInteger ?t_NoShare_NoInteger ?u_NoShare_NoInteger) (FL.ei_mk ?p_NoInteger_NoNumber ?q_NoInteger_NoNumber ?r_NoInteger_NoNumber ?s_NoInteger_NoNumber ?t_NoInteger_NoNumber ?u_NoInteger_NoNumber) (FL.ei_mk ?p_NoNumber_NoNumber ?q_NoNumber_NoNumber ?r_NoNumber_NoNumber ?s_NoNumber_NoNumber ?t_NoNumber_NoNumber ?u_NoNumber_NoNumber) (FL.ei_mk ?p_NoShare_NoNumber ?q_NoShare_NoNumber ?r_NoShare_NoNumber ?s_NoShare_NoNumber ?t_NoShare_NoNumber ?u_NoShare_NoNumber) (FL.ei_mk ?p_NoInteger_NoShare ?q_NoInteger_NoShare ?r_NoInteger_NoShare ?s_NoInteger_NoShare ?t_NoInteger_NoShare ?u_NoInteger_NoShare) (FL.ei_mk ?p_NoNumber_NoShare ?q_NoNumber_NoShare ?r_NoNumber_NoShare ?s_NoNumber_NoShare ?t_NoNumber_NoShare ?u_NoNumber_NoShare) (FL.ei_mk ?p_NoShare_NoShare ?q_NoShare_NoShare ?r_NoShare_NoShare ?s_NoShare_NoShare ?t_NoShare_NoShare ?u_NoShare_NoShare) (FL.gi_int ?a_MOST_CHAIN) ?z_abs ?z_bool ?z_int ?z_isinstance ?z_len ?z_range ?z_tuple W_k30.law_true
    (case a_is_integer => k_is); (case l_is_integer => k_is); (case c_is_integer => k_is); (case k_is_integer => k_is); (case a_is_within => k_is); (case l_is_within => k_is)
    (case c_is_within => k_is); (case k_is_within => k_is); (case a_is_tuple => k_is); (case l_is_tuple => k_is); (case c_is_tuple => k_is); (case k_is_tuple => k_is)
    (case a_divisor => k_is); (case l_divisor => k_is); (case c_divisor => k_is); (case k_divisor => k_is); (case a_made => k_is); (case l_made => k_is)
    (case c_made => k_is); (case k_made => k_is); (case a_sum_fourth => k_is); (case l_sum_fourth => k_is); (case c_sum_fourth => k_is); (case k_sum_fourth => k_is)
    (case a_is_share => k_is); (case l_is_share => k_is); (case c_is_share => k_is); (case k_is_share => k_is); (case a_check_shares => k_is); (case l_check_shares => k_is)
    (case c_check_shares => k_is); (case k_check_shares => k_is); (case a_raw_share_fourth => k_is); (case l_raw_share_fourth => k_is); (case c_raw_share_fourth => k_is); (case k_raw_share_fourth => k_is)
    (case a_share_fourth => k_is); (case l_share_fourth => k_is); (case c_share_fourth => k_is); (case k_share_fourth => k_is); (case a_share_chain => k_is); (case l_share_chain => k_is)
    (case c_share_chain => k_is); (case k_share_chain => k_is); (case a__law_deck => k_is); (case l__law_deck => k_is); (case c__law_deck => k_is); (case k__law_deck => k_is)
    (case a__law_mixed => k_is); (case l__law_mixed => k_is); (case c__law_mixed => k_is); (case k__law_mixed => k_is); (case a__law_draw => k_is); (case l__law_draw => k_is)
    (case c__law_draw => k_is); (case k__law_draw => k_is); (case a__law_great => k_is); (case l__law_great => k_is); (case c__law_great => k_is); (case k__law_great => k_is)
    (case a__law_lowest => k_is); (case l__law_lowest => k_is); (case c__law_lowest => k_is); (case k__law_lowest => k_is); (case a__law_share => k_is); (case l__law_share => k_is)
    (case c__law_share => k_is); (case k__law_share => k_is); (case a__law_by => k_is); (case l__law_by => k_is); (case c__law_by => k_is); (case k__law_by => k_is)
    (case a__law_refused => k_is); (case l__law_refused => k_is); (case c__law_refused => k_is); (case k__law_refused => k_is); (case a__law_chain => k_is); (case l__law_chain => k_is)
    (case c__law_chain => k_is); (case k__law_chain => k_is); (case a_law => k_is); (case l_law => k_is); (case c_law => k_is); (case k_law => k_is)
    (case a_NoInteger => k_is); (case q_NoInteger => k_exc); (case k_NoInteger => k_is); (case b_NoInteger => k_is); (case t_NoInteger => k_is); (case a_NoNumber => k_is)
    (case q_NoNumber => k_exc); (case k_NoNumber => k_is); (case b_NoNumber => k_is); (case t_NoNumber => k_is); (case a_NoShare => k_is); (case q_NoShare => k_exc)
    (case k_NoShare => k_is); (case b_NoShare => k_is); (case t_NoShare => k_is); (case p_NoInteger_NoInteger => k_is); (case q_NoInteger_NoInteger => k_is); (case r_NoInteger_NoInteger => k_is)
    (case s_NoInteger_NoInteger => k_is); (case t_NoInteger_NoInteger => k_is); (case u_NoInteger_NoInteger => k_is); (case p_NoNumber_NoInteger => k_is); (case q_NoNumber_NoInteger => k_is); (case r_NoNumber_NoInteger => k_is)
    (case s_NoNumber_NoInteger => k_is); (case t_NoNumber_NoInteger => k_is); (case u_NoNumber_NoInteger => k_is); (case p_NoShare_NoInteger => k_is); (case q_NoShare_NoInteger => k_is); (case r_NoShare_NoInteger => k_is)
    (case s_NoShare_NoInteger => k_is); (case t_NoShare_NoInteger => k_is); (case u_NoShare_NoInteger => k_is); (case p_NoInteger_NoNumber => k_is); (case q_NoInteger_NoNumber => k_is); (case r_NoInteger_NoNumber => k_is)
    (case s_NoInteger_NoNumber => k_is); (case t_NoInteger_NoNumber => k_is); (case u_NoInteger_NoNumber => k_is); (case p_NoNumber_NoNumber => k_is); (case q_NoNumber_NoNumber => k_is); (case r_NoNumber_NoNumber => k_is)
    (case s_NoNumber_NoNumber => k_is); (case t_NoNumber_NoNumber => k_is); (case u_NoNumber_NoNumber => k_is); (case p_NoShare_NoNumber => k_is); (case q_NoShare_NoNumber => k_is); (case r_NoShare_NoNumber => k_is)
    (case s_NoShare_NoNumber => k_is); (case t_NoShare_NoNumber => k_is); (case u_NoShare_NoNumber => k_is); (case p_NoInteger_NoShare => k_is); (case q_NoInteger_NoShare => k_is); (case r_NoInteger_NoShare => k_is)
    (case s_NoInteger_NoShare => k_is); (case t_NoInteger_NoShare => k_is); (case u_NoInteger_NoShare => k_is); (case p_NoNumber_NoShare => k_is); (case q_NoNumber_NoShare => k_is); (case r_NoNumber_NoShare => k_is)
    (case s_NoNumber_NoShare => k_is); (case t_NoNumber_NoShare => k_is); (case u_NoNumber_NoShare => k_is); (case p_NoShare_NoShare => k_is); (case q_NoShare_NoShare => k_is); (case r_NoShare_NoShare => k_is)
    (case s_NoShare_NoShare => k_is); (case t_NoShare_NoShare => k_is); (case u_NoShare_NoShare => k_is); (case a_MOST_CHAIN => k_is); (case z_abs => k_is); (case z_bool => k_is)
    (case z_int => k_is); (case z_isinstance => k_is); (case z_len => k_is); (case z_range => k_is); (case z_tuple => k_is)
