import PyProof.Rows.All
import Wide.All
import OpenK.AllK
import Wide.FinOn
import HandS.ForMost
import HandS.Exc
import HandS.ExcOwn
import HandS.TryOnly
import HandS.TryMany
import HandS.WordsExc
import HandS.IsInst
import HandS.Wide
import HandS.TupAny
import HandS.Flow
import HandS.Deep
import HandS.TupLe
import HandS.Zip
import KE.KUnpack
import HandS.Small
import HandS.Replace
import KE.GoesMore
import HandS.Ends
import HandS.Rev
import HandS.Dict
import KE.KDictDisplayH
import HandS.Style
import HandS.SortInts
import PyProof.Rows.SortShellAny
import PyProof.CollectStr
import KE.GoesZip
import HandS.Text
import PySem.Challenge.RW_fourthword_k67_whole_weavings_joined_and
set_option Elab.async false
set_option linter.all false
set_option maxRecDepth 100000
set_option maxHeartbeats 4000000
namespace FL
open PySem PySem.Spec PyProof.Rows L2
/-! ### data -/
/-- a text that the model can hold and lay -/
def sOk (x : Str) : Prop := x.length ≤ sizeLine ∧ PyData.strOk x = true
instance (x : Str) : Decidable (sOk x) := by unfold sOk; infer_instance
inductive D where
  | non | bl (b : Bool) | int (i : Int) | str (x : Str) | ty (n : String)
  | tup (xs : List D) | ftup (xs : List D) | lst (xs : List D) | fz (xs : List D)
  | dic (ks : List Key) (vs : List D) | dit (ks : List (List Key)) (vs : List D)
mutual
def Den (K : PySem.W.Frag) (H : Hp) : D → V → Prop
  | .non, v => v = .non
  | .bl b, v => v = .bl b
  | .int i, v => v = .int i
  | .str x, v => v = .str x ∧ sOk x
  | .ty n, v => v = .ty n
  | .tup ds, v => ∃ a vs, v = .ref a ∧ H a = some (.tup vs) ∧ DenL K H ds vs
  | .ftup ds, v => ∃ a vs, v = .ref a ∧ SqT K H a vs ∧ DenL K H ds vs
  | .lst ds, v => ∃ a vs, v = .ref a ∧ H a = some (.lst vs) ∧ DenL K H ds vs
  | .fz ds, v => ∃ a vs, v = .ref a ∧ SqL K H a vs ∧ DenL K H ds vs
  | .dic ks ds, v => ∃ a kv, v = .ref a ∧ H a = some (.dK kv) ∧ kv.map (·.1) = ks ∧ DenL K H ds (kv.map (·.2))
  | .dit ks ds, v => ∃ a kv, v = .ref a ∧ H a = some (.dT kv) ∧ kv.map (·.1) = ks ∧ DenL K H ds (kv.map (·.2))
def DenL (K : PySem.W.Frag) (H : Hp) : List D → List V → Prop
  | [], vs => vs = []
  | d :: ds, vs => ∃ v r, vs = v :: r ∧ Den K H d v ∧ DenL K H ds r
end
theorem _root_.L2.Same.seqT {K : PySem.W.Frag} {H H' : Hp} {a : Addr} {xs : List V} (e : Same H H') (h : SqT K H a xs) : SqT K H' a xs := by
  rcases h with (h | ⟨o, h⟩) | h
  · exact .inl (.inl (e _ _ h))
  · exact .inl (.inr ⟨o, e _ _ h⟩)
  · exact .inr h
mutual
theorem Den.mono {K : PySem.W.Frag} {H H' : Hp} (e : Same H H') : ∀ {d : D} {v : V}, Den K H d v → Den K H' d v
  | .non, _, h => h
  | .bl _, _, h => h
  | .int _, _, h => h
  | .str _, _, h => h
  | .ty _, _, h => h
  | .tup _, _, ⟨a, vs, e1, e2, e3⟩ => ⟨a, vs, e1, e _ _ e2, DenL.mono e e3⟩
  | .ftup _, _, ⟨a, vs, e1, e2, e3⟩ => ⟨a, vs, e1, e.seqT e2, DenL.mono e e3⟩
  | .lst _, _, ⟨a, vs, e1, e2, e3⟩ => ⟨a, vs, e1, e _ _ e2, DenL.mono e e3⟩
  | .fz _, _, ⟨a, vs, e1, e2, e3⟩ => ⟨a, vs, e1, e.seq e2, DenL.mono e e3⟩
  | .dic _ _, _, ⟨a, kv, e1, e2, e3, e4⟩ => ⟨a, kv, e1, e _ _ e2, e3, DenL.mono e e4⟩
  | .dit _ _, _, ⟨a, kv, e1, e2, e3, e4⟩ => ⟨a, kv, e1, e _ _ e2, e3, DenL.mono e e4⟩
theorem DenL.mono {K : PySem.W.Frag} {H H' : Hp} (e : Same H H') : ∀ {ds : List D} {vs : List V}, DenL K H ds vs → DenL K H' ds vs
  | [], _, h => h
  | _ :: _, _, ⟨v, r, e1, e2, e3⟩ => ⟨v, r, e1, Den.mono e e2, DenL.mono e e3⟩
end
theorem DenL.length {K : PySem.W.Frag} {H : Hp} : ∀ {ds : List D} {vs : List V}, DenL K H ds vs → vs.length = ds.length
  | [], _, h => by cases h; rfl
  | _ :: _, _, ⟨v, r, e1, e2, e3⟩ => by rw [e1]; simp [DenL.length e3]
theorem DenL.get {K : PySem.W.Frag} {H : Hp} : ∀ {ds : List D} {vs : List V} {i : Nat} {d : D}, DenL K H ds vs → ds[i]? = some d → ∃ v, vs[i]? = some v ∧ Den K H d v
  | _ :: _, _, 0, _, ⟨v, r, e1, e2, e3⟩, h => by
    cases (Option.some.inj h)
    exact ⟨v, by rw [e1]; rfl, e2⟩
  | _ :: _, _, i + 1, _, ⟨v, r, e1, e2, e3⟩, h => by
    obtain ⟨w, h1, h2⟩ := DenL.get e3 (by simpa using h)
    exact ⟨w, by rw [e1]; simpa using h1, h2⟩
theorem DenL.append {K : PySem.W.Frag} {H : Hp} : ∀ {ds es : List D} {vs ws : List V}, DenL K H ds vs → DenL K H es ws → DenL K H (ds ++ es) (vs ++ ws)
  | [], _, _, _, h, g => by cases h; exact g
  | _ :: _, _, _, _, ⟨v, r, e1, e2, e3⟩, g => by cases e1; exact ⟨v, r ++ _, rfl, e2, DenL.append e3 g⟩
theorem DenL.take {K : PySem.W.Frag} {H : Hp} : ∀ {ds : List D} {vs : List V} (n : Nat), DenL K H ds vs → DenL K H (ds.take n) (vs.take n)
  | [], _, n, h => by cases h; simp [DenL]
  | _ :: _, _, 0, _ => by simp [DenL]
  | _ :: _, _, n + 1, ⟨v, r, e1, e2, e3⟩ => by cases e1; exact ⟨v, _, rfl, e2, DenL.take n e3⟩
theorem DenL.drop {K : PySem.W.Frag} {H : Hp} : ∀ {ds : List D} {vs : List V} (n : Nat), DenL K H ds vs → DenL K H (ds.drop n) (vs.drop n)
  | [], _, n, h => by cases h; simp [DenL]
  | _ :: _, _, 0, h => h
  | _ :: _, _, n + 1, ⟨v, r, e1, e2, e3⟩ => by cases e1; exact DenL.drop n e3
theorem DenL.set {K : PySem.W.Frag} {H : Hp} {d : D} {v : V} (h0 : Den K H d v) : ∀ {ds : List D} {vs : List V} (n : Nat), DenL K H ds vs → DenL K H (ds.set n d) (vs.set n v)
  | [], _, n, h => by cases h; simp [DenL]
  | _ :: _, _, 0, ⟨v', r, e1, e2, e3⟩ => by cases e1; exact ⟨v, r, rfl, h0, e3⟩
  | _ :: _, _, n + 1, ⟨v', r, e1, e2, e3⟩ => by cases e1; exact ⟨v', _, rfl, e2, DenL.set h0 n e3⟩
theorem DenL.map {K : PySem.W.Frag} {H : Hp} {α : Type} {f : α → D} {g : α → V} (h : ∀ x, Den K H (f x) (g x)) : ∀ (xs : List α), DenL K H (xs.map f) (xs.map g)
  | [] => rfl
  | x :: xs => ⟨_, _, rfl, h x, DenL.map h xs⟩
/-! ### owned trees -/
inductive T where
  | sh (d : D) | lst (ts : List T) | dic (ks : List Key) (ts : List T) | dit (ks : List (List Key)) (ts : List T) | at (b : Addr) (ts : List T)
mutual
def DenT (K : PySem.W.Frag) (Hs H : Hp) : T → V → List Addr → Prop
  | .sh d, v, fp => fp = [] ∧ Den K Hs d v
  | .lst ts, v, fp => ∃ a vs fr, v = .ref a ∧ fp = a :: fr ∧ H a = some (.lst vs) ∧ DenTL K Hs H ts vs fr
  | .dic ks ts, v, fp => ∃ a kv fr, v = .ref a ∧ fp = a :: fr ∧ H a = some (.dK kv) ∧ kv.map (·.1) = ks ∧ DenTL K Hs H ts (kv.map (·.2)) fr
  | .dit ks ts, v, fp => ∃ a kv fr, v = .ref a ∧ fp = a :: fr ∧ H a = some (.dT kv) ∧ kv.map (·.1) = ks ∧ DenTL K Hs H ts (kv.map (·.2)) fr
  | .at b ts, v, fp => ∃ a vs fr, v = .ref a ∧ fp = a :: fr ∧ H a = some (.lst vs) ∧ a = b ∧ DenTL K Hs H ts vs fr
def DenTL (K : PySem.W.Frag) (Hs H : Hp) : List T → List V → List Addr → Prop
  | [], vs, fp => vs = [] ∧ fp = []
  | t :: ts, vs, fp => ∃ v r f1 f2, vs = v :: r ∧ fp = f1 ++ f2 ∧ DenT K Hs H t v f1 ∧ DenTL K Hs H ts r f2
end
mutual
theorem DenT.mono {K : PySem.W.Frag} {Hs Hs' H H' : Hp} (e : Same Hs Hs') : ∀ {t : T} {v : V} {fp : List Addr}, DenT K Hs H t v fp → (∀ a ∈ fp, H' a = H a) → DenT K Hs' H' t v fp
  | .sh _, _, _, ⟨h1, h2⟩, _ => ⟨h1, h2.mono e⟩
  | .lst _, _, _, ⟨a, vs, fr, e1, e2, e3, e4⟩, h => by
    subst e2
    exact ⟨a, vs, fr, e1, rfl, by rw [h a (by simp)]; exact e3, DenTL.mono e e4 fun b hb => h b (by simp [hb])⟩
  | .dic _ _, _, _, ⟨a, vs, fr, e1, e2, e3, e4, e5⟩, h => by
    subst e2
    exact ⟨a, vs, fr, e1, rfl, by rw [h a (by simp)]; exact e3, e4, DenTL.mono e e5 fun b hb => h b (by simp [hb])⟩
  | .dit _ _, _, _, ⟨a, vs, fr, e1, e2, e3, e4, e5⟩, h => by
    subst e2
    exact ⟨a, vs, fr, e1, rfl, by rw [h a (by simp)]; exact e3, e4, DenTL.mono e e5 fun b hb => h b (by simp [hb])⟩
  | .at _ _, _, _, ⟨a, vs, fr, e1, e2, e3, e4, e5⟩, h => by
    subst e2
    exact ⟨a, vs, fr, e1, rfl, by rw [h a (by simp)]; exact e3, e4, DenTL.mono e e5 fun b hb => h b (by simp [hb])⟩
theorem DenTL.mono {K : PySem.W.Frag} {Hs Hs' H H' : Hp} (e : Same Hs Hs') : ∀ {ts : List T} {vs : List V} {fp : List Addr}, DenTL K Hs H ts vs fp → (∀ a ∈ fp, H' a = H a) → DenTL K Hs' H' ts vs fp
  | [], _, _, h, _ => h
  | _ :: _, _, _, ⟨v, r, f1, f2, e1, e2, e3, e4⟩, h => by
    subst e2
    exact ⟨v, r, f1, f2, e1, rfl, DenT.mono e e3 fun b hb => h b (by simp [hb]), DenTL.mono e e4 fun b hb => h b (by simp [hb])⟩
end
mutual
theorem DenT.there {K : PySem.W.Frag} {Hs H : Hp} : ∀ {t : T} {v : V} {fp : List Addr}, DenT K Hs H t v fp → ∀ a ∈ fp, ∃ o, H a = some o
  | .sh _, _, _, ⟨h1, h2⟩, a, ha => by subst h1; cases ha
  | .lst _, _, _, ⟨a, vs, fr, e1, e2, e3, e4⟩, b, hb => by
    subst e2
    rcases List.mem_cons.mp hb with rfl | hb
    · exact ⟨_, e3⟩
    · exact DenTL.there e4 b hb
  | .dic _ _, _, _, ⟨a, vs, fr, e1, e2, e3, e4, e5⟩, b, hb => by
    subst e2
    rcases List.mem_cons.mp hb with rfl | hb
    · exact ⟨_, e3⟩
    · exact DenTL.there e5 b hb
  | .dit _ _, _, _, ⟨a, vs, fr, e1, e2, e3, e4, e5⟩, b, hb => by
    subst e2
    rcases List.mem_cons.mp hb with rfl | hb
    · exact ⟨_, e3⟩
    · exact DenTL.there e5 b hb
  | .at _ _, _, _, ⟨a, vs, fr, e1, e2, e3, e4, e5⟩, b, hb => by
    subst e2
    rcases List.mem_cons.mp hb with rfl | hb
    · exact ⟨_, e3⟩
    · exact DenTL.there e5 b hb
theorem DenTL.there {K : PySem.W.Frag} {Hs H : Hp} : ∀ {ts : List T} {vs : List V} {fp : List Addr}, DenTL K Hs H ts vs fp → ∀ a ∈ fp, ∃ o, H a = some o
  | [], _, _, ⟨h1, h2⟩, a, ha => by subst h2; cases ha
  | _ :: _, _, _, ⟨v, r, f1, f2, e1, e2, e3, e4⟩, b, hb => by
    subst e2
    rcases List.mem_append.mp hb with hb | hb
    · exact DenT.there e3 b hb
    · exact DenTL.there e4 b hb
end
theorem DenTL.length {K : PySem.W.Frag} {Hs H : Hp} : ∀ {ts : List T} {vs : List V} {fp : List Addr}, DenTL K Hs H ts vs fp → vs.length = ts.length
  | [], _, _, h => by rw [h.1]; rfl
  | _ :: _, _, _, ⟨v, r, f1, f2, e1, e2, e3, e4⟩ => by rw [e1]; simp [DenTL.length e4]
theorem DenTL.append {K : PySem.W.Frag} {Hs H : Hp} : ∀ {ts us : List T} {vs ws : List V} {f g : List Addr}, DenTL K Hs H ts vs f → DenTL K Hs H us ws g → DenTL K Hs H (ts ++ us) (vs ++ ws) (f ++ g)
  | [], _, _, _, _, _, h, k => by obtain ⟨rfl, rfl⟩ := h; exact k
  | _ :: _, _, _, _, _, _, ⟨v, r, f1, f2, e1, e2, e3, e4⟩, k => by
    subst e1; subst e2
    exact ⟨v, _, f1, f2 ++ _, rfl, by simp, e3, DenTL.append e4 k⟩
/-- the data of a tree -/
def T.d : T → D
  | .sh d => d
  | .lst ts => .lst (go ts)
  | .dic ks ts => .dic ks (go ts)
  | .dit ks ts => .dit ks (go ts)
  | .at _ ts => .lst (go ts)
where go : List T → List D
  | [] => []
  | t :: ts => t.d :: go ts
theorem T.go_map : ∀ ts : List T, T.d.go ts = ts.map T.d
  | [] => rfl
  | t :: ts => by simp [T.d.go, T.go_map ts]
theorem T.go_sh : ∀ ds : List D, T.d.go (ds.map T.sh) = ds
  | [] => rfl
  | d :: ds => by simp [T.d.go, T.go_sh ds, T.d]
theorem DenTL.sh {K : PySem.W.Frag} {Hs H : Hp} : ∀ {ds : List D} {vs : List V}, DenL K Hs ds vs → DenTL K Hs H (ds.map T.sh) vs []
  | [], _, h => ⟨h, rfl⟩
  | _ :: _, _, ⟨v, r, e1, e2, e3⟩ => ⟨v, r, [], [], e1, rfl, ⟨rfl, e2⟩, DenTL.sh e3⟩
/-- let go: the tree's data, in any heap that has it all -/
theorem SqL.lst {K : PySem.W.Frag} {H : Hp} {a : Addr} {vs : List V} (h : H a = some (.lst vs)) : SqL K H a vs := .inl (.inl h)
mutual
theorem DenT.den {K : PySem.W.Frag} {Hs H H' : Hp} (e : Same Hs H') : ∀ {t : T} {v : V} {fp : List Addr}, DenT K Hs H t v fp → (∀ a ∈ fp, H' a = H a) → Den K H' t.d v
  | .sh _, _, _, ⟨h1, h2⟩, _ => h2.mono e
  | .lst _, _, _, ⟨a, vs, fr, e1, e2, e3, e4⟩, h => by
    subst e2
    exact ⟨a, vs, e1, by rw [h a (by simp)]; exact e3, DenTL.den e e4 fun b hb => h b (by simp [hb])⟩
  | .dic _ _, _, _, ⟨a, vs, fr, e1, e2, e3, e4, e5⟩, h => by
    subst e2
    exact ⟨a, vs, e1, by rw [h a (by simp)]; exact e3, e4, DenTL.den e e5 fun b hb => h b (by simp [hb])⟩
  | .dit _ _, _, _, ⟨a, vs, fr, e1, e2, e3, e4, e5⟩, h => by
    subst e2
    exact ⟨a, vs, e1, by rw [h a (by simp)]; exact e3, e4, DenTL.den e e5 fun b hb => h b (by simp [hb])⟩
  | .at _ _, _, _, ⟨a, vs, fr, e1, e2, e3, e4, e5⟩, h => by
    subst e2
    exact ⟨a, vs, e1, by rw [h a (by simp)]; exact e3, DenTL.den e e5 fun b hb => h b (by simp [hb])⟩
theorem DenTL.den {K : PySem.W.Frag} {Hs H H' : Hp} (e : Same Hs H') : ∀ {ts : List T} {vs : List V} {fp : List Addr}, DenTL K Hs H ts vs fp → (∀ a ∈ fp, H' a = H a) → DenL K H' (T.d.go ts) vs
  | [], _, _, h, _ => h.1
  | _ :: _, _, _, ⟨v, r, f1, f2, e1, e2, e3, e4⟩, h => by
    subst e2
    exact ⟨v, r, e1, DenT.den e e3 fun b hb => h b (by simp [hb]), DenTL.den e e4 fun b hb => h b (by simp [hb])⟩
end
/-! ### environments -/
abbrev Env' := List (Option T)
def DenE (K : PySem.W.Frag) (Hs H : Hp) : Env' → L2.St → List Addr → Prop
  | [], σ, fp => σ = [] ∧ fp = []
  | none :: ρ, σ, fp => ∃ o r, σ = o :: r ∧ DenE K Hs H ρ r fp
  | some t :: ρ, σ, fp => ∃ v r f1 f2, σ = some v :: r ∧ fp = f1 ++ f2 ∧ DenT K Hs H t v f1 ∧ DenE K Hs H ρ r f2
theorem DenE.mono {K : PySem.W.Frag} {Hs Hs' H H' : Hp} (e : Same Hs Hs') : ∀ {ρ : Env'} {σ : L2.St} {fp : List Addr}, DenE K Hs H ρ σ fp → (∀ a ∈ fp, H' a = H a) → DenE K Hs' H' ρ σ fp
  | [], _, _, h, _ => h
  | none :: _, _, _, ⟨o, r, e1, e2⟩, h => ⟨o, r, e1, DenE.mono e e2 h⟩
  | some _ :: _, _, _, ⟨v, r, f1, f2, e1, e2, e3, e4⟩, h => by
    subst e2
    exact ⟨v, r, f1, f2, e1, rfl, e3.mono e fun b hb => h b (by simp [hb]), DenE.mono e e4 fun b hb => h b (by simp [hb])⟩
theorem DenE.there {K : PySem.W.Frag} {Hs H : Hp} : ∀ {ρ : Env'} {σ : L2.St} {fp : List Addr}, DenE K Hs H ρ σ fp → ∀ a ∈ fp, ∃ o, H a = some o
  | [], _, _, h, a, ha => by rw [h.2] at ha; cases ha
  | none :: _, _, _, ⟨o, r, e1, e2⟩, a, ha => DenE.there e2 a ha
  | some _ :: _, _, _, ⟨v, r, f1, f2, e1, e2, e3, e4⟩, a, ha => by
    subst e2
    rcases List.mem_append.mp ha with ha | ha
    · exact e3.there a ha
    · exact DenE.there e4 a ha
/-- a slot: what stands in it, and the rest with another tree (or none) in its place -/
theorem DenE.at {K : PySem.W.Frag} {Hs H : Hp} : ∀ {ρ : Env'} {σ : L2.St} {fp : List Addr} {i : Nat} {t : T}, DenE K Hs H ρ σ fp → ρ[i]? = some (some t) →
    ∃ v f1 f2 f3, σ[i]? = some (some v) ∧ fp = f1 ++ (f2 ++ f3) ∧ DenT K Hs H t v f2 ∧
      (∀ Hs' H', Same Hs Hs' → (∀ a ∈ f1 ++ f3, H' a = H a) → ∀ t' v' f', DenT K Hs' H' t' v' f' → DenE K Hs' H' (ρ.set i (some t')) (σ.set i (some v')) (f1 ++ (f' ++ f3))) ∧
      (∀ Hs' H', Same Hs Hs' → (∀ a ∈ f1 ++ f3, H' a = H a) → ∀ o, DenE K Hs' H' (ρ.set i none) (σ.set i o) (f1 ++ f3))
  | none :: ρ, _, fp, i + 1, t, ⟨o, r, e1, e2⟩, h => by
    obtain ⟨v, f1, f2, f3, h1, h2, h3, h4, h5⟩ := DenE.at e2 (i := i) (by simpa using h)
    subst e1
    exact ⟨v, f1, f2, f3, by simpa using h1, h2, h3, fun Hs' H' s1 s2 t' v' f' d => ⟨o, _, rfl, h4 Hs' H' s1 s2 t' v' f' d⟩, fun Hs' H' s1 s2 o' => ⟨o, _, rfl, h5 Hs' H' s1 s2 o'⟩⟩
  | some t0 :: ρ, _, fp, 0, t, ⟨v, r, f1, f2, e1, e2, e3, e4⟩, h => by
    cases (Option.some.inj (Option.some.inj h))
    subst e1
    exact ⟨v, [], f1, f2, rfl, by simpa using e2, e3, fun Hs' H' s1 s2 t' v' f' d => ⟨v', r, f', f2, rfl, by simp, d, e4.mono s1 (by simpa using s2)⟩,
      fun Hs' H' s1 s2 o' => ⟨o', r, rfl, by simpa using e4.mono s1 (by simpa using s2)⟩⟩
  | some t0 :: ρ, _, fp, i + 1, t, ⟨v, r, g1, g2, e1, e2, e3, e4⟩, h => by
    obtain ⟨v', f1, f2, f3, h1, h2, h3, h4, h5⟩ := DenE.at e4 (i := i) (by simpa using h)
    subst e1; subst h2
    refine ⟨v', g1 ++ f1, f2, f3, by simpa using h1, by rw [e2]; simp, h3, fun Hs' H' s1 s2 t' w' f' d => ?_, fun Hs' H' s1 s2 o' => ?_⟩
    · exact ⟨v, _, g1, f1 ++ (f' ++ f3), rfl, by simp, e3.mono s1 fun b hb => s2 b (by simp [hb]), h4 Hs' H' s1 (fun b hb => s2 b (by
        rcases List.mem_append.mp hb with hb | hb <;> simp [hb])) t' w' f' d⟩
    · exact ⟨v, _, g1, f1 ++ f3, rfl, by simp, e3.mono s1 fun b hb => s2 b (by simp [hb]), h5 Hs' H' s1 (fun b hb => s2 b (by
        rcases List.mem_append.mp hb with hb | hb <;> simp [hb])) o'⟩
/-- a slot in which nothing is known is filled, or what stood in it is forgotten -/
theorem DenE.put {K : PySem.W.Frag} {Hs H : Hp} {t : T} {v : V} {f : List Addr} : ∀ {ρ : Env'} {σ : L2.St} {fp : List Addr} {i : Nat}, DenE K Hs H ρ σ fp → i < ρ.length → DenT K Hs H t v f →
    ∃ f1 f2 f3, fp = f1 ++ (f2 ++ f3) ∧ DenE K Hs H (ρ.set i (some t)) (σ.set i (some v)) (f1 ++ (f ++ f3))
  | [], _, _, _, _, h, _ => by cases h
  | none :: ρ, _, fp, 0, ⟨o, r, e1, e2⟩, h, d => by
    subst e1
    exact ⟨[], [], fp, rfl, ⟨v, r, f, fp, rfl, by simp, d, e2⟩⟩
  | some t0 :: ρ, _, fp, 0, ⟨w, r, g1, g2, e1, e2, e3, e4⟩, h, d => by
    subst e1
    exact ⟨[], g1, g2, by simpa using e2, ⟨v, r, f, g2, rfl, by simp, d, e4⟩⟩
  | none :: ρ, _, fp, i + 1, ⟨o, r, e1, e2⟩, h, d => by
    obtain ⟨f1, f2, f3, h1, h2⟩ := DenE.put e2 (i := i) (by simpa using h) d
    subst e1
    exact ⟨f1, f2, f3, h1, ⟨o, _, rfl, h2⟩⟩
  | some t0 :: ρ, _, fp, i + 1, ⟨w, r, g1, g2, e1, e2, e3, e4⟩, h, d => by
    obtain ⟨f1, f2, f3, h1, h2⟩ := DenE.put e4 (i := i) (by simpa using h) d
    subst e1; subst h1
    exact ⟨g1 ++ f1, f2, f3, by rw [e2]; simp, ⟨w, _, g1, f1 ++ (f ++ f3), rfl, by simp, e3, h2⟩⟩
theorem DenE.wipe {K : PySem.W.Frag} {Hs H : Hp} : ∀ {ρ : Env'} {σ : L2.St} {fp : List Addr} {i : Nat}, DenE K Hs H ρ σ fp →
    ∃ f1 f2 f3, fp = f1 ++ (f2 ++ f3) ∧ ∀ o, DenE K Hs H (ρ.set i none) (σ.set i o) (f1 ++ f3)
  | [], _, fp, _, h => ⟨fp, [], [], by simp, fun o => by rw [h.1, h.2]; exact ⟨rfl, rfl⟩⟩
  | none :: ρ, _, fp, 0, ⟨o, r, e1, e2⟩ => by
    subst e1
    exact ⟨[], [], fp, rfl, fun o => ⟨o, r, rfl, e2⟩⟩
  | some t0 :: ρ, _, fp, 0, ⟨w, r, g1, g2, e1, e2, e3, e4⟩ => by
    subst e1
    exact ⟨[], g1, g2, by simpa using e2, fun o => ⟨o, r, rfl, e4⟩⟩
  | none :: ρ, _, fp, i + 1, ⟨o, r, e1, e2⟩ => by
    obtain ⟨f1, f2, f3, h1, h2⟩ := DenE.wipe e2 (i := i)
    subst e1
    exact ⟨f1, f2, f3, h1, fun o' => ⟨o, _, rfl, h2 o'⟩⟩
  | some t0 :: ρ, _, fp, i + 1, ⟨w, r, g1, g2, e1, e2, e3, e4⟩ => by
    obtain ⟨f1, f2, f3, h1, h2⟩ := DenE.wipe e4 (i := i)
    subst e1; subst h1
    exact ⟨g1 ++ f1, f2, f3, by rw [e2]; simp, fun o' => ⟨w, _, g1, f1 ++ f3, rfl, by simp, e3, h2 o'⟩⟩
theorem DenE.length {K : PySem.W.Frag} {Hs H : Hp} : ∀ {ρ : Env'} {σ : L2.St} {fp : List Addr}, DenE K Hs H ρ σ fp → σ.length = ρ.length
  | [], _, _, h => by rw [h.1]; rfl
  | none :: _, _, _, ⟨o, r, e1, e2⟩ => by rw [e1]; simp [DenE.length e2]
  | some _ :: _, _, _, ⟨v, r, f1, f2, e1, e2, e3, e4⟩ => by rw [e1]; simp [DenE.length e4]
/-! ### the state -/
/-- the ghost: a shared heap at least, and a frame that stays -/
abbrev Gh := Hp × Hp
structure OkAt (K : PySem.W.Frag) (G : Gh) (σ : L2.St) (H : Hp) (ρ : Env') (Hs : Hp) (fp : List Addr) : Prop where
  sh : Same Hs H
  base : Same G.1 Hs
  frame : Same G.2 H
  priv : ∀ a, (G.2 a).isSome = true → G.1 a = none → Hs a = none ∧ a ∉ fp
  disj : ∀ a ∈ fp, Hs a = none
  nd : fp.Nodup
  env : DenE K Hs H ρ σ fp
def Ok (K : PySem.W.Frag) (G : Gh) (σ : L2.St) (H : Hp) (ρ : Env') : Prop := ∃ Hs fp, OkAt K G σ H ρ Hs fp
/-- the whole as a ghost -/
def rem (H : Hp) (fp : List Addr) : Hp := fun a => if a ∈ fp then none else H a
theorem OkAt.self {K G σ H ρ Hs fp} (h : OkAt K G σ H ρ Hs fp) : OkAt K (Hs, rem H fp) σ H ρ Hs fp :=
  ⟨h.sh, Same.refl _, fun b o e => by
    have e : rem H fp b = some o := e
    unfold rem at e
    split at e
    · cases e
    · exact e, fun a e1 e2 => ⟨e2, fun hm => by simp [rem, hm] at e1⟩, h.disj, h.nd, h.env⟩
theorem OkAt.back {K G σ σ' H H' ρ ρ' Hs Hs' fp fp'} (h : OkAt K G σ H ρ Hs fp) (h' : OkAt K (Hs, rem H fp) σ' H' ρ' Hs' fp') : OkAt K G σ' H' ρ' Hs' fp' := by
  have fr : ∀ a o, G.2 a = some o → G.1 a = none → (rem H fp) a = some o ∧ Hs a = none := fun a o e z => by
    obtain ⟨p1, p2⟩ := h.priv a (by rw [e]; rfl) z
    exact ⟨by simp [rem, p2, h.frame a o e], p1⟩
  refine ⟨h'.sh, h.base.trans h'.base, fun a o e => ?_, fun a e1 e2 => ?_, h'.disj, h'.nd, h'.env⟩
  · cases z : G.1 a with
    | some o' =>
      have q := h.frame a o e
      have q2 := h.sh a o' (h.base a o' z)
      rw [q] at q2
      cases q2
      exact h'.sh a _ (h'.base a _ (h.base a _ z))
    | none => exact h'.frame a o (fr a o e z).1
  · obtain ⟨o, eo⟩ := Option.isSome_iff_exists.mp e1
    obtain ⟨q1, q2⟩ := fr a o eo e2
    exact h'.priv a (by show ((rem H fp) a).isSome = true; rw [q1]; rfl) q2
/-- the heap has grown -/
structure Ext (Hs H Hs' H' : Hp) : Prop where
  s : Same Hs Hs'
  sh : Same Hs' H'
  keep : Same H H'
  priv : ∀ a, (H a).isSome = true → Hs a = none → Hs' a = none
theorem Ext.refl {Hs H : Hp} (h : Same Hs H) : Ext Hs H Hs H := ⟨Same.refl _, h, Same.refl _, fun _ _ h => h⟩
theorem Ext.trans {Hs H Hs1 H1 Hs2 H2 : Hp} (a : Ext Hs H Hs1 H1) (b : Ext Hs1 H1 Hs2 H2) : Ext Hs H Hs2 H2 :=
  ⟨a.s.trans b.s, b.sh, a.keep.trans b.keep, fun x e1 e2 => b.priv x (by
    obtain ⟨o, eo⟩ := Option.isSome_iff_exists.mp e1
    rw [a.keep x o eo]; rfl) (a.priv x e1 e2)⟩
theorem Ext.new {Hs H : Hp} {p : Addr} {o : HO} (h : Same Hs H) (n : H p = none) : Ext Hs H (upd Hs p o) (upd H p o) := by
  have np : Hs p = none := h.free n
  refine ⟨fun b u e => ?_, fun b u e => ?_, fun b u e => ?_, fun b e1 e2 => ?_⟩
  · rw [upd_ne (ne_of_none e np)]; exact e
  · by_cases z : b = p
    · subst z; rw [upd_same] at e ⊢; exact e
    · rw [upd_ne z] at e ⊢; exact h b u e
  · rw [upd_ne (ne_of_none e n)]; exact e
  · have z : b ≠ p := fun z => by subst z; rw [n] at e1; cases e1
    rw [upd_ne z]; exact e2
/-- grown outside of the shared part -/
theorem Ext.out {Hs H : Hp} {p : Addr} {o : HO} (h : Same Hs H) (n : H p = none) : Ext Hs H Hs (upd H p o) := by
  have k : Same H (upd H p o) := fun b u e => by rw [upd_ne (ne_of_none e n)]; exact e
  exact ⟨Same.refl _, h.trans k, k, fun _ _ e => e⟩
theorem OkAt.ext {K G σ H ρ Hs fp Hs' H'} (h : OkAt K G σ H ρ Hs fp) (e : Ext Hs H Hs' H') : OkAt K G σ H' ρ Hs' fp := by
  have th : ∀ a ∈ fp, ∃ o, H a = some o := h.env.there
  refine ⟨e.sh, h.base.trans e.s, h.frame.trans e.keep, fun a e1 e2 => ?_, fun a ha => ?_, h.nd, h.env.mono e.s fun a ha => ?_⟩
  · obtain ⟨q1, q2⟩ := h.priv a e1 e2
    obtain ⟨o, eo⟩ := Option.isSome_iff_exists.mp e1
    exact ⟨e.priv a (by rw [h.frame a o eo]; rfl) q1, q2⟩
  · obtain ⟨o, eo⟩ := th a ha
    exact e.priv a (by rw [eo]; rfl) (h.disj a ha)
  · obtain ⟨o, eo⟩ := th a ha
    rw [eo]; exact e.keep a o eo
end FL
namespace FL
open PySem PySem.Spec PyProof.Rows L2
/-! ### results -/
inductive RV where
  | leaf (d : D) | slot (i : Nat)
inductive Res (α : Type) where
  | ok (a : α) | exc (c : Str) (ρ : Env') | bad
def Res.bind {α β : Type} : Res α → (α → Res β) → Res β
  | .ok a, f => f a
  | .exc c ρ, _ => .exc c ρ
  | .bad, _ => .bad
@[simp] theorem bind_ok {α β : Type} (a : α) (f : α → Res β) : (Res.ok a).bind f = f a := rfl
@[simp] theorem bind_exc {α β : Type} (c : Str) (ρ : Env') (f : α → Res β) : (Res.exc c ρ).bind f = .exc c ρ := rfl
@[simp] theorem bind_bad {α β : Type} (f : α → Res β) : (Res.bad).bind f = .bad := rfl
def Res.of {α : Type} : Option α → Res α
  | some a => .ok a
  | none => .bad
@[simp] theorem of_some {α : Type} (a : α) : Res.of (some a) = .ok a := rfl
@[simp] theorem of_none {α : Type} : Res.of (none : Option α) = .bad := rfl
def RVd (K : PySem.W.Frag) (Hs : Hp) (σ : L2.St) : RV → V → Prop
  | .leaf d, v => Den K Hs d v
  | .slot i, v => σ[i]? = some (some v)
theorem RVd.mono {K Hs Hs' σ r v} (e : Same Hs Hs') (h : RVd K Hs σ r v) : RVd K Hs' σ r v := by
  cases r with
  | leaf d => exact Den.mono e h
  | slot i => exact h
/-! ### how a slot is looked at -/
def T.leaves : List T → Option (List D)
  | [] => some []
  | .sh d :: r => (T.leaves r).map (d :: ·)
  | _ :: _ => none
def T.top : T → Option D
  | .sh d => some d
  | .lst ts => (T.leaves ts).map D.lst
  | .dic ks ts => (T.leaves ts).map (D.dic ks)
  | .dit ks ts => (T.leaves ts).map (D.dit ks)
  | .at _ ts => (T.leaves ts).map D.lst
theorem T.leaves_sh : ∀ ds : List D, T.leaves (ds.map T.sh) = some ds
  | [] => rfl
  | d :: ds => by simp [T.leaves, T.leaves_sh ds]
theorem T.leaves_eq : ∀ {ts : List T} {ds : List D}, T.leaves ts = some ds → ts = ds.map T.sh
  | [], ds, h => by cases h; rfl
  | .sh d :: r, ds, h => by
    simp only [T.leaves, Option.map_eq_some_iff] at h
    obtain ⟨es, h1, h2⟩ := h
    subst h2
    simp [T.leaves_eq h1]
def look (ρ : Env') : RV → Option D
  | .leaf d => some d
  | .slot i => match ρ[i]? with
    | some (some t) => t.top
    | _ => none
/-- a thing whose own object may be owned; what is within is shared -/
def Den1 (K : PySem.W.Frag) (Hs H : Hp) : D → V → Prop
  | .lst ds, v => ∃ a vs, v = .ref a ∧ H a = some (.lst vs) ∧ DenL K Hs ds vs
  | .dic ks ds, v => ∃ a kv, v = .ref a ∧ H a = some (.dK kv) ∧ kv.map (·.1) = ks ∧ DenL K Hs ds (kv.map (·.2))
  | .dit ks ds, v => ∃ a kv, v = .ref a ∧ H a = some (.dT kv) ∧ kv.map (·.1) = ks ∧ DenL K Hs ds (kv.map (·.2))
  | d, v => Den K Hs d v
theorem Den.one {K Hs H} (e : Same Hs H) : ∀ {d v}, Den K Hs d v → Den1 K Hs H d v
  | .non, _, h | .bl _, _, h | .int _, _, h | .str _, _, h | .ty _, _, h | .tup _, _, h | .ftup _, _, h | .fz _, _, h => h
  | .lst _, _, ⟨a, vs, e1, e2, e3⟩ => ⟨a, vs, e1, e _ _ e2, e3⟩
  | .dic _ _, _, ⟨a, vs, e1, e2, e3, e4⟩ => ⟨a, vs, e1, e _ _ e2, e3, e4⟩
  | .dit _ _, _, ⟨a, vs, e1, e2, e3, e4⟩ => ⟨a, vs, e1, e _ _ e2, e3, e4⟩
theorem DenTL.leaf {K Hs H} : ∀ {ds : List D} {vs : List V} {fp : List Addr}, DenTL K Hs H (ds.map T.sh) vs fp → DenL K Hs ds vs ∧ fp = []
  | [], _, _, h => ⟨h.1, h.2⟩
  | d :: ds, _, _, ⟨v, r, f1, f2, e1, e2, e3, e4⟩ => by
    obtain ⟨h1, h2⟩ := DenTL.leaf e4
    obtain ⟨h3, h4⟩ := e3
    subst h2; subst h3; subst e1
    exact ⟨⟨v, r, rfl, h4, h1⟩, by simpa using e2⟩
theorem DenT.top {K Hs H} (e : Same Hs H) {t : T} {v : V} {fp : List Addr} {d : D} (h : DenT K Hs H t v fp) (q : t.top = some d) : Den1 K Hs H d v := by
  cases t with
  | sh d' =>
    cases q
    exact Den.one e h.2
  | lst ts =>
    simp only [T.top, Option.map_eq_some_iff] at q
    obtain ⟨ds, q1, q2⟩ := q
    subst q2
    rw [T.leaves_eq q1] at h
    obtain ⟨a, vs, fr, e1, e2, e3, e4⟩ := h
    exact ⟨a, vs, e1, e3, (DenTL.leaf e4).1⟩
  | dic ks ts =>
    simp only [T.top, Option.map_eq_some_iff] at q
    obtain ⟨ds, q1, q2⟩ := q
    subst q2
    rw [T.leaves_eq q1] at h
    obtain ⟨a, vs, fr, e1, e2, e3, e4, e5⟩ := h
    exact ⟨a, vs, e1, e3, e4, (DenTL.leaf e5).1⟩
  | dit ks ts =>
    simp only [T.top, Option.map_eq_some_iff] at q
    obtain ⟨ds, q1, q2⟩ := q
    subst q2
    rw [T.leaves_eq q1] at h
    obtain ⟨a, vs, fr, e1, e2, e3, e4, e5⟩ := h
    exact ⟨a, vs, e1, e3, e4, (DenTL.leaf e5).1⟩
  | «at» b ts =>
    simp only [T.top, Option.map_eq_some_iff] at q
    obtain ⟨ds, q1, q2⟩ := q
    subst q2
    rw [T.leaves_eq q1] at h
    obtain ⟨a, vs, fr, e1, e2, e3, e4, e5⟩ := h
    exact ⟨a, vs, e1, e3, (DenTL.leaf e5).1⟩
theorem look_den {K G σ H ρ Hs fp r v d} (h : OkAt K G σ H ρ Hs fp) (q : RVd K Hs σ r v) (e : look ρ r = some d) : Den1 K Hs H d v := by
  cases r with
  | leaf d' => cases e; exact Den.one h.sh q
  | slot i =>
    simp only [look] at e
    split at e
    · rename_i t hi
      obtain ⟨v', f1, f2, f3, h1, h2, h3, _⟩ := h.env.at hi
      have q' : σ[i]? = some (some v) := q
      rw [h1] at q'
      cases q'
      exact h3.top h.sh e
    · cases e
/-! ### expressions -/
section
variable (K : PySem.W.Frag) (mg : Str → Option Value) (W : WX)
def PoE (G : Gh) (σ : L2.St) (Q : VK) : Res (RV × Env') → Prop
  | .ok (r, ρ') => ∀ v H' Hs fp, OkAt K G σ H' ρ' Hs fp → RVd K Hs σ r v → Q v H'
  | .exc c ρ' => ∀ H' C, mg c = some (.ref C) → Ok K G σ H' ρ' → W (.ref C) none σ H'
  | .bad => False
/-- the reading of an expression by a function of the environment -/
def tFO (f : Env' → Res (RV × Env')) : TE := fun σ H Q => ∃ G ρ, Ok K G σ H ρ ∧ PoE K mg W G σ Q (f ρ)
def PoT (G : Gh) (σ : L2.St) (Q : Bool → Hp → Prop) : Res (Bool × Env') → Prop
  | .ok (b, ρ') => ∀ H', Ok K G σ H' ρ' → Q b H'
  | .exc c ρ' => ∀ H' C, mg c = some (.ref C) → Ok K G σ H' ρ' → W (.ref C) none σ H'
  | .bad => False
def tFB (f : Env' → Res (Bool × Env')) : TT := fun σ H Q => ∃ G ρ, Ok K G σ H ρ ∧ PoT K mg W G σ Q (f ρ)
/-- trees, fresh -/
def PoN (G : Gh) (σ : L2.St) (Q : VK) : Res (T × Env') → Prop
  | .ok (t, ρ') => ∀ v H' Hs fp ft, OkAt K G σ H' ρ' Hs fp → DenT K Hs H' t v ft → ft.Nodup → (∀ a ∈ ft, Hs a = none ∧ a ∉ fp ∧ G.2 a = none) → Q v H'
  | .exc c ρ' => ∀ H' C, mg c = some (.ref C) → Ok K G σ H' ρ' → W (.ref C) none σ H'
  | .bad => False
def tFN (f : Env' → Res (T × Env')) : TE := fun σ H Q => ∃ G ρ, Ok K G σ H ρ ∧ PoN K mg W G σ Q (f ρ)
def RVL (Hs : Hp) (σ : L2.St) : List RV → List V → Prop
  | [], vs => vs = []
  | r :: rs, vs => ∃ v ws, vs = v :: ws ∧ RVd K Hs σ r v ∧ RVL Hs σ rs ws
def PoA (G : Gh) (σ : L2.St) (Q : List V → Hp → Prop) : Res (List RV × Env') → Prop
  | .ok (rs, ρ') => ∀ vs H' Hs fp, OkAt K G σ H' ρ' Hs fp → RVL K Hs σ rs vs → Q vs H'
  | .exc c ρ' => ∀ H' C, mg c = some (.ref C) → Ok K G σ H' ρ' → W (.ref C) none σ H'
  | .bad => False
def tFA (f : Env' → Res (List RV × Env')) : TA := fun σ H Q => ∃ G ρ, Ok K G σ H ρ ∧ PoA K mg W G σ Q (f ρ)
end
theorem RVL.mono {K Hs Hs' σ} (e : Same Hs Hs') : ∀ {rs vs}, RVL K Hs σ rs vs → RVL K Hs' σ rs vs
  | [], _, h => h
  | _ :: _, _, ⟨v, ws, e1, e2, e3⟩ => ⟨v, ws, e1, e2.mono e, RVL.mono e e3⟩
theorem rem_none {K G σ H ρ Hs fp} (h : OkAt K G σ H ρ Hs fp) {a : Addr} (e : rem H fp a = none) : G.2 a = none := by
  cases z : G.2 a with
  | none => rfl
  | some o =>
    have n : a ∉ fp := fun hm => by
      cases y : G.1 a with
      | none => exact (h.priv a (by rw [z]; rfl) y).2 hm
      | some u =>
        have := h.disj a hm
        rw [h.base a u y] at this
        cases this
    simp only [rem, n, if_false] at e
    rw [h.frame a o z] at e
    cases e
theorem Ok.back {K G σ σ' H H' ρ ρ' Hs fp} (h : OkAt K G σ H ρ Hs fp) (h' : Ok K (Hs, rem H fp) σ' H' ρ') : Ok K G σ' H' ρ' := by
  obtain ⟨Hs', fp', k⟩ := h'
  exact ⟨Hs', fp', h.back k⟩
theorem _root_.L2.PE.imp {X : Cx} {e : Expr} {t t' : TE} (h : PE X e t) (i : ∀ σ H Q, t' σ H Q → t σ H Q) : PE X e t' := ⟨fun pins s σ H Q I q => h.run pins s σ H Q I (i σ H Q q)⟩
theorem _root_.L2.PT.imp {X : Cx} {e : Expr} {t t' : TT} (h : PT X e t) (i : ∀ σ H Q, t' σ H Q → t σ H Q) : PT X e t' := ⟨fun pins s σ H Q I q => h.run pins s σ H Q I (i σ H Q q)⟩
theorem _root_.L2.PW.imp {X : Cx} {e : Expr} {t t' : TT} (h : PW X e t) (i : ∀ σ H Q, t' σ H Q → t σ H Q) : PW X e t' := ⟨fun wh pins s σ H Q I q => h.run wh pins s σ H Q I (i σ H Q q)⟩
theorem _root_.L2.PA.imp {X : Cx} {e : List Expr} {t t' : TA} (h : PA X e t) (i : ∀ σ H Q, t' σ H Q → t σ H Q) : PA X e t' := ⟨fun pos pins s σ H Q I q => h.run pos pins s σ H Q I (i σ H Q q)⟩
theorem _root_.L2.PS.imp {X : Cx} {e : Stmt} {t t' : TS} (h : PS X e t) (i : ∀ D σ H, t' D σ H → t D σ H) : PS X e t' := ⟨fun pins s σ H D I q => h.run pins s σ H D I (i D σ H q)⟩
theorem _root_.L2.PSs.imp {X : Cx} {e : List Stmt} {t t' : TS} (h : PSs X e t) (i : ∀ D σ H, t' D σ H → t D σ H) : PSs X e t' := ⟨fun pins s σ H D I q => h.run pins s σ H D I (i D σ H q)⟩
section
variable {K : PySem.W.Frag} {mg : Str → Option Value} {W : WX} {G : Gh} {σ : L2.St} {H : Hp} {ρ : Env'} {Hs : Hp} {fp : List Addr} {β : Type} {P : Res β → Prop}
/-- an expression's reading, then the rest -/
theorem goE {f : Env' → Res (RV × Env')} {k : RV × Env' → Res β} {R : VK} (ok : OkAt K G σ H ρ Hs fp) (po : P ((f ρ).bind k))
    (hx : ∀ c ρ', P (.exc c ρ') → ∀ H' C, mg c = some (.ref C) → Ok K G σ H' ρ' → W (.ref C) none σ H') (hb : ¬ P .bad)
    (cont : ∀ r ρ1 x H1 Hs1 fp1, OkAt K (Hs, rem H fp) σ H1 ρ1 Hs1 fp1 → RVd K Hs1 σ r x → P (k (r, ρ1)) → R x H1) : tFO K mg W f σ H R := by
  refine ⟨_, ρ, ⟨Hs, fp, ok.self⟩, ?_⟩
  cases e : f ρ with
  | ok p =>
    obtain ⟨r, ρ1⟩ := p
    rw [e] at po
    exact fun x H1 Hs1 fp1 ok1 d1 => cont r ρ1 x H1 Hs1 fp1 ok1 d1 po
  | exc c ρ' =>
    rw [e] at po
    exact fun H' C hc o => hx c ρ' po H' C hc (Ok.back ok o)
  | bad =>
    rw [e] at po
    exact hb po
theorem goT {f : Env' → Res (Bool × Env')} {k : Bool × Env' → Res β} {R : Bool → Hp → Prop} (ok : OkAt K G σ H ρ Hs fp) (po : P ((f ρ).bind k))
    (hx : ∀ c ρ', P (.exc c ρ') → ∀ H' C, mg c = some (.ref C) → Ok K G σ H' ρ' → W (.ref C) none σ H') (hb : ¬ P .bad)
    (cont : ∀ b ρ1 H1 Hs1 fp1, OkAt K (Hs, rem H fp) σ H1 ρ1 Hs1 fp1 → P (k (b, ρ1)) → R b H1) : tFB K mg W f σ H R := by
  refine ⟨_, ρ, ⟨Hs, fp, ok.self⟩, ?_⟩
  cases e : f ρ with
  | ok p =>
    obtain ⟨r, ρ1⟩ := p
    rw [e] at po
    exact fun H1 ⟨Hs1, fp1, ok1⟩ => cont r ρ1 H1 Hs1 fp1 ok1 po
  | exc c ρ' =>
    rw [e] at po
    exact fun H' C hc o => hx c ρ' po H' C hc (Ok.back ok o)
  | bad =>
    rw [e] at po
    exact hb po
theorem goN {f : Env' → Res (T × Env')} {k : T × Env' → Res β} {R : VK} (ok : OkAt K G σ H ρ Hs fp) (po : P ((f ρ).bind k))
    (hx : ∀ c ρ', P (.exc c ρ') → ∀ H' C, mg c = some (.ref C) → Ok K G σ H' ρ' → W (.ref C) none σ H') (hb : ¬ P .bad)
    (cont : ∀ t ρ1 x H1 Hs1 fp1 ft, OkAt K (Hs, rem H fp) σ H1 ρ1 Hs1 fp1 → DenT K Hs1 H1 t x ft → ft.Nodup → (∀ a ∈ ft, Hs1 a = none ∧ a ∉ fp1 ∧ rem H fp a = none) → P (k (t, ρ1)) → R x H1) : tFN K mg W f σ H R := by
  refine ⟨_, ρ, ⟨Hs, fp, ok.self⟩, ?_⟩
  cases e : f ρ with
  | ok p =>
    obtain ⟨r, ρ1⟩ := p
    rw [e] at po
    exact fun x H1 Hs1 fp1 ft ok1 d1 n1 q1 => cont r ρ1 x H1 Hs1 fp1 ft ok1 d1 n1 q1 po
  | exc c ρ' =>
    rw [e] at po
    exact fun H' C hc o => hx c ρ' po H' C hc (Ok.back ok o)
  | bad =>
    rw [e] at po
    exact hb po
theorem goA {f : Env' → Res (List RV × Env')} {k : List RV × Env' → Res β} {R : List V → Hp → Prop} (ok : OkAt K G σ H ρ Hs fp) (po : P ((f ρ).bind k))
    (hx : ∀ c ρ', P (.exc c ρ') → ∀ H' C, mg c = some (.ref C) → Ok K G σ H' ρ' → W (.ref C) none σ H') (hb : ¬ P .bad)
    (cont : ∀ rs ρ1 xs H1 Hs1 fp1, OkAt K (Hs, rem H fp) σ H1 ρ1 Hs1 fp1 → RVL K Hs1 σ rs xs → P (k (rs, ρ1)) → R xs H1) : tFA K mg W f σ H R := by
  refine ⟨_, ρ, ⟨Hs, fp, ok.self⟩, ?_⟩
  cases e : f ρ with
  | ok p =>
    obtain ⟨r, ρ1⟩ := p
    rw [e] at po
    exact fun x H1 Hs1 fp1 ok1 d1 => cont r ρ1 x H1 Hs1 fp1 ok1 d1 po
  | exc c ρ' =>
    rw [e] at po
    exact fun H' C hc o => hx c ρ' po H' C hc (Ok.back ok o)
  | bad =>
    rw [e] at po
    exact hb po
end
/-! ### names, constants -/
section
variable {X : Cx} {mg : Str → Option Value} {W : WX}
def eVar (i : Nat) : Env' → Res (RV × Env') := fun ρ => match ρ[i]? with
  | some (some (.sh d)) => .ok (.leaf d, ρ)
  | some (some _) => .ok (.slot i, ρ)
  | _ => .bad
def eC (d : D) : Env' → Res (RV × Env') := fun ρ => .ok (.leaf d, ρ)
theorem fo_var (i : Nat) {x : Str} {pos : Pos} (hN : X.N[i]? = some x := by rfl) (hv : Vis X.env.scope x := by first | exact Or.inl rfl | exact Or.inr (Or.inl rfl) | exact Or.inr (Or.inr rfl)) (hd : (x == ("__debug__" : Str)) = false := by decide)
    (hcd : (x == ("__classdict__" : Str)) = false := by decide) : PE X (.Name x pos) (tFO X.K mg W (eVar i)) := by
  refine (pe_var hN hv hd hcd).imp fun σ H Q ⟨G, ρ, ⟨Hs, fp, ok⟩, po⟩ => ?_
  unfold eVar at po
  split at po
  · rename_i d hi
    obtain ⟨v, f1, f2, f3, h1, h2, h3, _⟩ := ok.env.at hi
    exact ⟨v, h1, po v H Hs fp ok h3.2⟩
  · rename_i t hi
    obtain ⟨v, f1, f2, f3, h1, h2, h3, _⟩ := ok.env.at hi
    exact ⟨v, h1, po v H Hs fp ok h1⟩
  · exact po.elim
theorem fo_c {e : Expr} {v : V} {d : D} (h : PE X e (tC v)) (hd : ∀ H, Den X.K H d v) : PE X e (tFO X.K mg W (eC d)) :=
  h.imp fun σ H Q ⟨G, ρ, ⟨Hs, fp, ok⟩, po⟩ => po v H Hs fp ok (hd Hs)
theorem fo_int {i j pos} : PE X (.Constant (.int i) j pos) (tFO X.K mg W (eC (.int i))) := fo_c pe_int fun _ => rfl
theorem fo_bl {b j pos} : PE X (.Constant (.bool b) j pos) (tFO X.K mg W (eC (.bl b))) := fo_c pe_bl fun _ => rfl
theorem fo_non {j pos} : PE X (.Constant .none j pos) (tFO X.K mg W (eC .non)) := fo_c pe_non fun _ => rfl
theorem fo_str {x j pos} (h : sOk x := by decide +kernel) : PE X (.Constant (.str x) j pos) (tFO X.K mg W (eC (.str x))) := fo_c pe_str fun _ => ⟨rfl, h⟩
/-- a constant of the module -/
theorem fo_glob {x : Str} {d : D} {v : V} {u : Value} {pos : Pos} (hg : Gl X x) (hm : X.mg x = some u) (r : RelV v u) (hd : ∀ H, Den X.K H d v) (hdb : (x == ("__debug__" : Str)) = false := by decide) : PE X (.Name x pos) (tFO X.K mg W (eC d)) :=
  fo_c (pe_glob hg hm r hdb) hd
/-! ### two-place operations -/
/-- an operation on data; its end is shared, new things may have been made -/
def OpD (X : Cx) (f : Value → Value → Sem Value) (g : D → D → Option D) : Prop :=
  OpR X f fun x y H Q => ∃ Hs d1 d2 d, Same Hs H ∧ Den1 X.K Hs H d1 x ∧ Den1 X.K Hs H d2 y ∧ g d1 d2 = some d ∧ ∀ v Hs' H', Ext Hs H Hs' H' → Den X.K Hs' d v → Q v H'
def eBin (g : D → D → Option D) (fa fb : Env' → Res (RV × Env')) : Env' → Res (RV × Env') := fun ρ =>
  (fa ρ).bind fun (r1, ρ1) => (fb ρ1).bind fun (r2, ρ2) => (Res.of (look ρ2 r1)).bind fun d1 => (Res.of (look ρ2 r2)).bind fun d2 => (Res.of (g d1 d2)).bind fun d => .ok (.leaf d, ρ2)
section
variable {a b c : Expr} {fa fb fc : Env' → Res (RV × Env')} {pos : Pos}
theorem bin_go {r : R2} {g : D → D → Option D} (hr : ∀ x y H Q, (∃ Hs d1 d2 d, Same Hs H ∧ Den1 X.K Hs H d1 x ∧ Den1 X.K Hs H d2 y ∧ g d1 d2 = some d ∧ ∀ v Hs' H', Ext Hs H Hs' H' → Den X.K Hs' d v → Q v H') → r x y H Q)
    {σ : L2.St} {H : Hp} {Q : VK} (h : tFO X.K mg W (eBin g fa fb) σ H Q) : tOp r (tFO X.K mg W fa) (tFO X.K mg W fb) σ H Q := by
  obtain ⟨G, ρ, ⟨Hs, fp, ok⟩, po⟩ := h
  refine goE ok po (fun _ _ h => h) id fun r1 ρ1 x H1 Hs1 fp1 ok1 dx po1 => ?_
  have ok1' := ok.back ok1
  refine goE ok1' po1 (fun _ _ h => h) id fun r2 ρ2 y H2 Hs2 fp2 ok2 dy po2 => hr x y H2 Q ?_
  have ok2' := ok1'.back ok2
  have dx' : RVd X.K Hs2 σ r1 x := dx.mono ok2.base
  cases e1 : look ρ2 r1 with
  | none => simp only [e1] at po2; exact po2.elim
  | some d1 =>
    cases e2 : look ρ2 r2 with
    | none => simp only [e1, e2] at po2; exact po2.elim
    | some d2 =>
      cases e3 : g d1 d2 with
      | none => simp only [e1, e2, e3, of_some, bind_ok] at po2; exact po2.elim
      | some d =>
        simp only [e1, e2, e3, of_some, bind_ok] at po2
        exact ⟨Hs2, d1, d2, d, ok2'.sh, look_den ok2' dx' e1, look_den ok2' dy e2, e3, fun v Hs' H' ex dv => po2 v H' Hs' fp2 (ok2'.ext ex) dv⟩
theorem fo_bin {op : Operator} {g : D → D → Option D} (ho : OpD X (binaryOp op) g) (ha : PE X a (tFO X.K mg W fa)) (hb : PE X b (tFO X.K mg W fb)) : PE X (.BinOp a op b pos) (tFO X.K mg W (eBin g fa fb)) :=
  (pe_op ho ha hb).imp fun _ _ _ h => bin_go (fun _ _ _ _ q => q) h
theorem fo_cmp {op : CmpOp} {g : D → D → Option D} (ho : OpD X (compareOp op) g) (ha : PE X a (tFO X.K mg W fa)) (hb : PE X b (tFO X.K mg W fb)) (hm : behindInMarks op b = false) : PE X (.Compare a [op] [b] pos) (tFO X.K mg W (eBin g fa fb)) :=
  (pe_cmpR ho ha hb hm).imp fun _ _ _ h => bin_go (fun _ _ _ _ q => q) h
end
end
end FL
namespace FL
open PySem PySem.Spec PyProof.Rows L2
/-! ### texts -/
theorem strOk_app {x y : Str} (hx : PyData.strOk x = true) (hy : PyData.strOk y = true) : PyData.strOk (x ++ y) = true := by
  unfold PyData.strOk at *
  show (x.cps ++ y.cps).all _ = true
  rw [Array.all_append, hx, hy]; rfl
theorem strOk_sub {x : Str} {l : List Nat} (hx : PyData.strOk x = true) (h : ∀ c ∈ l, c ∈ x.cps.toList) : PyData.strOk ⟨l.toArray⟩ = true := by
  unfold PyData.strOk at *
  simp only [Array.all_eq_true', decide_eq_true_eq] at *
  intro c hc
  exact hx c (by simpa using h c (by simpa using hc))
theorem len_app (x y : Str) : (x ++ y).length = x.length + y.length := by
  show (x.cps ++ y.cps).size = _
  rw [Array.size_append]; rfl
theorem sOk_app {x y : Str} (hx : sOk x) (hy : sOk y) (h : x.length + y.length ≤ sizeLine) : sOk (x ++ y) := ⟨by rw [len_app]; exact h, strOk_app hx.2 hy.2⟩
theorem sOk_sub {x : Str} {l : List Nat} (hx : sOk x) (h : ∀ c ∈ l, c ∈ x.cps.toList) (hl : l.length ≤ x.length) : sOk ⟨l.toArray⟩ := ⟨by show l.toArray.size ≤ _; rw [List.size_toArray]; exact Nat.le_trans hl hx.1, strOk_sub hx.2 h⟩
theorem sOk_sign {x : Str} {c : Nat} (hx : sOk x) (h : c ∈ x.cps.toList) : sOk ⟨#[c]⟩ := sOk_sub (l := [c]) hx (by simpa using h) (by
  have : 0 < x.cps.toList.length := List.length_pos_of_mem h
  simp only [List.length_cons, List.length_nil, Array.length_toList] at this ⊢; exact this)
/-! ### data for == -/
mutual
def D.py : D → PyData
  | .non => .none
  | .bl b => .bool b
  | .int i => .int i
  | .str x => .str x
  | .ty _ => .dict []
  | .tup ds => .tuple (D.pys ds)
  | .ftup ds => .tuple (D.pys ds)
  | .lst ds => .list (D.pys ds)
  | .fz ds => .list (D.pys ds)
  | .dic _ _ => .dict []
  | .dit _ _ => .dict []
def D.pys : List D → List PyData
  | [] => []
  | d :: ds => d.py :: D.pys ds
end
mutual
def D.data : D → Bool
  | .non => true
  | .bl _ => true
  | .int _ => true
  | .str _ => true
  | .tup ds => D.datas ds
  | .ftup ds => D.datas ds
  | .lst ds => D.datas ds
  | .fz ds => D.datas ds
  | _ => false
def D.datas : List D → Bool
  | [] => true
  | d :: ds => d.data && D.datas ds
end
mutual
def D.deep : D → Nat
  | .tup ds => D.deeps ds + 1
  | .ftup ds => D.deeps ds + 1
  | .lst ds => D.deeps ds + 1
  | .fz ds => D.deeps ds + 1
  | _ => 0
def D.deeps : List D → Nat
  | [] => 0
  | d :: ds => max d.deep (D.deeps ds)
end
mutual
theorem D.deep_py : ∀ d : D, d.data = true → d.py.depth = d.deep
  | .non, _ | .bl _, _ | .int _, _ | .str _, _ => by simp [D.py, PyData.depth, D.deep]
  | .tup ds, h | .ftup ds, h | .lst ds, h | .fz ds, h => by simp [D.py, PyData.depth, D.deep, D.deeps_py ds (by simpa [D.data] using h)]
  | .ty _, h | .dic _ _, h | .dit _ _, h => by simp [D.data] at h
theorem D.deeps_py : ∀ ds : List D, D.datas ds = true → PyData.depthAll (D.pys ds) = D.deeps ds
  | [], _ => by simp [D.pys, PyData.depthAll, D.deeps]
  | d :: ds, h => by
    simp only [D.datas, Bool.and_eq_true] at h
    simp [D.pys, PyData.depthAll, D.deeps, D.deep_py d h.1, D.deeps_py ds h.2]
end
mutual
theorem Den.dp {K H} : ∀ {d : D} {v : V}, Den K H d v → d.data = true → Dp K H v d.py ∧ d.py.canLay0 = true
  | .non, _, h, _ => by rw [h]; exact ⟨.non, by simp [D.py, PyData.canLay0]⟩
  | .bl _, _, h, _ => by rw [h]; exact ⟨.bl _, by simp [D.py, PyData.canLay0]⟩
  | .int _, _, h, _ => by rw [h]; exact ⟨.int _, by simp [D.py, PyData.canLay0]⟩
  | .str _, _, h, _ => by rw [h.1]; exact ⟨.str _, by simpa [D.py, PyData.canLay0] using h.2.2⟩
  | .tup ds, _, ⟨a, vs, e1, e2, e3⟩, q => by
    obtain ⟨h1, h2⟩ := DenL.dp e3 (by simpa [D.data] using q)
    rw [e1]
    exact ⟨.tup (SqT.of e2) h1, by simpa [D.py, PyData.canLay0] using h2⟩
  | .ftup ds, _, ⟨a, vs, e1, e2, e3⟩, q => by
    obtain ⟨h1, h2⟩ := DenL.dp e3 (by simpa [D.data] using q)
    rw [e1]
    exact ⟨.tup e2 h1, by simpa [D.py, PyData.canLay0] using h2⟩
  | .lst ds, _, ⟨a, vs, e1, e2, e3⟩, q => by
    obtain ⟨h1, h2⟩ := DenL.dp e3 (by simpa [D.data] using q)
    rw [e1]
    exact ⟨.lst (SqL.lst e2) h1, by simpa [D.py, PyData.canLay0] using h2⟩
  | .fz ds, _, ⟨a, vs, e1, e2, e3⟩, q => by
    obtain ⟨h1, h2⟩ := DenL.dp e3 (by simpa [D.data] using q)
    rw [e1]
    exact ⟨.lst e2 h1, by simpa [D.py, PyData.canLay0] using h2⟩
  | .ty _, _, _, h | .dic _ _, _, _, h | .dit _ _, _, _, h => by simp [D.data] at h
theorem DenL.dp {K H} : ∀ {ds : List D} {vs : List V}, DenL K H ds vs → D.datas ds = true → DpAll K H vs (D.pys ds) ∧ PyData.canLayAll0 (D.pys ds) = true
  | [], _, h, _ => by cases h; exact ⟨.nil, by simp [D.pys, PyData.canLayAll0]⟩
  | d :: ds, _, ⟨v, r, e1, e2, e3⟩, q => by
    simp only [D.datas, Bool.and_eq_true] at q
    obtain ⟨h1, h2⟩ := Den.dp e2 q.1
    obtain ⟨h3, h4⟩ := DenL.dp e3 q.2
    subst e1
    exact ⟨.cons h1 h3, by simp [D.pys, PyData.canLayAll0, h2, h4]⟩
end
theorem Den1.full {K Hs H} (e : Same Hs H) : ∀ {d v}, Den1 K Hs H d v → Den K H d v
  | .non, _, h | .bl _, _, h | .int _, _, h | .str _, _, h | .ty _, _, h => h
  | .tup _, _, h | .ftup _, _, h | .fz _, _, h => Den.mono e h
  | .lst _, _, ⟨a, vs, e1, e2, e3⟩ => ⟨a, vs, e1, e2, e3.mono e⟩
  | .dic _ _, _, ⟨a, vs, e1, e2, e3, e4⟩ => ⟨a, vs, e1, e2, e3, e4.mono e⟩
  | .dit _ _, _, ⟨a, vs, e1, e2, e3, e4⟩ => ⟨a, vs, e1, e2, e3, e4.mono e⟩
def D.cmpOk (d : D) : Bool := d.data && decide (d.deep ≤ 60)
theorem D.shaped {K H d v} (h : Den K H d v) (q : D.cmpOk d = true) : Dp K H v d.py ∧ SeqAt.shaped d.py = true := by
  simp only [D.cmpOk, Bool.and_eq_true, decide_eq_true_eq] at q
  obtain ⟨h1, h2⟩ := h.dp q.1
  refine ⟨h1, ?_⟩
  unfold SeqAt.shaped
  rw [h2, D.deep_py d q.1]
  simp only [Bool.true_and, decide_eq_true_eq]
  omega
/-- == -/
def D.eqb (d e : D) : Bool := PyData.eqv d.py e.py
def D.eq (d e : D) : Option D := if D.cmpOk d = true ∧ D.cmpOk e = true then some (.bl (D.eqb d e)) else none
def D.ne (d e : D) : Option D := if D.cmpOk d = true ∧ D.cmpOk e = true then some (.bl (!D.eqb d e)) else none
def D.items : D → Option (List D)
  | .lst ds => some ds
  | .tup ds => some ds
  | .ftup ds => some ds
  | .fz ds => some ds
  | _ => none
def sIn (x z : Str) : Bool := match x.cps.toList with
  | [c] => decide (c ∈ z.cps.toList)
  | _ => !(Builtin.Str.occurrences z x 0 z.length 1).isEmpty
/-- flat -/
def D.flat : D → Bool
  | .non => true
  | .bl _ => true
  | .int _ => true
  | .str _ => true
  | _ => false
def D.isin (d e : D) : Option D := match e with
  | .str z => match d with
    | .str x => some (.bl (sIn x z))
    | _ => none
  | .lst ds => if D.cmpOk d = true ∧ D.cmpOk (.lst ds) = true then some (.bl (ds.any fun z => D.eqb z d)) else none
  | .fz ds => if D.cmpOk d = true ∧ D.cmpOk (.lst ds) = true then some (.bl (ds.any fun z => D.eqb z d)) else none
  | .tup ds => if d.flat = true ∧ ds.all D.flat = true then some (.bl (ds.any fun z => D.eqb z d)) else none
  | .ftup ds => if d.flat = true ∧ ds.all D.flat = true then some (.bl (ds.any fun z => D.eqb z d)) else none
  | _ => none
def D.notin (d e : D) : Option D := match D.isin d e with
  | some (.bl b) => some (.bl (!b))
  | _ => none
section
variable {X : Cx}
theorem od_eq (hu : X.A.units + 64 < cLine) : OpD X (compareOp .Eq) D.eq := by
  rintro pins s σ H x y v u Q I rx ry ⟨Hs, d1, d2, d, e, h1, h2, g, q⟩
  unfold D.eq at g
  split at g
  · rename_i c
    cases g
    obtain ⟨p1, q1⟩ := D.shaped (h1.full e) c.1
    obtain ⟨p2, q2⟩ := D.shaped (h2.full e) c.2
    exact op_eqD hu pins s σ H x y v u Q I rx ry ⟨_, _, p1, p2, q1, q2, q _ _ _ (.refl e) rfl⟩
  · cases g
theorem od_ne (hu : X.A.units + 64 < cLine) : OpD X (compareOp .NotEq) D.ne := by
  rintro pins s σ H x y v u Q I rx ry ⟨Hs, d1, d2, d, e, h1, h2, g, q⟩
  unfold D.ne at g
  split at g
  · rename_i c
    cases g
    obtain ⟨p1, q1⟩ := D.shaped (h1.full e) c.1
    obtain ⟨p2, q2⟩ := D.shaped (h2.full e) c.2
    exact op_neD hu pins s σ H x y v u Q I rx ry ⟨_, _, p1, p2, q1, q2, q _ _ _ (.refl e) rfl⟩
  · cases g
theorem any_py (d : D) : ∀ ds : List D, (D.pys ds).any (fun z => PyData.eqv z d.py) = ds.any fun z => D.eqb z d
  | [] => rfl
  | e :: ds => by simp [D.pys, any_py d ds, D.eqb]
theorem flat_den {K H} {d : D} {v : V} (h : Den K H d v) (q : d.flat = true) : flatV v = true := by
  cases d with
  | non => rw [show v = _ from h]; rfl
  | bl b => rw [show v = _ from h]; rfl
  | int i => rw [show v = _ from h]; rfl
  | str x => rw [h.1]; rfl
  | _ => cases q
theorem flats_den {K H} : ∀ {ds : List D} {vs : List V}, DenL K H ds vs → ds.all D.flat = true → vs.all flatV = true
  | [], _, h, _ => by rw [h]; rfl
  | d :: ds, _, ⟨v, r, e1, e2, e3⟩, q => by
    rw [List.all_cons, Bool.and_eq_true] at q
    rw [e1, List.all_cons, flat_den e2 q.1, flats_den e3 q.2]; rfl
theorem eqV_den {K H} {d e : D} {v w : V} (h1 : Den K H d v) (h2 : Den K H e w) (f1 : d.flat = true) (f2 : e.flat = true) : eqV v w = D.eqb d e := by
  have z : ∀ {d : D} {v : V}, Den K H d v → d.flat = true → (d = .non ∧ v = .non) ∨ (∃ b, d = .bl b ∧ v = .bl b) ∨ (∃ i, d = .int i ∧ v = .int i) ∨ ∃ x, d = .str x ∧ v = .str x := by
    intro d v h q
    cases d with
    | non => exact .inl ⟨rfl, h⟩
    | bl b => exact .inr (.inl ⟨_, rfl, h⟩)
    | int i => exact .inr (.inr (.inl ⟨_, rfl, h⟩))
    | str x => exact .inr (.inr (.inr ⟨_, rfl, h.1⟩))
    | _ => cases q
  rcases z h1 f1 with ⟨rfl, rfl⟩ | ⟨b, rfl, rfl⟩ | ⟨i, rfl, rfl⟩ | ⟨x, rfl, rfl⟩ <;> rcases z h2 f2 with ⟨rfl, rfl⟩ | ⟨b', rfl, rfl⟩ | ⟨i', rfl, rfl⟩ | ⟨x', rfl, rfl⟩ <;> simp [eqV, D.eqb, D.py, PyData.eqv]
theorem inV_den {K H} {d : D} {v : V} (h1 : Den K H d v) (f1 : d.flat = true) : ∀ {ds : List D} {vs : List V}, DenL K H ds vs → ds.all D.flat = true → inV v vs = ds.any fun z => D.eqb z d
  | [], _, h, _ => by rw [h]; rfl
  | e :: ds, _, ⟨w, r, e1, e2, e3⟩, q => by
    rw [List.all_cons, Bool.and_eq_true] at q
    have := inV_den h1 f1 e3 q.2
    unfold inV at *
    rw [e1, List.any_cons, List.any_cons, this, eqV_den e2 h1 q.1 f1]
theorem sIn_str (x z : Str) (P : Bool → Prop) : P (sIn x z) → (∃ c, x = ⟨#[c]⟩ ∧ P (decide (c ∈ z.cps.toList))) ∨ P (!(Builtin.Str.occurrences z x 0 z.length 1).isEmpty) := by
  intro h
  unfold sIn at h
  split at h
  · rename_i c hc
    refine .inl ⟨c, ?_, h⟩
    cases x with
    | mk a =>
      have : a = #[c] := by
        apply Array.toList_inj.mp
        simpa using hc
      rw [this]
  · exact .inr h
theorem od_in (hu : X.A.units + 65 < cLine) : OpD X (compareOp .In) D.isin := by
  rintro pins s σ H x y v u Q I rx ry ⟨Hs, d1, d2, d, e, h1, h2, g, q⟩
  unfold D.isin at g
  split at g
  · split at g
    · cases g
      obtain ⟨rfl, _⟩ := h1
      obtain ⟨rfl, _⟩ := h2
      have := q _ _ _ (.refl e) rfl
      rcases sIn_str _ _ (fun b => Q (.bl b) H) this with ⟨c, hc, z⟩ | z
      · exact op_in_sign pins s σ H _ _ v u Q I rx ry ⟨c, _, by rw [hc], rfl, z⟩
      · exact op_in_str pins s σ H _ _ v u Q I rx ry ⟨_, _, rfl, rfl, z⟩
    · cases g
  · split at g
    · rename_i ds c
      cases g
      obtain ⟨p1, q1⟩ := D.shaped (h1.full e) c.1
      obtain ⟨p2, q2⟩ := D.shaped (Den1.full (d := .lst ds) e h2) c.2
      exact op_inD hu pins s σ H x y v u Q I rx ry ⟨_, _, p1, p2, q1, q2, by rw [any_py]; exact q _ _ _ (.refl e) rfl⟩
    · cases g
  · split at g
    · rename_i ds c
      cases g
      obtain ⟨p1, q1⟩ := D.shaped (h1.full e) c.1
      have c2 : D.cmpOk (.fz ds) = true := c.2
      obtain ⟨p2, q2⟩ := D.shaped (Den1.full (d := .fz ds) e h2) c2
      exact op_inD hu pins s σ H x y v u Q I rx ry ⟨_, _, p1, p2, q1, q2, by rw [any_py]; exact q _ _ _ (.refl e) rfl⟩
    · cases g
  · split at g
    · rename_i ds c
      cases g
      obtain ⟨a, vs, e1, e2, e3⟩ := (Den1.full (d := .tup ds) e h2)
      have f1 := h1.full e
      refine op_in_seq pins s σ H x y v u Q I rx ry ⟨a, vs, e1, .inr (SqT.of e2), flat_den f1 c.1, flats_den e3 c.2, ?_⟩
      rw [if_neg (by simp), inV_den f1 c.1 e3 c.2]
      exact q _ _ _ (.refl e) rfl
    · cases g
  · split at g
    · rename_i ds c
      cases g
      obtain ⟨a, vs, e1, e2, e3⟩ := (Den1.full (d := .ftup ds) e h2)
      have f1 := h1.full e
      refine op_in_seq pins s σ H x y v u Q I rx ry ⟨a, vs, e1, .inr e2, flat_den f1 c.1, flats_den e3 c.2, ?_⟩
      rw [if_neg (by simp), inV_den f1 c.1 e3 c.2]
      exact q _ _ _ (.refl e) rfl
    · cases g
  · cases g
end
end FL
namespace FL
open PySem PySem.Spec PyProof.Rows L2
/-! ### one-place operations, calls of built-ins, by data -/
noncomputable def UnD (X : Cx) (f : Value → Sem Value) (g : D → Option D) : Prop :=
  UnR X f fun x H Q => ∃ Hs d1 d, Same Hs H ∧ Den1 X.K Hs H d1 x ∧ g d1 = some d ∧ ∀ v Hs' H', Ext Hs H Hs' H' → Den X.K Hs' d v → Q v H'
noncomputable def Den1L (K : PySem.W.Frag) (Hs H : Hp) : List D → List V → Prop
  | [], vs => vs = []
  | d :: ds, vs => ∃ v r, vs = v :: r ∧ Den1 K Hs H d v ∧ Den1L K Hs H ds r
noncomputable def CallD (X : Cx) (f : Value) (g : List D → Option D) : Prop :=
  CallR X f fun xs H Q => ∃ Hs ds d, Same Hs H ∧ Den1L X.K Hs H ds xs ∧ g ds = some d ∧ ∀ v Hs' H', Ext Hs H Hs' H' → Den X.K Hs' d v → Q v H'
/-- a call that makes a list of one's own -/
noncomputable def CallN (X : Cx) (f : Value) (g : List D → Option (List D)) : Prop :=
  CallR X f fun xs H Q => ∃ Hs ds es, Same Hs H ∧ Den1L X.K Hs H ds xs ∧ g ds = some es ∧ ∀ p H' vs, H p = none → H' p = some (.lst vs) → (∀ b o, H b = some o → H' b = some o) → DenL X.K Hs es vs → Q (.ref p) H'
noncomputable def CallD.or {X f g g'} (h : CallD X f g) (h' : CallD X f g') : CallD X f fun ds => (g ds).or (g' ds) := by
  rintro pins s σ H xs us Q I r ⟨Hs, ds, d, e, h1, h2, q⟩
  cases z : g ds with
  | some d' =>
    simp only [z, Option.some_or] at h2
    cases h2
    exact h pins s σ H xs us Q I r ⟨Hs, ds, _, e, h1, z, q⟩
  | none =>
    simp only [z, Option.none_or] at h2
    exact h' pins s σ H xs us Q I r ⟨Hs, ds, _, e, h1, h2, q⟩
theorem Den1L.d1 {K Hs H d xs} (h : Den1L K Hs H [d] xs) : ∃ v, xs = [v] ∧ Den1 K Hs H d v := by
  obtain ⟨v, r, e, h1, h2⟩ := h
  cases h2
  exact ⟨v, e, h1⟩
theorem Den1L.d2 {K Hs H d e xs} (h : Den1L K Hs H [d, e] xs) : ∃ v w, xs = [v, w] ∧ Den1 K Hs H d v ∧ Den1 K Hs H e w := by
  obtain ⟨v, r, e1, h1, h2⟩ := h
  obtain ⟨w, rfl, h3⟩ := Den1L.d1 h2
  exact ⟨v, w, e1, h1, h3⟩
/-- what a list's or tuple's object holds -/
theorem seq_den {K Hs H d v ds} (e : Same Hs H) (h : Den1 K Hs H d v) (q : D.items d = some ds) : ∃ a vs, v = .ref a ∧ (SqL K H a vs ∨ SqT K H a vs) ∧ DenL K Hs ds vs := by
  cases d with
  | lst xs => cases q; obtain ⟨a, vs, e1, e2, e3⟩ := h; exact ⟨a, vs, e1, .inl (SqL.lst e2), e3⟩
  | fz xs => cases q; obtain ⟨a, vs, e1, e2, e3⟩ := h; exact ⟨a, vs, e1, .inl (e.seq e2), e3⟩
  | tup xs => cases q; obtain ⟨a, vs, e1, e2, e3⟩ := h; exact ⟨a, vs, e1, .inr (SqT.of (e _ _ e2)), e3⟩
  | ftup xs => cases q; obtain ⟨a, vs, e1, e2, e3⟩ := h; exact ⟨a, vs, e1, .inr (e.seqT e2), e3⟩
  | _ => cases q
theorem DenL.ints {K H} : ∀ {ns : List Int} {vs : List V}, DenL K H (ns.map D.int) vs → vs = ns.map V.int
  | [], _, h => h
  | n :: ns, _, ⟨v, r, e1, e2, e3⟩ => by rw [e1, show v = _ from e2, DenL.ints e3]; rfl
theorem DenL.bls {K H} : ∀ {ns : List Bool} {vs : List V}, DenL K H (ns.map D.bl) vs → vs = ns.map V.bl
  | [], _, h => h
  | n :: ns, _, ⟨v, r, e1, e2, e3⟩ => by rw [e1, show v = _ from e2, DenL.bls e3]; rfl
theorem DenL.strs {K H} : ∀ {ns : List Str} {vs : List V}, DenL K H (ns.map D.str) vs → vs = ns.map V.str ∧ ∀ x ∈ ns, sOk x
  | [], _, h => ⟨h, fun _ h => by cases h⟩
  | n :: ns, _, ⟨v, r, e1, e2, e3⟩ => by
    obtain ⟨h1, h2⟩ := DenL.strs e3
    refine ⟨by rw [e1, show v = _ from e2.1, h1]; rfl, fun x hx => ?_⟩
    rcases List.mem_cons.mp hx with rfl | hx
    · exact e2.2
    · exact h2 x hx
theorem DenL.of_ints {K H} (ns : List Int) : DenL K H (ns.map D.int) (ns.map V.int) := DenL.map (f := D.int) (g := V.int) (fun _ => rfl) ns
/-- ints of a list of data -/
noncomputable def D.ints : List D → Option (List Int)
  | [] => some []
  | .int i :: r => (D.ints r).map (i :: ·)
  | _ :: _ => none
noncomputable def D.bls : List D → Option (List Bool)
  | [] => some []
  | .bl i :: r => (D.bls r).map (i :: ·)
  | _ :: _ => none
noncomputable def D.strs : List D → Option (List Str)
  | [] => some []
  | .str i :: r => (D.strs r).map (i :: ·)
  | _ :: _ => none
theorem D.ints_eq : ∀ {ds : List D} {ns : List Int}, D.ints ds = some ns → ds = ns.map D.int
  | [], _, h => by cases h; rfl
  | .int i :: r, _, h => by
    simp only [D.ints, Option.map_eq_some_iff] at h
    obtain ⟨es, h1, h2⟩ := h
    subst h2
    simp [D.ints_eq h1]
theorem D.bls_eq : ∀ {ds : List D} {ns : List Bool}, D.bls ds = some ns → ds = ns.map D.bl
  | [], _, h => by cases h; rfl
  | .bl i :: r, _, h => by
    simp only [D.bls, Option.map_eq_some_iff] at h
    obtain ⟨es, h1, h2⟩ := h
    subst h2
    simp [D.bls_eq h1]
@[simp] theorem D.ints_map (ns : List Int) : D.ints (ns.map D.int) = some ns := by
  induction ns with
  | nil => rfl
  | cons n ns ih => simp [D.ints, ih]
@[simp] theorem D.bls_map (ns : List Bool) : D.bls (ns.map D.bl) = some ns := by
  induction ns with
  | nil => rfl
  | cons n ns ih => simp [D.bls, ih]
@[simp] theorem D.strs_map (ns : List Str) : D.strs (ns.map D.str) = some ns := by
  induction ns with
  | nil => rfl
  | cons n ns ih => simp [D.strs, ih]
/-! ### arithmetic -/
noncomputable def D.add : D → D → Option D
  | .int i, .int j => some (.int (i + j))
  | .int i, .bl k => some (.int (i + b2i k))
  | .str x, .str y => if x.length + y.length ≤ sizeLine then some (.str (x ++ y)) else none
  | .tup xs, .tup ys => if xs.length + ys.length ≤ sizeLine then some (.tup (xs ++ ys)) else none
  | .lst xs, .lst ys => if xs.length + ys.length ≤ sizeLine then some (.lst (xs ++ ys)) else none
  | _, _ => none
noncomputable def D.sub : D → D → Option D
  | .int i, .int j => some (.int (i - j))
  | _, _ => none
noncomputable def mulOk (i j : Int) : Prop := ((-(2 ^ 64) < i ∧ i < 2 ^ 64) ∨ (-(2 ^ 64) < j ∧ j < 2 ^ 64)) ∨ i.natAbs.log2 + j.natAbs.log2 < 1000000
noncomputable instance (i j : Int) : Decidable (mulOk i j) := Classical.propDecidable _
noncomputable def D.mul : D → D → Option D
  | .int i, .int j => if mulOk i j then some (.int (i * j)) else none
  | .lst xs, .int k => if -(2 ^ 63) ≤ k ∧ k < 2 ^ 63 ∧ xs.length * k.toNat ≤ sizeLine then some (.lst (List.replicate k.toNat xs).flatten) else none
  | _, _ => none
noncomputable def D.fdiv : D → D → Option D
  | .int i, .int j => if 0 < j ∧ j.natAbs.log2 < 9000 then some (.int (i / j)) else none
  | _, _ => none
noncomputable def D.mod : D → D → Option D
  | .int i, .int j => if 0 < j then some (.int (i % j)) else none
  | _, _ => none
noncomputable def D.pow : D → D → Option D
  | .int i, .int j => if 0 ≤ j ∧ j ≤ 1000000 ∧ i.natAbs < 2 ^ 64 then some (.int (i ^ j.toNat)) else none
  | _, _ => none
noncomputable def D.lt : D → D → Option D
  | .int i, .int j => some (.bl (decide (i < j)))
  | .str x, .str y => some (.bl (decide (x.cps.toList < y.cps.toList)))
  | _, _ => none
noncomputable def D.le : D → D → Option D
  | .int i, .int j => some (.bl (decide (i ≤ j)))
  | _, _ => none
noncomputable def D.gt : D → D → Option D
  | .int i, .int j => some (.bl (decide (j < i)))
  | _, _ => none
noncomputable def D.ge : D → D → Option D
  | .int i, .int j => some (.bl (decide (j ≤ i)))
  | _, _ => none
noncomputable def D.isNon : D → Bool
  | .non => true
  | _ => false
noncomputable def D.is : D → D → Option D
  | .bl a, .bl b => some (.bl (decide (a = b)))
  | d, .non => some (.bl d.isNon)
  | _, _ => none
noncomputable def D.isnt : D → D → Option D
  | .bl a, .bl b => some (.bl (!decide (a = b)))
  | d, .non => some (.bl (!d.isNon))
  | _, _ => none
noncomputable def D.neg : D → Option D
  | .int i => some (.int (-i))
  | _ => none
section
variable {X : Cx}
theorem DenL.rep {K H} {ds : List D} {vs : List V} (h : DenL K H ds vs) : ∀ n, DenL K H (List.replicate n ds).flatten (List.replicate n vs).flatten
  | 0 => rfl
  | n + 1 => by
    rw [List.replicate_succ, List.replicate_succ, List.flatten_cons, List.flatten_cons]
    exact h.append (DenL.rep h n)
theorem od_add : OpD X (binaryOp .Add) D.add := by
  rintro pins s σ H x y v u Q I rx ry ⟨Hs, d1, d2, d, e, h1, h2, g, q⟩
  unfold D.add at g
  split at g
  · cases g
    cases h1; cases h2
    exact op_add pins s σ H _ _ v u Q I rx ry ⟨_, _, rfl, rfl, q _ _ _ (.refl e) rfl⟩
  · cases g
    cases h1; cases h2
    exact op_add_ib pins s σ H _ _ v u Q I rx ry ⟨_, _, rfl, rfl, q _ _ _ (.refl e) rfl⟩
  · split at g
    · rename_i c
      cases g
      obtain ⟨rfl, k1⟩ := h1
      obtain ⟨rfl, k2⟩ := h2
      exact op_add_str pins s σ H _ _ v u Q I rx ry ⟨_, _, rfl, rfl, c, q _ _ _ (.refl e) ⟨rfl, sOk_app k1 k2 c⟩⟩
    · cases g
  · rename_i xs ys
    split at g
    · rename_i c
      cases g
      obtain ⟨a, vs, e1, e2, e3⟩ := h1
      obtain ⟨b, ws, e4, e5, e6⟩ := h2
      have l1 := e3.length
      have l2 := e6.length
      refine op_catA pins s σ H _ _ v u Q I rx ry ⟨a, b, vs, ws, e1, e4, SqT.of (e _ _ e2), SqT.of (e _ _ e5), by omega, fun z => q _ _ _ (.refl e) ⟨b, ws, rfl, e5, ?_⟩, fun _ z => q _ _ _ (.refl e) ⟨a, vs, rfl, e2, ?_⟩, fun _ _ p hp => q _ _ _ (.new e hp) ⟨p, vs ++ ws, rfl, upd_same, ?_⟩⟩
      · subst z
        have z1 : xs = [] := List.eq_nil_of_length_eq_zero (by simpa using l1.symm)
        rw [z1, List.nil_append]
        exact e6
      · subst z
        have z1 : ys = [] := List.eq_nil_of_length_eq_zero (by simpa using l2.symm)
        rw [z1, List.append_nil]
        exact e3
      · exact (e3.append e6).mono (Ext.new e hp).s
    · cases g
  · split at g
    · rename_i c
      cases g
      obtain ⟨a, vs, e1, e2, e3⟩ := h1
      obtain ⟨b, ws, e4, e5, e6⟩ := h2
      have l1 := e3.length
      have l2 := e6.length
      exact op_cat pins s σ H _ _ v u Q I rx ry ⟨a, b, vs, ws, e1, e4, e2, e5, by omega, fun p hp => q _ _ _ (.new e hp) ⟨p, vs ++ ws, rfl, upd_same, (e3.append e6).mono (Ext.new e hp).s⟩⟩
    · cases g
  · cases g
theorem od_mul : OpD X (binaryOp .Mult) D.mul := by
  rintro pins s σ H x y v u Q I rx ry ⟨Hs, d1, d2, d, e, h1, h2, g, q⟩
  unfold D.mul at g
  split at g
  · split at g
    · rename_i c
      cases g
      cases h1; cases h2
      rcases c with c | c
      · exact op_mul pins s σ H _ _ v u Q I rx ry ⟨_, _, rfl, rfl, c, q _ _ _ (.refl e) rfl⟩
      · exact op_mulW pins s σ H _ _ v u Q I rx ry ⟨_, _, rfl, rfl, c, q _ _ _ (.refl e) rfl⟩
    · cases g
  · split at g
    · rename_i c
      cases g
      obtain ⟨a, vs, e1, e2, e3⟩ := h1
      cases h2
      have l1 := e3.length
      exact op_rep pins s σ H _ _ v u Q I rx ry ⟨a, _, vs, e1, rfl, e2, c.1, c.2.1, by rw [l1]; exact c.2.2, fun p hp => q _ _ _ (.new e hp) ⟨p, _, rfl, upd_same, (e3.rep _).mono (Ext.new e hp).s⟩⟩
    · cases g
  · cases g
theorem od_fdiv : OpD X (binaryOp .FloorDiv) D.fdiv := by
  rintro pins s σ H x y v u Q I rx ry ⟨Hs, d1, d2, d, e, h1, h2, g, q⟩
  unfold D.fdiv at g
  split at g
  · split at g
    · rename_i c
      cases g
      cases h1; cases h2
      exact op_fdivW pins s σ H _ _ v u Q I rx ry ⟨_, _, rfl, rfl, c, q _ _ _ (.refl e) rfl⟩
    · cases g
  · cases g
theorem od_mod : OpD X (binaryOp .Mod) D.mod := by
  rintro pins s σ H x y v u Q I rx ry ⟨Hs, d1, d2, d, e, h1, h2, g, q⟩
  unfold D.mod at g
  split at g
  · split at g
    · rename_i c
      cases g
      cases h1; cases h2
      exact op_mod pins s σ H _ _ v u Q I rx ry ⟨_, _, rfl, rfl, c, q _ _ _ (.refl e) rfl⟩
    · cases g
  · cases g
theorem od_pow : OpD X (binaryOp .Pow) D.pow := by
  rintro pins s σ H x y v u Q I rx ry ⟨Hs, d1, d2, d, e, h1, h2, g, q⟩
  unfold D.pow at g
  split at g
  · split at g
    · rename_i c
      cases g
      cases h1; cases h2
      exact op_pow pins s σ H _ _ v u Q I rx ry ⟨_, _, rfl, rfl, c, q _ _ _ (.refl e) rfl⟩
    · cases g
  · cases g
theorem od_lt : OpD X (compareOp .Lt) D.lt := by
  rintro pins s σ H x y v u Q I rx ry ⟨Hs, d1, d2, d, e, h1, h2, g, q⟩
  unfold D.lt at g
  split at g
  · cases g
    cases h1; cases h2
    exact op_lt pins s σ H _ _ v u Q I rx ry ⟨_, _, rfl, rfl, q _ _ _ (.refl e) rfl⟩
  · cases g
    obtain ⟨rfl, k1⟩ := h1
    obtain ⟨rfl, k2⟩ := h2
    exact op_lt_str pins s σ H _ _ v u Q I rx ry ⟨_, _, rfl, rfl, q _ _ _ (.refl e) rfl⟩
  · cases g
theorem od_le : OpD X (compareOp .LtE) D.le := by
  rintro pins s σ H x y v u Q I rx ry ⟨Hs, d1, d2, d, e, h1, h2, g, q⟩
  unfold D.le at g
  split at g
  · cases g
    cases h1; cases h2
    exact op_le pins s σ H _ _ v u Q I rx ry ⟨_, _, rfl, rfl, q _ _ _ (.refl e) rfl⟩
  · cases g
theorem od_ge : OpD X (compareOp .GtE) D.ge := by
  rintro pins s σ H x y v u Q I rx ry ⟨Hs, d1, d2, d, e, h1, h2, g, q⟩
  unfold D.ge at g
  split at g
  · cases g
    cases h1; cases h2
    exact op_ge pins s σ H _ _ v u Q I rx ry ⟨_, _, rfl, rfl, q _ _ _ (.refl e) rfl⟩
  · cases g
theorem ud_neg : UnD X (unaryOp .USub) D.neg := by
  rintro pins s σ H x v Q I rx ⟨Hs, d1, d, e, h1, g, q⟩
  unfold D.neg at g
  split at g
  · cases g
    cases h1
    exact un_neg pins s σ H _ v Q I rx ⟨_, rfl, q _ _ _ (.refl e) rfl⟩
  · cases g
/-! ### calls of built-ins -/
noncomputable def D.len : List D → Option D
  | [.str x] => some (.int x.length)
  | [.lst xs] => some (.int xs.length)
  | [.fz xs] => some (.int xs.length)
  | [.tup xs] => some (.int xs.length)
  | [.ftup xs] => some (.int xs.length)
  | _ => none
theorem cd_len : CallD X (.builtin "len") D.len := by
  rintro pins s σ H xs us Q I r ⟨Hs, ds, d, e, h1, h2, q⟩
  unfold D.len at h2
  split at h2
  · cases h2
    obtain ⟨v, rfl, k1, k2⟩ := h1.d1
    subst k1
    exact call_len pins s σ H _ us Q I r ⟨_, _, rfl, ⟨k2.1, rfl⟩, q _ _ _ (.refl e) rfl⟩
  · cases h2
    obtain ⟨v, rfl, a, vs, rfl, k1, k2⟩ := h1.d1
    exact call_len pins s σ H _ us Q I r ⟨_, _, rfl, .inl ⟨vs, SqL.lst k1, rfl⟩, q _ _ _ (.refl e) (by rw [k2.length]; rfl)⟩
  · cases h2
    obtain ⟨v, rfl, a, vs, rfl, k1, k2⟩ := h1.d1
    exact call_len pins s σ H _ us Q I r ⟨_, _, rfl, .inl ⟨vs, e.seq k1, rfl⟩, q _ _ _ (.refl e) (by rw [k2.length]; rfl)⟩
  · cases h2
    obtain ⟨v, rfl, a, vs, rfl, k1, k2⟩ := h1.d1
    exact call_len pins s σ H _ us Q I r ⟨_, _, rfl, .inr ⟨vs, SqT.of (e _ _ k1), rfl⟩, q _ _ _ (.refl e) (by rw [k2.length]; rfl)⟩
  · cases h2
    obtain ⟨v, rfl, a, vs, rfl, k1, k2⟩ := h1.d1
    exact call_len pins s σ H _ us Q I r ⟨_, _, rfl, .inr ⟨vs, e.seqT k1, rfl⟩, q _ _ _ (.refl e) (by rw [k2.length]; rfl)⟩
  · cases h2
noncomputable def D.toInt : List D → Option D
  | [.int i] => some (.int i)
  | [.bl b] => some (.int (if b then 1 else 0))
  | _ => none
theorem cd_int : CallD X (.type "int") D.toInt := by
  rintro pins s σ H xs us Q I r ⟨Hs, ds, d, e, h1, h2, q⟩
  unfold D.toInt at h2
  split at h2
  · cases h2
    obtain ⟨v, rfl, k1⟩ := h1.d1
    subst k1
    exact call_int1 pins s σ H _ us Q I r (.inl ⟨_, rfl, q _ _ _ (.refl e) rfl⟩)
  · cases h2
    obtain ⟨v, rfl, k1⟩ := h1.d1
    subst k1
    exact call_int1 pins s σ H _ us Q I r (.inr ⟨_, rfl, q _ _ _ (.refl e) rfl⟩)
  · cases h2
/-- the greatest, the least of some ints -/
noncomputable def maxI : List Int → Option Int
  | [] => none
  | n :: ns => some (ns.foldl (fun a b => if b > a then b else a) n)
noncomputable def minI : List Int → Option Int
  | [] => none
  | n :: ns => some (ns.foldl (fun a b => if b < a then b else a) n)
theorem foldmax : ∀ (ns : List Int) (n : Int), (∀ y ∈ n :: ns, y ≤ ns.foldl (fun a b => if b > a then b else a) n) ∧ ns.foldl (fun a b => if b > a then b else a) n ∈ n :: ns
  | [], n => by simp
  | m :: ns, n => by
    obtain ⟨h1, h2⟩ := foldmax ns (if m > n then m else n)
    refine ⟨fun y hy => ?_, ?_⟩
    · have h0 := h1 _ List.mem_cons_self
      rw [List.foldl_cons]
      generalize List.foldl _ (if m > n then m else n) ns = c at h0 h1 ⊢
      rcases List.mem_cons.mp hy with rfl | hy
      · split at h0 <;> omega
      · rcases List.mem_cons.mp hy with rfl | hy
        · split at h0 <;> omega
        · exact h1 y (List.mem_cons_of_mem _ hy)
    · rw [List.foldl_cons]
      rcases List.mem_cons.mp h2 with h | h
      · rw [h]; split <;> simp
      · simp [h]
theorem foldmin : ∀ (ns : List Int) (n : Int), (∀ y ∈ n :: ns, ns.foldl (fun a b => if b < a then b else a) n ≤ y) ∧ ns.foldl (fun a b => if b < a then b else a) n ∈ n :: ns
  | [], n => by simp
  | m :: ns, n => by
    obtain ⟨h1, h2⟩ := foldmin ns (if m < n then m else n)
    refine ⟨fun y hy => ?_, ?_⟩
    · have h0 := h1 _ List.mem_cons_self
      rw [List.foldl_cons]
      generalize List.foldl _ (if m < n then m else n) ns = c at h0 h1 ⊢
      rcases List.mem_cons.mp hy with rfl | hy
      · split at h0 <;> omega
      · rcases List.mem_cons.mp hy with rfl | hy
        · split at h0 <;> omega
        · exact h1 y (List.mem_cons_of_mem _ hy)
    · rw [List.foldl_cons]
      rcases List.mem_cons.mp h2 with h | h
      · rw [h]; split <;> simp
      · simp [h]
noncomputable def D.max : List D → Option D
  | [.int i, .int j] => some (.int (if j > i then j else i))
  | [.lst ds] => ((D.ints ds).bind maxI).map .int
  | _ => none
noncomputable def D.min : List D → Option D
  | [.int i, .int j] => some (.int (if j < i then j else i))
  | [.lst ds] => ((D.ints ds).bind minI).map .int
  | _ => none
theorem cd_max (hc : X.calm = true) : CallD X (.builtin "max") D.max := by
  rintro pins s σ H xs us Q I r ⟨Hs, ds, d, e, h1, h2, q⟩
  unfold D.max at h2
  split at h2
  · cases h2
    obtain ⟨v, w, rfl, k1, k2⟩ := h1.d2
    subst k1; subst k2
    exact call_max2 hc pins s σ H _ us Q I r ⟨_, _, rfl, q _ _ _ (.refl e) rfl⟩
  · rename_i ds
    simp only [Option.map_eq_some_iff, Option.bind_eq_some_iff] at h2
    obtain ⟨m, ⟨ns, g1, g2⟩, rfl⟩ := h2
    obtain ⟨v, rfl, a, vs, rfl, k1, k2⟩ := h1.d1
    rw [D.ints_eq g1] at k2
    rw [k2.ints] at k1
    cases ns with
    | nil => cases g2
    | cons n ns =>
      cases g2
      refine cr_max hc pins s σ H _ us Q I r ⟨a, _, rfl, SqL.lst k1, by simp, fun m hm hle => ?_⟩
      obtain ⟨f1, f2⟩ := foldmax ns n
      have := Int.le_antisymm (f1 m hm) (hle _ f2)
      subst this
      exact q _ _ _ (.refl e) rfl
  · cases h2
theorem cd_min (hc : X.calm = true) : CallD X (.builtin "min") D.min := by
  rintro pins s σ H xs us Q I r ⟨Hs, ds, d, e, h1, h2, q⟩
  unfold D.min at h2
  split at h2
  · cases h2
    obtain ⟨v, w, rfl, k1, k2⟩ := h1.d2
    subst k1; subst k2
    exact call_min2 hc pins s σ H _ us Q I r ⟨_, _, rfl, q _ _ _ (.refl e) rfl⟩
  · rename_i ds
    simp only [Option.map_eq_some_iff, Option.bind_eq_some_iff] at h2
    obtain ⟨m, ⟨ns, g1, g2⟩, rfl⟩ := h2
    obtain ⟨v, rfl, a, vs, rfl, k1, k2⟩ := h1.d1
    rw [D.ints_eq g1] at k2
    rw [k2.ints] at k1
    cases ns with
    | nil => cases g2
    | cons n ns =>
      cases g2
      refine cr_min hc pins s σ H _ us Q I r ⟨a, _, rfl, SqL.lst k1, by simp, fun m hm hle => ?_⟩
      obtain ⟨f1, f2⟩ := foldmin ns n
      have := Int.le_antisymm (hle _ f2) (f1 m hm)
      subst this
      exact q _ _ _ (.refl e) rfl
  · cases h2
noncomputable def D.sum : List D → Option D
  | [.lst ds] => (D.ints ds).map fun ns => .int ns.sum
  | _ => none
noncomputable def D.all : List D → Option D
  | [.lst ds] => (D.bls ds).map fun ns => .bl (ns.all id)
  | _ => none
noncomputable def D.any : List D → Option D
  | [.lst ds] => (D.bls ds).map fun ns => .bl (ns.any id)
  | _ => none
theorem cd_all (hc : X.calm = true) : CallD X (.builtin "all") D.all := by
  rintro pins s σ H xs us Q I r ⟨Hs, ds, d, e, h1, h2, q⟩
  unfold D.all at h2
  split at h2
  · simp only [Option.map_eq_some_iff] at h2
    obtain ⟨ns, g1, rfl⟩ := h2
    obtain ⟨v, rfl, a, vs, rfl, k1, k2⟩ := h1.d1
    rw [D.bls_eq g1] at k2
    rw [k2.bls] at k1
    exact cr_all hc pins s σ H _ us Q I r ⟨a, _, rfl, SqL.lst k1, q _ _ _ (.refl e) rfl⟩
  · cases h2
noncomputable def D.toTup : List D → Option D
  | [.lst ds] => some (.tup ds)
  | [.fz ds] => some (.tup ds)
  | [.tup ds] => some (.tup ds)
  | [.ftup ds] => some (.ftup ds)
  | _ => none
theorem cd_tuple : CallD X (.type "tuple") D.toTup := by
  rintro pins s σ H xs us Q I r ⟨Hs, ds, d, e, h1, h2, q⟩
  unfold D.toTup at h2
  split at h2
  · cases h2
    obtain ⟨v, rfl, a, vs, rfl, k1, k2⟩ := h1.d1
    exact call_tuple_of pins s σ H _ us Q I r ⟨a, vs, rfl, .inl ⟨SqL.lst k1, fun l hl => q _ _ _ (.new e hl) ⟨l, vs, rfl, upd_same, k2.mono (Ext.new e hl).s⟩⟩⟩
  · cases h2
    obtain ⟨v, rfl, a, vs, rfl, k1, k2⟩ := h1.d1
    exact call_tuple_of pins s σ H _ us Q I r ⟨a, vs, rfl, .inl ⟨e.seq k1, fun l hl => q _ _ _ (.new e hl) ⟨l, vs, rfl, upd_same, k2.mono (Ext.new e hl).s⟩⟩⟩
  · cases h2
    obtain ⟨v, rfl, a, vs, rfl, k1, k2⟩ := h1.d1
    exact call_tuple_of pins s σ H _ us Q I r ⟨a, vs, rfl, .inr ⟨SqT.of (e _ _ k1), q _ _ _ (.refl e) ⟨a, vs, rfl, k1, k2⟩⟩⟩
  · cases h2
    obtain ⟨v, rfl, a, vs, rfl, k1, k2⟩ := h1.d1
    exact call_tuple_of pins s σ H _ us Q I r ⟨a, vs, rfl, .inr ⟨e.seqT k1, q _ _ _ (.refl e) ⟨a, vs, rfl, k1, k2⟩⟩⟩
  · cases h2
noncomputable def D.toLst : List D → Option (List D)
  | [.lst ds] => some ds
  | [.fz ds] => some ds
  | [.tup ds] => some ds
  | [.ftup ds] => some ds
  | _ => none
theorem keep_new {H : Hp} {p : Addr} {o : HO} (n : H p = none) : ∀ b u, H b = some u → (upd H p o) b = some u := fun b u e => by rw [upd_ne (ne_of_none e n)]; exact e
theorem cn_list : CallN X (.type "list") D.toLst := by
  rintro pins s σ H xs us Q I r ⟨Hs, ds, d, e, h1, h2, q⟩
  unfold D.toLst at h2
  split at h2
  · cases h2
    obtain ⟨v, rfl, a, vs, rfl, k1, k2⟩ := h1.d1
    exact call_list_of pins s σ H _ us Q I r ⟨a, vs, rfl, .inl (SqL.lst k1), fun l hl => q l _ vs hl upd_same (keep_new hl) k2⟩
  · cases h2
    obtain ⟨v, rfl, a, vs, rfl, k1, k2⟩ := h1.d1
    exact call_list_of pins s σ H _ us Q I r ⟨a, vs, rfl, .inl (e.seq k1), fun l hl => q l _ vs hl upd_same (keep_new hl) k2⟩
  · cases h2
    obtain ⟨v, rfl, a, vs, rfl, k1, k2⟩ := h1.d1
    exact call_list_of pins s σ H _ us Q I r ⟨a, vs, rfl, .inr (SqT.of (e _ _ k1)), fun l hl => q l _ vs hl upd_same (keep_new hl) k2⟩
  · cases h2
    obtain ⟨v, rfl, a, vs, rfl, k1, k2⟩ := h1.d1
    exact call_list_of pins s σ H _ us Q I r ⟨a, vs, rfl, .inr (e.seqT k1), fun l hl => q l _ vs hl upd_same (keep_new hl) k2⟩
  · cases h2
end
end FL
namespace FL
open PySem PySem.Spec PyProof.Rows L2
section
variable {K : PySem.W.Frag} {mg : Str → Option Value} {W : WX} {G : Gh} {σ : L2.St} {H : Hp} {ρ : Env'} {Hs : Hp} {fp : List Addr}
/-- a slot's tree is let go: from now on it is shared -/
theorem OkAt.freeze {i : Nat} {t : T} (ok : OkAt K G σ H ρ Hs fp) (hi : ρ[i]? = some (some t)) :
    ∃ Hs' fp' v, OkAt K G σ H (ρ.set i (some (.sh t.d))) Hs' fp' ∧ Same Hs Hs' ∧ σ[i]? = some (some v) ∧ Den K Hs' t.d v := by
  obtain ⟨v, f1, f2, f3, h1, h2, h3, h4, _⟩ := ok.env.at hi
  have sh : ∀ a, a ∈ f2 → Hs a = none := fun a ha => ok.disj a (by rw [h2]; simp [ha])
  let Hs' : Hp := fun a => if a ∈ f2 then H a else Hs a
  have e1 : ∀ a, a ∈ f2 → Hs' a = H a := fun a ha => by show (if a ∈ f2 then H a else Hs a) = _; rw [if_pos ha]
  have e2 : ∀ a, a ∉ f2 → Hs' a = Hs a := fun a ha => by show (if a ∈ f2 then H a else Hs a) = _; rw [if_neg ha]
  have s1 : Same Hs Hs' := fun a o e => by
    have n : a ∉ f2 := fun ha => by rw [sh a ha] at e; cases e
    rw [e2 a n]; exact e
  have s2 : Same Hs' H := fun a o e => by
    by_cases ha : a ∈ f2
    · rw [e1 a ha] at e; exact e
    · rw [e2 a ha] at e; exact ok.sh a o e
  have nd := ok.nd
  rw [h2] at nd
  have d : Den K Hs' t.d v := h3.den s1 e1
  have env := h4 Hs' H s1 (fun _ _ => rfl) (.sh t.d) v [] ⟨rfl, d⟩
  have σe : σ.set i (some v) = σ := by
    apply List.ext_getElem?
    intro j
    by_cases hj : i = j
    · subst hj
      have hl : i < σ.length := by
        rcases Nat.lt_or_ge i σ.length with h | h
        · exact h
        · rw [List.getElem?_eq_none_iff.mpr h] at h1; cases h1
      rw [List.getElem?_set_self hl, h1]
    · rw [List.getElem?_set_ne hj]
  rw [σe] at env
  have nin : ∀ a, a ∈ f1 ++ f3 → a ∉ f2 := fun a ha hb => by
    rw [List.nodup_append] at nd
    obtain ⟨_, n2, n3⟩ := nd
    rw [List.nodup_append] at n2
    rcases List.mem_append.mp ha with ha | ha
    · exact n3 a ha a (List.mem_append_left _ hb) rfl
    · exact n2.2.2 a hb a ha rfl
  refine ⟨Hs', f1 ++ f3, v, ⟨s2, ok.base.trans s1, ok.frame, fun a p1 p2 => ?_, fun a ha => ?_, ?_, by simpa using env⟩, s1, h1, d⟩
  · obtain ⟨q1, q2⟩ := ok.priv a p1 p2
    rw [h2] at q2
    simp only [List.mem_append, not_or] at q2
    exact ⟨by rw [e2 a q2.2.1]; exact q1, by simp [q2.1, q2.2.2]⟩
  · rw [e2 a (nin a ha)]
    exact ok.disj a (by rw [h2]; simp only [List.mem_append] at ha ⊢; rcases ha with h | h <;> simp [h])
  · rw [List.nodup_append] at nd ⊢
    obtain ⟨n1, n2, n3⟩ := nd
    rw [List.nodup_append] at n2
    exact ⟨n1, n2.2.1, fun a ha b hb => n3 a ha b (List.mem_append_right _ hb)⟩
/-- a value that is handed on: an owned slot is let go -/
noncomputable def esc (ρ : Env') : RV → Option (D × Env')
  | .leaf d => some (d, ρ)
  | .slot i => match ρ[i]? with
    | some (some t) => some (t.d, ρ.set i (some (.sh t.d)))
    | _ => none
theorem esc_den {r : RV} {v : V} {d : D} {ρ' : Env'} (ok : OkAt K G σ H ρ Hs fp) (h : RVd K Hs σ r v) (e : esc ρ r = some (d, ρ')) : ∃ Hs' fp', OkAt K G σ H ρ' Hs' fp' ∧ Same Hs Hs' ∧ Den K Hs' d v := by
  cases r with
  | leaf d' =>
    cases e
    exact ⟨Hs, fp, ok, Same.refl _, h⟩
  | slot i =>
    simp only [esc] at e
    split at e
    · rename_i t hi
      cases e
      obtain ⟨Hs', fp', w, h1, h2, h3, h4⟩ := ok.freeze hi
      have h' : σ[i]? = some (some v) := h
      rw [h3] at h'
      cases h'
      exact ⟨Hs', fp', h1, h2, h4⟩
    · cases e
end
/-! ### one-place operations, built-ins -/
section
variable {X : Cx} {mg : Str → Option Value} {W : WX} {a b c : Expr} {fa fb fc : Env' → Res (RV × Env')} {pos : Pos}
noncomputable def eUn (g : D → Option D) (fa : Env' → Res (RV × Env')) : Env' → Res (RV × Env') := fun ρ =>
  (fa ρ).bind fun (r1, ρ1) => (Res.of (look ρ1 r1)).bind fun d1 => (Res.of (g d1)).bind fun d => .ok (.leaf d, ρ1)
theorem un_go {r : V → Hp → VK → Prop} {g : D → Option D} (hr : ∀ x H Q, (∃ Hs d1 d, Same Hs H ∧ Den1 X.K Hs H d1 x ∧ g d1 = some d ∧ ∀ v Hs' H', Ext Hs H Hs' H' → Den X.K Hs' d v → Q v H') → r x H Q)
    {σ : L2.St} {H : Hp} {Q : VK} (h : tFO X.K mg W (eUn g fa) σ H Q) : tUn r (tFO X.K mg W fa) σ H Q := by
  obtain ⟨G, ρ, ⟨Hs, fp, ok⟩, po⟩ := h
  refine goE ok po (fun _ _ h => h) id fun r1 ρ1 x H1 Hs1 fp1 ok1 dx po1 => hr x H1 Q ?_
  have ok1' := ok.back ok1
  cases e1 : look ρ1 r1 with
  | none => simp only [e1] at po1; exact po1.elim
  | some d1 =>
    cases e3 : g d1 with
    | none => simp only [e1, e3, of_some, bind_ok] at po1; exact po1.elim
    | some d =>
      simp only [e1, e3, of_some, bind_ok] at po1
      exact ⟨Hs1, d1, d, ok1'.sh, look_den ok1' dx e1, e3, fun v Hs' H' ex dv => po1 v H' Hs' fp1 (ok1'.ext ex) dv⟩
theorem fo_un {op : UnaryOp} {g : D → Option D} (ho : UnD X (unaryOp op) g) (ha : PE X a (tFO X.K mg W fa)) : PE X (.UnaryOp op a pos) (tFO X.K mg W (eUn g fa)) :=
  (pe_un ho ha).imp fun _ _ _ h => un_go (fun _ _ _ q => q) h
/-! argument lists -/
noncomputable def aNil : Env' → Res (List RV × Env') := fun ρ => .ok ([], ρ)
noncomputable def aCons (fa : Env' → Res (RV × Env')) (fr : Env' → Res (List RV × Env')) : Env' → Res (List RV × Env') := fun ρ => (fa ρ).bind fun (r, ρ1) => (fr ρ1).bind fun (rs, ρ2) => .ok (r :: rs, ρ2)
/-- an argument that is handed on -/
noncomputable def aConsE (fa : Env' → Res (RV × Env')) (fr : Env' → Res (List RV × Env')) : Env' → Res (List RV × Env') := fun ρ => (fa ρ).bind fun (r, ρ1) => (Res.of (esc ρ1 r)).bind fun (d, ρ1') => (fr ρ1').bind fun (rs, ρ2) => .ok (.leaf d :: rs, ρ2)
theorem fa_nil : PA X [] (tFA X.K mg W aNil) := pa_nil.imp fun σ H Q ⟨G, ρ, ⟨Hs, fp, ok⟩, po⟩ => po [] H Hs fp ok rfl
theorem fa_cons {es : List Expr} {fr : Env' → Res (List RV × Env')} (ha : PE X a (tFO X.K mg W fa)) (hr : PA X es (tFA X.K mg W fr)) (hs : starEach (a :: es) X.env = (false, eval a X.env) :: starEach es X.env := by rfl) : PA X (a :: es) (tFA X.K mg W (aCons fa fr)) := by
  refine (pa_cons ha hr hs).imp fun σ H Q ⟨G, ρ, ⟨Hs, fp, ok⟩, po⟩ => ?_
  refine goE ok po (fun _ _ h => h) id fun r1 ρ1 x H1 Hs1 fp1 ok1 dx po1 => ?_
  have ok1' := ok.back ok1
  refine goA ok1' po1 (fun _ _ h => h) id fun rs ρ2 ys H2 Hs2 fp2 ok2 dy po2 => ?_
  have ok2' := ok1'.back ok2
  exact po2 _ H2 Hs2 fp2 ok2' ⟨x, ys, rfl, dx.mono ok2.base, dy⟩
theorem fa_consE {es : List Expr} {fr : Env' → Res (List RV × Env')} (ha : PE X a (tFO X.K mg W fa)) (hr : PA X es (tFA X.K mg W fr)) (hs : starEach (a :: es) X.env = (false, eval a X.env) :: starEach es X.env := by rfl) : PA X (a :: es) (tFA X.K mg W (aConsE fa fr)) := by
  refine (pa_cons ha hr hs).imp fun σ H Q ⟨G, ρ, ⟨Hs, fp, ok⟩, po⟩ => ?_
  refine goE ok po (fun _ _ h => h) id fun r1 ρ1 x H1 Hs1 fp1 ok1 dx po1 => ?_
  have ok1' := ok.back ok1
  cases e1 : esc ρ1 r1 with
  | none => simp only [e1] at po1; exact po1.elim
  | some p =>
    obtain ⟨d, ρ1'⟩ := p
    simp only [e1, of_some, bind_ok] at po1
    obtain ⟨Hs1', fp1', okE, sE, dE⟩ := esc_den ok1' dx e1
    refine goA okE po1 (fun _ _ h => h) id fun rs ρ2 ys H2 Hs2 fp2 ok2 dy po2 => ?_
    have ok2' := okE.back ok2
    exact po2 _ H2 Hs2 fp2 ok2' ⟨x, ys, rfl, dE.mono ok2.base, dy⟩
noncomputable def looks (ρ : Env') : List RV → Option (List D)
  | [] => some []
  | r :: rs => (look ρ r).bind fun d => (looks ρ rs).map (d :: ·)
theorem looks_den {K G σ H ρ Hs fp} (ok : OkAt K G σ H ρ Hs fp) : ∀ {rs vs ds}, RVL K Hs σ rs vs → looks ρ rs = some ds → Den1L K Hs H ds vs
  | [], _, _, h, e => by cases e; exact h
  | r :: rs, _, _, ⟨v, ws, e1, e2, e3⟩, e => by
    simp only [looks, Option.bind_eq_some_iff, Option.map_eq_some_iff] at e
    obtain ⟨d, h1, es, h2, h3⟩ := e
    subst h3
    exact ⟨v, ws, e1, look_den ok e2 h1, looks_den ok e3 h2⟩
noncomputable def eB (g : List D → Option D) (fs : Env' → Res (List RV × Env')) : Env' → Res (RV × Env') := fun ρ =>
  (fs ρ).bind fun (rs, ρ1) => (Res.of (looks ρ1 rs)).bind fun ds => (Res.of (g ds)).bind fun d => .ok (.leaf d, ρ1)
theorem b_go {r : List V → Hp → VK → Prop} {g : List D → Option D} {fs : Env' → Res (List RV × Env')} (hr : ∀ xs H Q, (∃ Hs ds d, Same Hs H ∧ Den1L X.K Hs H ds xs ∧ g ds = some d ∧ ∀ v Hs' H', Ext Hs H Hs' H' → Den X.K Hs' d v → Q v H') → r xs H Q)
    {σ : L2.St} {H : Hp} {Q : VK} (h : tFO X.K mg W (eB g fs) σ H Q) : tCB r (tFA X.K mg W fs) σ H Q := by
  obtain ⟨G, ρ, ⟨Hs, fp, ok⟩, po⟩ := h
  refine goA ok po (fun _ _ h => h) id fun rs ρ1 xs H1 Hs1 fp1 ok1 dx po1 => hr xs H1 Q ?_
  have ok1' := ok.back ok1
  cases e1 : looks ρ1 rs with
  | none => simp only [e1] at po1; exact po1.elim
  | some ds =>
    cases e3 : g ds with
    | none => simp only [e1, e3, of_some, bind_ok] at po1; exact po1.elim
    | some d =>
      simp only [e1, e3, of_some, bind_ok] at po1
      exact ⟨Hs1, ds, d, ok1'.sh, looks_den ok1' dx e1, e3, fun v Hs' H' ex dv => po1 v H' Hs' fp1 (ok1'.ext ex) dv⟩
theorem fo_callB {x : Str} {id : String} {p : Pos} {e : Expr} {es : List Expr} {g : List D → Option D} {fs : Env' → Res (List RV × Env')} (hc : CallD X (.builtin id) g) (hg : Gl X x) (hm : X.mg x = none) (hv : bootBuiltins x = some (.builtin id)) (ha : PA X (e :: es) (tFA X.K mg W fs)) (hn : x ≠ "__name__" := by decide) (hdb : (x == ("__debug__" : Str)) = false := by decide)
    (he : starEach (e :: es) X.env = (false, eval e X.env) :: starEach es X.env := by rfl) (hpl : (backTo pos (starEach es X.env)).any (·.1) = false := by rfl) : PE X (.Call (.Name x p) (e :: es) [] pos) (tFO X.K mg W (eB g fs)) :=
  (pe_callB hc hg hm hv ha hn hdb he hpl).imp fun _ _ _ h => b_go (fun _ _ _ q => q) h
theorem fo_callTy {x : Str} {id : String} {p : Pos} {e : Expr} {es : List Expr} {g : List D → Option D} {fs : Env' → Res (List RV × Env')} (hc : CallD X (.type id) g) (hg : Gl X x) (hm : X.mg x = none) (hv : bootBuiltins x = some (.type id)) (ha : PA X (e :: es) (tFA X.K mg W fs)) (hn : x ≠ "__name__" := by decide) (hdb : (x == ("__debug__" : Str)) = false := by decide)
    (he : starEach (e :: es) X.env = (false, eval e X.env) :: starEach es X.env := by rfl) (hpl : (backTo pos (starEach es X.env)).any (·.1) = false := by rfl) : PE X (.Call (.Name x p) (e :: es) [] pos) (tFO X.K mg W (eB g fs)) :=
  (pe_callTy hc hg hm hv ha hn hdb he hpl).imp fun _ _ _ h => b_go (fun _ _ _ q => q) h
/-! tuples -/
noncomputable def eTup (fs : Env' → Res (List RV × Env')) : Env' → Res (RV × Env') := fun ρ =>
  (fs ρ).bind fun (rs, ρ1) => (Res.of (leafs rs)).bind fun ds => if ds.length ≤ sizeLine then .ok (.leaf (.tup ds), ρ1) else .bad
where leafs : List RV → Option (List D)
  | [] => some []
  | .leaf d :: rs => (leafs rs).map (d :: ·)
  | _ :: _ => none
theorem leafs_den {K Hs σ} : ∀ {rs vs ds}, RVL K Hs σ rs vs → eTup.leafs rs = some ds → DenL K Hs ds vs
  | [], _, _, h, e => by cases e; exact h
  | .leaf d :: rs, _, _, ⟨v, ws, e1, e2, e3⟩, e => by
    simp only [eTup.leafs, Option.map_eq_some_iff] at e
    obtain ⟨es, h2, h3⟩ := e
    subst h3
    exact ⟨v, ws, e1, e2, leafs_den e3 h2⟩
theorem fo_tup {es : List Expr} {k : Nat} {fs : Env' → Res (List RV × Env')} (h : PA X es (tFA X.K mg W fs)) : PE X (.Tuple es k pos) (tFO X.K mg W (eTup fs)) := by
  refine (pe_tup h).imp fun σ H Q ⟨G, ρ, ⟨Hs, fp, ok⟩, po⟩ => ?_
  refine goA ok po (fun _ _ h => h) id fun rs ρ1 xs H1 Hs1 fp1 ok1 dx po1 => ?_
  have ok1' := ok.back ok1
  cases e1 : eTup.leafs rs with
  | none => simp only [e1] at po1; exact po1.elim
  | some ds =>
    simp only [e1, of_some, bind_ok] at po1
    have dl := leafs_den dx e1
    split at po1
    · rename_i c
      refine ⟨by rw [dl.length]; exact c, fun p hp => ?_⟩
      have ex := Ext.new (o := .tup xs) ok1'.sh hp
      exact po1 _ _ _ fp1 (ok1'.ext ex) ⟨p, xs, rfl, upd_same, dl.mono ex.s⟩
    · exact po1.elim
/-! tests -/
noncomputable def tstV (fa : Env' → Res (RV × Env')) : Env' → Res (Bool × Env') := fun ρ => (fa ρ).bind fun (r, ρ1) => match look ρ1 r with
  | some (.bl b) => .ok (b, ρ1)
  | _ => .bad
theorem tst_go {t : TE} {σ H} {Q : Bool → Hp → Prop} (ht : ∀ σ H Q, tFO X.K mg W fa σ H Q → t σ H Q) (h : tFB X.K mg W (tstV fa) σ H Q) : t σ H fun x H' => ∃ k, x = .bl k ∧ Q k H' := by
  obtain ⟨G, ρ, ⟨Hs, fp, ok⟩, po⟩ := h
  refine ht _ _ _ (goE ok po (fun _ _ h => h) id fun r1 ρ1 x H1 Hs1 fp1 ok1 dx po1 => ?_)
  have ok1' := ok.back ok1
  simp only at po1
  split at po1
  · rename_i b e1
    have := look_den ok1' dx e1
    exact ⟨b, this, po1 H1 ⟨Hs1, fp1, ok1'⟩⟩
  · exact po1.elim
theorem ft_cmp {op : CmpOp} {g : D → D → Option D} (ho : OpD X (compareOp op) g) (ha : PE X a (tFO X.K mg W fa)) (hb : PE X b (tFO X.K mg W fb)) (hm : behindInMarks op b = false) : PT X (.Compare a [op] [b] pos) (tFB X.K mg W (tstV (eBin g fa fb))) :=
  (pt_cmpR ho ha hb hm).imp fun σ H Q q => tst_go (fun _ _ _ h => bin_go (fun _ _ _ _ q => q) h) q
noncomputable def D.truth : D → Option Bool
  | .non => some false
  | .bl b => some b
  | .int i => some (i != 0)
  | .str x => some ((x.length : Int) != 0)
  | .lst xs => some (!xs.isEmpty)
  | .fz xs => some (!xs.isEmpty)
  | .tup xs => some (!xs.isEmpty)
  | .ftup xs => some (!xs.isEmpty)
  | .dic ks vs => some (!ks.isEmpty)
  | _ => none
theorem DenL.empty {K H} {ds vs} (h : DenL K H ds vs) : ds.isEmpty = vs.isEmpty := by
  have := h.length
  cases ds <;> cases vs <;> simp_all
theorem truth_den {K Hs H d v k} (e : Same Hs H) (h : Den1 K Hs H d v) (q : d.truth = some k) : TruV K v H k := by
  cases d with
  | non => cases h; cases q; rfl
  | bl b => cases h; cases q; rfl
  | int b => cases h; cases q; rfl
  | str b => obtain ⟨rfl, h1⟩ := h; cases q; exact ⟨h1.1, rfl⟩
  | tup b => obtain ⟨a, vs, rfl, h1, h2⟩ := h; cases q; exact .inr (.inl ⟨vs, SqT.of (e _ _ h1), by rw [h2.empty]⟩)
  | ftup b => obtain ⟨a, vs, rfl, h1, h2⟩ := h; cases q; exact .inr (.inl ⟨vs, e.seqT h1, by rw [h2.empty]⟩)
  | lst b => obtain ⟨a, vs, rfl, h1, h2⟩ := h; cases q; exact .inl ⟨vs, SqL.lst h1, by rw [h2.empty]⟩
  | fz b => obtain ⟨a, vs, rfl, h1, h2⟩ := h; cases q; exact .inl ⟨vs, e.seq h1, by rw [h2.empty]⟩
  | dic ks b => obtain ⟨a, kv, rfl, h1, h2, h3⟩ := h; cases q; exact .inr (.inr ⟨kv, h1, by subst h2; cases kv <;> rfl⟩)
  | _ => cases q
noncomputable def tstT (fa : Env' → Res (RV × Env')) : Env' → Res (Bool × Env') := fun ρ => (fa ρ).bind fun (r, ρ1) => (Res.of ((look ρ1 r).bind D.truth)).bind fun b => .ok (b, ρ1)
/-- a value's truth as a test -/
theorem ft_truth (h : PE X a (tFO X.K mg W fa)) (he : ∀ whole, isTrue a X.env whole = (do let v ← whole; standAt a.pos; holding [v] (truthy v)) := by intro _; rfl) : PT X a (tFB X.K mg W (tstT fa)) := by
  refine (pt_truth h he).imp fun σ H Q ⟨G, ρ, ⟨Hs, fp, ok⟩, po⟩ => ?_
  refine goE ok po (fun _ _ h => h) id fun r1 ρ1 x H1 Hs1 fp1 ok1 dx po1 => ?_
  have ok1' := ok.back ok1
  cases e1 : look ρ1 r1 with
  | none => simp only [e1, Option.bind] at po1; exact po1.elim
  | some d =>
    cases e2 : d.truth with
    | none => simp only [e1, e2, Option.bind] at po1; exact po1.elim
    | some k =>
      simp only [e1, e2, Option.bind, of_some, bind_ok] at po1
      exact ⟨k, truth_den ok1'.sh (look_den ok1' dx e1) e2, po1 H1 ⟨Hs1, fp1, ok1'⟩⟩
section
variable {ta tb : Env' → Res (Bool × Env')} {rest : List Expr}
noncomputable def tstNot (ta : Env' → Res (Bool × Env')) : Env' → Res (Bool × Env') := fun ρ => (ta ρ).bind fun (b, ρ1) => .ok (!b, ρ1)
noncomputable def tstAnd (ta tb : Env' → Res (Bool × Env')) : Env' → Res (Bool × Env') := fun ρ => (ta ρ).bind fun (b, ρ1) => if b = true then tb ρ1 else .ok (false, ρ1)
noncomputable def tstOr (ta tb : Env' → Res (Bool × Env')) : Env' → Res (Bool × Env') := fun ρ => (ta ρ).bind fun (b, ρ1) => if b = true then .ok (true, ρ1) else tb ρ1
theorem ft_not (h : PT X a (tFB X.K mg W ta)) : PT X (.UnaryOp .Not a pos) (tFB X.K mg W (tstNot ta)) := by
  refine (pt_not h).imp fun σ H Q ⟨G, ρ, ⟨Hs, fp, ok⟩, po⟩ => ?_
  exact goT ok po (fun _ _ h => h) id fun b ρ1 H1 Hs1 fp1 ok1 po1 => po1 H1 ⟨Hs1, fp1, ok.back ok1⟩
theorem fw_or1 (h : PT X a (tFB X.K mg W ta)) : PW X (.BoolOp .Or [a] pos) (tFB X.K mg W ta) := pw_or1 h
theorem fw_or (ha : PT X a (tFB X.K mg W ta)) (hb : PW X (.BoolOp .Or (b :: rest) pos) (tFB X.K mg W tb)) : PW X (.BoolOp .Or (a :: b :: rest) pos) (tFB X.K mg W (tstOr ta tb)) := by
  refine (pw_or ha hb).imp fun σ H Q ⟨G, ρ, ⟨Hs, fp, ok⟩, po⟩ => ?_
  refine goT ok po (fun _ _ h => h) id fun b ρ1 H1 Hs1 fp1 ok1 po1 => ?_
  have ok1' := ok.back ok1
  cases b with
  | true => exact iteT (po1 H1 ⟨Hs1, fp1, ok1'⟩)
  | false => exact iteF ⟨G, ρ1, ⟨Hs1, fp1, ok1'⟩, po1⟩
noncomputable def eIf (tc : Env' → Res (Bool × Env')) (fa fb : Env' → Res (RV × Env')) : Env' → Res (RV × Env') := fun ρ => (tc ρ).bind fun (b, ρ1) => if b = true then fa ρ1 else fb ρ1
end
noncomputable def eAnd (fa fb : Env' → Res (RV × Env')) : Env' → Res (RV × Env') := fun ρ => (fa ρ).bind fun (r, ρ1) => match look ρ1 r with
  | some (.bl true) => fb ρ1
  | some (.bl false) => .ok (.leaf (.bl false), ρ1)
  | _ => .bad
noncomputable def eOr (fa fb : Env' → Res (RV × Env')) : Env' → Res (RV × Env') := fun ρ => (fa ρ).bind fun (r, ρ1) => match look ρ1 r with
  | some (.bl false) => fb ρ1
  | some (.bl true) => .ok (.leaf (.bl true), ρ1)
  | _ => .bad
noncomputable def eNot (fa : Env' → Res (RV × Env')) : Env' → Res (RV × Env') := fun ρ => (fa ρ).bind fun (r, ρ1) => match look ρ1 r with
  | some (.bl b) => .ok (.leaf (.bl (!b)), ρ1)
  | _ => .bad
theorem fo_one {op} (h : PE X a (tFO X.K mg W fa)) : PE X (.BoolOp op [a] pos) (tFO X.K mg W fa) := pe_one h
theorem fo_and {rest : List Expr} (ha : PE X a (tFO X.K mg W fa)) (hb : PE X (.BoolOp .And (b :: rest) pos) (tFO X.K mg W fb)) : PE X (.BoolOp .And (a :: b :: rest) pos) (tFO X.K mg W (eAnd fa fb)) := by
  refine (pe_and ha hb).imp fun σ H Q ⟨G, ρ, ⟨Hs, fp, ok⟩, po⟩ => ?_
  refine goE ok po (fun _ _ h => h) id fun r1 ρ1 x H1 Hs1 fp1 ok1 dx po1 => ?_
  have ok1' := ok.back ok1
  simp only at po1
  split at po1
  · rename_i e1
    exact ⟨true, look_den ok1' dx e1, iteT ⟨G, ρ1, ⟨Hs1, fp1, ok1'⟩, po1⟩⟩
  · rename_i e1
    exact ⟨false, look_den ok1' dx e1, iteF (po1 _ _ Hs1 fp1 ok1' rfl)⟩
  · exact po1.elim
theorem fo_not (ha : PE X a (tFO X.K mg W fa)) : PE X (.UnaryOp .Not a pos) (tFO X.K mg W (eNot fa)) := by
  refine (pe_not ha).imp fun σ H Q ⟨G, ρ, ⟨Hs, fp, ok⟩, po⟩ => ?_
  refine goE ok po (fun _ _ h => h) id fun r1 ρ1 x H1 Hs1 fp1 ok1 dx po1 => ?_
  have ok1' := ok.back ok1
  simp only at po1
  split at po1
  · rename_i b e1
    exact ⟨b, look_den ok1' dx e1, po1 _ _ Hs1 fp1 ok1' rfl⟩
  · exact po1.elim
/-- a op b op' c -/
noncomputable def eChain (g g' : D → D → Option D) (fa fb fc : Env' → Res (RV × Env')) : Env' → Res (RV × Env') := fun ρ =>
  (fa ρ).bind fun (r1, ρ1) => (fb ρ1).bind fun (r2, ρ2) => (Res.of (look ρ2 r1)).bind fun d1 => (Res.of (look ρ2 r2)).bind fun d2 => match g d1 d2 with
    | some (.bl true) => (fc ρ2).bind fun (r3, ρ3) => (Res.of (look ρ3 r2)).bind fun d2 => (Res.of (look ρ3 r3)).bind fun d3 => (Res.of (g' d2 d3)).bind fun d => .ok (.leaf d, ρ3)
    | some (.bl false) => .ok (.leaf (.bl false), ρ2)
    | _ => .bad
theorem chain_go {r r' : R2} {g g' : D → D → Option D} (hr : ∀ x y H Q, (∃ Hs d1 d2 d, Same Hs H ∧ Den1 X.K Hs H d1 x ∧ Den1 X.K Hs H d2 y ∧ g d1 d2 = some d ∧ ∀ v Hs' H', Ext Hs H Hs' H' → Den X.K Hs' d v → Q v H') → r x y H Q)
    (hr' : ∀ x y H Q, (∃ Hs d1 d2 d, Same Hs H ∧ Den1 X.K Hs H d1 x ∧ Den1 X.K Hs H d2 y ∧ g' d1 d2 = some d ∧ ∀ v Hs' H', Ext Hs H Hs' H' → Den X.K Hs' d v → Q v H') → r' x y H Q)
    {σ : L2.St} {H : Hp} {Q : VK} (h : tFO X.K mg W (eChain g g' fa fb fc) σ H Q) : tChain r r' (tFO X.K mg W fa) (tFO X.K mg W fb) (tFO X.K mg W fc) σ H Q := by
  obtain ⟨G, ρ, ⟨Hs, fp, ok⟩, po⟩ := h
  refine goE ok po (fun _ _ h => h) id fun r1 ρ1 x H1 Hs1 fp1 ok1 dx po1 => ?_
  have ok1' := ok.back ok1
  refine goE ok1' po1 (fun _ _ h => h) id fun r2 ρ2 y H2 Hs2 fp2 ok2 dy po2 => hr x y H2 _ ?_
  have ok2' := ok1'.back ok2
  have dx' : RVd X.K Hs2 σ r1 x := dx.mono ok2.base
  cases e1 : look ρ2 r1 with
  | none => simp only [e1] at po2; exact po2.elim
  | some d1 =>
    cases e2 : look ρ2 r2 with
    | none => simp only [e1, e2] at po2; exact po2.elim
    | some d2 =>
      simp only [e1, e2, of_some, bind_ok] at po2
      split at po2
      · rename_i e3
        refine ⟨Hs2, d1, d2, _, ok2'.sh, look_den ok2' dx' e1, look_den ok2' dy e2, e3, fun v Hs' H' ex dv => ⟨true, dv, iteT ?_⟩⟩
        have okx := ok2'.ext ex
        refine goE okx po2 (fun _ _ h => h) id fun r3 ρ3 z H3 Hs3 fp3 ok3 dz po3 => hr' y z H3 Q ?_
        have ok3' := okx.back ok3
        have dy' : RVd X.K Hs3 σ r2 y := (dy.mono ex.s).mono ok3.base
        cases e4 : look ρ3 r2 with
        | none => simp only [e4] at po3; exact po3.elim
        | some d4 =>
          cases e5 : look ρ3 r3 with
          | none => simp only [e4, e5] at po3; exact po3.elim
          | some d5 =>
            cases e6 : g' d4 d5 with
            | none => simp only [e4, e5, e6, of_some, bind_ok] at po3; exact po3.elim
            | some d =>
              simp only [e4, e5, e6, of_some, bind_ok] at po3
              exact ⟨Hs3, d4, d5, d, ok3'.sh, look_den ok3' dy' e4, look_den ok3' dz e5, e6, fun v Hs' H' ex dv => po3 v H' Hs' fp3 (ok3'.ext ex) dv⟩
      · rename_i e3
        exact ⟨Hs2, d1, d2, _, ok2'.sh, look_den ok2' dx' e1, look_den ok2' dy e2, e3, fun v Hs' H' ex dv => ⟨false, dv, iteF (po2 _ _ Hs' fp2 (ok2'.ext ex) rfl)⟩⟩
      · exact po2.elim
theorem fo_chain {op op' : CmpOp} {g g' : D → D → Option D} (ho : OpD X (compareOp op) g) (ho' : OpD X (compareOp op') g') (ha : PE X a (tFO X.K mg W fa)) (hb : PE X b (tFO X.K mg W fb)) (hc : PE X c (tFO X.K mg W fc))
    (hm : lastMarks [op, op'] [b, c] = false := by with_unfolding_all rfl) : PE X (.Compare a [op, op'] [b, c] pos) (tFO X.K mg W (eChain g g' fa fb fc)) :=
  (pe_chain ho ho' ha hb hc hm).imp fun _ _ _ h => chain_go (fun _ _ _ _ q => q) (fun _ _ _ _ q => q) h
/-! subscripts, slices -/
noncomputable def IxD (X : Cx) (g : D → D → Option D) : Prop :=
  IxR X fun x y H Q => ∃ Hs d1 d2 d, Same Hs H ∧ Den1 X.K Hs H d1 x ∧ Den1 X.K Hs H d2 y ∧ g d1 d2 = some d ∧ ∀ v Hs' H', Ext Hs H Hs' H' → Den X.K Hs' d v → Q v H'
noncomputable def D.ix : D → D → Option D
  | .lst ds, .int i => atI ds i
  | .fz ds, .int i => atI ds i
  | .tup ds, .int i => atI ds i
  | .ftup ds, .int i => atI ds i
  | .str x, .int i => (atI x.cps.toList i).map fun c => .str ⟨#[c]⟩
  | _, _ => none
theorem DenL.atI {K H} {ds : List D} {vs : List V} {i : Int} {d : D} (h : DenL K H ds vs) (e : L2.atI ds i = some d) : ∃ v, L2.atI vs i = some v ∧ Den K H d v := by
  unfold L2.atI at e ⊢
  rw [h.length]
  cases z : ixN ds.length i with
  | none => rw [z] at e; cases e
  | some j =>
    rw [z] at e
    exact h.get (i := j) (by simpa using e)
theorem xd_ix : IxD X D.ix := by
  rintro value slice pins s σ H x y v u Q I rx ry ⟨Hs, d1, d2, d, e, h1, h2, g, q⟩ hs
  unfold D.ix at g
  split at g
  · obtain ⟨a, vs, rfl, k1, k2⟩ := h1
    cases h2
    obtain ⟨w, e1, e2⟩ := k2.atI g
    exact ix_seq value slice pins s σ H _ _ v u Q I rx ry (.inl ⟨a, vs, _, w, rfl, rfl, SqL.lst k1, e1, q _ _ _ (.refl e) e2⟩) hs
  · obtain ⟨a, vs, rfl, k1, k2⟩ := h1
    cases h2
    obtain ⟨w, e1, e2⟩ := k2.atI g
    exact ix_seq value slice pins s σ H _ _ v u Q I rx ry (.inl ⟨a, vs, _, w, rfl, rfl, e.seq k1, e1, q _ _ _ (.refl e) e2⟩) hs
  · obtain ⟨a, vs, rfl, k1, k2⟩ := h1
    cases h2
    obtain ⟨w, e1, e2⟩ := k2.atI g
    exact ix_seq value slice pins s σ H _ _ v u Q I rx ry (.inr (.inl ⟨a, vs, _, w, rfl, rfl, SqT.of (e _ _ k1), e1, q _ _ _ (.refl e) e2⟩)) hs
  · obtain ⟨a, vs, rfl, k1, k2⟩ := h1
    cases h2
    obtain ⟨w, e1, e2⟩ := k2.atI g
    exact ix_seq value slice pins s σ H _ _ v u Q I rx ry (.inr (.inl ⟨a, vs, _, w, rfl, rfl, e.seqT k1, e1, q _ _ _ (.refl e) e2⟩)) hs
  · rename_i z i
    obtain ⟨rfl, k1⟩ := h1
    cases h2
    simp only [Option.map_eq_some_iff] at g
    obtain ⟨c, g1, rfl⟩ := g
    refine ix_seq value slice pins s σ H _ _ v u Q I rx ry (.inr (.inr ⟨_, _, c, rfl, rfl, k1.1, g1, q _ _ _ (.refl e) ⟨rfl, sOk_sign k1 ?_⟩⟩)) hs
    unfold L2.atI at g1
    cases z : ixN _ i with
    | none => rw [z] at g1; cases g1
    | some j => rw [z] at g1; exact List.mem_of_getElem? (by simpa using g1)
  · cases g
theorem fo_ix {g : D → D → Option D} (hr : IxD X g) (ha : PE X a (tFO X.K mg W fa)) (hb : PE X b (tFO X.K mg W fb)) (hs : PlainIx b) : PE X (.Subscript a b pos) (tFO X.K mg W (eBin g fa fb)) :=
  (pe_ix hr ha hb hs).imp fun _ _ _ h => bin_go (fun _ _ _ _ q => q) h
/-- a slice's part -/
noncomputable def PoP (K : PySem.W.Frag) (mg : Str → Option Value) (W : WX) (G : Gh) (σ : L2.St) (Q : Option Int → Hp → Prop) : Res (Option Int × Env') → Prop
  | .ok (o, ρ') => ∀ H', Ok K G σ H' ρ' → Q o H'
  | .exc c ρ' => ∀ H' C, mg c = some (.ref C) → Ok K G σ H' ρ' → W (.ref C) none σ H'
  | .bad => False
noncomputable def tFP (K : PySem.W.Frag) (mg : Str → Option Value) (W : WX) (f : Env' → Res (Option Int × Env')) : TO := fun σ H Q => ∃ G ρ, Ok K G σ H ρ ∧ PoP K mg W G σ Q (f ρ)
noncomputable def pNone : Env' → Res (Option Int × Env') := fun ρ => .ok (none, ρ)
noncomputable def pSome (fa : Env' → Res (RV × Env')) : Env' → Res (Option Int × Env') := fun ρ => (fa ρ).bind fun (r, ρ1) => match look ρ1 r with
  | some (.int i) => .ok (some i, ρ1)
  | _ => .bad
theorem _root_.L2.PO.imp {X : Cx} {e : Option Expr} {t t' : TO} (h : PO X e t) (i : ∀ σ H Q, t' σ H Q → t σ H Q) : PO X e t' := ⟨fun pins s σ H Q I q => h.run pins s σ H Q I (i σ H Q q)⟩
theorem fp_none : PO X none (tFP X.K mg W pNone) := po_none.imp fun σ H Q ⟨G, ρ, ok, po⟩ => po H ok
theorem fp_some (h : PE X a (tFO X.K mg W fa)) : PO X (some a) (tFP X.K mg W (pSome fa)) := by
  refine (po_some h).imp fun σ H Q ⟨G, ρ, ⟨Hs, fp, ok⟩, po⟩ => ?_
  refine goE ok po (fun _ _ h => h) id fun r1 ρ1 x H1 Hs1 fp1 ok1 dx po1 => ?_
  have ok1' := ok.back ok1
  simp only at po1
  split at po1
  · rename_i e1
    exact ⟨_, look_den ok1' dx e1, po1 H1 ⟨Hs1, fp1, ok1'⟩⟩
  · exact po1.elim
theorem goP {K : PySem.W.Frag} {G : Gh} {σ : L2.St} {H : Hp} {ρ : Env'} {Hs : Hp} {fp : List Addr} {β : Type} {P : Res β → Prop} {f : Env' → Res (Option Int × Env')} {k : Option Int × Env' → Res β} {R : Option Int → Hp → Prop} (ok : OkAt K G σ H ρ Hs fp) (po : P ((f ρ).bind k))
    (hx : ∀ c ρ', P (.exc c ρ') → ∀ H' C, mg c = some (.ref C) → Ok K G σ H' ρ' → W (.ref C) none σ H') (hb : ¬ P .bad)
    (cont : ∀ b ρ1 H1 Hs1 fp1, OkAt K (Hs, rem H fp) σ H1 ρ1 Hs1 fp1 → P (k (b, ρ1)) → R b H1) : tFP K mg W f σ H R := by
  refine ⟨_, ρ, ⟨Hs, fp, ok.self⟩, ?_⟩
  cases e : f ρ with
  | ok p =>
    obtain ⟨r, ρ1⟩ := p
    rw [e] at po
    exact fun H1 ⟨Hs1, fp1, ok1⟩ => cont r ρ1 H1 Hs1 fp1 ok1 po
  | exc c ρ' =>
    rw [e] at po
    exact fun H' C hc o => hx c ρ' po H' C hc (Ok.back ok o)
  | bad =>
    rw [e] at po
    exact hb po
noncomputable def cutD (xs : List D) (lo hi : Option Int) : List D := (xs.drop (HT.sIx xs.length 0 lo)).take (HT.sIx xs.length xs.length hi - HT.sIx xs.length 0 lo)
theorem DenL.cut {K H} {ds : List D} {vs : List V} (h : DenL K H ds vs) (lo hi : Option Int) : DenL K H (cutD ds lo hi) (cutV vs lo hi) := by
  unfold cutD cutV
  rw [h.length]
  exact (h.drop _).take _
noncomputable def D.sl (lo hi : Option Int) : D → Option D
  | .lst ds => some (.lst (cutD ds lo hi))
  | .fz ds => some (.lst (cutD ds lo hi))
  | .tup ds => some (.tup (cutD ds lo hi))
  | .str x => some (.str (cutS x lo hi))
  | _ => none
noncomputable def eSl (fa : Env' → Res (RV × Env')) (fl fh : Env' → Res (Option Int × Env')) : Env' → Res (RV × Env') := fun ρ =>
  (fa ρ).bind fun (r, ρ1) => (fl ρ1).bind fun (lo, ρ2) => (fh ρ2).bind fun (hi, ρ3) => (Res.of ((look ρ3 r).bind (D.sl lo hi))).bind fun d => .ok (.leaf d, ρ3)
theorem cut_whole (xs : List V) (lo hi : Option Int) (h : HT.sIx xs.length 0 lo = 0 ∧ HT.sIx xs.length xs.length hi = xs.length) : cutV xs lo hi = xs := by
  unfold cutV
  rw [h.1, h.2, List.drop_zero, Nat.sub_zero, List.take_length]
theorem cutS_ok {x : Str} (lo hi : Option Int) (h : sOk x) : sOk (cutS x lo hi) := sOk_sub h (fun c hc => List.mem_of_mem_drop (List.mem_of_mem_take hc)) (by
  have := cutS_length x lo hi
  unfold cutS at this
  simpa [Str.length] using this)
theorem fo_sl {lo hi : Option Expr} {fl fh : Env' → Res (Option Int × Env')} {p2 : Pos} (ha : PE X a (tFO X.K mg W fa)) (hl : PO X lo (tFP X.K mg W fl)) (hh : PO X hi (tFP X.K mg W fh)) : PE X (.Subscript a (.Slice lo hi none p2) pos) (tFO X.K mg W (eSl fa fl fh)) := by
  refine (pe_slice (sl_list.or (sl_tupA.or sl_str)) ha hl hh).imp fun σ H Q ⟨G, ρ, ⟨Hs, fp, ok⟩, po⟩ => ?_
  refine goE ok po (fun _ _ h => h) id fun r1 ρ1 x H1 Hs1 fp1 ok1 dx po1 => ?_
  have ok1' := ok.back ok1
  refine goP ok1' po1 (fun _ _ h => h) id fun lo ρ2 H2 Hs2 fp2 ok2 po2 => ?_
  have ok2' := ok1'.back ok2
  refine goP ok2' po2 (fun _ _ h => h) id fun hi ρ3 H3 Hs3 fp3 ok3 po3 => ?_
  have ok3' := ok2'.back ok3
  have dx3 : RVd X.K Hs3 σ r1 x := (dx.mono ok2.base).mono ok3.base
  cases e1 : look ρ3 r1 with
  | none => simp only [e1, Option.bind] at po3; exact po3.elim
  | some d =>
    have q := look_den ok3' dx3 e1
    simp only [e1, Option.bind] at po3
    cases d with
    | lst ds =>
      obtain ⟨a, vs, rfl, k1, k2⟩ := q
      refine .inl ⟨a, vs, rfl, SqL.lst k1, fun p hp => ?_⟩
      have ex := Ext.new (o := .lst (cutV vs lo hi)) ok3'.sh hp
      exact po3 _ _ _ fp3 (ok3'.ext ex) ⟨p, _, rfl, upd_same, (k2.cut lo hi).mono ex.s⟩
    | fz ds =>
      obtain ⟨a, vs, rfl, k1, k2⟩ := q
      refine .inl ⟨a, vs, rfl, ok3'.sh.seq k1, fun p hp => ?_⟩
      have ex := Ext.new (o := .lst (cutV vs lo hi)) ok3'.sh hp
      exact po3 _ _ _ fp3 (ok3'.ext ex) ⟨p, _, rfl, upd_same, (k2.cut lo hi).mono ex.s⟩
    | tup ds =>
      obtain ⟨a, vs, rfl, k1, k2⟩ := q
      refine .inr (.inl ⟨a, vs, rfl, SqT.of (ok3'.sh _ _ k1), fun z => ?_, fun _ p hp => ?_⟩)
      · have k3 := k2.cut lo hi
        rw [cut_whole vs lo hi z] at k3
        exact po3 _ _ _ fp3 ok3' ⟨a, vs, rfl, k1, k3⟩
      · have ex := Ext.new (o := .tup (cutV vs lo hi)) ok3'.sh hp
        exact po3 _ _ _ fp3 (ok3'.ext ex) ⟨p, _, rfl, upd_same, (k2.cut lo hi).mono ex.s⟩
    | str z =>
      obtain ⟨rfl, k⟩ := q
      exact .inr (.inr ⟨z, rfl, k.1, po3 _ _ _ fp3 ok3' ⟨rfl, cutS_ok lo hi k⟩⟩)
    | _ => exact po3.elim
end
end FL
namespace FL
open PySem PySem.Spec PyProof.Rows L2
/-! ### fresh trees -/
section
variable {X : Cx} {mg : Str → Option Value} {W : WX} {a b c : Expr} {fa fb fc : Env' → Res (RV × Env')} {na nb : Env' → Res (T × Env')} {pos : Pos}
/-- a new list of shared things -/
theorem OkAt.newList {K G σ H ρ Hs fp H' p vs ds} (ok : OkAt K G σ H ρ Hs fp) (hp : H p = none) (h1 : H' p = some (.lst vs)) (h2 : ∀ b o, H b = some o → H' b = some o) (h3 : DenL K Hs ds vs) :
    OkAt K G σ H' ρ Hs fp ∧ DenT K Hs H' (.lst (ds.map T.sh)) (.ref p) [p] ∧ [p].Nodup ∧ ∀ a ∈ [p], Hs a = none ∧ a ∉ fp ∧ G.2 a = none := by
  refine ⟨ok.ext ⟨Same.refl _, ok.sh.trans h2, h2, fun _ _ e => e⟩, ⟨p, vs, [], rfl, rfl, h1, DenTL.sh h3⟩, by simp, fun a ha => ?_⟩
  have e : a = p := by simpa using ha
  subst e
  refine ⟨ok.sh.free hp, fun hm => ?_, Same.free ok.frame hp⟩
  obtain ⟨o, eo⟩ := ok.env.there a hm
  rw [hp] at eo
  cases eo
noncomputable def nOf (fa : Env' → Res (RV × Env')) : Env' → Res (T × Env') := fun ρ => (fa ρ).bind fun (r, ρ1) => (Res.of (esc ρ1 r)).bind fun (d, ρ2) => .ok (.sh d, ρ2)
theorem fn_of (h : PE X a (tFO X.K mg W fa)) : PE X a (tFN X.K mg W (nOf fa)) := h.imp fun σ H Q ⟨G, ρ, ⟨Hs, fp, ok⟩, po⟩ => by
  refine goE ok po (fun _ _ h => h) id fun r1 ρ1 x H1 Hs1 fp1 ok1 dx po1 => ?_
  have ok1' := ok.back ok1
  cases e1 : esc ρ1 r1 with
  | none => simp only [e1] at po1; exact po1.elim
  | some p =>
    obtain ⟨d, ρ1'⟩ := p
    simp only [e1, of_some, bind_ok] at po1
    obtain ⟨Hs1', fp1', okE, sE, dE⟩ := esc_den ok1' dx e1
    exact po1 x H1 Hs1' fp1' [] okE ⟨rfl, dE⟩ (by simp) (fun a ha => by cases ha)
/-- a fresh tree let go -/
noncomputable def oOf (na : Env' → Res (T × Env')) : Env' → Res (RV × Env') := fun ρ => (na ρ).bind fun (t, ρ1) => .ok (.leaf t.d, ρ1)
theorem OkAt.letGo {K G σ H ρ Hs fp t v ft} (ok : OkAt K G σ H ρ Hs fp) (h : DenT K Hs H t v ft) (h2 : ∀ a ∈ ft, Hs a = none ∧ a ∉ fp ∧ G.2 a = none) : ∃ Hs', OkAt K G σ H ρ Hs' fp ∧ Same Hs Hs' ∧ Den K Hs' t.d v := by
  let Hs' : Hp := fun a => if a ∈ ft then H a else Hs a
  have e1 : ∀ a, a ∈ ft → Hs' a = H a := fun a ha => by show (if a ∈ ft then H a else Hs a) = _; rw [if_pos ha]
  have e2 : ∀ a, a ∉ ft → Hs' a = Hs a := fun a ha => by show (if a ∈ ft then H a else Hs a) = _; rw [if_neg ha]
  have s1 : Same Hs Hs' := fun a o e => by
    have n : a ∉ ft := fun ha => by rw [(h2 a ha).1] at e; cases e
    rw [e2 a n]; exact e
  have s2 : Same Hs' H := fun a o e => by
    by_cases ha : a ∈ ft
    · rw [e1 a ha] at e; exact e
    · rw [e2 a ha] at e; exact ok.sh a o e
  refine ⟨Hs', ⟨s2, ok.base.trans s1, ok.frame, fun a p1 p2 => ?_, fun a ha => ?_, ok.nd, ok.env.mono s1 fun _ _ => rfl⟩, s1, h.den s1 e1⟩
  · obtain ⟨q1, q2⟩ := ok.priv a p1 p2
    have n : a ∉ ft := fun hm => by rw [(h2 a hm).2.2] at p1; cases p1
    exact ⟨by rw [e2 a n]; exact q1, q2⟩
  · have n : a ∉ ft := fun hm => (h2 a hm).2.1 ha
    rw [e2 a n]; exact ok.disj a ha
theorem fo_of (h : PE X a (tFN X.K mg W na)) : PE X a (tFO X.K mg W (oOf na)) := h.imp fun σ H Q ⟨G, ρ, ⟨Hs, fp, ok⟩, po⟩ => by
  refine goN ok po (fun _ _ h => h) id fun t ρ1 x H1 Hs1 fp1 ft ok1 dt nd q po1 => ?_
  have ok1' := ok.back ok1
  obtain ⟨Hs2, okE, sE, dE⟩ := ok1'.letGo dt fun a ha => ⟨(q a ha).1, (q a ha).2.1, rem_none ok (q a ha).2.2⟩
  exact po1 x H1 Hs2 fp1 okE dE
/-- arguments as trees -/
noncomputable def PoAT (K : PySem.W.Frag) (mg : Str → Option Value) (W : WX) (G : Gh) (σ : L2.St) (Q : List V → Hp → Prop) : Res (List T × Env') → Prop
  | .ok (ts, ρ') => ∀ vs H' Hs fp ft, OkAt K G σ H' ρ' Hs fp → DenTL K Hs H' ts vs ft → ft.Nodup → (∀ a ∈ ft, Hs a = none ∧ a ∉ fp ∧ G.2 a = none) → Q vs H'
  | .exc c ρ' => ∀ H' C, mg c = some (.ref C) → Ok K G σ H' ρ' → W (.ref C) none σ H'
  | .bad => False
noncomputable def tFAT (K : PySem.W.Frag) (mg : Str → Option Value) (W : WX) (f : Env' → Res (List T × Env')) : TA := fun σ H Q => ∃ G ρ, Ok K G σ H ρ ∧ PoAT K mg W G σ Q (f ρ)
theorem goAT {K : PySem.W.Frag} {G : Gh} {σ : L2.St} {H : Hp} {ρ : Env'} {Hs : Hp} {fp : List Addr} {β : Type} {P : Res β → Prop} {f : Env' → Res (List T × Env')} {k : List T × Env' → Res β} {R : List V → Hp → Prop} (ok : OkAt K G σ H ρ Hs fp) (po : P ((f ρ).bind k))
    (hx : ∀ c ρ', P (.exc c ρ') → ∀ H' C, mg c = some (.ref C) → Ok K G σ H' ρ' → W (.ref C) none σ H') (hb : ¬ P .bad)
    (cont : ∀ ts ρ1 xs H1 Hs1 fp1 ft, OkAt K (Hs, rem H fp) σ H1 ρ1 Hs1 fp1 → DenTL K Hs1 H1 ts xs ft → ft.Nodup → (∀ a ∈ ft, Hs1 a = none ∧ a ∉ fp1 ∧ rem H fp a = none) → P (k (ts, ρ1)) → R xs H1) : tFAT K mg W f σ H R := by
  refine ⟨_, ρ, ⟨Hs, fp, ok.self⟩, ?_⟩
  cases e : f ρ with
  | ok p =>
    obtain ⟨r, ρ1⟩ := p
    rw [e] at po
    exact fun x H1 Hs1 fp1 ft ok1 d1 n1 q1 => cont r ρ1 x H1 Hs1 fp1 ft ok1 d1 n1 q1 po
  | exc c ρ' =>
    rw [e] at po
    exact fun H' C hc o => hx c ρ' po H' C hc (Ok.back ok o)
  | bad =>
    rw [e] at po
    exact hb po
noncomputable def atNil : Env' → Res (List T × Env') := fun ρ => .ok ([], ρ)
noncomputable def atCons (na : Env' → Res (T × Env')) (nr : Env' → Res (List T × Env')) : Env' → Res (List T × Env') := fun ρ => (na ρ).bind fun (t, ρ1) => (nr ρ1).bind fun (ts, ρ2) => .ok (t :: ts, ρ2)
theorem fat_nil : PA X [] (tFAT X.K mg W atNil) := pa_nil.imp fun σ H Q ⟨G, ρ, ⟨Hs, fp, ok⟩, po⟩ => po [] H Hs fp [] ok ⟨rfl, rfl⟩ (by simp) (fun _ h => by cases h)
theorem fat_cons {es : List Expr} {nr : Env' → Res (List T × Env')} (ha : PE X a (tFN X.K mg W na)) (hr : PA X es (tFAT X.K mg W nr)) (hs : starEach (a :: es) X.env = (false, eval a X.env) :: starEach es X.env := by rfl) : PA X (a :: es) (tFAT X.K mg W (atCons na nr)) := by
  refine (pa_cons ha hr hs).imp fun σ H Q ⟨G, ρ, ⟨Hs, fp, ok⟩, po⟩ => ?_
  refine goN ok po (fun _ _ h => h) id fun t ρ1 x H1 Hs1 fp1 ft ok1 dt nd q po1 => ?_
  have ok1' := ok.back ok1
  refine goAT ok1' po1 (fun _ _ h => h) id fun ts ρ2 ys H2 Hs2 fp2 ft2 ok2 dy nd2 q2 po2 => ?_
  have ok2' := ok1'.back ok2
  have keep : ∀ a ∈ ft, H2 a = H1 a ∧ Hs2 a = none ∧ a ∉ fp2 ∧ a ∉ ft2 := fun a ha => by
    obtain ⟨o, eo⟩ := dt.there a ha
    have r1 : rem H1 fp1 a = some o := by simp [rem, (q a ha).2.1, eo]
    obtain ⟨p1, p2⟩ := ok2.priv a (by show (rem H1 fp1 a).isSome = true; rw [r1]; rfl) (q a ha).1
    refine ⟨by rw [eo]; exact ok2.frame a o r1, p1, p2, fun hm => ?_⟩
    have := (q2 a hm).2.2
    rw [r1] at this
    cases this
  refine po2 _ H2 Hs2 fp2 (ft ++ ft2) ok2' ⟨x, ys, ft, ft2, rfl, rfl, dt.mono ok2.base fun a ha => (keep a ha).1, dy⟩ ?_ fun a ha => ?_
  · rw [List.nodup_append]
    exact ⟨nd, nd2, fun a ha b hb e => (keep a ha).2.2.2 (by rw [e]; exact hb)⟩
  · rcases List.mem_append.mp ha with ha | ha
    · exact ⟨(keep a ha).2.1, (keep a ha).2.2.1, rem_none ok (q a ha).2.2⟩
    · exact ⟨(q2 a ha).1, (q2 a ha).2.1, rem_none ok1' (q2 a ha).2.2⟩
noncomputable def nLst (ns : Env' → Res (List T × Env')) : Env' → Res (T × Env') := fun ρ => (ns ρ).bind fun (ts, ρ1) => if ts.length ≤ sizeLine then .ok (.lst ts, ρ1) else .bad
/-- a tree under a new list's object -/
theorem OkAt.newTree {K G σ H ρ Hs fp p vs ts ft} (ok : OkAt K G σ H ρ Hs fp) (hp : H p = none) (h3 : DenTL K Hs H ts vs ft) (nd : ft.Nodup) (q : ∀ a ∈ ft, Hs a = none ∧ a ∉ fp ∧ G.2 a = none) :
    OkAt K G σ (upd H p (.lst vs)) ρ Hs fp ∧ DenT K Hs (upd H p (.lst vs)) (.lst ts) (.ref p) (p :: ft) ∧ (p :: ft).Nodup ∧ ∀ a ∈ p :: ft, Hs a = none ∧ a ∉ fp ∧ G.2 a = none := by
  have np : p ∉ ft := fun hm => by obtain ⟨o, eo⟩ := h3.there p hm; rw [hp] at eo; cases eo
  refine ⟨ok.ext (.out ok.sh hp), ⟨p, vs, ft, rfl, rfl, upd_same, h3.mono (Same.refl _) fun a ha => upd_ne fun e => np (e ▸ ha)⟩, List.nodup_cons.mpr ⟨np, nd⟩, fun a ha => ?_⟩
  rcases List.mem_cons.mp ha with rfl | ha
  · refine ⟨ok.sh.free hp, fun hm => ?_, Same.free ok.frame hp⟩
    obtain ⟨o, eo⟩ := ok.env.there a hm
    rw [hp] at eo
    cases eo
  · exact q a ha
theorem fn_lst {es : List Expr} {ns : Env' → Res (List T × Env')} (h : PA X es (tFAT X.K mg W ns)) : PE X (.List es pos) (tFN X.K mg W (nLst ns)) := by
  refine (pe_lst h).imp fun σ H Q ⟨G, ρ, ⟨Hs, fp, ok⟩, po⟩ => ?_
  refine goAT ok po (fun _ _ h => h) id fun ts ρ1 xs H1 Hs1 fp1 ft ok1 dx nd q po1 => ?_
  have ok1' := ok.back ok1
  simp only at po1
  split at po1
  · rename_i c
    refine ⟨by rw [dx.length]; exact c, fun p hp => ?_⟩
    obtain ⟨k1, k2, k3, k4⟩ := ok1'.newTree hp dx nd fun a ha => ⟨(q a ha).1, (q a ha).2.1, rem_none ok (q a ha).2.2⟩
    exact po1 _ _ Hs1 fp1 _ k1 k2 k3 k4
  · exact po1.elim
/-- a built-in that makes a list of one's own -/
noncomputable def nB (g : List D → Option (List D)) (fs : Env' → Res (List RV × Env')) : Env' → Res (T × Env') := fun ρ =>
  (fs ρ).bind fun (rs, ρ1) => (Res.of (looks ρ1 rs)).bind fun ds => (Res.of (g ds)).bind fun es => .ok (.lst (es.map T.sh), ρ1)
theorem nb_go {r : List V → Hp → VK → Prop} {g : List D → Option (List D)} {fs : Env' → Res (List RV × Env')}
    (hr : ∀ xs H Q, (∃ Hs ds es, Same Hs H ∧ Den1L X.K Hs H ds xs ∧ g ds = some es ∧ ∀ p H' vs, H p = none → H' p = some (.lst vs) → (∀ b o, H b = some o → H' b = some o) → DenL X.K Hs es vs → Q (.ref p) H') → r xs H Q)
    {σ : L2.St} {H : Hp} {Q : VK} (h : tFN X.K mg W (nB g fs) σ H Q) : tCB r (tFA X.K mg W fs) σ H Q := by
  obtain ⟨G, ρ, ⟨Hs, fp, ok⟩, po⟩ := h
  refine goA ok po (fun _ _ h => h) id fun rs ρ1 xs H1 Hs1 fp1 ok1 dx po1 => hr xs H1 Q ?_
  have ok1' := ok.back ok1
  cases e1 : looks ρ1 rs with
  | none => simp only [e1] at po1; exact po1.elim
  | some ds =>
    cases e3 : g ds with
    | none => simp only [e1, e3, of_some, bind_ok] at po1; exact po1.elim
    | some es =>
      simp only [e1, e3, of_some, bind_ok] at po1
      refine ⟨Hs1, ds, es, ok1'.sh, looks_den ok1' dx e1, e3, fun p H' vs hp h1 h2 h3 => ?_⟩
      obtain ⟨k1, k2, k3, k4⟩ := ok1'.newList hp h1 h2 h3
      exact po1 _ _ Hs1 fp1 _ k1 k2 k3 k4
theorem fn_callTy {x : Str} {id : String} {p : Pos} {e : Expr} {es : List Expr} {g : List D → Option (List D)} {fs : Env' → Res (List RV × Env')} (hc : CallN X (.type id) g) (hg : Gl X x) (hm : X.mg x = none) (hv : bootBuiltins x = some (.type id)) (ha : PA X (e :: es) (tFA X.K mg W fs)) (hn : x ≠ "__name__" := by decide) (hdb : (x == ("__debug__" : Str)) = false := by decide)
    (he : starEach (e :: es) X.env = (false, eval e X.env) :: starEach es X.env := by rfl) (hpl : (backTo pos (starEach es X.env)).any (·.1) = false := by rfl) : PE X (.Call (.Name x p) (e :: es) [] pos) (tFN X.K mg W (nB g fs)) :=
  (pe_callTy hc hg hm hv ha hn hdb he hpl).imp fun _ _ _ h => nb_go (fun _ _ _ q => q) h
noncomputable def nBin (g : D → D → Option (List D)) (fa fb : Env' → Res (RV × Env')) : Env' → Res (T × Env') := fun ρ =>
  (fa ρ).bind fun (r1, ρ1) => (fb ρ1).bind fun (r2, ρ2) => (Res.of (look ρ2 r1)).bind fun d1 => (Res.of (look ρ2 r2)).bind fun d2 => (Res.of (g d1 d2)).bind fun es => .ok (.lst (es.map T.sh), ρ2)
noncomputable def D.catN : D → D → Option (List D)
  | .lst xs, .lst ys => if xs.length + ys.length ≤ sizeLine then some (xs ++ ys) else none
  | _, _ => none
/-- a slice of a list, one's own -/
noncomputable def nSl (fa : Env' → Res (RV × Env')) (fl fh : Env' → Res (Option Int × Env')) : Env' → Res (T × Env') := fun ρ =>
  (fa ρ).bind fun (r, ρ1) => (fl ρ1).bind fun (lo, ρ2) => (fh ρ2).bind fun (hi, ρ3) => match look ρ3 r with
    | some (.lst ds) => .ok (.lst ((cutD ds lo hi).map T.sh), ρ3)
    | some (.fz ds) => .ok (.lst ((cutD ds lo hi).map T.sh), ρ3)
    | _ => .bad
noncomputable def nIf (tc : Env' → Res (Bool × Env')) (na nb : Env' → Res (T × Env')) : Env' → Res (T × Env') := fun ρ => (tc ρ).bind fun (b, ρ1) => if b = true then na ρ1 else nb ρ1
end
/-! ### what is walked -/
noncomputable def IterOf (K : PySem.W.Frag) (J : It) (ds : List D) (Hs0 : Hp) : Prop :=
  ∀ i Hs H, Same Hs0 Hs → Same Hs H → (i < ds.length → J.go i H ∧ ∀ x H', J.yld i H x H' → ∃ Hs', Ext Hs H Hs' H' ∧ ∀ d, ds[i]? = some d → Den K Hs' d x) ∧ (ds.length ≤ i → J.stop i H)
theorem IterOf.mono {K J ds Hs Hs'} (h : IterOf K J ds Hs) (e : Same Hs Hs') : IterOf K J ds Hs' := fun i H1 H2 a b => h i H1 H2 (e.trans a) b
section
variable {X : Cx} {mg : Str → Option Value} {W : WX} {tg a b c : Expr} {fa fb fc : Env' → Res (RV × Env')} {pos p : Pos}
noncomputable def PoI (K : PySem.W.Frag) (mg : Str → Option Value) (W : WX) (G : Gh) (σ : L2.St) (R : It → Hp → Prop) : Res (List D × Env') → Prop
  | .ok (ds, ρ') => ∀ J H' Hs fp, OkAt K G σ H' ρ' Hs fp → IterOf K J ds Hs → R J H'
  | .exc c ρ' => ∀ H' C, mg c = some (.ref C) → Ok K G σ H' ρ' → W (.ref C) none σ H'
  | .bad => False
noncomputable def tFI (K : PySem.W.Frag) (mg : Str → Option Value) (W : WX) (f : Env' → Res (List D × Env')) : TI := fun σ H R => ∃ G ρ, Ok K G σ H ρ ∧ PoI K mg W G σ R (f ρ)
theorem _root_.L2.PI.imp {X : Cx} {tg e : Expr} {t t' : TI} (h : PI X tg e t) (i : ∀ σ H Q, t' σ H Q → t σ H Q) : PI X tg e t' := ⟨fun pins s σ H Q I q => h.run pins s σ H Q I (i σ H Q q)⟩
theorem _root_.L2.PI.or {X : Cx} {tg e : Expr} {t t' : TI} (h : PI X tg e t) (h' : PI X tg e t') : PI X tg e (fun σ H R => t σ H R ∨ t' σ H R) :=
  ⟨fun pins s σ H Q I q => by
    rcases q with q | q
    · exact h.run pins s σ H Q I q
    · exact h'.run pins s σ H Q I q⟩
theorem goI {K : PySem.W.Frag} {G : Gh} {σ : L2.St} {H : Hp} {ρ : Env'} {Hs : Hp} {fp : List Addr} {β : Type} {P : Res β → Prop} {f : Env' → Res (List D × Env')} {k : List D × Env' → Res β} {R : It → Hp → Prop} (ok : OkAt K G σ H ρ Hs fp) (po : P ((f ρ).bind k))
    (hx : ∀ c ρ', P (.exc c ρ') → ∀ H' C, mg c = some (.ref C) → Ok K G σ H' ρ' → W (.ref C) none σ H') (hb : ¬ P .bad)
    (cont : ∀ ds ρ1 J H1 Hs1 fp1, OkAt K (Hs, rem H fp) σ H1 ρ1 Hs1 fp1 → IterOf K J ds Hs1 → P (k (ds, ρ1)) → R J H1) : tFI K mg W f σ H R := by
  refine ⟨_, ρ, ⟨Hs, fp, ok.self⟩, ?_⟩
  cases e : f ρ with
  | ok p =>
    obtain ⟨r, ρ1⟩ := p
    rw [e] at po
    exact fun J H1 Hs1 fp1 ok1 d1 => cont r ρ1 J H1 Hs1 fp1 ok1 d1 po
  | exc c ρ' =>
    rw [e] at po
    exact fun H' C hc o => hx c ρ' po H' C hc (Ok.back ok o)
  | bad =>
    rw [e] at po
    exact hb po
theorem iter_list {K Hs a vs ds} (h : SqL K Hs a vs) (hd : DenL K Hs ds vs) : IterOf K (Itl K a) ds Hs := fun i Hs1 H e1 e2 => by
  have s1 := e2.seq (e1.seq h)
  have l := hd.length
  refine ⟨fun hi => ?_, fun hi => ⟨vs, s1, by omega⟩⟩
  obtain ⟨v, hv, dv⟩ := (hd.mono e1).get (List.getElem?_eq_getElem hi)
  refine ⟨⟨vs, v, s1, hv⟩, fun x H' ⟨eH, q⟩ => ⟨Hs1, by rw [eH]; exact .refl e2, fun d hd => ?_⟩⟩
  have := q vs s1
  rw [hv] at this
  cases this
  rw [List.getElem?_eq_getElem hi] at hd
  cases hd
  exact dv
theorem iter_tup {K Hs a vs ds} (h : SqT K Hs a vs) (hd : DenL K Hs ds vs) : IterOf K (Itt K a) ds Hs := fun i Hs1 H e1 e2 => by
  have s1 := e2.seqT (e1.seqT h)
  have l := hd.length
  refine ⟨fun hi => ?_, fun hi => ⟨vs, s1, by omega⟩⟩
  obtain ⟨v, hv, dv⟩ := (hd.mono e1).get (List.getElem?_eq_getElem hi)
  refine ⟨⟨vs, v, s1, hv⟩, fun x H' ⟨eH, q⟩ => ⟨Hs1, by rw [eH]; exact .refl e2, fun d hd => ?_⟩⟩
  have := q vs s1
  rw [hv] at this
  cases this
  rw [List.getElem?_eq_getElem hi] at hd
  cases hd
  exact dv
noncomputable def signs (x : Str) : List D := x.cps.toList.map fun c => .str ⟨#[c]⟩
theorem iter_str {K Hs x} (h : sOk x) : IterOf K (Its x) (signs x) Hs := fun i Hs1 H e1 e2 => by
  have l : (signs x).length = x.cps.size := by simp [signs]
  refine ⟨fun hi => ⟨by show i < x.cps.size; omega, fun v H' ⟨eH, c, hc, hv⟩ => ⟨Hs1, by rw [eH]; exact .refl e2, fun d hd => ?_⟩⟩, fun hi => by show x.cps.size ≤ i; omega⟩
  subst hv
  have hc' : x.cps.toList[i]? = some c := by simpa using hc
  simp only [signs, List.getElem?_map, hc', Option.map_some, Option.some.injEq] at hd
  subst hd
  exact ⟨rfl, sOk_sign h (List.mem_of_getElem? hc')⟩
noncomputable def D.walk : D → Option (List D)
  | .lst ds => some ds
  | .fz ds => some ds
  | .tup ds => some ds
  | .ftup ds => some ds
  | .str x => some (signs x)
  | _ => none
noncomputable def iSeq (fa : Env' → Res (RV × Env')) : Env' → Res (List D × Env') := fun ρ => (fa ρ).bind fun (r, ρ1) => (Res.of (esc ρ1 r)).bind fun (d, ρ2) => (Res.of d.walk).bind fun ds => .ok (ds, ρ2)
theorem goE' {K : PySem.W.Frag} {G : Gh} {σ : L2.St} {H : Hp} {ρ : Env'} {Hs : Hp} {fp : List Addr} {β : Type} {P : Res β → Prop} {f : Env' → Res (RV × Env')} {k : RV × Env' → Res β} {R : VK} (ok : OkAt K G σ H ρ Hs fp) (po : P ((f ρ).bind k))
    (hx : ∀ c ρ', P (.exc c ρ') → ∀ H' C, mg c = some (.ref C) → Ok K G σ H' ρ' → W (.ref C) none σ H') (hb : ¬ P .bad)
    (cont : ∀ r ρ1 x H1 Hs1 fp1, f ρ = .ok (r, ρ1) → OkAt K (Hs, rem H fp) σ H1 ρ1 Hs1 fp1 → RVd K Hs1 σ r x → P (k (r, ρ1)) → R x H1) : tFO K mg W f σ H R := by
  refine ⟨_, ρ, ⟨Hs, fp, ok.self⟩, ?_⟩
  cases e : f ρ with
  | ok p =>
    obtain ⟨r, ρ1⟩ := p
    rw [e] at po
    exact fun x H1 Hs1 fp1 ok1 d1 => cont r ρ1 x H1 Hs1 fp1 e ok1 d1 po
  | exc c ρ' =>
    rw [e] at po
    exact fun H' C hc o => hx c ρ' po H' C hc (Ok.back ok o)
  | bad =>
    rw [e] at po
    exact hb po
theorem fi_seq (ha : PE X a (tFO X.K mg W fa)) : PI X tg a (tFI X.K mg W (iSeq fa)) := by
  refine ((pi_list ha).or ((pi_tup ha).or (pi_str ha))).imp fun σ H R ⟨G, ρ, ⟨Hs, fp, ok⟩, po⟩ => ?_
  cases e0 : fa ρ with
  | exc c ρ' => exact .inl (goE' ok po (fun _ _ h => h) id fun r1 ρ1 x H1 Hs1 fp1 e => by rw [e0] at e; cases e)
  | bad => simp only [iSeq, e0] at po; exact po.elim
  | ok p =>
    obtain ⟨r0, ρ0⟩ := p
    cases e1 : esc ρ0 r0 with
    | none => rw [show iSeq fa ρ = .bad from by simp [iSeq, e0, e1]] at po; exact po.elim
    | some p =>
      obtain ⟨d, ρ2⟩ := p
      have fin : ∀ r1 ρ1 x H1 Hs1 fp1, fa ρ = .ok (r1, ρ1) → OkAt X.K (Hs, rem H fp) σ H1 ρ1 Hs1 fp1 → RVd X.K Hs1 σ r1 x → ∃ Hs2 fp2, OkAt X.K G σ H1 ρ2 Hs2 fp2 ∧ Den X.K Hs2 d x := by
        intro r1 ρ1 x H1 Hs1 fp1 e ok1 dx
        rw [e0] at e
        cases e
        obtain ⟨Hs1', fp1', okE, sE, dE⟩ := esc_den (ok.back ok1) dx e1
        exact ⟨Hs1', fp1', okE, dE⟩
      cases d with
      | lst ds =>
        refine .inl (goE' ok po (fun _ _ h => h) id fun r1 ρ1 x H1 Hs1 fp1 e ok1 dx po1 => ?_)
        obtain ⟨Hs2, fp2, okE, a, vs, rfl, k1, k2⟩ := fin r1 ρ1 x H1 Hs1 fp1 e ok1 dx
        rw [e0] at e
        cases e
        simp only [e1, of_some, bind_ok, D.walk] at po1
        exact ⟨a, rfl, ⟨vs, SqL.lst (okE.sh _ _ k1)⟩, po1 _ _ _ _ okE (iter_list (SqL.lst k1) k2)⟩
      | fz ds =>
        refine .inl (goE' ok po (fun _ _ h => h) id fun r1 ρ1 x H1 Hs1 fp1 e ok1 dx po1 => ?_)
        obtain ⟨Hs2, fp2, okE, a, vs, rfl, k1, k2⟩ := fin r1 ρ1 x H1 Hs1 fp1 e ok1 dx
        rw [e0] at e
        cases e
        simp only [e1, of_some, bind_ok, D.walk] at po1
        exact ⟨a, rfl, ⟨vs, okE.sh.seq k1⟩, po1 _ _ _ _ okE (iter_list k1 k2)⟩
      | tup ds =>
        refine .inr (.inl (goE' ok po (fun _ _ h => h) id fun r1 ρ1 x H1 Hs1 fp1 e ok1 dx po1 => ?_))
        obtain ⟨Hs2, fp2, okE, a, vs, rfl, k1, k2⟩ := fin r1 ρ1 x H1 Hs1 fp1 e ok1 dx
        rw [e0] at e
        cases e
        simp only [e1, of_some, bind_ok, D.walk] at po1
        exact ⟨a, rfl, ⟨vs, SqT.of (okE.sh _ _ k1)⟩, po1 _ _ _ _ okE (iter_tup (SqT.of k1) k2)⟩
      | ftup ds =>
        refine .inr (.inl (goE' ok po (fun _ _ h => h) id fun r1 ρ1 x H1 Hs1 fp1 e ok1 dx po1 => ?_))
        obtain ⟨Hs2, fp2, okE, a, vs, rfl, k1, k2⟩ := fin r1 ρ1 x H1 Hs1 fp1 e ok1 dx
        rw [e0] at e
        cases e
        simp only [e1, of_some, bind_ok, D.walk] at po1
        exact ⟨a, rfl, ⟨vs, okE.sh.seqT k1⟩, po1 _ _ _ _ okE (iter_tup k1 k2)⟩
      | str z =>
        refine .inr (.inr (goE' ok po (fun _ _ h => h) id fun r1 ρ1 x H1 Hs1 fp1 e ok1 dx po1 => ?_))
        obtain ⟨Hs2, fp2, okE, rfl, k1⟩ := fin r1 ρ1 x H1 Hs1 fp1 e ok1 dx
        rw [e0] at e
        cases e
        simp only [e1, of_some, bind_ok, D.walk] at po1
        exact ⟨z, rfl, po1 _ _ _ _ okE (iter_str k1)⟩
      | _ => rw [show iSeq fa ρ = .bad from by simp [iSeq, e0, e1, D.walk]] at po; exact po.elim
/-- range -/
noncomputable def rangeD (lo : Int) (n : Nat) : List D := (List.range n).map fun k => .int (lo + (k : Nat))
theorem iter_range {K Hs lo n} : IterOf K (Itr lo n) (rangeD lo n) Hs := fun i Hs1 H e1 e2 => by
  have l : (rangeD lo n).length = n := by simp [rangeD]
  refine ⟨fun hi => ⟨by show i < n; omega, fun v H' ⟨eH, hv⟩ => ⟨Hs1, by rw [eH]; exact .refl e2, fun d hd => ?_⟩⟩, fun hi => by show n ≤ i; omega⟩
  have hin : i < n := by omega
  simp only [rangeD, List.getElem?_map, List.getElem?_range hin, Option.map_some, Option.some.injEq] at hd
  subst hd
  exact hv
noncomputable def rOk (i : Int) : Prop := -(2 ^ 62) ≤ i ∧ i < 2 ^ 62
noncomputable instance (i : Int) : Decidable (rOk i) := Classical.propDecidable _
noncomputable def iRange1 (fs : Env' → Res (List RV × Env')) : Env' → Res (List D × Env') := fun ρ => (fs ρ).bind fun (rs, ρ1) => match looks ρ1 rs with
  | some [.int j] => if rOk j then .ok (rangeD 0 j.toNat, ρ1) else .bad
  | _ => .bad
noncomputable def iRange2 (fs : Env' → Res (List RV × Env')) : Env' → Res (List D × Env') := fun ρ => (fs ρ).bind fun (rs, ρ1) => match looks ρ1 rs with
  | some [.int i, .int j] => if rOk i ∧ rOk j then .ok (rangeD i (j - i).toNat, ρ1) else .bad
  | _ => .bad
theorem fi_range1 {fs : Env' → Res (List RV × Env')} (hg : Gl X "range") (hm : X.mg "range" = none) (ha : PA X [a] (tFA X.K mg W fs)) (hs : starEach [a] X.env = [(false, eval a X.env)] := by rfl) : PI X tg (.Call (.Name "range" p) [a] [] pos) (tFI X.K mg W (iRange1 fs)) := by
  refine (pi_range1 hg hm ha hs).imp fun σ H R ⟨G, ρ, ⟨Hs, fp, ok⟩, po⟩ => ?_
  refine goA ok po (fun _ _ h => h) id fun rs ρ1 xs H1 Hs1 fp1 ok1 dx po1 => ?_
  have ok1' := ok.back ok1
  simp only at po1
  split at po1
  · rename_i j e1
    split at po1
    · rename_i c
      obtain ⟨v, rfl, k1⟩ := (looks_den ok1' dx e1).d1
      cases k1
      exact ⟨j, rfl, c.1, c.2, po1 _ _ _ _ ok1' iter_range⟩
    · exact po1.elim
  · exact po1.elim
end
/-! ### targets -/
section
variable {X : Cx} {mg : Str → Option Value} {W : WX} {pos : Pos}
/-- a target's store, by data; vs: the slots that it may turn -/
noncomputable def tFG (K : PySem.W.Frag) (vs : List Nat) (g : D → Env' → Option Env') : TG := fun v σ H Q => ∃ G ρ Hs fp d ρ', OkAt K G σ H ρ Hs fp ∧ Den K Hs d v ∧ g d ρ = some ρ' ∧ ∀ σ' H', Ok K G σ' H' ρ' → L2.wipe σ' vs = L2.wipe σ vs → Q σ' H'
theorem wipe_get (σ : L2.St) : ∀ (vs : List Nat) (k : Nat), (L2.wipe σ vs)[k]? = if k ∈ vs then (σ[k]?.map fun _ => none) else σ[k]?
  | [], k => by simp [L2.wipe]
  | v :: vs, k => by
    rw [L2.wipe]
    have ih := wipe_get σ vs k
    by_cases h : v = k
    · subst h
      rcases Nat.lt_or_ge v σ.length with hv | hv
      · rw [List.getElem?_set_self (by rw [L2.wipe_length]; exact hv), List.getElem?_eq_getElem hv]
        simp
      · rw [List.getElem?_eq_none_iff.mpr (by rw [List.length_set, L2.wipe_length]; exact hv), List.getElem?_eq_none_iff.mpr hv]
        simp
    · rw [List.getElem?_set_ne h, ih]
      simp [Ne.symm h]
theorem wipe_eq_set (σ : L2.St) (vs : List Nat) (i : Nat) (o : Option V) (h : i ∈ vs) : L2.wipe (σ.set i o) vs = L2.wipe σ vs := by
  apply List.ext_getElem?
  intro k
  rw [wipe_get, wipe_get]
  by_cases hk : k ∈ vs
  · rw [if_pos hk, if_pos hk]
    by_cases hi : i = k
    · subst hi
      rcases Nat.lt_or_ge i σ.length with hv | hv
      · rw [List.getElem?_set_self hv, List.getElem?_eq_getElem hv]; rfl
      · rw [List.getElem?_eq_none_iff.mpr (by rw [List.length_set]; exact hv), List.getElem?_eq_none_iff.mpr hv]
    · rw [List.getElem?_set_ne hi]
  · rw [if_neg hk, if_neg hk, List.getElem?_set_ne (fun e => hk (by rw [← e]; exact h))]
theorem wipe_wipe (σ : L2.St) (vs : List Nat) : L2.wipe (L2.wipe σ vs) vs = L2.wipe σ vs := by
  apply List.ext_getElem?
  intro k
  rw [wipe_get, wipe_get]
  by_cases hk : k ∈ vs
  · rw [if_pos hk, if_pos hk, Option.map_map]; rfl
  · rw [if_neg hk, if_neg hk]
theorem _root_.L2.PG.imp {X : Cx} {e : Expr} {t t' : TG} (h : PG X e t) (i : ∀ v σ H Q, t' v σ H Q → t v σ H Q) : PG X e t' := ⟨fun pins s σ H v u Q I r q => h.run pins s σ H v u Q I r (i v σ H Q q)⟩
theorem OkAt.put {K G σ H ρ Hs fp i t v f} (ok : OkAt K G σ H ρ Hs fp) (hi : i < ρ.length) (d : DenT K Hs H t v f) (nd : f.Nodup) (q : ∀ a ∈ f, Hs a = none ∧ a ∉ fp ∧ G.2 a = none) : Ok K G (σ.set i (some v)) H (ρ.set i (some t)) := by
  obtain ⟨f1, f2, f3, e, env⟩ := ok.env.put hi d
  have nfp := ok.nd
  refine ⟨Hs, f1 ++ (f ++ f3), ok.sh, ok.base, ok.frame, fun a p1 p2 => ?_, fun a ha => ?_, ?_, env⟩
  · obtain ⟨q1, q2⟩ := ok.priv a p1 p2
    refine ⟨q1, fun hm => ?_⟩
    rw [e] at q2
    simp only [List.mem_append, not_or] at q2 hm
    rcases hm with h | h | h
    · exact q2.1 h
    · rw [(q a h).2.2] at p1; cases p1
    · exact q2.2.2 h
  · simp only [List.mem_append] at ha
    rcases ha with h | h | h
    · exact ok.disj a (by rw [e]; simp [h])
    · exact (q a h).1
    · exact ok.disj a (by rw [e]; simp [h])
  · rw [e, List.nodup_append] at nfp
    obtain ⟨n1, n2, n3⟩ := nfp
    rw [List.nodup_append] at n2
    rw [List.nodup_append, List.nodup_append]
    refine ⟨n1, ⟨nd, n2.2.1, fun a ha b hb z => ?_⟩, fun a ha b hb z => ?_⟩
    · subst z
      exact (q a ha).2.1 (by rw [e]; simp [hb])
    · subst z
      rcases List.mem_append.mp hb with hb | hb
      · exact (q a hb).2.1 (by rw [e]; simp [ha])
      · exact n3 a ha a (List.mem_append_right _ hb) rfl
noncomputable def gN (i : Nat) : D → Env' → Option Env' := fun d ρ => if i < ρ.length then some (ρ.set i (some (.sh d))) else none
theorem fg_name {i : Nat} {x : Str} {vs : List Nat} (hv : i ∈ vs) (hN : X.N.Nodup) (hi : X.N[i]? = some x) (hx : Loc X.env.scope x) (hf : X.fn x = true ∨ X.env.scope.names.lookup x = some .local := by first | exact .inl rfl | exact .inr rfl | assumption) : PG X (.Name x pos) (tFG X.K vs (gN i)) := by
  refine (pg_name hN hi hx hf).imp fun v σ H Q ⟨G, ρ, Hs, fp, d, ρ', ok, dv, e, q⟩ => ?_
  unfold gN at e
  split at e
  · rename_i hl
    cases e
    exact q _ _ (ok.put hl (t := .sh d) (f := []) ⟨rfl, dv⟩ (by simp) (fun _ h => by cases h)) (wipe_eq_set _ _ _ _ hv)
  · cases e
noncomputable def tFGs (K : PySem.W.Frag) (ws : List Nat) (g : List D → Env' → Option Env') : TGs := fun vs σ H Q => ∃ G ρ Hs fp ds ρ', OkAt K G σ H ρ Hs fp ∧ DenL K Hs ds vs ∧ g ds ρ = some ρ' ∧ ∀ σ' H', Ok K G σ' H' ρ' → L2.wipe σ' ws = L2.wipe σ ws → Q σ' H'
theorem _root_.L2.PGs.imp {X : Cx} {e : List Expr} {t t' : TGs} (h : PGs X e t) (i : ∀ v σ H Q, t' v σ H Q → t v σ H Q) : PGs X e t' := ⟨fun pins s σ H v u Q I r q => h.run pins s σ H v u Q I r (i v σ H Q q)⟩
noncomputable def gsNil : List D → Env' → Option Env' := fun ds ρ => match ds with
  | [] => some ρ
  | _ => none
noncomputable def gsCons (g : D → Env' → Option Env') (gs : List D → Env' → Option Env') : List D → Env' → Option Env' := fun ds ρ => match ds with
  | d :: r => (g d ρ).bind (gs r)
  | [] => none
theorem fgs_nil {us : List Nat} : PGs X [] (tFGs X.K us gsNil) := pgs_nil.imp fun vs σ H Q ⟨G, ρ, Hs, fp, ds, ρ', ok, dv, e, q⟩ => by
  unfold gsNil at e
  split at e
  · cases e
    exact ⟨dv, q _ _ ⟨Hs, fp, ok⟩ rfl⟩
  · cases e
theorem fgs_cons {e : Expr} {es : List Expr} {i : Nat} {us : List Nat} {gs : List D → Env' → Option Env'} (hu : i ∈ us) (h0 : PG X e (gName i)) (h2 : PGs X es (tFGs X.K us gs))
    (hs : (assignEach (e :: es) X.env).map (·.2) = assign e X.env :: (assignEach es X.env).map (·.2) := by rfl) : PGs X (e :: es) (tFGs X.K us (gsCons (gN i) gs)) := (pgs_cons h0 h2 hs).imp fun vs σ H Q ⟨G, ρ, Hs, fp, ds, ρ', ok, dv, e, q⟩ => by
  unfold gsCons at e
  split at e
  · rename_i d r
    obtain ⟨v, ws, rfl, d1, d2⟩ := dv
    simp only [Option.bind_eq_some_iff] at e
    obtain ⟨ρ1, e1, e2⟩ := e
    unfold gN at e1
    split at e1
    · rename_i hl
      cases e1
      refine ⟨v, ws, rfl, ?_⟩
      obtain ⟨f1, f2, f3, e, env⟩ := ok.env.put hl (t := .sh d) (f := []) ⟨rfl, d1⟩
      refine ⟨G, _, Hs, f1 ++ ([] ++ f3), r, ρ', ⟨ok.sh, ok.base, ok.frame, fun a p1 p2 => ?_, fun a ha => ok.disj a ?_, ?_, env⟩, d2, e2, fun σ' H' o w => q σ' H' o (w.trans (wipe_eq_set _ _ _ _ hu))⟩
      · obtain ⟨q1, q2⟩ := ok.priv a p1 p2
        rw [e] at q2
        simp only [List.mem_append, not_or] at q2 ⊢
        exact ⟨q1, q2.1, by simp, q2.2.2⟩
      · rw [e]
        simp only [List.mem_append] at ha ⊢
        rcases ha with h | h | h
        · exact .inl h
        · cases h
        · exact .inr (.inr h)
      · have nfp := ok.nd
        rw [e, List.nodup_append] at nfp
        obtain ⟨n1, n2, n3⟩ := nfp
        rw [List.nodup_append] at n2
        rw [List.nil_append, List.nodup_append]
        exact ⟨n1, n2.2.1, fun a ha b hb => n3 a ha b (List.mem_append_right _ hb)⟩
    · cases e1
  · cases e
noncomputable def gT (gs : List D → Env' → Option Env') (n : Nat) : D → Env' → Option Env' := fun d ρ => match d with
  | .tup ds => if ds.length = n then gs ds ρ else none
  | .lst ds => if ds.length = n then gs ds ρ else none
  | .ftup ds => if ds.length = n then gs ds ρ else none
  | .fz ds => if ds.length = n then gs ds ρ else none
  | _ => none
def gSeqT (K : PySem.W.Frag) (n : Nat) (t : TGs) : TG := fun v σ H Q => ∃ a xs, v = .ref a ∧ (SqT K H a xs ∨ SqL K H a xs) ∧ xs.length = n ∧ t xs σ H Q
theorem pg_seqT {es : List Expr} {k : Nat} {t : TGs} {n : Nat} (hc : X.calm = true) (h : PGs X es t)
    (hn : (assignEach es X.env).length = n := by rfl) (hst : (assignEach es X.env).findIdx? (·.1) = none := by rfl) : PG X (.Tuple es k pos) (gSeqT X.K n t) := by
  refine ⟨fun pins s σ H v u Q I r hw => ?_⟩
  obtain ⟨a, xs, e1, hq, hl, hw⟩ := hw
  subst e1
  cases r
  rcases hq with hq | hq
  · obtain ⟨its, rv, ht, hz⟩ := I.tuple hq
    refine assign_Tuple_tuple (I.ok.hd hc) ht (by simp [hn, ← hl, rv.length]) hst fun h' hx => ?_
    have I1 : Inv X pins σ H { s with heap := h' } := I.kept (t' := s.toks) fun b o e => hx b o (Nat.ne_of_lt (Heap.lt_size e)) e
    exact h.run pins _ σ H xs _ Q I1 (by simpa using rv) hw
  · obtain ⟨its, rv, ht, hz⟩ := I.list hq
    rw [assign_Tuple]
    refine wpAny_bind (wpAny_standAt ?_)
    unfold unpack
    have e : (assignEach es X.env).length = its.toArray.size := by simp [hn, ← hl, rv.length]
    rw [e, hst]
    refine wpAny_bind (wpAny_holding (PySem.W.kun_itemsOf (I.ok.hd hc) ht.isList fun h' hx => ?_))
    have I1 : Inv X pins σ H { s with heap := h' } := I.kept (t' := s.toks) fun b o e => hx b o (Nat.ne_of_lt (Heap.lt_size e)) e
    exact h.run pins _ σ H xs _ Q I1 (by simpa using rv) hw
theorem fg_tup {es : List Expr} {k : Nat} {gs : List D → Env' → Option Env'} {n : Nat} {us : List Nat} (hc : X.calm = true) (h : PGs X es (tFGs X.K us gs))
    (hn : (assignEach es X.env).length = n := by rfl) (hst : (assignEach es X.env).findIdx? (·.1) = none := by rfl) : PG X (.Tuple es k pos) (tFG X.K us (gT gs n)) := by
  refine (pg_seqT (n := n) hc h hn hst).imp fun v σ H Q ⟨G, ρ, Hs, fp, d, ρ', ok, dv, e, q⟩ => ?_
  unfold gT at e
  split at e
  · split at e
    · rename_i hl
      obtain ⟨a, vs, rfl, k1, k2⟩ := dv
      exact ⟨a, vs, rfl, .inl (SqT.of (ok.sh _ _ k1)), by rw [k2.length]; exact hl, G, ρ, Hs, fp, _, ρ', ok, k2, e, q⟩
    · cases e
  · split at e
    · rename_i hl
      obtain ⟨a, vs, rfl, k1, k2⟩ := dv
      exact ⟨a, vs, rfl, .inr (SqL.lst (ok.sh _ _ k1)), by rw [k2.length]; exact hl, G, ρ, Hs, fp, _, ρ', ok, k2, e, q⟩
    · cases e
  · split at e
    · rename_i hl
      obtain ⟨a, vs, rfl, k1, k2⟩ := dv
      exact ⟨a, vs, rfl, .inl (ok.sh.seqT k1), by rw [k2.length]; exact hl, G, ρ, Hs, fp, _, ρ', ok, k2, e, q⟩
    · cases e
  · split at e
    · rename_i hl
      obtain ⟨a, vs, rfl, k1, k2⟩ := dv
      exact ⟨a, vs, rfl, .inr (ok.sh.seq k1), by rw [k2.length]; exact hl, G, ρ, Hs, fp, _, ρ', ok, k2, e, q⟩
    · cases e
  · cases e
/-! ### comprehensions -/
noncomputable def Res.nx {α : Type} : Res α → Res α
  | .exc _ _ => .bad
  | r => r
noncomputable def W0 : WX := fun _ _ _ _ => False
noncomputable def wipeE (ρ : Env') : List Nat → Env'
  | [] => ρ
  | v :: vs => (wipeE ρ vs).set v none
theorem wipeE_length (ρ : Env') : ∀ vs, (wipeE ρ vs).length = ρ.length
  | [] => rfl
  | v :: vs => by simp [wipeE, wipeE_length ρ vs]
theorem OkAt.wipe1 {K G σ H ρ Hs fp} (ok : OkAt K G σ H ρ Hs fp) (i : Nat) : ∃ fp', (∀ a ∈ fp', a ∈ fp) ∧ ∀ o, OkAt K G (σ.set i o) H (ρ.set i none) Hs fp' := by
  obtain ⟨f1, f2, f3, e, env⟩ := ok.env.wipe (i := i)
  have nfp := ok.nd
  rw [e, List.nodup_append] at nfp
  obtain ⟨n1, n2, n3⟩ := nfp
  rw [List.nodup_append] at n2
  refine ⟨f1 ++ f3, fun a ha => by rw [e]; simp only [List.mem_append] at ha ⊢; rcases ha with h | h <;> simp [h], fun o => ⟨ok.sh, ok.base, ok.frame, fun a p1 p2 => ?_, fun a ha => ok.disj a ?_, ?_, env o⟩⟩
  · obtain ⟨q1, q2⟩ := ok.priv a p1 p2
    rw [e] at q2
    simp only [List.mem_append, not_or] at q2 ⊢
    exact ⟨q1, q2.1, q2.2.2⟩
  · rw [e]
    simp only [List.mem_append] at ha ⊢
    rcases ha with h | h
    · exact .inl h
    · exact .inr (.inr h)
  · rw [List.nodup_append]
    exact ⟨n1, n2.2.1, fun a ha b hb => n3 a ha b (List.mem_append_right _ hb)⟩
theorem OkAt.wipe {K G σ H ρ Hs fp} (ok : OkAt K G σ H ρ Hs fp) : ∀ vs : List Nat, ∃ fp', (∀ a ∈ fp', a ∈ fp) ∧ OkAt K G (L2.wipe σ vs) H (wipeE ρ vs) Hs fp'
  | [] => ⟨fp, fun _ h => h, ok⟩
  | v :: vs => by
    obtain ⟨fp1, k1, ok1⟩ := OkAt.wipe ok vs
    obtain ⟨fp2, k2, ok2⟩ := ok1.wipe1 v
    exact ⟨fp2, fun a h => k1 a (k2 a h), ok2 none⟩
theorem Ok.wipe {K G σ H ρ} (ok : Ok K G σ H ρ) (vs : List Nat) : Ok K G (L2.wipe σ vs) H (wipeE ρ vs) := by
  obtain ⟨Hs, fp, ok⟩ := ok
  obtain ⟨fp', _, ok'⟩ := ok.wipe vs
  exact ⟨Hs, fp', ok'⟩
/-- behind a comprehension: its own names are as they were, where that was shared -/
noncomputable def back1 (ρ0 ρ : Env') (i : Nat) : Env' := match ρ0[i]? with
  | some (some (.sh d)) => ρ.set i (some (.sh d))
  | _ => ρ.set i none
noncomputable def backE (ρ0 ρ : Env') : List Nat → Env'
  | [] => ρ
  | v :: vs => back1 ρ0 (backE ρ0 ρ vs) v
theorem wipe_set (σ : L2.St) (v : Nat) (vs : List Nat) (h : v ∉ vs) : (L2.wipe σ vs)[v]? = σ[v]? := by
  induction vs with
  | nil => rfl
  | cons w vs ih =>
    simp only [List.mem_cons, not_or] at h
    simp only [L2.wipe]
    rw [List.getElem?_set_ne (fun e => h.1 e.symm)]
    exact ih h.2
theorem back1_ok {K G σ H ρ ρ0 Hs Hs0 fp i} {w : Option V} (ok : OkAt K G σ H ρ Hs fp) (hs : Same Hs0 Hs) (h0 : ∀ d, ρ0[i]? = some (some (.sh d)) → ∃ v, w = some v ∧ Den K Hs0 d v) (hl : ρ0.length = ρ.length) : ∃ fp', (∀ a ∈ fp', a ∈ fp) ∧ OkAt K G (σ.set i w) H (back1 ρ0 ρ i) Hs fp' := by
  unfold back1
  obtain ⟨fp', sb, ok'⟩ := ok.wipe1 i
  split
  · rename_i d hd
    obtain ⟨v, rfl, dv⟩ := h0 d hd
    have hi : i < (ρ.set i none).length := by
      rw [List.length_set, ← hl]
      rcases Nat.lt_or_ge i ρ0.length with h | h
      · exact h
      · rw [List.getElem?_eq_none_iff.mpr h] at hd; cases hd
    obtain ⟨f1, f2, f3, e, env⟩ := (ok' none).env.put hi (t := .sh d) (f := []) ⟨rfl, dv.mono hs⟩
    have z := ok' none
    have nfp := z.nd
    rw [e, List.nodup_append] at nfp
    obtain ⟨n1, n2, n3⟩ := nfp
    rw [List.nodup_append] at n2
    refine ⟨f1 ++ f3, fun a ha => sb a (by rw [e]; simp only [List.mem_append] at ha ⊢; rcases ha with h | h <;> simp [h]), z.sh, z.base, z.frame, fun a p1 p2 => ?_, fun a ha => z.disj a ?_, ?_, by simpa using env⟩
    · obtain ⟨q1, q2⟩ := z.priv a p1 p2
      rw [e] at q2
      simp only [List.mem_append, not_or] at q2 ⊢
      exact ⟨q1, q2.1, q2.2.2⟩
    · rw [e]
      simp only [List.mem_append] at ha ⊢
      rcases ha with h | h
      · exact .inl h
      · exact .inr (.inr h)
    · rw [List.nodup_append]
      exact ⟨n1, n2.2.1, fun a ha b hb => n3 a ha b (List.mem_append_right _ hb)⟩
  · exact ⟨fp', sb, ok' w⟩
theorem backE_ok {K G G0 σ H H0 ρ0 Hs Hs0 fp0} (ok0 : OkAt K G0 σ H0 ρ0 Hs0 fp0) (hs : Same Hs0 Hs) : ∀ (vs : List Nat) {τ : L2.St} {ρ : Env'} {fp : List Addr}, OkAt K G τ H ρ Hs fp → ρ0.length = ρ.length → ∃ fp', (∀ a ∈ fp', a ∈ fp) ∧ OkAt K G (vs.foldr (fun v τ => τ.set v (σ[v]?.getD none)) τ) H (backE ρ0 ρ vs) Hs fp' ∧ (backE ρ0 ρ vs).length = ρ.length
  | [], τ, ρ, fp, ok, hl => ⟨fp, fun _ h => h, ok, rfl⟩
  | v :: vs, τ, ρ, fp, ok, hl => by
    obtain ⟨fp1, k1, ok1, l1⟩ := backE_ok ok0 hs vs ok hl
    obtain ⟨fp2, k2, ok2⟩ := back1_ok (i := v) (w := σ[v]?.getD none) ok1 hs (fun d hd => by
      obtain ⟨w, f1, f2, f3, h1, _, h3, _⟩ := ok0.env.at hd
      exact ⟨w, by rw [h1]; rfl, h3.2⟩) (by rw [l1]; exact hl)
    refine ⟨fp2, fun a h => k1 a (k2 a h), ok2, ?_⟩
    simp only [backE]
    unfold back1
    split <;> rw [List.length_set, l1]
theorem unwipe (σ : L2.St) : ∀ vs : List Nat, (vs.foldr (fun v τ => τ.set v (σ[v]?.getD none)) (L2.wipe σ vs)) = σ := by
  intro vs
  apply List.ext_getElem?
  intro j
  have key : ∀ (vs : List Nat) (τ : L2.St), τ.length = σ.length → (∀ k, k ∉ vs → τ[k]? = σ[k]?) → (vs.foldr (fun v τ => τ.set v (σ[v]?.getD none)) τ)[j]? = σ[j]? := by
    intro vs
    induction vs with
    | nil => intro τ _ h; exact h j (by simp)
    | cons v vs ih =>
      intro τ hl h
      have ll : ∀ (vs : List Nat) (τ : L2.St), (vs.foldr (fun v τ => τ.set v (σ[v]?.getD none)) τ).length = τ.length := by
        intro vs
        induction vs with
        | nil => intro τ; rfl
        | cons w ws ih => intro τ; rw [List.foldr_cons, List.length_set, ih]
      rw [List.foldr_cons]
      by_cases hj : v = j
      · subst hj
        rcases Nat.lt_or_ge v σ.length with hv | hv
        · rw [List.getElem?_set_self (by rw [ll, hl]; exact hv), List.getElem?_eq_getElem hv]
          rfl
        · rw [List.getElem?_eq_none_iff.mpr hv, List.getElem?_eq_none_iff.mpr (by rw [List.length_set, ll, hl]; exact hv)]
      · rw [List.getElem?_set_ne hj]
        have st : ∀ (vs : List Nat) (τ τ' : L2.St), τ.length = τ'.length → (∀ k, k ≠ v → τ[k]? = τ'[k]?) → ∀ k, k ≠ v → (vs.foldr (fun v τ => τ.set v (σ[v]?.getD none)) τ)[k]? = (vs.foldr (fun v τ => τ.set v (σ[v]?.getD none)) τ')[k]? := by
          intro vs
          induction vs with
          | nil => intro τ τ' _ h; exact h
          | cons w ws ih =>
            intro τ τ' hl h k hk
            rw [List.foldr_cons, List.foldr_cons]
            by_cases hw : w = k
            · subst hw
              rcases Nat.lt_or_ge w τ.length with hv | hv
              · rw [List.getElem?_set_self (by rw [ll]; exact hv), List.getElem?_set_self (by rw [ll, ← hl]; exact hv)]
              · rw [List.getElem?_eq_none_iff.mpr (by rw [List.length_set, ll]; exact hv), List.getElem?_eq_none_iff.mpr (by rw [List.length_set, ll, ← hl]; exact hv)]
            · rw [List.getElem?_set_ne hw, List.getElem?_set_ne hw]
              exact ih τ τ' hl h k hk
        have e1 := st vs τ (τ.set v (σ[v]?.getD none)) (by simp) (fun k hk => by rw [List.getElem?_set_ne (Ne.symm hk)]) j (Ne.symm hj)
        rw [e1]
        refine ih _ (by simp [hl]) fun k hk => ?_
        by_cases hkv : v = k
        · subst hkv
          rcases Nat.lt_or_ge v σ.length with hv | hv
          · rw [List.getElem?_set_self (by rw [hl]; exact hv), List.getElem?_eq_getElem hv]; rfl
          · rw [List.getElem?_eq_none_iff.mpr hv, List.getElem?_eq_none_iff.mpr (by rw [List.length_set, hl]; exact hv)]
        · rw [List.getElem?_set_ne hkv]
          exact h k (by simp [hk, Ne.symm hkv])
  exact key vs _ (L2.wipe_length σ vs) (fun k hk => wipe_set σ k vs hk)
/-- a thing of one's own that is held while more runs -/
theorem held {K σ σ' H H' ρ ρ' Hs Hs' fp fp' G t v ft} (ok : OkAt K G σ H ρ Hs fp) (h : DenT K Hs H t v ft) (q : ∀ a ∈ ft, Hs a = none ∧ a ∉ fp) (ok' : OkAt K (Hs, rem H fp) σ' H' ρ' Hs' fp') :
    DenT K Hs' H' t v ft ∧ ∀ a ∈ ft, Hs' a = none ∧ a ∉ fp' ∧ H' a = H a ∧ (rem H fp a).isSome = true := by
  have keep : ∀ a ∈ ft, Hs' a = none ∧ a ∉ fp' ∧ H' a = H a ∧ (rem H fp a).isSome = true := fun a ha => by
    obtain ⟨o, eo⟩ := h.there a ha
    have r1 : rem H fp a = some o := by simp [rem, (q a ha).2, eo]
    obtain ⟨p1, p2⟩ := ok'.priv a (by show (rem H fp a).isSome = true; rw [r1]; rfl) (q a ha).1
    exact ⟨p1, p2, by rw [eo]; exact ok'.frame a o r1, by rw [r1]; rfl⟩
  exact ⟨h.mono ok'.base fun a ha => (keep a ha).2.2.1, keep⟩
theorem OkAt.updOut {K G σ H ρ Hs fp p o} (ok : OkAt K G σ H ρ Hs fp) (h1 : Hs p = none) (h2 : p ∉ fp) (h3 : G.2 p = none) : OkAt K G σ (upd H p o) ρ Hs fp :=
  ⟨fun a u e => by rw [upd_ne (ne_of_none e h1)]; exact ok.sh a u e, ok.base, fun a u e => by rw [upd_ne (ne_of_none e h3)]; exact ok.frame a u e, ok.priv, ok.disj, ok.nd, ok.env.mono (Same.refl _) fun a ha => upd_ne fun e => h2 (e ▸ ha)⟩
section
variable {K : PySem.W.Frag} {mg : Str → Option Value} {G : Gh} {σ : L2.St} {H : Hp} {ρ : Env'} {Hs : Hp} {fp : List Addr} {β : Type} {P : Res β → Prop}
theorem goT0 {f : Env' → Res (Bool × Env')} {k : Bool × Env' → Res β} {R : Bool → Hp → Prop} (ok : OkAt K G σ H ρ Hs fp) (po : P ((f ρ).nx.bind k)) (hb : ¬ P .bad)
    (cont : ∀ b ρ1 H1 Hs1 fp1, OkAt K (Hs, rem H fp) σ H1 ρ1 Hs1 fp1 → P (k (b, ρ1)) → R b H1) : tFB K mg W0 f σ H R := by
  refine ⟨_, ρ, ⟨Hs, fp, ok.self⟩, ?_⟩
  cases e : f ρ with
  | ok p =>
    obtain ⟨r, ρ1⟩ := p
    rw [e] at po
    exact fun H1 ⟨Hs1, fp1, ok1⟩ => cont r ρ1 H1 Hs1 fp1 ok1 po
  | exc c ρ' => rw [e] at po; exact (hb po).elim
  | bad => rw [e] at po; exact hb po
theorem goN0 {f : Env' → Res (T × Env')} {k : T × Env' → Res β} {R : VK} (ok : OkAt K G σ H ρ Hs fp) (po : P ((f ρ).nx.bind k)) (hb : ¬ P .bad)
    (cont : ∀ t ρ1 x H1 Hs1 fp1 ft, OkAt K (Hs, rem H fp) σ H1 ρ1 Hs1 fp1 → DenT K Hs1 H1 t x ft → ft.Nodup → (∀ a ∈ ft, Hs1 a = none ∧ a ∉ fp1 ∧ rem H fp a = none) → P (k (t, ρ1)) → R x H1) : tFN K mg W0 f σ H R := by
  refine ⟨_, ρ, ⟨Hs, fp, ok.self⟩, ?_⟩
  cases e : f ρ with
  | ok p =>
    obtain ⟨r, ρ1⟩ := p
    rw [e] at po
    exact fun x H1 Hs1 fp1 ft ok1 d1 n1 q1 => cont r ρ1 x H1 Hs1 fp1 ft ok1 d1 n1 q1 po
  | exc c ρ' => rw [e] at po; exact (hb po).elim
  | bad => rw [e] at po; exact hb po
end
noncomputable def lcGo (gt : D → Env' → Option Env') (tt : Env' → Res (Bool × Env')) (ne : Env' → Res (T × Env')) (vs : List Nat) : List D → Env' → Res (List T × Env')
  | [], ρ => .ok ([], ρ)
  | d :: ds, ρ => (Res.of (gt d ρ)).bind fun ρ1 => (tt ρ1).nx.bind fun (b, ρ2) => if b = true then (ne ρ2).nx.bind fun (t, ρ3) => (lcGo gt tt ne vs ds (wipeE ρ3 vs)).bind fun (ts, ρ4) => .ok (t :: ts, ρ4) else lcGo gt tt ne vs ds (wipeE ρ2 vs)
noncomputable def nLc (fi : Env' → Res (List D × Env')) (gt : D → Env' → Option Env') (tt : Env' → Res (Bool × Env')) (ne : Env' → Res (T × Env')) (vs : List Nat) : Env' → Res (T × Env') := fun ρ =>
  (fi ρ).bind fun (ds, ρ1) => if ds.length ≤ sizeLine then (lcGo gt tt ne vs ds (wipeE ρ1 vs)).bind fun (ts, ρ2) => .ok (.lst ts, backE ρ1 ρ2 vs) else .bad
theorem DenT.lst_upd {K Hs H t y ft pre acc p f} (h : DenT K Hs H (.lst pre) (.ref p) (p :: f)) (hH : H p = some (.lst acc)) (hy : DenT K Hs H t y ft) (h1 : p ∉ f) (h2 : p ∉ ft) : DenT K Hs (upd H p (.lst (acc ++ [y]))) (.lst (pre ++ [t])) (.ref p) (p :: (f ++ ft)) := by
  obtain ⟨a, vs, fr, e1, e2, e3, e4⟩ := h
  cases e1
  cases e2
  rw [hH] at e3
  cases e3
  have m1 := e4.mono (H' := upd H p (.lst (acc ++ [y]))) (Same.refl _) fun a ha => upd_ne fun e => h1 (e ▸ ha)
  have m2 := hy.mono (H' := upd H p (.lst (acc ++ [y]))) (Same.refl _) fun a ha => upd_ne fun e => h2 (e ▸ ha)
  exact ⟨p, _, _, rfl, rfl, upd_same, m1.append ⟨y, [], ft, [], rfl, by simp, m2, rfl, rfl⟩⟩
theorem lc_go {K : PySem.W.Frag} {fi : Env' → Res (List D × Env')} {gt : D → Env' → Option Env'} {tt : Env' → Res (Bool × Env')} {ne : Env' → Res (T × Env')} {vs : List Nat} {σ : L2.St} {H : Hp} {Q : VK}
    (h : tFN K mg W (nLc fi gt tt ne vs) σ H Q) : tLc (tFI K mg W fi) (tFG K vs gt) (tFB K mg W0 tt) (tFN K mg W0 ne) vs σ H Q := by
  obtain ⟨G, ρ, ⟨Hs, fp, ok⟩, po⟩ := h
  refine goI ok po (fun _ _ h => h) id fun ds ρ1 J H1 Hs1 fp1 ok1 it po1 => ?_
  have ok1' := ok.back ok1
  simp only at po1
  split at po1
  · rename_i hlen
    intro Dl hD
    obtain ⟨fpw, sbw, okw⟩ := ok1'.wipe vs
    refine ⟨fun i m H => ∃ ρi Hsi fpi pre f acc, i + m = ds.length ∧ OkAt K G (L2.wipe σ vs) H ρi Hsi fpi ∧ Same Hs1 Hsi ∧ H Dl = some (.lst acc) ∧ DenT K Hsi H (.lst pre) (.ref Dl) (Dl :: f) ∧ (Dl :: f).Nodup ∧ (∀ a ∈ Dl :: f, Hsi a = none ∧ a ∉ fpi ∧ G.2 a = none) ∧
      acc.length ≤ i ∧ ρi.length = ρ1.length ∧ PoN K mg W G σ Q ((lcGo gt tt ne vs (ds.drop i) ρi).bind fun (ts, ρ2) => .ok (.lst (pre ++ ts), backE ρ1 ρ2 vs)),
      ⟨ds.length, wipeE ρ1 vs, Hs1, fpw, [], [], [], by omega, okw.ext (.out okw.sh hD), Same.refl _, upd_same, ⟨Dl, [], [], rfl, rfl, upd_same, rfl, rfl⟩, by simp, fun a ha => ?_, by simp, wipeE_length _ _, by simpa using po1⟩, ?_⟩
    · have e : a = Dl := by simpa using ha
      subst e
      refine ⟨okw.sh.free hD, fun hm => ?_, Same.free okw.frame hD⟩
      obtain ⟨o, eo⟩ := okw.env.there a hm
      rw [hD] at eo
      cases eo
    · rintro i m H5 ⟨ρi, Hsi, fpi, pre, f, acc, em, oki, sm, hacc, dt, nd, qs, hl, hρ, pi⟩
      have dl : acc.length = pre.length := by
        obtain ⟨a, vs', fr, e1, e2, e3, e4⟩ := dt
        cases e1
        rw [hacc] at e3
        cases e3
        exact e4.length
      by_cases hi : i < ds.length
      · obtain ⟨go, yl⟩ := (it i Hsi H5 sm oki.sh).1 hi
        refine .inr ⟨go, fun H' => _, fun H' h => ⟨m - 1, by omega, h⟩, fun x H6 hy => ?_⟩
        obtain ⟨Hs6, ex, dd⟩ := yl x H6 hy
        have dx := dd _ (List.getElem?_eq_getElem hi)
        have ok6 := oki.ext ex
        have dt6 : DenT K Hs6 H6 (.lst pre) (.ref Dl) (Dl :: f) := dt.mono ex.s fun a ha => by
          obtain ⟨o, eo⟩ := dt.there a ha
          rw [eo]; exact ex.keep a o eo
        have q6 : ∀ a ∈ Dl :: f, Hs6 a = none ∧ a ∉ fpi := fun a ha => by
          obtain ⟨o, eo⟩ := dt.there a ha
          exact ⟨ex.priv a (by rw [eo]; rfl) (qs a ha).1, (qs a ha).2.1⟩
        rw [List.drop_eq_getElem_cons hi, lcGo] at pi
        cases eg : gt ds[i] ρi with
        | none => rw [eg] at pi; exact pi.elim
        | some ρa =>
          rw [eg] at pi
          simp only [of_some, bind_ok] at pi
          refine ⟨_, ρi, Hs6, fpi, ds[i], ρa, ok6.self, dx, eg, fun σ2 H7 ⟨Hs7, fp7, ok7⟩ ew => ⟨by rw [ew, wipe_wipe], ?_⟩⟩
          have ew' : L2.wipe σ2 vs = L2.wipe σ vs := by rw [ew, wipe_wipe]
          obtain ⟨dt7, k7⟩ := held ok6 dt6 q6 ok7
          have b7 := ok6.back ok7
          have acc7 : H7 Dl = some (.lst acc) := by
            rw [(k7 Dl (by simp)).2.2.1, ← hacc]
            exact (ex.keep Dl _ hacc).trans hacc.symm
          have pi' : PoN K mg W G σ Q ((tt ρa).nx.bind fun x => (if x.1 = true then (ne x.2).nx.bind fun (t, ρ3) => (lcGo gt tt ne vs (ds.drop (i + 1)) (wipeE ρ3 vs)).bind fun (ts, ρ4) => .ok (t :: ts, ρ4) else lcGo gt tt ne vs (ds.drop (i + 1)) (wipeE x.2 vs)).bind fun (ts, ρ2) => .ok (.lst (pre ++ ts), backE ρ1 ρ2 vs)) := by
            cases et : tt ρa with
            | ok p => rw [et] at pi; exact pi
            | exc c r => rw [et] at pi; exact pi
            | bad => rw [et] at pi; exact pi
          refine goT0 b7 pi' id fun b ρb H8 Hs8 fp8 ok8 pb => ?_
          obtain ⟨dt8, k8⟩ := held b7 dt7 (fun a ha => ⟨(k7 a ha).1, (k7 a ha).2.1⟩) ok8
          have b8 := b7.back ok8
          have acc8 : H8 Dl = some (.lst acc) := by rw [(k8 Dl (by simp)).2.2.1, acc7]
          have sm8 : Same Hs1 Hs8 := (sm.trans ex.s).trans (ok7.base.trans ok8.base)
          cases b with
          | false =>
            simp only [Bool.false_eq_true, if_false] at pb ⊢
            obtain ⟨fp9, sb9, ok9⟩ := b8.wipe vs
            rw [ew'] at ok9
            refine ⟨wipeE ρb vs, Hs8, fp9, pre, f, acc, by omega, ok9, sm8, acc8, dt8, nd, fun a ha => ⟨(k8 a ha).1, fun hm => (k8 a ha).2.1 (sb9 a hm), (qs a ha).2.2⟩, by omega, ?_, pb⟩
            rw [wipeE_length]
            have z1 := b8.env.length
            have z2 := oki.env.length
            have z3 := congrArg List.length ew'
            rw [L2.wipe_length, L2.wipe_length] at z3
            rw [L2.wipe_length] at z2
            omega
          | true =>
            simp only [if_true] at pb ⊢
            have pb' : PoN K mg W G σ Q ((ne ρb).nx.bind fun x => ((lcGo gt tt ne vs (ds.drop (i + 1)) (wipeE x.2 vs)).bind fun (ts, ρ4) => .ok (x.1 :: ts, ρ4)).bind fun (ts, ρ2) => .ok (.lst (pre ++ ts), backE ρ1 ρ2 vs)) := by
              cases et : ne ρb with
              | ok p => rw [et] at pb; exact pb
              | exc c r => rw [et] at pb; exact pb
              | bad => rw [et] at pb; exact pb
            refine goN0 b8 pb' id fun t ρc y H9 Hs9 fp9 ft ok9 dy ndy qy pc => ?_
            obtain ⟨dt9, k9⟩ := held b8 dt8 (fun a ha => ⟨(k8 a ha).1, (k8 a ha).2.1⟩) ok9
            have b9 := b8.back ok9
            have acc9 : H9 Dl = some (.lst acc) := by rw [(k9 Dl (by simp)).2.2.1, acc8]
            refine ⟨acc, acc9, by omega, ?_⟩
            have dis : ∀ a ∈ Dl :: f, a ∉ ft := fun a ha hm => by
              have := (qy a hm).2.2
              have z := (k9 a ha).2.2.2
              rw [this] at z
              cases z
            have nd2 := List.nodup_cons.mp nd
            have dt10 := dt9.lst_upd acc9 dy nd2.1 (dis Dl (by simp))
            have ok10 : OkAt K G σ2 (upd H9 Dl (.lst (acc ++ [y]))) ρc Hs9 fp9 := b9.updOut (k9 Dl (by simp)).1 (k9 Dl (by simp)).2.1 (qs Dl (by simp)).2.2
            obtain ⟨fp11, sb11, ok11⟩ := ok10.wipe vs
            rw [ew'] at ok11
            refine ⟨wipeE ρc vs, Hs9, fp11, pre ++ [t], f ++ ft, acc ++ [y], by omega, ok11, sm8.trans ok9.base, upd_same, dt10, ?_, fun a ha => ?_, by simp; omega, ?_, ?_⟩
            · rw [List.nodup_cons, List.mem_append, List.nodup_append]
              exact ⟨fun hm => hm.elim nd2.1 (dis Dl (by simp)), nd2.2, ndy, fun a ha b hb e => dis a (by simp [ha]) (e ▸ hb)⟩
            · rw [List.mem_cons, List.mem_append] at ha
              have old : a ∈ Dl :: f → Hs9 a = none ∧ a ∉ fp11 ∧ G.2 a = none := fun ha => ⟨(k9 a ha).1, fun hm => (k9 a ha).2.1 (sb11 a hm), (qs a ha).2.2⟩
              rcases ha with h | h | h
              · exact old (by simp [h])
              · exact old (by simp [h])
              · exact ⟨(qy a h).1, fun hm => (qy a h).2.1 (sb11 a hm), rem_none b8 (qy a h).2.2⟩
            · rw [wipeE_length]
              have z1 := ok10.env.length
              have z2 := oki.env.length
              have z3 := congrArg List.length ew'
              rw [L2.wipe_length, L2.wipe_length] at z3
              rw [L2.wipe_length] at z2
              omega
            · have e2 : ∀ r : Res (List T × Env'), ((r.bind fun (ts, ρ4) => Res.ok (t :: ts, ρ4)).bind fun (ts, ρ2) => Res.ok (T.lst (pre ++ ts), backE ρ1 ρ2 vs)) = r.bind fun (ts, ρ2) => Res.ok (T.lst (pre ++ [t] ++ ts), backE ρ1 ρ2 vs) := by
                intro r
                cases r with
                | ok p => simp
                | exc c r => rfl
                | bad => rfl
              rw [← e2]
              exact pc
      · refine .inl ⟨(it i Hsi H5 sm oki.sh).2 (by omega), ?_⟩
        rw [List.drop_eq_nil_of_le (by omega), lcGo] at pi
        simp only [bind_ok, List.append_nil] at pi
        obtain ⟨fp', sb', okB, _⟩ := backE_ok (σ := σ) ok1' sm vs oki hρ.symm
        rw [unwipe] at okB
        exact pi _ _ Hsi fp' (Dl :: f) okB dt nd fun a ha => ⟨(qs a ha).1, fun hm => (qs a ha).2.1 (sb' a hm), (qs a ha).2.2⟩
  · exact po1.elim
end
end FL
namespace FL
open PySem PySem.Spec PyProof.Rows L2
section
variable {X : Cx} {mg : Str → Option Value} {W : WX} {a b c : Expr} {fa fb fc : Env' → Res (RV × Env')} {na nb : Env' → Res (T × Env')} {ta : Env' → Res (Bool × Env')} {pos : Pos}
/-- a list comprehension -/
theorem fn_lc {elt tg iter : Expr} {ifs : List Expr} {scope : Scope} {own : List (Str × Nat)} {fi : Env' → Res (List D × Env')} {gt : D → Env' → Option Env'} {tt : Env' → Res (Bool × Env')} {ne : Env' → Res (T × Env')} (hc : X.calm = true) (hN : X.N.Nodup) (hi : PI X tg iter (tFI X.K mg W fi)) (ok : BlkOk X.N X.env.scope scope own)
    (hg : ∀ (s : Shared) (H : Hp) (C : Addr) (cl : List (Str × Addr)) (fp : List Addr), PG (X.blk s H scope (compEnvC scope cl C X.env) fp) tg (tFG X.K (own.map (·.2)) gt)) (ht : ∀ (s : Shared) (H : Hp) (C : Addr) (cl : List (Str × Addr)) (fp : List Addr), PTs (X.blk s H scope (compEnvC scope cl C X.env) fp) ifs (tFB X.K mg W0 tt))
    (he : ∀ (s : Shared) (H : Hp) (C : Addr) (cl : List (Str × Addr)) (fp : List Addr), PE (X.blk s H scope (compEnvC scope cl C X.env) fp) elt (tFN X.K mg W0 ne)) (hs : ∀ x, foldedSetIterable iter X.env x = pure x := by intro _; rfl) :
    PE X (.ListComp elt [⟨tg, iter, ifs, 0⟩] scope pos) (tFN X.K mg W (nLc fi gt tt ne (own.map (·.2)))) := (pe_lc hc hN hi ok hg ht he hs).imp fun σ H Q h => lc_go h
noncomputable def ttYes : Env' → Res (Bool × Env') := fun ρ => .ok (true, ρ)
theorem fts_nil : PTs X [] (tFB X.K mg W ttYes) := ⟨fun pins s σ H Q I ⟨G, ρ, ok, po⟩ => pts_nil.run pins s σ H Q I (po H ok)⟩
theorem fts_one (h : PT X c (tFB X.K mg W ta)) : PTs X [c] (tFB X.K mg W ta) := pts_one h
/-! ### statements -/
inductive Fl where
  | nx (ρ : Env') | rt (t : T) (ρ : Env') | bk (ρ : Env') | ct (ρ : Env')
noncomputable def PoS (K : PySem.W.Frag) (mg : Str → Option Value) (W : WX) (G : Gh) (D : Ends) : Res Fl → Prop
  | .ok (.nx ρ') => ∀ σ' H', Ok K G σ' H' ρ' → D.nx σ' H'
  | .ok (.rt t ρ') => ∀ v σ' H' Hs fp ft, OkAt K G σ' H' ρ' Hs fp → DenT K Hs H' t v ft → ft.Nodup → (∀ a ∈ ft, Hs a = none ∧ a ∉ fp ∧ G.2 a = none) → D.rt v H'
  | .ok (.bk ρ') => ∀ σ' H', Ok K G σ' H' ρ' → D.bk σ' H'
  | .ok (.ct ρ') => ∀ σ' H', Ok K G σ' H' ρ' → D.ct σ' H'
  | .exc c ρ' => ∀ σ' H' C, mg c = some (.ref C) → Ok K G σ' H' ρ' → W (.ref C) none σ' H'
  | .bad => False
noncomputable def tFS (K : PySem.W.Frag) (mg : Str → Option Value) (W : WX) (f : Env' → Res Fl) : TS := fun D σ H => ∃ G ρ, Ok K G σ H ρ ∧ PoS K mg W G D (f ρ)
noncomputable def sNil : Env' → Res Fl := fun ρ => .ok (.nx ρ)
noncomputable def sSeq (f g : Env' → Res Fl) : Env' → Res Fl := fun ρ => (f ρ).bind fun r => match r with
  | .nx ρ' => g ρ'
  | r => .ok r
theorem fss_nil : PSs X [] (tFS X.K mg W sNil) := pss_nil.imp fun D σ H ⟨G, ρ, ok, po⟩ => po σ H ok
theorem fss_cons {st : Stmt} {rest : List Stmt} {f g : Env' → Res Fl} (h1 : PS X st (tFS X.K mg W f)) (h2 : PSs X rest (tFS X.K mg W g)) : PSs X (st :: rest) (tFS X.K mg W (sSeq f g)) := by
  refine (pss_cons h1 h2).imp fun D σ H ⟨G, ρ, ok, po⟩ => ?_
  obtain ⟨Hs, fp, ok⟩ := ok
  refine ⟨(Hs, rem H fp), ρ, ⟨Hs, fp, ok.self⟩, ?_⟩
  unfold sSeq at po
  cases e : f ρ with
  | ok r =>
    rw [e] at po
    cases r with
    | nx ρ' => exact fun σ' H' o => ⟨G, ρ', Ok.back ok o, po⟩
    | rt t ρ' => exact fun v σ' H' Hs' fp' ft o d n q => po v σ' H' Hs' fp' ft (ok.back o) d n fun a ha => ⟨(q a ha).1, (q a ha).2.1, rem_none ok (q a ha).2.2⟩
    | bk ρ' => exact fun σ' H' o => po σ' H' (Ok.back ok o)
    | ct ρ' => exact fun σ' H' o => po σ' H' (Ok.back ok o)
  | exc c ρ' =>
    rw [e] at po
    exact fun σ' H' C hc o => po σ' H' C hc (Ok.back ok o)
  | bad => rw [e] at po; exact po
theorem fss_one {st : Stmt} {f : Env' → Res Fl} (h1 : PS X st (tFS X.K mg W f)) : PSs X [st] (tFS X.K mg W f) := pss_one h1
noncomputable def sExpr (fa : Env' → Res (RV × Env')) : Env' → Res Fl := fun ρ => (fa ρ).bind fun (_, ρ1) => .ok (.nx ρ1)
theorem fs_expr (he : PE X a (tFO X.K mg W fa)) (hs : swapsWith a none pos.line X.env = pure false := by rfl) : PS X (.Expr a pos) (tFS X.K mg W (sExpr fa)) :=
  (ps_expr he hs).imp fun D σ H ⟨G, ρ, ⟨Hs, fp, ok⟩, po⟩ => goE (P := PoS X.K mg W G D) ok po (fun c ρ' h => h σ) id fun r1 ρ1 x H1 Hs1 fp1 ok1 dx po1 => po1 σ H1 ⟨Hs1, fp1, ok.back ok1⟩
noncomputable def sSet (i : Nat) (na : Env' → Res (T × Env')) : Env' → Res Fl := fun ρ => (na ρ).bind fun (t, ρ1) => if i < ρ1.length then .ok (.nx (ρ1.set i (some t))) else .bad
theorem set_go {i : Nat} {D : Ends} {σ : L2.St} {H : Hp} (h : tFS X.K mg W (sSet i na) D σ H) : tFN X.K mg W na σ H fun x H1 => D.nx (σ.set i (some x)) H1 := by
  obtain ⟨G, ρ, ⟨Hs, fp, ok⟩, po⟩ := h
  refine goN (P := PoS X.K mg W G D) ok po (fun c ρ' h => h σ) id fun t ρ1 x H1 Hs1 fp1 ft ok1 dt nd q po1 => ?_
  simp only at po1
  split at po1
  · rename_i hl
    exact po1 _ _ ((ok.back ok1).put hl dt nd fun a ha => ⟨(q a ha).1, (q a ha).2.1, rem_none ok (q a ha).2.2⟩)
  · exact po1.elim
theorem fs_set {i : Nat} {x : Str} {pos' : Pos} (hN : X.N.Nodup) (hi : X.N[i]? = some x) (hx : Loc X.env.scope x) (he : PE X a (tFN X.K mg W na)) (hs : swapsWith a (some (.Name x pos')) pos.line X.env = pure false := by rfl) (hf : X.fn x = true ∨ X.env.scope.names.lookup x = some .local := by first | exact .inl rfl | exact .inr rfl | assumption) :
    PS X (.Assign [.Name x pos'] a pos) (tFS X.K mg W (sSet i na)) := (ps_set hN hi hx he hs hf).imp fun D σ H h => set_go h
noncomputable def sRet (na : Env' → Res (T × Env')) : Env' → Res Fl := fun ρ => (na ρ).bind fun (t, ρ1) => .ok (.rt t ρ1)
theorem fs_ret (he : PE X a (tFN X.K mg W na)) : PS X (.Return (some a) pos) (tFS X.K mg W (sRet na)) :=
  (ps_ret he).imp fun D σ H ⟨G, ρ, ⟨Hs, fp, ok⟩, po⟩ => goN (P := PoS X.K mg W G D) ok po (fun c ρ' h => h σ) id fun t ρ1 x H1 Hs1 fp1 ft ok1 dt nd q po1 =>
    po1 x σ H1 Hs1 fp1 ft (ok.back ok1) dt nd fun a ha => ⟨(q a ha).1, (q a ha).2.1, rem_none ok (q a ha).2.2⟩
noncomputable def sRetN : Env' → Res Fl := fun ρ => .ok (.rt (.sh .non) ρ)
/-- return x, x a tree of one's own: it goes out as it is -/
noncomputable def sRetOwn (i : Nat) : Env' → Res Fl := fun ρ => match ρ[i]? with
  | some (some t) => .ok (.rt t (ρ.set i none))
  | _ => .bad
noncomputable def sIf (ta : Env' → Res (Bool × Env')) (f g : Env' → Res Fl) : Env' → Res Fl := fun ρ => (ta ρ).bind fun (b, ρ1) => if b = true then f ρ1 else g ρ1
theorem fs_if {sa sb : List Stmt} {f g : Env' → Res Fl} (hc : PT X c (tFB X.K mg W ta)) (ha : PSs X sa (tFS X.K mg W f)) (hb : PSs X sb (tFS X.K mg W g)) : PS X (.If c sa sb pos) (tFS X.K mg W (sIf ta f g)) := by
  refine (ps_if hc ha hb).imp fun D σ H ⟨G, ρ, ⟨Hs, fp, ok⟩, po⟩ => ?_
  refine goT (P := PoS X.K mg W G D) ok po (fun c ρ' h => h σ) id fun b ρ1 H1 Hs1 fp1 ok1 po1 => ?_
  have ok1' := ok.back ok1
  cases b with
  | true => exact iteT ⟨G, ρ1, ⟨Hs1, fp1, ok1'⟩, po1⟩
  | false => exact iteF ⟨G, ρ1, ⟨Hs1, fp1, ok1'⟩, po1⟩
noncomputable def sBk : Env' → Res Fl := fun ρ => .ok (.bk ρ)
noncomputable def sCt : Env' → Res Fl := fun ρ => .ok (.ct ρ)
/-! loops -/
noncomputable def forGo (gt : D → Env' → Option Env') (f : Env' → Res Fl) : List D → Env' → Res Fl
  | [], ρ => .ok (.nx ρ)
  | d :: ds, ρ => (Res.of (gt d ρ)).bind fun ρ1 => (f ρ1).bind fun r => match r with
    | .nx ρ' => forGo gt f ds ρ'
    | .ct ρ' => forGo gt f ds ρ'
    | .bk ρ' => .ok (.nx ρ')
    | .rt t ρ' => .ok (.rt t ρ')
noncomputable def sFor (fi : Env' → Res (List D × Env')) (gt : D → Env' → Option Env') (f : Env' → Res Fl) : Env' → Res Fl := fun ρ => (fi ρ).bind fun (ds, ρ1) => forGo gt f ds ρ1
theorem fs_for {tg iter : Expr} {body : List Stmt} {vs : List Nat} {fi : Env' → Res (List D × Env')} {gt : D → Env' → Option Env'} {f : Env' → Res Fl} (hp : PassesOwn (model X.prog X.w) X.A X.env X.xe) (hc : X.calm = true) (hi : PI X tg iter (tFI X.K mg W fi)) (hg : PG X tg (tFG X.K vs gt)) (hb : PSs X body (tFS X.K mg W f))
    (hs : ∀ x, foldedSetIterable iter X.env x = pure x := by intro _; rfl) : PS X (.For tg iter body [] pos) (tFS X.K mg W (sFor fi gt f)) := by
  refine (ps_for hp hc hi hg hb hs).imp fun D σ H ⟨G, ρ, ⟨Hs, fp, ok⟩, po⟩ => ?_
  refine goI (P := PoS X.K mg W G D) ok po (fun c ρ' h => h σ) id fun ds ρ1 J H1 Hs1 fp1 ok1 it po1 => ?_
  have ok1' := ok.back ok1
  refine ⟨fun i m σ H => ∃ ρi Hsi fpi, i + m = ds.length ∧ OkAt X.K G σ H ρi Hsi fpi ∧ Same Hs1 Hsi ∧ PoS X.K mg W G D (forGo gt f (ds.drop i) ρi), ⟨ds.length, ρ1, Hs1, fp1, by omega, ok1', Same.refl _, po1⟩, ?_⟩
  rintro i m σ5 H5 ⟨ρi, Hsi, fpi, em, oki, sm, pi⟩
  by_cases hi : i < ds.length
  · obtain ⟨go, yl⟩ := (it i Hsi H5 sm oki.sh).1 hi
    refine .inr ⟨go, fun σ' H' => ∃ ρi Hsi fpi, i + 1 + (m - 1) = ds.length ∧ OkAt X.K G σ' H' ρi Hsi fpi ∧ Same Hs1 Hsi ∧ PoS X.K mg W G D (forGo gt f (ds.drop (i + 1)) ρi), fun σ' H' h => ⟨m - 1, by omega, h⟩, fun x H6 hy => ?_⟩
    obtain ⟨Hs6, ex, dd⟩ := yl x H6 hy
    have dx := dd _ (List.getElem?_eq_getElem hi)
    have ok6 := oki.ext ex
    rw [List.drop_eq_getElem_cons hi, forGo] at pi
    cases eg : gt ds[i] ρi with
    | none => rw [eg] at pi; exact pi.elim
    | some ρa =>
      rw [eg] at pi
      simp only [of_some, bind_ok] at pi
      refine ⟨_, ρi, Hs6, fpi, ds[i], ρa, ok6.self, dx, eg, fun σ2 H7 ⟨Hs7, fp7, ok7⟩ _ => ?_⟩
      have b7 := ok6.back ok7
      have sm7 : Same Hs1 Hs7 := (sm.trans ex.s).trans ok7.base
      refine ⟨_, ρa, ⟨Hs7, fp7, b7.self⟩, ?_⟩
      cases e : f ρa with
      | ok r =>
        rw [e] at pi
        cases r with
        | nx ρ' => exact fun σ' H' ⟨Hs8, fp8, o⟩ => ⟨ρ', Hs8, fp8, by omega, b7.back o, sm7.trans o.base, pi⟩
        | rt t ρ' => exact fun v σ' H' Hs' fp' ft o d n q => pi v σ' H' Hs' fp' ft (b7.back o) d n fun a ha => ⟨(q a ha).1, (q a ha).2.1, rem_none b7 (q a ha).2.2⟩
        | bk ρ' => exact fun σ' H' o => pi σ' H' (Ok.back b7 o)
        | ct ρ' => exact fun σ' H' ⟨Hs8, fp8, o⟩ => ⟨ρ', Hs8, fp8, by omega, b7.back o, sm7.trans o.base, pi⟩
      | exc c ρ' =>
        rw [e] at pi
        exact fun σ' H' C hc o => pi σ' H' C hc (Ok.back b7 o)
      | bad => rw [e] at pi; exact pi
  · refine .inl ⟨(it i Hsi H5 sm oki.sh).2 (by omega), ?_⟩
    rw [List.drop_eq_nil_of_le (by omega), forGo] at pi
    exact pi σ5 H5 ⟨Hsi, fpi, oki⟩
/-! unpacking -/
noncomputable def sUnpack (fa : Env' → Res (RV × Env')) (gt : D → Env' → Option Env') : Env' → Res Fl := fun ρ => (fa ρ).bind fun (r, ρ1) => (Res.of (esc ρ1 r)).bind fun (d, ρ2) => (Res.of (gt d ρ2)).bind fun ρ3 => .ok (.nx ρ3)
theorem fs_unpack {tg : Expr} {vs : List Nat} {gt : D → Env' → Option Env'} (he : PE X a (tFO X.K mg W fa)) (hg : PG X tg (tFG X.K vs gt)) (hs : swapsWithSole [tg] a pos.line X.env = pure false := by rfl) (hw : swappedStores [tg] a X.env = pure none := by rfl)
    (h1 : (assignEach [tg] X.env).map (·.2) = [assign tg X.env] := by rfl) : PS X (.Assign [tg] a pos) (tFS X.K mg W (sUnpack fa gt)) := by
  refine (ps_asg he hg hs hw h1).imp fun D σ H ⟨G, ρ, ⟨Hs, fp, ok⟩, po⟩ => ?_
  refine goE (P := PoS X.K mg W G D) ok po (fun c ρ' h => h σ) id fun r1 ρ1 x H1 Hs1 fp1 ok1 dx po1 => ?_
  have ok1' := ok.back ok1
  cases e1 : esc ρ1 r1 with
  | none => simp only [e1] at po1; exact po1.elim
  | some p =>
    obtain ⟨d, ρ2⟩ := p
    simp only [e1, of_some, bind_ok] at po1
    obtain ⟨Hs1', fp1', okE, sE, dE⟩ := esc_den ok1' dx e1
    cases e2 : gt d ρ2 with
    | none => simp only [e2] at po1; exact po1.elim
    | some ρ3 =>
      simp only [e2, of_some, bind_ok] at po1
      exact ⟨G, ρ2, Hs1', fp1', d, ρ3, okE, dE, e2, fun σ' H' o _ => po1 σ' H' o⟩
noncomputable def sPar (i j : Nat) (fs : Env' → Res (List RV × Env')) : Env' → Res Fl := fun ρ => (fs ρ).bind fun (rs, ρ1) => match rs with
  | [.leaf d, .leaf e] => if i < ρ1.length ∧ j < ρ1.length then .ok (.nx ((ρ1.set i (some (.sh d))).set j (some (.sh e)))) else .bad
  | _ => .bad
theorem fs_par {i j : Nat} {x y : Str} {fs : Env' → Res (List RV × Env')} {px py pt : Pos} {kt k2 pt2} (hc : X.calm = true) (hN : X.N.Nodup) (hi : X.N[i]? = some x) (hj : X.N[j]? = some y) (hij : i ≠ j)
    (hx : X.env.scope.names.lookup x = some .local) (hy : X.env.scope.names.lookup y = some .local) (ha : PA X [a, b] (tFA X.K mg W fs))
    (hw : swappedStores [.Tuple [.Name x px, .Name y py] kt pt] (.Tuple [a, b] k2 pt2) X.env = pure (some [x, y]))
    (hs : swapsWithSole [.Tuple [.Name x px, .Name y py] kt pt] (.Tuple [a, b] k2 pt2) pos.line X.env = pure false := by rfl) :
    PS X (.Assign [.Tuple [.Name x px, .Name y py] kt pt] (.Tuple [a, b] k2 pt2) pos) (tFS X.K mg W (sPar i j fs)) := by
  refine (ps_par hc hN hi hj hij hx hy ha hw hs).imp fun D σ H ⟨G, ρ, ⟨Hs, fp, ok⟩, po⟩ => ?_
  refine goA (P := PoS X.K mg W G D) ok po (fun c ρ' h => h σ) id fun rs ρ1 xs H1 Hs1 fp1 ok1 dx po1 => ?_
  have ok1' := ok.back ok1
  simp only at po1
  split at po1
  · split at po1
    · rename_i d e c
      obtain ⟨v, ws, rfl, d1, w, us, rfl, d2, rfl⟩ := dx
      refine ⟨v, w, rfl, ?_⟩
      have k1 := ok1'.put c.1 (t := .sh d) (f := []) ⟨rfl, d1⟩ (by simp) (fun _ h => by cases h)
      -- the second, over the same shared heap
      obtain ⟨f1, f2, f3, e1, env⟩ := ok1'.env.put c.1 (t := .sh d) (f := []) ⟨rfl, d1⟩
      have okm : OkAt X.K G (σ.set i (some v)) H1 (ρ1.set i (some (.sh d))) Hs1 (f1 ++ ([] ++ f3)) := by
        refine ⟨ok1'.sh, ok1'.base, ok1'.frame, fun a p1 p2 => ?_, fun a ha => ok1'.disj a ?_, ?_, env⟩
        · obtain ⟨q1, q2⟩ := ok1'.priv a p1 p2
          rw [e1] at q2
          simp only [List.mem_append, not_or] at q2 ⊢
          exact ⟨q1, q2.1, by simp, q2.2.2⟩
        · rw [e1]
          simp only [List.mem_append] at ha ⊢
          rcases ha with h | h | h
          · exact .inl h
          · cases h
          · exact .inr (.inr h)
        · have nfp := ok1'.nd
          rw [e1, List.nodup_append] at nfp
          obtain ⟨n1, n2, n3⟩ := nfp
          rw [List.nodup_append] at n2
          rw [List.nil_append, List.nodup_append]
          exact ⟨n1, n2.2.1, fun a ha b hb => n3 a ha b (List.mem_append_right _ hb)⟩
      exact po1 _ _ (okm.put (by rw [List.length_set]; exact c.2) (t := .sh e) (f := []) ⟨rfl, d2⟩ (by simp) (fun _ h => by cases h))
    · exact po1.elim
  · exact po1.elim
/-! x op= e -/
noncomputable def IpD (X : Cx) (op : Operator) (g : D → D → Option D) : Prop :=
  PIp X op fun x y H Q => ∃ Hs d1 d2 d, Same Hs H ∧ Den1 X.K Hs H d1 x ∧ Den1 X.K Hs H d2 y ∧ g d1 d2 = some d ∧ ∀ v Hs' H', Ext Hs H Hs' H' → Den X.K Hs' d v → Q v H'
noncomputable def D.iadd : D → D → Option D
  | .int i, .int j => some (.int (i + j))
  | .str x, .str y => if x.length + y.length ≤ sizeLine then some (.str (x ++ y)) else none
  | _, _ => none
theorem id_add : IpD X .Add D.iadd := by
  rintro pins s σ H x y v u Q I rx ry ⟨Hs, d1, d2, d, e, h1, h2, g, q⟩
  unfold D.iadd at g
  split at g
  · cases g
    cases h1; cases h2
    exact ip_add pins s σ H _ _ v u Q I rx ry ⟨_, _, rfl, rfl, q _ _ _ (.refl e) rfl⟩
  · split at g
    · rename_i c
      cases g
      obtain ⟨rfl, k1⟩ := h1
      obtain ⟨rfl, k2⟩ := h2
      exact iop_add_str pins s σ H _ _ v u Q I rx ry ⟨_, _, rfl, rfl, c, q _ _ _ (.refl e) ⟨rfl, sOk_app k1 k2 c⟩⟩
    · cases g
  · cases g
/-- (the value of x ahead of e) -/
noncomputable def sAug (i : Nat) (g : D → D → Option D) (fa : Env' → Res (RV × Env')) : Env' → Res Fl := fun ρ => match ρ[i]? with
  | some (some (.sh d1)) => (fa ρ).bind fun (r, ρ1) => (Res.of (look ρ1 r)).bind fun d2 => (Res.of (g d1 d2)).bind fun d => if i < ρ1.length then .ok (.nx (ρ1.set i (some (.sh d)))) else .bad
  | _ => .bad
/-! lists of one's own, changed -/
theorem OkAt.turn {K G σ H ρ Hs fp i t v f1 f2 f3 t' f' H'} (ok : OkAt K G σ H ρ Hs fp) (hi : ρ[i]? = some (some t)) (h1 : σ[i]? = some (some v)) (hf : fp = f1 ++ (f2 ++ f3))
    (up : ∀ Hs' H', Same Hs Hs' → (∀ a ∈ f1 ++ f3, H' a = H a) → ∀ t' v' f', DenT K Hs' H' t' v' f' → DenE K Hs' H' (ρ.set i (some t')) (σ.set i (some v')) (f1 ++ (f' ++ f3)))
    (h2 : ∀ a, a ∉ f2 → H' a = H a) (d : DenT K Hs H' t' v f') (nd : f'.Nodup) (hn : ∀ a ∈ f', a ∈ f2 ∨ (Hs a = none ∧ a ∉ fp ∧ G.2 a = none)) : OkAt K G σ H' (ρ.set i (some t')) Hs (f1 ++ (f' ++ f3)) := by
  have n0 := ok.nd
  rw [hf, List.nodup_append] at n0
  obtain ⟨n1, n2, n3⟩ := n0
  rw [List.nodup_append] at n2
  have out : ∀ a ∈ f1 ++ f3, a ∉ f2 := fun a ha hb => by
    rcases List.mem_append.mp ha with h | h
    · exact n3 a h a (List.mem_append_left _ hb) rfl
    · exact n2.2.2 a hb a h rfl
  have dj2 : ∀ a ∈ f2, Hs a = none := fun a ha => ok.disj a (by rw [hf]; simp [ha])
  have σe : σ.set i (some v) = σ := by
    apply List.ext_getElem?
    intro j
    by_cases hj : i = j
    · subst hj
      have hl : i < σ.length := by
        rcases Nat.lt_or_ge i σ.length with h | h
        · exact h
        · rw [List.getElem?_eq_none_iff.mpr h] at h1; cases h1
      rw [List.getElem?_set_self hl, h1]
    · rw [List.getElem?_set_ne hj]
  have env := up Hs H' (Same.refl _) (fun a ha => h2 a (out a ha)) t' v f' d
  rw [σe] at env
  have gp : ∀ a, (G.2 a).isSome = true → a ∉ f2 := fun a p1 hb => by
    cases z : G.1 a with
    | none => exact (ok.priv a p1 z).2 (by rw [hf]; simp [hb])
    | some u =>
      have := dj2 a hb
      rw [ok.base a u z] at this
      cases this
  refine ⟨fun a u e => ?_, ok.base, fun a u e => ?_, fun a p1 p2 => ?_, fun a ha => ?_, ?_, env⟩
  · rw [h2 a (fun hb => by rw [dj2 a hb] at e; cases e)]; exact ok.sh a u e
  · rw [h2 a (gp a (by rw [e]; rfl))]; exact ok.frame a u e
  · obtain ⟨q1, q2⟩ := ok.priv a p1 p2
    refine ⟨q1, fun hm => ?_⟩
    rw [hf] at q2
    simp only [List.mem_append, not_or] at q2 hm
    rcases hm with h | h | h
    · exact q2.1 h
    · rcases hn a h with z | z
      · exact q2.2.1 z
      · rw [z.2.2] at p1; cases p1
    · exact q2.2.2 h
  · simp only [List.mem_append] at ha
    rcases ha with h | h | h
    · exact ok.disj a (by rw [hf]; simp [h])
    · rcases hn a h with z | z
      · exact dj2 a z
      · exact z.1
    · exact ok.disj a (by rw [hf]; simp [h])
  · have fr : ∀ a ∈ f', a ∉ f1 ∧ a ∉ f3 := fun a ha => by
      rcases hn a ha with z | z
      · exact ⟨fun h => out a (by simp [h]) z, fun h => out a (by simp [h]) z⟩
      · have := z.2.1
        rw [hf] at this
        simp only [List.mem_append, not_or] at this
        exact ⟨this.1, this.2.2⟩
    rw [List.nodup_append, List.nodup_append]
    refine ⟨n1, ⟨nd, n2.2.1, fun a ha b hb e => (fr a ha).2 (e ▸ hb)⟩, fun a ha b hb e => ?_⟩
    rcases List.mem_append.mp hb with h | h
    · exact (fr b h).1 (e ▸ ha)
    · exact n3 a ha b (List.mem_append_right _ h) e
/-- a list of one's own, and what becomes of it -/
theorem OkAt.own {K G σ H ρ Hs fp i ts} (ok : OkAt K G σ H ρ Hs fp) (hi : ρ[i]? = some (some (.lst ts))) :
    ∃ l vs fr, σ[i]? = some (some (.ref l)) ∧ H l = some (.lst vs) ∧ DenTL K Hs H ts vs fr ∧ (l :: fr).Nodup ∧ (∀ a ∈ l :: fr, a ∈ fp) ∧
      ∀ vs' ts' fr', DenTL K Hs H ts' vs' fr' → fr'.Nodup → (∀ a ∈ fr', a ∈ fr ∨ (Hs a = none ∧ a ∉ fp ∧ G.2 a = none)) → ∃ fp', OkAt K G σ (upd H l (.lst vs')) (ρ.set i (some (.lst ts'))) Hs fp' := by
  obtain ⟨v, f1, f2, f3, h1, h2, h3, h4, _⟩ := ok.env.at hi
  obtain ⟨l, vs, fr, e1, e2, e3, e4⟩ := h3
  subst e1
  subst e2
  have nd := ok.nd
  rw [h2, List.nodup_append] at nd
  obtain ⟨n1, n2, n3⟩ := nd
  rw [List.nodup_append] at n2
  refine ⟨l, vs, fr, h1, e3, e4, n2.1, fun a ha => by rw [h2]; simp only [List.mem_append]; exact .inr (.inl ha), fun vs' ts' fr' d nd' hn => ?_⟩
  have nl : l ∉ fr' := fun hm => by
    rcases hn l hm with z | z
    · exact (List.nodup_cons.mp n2.1).1 z
    · exact z.2.1 (by rw [h2]; simp)
  refine ⟨f1 ++ ((l :: fr') ++ f3), ok.turn (t' := .lst ts') (f' := l :: fr') hi h1 h2 h4 (fun a ha => upd_ne fun e => ha (by simp [e])) ⟨l, vs', fr', rfl, rfl, upd_same, d.mono (Same.refl _) fun a ha => upd_ne fun e => nl (e ▸ ha)⟩ (List.nodup_cons.mpr ⟨nl, nd'⟩) fun a ha => ?_⟩
  rcases List.mem_cons.mp ha with rfl | ha
  · exact .inl (by simp)
  · rcases hn a ha with z | z
    · exact .inl (by simp [z])
    · exact .inr z
theorem own_go {K : PySem.W.Frag} {β : Type} {P : Res β → Prop} {G : Gh} {σ : L2.St} {H : Hp} {ρ : Env'} {Hs : Hp} {fp : List Addr} {i : Nat} {ts0 : List T} {r : V → List V → Hp → VK → Prop} {k : T × Env' → Res β} {Q : VK} (ok : OkAt K G σ H ρ Hs fp) (hi : ρ[i]? = some (some (.lst ts0))) (po : P ((na ρ).bind k))
    (hx : ∀ c ρ', P (.exc c ρ') → ∀ H' C, mg c = some (.ref C) → Ok K G σ H' ρ' → W (.ref C) none σ H') (hb : ¬ P .bad)
    (cont : ∀ v t ρ1 y H1 Hs1 fp1 ft, σ[i]? = some (some v) → OkAt K G σ H1 ρ1 Hs1 fp1 → DenT K Hs1 H1 t y ft → ft.Nodup → (∀ a ∈ ft, Hs1 a = none ∧ a ∉ fp1 ∧ G.2 a = none) → P (k (t, ρ1)) → r v [y] H1 Q) :
    tBM K "list" r (tVar i) (tCons (tFN K mg W na) tNil) σ H Q := by
  obtain ⟨l, vs, fr, h1, h2, _⟩ := ok.own hi
  refine ⟨.ref l, h1, .inl ⟨rfl, vs, SqL.lst h2⟩, goN ok po hx hb fun t ρ1 y H1 Hs1 fp1 ft ok1 dt nd q po1 => ?_⟩
  exact cont _ t ρ1 y H1 Hs1 fp1 ft h1 (ok.back ok1) dt nd (fun a ha => ⟨(q a ha).1, (q a ha).2.1, rem_none ok (q a ha).2.2⟩) po1
/-- x.append(e) -/
noncomputable def sAppend (i : Nat) (na : Env' → Res (T × Env')) : Env' → Res Fl := fun ρ => match ρ[i]? with
  | some (some (.lst _)) => (na ρ).bind fun (t, ρ1) => match ρ1[i]? with
    | some (some (.lst ts)) => if ts.length < sizeLine then .ok (.nx (ρ1.set i (some (.lst (ts ++ [t]))))) else .bad
    | _ => .bad
  | _ => .bad
section
variable {i : Nat} {x name : Str} {p apos cpos : Pos}
theorem fs_append (i : Nat) (ha : PE X a (tFN X.K mg W na)) (hname : name = "append") (hN : X.N[i]? = some x := by rfl) (hv : Vis X.env.scope x := by first | exact Or.inl rfl | exact Or.inr (Or.inl rfl) | exact Or.inr (Or.inr rfl)) (hd : (x == ("__debug__" : Str)) = false := by decide) (hcd : (x == ("__classdict__" : Str)) = false := by decide)
    (hbase : attributeBase (.Name x p) name X.env (eval (.Name x p) X.env) = eval (.Name x p) X.env := by rfl)
    (hfew : ((backTo cpos (starEach [a] X.env)).all (fun x => !x.1) && (backToKw cpos (keywordEach [] X.env)).all (fun x => x.1.isSome)
      && decide ([a].length + ([] : List Keyword).length + (if ([] : List Keyword).isEmpty then 0 else 1) < 30)) = true := by rfl)
    (hline : (apos.endLine == cpos.line) = true := by rfl) (hst : starEach [a] X.env = (false, eval a X.env) :: starEach [] X.env := by rfl) (hplain : (backTo cpos (starEach [] X.env)).any (·.1) = false := by rfl)
    (hs : swapsWith (.Call (.Attribute (.Name x p) name apos) [a] [] cpos) none pos.line X.env = pure false := by rfl) :
    PS X (.Expr (.Call (.Attribute (.Name x p) name apos) [a] [] cpos) pos) (tFS X.K mg W (sAppend i na)) := by
  subst hname
  refine (ps_expr (pe_bm PySem.F.plainAttrs_list PySem.F.slot_list_append PySem.F.type_list_append mt_append (pe_var hN hv hd hcd) (pa_cons ha pa_nil hst) hbase hfew hline hst hplain) hs).imp fun D σ H ⟨G, ρ, ⟨Hs, fp, ok⟩, po⟩ => ?_
  unfold sAppend at po
  split at po
  · rename_i ts0 hi0
    refine own_go (P := PoS X.K mg W G D) ok hi0 po (fun c ρ' h => h σ) id fun v t ρ1 y H1 Hs1 fp1 ft e1 ok1 dt nd q po1 => ?_
    simp only at po1
    split at po1
    · rename_i ts hi
      split at po1
      · rename_i hl
        obtain ⟨l, vs, fr, h1, h2, h3, h4, h5, h6⟩ := ok1.own hi
        rw [e1] at h1
        cases h1
        refine ⟨l, vs, y, rfl, rfl, h2, by rw [h3.length]; exact hl, ?_⟩
        obtain ⟨fp', ok2⟩ := h6 (vs ++ [y]) (ts ++ [t]) (fr ++ ft) (h3.append ⟨y, [], ft, [], rfl, by simp, dt, rfl, rfl⟩) (by
          rw [List.nodup_append]
          exact ⟨(List.nodup_cons.mp h4).2, nd, fun a ha b hb e => (q b hb).2.1 (e ▸ h5 a (by simp [ha]))⟩) fun a ha => (List.mem_append.mp ha).elim .inl fun h => .inr (q a h)
        exact po1 _ _ ⟨Hs1, fp', ok2⟩
      · exact po1.elim
    · exact po1.elim
  · exact po.elim
/-- x.extend(e), e a list -/
noncomputable def sExtend (i : Nat) (fa : Env' → Res (RV × Env')) : Env' → Res Fl := fun ρ => match ρ[i]? with
  | some (some (.lst _)) => (fa ρ).bind fun (r, ρ1) => match look ρ1 r with
    | some (.lst ds) => match ρ1[i]? with
      | some (some (.lst ts)) => if ts.length + ds.length ≤ sizeLine then .ok (.nx (ρ1.set i (some (.lst (ts ++ ds.map T.sh))))) else .bad
      | _ => .bad
    | _ => .bad
  | _ => .bad
/-- x.pop() -/
noncomputable def ePop (i : Nat) : Env' → Res (RV × Env') := fun ρ => match ρ[i]? with
  | some (some (.lst ts)) => match ts[ts.length - 1]? with
    | some (.sh d) => .ok (.leaf d, ρ.set i (some (.lst ts.dropLast)))
    | _ => .bad
  | _ => .bad
/-- x[e1] = e2 -/
noncomputable def sSetIx (i : Nat) (na : Env' → Res (T × Env')) (fb : Env' → Res (RV × Env')) : Env' → Res Fl := fun ρ => (na ρ).bind fun (t, ρ1) => match t, ρ1[i]? with
  | .sh d, some (some _) => (fb ρ1).bind fun (r, ρ2) => match look ρ2 r, ρ2[i]? with
    | some (.int k), some (some (.lst ts)) => match ixN ts.length k with
      | some j => match ts[j]? with
        | some (.sh _) => .ok (.nx (ρ2.set i (some (.lst (ts.set j (.sh d))))))
        | _ => .bad
      | none => .bad
    | _, _ => .bad
  | _, _ => .bad
theorem DenTL.setSh {K Hs H} {d : D} {v : V} (hd : Den K Hs d v) : ∀ {ts : List T} {vs : List V} {f : List Addr} {j : Nat} {e : D}, DenTL K Hs H ts vs f → ts[j]? = some (.sh e) → DenTL K Hs H (ts.set j (.sh d)) (vs.set j v) f
  | _ :: ts, _, _, 0, _, ⟨w, r, f1, f2, e1, e2, e3, e4⟩, h => by
    cases (Option.some.inj h)
    obtain ⟨rfl, _⟩ := e3
    subst e1; subst e2
    exact ⟨v, r, [], _, rfl, rfl, ⟨rfl, hd⟩, e4⟩
  | _ :: ts, _, _, j + 1, _, ⟨w, r, f1, f2, e1, e2, e3, e4⟩, h => by
    subst e1; subst e2
    exact ⟨w, _, f1, f2, rfl, rfl, e3, DenTL.setSh hd e4 (by simpa using h)⟩
theorem fs_setIx (i : Nat) {p tpos : Pos} (ha : PE X a (tFN X.K mg W na)) (hb : PE X b (tFO X.K mg W fb)) (hN : X.N[i]? = some x := by rfl) (hv : Vis X.env.scope x := by first | exact Or.inl rfl | exact Or.inr (Or.inl rfl) | exact Or.inr (Or.inr rfl)) (hd : (x == ("__debug__" : Str)) = false := by decide) (hcd : (x == ("__classdict__" : Str)) = false := by decide)
    (hs : swapsWithSole [.Subscript (.Name x p) b tpos] a pos.line X.env = pure false := by rfl) (hw : swappedStores [.Subscript (.Name x p) b tpos] a X.env = pure none := by rfl)
    (h1 : (assignEach [.Subscript (.Name x p) b tpos] X.env).map (·.2) = [assign (.Subscript (.Name x p) b tpos) X.env] := by rfl)
    (hg : ∀ v, assign (.Subscript (.Name x p) b tpos) X.env v = (do
      let ov ← holding [v] (eval (.Name x p) X.env)
      let iv ← holding [v, ov] (eval b X.env)
      standAt tpos
      holding [v, ov, iv] (setItem ov iv v)
      release [v, ov, iv] []) := by intro _; rfl) :
    PS X (.Assign [.Subscript (.Name x p) b tpos] a pos) (tFS X.K mg W (sSetIx i na fb)) := by
  refine (ps_asg ha (pg_sub (pe_var hN hv hd hcd) hb set_list hg) hs hw h1).imp fun D σ H ⟨G, ρ, ⟨Hs, fp, ok⟩, po⟩ => ?_
  refine goN (P := PoS X.K mg W G D) ok po (fun c ρ' h => h σ) id fun t ρ1 y H1 Hs1 fp1 ft ok1 dt nd q po1 => ?_
  have ok1' := ok.back ok1
  simp only at po1
  split at po1
  · rename_i d t0 hi0
    obtain ⟨v, _, _, _, hv, _⟩ := ok1'.env.at hi0
    refine ⟨v, hv, goE (P := PoS X.K mg W G D) ok1' po1 (fun c ρ' h => h σ) id fun r2 ρ2 w H2 Hs2 fp2 ok2 dw po2 => ?_⟩
    have ok2' := ok1'.back ok2
    simp only at po2
    split at po2
    · rename_i k ts e1 hi
      cases (show w = .int k from look_den ok2' dw e1)
      split at po2
      · rename_i j hj
        split at po2
        · rename_i e0 ht
          obtain ⟨l, vs, fr, h1, h2, h3, h4, h5, h6⟩ := ok2'.own hi
          rw [hv] at h1
          cases h1
          refine ⟨l, vs, k, j, rfl, rfl, h2, by rw [h3.length]; exact hj, ?_⟩
          obtain ⟨fp', ok3⟩ := h6 (vs.set j y) (ts.set j (.sh d)) fr (DenTL.setSh (dt.2.mono ok2.base) h3 ht) (List.nodup_cons.mp h4).2 fun a ha => .inl ha
          exact po2 _ _ ⟨Hs2, fp', ok3⟩
        · exact po2.elim
      · exact po2.elim
    · exact po2.elim
  · exact po1.elim
/-- x[e1] op= e2 -/
theorem pget_list : PGet X (fun o i H Q => ∃ p xs k v, o = .ref p ∧ i = .int k ∧ H p = some (.lst xs) ∧ atI xs k = some v ∧ Q v H) := by
  rintro pins s σ H o i ov iv Q I ro ri ⟨p, xs, k, v, rfl, rfl, hp, hk, q⟩
  cases ro
  obtain ⟨t, rfl⟩ := ri
  obtain ⟨its, r, pl, hz⟩ := I.list (SqL.lst hp)
  obtain ⟨j, h1, h2, h3, h4, h5⟩ := atI_get hk
  obtain ⟨w, ew, rw'⟩ := r.get h2
  have hl := r.length
  have hn := line63
  have fin : EP X pins σ Q w s := ⟨v, H, I, rw', q⟩
  by_cases h0 : 0 ≤ k
  · have hj : k.toNat = j := by
      rw [seqIndex_of h0 h5] at h1
      exact Option.some.inj h1
    exact wpAny_getItem_list pl.isList h0 (by omega) (by rw [hj]; simpa using ew) fin
  · have hj : (k + (its.toArray.size : Int)).toNat = j := by
      rw [seqIndex_neg (by omega) h4] at h1
      rw [List.size_toArray, ← hl]
      exact Option.some.inj h1
    exact wpAny_getItem_list_neg pl.isList (by omega) (by rw [List.size_toArray] <;> omega) (by omega) (by rw [hj]; simpa using ew) fin
noncomputable def sAugIx (i : Nat) (g : D → D → Option D) (fb fa : Env' → Res (RV × Env')) : Env' → Res Fl := fun ρ => match ρ[i]? with
  | some (some _) => (fb ρ).bind fun (r, ρ1) => match look ρ1 r, ρ1[i]? with
    | some (.int k), some (some (.lst ts)) => match (ixN ts.length k).bind fun j => ts[j]? with
      | some (.sh d1) => (fa ρ1).bind fun (r2, ρ2) => (Res.of (look ρ2 r2)).bind fun d2 => (Res.of (g d1 d2)).bind fun d => match ρ2[i]? with
        | some (some (.lst ts2)) => match ixN ts2.length k with
          | some j => match ts2[j]? with
            | some (.sh _) => .ok (.nx (ρ2.set i (some (.lst (ts2.set j (.sh d))))))
            | _ => .bad
          | none => .bad
        | _ => .bad
      | _ => .bad
    | _, _ => .bad
  | _ => .bad
theorem DenTL.getSh {K Hs H} : ∀ {ts : List T} {vs : List V} {f : List Addr} {j : Nat} {e : D}, DenTL K Hs H ts vs f → ts[j]? = some (.sh e) → ∃ v, vs[j]? = some v ∧ Den K Hs e v
  | _ :: ts, _, _, 0, _, ⟨w, r, f1, f2, e1, e2, e3, e4⟩, h => by
    cases (Option.some.inj h)
    exact ⟨w, by rw [e1]; rfl, e3.2⟩
  | _ :: ts, _, _, j + 1, _, ⟨w, r, f1, f2, e1, e2, e3, e4⟩, h => by
    obtain ⟨v, h1, h2⟩ := DenTL.getSh e4 (by simpa using h)
    exact ⟨v, by rw [e1]; simpa using h1, h2⟩
theorem fs_augIx (i : Nat) {op : Operator} {g : D → D → Option D} {p tpos : Pos} (ho : IpD X op g) (hb : PE X b (tFO X.K mg W fb)) (ha : PE X a (tFO X.K mg W fa)) (hN : X.N[i]? = some x := by rfl) (hv : Vis X.env.scope x := by first | exact Or.inl rfl | exact Or.inr (Or.inl rfl) | exact Or.inr (Or.inr rfl)) (hd : (x == ("__debug__" : Str)) = false := by decide) (hcd : (x == ("__classdict__" : Str)) = false := by decide)
    (hg : ∀ ov iv new, augStore b ov iv new = (do holding [new, ov, iv] (setItem ov iv new); release [new, ov, iv] []; pure .next) := by intros; rfl) :
    PS X (.AugAssign (.Subscript (.Name x p) b tpos) op a pos) (tFS X.K mg W (sAugIx i g fb fa)) := by
  refine (ps_augS (pe_var hN hv hd hcd) hb pget_list ha ho set_list hg).imp fun D σ H ⟨G, ρ, ⟨Hs, fp, ok⟩, po⟩ => ?_
  unfold sAugIx at po
  split at po
  · rename_i t0 hi0
    obtain ⟨v, _, _, _, hv, _⟩ := ok.env.at hi0
    refine ⟨v, hv, goE (P := PoS X.K mg W G D) ok po (fun c ρ' h => h σ) id fun r1 ρ1 w H1 Hs1 fp1 ok1 dw po1 => ?_⟩
    have ok1' := ok.back ok1
    simp only at po1
    split at po1
    · rename_i k ts e1 hi
      cases (show w = .int k from look_den ok1' dw e1)
      split at po1
      · rename_i d1 hj
        simp only [Option.bind_eq_some_iff] at hj
        obtain ⟨j, hj1, hj2⟩ := hj
        obtain ⟨l, vs, fr, h1, h2, h3, _⟩ := ok1'.own hi
        rw [hv] at h1
        cases h1
        obtain ⟨w1, hw1, dw1⟩ := h3.getSh hj2
        refine ⟨l, vs, k, w1, rfl, rfl, h2, by unfold L2.atI; rw [h3.length, hj1]; exact hw1, ?_⟩
        refine goE (P := PoS X.K mg W G D) ok1' po1 (fun c ρ' h => h σ) id fun r2 ρ2 u H2 Hs2 fp2 ok2 du po2 => ?_
        have ok2' := ok1'.back ok2
        cases e2 : look ρ2 r2 with
        | none => simp only [e2] at po2; exact po2.elim
        | some d2 =>
          cases e3 : g d1 d2 with
          | none => simp only [e2, e3, of_some, bind_ok] at po2; exact po2.elim
          | some d =>
            simp only [e2, e3, of_some, bind_ok] at po2
            refine ⟨Hs2, d1, d2, d, ok2'.sh, Den.one ok2'.sh (dw1.mono ok2.base), look_den ok2' du e2, e3, fun z Hs3 H3 ex dz => ?_⟩
            split at po2
            · rename_i ts2 hi2
              split at po2
              · rename_i j2 hj3
                split at po2
                · rename_i e0 ht
                  obtain ⟨l2, vs2, fr2, g1, g2, g3, g4, g5, g6⟩ := (ok2'.ext ex).own hi2
                  rw [hv] at g1
                  cases g1
                  refine ⟨l, vs2, k, j2, rfl, rfl, g2, by rw [g3.length]; exact hj3, ?_⟩
                  obtain ⟨fp', ok3⟩ := g6 (vs2.set j2 z) (ts2.set j2 (.sh d)) fr2 (DenTL.setSh dz g3 ht) (List.nodup_cons.mp g4).2 fun a ha => .inl ha
                  exact po2 _ _ ⟨Hs3, fp', ok3⟩
                · exact po2.elim
              · exact po2.elim
            · exact po2.elim
      · exact po1.elim
    · exact po1.elim
  · exact po.elim
end
/-! exceptions -/
theorem pmk_own0 {x : Str} {C : Addr} {bmB : List Value} {B newId initId : String} {p pos : Pos} (F : ExcBaseFacts B newId initId bmB) (q : PySem.W.excIn X.K C bmB newId = true) (gC : X.mg x = some (.ref C)) (kC : PySem.W.keepIn X.K (.ref C) = true) (r : Raises X (.ref C)) (hg : Gl X x)
    (hdb : (x == ("__debug__" : Str)) = false := by decide) : PMk X (.Call (.Name x p) [] [] pos) (fun _ H Q => Q (.ref C) none H) := by
  intro pins s σ H Q I h
  refine wpAny_Call_Name_kw (ld_glob I hg gC ?_ hdb)
  refine PySem.W.callWith_K0 I.kIn kC ?_
  show wpAny _ _ (call (.ref C) []) _ _ _
  obtain ⟨bm, N, nm, qn, bs, hdct, sn, sub, ab, col, dd, k0, k1, k2, k3, k5, mN, hC, hN, hni, T⟩ := exc_obj I.kIn q
  refine wpAny_call_exc_subT F T hC hN hni (fun h' e hm => ?_) (Nat.zero_le _)
  exact mk_of I hm r h (I.hok.gone hm.new)
/-- what is known of an own exception class without fields -/
structure ExT (K : PySem.W.Frag) (mg : Str → Option Value) (x : Str) (C : Addr) : Prop where
  gC : mg x = some (.ref C)
  q : PySem.W.excIn K C [.type "ValueError", .type "Exception", .type "BaseException", .type "object"] "ValueError.__new__" = true
  kC : PySem.W.keepIn K (.ref C) = true
  b : PySem.W.subIn K (.ref C) (.type "BaseException") = some true
  t : PySem.W.typeIn K (.ref C) = some (.type "type")
noncomputable def sRaise (x : Str) : Env' → Res Fl := fun ρ => .exc x ρ
theorem fs_raise {x : Str} {C : Addr} {p pos2 : Pos} (hc : X.calm = true) (tk : Takes X W) (E : ExT X.K X.mg x C) (hm : X.mg = mg) (hg : Gl X x) (hdb : (x == ("__debug__" : Str)) = false := by decide) : PS X (.Raise (some (.Call (.Name x p) [] [] pos2)) none pos) (tFS X.K mg W (sRaise x)) := by
  subst hm
  exact (ps_raise hc tk (pmk_own0 PySem.F.excBase_ValueError E.q E.gC E.kC (raises_own E.b E.t) hg hdb)).imp fun D σ H ⟨G, ρ, ok, po⟩ => po σ H C E.gC ok
/-! calls of one's own defs -/
inductive Out (α : Type) where
  | ok (a : α) | exc (c : Str) | bad
/-- a def's promise: shared arguments, a shared answer -/
noncomputable def spP (K : PySem.W.Frag) (mg : Str → Option Value) (np : Nat) (m : List D → Out D) : Sp := fun vs H Q E => vs.length = np ∧ ∃ Hs ds, Same Hs H ∧ DenL K Hs ds vs ∧ match m ds with
  | .ok d => ∀ v Hs' H', Ext Hs H Hs' H' → Den K Hs' d v → Q v H'
  | .exc c => ∀ C Hs' H', mg c = some (.ref C) → Ext Hs H Hs' H' → E (.ref C) none H'
  | .bad => False
/-- shared values of all arguments -/
noncomputable def leafs := eTup.leafs
noncomputable def eCall (m : List D → Out D) (fs : Env' → Res (List RV × Env')) : Env' → Res (RV × Env') := fun ρ => (fs ρ).bind fun (rs, ρ1) => (Res.of (leafs rs)).bind fun ds => match m ds with
  | .ok d => .ok (.leaf d, ρ1)
  | .exc c => .exc c ρ1
  | .bad => .bad
noncomputable def nCall (m : List D → Out T) (fs : Env' → Res (List RV × Env')) : Env' → Res (T × Env') := fun ρ => (fs ρ).bind fun (rs, ρ1) => (Res.of (leafs rs)).bind fun ds => match m ds with
  | .ok t => .ok (t, ρ1)
  | .exc c => .exc c ρ1
  | .bad => .bad
section
variable {k np : Nat} {f : Addr} {fd : FuncData} {ps : List Str} {x : Str} {p : Pos} {e : Expr} {es : List Expr} {fs : Env' → Res (List RV × Env')}
theorem fo_call {m : List D → Out D} (F : FnOk X.prog X.w X.K X.mg X.base (L2.CX X.prog X.w) k f fd ps (spP X.K mg np m)) (hr : Room k X.A) (hg : Gl X x) (hm : X.mg x = some (.ref f)) (hk : PySem.W.keepIn X.K (.ref f) = true) (hb : Binds X.K fd ps []) (tk : Takes X W)
    (hl : (e :: es).length = np) (ha : PA X (e :: es) (tFA X.K mg W fs)) (hlen : ∀ ρ rs ρ', fs ρ = .ok (rs, ρ') → rs.length = np) (hdb : (x == ("__debug__" : Str)) = false := by decide) (he : starEach (e :: es) X.env = (false, eval e X.env) :: starEach es X.env := by rfl) (hpl : (backTo pos (starEach es X.env)).any (·.1) = false := by rfl) :
    PE X (.Call (.Name x p) (e :: es) [] pos) (tFO X.K mg W (eCall m fs)) := by
  refine (pe_callS F hr hg hm hk hb (fun σ => passAt tk σ) ha hdb he hpl).imp fun σ H Q ⟨G, ρ, ⟨Hs, fp, ok⟩, po⟩ => ?_
  refine ⟨_, ρ, ⟨Hs, fp, ok.self⟩, ?_⟩
  unfold eCall at po
  cases e0 : fs ρ with
  | bad => rw [e0] at po; exact po
  | exc c ρ' => rw [e0] at po; exact fun H' C hc o => po H' C hc (Ok.back ok o)
  | ok q =>
    obtain ⟨rs, ρ1⟩ := q
    rw [e0] at po
    intro xs H1 Hs1 fp1 ok1 dx
    have ok1' := ok.back ok1
    cases e1 : eTup.leafs rs with
    | none => simp only [leafs, bind_ok, e1] at po; exact po.elim
    | some ds =>
      simp only [leafs, e1, of_some, bind_ok] at po
      have dl := leafs_den dx e1
      have ll : ∀ {rs : List RV} {ds : List D}, eTup.leafs rs = some ds → ds.length = rs.length := by
        intro rs
        induction rs with
        | nil => intro ds h; cases h; rfl
        | cons r rs ih =>
          intro ds h
          cases r with
          | slot i => cases h
          | leaf d =>
            simp only [eTup.leafs, Option.map_eq_some_iff] at h
            obtain ⟨es, h1, rfl⟩ := h
            simp [ih h1]
      refine ⟨by rw [dl.length, ll e1, hlen _ _ _ e0], Hs1, ds, ok1'.sh, dl, ?_⟩
      cases e2 : m ds with
      | ok d =>
        rw [e2] at po
        exact fun v Hs' H' ex dv => po v H' Hs' fp1 (ok1'.ext ex) dv
      | exc c =>
        rw [e2] at po
        exact fun C Hs' H' hc ex => po H' C hc ⟨Hs', fp1, ok1'.ext ex⟩
      | bad => rw [e2] at po; exact po
end
/-! a def by its body -/
noncomputable def startE (nN : Nat) (ds : List D) : Env' := ds.map (fun d => some (.sh d)) ++ List.replicate (nN - ds.length) none
noncomputable def mirP (np nN : Nat) (body : Env' → Res Fl) (ds : List D) : Out D := if ds.length = np then match body (startE nN ds) with
  | .ok (.nx _) => .ok .non
  | .ok (.rt (.sh d) _) => .ok d
  | .exc c _ => .exc c
  | _ => .bad
  else .bad
theorem start_ok {K Hs H} {N : List Str} : ∀ {ds : List D} {vs : List V}, DenL K Hs ds vs → ∀ (n : Nat), DenE K Hs H (ds.map (fun d => some (.sh d)) ++ List.replicate n none) (vs.map some ++ List.replicate n none) []
  | [], _, h, n => by
    cases h
    show DenE K Hs H (List.replicate n none) (List.replicate n none) []
    induction n with
    | zero => exact ⟨rfl, rfl⟩
    | succ n ih => exact ⟨none, _, rfl, ih⟩
  | d :: ds, _, ⟨v, r, e1, e2, e3⟩, n => by
    subst e1
    exact ⟨v, _, [], [], rfl, rfl, ⟨rfl, e2⟩, start_ok (N := N) e3 n⟩
section
variable {P : Program} {w : World} {K : PySem.W.Frag} {base : Heap}
theorem def_ok {x qual : Str} {st : Stmt} {f : Addr} {fd : FuncData} {N ps : List Str} {k : Nat} {b : Env' → Res Fl} (F : Fun K x qual st f fd) (S : FnScope N ps (defScope st)) (hN : ps.length ≤ N.length)
    (hb : ∀ (cdv : Value) (A : Around) (outer : List Env) (s : Shared) (H : Hp) (E : XK), Room k (A.deeper (envOfC qual (defScope st) s.heap.objs.size f cdv)) →
      Takes (cxOf (L2.CX P w) P w K mg base N qual (defScope st) f cdv A outer s H E) (fun cls d _ H => E cls d H) → PSs (cxOf (L2.CX P w) P w K mg base N qual (defScope st) f cdv A outer s H E) (defBody st) (tFS K mg (fun cls d _ H => E cls d H) b)) :
    FnOk P w K mg base (L2.CX P w) (k + 1) f fd ps (spP K mg ps.length (mirP ps.length N.length b)) := by
  refine F.okX S (fun vs H Q E h => h.1) fun cdv A outer s H vs Q E hr h => ⟨_, hb cdv A outer s H E hr (takes_of rfl rfl rfl rfl), ?_⟩
  obtain ⟨hl, Hs, ds, e, dl, po⟩ := h
  have l := dl.length
  refine ⟨(Hs, H), startE N.length ds, ⟨Hs, [], ⟨e, Same.refl _, Same.refl _, fun a _ h => ⟨h, by simp⟩, fun a ha => (by cases ha), by simp, ?_⟩⟩, ?_⟩
  · unfold startE L2.start
    rw [← l]
    exact start_ok (N := N) dl _
  · unfold mirP at po
    rw [if_pos (by omega)] at po
    have ext : ∀ {σ' H' ρ' Hs' fp'}, OkAt K (Hs, H) σ' H' ρ' Hs' fp' → Ext Hs H Hs' H' := fun ok => ⟨ok.base, ok.sh, ok.frame, fun a p1 p2 => (ok.priv a p1 p2).1⟩
    cases e0 : b (startE N.length ds) with
    | bad => rw [e0] at po; exact po
    | exc c ρ' => rw [e0] at po; exact fun σ' H' C hc ⟨Hs', fp', ok⟩ => po C Hs' H' hc (ext ok)
    | ok r =>
      rw [e0] at po
      cases r with
      | nx ρ' => exact fun σ' H' ⟨Hs', fp', ok⟩ => po _ Hs' H' (ext ok) rfl
      | rt t ρ' =>
        cases t with
        | sh d => exact fun v σ' H' Hs' fp' ft ok dt _ _ => po v Hs' H' (ext ok) dt.2
        | _ => exact po.elim
      | bk ρ' => exact po.elim
      | ct ρ' => exact po.elim
end
end
end FL
namespace FL
open PySem PySem.Spec PyProof.Rows L2
section
variable {X : Cx} {mg : Str → Option Value} {W : WX} {a b c : Expr} {fa fb fc : Env' → Res (RV × Env')} {na nb : Env' → Res (T × Env')} {ta : Env' → Res (Bool × Env')} {pos p : Pos}
/-! ### isinstance -/
noncomputable def D.tyN : D → Option String
  | .non => some "NoneType"
  | .bl _ => some "bool"
  | .int _ => some "int"
  | .str _ => some "str"
  | .lst _ => some "list"
  | .fz _ => some "list"
  | .tup _ => some "tuple"
  | .ftup _ => some "tuple"
  | .dic _ _ => some "dict"
  | .dit _ _ => some "dict"
  | .ty _ => none
noncomputable def isT : String → String → Bool
  | "bool", "int" => true
  | a, b => a == b
noncomputable def D.isinst : List D → Option D
  | [d, .ty n] => if n = "int" ∨ n = "bool" ∨ n = "str" ∨ n = "tuple" ∨ n = "list" ∨ n = "dict" then d.tyN.map fun m => .bl (isT m n) else none
  | _ => none
theorem tyX_den {K Hs H d v m} (e : Same Hs H) (h : Den1 K Hs H d v) (q : d.tyN = some m) : TyX K H v (.type m) := by
  cases d with
  | non => cases h; cases q; exact .base .non
  | bl b => cases h; cases q; exact .base (.bl _)
  | int b => cases h; cases q; exact .base (.int _)
  | ty b => cases q
  | str b => obtain ⟨rfl, _⟩ := h; cases q; exact .base (.str _)
  | tup b =>
    obtain ⟨a, vs, rfl, h1, h2⟩ := h
    cases q
    exact .base (.tup (e _ _ h1))
  | ftup b =>
    obtain ⟨a, vs, rfl, h1, h2⟩ := h
    cases q
    rcases e.seqT h1 with (h | ⟨o, h⟩) | ⟨o, its, n, h1, h2, _⟩
    · exact .base (.tup h)
    · exact .fTuple h
    · exact .kTuple h1 h2
  | lst b => obtain ⟨a, vs, rfl, h1, h2⟩ := h; cases q; exact .base (.lst h1)
  | fz b =>
    obtain ⟨a, vs, rfl, h1, h2⟩ := h
    cases q
    rcases e.seq h1 with (h | ⟨o, h⟩) | ⟨o, its, n, h1, h2, _⟩
    · exact .base (.lst h)
    · exact .base (.frz h)
    · exact .kList h1 h2
  | dic ks b => obtain ⟨a, kv, rfl, h1, h2, h3⟩ := h; cases q; exact .base (.dK h1)
  | dit ks b => obtain ⟨a, kv, rfl, h1, h2, h3⟩ := h; cases q; exact .base (.dT h1)
theorem kit_isT {m n : String} (hm : m = "NoneType" ∨ m = "bool" ∨ m = "int" ∨ m = "str" ∨ m = "list" ∨ m = "tuple" ∨ m = "dict") (hn : n = "int" ∨ n = "bool" ∨ n = "str" ∨ n = "tuple" ∨ n = "list" ∨ n = "dict") : kitB m n = some (isT m n) := by
  rcases hm with rfl | rfl | rfl | rfl | rfl | rfl | rfl <;> rcases hn with rfl | rfl | rfl | rfl | rfl | rfl <;> decide +kernel
theorem cd_isinst : CallD X (.builtin "isinstance") D.isinst := by
  rintro pins s σ H xs us Q I r ⟨Hs, ds, d, e, h1, h2, q⟩
  unfold D.isinst at h2
  split at h2
  · split at h2
    · rename_i d0 n hn
      simp only [Option.map_eq_some_iff] at h2
      obtain ⟨m, h3, rfl⟩ := h2
      obtain ⟨v, w, rfl, k1, k2⟩ := h1.d2
      cases (show w = .ty n from k2)
      refine call_isi pins s σ H _ us Q I r ⟨v, .ty n, .type m, .type n, isT m n, rfl, .ty n, tyX_den e k1 h3, kit_ty (kit_isT ?_ hn), q _ _ _ (.refl e) rfl⟩
      cases d0 <;> cases h3 <;> simp
    · cases h2
  · cases h2
/-- a built-in class as a value -/
theorem fo_ty {x : Str} {n : String} (hg : Gl X x) (hm : X.mg x = none) (hv : bootBuiltins x = some (.type n)) (hn : x ≠ "__name__" := by decide) (hdb : (x == ("__debug__" : Str)) = false := by decide) : PE X (.Name x pos) (tFO X.K mg W (eC (.ty n))) :=
  fo_c (pe_bltn hg hm hv (v := .ty n) rfl hn hdb) fun _ => rfl
/-! ### methods of built-in types -/
noncomputable def MtD (X : Cx) (id : String) (g : D → List D → Option D) : Prop :=
  MtR X id fun x xs H Q => ∃ Hs d ds e, Same Hs H ∧ Den1 X.K Hs H d x ∧ Den1L X.K Hs H ds xs ∧ g d ds = some e ∧ ∀ v Hs' H', Ext Hs H Hs' H' → Den X.K Hs' e v → Q v H'
noncomputable def D.isTy : String → D → Bool
  | "str", .str _ => true
  | "list", .lst _ => true
  | "list", .fz _ => true
  | _, _ => false
theorem tyV_den {K Hs H T d v} (e : Same Hs H) (h : Den1 K Hs H d v) (q : D.isTy T d = true) : tyV K T v H := by
  unfold D.isTy at q
  split at q
  · obtain ⟨rfl, _⟩ := h; rfl
  · obtain ⟨a, vs, rfl, h1, h2⟩ := h; exact .inl ⟨rfl, vs, SqL.lst h1⟩
  · obtain ⟨a, vs, rfl, h1, h2⟩ := h; exact .inl ⟨rfl, vs, e.seq h1⟩
  · cases q
noncomputable def eM (T : String) (g : D → List D → Option D) (fa : Env' → Res (RV × Env')) (fs : Env' → Res (List RV × Env')) : Env' → Res (RV × Env') := fun ρ =>
  (fa ρ).bind fun (r, ρ1) => (Res.of (look ρ1 r)).bind fun d0 => if D.isTy T d0 = true then (fs ρ1).bind fun (rs, ρ2) => (Res.of (look ρ2 r)).bind fun d => (Res.of (looks ρ2 rs)).bind fun ds => (Res.of (g d ds)).bind fun e => .ok (.leaf e, ρ2) else .bad
section
variable {T id : String} {name : Str} {apos cpos : Pos} {o e : Expr} {es : List Expr} {g : D → List D → Option D} {fs : Env' → Res (List RV × Env')}
theorem fo_m (pa : PlainAttrs T) (slot : Slot T name id) (hty : typeOf (.builtin id) = pure (.type "method_descriptor")) (hm : MtD X id g) (ho : PE X o (tFO X.K mg W fa)) (ha : PA X (e :: es) (tFA X.K mg W fs))
    (hbase : attributeBase o name X.env (eval o X.env) = eval o X.env := by rfl)
    (hfew : ((backTo cpos (starEach (e :: es) X.env)).all (fun x => !x.1) && (backToKw cpos (keywordEach [] X.env)).all (fun x => x.1.isSome)
      && decide ((e :: es).length + ([] : List Keyword).length + (if ([] : List Keyword).isEmpty then 0 else 1) < 30)) = true := by rfl)
    (hline : (apos.endLine == cpos.line) = true := by rfl) (hs : starEach (e :: es) X.env = (false, eval e X.env) :: starEach es X.env := by rfl) (hplain : (backTo cpos (starEach es X.env)).any (·.1) = false := by rfl) :
    PE X (.Call (.Attribute o name apos) (e :: es) [] cpos) (tFO X.K mg W (eM T g fa fs)) := by
  refine (pe_bm pa slot hty hm ho ha hbase hfew hline hs hplain).imp fun σ H Q ⟨G, ρ, ⟨Hs, fp, ok⟩, po⟩ => ?_
  refine goE ok po (fun _ _ h => h) (fun h => h) fun r1 ρ1 x H1 Hs1 fp1 ok1 dx po1 => ?_
  have ok1' := ok.back ok1
  cases e0 : look ρ1 r1 with
  | none => simp only [e0] at po1; exact po1.elim
  | some d0 =>
    simp only [e0, of_some, bind_ok] at po1
    split at po1
    · rename_i ht
      refine ⟨tyV_den ok1'.sh (look_den ok1' dx e0) ht, goA ok1' po1 (fun _ _ h => h) (fun h => h) fun rs ρ2 ys H2 Hs2 fp2 ok2 dy po2 => ?_⟩
      have ok2' := ok1'.back ok2
      have dx' : RVd X.K Hs2 σ r1 x := dx.mono ok2.base
      cases e1 : look ρ2 r1 with
      | none => simp only [e1] at po2; exact po2.elim
      | some d =>
        cases e2 : looks ρ2 rs with
        | none => simp only [e1, e2] at po2; exact po2.elim
        | some ds =>
          cases e3 : g d ds with
          | none => simp only [e1, e2, e3, of_some, bind_ok] at po2; exact po2.elim
          | some z =>
            simp only [e1, e2, e3, of_some, bind_ok] at po2
            exact ⟨Hs2, d, ds, z, ok2'.sh, look_den ok2' dx' e1, looks_den ok2' dy e2, e3, fun v Hs' H' ex dv => po2 v H' Hs' fp2 (ok2'.ext ex) dv⟩
    · exact po1.elim
end
noncomputable def D.sindex : D → List D → Option D
  | .str x, [.str y] => match Builtin.Str.occurrences x y 0 x.length 1 with
    | i :: _ => some (.int (i : Nat))
    | [] => none
  | _, _ => none
theorem md_sindex : MtD X "str.index" D.sindex := by
  rintro pins s σ H x xs v us Q I rx rxs ⟨Hs, d, ds, e, hs, h1, h2, g, q⟩
  unfold D.sindex at g
  split at g
  · split at g
    · rename_i i r ho
      cases g
      obtain ⟨rfl, _⟩ := h1
      obtain ⟨w, rfl, rfl, _⟩ := h2.d1
      exact mt_sindex pins s σ H _ _ v us Q I rx rxs ⟨_, _, i, r, rfl, rfl, ho, q _ _ _ (.refl hs) rfl⟩
    · cases g
  · cases g
end
/-! ### enumerate of a tuple, of a text -/
end FL
namespace PySem
open PySem.Spec AutoSeq1
theorem meets_enumerate_newT (l : Addr) (items : Array Value) (o : Obj) (hc : o.cls = .type "tuple") (n : Nat) (hd : o.data = .seq items n) :
    Meets (Builtin.«enumerate.__new__» ⟨[.type "enumerate", .ref l], []⟩) (fun _ R s => s.heap.get? l = some o ∧
      R (.ok (.ret (.ref (s.heap.push { cls := .type "tuple_iterator", data := .fields #[.ref l, .int 0 0] }).objs.size)))
        { s with heap := (s.heap.push { cls := .type "tuple_iterator", data := .fields #[.ref l, .int 0 0] }).push { cls := .type "enumerate", data := .fields #[.none, .bool false, .ref s.heap.objs.size, rawInt 0, .none, .none] } }) :=
  .of_wp fun prog w A R s h => by
    obtain ⟨hp, g, d, tk, os⟩ := s; obtain ⟨hl, h⟩ := h
    have hsub := sub_enumerate
    have hL : Heap.IsTuple (Shared.heap ⟨hp, g, d, tk, os⟩) l items := ⟨_, hl, hc, n, hd⟩
    wp_walk
    refine wpAny_stack_any fun st => wpAny_pure ?_
    split
    · rename_i c _ _ _ _ _
      cases (c == Value.type "enumerate")
      · wp_walk using wpAny_pyIter_tuple hL
        exact ⟨_, rfl, h⟩
      · wp_walk using wpAny_pyIter_tuple hL
        exact ⟨_, rfl, h⟩
    · wp_walk using wpAny_pyIter_tuple hL
      exact ⟨_, rfl, h⟩
end PySem
namespace PySem
open PySem.Spec AutoSeq1
section
variable {prog : Program} {w : World} {A : Around} {E : Value → Shared → Prop} {s : Shared}
theorem call_enumerate_tuple {l : Addr} {items : Array Value} {Q : Value → Shared → Prop} (hL : s.heap.IsTuple l items)
    (h : ∀ h', IsEnum h' (s.heap.objs.size + 1) s.heap.objs.size 0 .none → h'.IsTupleIter s.heap.objs.size l 0 → h'.objs.size = s.heap.objs.size + 2 →
      (∀ b o, s.heap.get? b = some o → h'.get? b = some o) → Q (.ref (s.heap.objs.size + 1)) { s with heap := h' }) :
    wpAny (model prog w) A (call (.type "enumerate") [.ref l]) Q E s := by
  obtain ⟨o, hl, hc, n, hd⟩ := hL
  refine callType_new F.called_enumerate (by decide) (F.typeCall_enumerate_1 _) (F.newCall_enumerate_1 _) (fun obj => F.args_object_init_2 obj _) F.entry_enumerate_new
    (meets_enumerate_newT l items o hc n hd) ⟨hl, ?_⟩
  have hz : (s.heap.push { cls := .type "tuple_iterator", data := .fields #[.ref l, .int 0 0] }).objs.size = s.heap.objs.size + 1 := Heap.size_push ..
  show _ ∧ _
  rw [hz]
  have he : IsEnum ((s.heap.push { cls := .type "tuple_iterator", data := .fields #[.ref l, .int 0 0] }).push
      { cls := .type "enumerate", data := .fields #[.none, .bool false, .ref s.heap.objs.size, rawInt 0, .none, .none] }) (s.heap.objs.size + 1) s.heap.objs.size 0 .none := by
    have := Heap.get?_push_size (s.heap.push { cls := .type "tuple_iterator", data := .fields #[.ref l, .int 0 0] })
      (o := { cls := .type "enumerate", data := .fields #[.none, .bool false, .ref s.heap.objs.size, rawInt 0, .none, .none] }) rfl
    rw [hz] at this; exact this
  refine ⟨⟨_, he, rfl⟩, h _ he ⟨_, Heap.get?_push_of_some _ (Heap.get?_push_size _ rfl), rfl, rfl⟩ (by rw [Heap.size_push, hz]) fun b o x => Heap.get?_push_of_some _ (Heap.get?_push_of_some _ x)⟩
theorem wpAny_pyNext_enum_endT {e it l : Addr} {i : Nat} {items : Array Value} {old : Value} {Q : Option Value → Shared → Prop} (hh : A.handled = none)
    (he : IsEnum s.heap e it i old) (hit : s.heap.IsTupleIter it l i) (hl : s.heap.IsTuple l items) (hx : items[i]? = none)
    (hQ : ∀ h', Heap.ExtBut it s.heap h' → Q none { s with heap := h' }) : wpAny (model prog w) A (pyNext (.ref e)) Q E s := by
  have hT : s.TypeIs (.ref e) "enumerate" := ⟨_, he, rfl⟩
  unfold pyNext
  refine wpAny_bind (wpAny_attempt (wpAny_callSpecial?_slot (name := Str.ofString "__next__") hT F.slot_enumerate_next
    (wpAny_call_entry F.slot_enumerate_next hT F.entry_enumerate_next ?_ (F.args_enumerate_next_1 _))))
  show wpAny _ _ (field (.ref e) 2 >>= _) _ _ _
  refine wpAny_bind (wpAny_field he rfl (x := .ref it) rfl ?_)
  refine wpAny_bind (wpAny_nextOf_tuple_end hh hit hl hx fun h' x he' hx' => ?_)
  obtain ⟨o, ho, hc⟩ := hx'
  refine wpAny_bind (wpAny_isInstance (T := "StopIteration") (b := true) ⟨o, ho, hc⟩ isSubtype_stop ?_)
  exact wpAny_pure (hQ _ he')
end
end PySem
namespace FL
open PySem PySem.Spec PyProof.Rows L2
noncomputable def ItEt (K : PySem.W.Frag) (a : Addr) : It :=
  ⟨fun i H => ∃ (xs : List V) (x : V), SqT K H a xs ∧ xs[i]? = some x, fun i H v H' => ∃ T x, v = .ref T ∧ H T = none ∧ H' = upd H T (.tup [.int (i : Nat), x]) ∧ ∀ xs, SqT K H a xs → xs[i]? = some x, fun i H => ∃ xs : List V, SqT K H a xs ∧ xs.length ≤ i⟩
theorem turn_enumT {P : Program} {w : World} {K : PySem.W.Frag} {elts : List Expr} {kk : Nat} {tpos : Pos} (a e it : Addr) :
    Turn P w K (.Tuple elts kk tpos) (ItEt K a) [e, it] e (fun i h => (∃ old, IsEnum h e it ((i : Nat) : Int) old) ∧ h.IsTupleIter it a i ∧ e ≠ it) where
  mem := by simp
  obj := fun i h st b hb => by
    obtain ⟨⟨old, he⟩, ⟨o, ho, hc, hd⟩, _⟩ := st
    have e' : b = e ∨ b = it := by simpa using hb
    rcases e' with z | z
    · rw [z]; exact ⟨_, he, fun v q => nomatch q⟩
    · rw [z]; exact ⟨o, ho, fun v q => by rw [hd] at q; cases q⟩
  keep := fun i h h' st k => let ⟨⟨old, he⟩, hi, hne⟩ := st; ⟨⟨old, k e (by simp) _ he⟩, hi.at fun o q => k it (by simp) o q, hne⟩
  item := by
    intro X hP hw hK hc i pins s σ H E I hf st hg
    subst hP hw hK
    obtain ⟨⟨old, he⟩, hit, hne⟩ := st
    obtain ⟨xs, x, hq, hx⟩ := hg
    obtain ⟨its, rv, p, hz⟩ := I.tuple hq
    obtain ⟨u, hu, ru⟩ := rv.get hx
    have hel : e < s.heap.objs.size := Heap.lt_size he
    have hil : it < s.heap.objs.size := by obtain ⟨_, q, _⟩ := hit; exact Heap.lt_size q
    have pt : s.heap.IsTuple a its.toArray := p
    have hai : a ≠ it := fun z => by
      obtain ⟨o1, q1, c1, _⟩ := pt
      obtain ⟨o2, q2, c2, _⟩ := hit
      rw [z, q2] at q1
      cases q1
      rw [c2] at c1
      exact absurd c1 (by simp)
    have hae : e ≠ a := fun z => by
      obtain ⟨o1, q1, c1, _⟩ := pt
      rw [← z, show s.heap.get? e = _ from he] at q1
      cases q1
      exact absurd c1 (by simp)
    refine wpAny_pyNext_enum_itemD (Draws.tuple (A := X.A.in1) (I.ok.hd hc) it a hai its.toArray) he ⟨hit, pt⟩ (by
      have := (List.getElem?_eq_some_iff.mp hu).1
      simpa using this) hne (by simp [hne, hae]) fun u' h' tk hP ho hit' hT hsz hk => ?_
    have eu : u' = u := by
      have : its[i]? = some u' := by simpa using hP
      rw [hu] at this
      exact (Option.some.inj this).symm
    subst eu
    refine ⟨_, rfl, wpAny_letOwnedTupleGo_enum (s := { s with heap := h', toks := tk + 1 }) ho fun h'' he' sb => ?_⟩
    have hT2 : h''.get? s.heap.objs.size = some { cls := .type "tuple", data := .seq #[.int i tk, u'] } := (sb.2 _ (Nat.ne_of_gt hel)).trans hT
    have new : ObjOk X.prog X.w (upd H s.heap.objs.size (.tup [.int (i : Nat), x])) h'' s.heap.objs.size (.tup [.int (i : Nat), x]) :=
      ⟨by show 2 ≤ sizeLine; decide, [.int i tk, u'], .cons ⟨_, rfl⟩ (.cons ru .nil), ⟨_, hT2, rfl, _, rfl⟩⟩
    have I1 : Inv X pins σ (upd H s.heap.objs.size (.tup [.int (i : Nat), x])) { s with heap := h'', toks := tk + 1 } :=
      I.turnedNew (ch := [e, it]) (fun b ob hb q => (sb.2 b (fun z => hb (by simp [z]))).trans (hk b ob (fun z => hb (by simp [z])) (fun z => hb (by simp [z])) q)) hf (Nat.le_refl _) new
    refine ⟨.ref s.heap.objs.size, _, I1, rfl, ⟨_, x, rfl, I.hok.fresh (Nat.le_refl _), rfl, fun ys hy => by rw [I.tuple_inj hy hq]; exact hx⟩, ⟨⟨u', ?_⟩, hit'.1.at fun o q => (sb.2 it (Ne.symm hne)).trans q, hne⟩, fun b hb => ?_⟩
    · have e1 : ((i + 1 : Nat) : Int) = (i : Int) + 1 := by omega
      rw [e1]; exact he'
    · have hb' : b < s.heap.objs.size := by
        have e' : b = e ∨ b = it := by simpa using hb
        rcases e' with z | z
        · rw [z]; exact hel
        · rw [z]; exact hil
      rw [upd_ne (Nat.ne_of_lt hb')]
      exact (hf b hb).1
  done := by
    intro X hP hw hK hc i pins s σ H E I hf st hg
    subst hP hw hK
    obtain ⟨⟨old, he⟩, hit, hne⟩ := st
    obtain ⟨xs, hq, hx⟩ := hg
    obtain ⟨its, rv, p, hz⟩ := I.tuple hq
    have pt : s.heap.IsTuple a its.toArray := p
    have hai : a ≠ it := fun z => by
      obtain ⟨o1, q1, c1, _⟩ := pt
      obtain ⟨o2, q2, c2, _⟩ := hit
      rw [z, q2] at q1
      cases q1
      rw [c2] at c1
      exact absurd c1 (by simp)
    obtain ⟨f0, f1, f2, f3, f4, f5⟩ := hf it (by simp)
    have hl := rv.length
    refine wpAny_pyNext_enum_endT (I.ok.hd hc) he hit pt (by simp; omega) fun h' eb => ⟨rfl, I.turned (t' := s.toks) (fun b o hb q => eb b o hb q) f0 f1 f3 f4 f5⟩
  self := fun A i s Q E st h => let ⟨⟨_, he⟩, _⟩ := st; wpAny_pyIter_enum he h
noncomputable def iEnumT (K : PySem.W.Frag) (ta : TA) : TI := fun σ H R => ta σ H fun vs H1 => ∃ a xs, vs = [.ref a] ∧ SqT K H1 a xs ∧ R (ItEt K a) H1
theorem pi_enumT {X : Cx} {e : Expr} {ta : TA} {p pos tpos : Pos} {elts : List Expr} {kk : Nat} (hg : Gl X "enumerate") (hm : X.mg "enumerate" = none) (ha : PA X [e] ta) (hs : starEach [e] X.env = [(false, eval e X.env)] := by rfl) :
    PI X (.Tuple elts kk tpos) (.Call (.Name "enumerate" p) [e] [] pos) (iEnumT X.K ta) := by
  refine ⟨fun pins s σ H R I h => ?_⟩
  refine Call_ (ld_blt I hg hm boot_enumerate (PyProof.Rows.callWith_type1 (thn (ha.run pos pins s σ H _ I h) fun us s1 ⟨vs, H1, I1, r1, q1⟩ => ?_) hs rfl))
  obtain ⟨a, xs, ex, hq, q⟩ := q1
  subst ex
  cases r1 with
  | cons r rr =>
    cases rr
    cases r
    obtain ⟨its, rv, p', hz⟩ := I1.tuple hq
    refine call_enumerate_tuple (items := its.toArray) p' fun h' he hit hsz hk => wpAny_pyIter_enum he ?_
    have I2 : Inv X pins σ H1 { s1 with heap := h' } := I1.kept (t' := s1.toks) hk
    refine ⟨s1.heap.objs.size + 1, [s1.heap.objs.size + 1, s1.heap.objs.size], _, _, H1, rfl, I2, turn_enumT a (s1.heap.objs.size + 1) s1.heap.objs.size, ⟨⟨.none, he⟩, hit, Nat.succ_ne_self _⟩, fun b hb => ?_, q⟩
    have e' : b = s1.heap.objs.size + 1 ∨ b = s1.heap.objs.size := by simpa using hb
    have hle : s1.heap.objs.size ≤ b := by
      rcases e' with z | z
      · rw [z]; exact Nat.le_add_right _ _
      · rw [z]; exact Nat.le_refl _
    exact I1.fpOk hle (I1.hok.fresh hle)
/-- a text's signs with their numbers -/
noncomputable def ItEs (x : Str) : It := ⟨fun i _ => i < x.cps.size, fun i H v H' => ∃ T c, v = .ref T ∧ H T = none ∧ H' = upd H T (.tup [.int (i : Nat), .str ⟨#[c]⟩]) ∧ x.cps[i]? = some c, fun i _ => x.cps.size ≤ i⟩
theorem turn_enumS {P : Program} {w : World} {K : PySem.W.Frag} {elts : List Expr} {kk : Nat} {tpos : Pos} (x : Str) (t : Tok) (e it : Addr) :
    Turn P w K (.Tuple elts kk tpos) (ItEs x) [e, it] e (fun i h => (∃ old, IsEnum h e it ((i : Nat) : Int) old) ∧ h.IsStrIter it (strIterType x) x t i ∧ e ≠ it) where
  mem := by simp
  obj := fun i h st b hb => by
    obtain ⟨⟨old, he⟩, ⟨o, ho, hc, hd⟩, _⟩ := st
    have e' : b = e ∨ b = it := by simpa using hb
    rcases e' with z | z
    · rw [z]; exact ⟨_, he, fun v q => nomatch q⟩
    · rw [z]; exact ⟨o, ho, fun v q => by rw [hd] at q; cases q⟩
  keep := fun i h h' st k => let ⟨⟨old, he⟩, ⟨o, ho, r⟩, hne⟩ := st; ⟨⟨old, k e (by simp) _ he⟩, ⟨o, k it (by simp) o ho, r⟩, hne⟩
  item := by
    intro X hP hw hK hc i pins s σ H E I hf st hg
    subst hP hw hK
    obtain ⟨⟨old, he⟩, hit, hne⟩ := st
    have hel : e < s.heap.objs.size := Heap.lt_size he
    have hil : it < s.heap.objs.size := by obtain ⟨_, q, _⟩ := hit; exact Heap.lt_size q
    refine wpAny_pyNext_enum_itemD (Draws.text (A := X.A.in1) (I.ok.hd hc) it x t) he hit hg hne (by simp [hne]) fun u' h' tk hP ho hit' hT hsz hk => ?_
    obtain ⟨c, u, hcx, rfl⟩ := hP
    refine ⟨_, rfl, wpAny_letOwnedTupleGo_enum (s := { s with heap := h', toks := tk + 1 }) ho fun h'' he' sb => ?_⟩
    have hT2 : h''.get? s.heap.objs.size = some { cls := .type "tuple", data := .seq #[.int i tk, .str ⟨#[c]⟩ u] } := (sb.2 _ (Nat.ne_of_gt hel)).trans hT
    have new : ObjOk X.prog X.w (upd H s.heap.objs.size (.tup [.int (i : Nat), .str ⟨#[c]⟩])) h'' s.heap.objs.size (.tup [.int (i : Nat), .str ⟨#[c]⟩]) :=
      ⟨by show 2 ≤ sizeLine; decide, [.int i tk, .str ⟨#[c]⟩ u], .cons ⟨_, rfl⟩ (.cons ⟨_, rfl⟩ .nil), ⟨_, hT2, rfl, _, rfl⟩⟩
    have I1 : Inv X pins σ (upd H s.heap.objs.size (.tup [.int (i : Nat), .str ⟨#[c]⟩])) { s with heap := h'', toks := tk + 1 } :=
      I.turnedNew (ch := [e, it]) (fun b ob hb q => (sb.2 b (fun z => hb (by simp [z]))).trans (hk b ob (fun z => hb (by simp [z])) (fun z => hb (by simp [z])) q)) hf (Nat.le_refl _) new
    refine ⟨.ref s.heap.objs.size, _, I1, rfl, ⟨_, c, rfl, I.hok.fresh (Nat.le_refl _), rfl, hcx⟩, ⟨⟨.str ⟨#[c]⟩ u, ?_⟩, ?_, hne⟩, fun b hb => ?_⟩
    · have e1 : ((i + 1 : Nat) : Int) = (i : Int) + 1 := by omega
      rw [e1]; exact he'
    · obtain ⟨o, ho, r⟩ := hit'
      exact ⟨o, (sb.2 it (Ne.symm hne)).trans ho, r⟩
    · have hb' : b < s.heap.objs.size := by
        have e' : b = e ∨ b = it := by simpa using hb
        rcases e' with z | z
        · rw [z]; exact hel
        · rw [z]; exact hil
      rw [upd_ne (Nat.ne_of_lt hb')]
      exact (hf b hb).1
  done := by
    intro X hP hw hK hc i pins s σ H E I hf st hg
    subst hP hw hK
    obtain ⟨⟨old, he⟩, hit, hne⟩ := st
    obtain ⟨f0, f1, f2, f3, f4, f5⟩ := hf it (by simp)
    have hlt : it < s.heap.objs.size := by obtain ⟨_, q, _⟩ := hit; exact Heap.lt_size q
    have D := Draws.text (prog := X.prog) (w := X.w) (A := X.A.in1) (I.ok.hd hc) it x t
    have hi : i = x.cps.size ∨ x.cps.size < i := by
      have : x.cps.size ≤ i := hg
      omega
    have D' : Draws X.prog X.w X.A.in1 it [it] i (fun i v => ∃ c u, x.cps[i]? = some c ∧ v = .str ⟨#[c]⟩ u ∧ False) (fun j h => j = i ∧ h.IsStrIter it (strIterType x) x t i) := by
      refine ⟨fun _ _ st => let ⟨_, o, ho, _⟩ := st; ⟨o, ho⟩, fun _ _ _ st hk => let ⟨e1, o, ho, r⟩ := st; ⟨e1, o, hk it (by simp) o ho, r⟩, fun j s Q E hj st => absurd st.1 (Nat.ne_of_lt hj), fun s Q E st hE => ?_⟩
      have hx : x.cps[i]? = none := Array.getElem?_eq_none hg
      have st2 := st.2
      cases ha : x.cps.all (· < 128)
      · simp only [strIterType, ha, Bool.false_eq_true, if_false] at st2
        exact wpAny_nextOf_wide_end (I.ok.hd hc) st2 hx hE
      · simp only [strIterType, ha, if_true] at st2
        exact wpAny_nextOf_ascii_end (I.ok.hd hc) st2 hx hE
    exact wpAny_pyNext_enum_endD D' he ⟨rfl, hit⟩ fun h' eb => ⟨rfl, I.turned (t' := s.toks) (fun b o hb q => eb b o hb q) f0 f1 f3 f4 f5⟩
  self := fun A i s Q E st h => let ⟨⟨_, he⟩, _⟩ := st; wpAny_pyIter_enum he h
noncomputable def iEnumS (ta : TA) : TI := fun σ H R => ta σ H fun vs H1 => ∃ x, vs = [.str x] ∧ R (ItEs x) H1
theorem pi_enumS {X : Cx} {e : Expr} {ta : TA} {p pos tpos : Pos} {elts : List Expr} {kk : Nat} (hg : Gl X "enumerate") (hm : X.mg "enumerate" = none) (ha : PA X [e] ta) (hs : starEach [e] X.env = [(false, eval e X.env)] := by rfl) :
    PI X (.Tuple elts kk tpos) (.Call (.Name "enumerate" p) [e] [] pos) (iEnumS ta) := by
  refine ⟨fun pins s σ H R I h => ?_⟩
  refine Call_ (ld_blt I hg hm boot_enumerate (PyProof.Rows.callWith_type1 (thn (ha.run pos pins s σ H _ I h) fun us s1 ⟨vs, H1, I1, r1, q1⟩ => ?_) hs rfl))
  obtain ⟨x, ex, q⟩ := q1
  subst ex
  cases r1 with
  | cons r rr =>
    cases rr
    obtain ⟨t, rfl⟩ := r
    refine call_enumerate_str (x := x) (t := t) fun h' he hit hsz hk => wpAny_pyIter_enum he ?_
    have I2 : Inv X pins σ H1 { s1 with heap := h' } := I1.kept (t' := s1.toks) hk
    refine ⟨s1.heap.objs.size + 1, [s1.heap.objs.size + 1, s1.heap.objs.size], _, _, H1, rfl, I2, turn_enumS x t (s1.heap.objs.size + 1) s1.heap.objs.size, ⟨⟨.none, he⟩, hit, Nat.succ_ne_self _⟩, fun b hb => ?_, q⟩
    have e' : b = s1.heap.objs.size + 1 ∨ b = s1.heap.objs.size := by simpa using hb
    have hle : s1.heap.objs.size ≤ b := by
      rcases e' with z | z
      · rw [z]; exact Nat.le_add_right _ _
      · rw [z]; exact Nat.le_refl _
    exact I1.fpOk hle (I1.hok.fresh hle)
noncomputable def enumFrom : Nat → List D → List D
  | _, [] => []
  | n, d :: ds => .tup [.int (n : Nat), d] :: enumFrom (n + 1) ds
theorem enumFrom_length : ∀ (n : Nat) (ds : List D), (enumFrom n ds).length = ds.length
  | _, [] => rfl
  | n, d :: ds => by simp [enumFrom, enumFrom_length (n + 1) ds]
theorem enumFrom_get : ∀ (n : Nat) (ds : List D) (i : Nat), (enumFrom n ds)[i]? = ds[i]?.map fun d => .tup [.int ((n + i : Nat) : Int), d]
  | n, [], i => by simp [enumFrom]
  | n, d :: ds, 0 => by simp [enumFrom]
  | n, d :: ds, i + 1 => by
    simp only [enumFrom, List.getElem?_cons_succ, enumFrom_get (n + 1) ds i]
    congr 2
    funext d
    congr 3
    omega
/-- a new pair of shared things -/
theorem ext_pair {K Hs H T i x d} (e : Same Hs H) (hT : H T = none) (dx : Den K Hs d x) : Ext Hs H (upd Hs T (.tup [.int i, x])) (upd H T (.tup [.int i, x])) ∧ Den K (upd Hs T (.tup [.int i, x])) (.tup [.int i, d]) (.ref T) := by
  have ex := Ext.new (o := .tup [.int i, x]) e hT
  exact ⟨ex, T, _, rfl, upd_same, .int i, [x], rfl, rfl, x, [], rfl, dx.mono ex.s, rfl⟩
theorem iter_enumL {K Hs a vs ds} (h : SqL K Hs a vs) (hd : DenL K Hs ds vs) : IterOf K (Ite K a) (enumFrom 0 ds) Hs := fun i Hs1 H e1 e2 => by
  have s1 := e2.seq (e1.seq h)
  have l := hd.length
  rw [enumFrom_length]
  refine ⟨fun hi => ?_, fun hi => ⟨vs, s1, by omega⟩⟩
  obtain ⟨v, hv, dv⟩ := (hd.mono e1).get (List.getElem?_eq_getElem hi)
  refine ⟨⟨vs, v, s1, hv⟩, fun x H' ⟨T, y, ex, hT, eH, q⟩ => ?_⟩
  have := q vs s1
  rw [hv] at this
  cases this
  subst ex; subst eH
  obtain ⟨k1, k2⟩ := ext_pair (i := (i : Nat)) e2 hT dv
  refine ⟨_, k1, fun d hd => ?_⟩
  rw [enumFrom_get, List.getElem?_eq_getElem hi] at hd
  simp only [Option.map_some, Nat.zero_add, Option.some.injEq] at hd
  subst hd
  exact k2
theorem iter_enumT {K Hs a vs ds} (h : SqT K Hs a vs) (hd : DenL K Hs ds vs) : IterOf K (ItEt K a) (enumFrom 0 ds) Hs := fun i Hs1 H e1 e2 => by
  have s1 := e2.seqT (e1.seqT h)
  have l := hd.length
  rw [enumFrom_length]
  refine ⟨fun hi => ?_, fun hi => ⟨vs, s1, by omega⟩⟩
  obtain ⟨v, hv, dv⟩ := (hd.mono e1).get (List.getElem?_eq_getElem hi)
  refine ⟨⟨vs, v, s1, hv⟩, fun x H' ⟨T, y, ex, hT, eH, q⟩ => ?_⟩
  have := q vs s1
  rw [hv] at this
  cases this
  subst ex; subst eH
  obtain ⟨k1, k2⟩ := ext_pair (i := (i : Nat)) e2 hT dv
  refine ⟨_, k1, fun d hd => ?_⟩
  rw [enumFrom_get, List.getElem?_eq_getElem hi] at hd
  simp only [Option.map_some, Nat.zero_add, Option.some.injEq] at hd
  subst hd
  exact k2
theorem iter_enumS {K Hs x} (h : sOk x) : IterOf K (ItEs x) (enumFrom 0 (signs x)) Hs := fun i Hs1 H e1 e2 => by
  have l : (signs x).length = x.cps.size := by simp [signs]
  rw [enumFrom_length]
  refine ⟨fun hi => ⟨by show i < x.cps.size; omega, fun v H' ⟨T, c, ev, hT, eH, hc⟩ => ?_⟩, fun hi => by show x.cps.size ≤ i; omega⟩
  subst ev; subst eH
  have hc' : x.cps.toList[i]? = some c := by simpa using hc
  obtain ⟨k1, k2⟩ := ext_pair (K := K) (i := (i : Nat)) (d := .str ⟨#[c]⟩) e2 hT ⟨rfl, sOk_sign h (List.mem_of_getElem? hc')⟩
  refine ⟨_, k1, fun d hd => ?_⟩
  rw [enumFrom_get] at hd
  simp only [signs, List.getElem?_map, hc', Option.map_some, Option.some.injEq, Nat.zero_add] at hd
  subst hd
  exact k2
section
variable {X : Cx} {mg : Str → Option Value} {W : WX} {a : Expr} {fa : Env' → Res (RV × Env')} {pos p tpos : Pos}
noncomputable def iEnum (fa : Env' → Res (RV × Env')) : Env' → Res (List D × Env') := fun ρ => (aConsE fa aNil ρ).bind fun (rs, ρ1) => match rs with
  | [.leaf d] => (Res.of d.walk).bind fun ds => .ok (enumFrom 0 ds, ρ1)
  | _ => .bad
theorem fi_enum {elts : List Expr} {kk : Nat} (hg : Gl X "enumerate") (hm : X.mg "enumerate" = none) (ha : PE X a (tFO X.K mg W fa)) (hs : starEach [a] X.env = [(false, eval a X.env)] := by rfl) (hs' : starEach (a :: []) X.env = (false, eval a X.env) :: starEach [] X.env := by rfl) :
    PI X (.Tuple elts kk tpos) (.Call (.Name "enumerate" p) [a] [] pos) (tFI X.K mg W (iEnum fa)) := by
  have pa : PA X [a] (tFA X.K mg W (aConsE fa aNil)) := fa_consE ha fa_nil hs'
  refine ((pi_enum hg hm pa hs).or ((pi_enumT hg hm pa hs).or (pi_enumS hg hm pa hs))).imp fun σ H R ⟨G, ρ, ⟨Hs, fp, ok⟩, po⟩ => ?_
  unfold iEnum at po
  cases e0 : aConsE fa aNil ρ with
  | exc c ρ' => exact .inl ⟨_, ρ, ⟨Hs, fp, ok.self⟩, by rw [e0] at po ⊢; exact fun H' C hc o => po H' C hc (Ok.back ok o)⟩
  | bad => rw [e0] at po; exact po.elim
  | ok q =>
    obtain ⟨rs, ρ1⟩ := q
    rw [e0] at po
    simp only [bind_ok] at po
    split at po
    · rename_i d
      cases d with
      | lst ds =>
        refine .inl ⟨_, ρ, ⟨Hs, fp, ok.self⟩, ?_⟩
        rw [e0]
        intro vs H1 Hs1 fp1 ok1 ⟨v, ws, ev, dv, ew⟩
        subst ev
        cases ew
        obtain ⟨l, us, rfl, k1, k2⟩ := dv
        exact ⟨l, us, rfl, SqL.lst (ok1.sh _ _ k1), po _ _ _ _ (ok.back ok1) (iter_enumL (SqL.lst k1) k2)⟩
      | fz ds =>
        refine .inl ⟨_, ρ, ⟨Hs, fp, ok.self⟩, ?_⟩
        rw [e0]
        intro vs H1 Hs1 fp1 ok1 ⟨v, ws, ev, dv, ew⟩
        subst ev
        cases ew
        obtain ⟨l, us, rfl, k1, k2⟩ := dv
        exact ⟨l, us, rfl, ok1.sh.seq k1, po _ _ _ _ (ok.back ok1) (iter_enumL k1 k2)⟩
      | tup ds =>
        refine .inr (.inl ⟨_, ρ, ⟨Hs, fp, ok.self⟩, ?_⟩)
        rw [e0]
        intro vs H1 Hs1 fp1 ok1 ⟨v, ws, ev, dv, ew⟩
        subst ev
        cases ew
        obtain ⟨l, us, rfl, k1, k2⟩ := dv
        exact ⟨l, us, rfl, SqT.of (ok1.sh _ _ k1), po _ _ _ _ (ok.back ok1) (iter_enumT (SqT.of k1) k2)⟩
      | ftup ds =>
        refine .inr (.inl ⟨_, ρ, ⟨Hs, fp, ok.self⟩, ?_⟩)
        rw [e0]
        intro vs H1 Hs1 fp1 ok1 ⟨v, ws, ev, dv, ew⟩
        subst ev
        cases ew
        obtain ⟨l, us, rfl, k1, k2⟩ := dv
        exact ⟨l, us, rfl, ok1.sh.seqT k1, po _ _ _ _ (ok.back ok1) (iter_enumT k1 k2)⟩
      | str z =>
        refine .inr (.inr ⟨_, ρ, ⟨Hs, fp, ok.self⟩, ?_⟩)
        rw [e0]
        intro vs H1 Hs1 fp1 ok1 ⟨v, ws, ev, dv, ew⟩
        subst ev
        cases ew
        obtain ⟨rfl, k⟩ := dv
        exact ⟨z, rfl, po _ _ _ _ (ok.back ok1) (iter_enumS k)⟩
      | _ => exact po.elim
    · exact po.elim
end
/-! ### what a printed walk uses -/
/-- a constant of the module -/
noncomputable def GC (K : PySem.W.Frag) (mg : Str → Option Value) (x : Str) (d : D) : Prop := ∃ v u, mg x = some u ∧ RelV v u ∧ ∀ H, Den K H d v
theorem fo_gc {X : Cx} {mg : Str → Option Value} {W : WX} {x : Str} {d : D} {pos : Pos} (hg : Gl X x) (h : GC X.K X.mg x d) (hdb : (x == ("__debug__" : Str)) = false := by decide) : PE X (.Name x pos) (tFO X.K mg W (eC d)) := by
  obtain ⟨v, u, h1, h2, h3⟩ := h
  exact fo_glob hg h1 h2 h3 hdb
theorem u65 {k : Nat} {A : Around} (r : Room k A) : A.units + 65 < cLine := by have := r.un; omega
theorem alen_nil : ∀ (ρ : Env') (rs : List RV) (ρ' : Env'), aNil ρ = .ok (rs, ρ') → rs.length = 0 := fun ρ rs ρ' h => by
  cases h; rfl
theorem alen_cons {n : Nat} {fa : Env' → Res (RV × Env')} {fr : Env' → Res (List RV × Env')} (h : ∀ ρ rs ρ', fr ρ = .ok (rs, ρ') → rs.length = n) : ∀ (ρ : Env') (rs : List RV) (ρ' : Env'), aConsE fa fr ρ = .ok (rs, ρ') → rs.length = n + 1 := fun ρ rs ρ' e => by
  unfold aConsE at e
  cases e1 : fa ρ with
  | exc c r => rw [e1] at e; cases e
  | bad => rw [e1] at e; cases e
  | ok p =>
    obtain ⟨r, ρ1⟩ := p
    rw [e1] at e
    simp only [bind_ok] at e
    cases e2 : esc ρ1 r with
    | none => rw [e2] at e; cases e
    | some q =>
      obtain ⟨d, ρ2⟩ := q
      rw [e2] at e
      simp only [of_some, bind_ok] at e
      cases e3 : fr ρ2 with
      | exc c r => rw [e3] at e; cases e
      | bad => rw [e3] at e; cases e
      | ok q =>
        obtain ⟨rs', ρ3⟩ := q
        rw [e3] at e
        cases e
        simp [h _ _ _ e3]
end FL
namespace FL
open PySem PySem.Spec PyProof.Rows L2
/-! ### what the top has written -/
def DI (K : PySem.W.Frag) (x : Str) (st : Stmt) : Prop := ∃ f fd, PySem.W.nsIn K mainGlobals x = some (some (.ref f)) ∧ Fun K x x st f fd
theorem di_mk {K : PySem.W.Frag} {x : Str} {st : Stmt} {f : Addr} {oc : Value} {od an : Option Addr} {osl : Array (Option Value)} {kV doc pm cdv ct : Value} (a : PySem.W.nsIn K mainGlobals x = some (some (.ref f)))
    (l : K.lookup f = some ⟨oc, od, .func (PySem.W.fnOf x x (defArgs st) (defBody st) (defScope st) .none kV doc pm an cdv ct), osl⟩) (c : PySem.W.codeIn K cdv x = true) (k : PySem.W.keepIn K (.ref f) = true) : DI K x st := ⟨f, _, a, fun_mk l c k⟩
def XI (K : PySem.W.Frag) (x : Str) : Prop := ∃ C, PySem.W.nsIn K mainGlobals x = some (some (.ref C)) ∧ PySem.W.excIn K C [.type "ValueError", .type "Exception", .type "BaseException", .type "object"] "ValueError.__new__" = true ∧ PySem.W.keepIn K (.ref C) = true ∧
  PySem.W.subIn K (.ref C) (.type "BaseException") = some true ∧ PySem.W.typeIn K (.ref C) = some (.type "type")
theorem xi_mk {K : PySem.W.Frag} {x : Str} {C : Addr} (a : PySem.W.nsIn K mainGlobals x = some (some (.ref C))) (q : PySem.W.excIn K C [.type "ValueError", .type "Exception", .type "BaseException", .type "object"] "ValueError.__new__" = true) (k : PySem.W.keepIn K (.ref C) = true)
    (b : PySem.W.subIn K (.ref C) (.type "BaseException") = some true) (t : PySem.W.typeIn K (.ref C) = some (.type "type")) : XI K x := ⟨C, a, q, k, b, t⟩
def GI (K : PySem.W.Frag) (x : Str) (d : D) : Prop := ∃ v u, PySem.W.nsIn K mainGlobals x = some (some u) ∧ RelV v u ∧ ∀ H, Den K H d v
theorem gi_str {K : PySem.W.Frag} {x s : Str} {t : Tok} (a : PySem.W.nsIn K mainGlobals x = some (some (.str s t))) (h : sOk s := by decide +kernel) : GI K x (.str s) := ⟨.str s, _, a, ⟨t, rfl⟩, fun _ => ⟨rfl, h⟩⟩
theorem gi_tup {K : PySem.W.Frag} {x : Str} {a : Addr} {od : Option Addr} {its : Array Value} {n : Nat} {sl : Array (Option Value)} {ds : List D} {vs : List V} (e : PySem.W.nsIn K mainGlobals x = some (some (.ref a))) (l : K.lookup a = some ⟨.type "tuple", od, .seq its n, sl⟩)
    (h1 : Vals vs its.toList) (h2 : ∀ H, DenL K H ds vs) (h3 : its.size ≤ sizeLine) : GI K x (.ftup ds) := ⟨.ref a, _, e, rfl, fun H => ⟨a, vs, rfl, .inr ⟨_, its, n, l, rfl, rfl, h3, h1⟩, h2 H⟩⟩
theorem gi_tup4 {K : PySem.W.Frag} {x s1 s2 s3 s4 : Str} {a : Addr} {od : Option Addr} {t1 t2 t3 t4 : Tok} {n : Nat} {sl : Array (Option Value)} (e : PySem.W.nsIn K mainGlobals x = some (some (.ref a))) (l : K.lookup a = some ⟨.type "tuple", od, .seq #[.str s1 t1, .str s2 t2, .str s3 t3, .str s4 t4] n, sl⟩)
    (h : sOk s1 ∧ sOk s2 ∧ sOk s3 ∧ sOk s4 := by decide +kernel) : GI K x (.ftup [.str s1, .str s2, .str s3, .str s4]) :=
  gi_tup (vs := [.str s1, .str s2, .str s3, .str s4]) e l (.cons ⟨_, rfl⟩ (.cons ⟨_, rfl⟩ (.cons ⟨_, rfl⟩ (.cons ⟨_, rfl⟩ .nil)))) (fun H => ⟨_, _, rfl, ⟨rfl, h.1⟩, _, _, rfl, ⟨rfl, h.2.1⟩, _, _, rfl, ⟨rfl, h.2.2.1⟩, _, _, rfl, ⟨rfl, h.2.2.2⟩, rfl⟩) (show (4:Nat) ≤ sizeLine by decide)
/-! ### the law's own end -/
def spL (K : PySem.W.Frag) : Sp := fun vs H Q _ => ∃ (a : Addr) (ns : List Int), vs = [.ref a] ∧ SqL K H a (ns.map V.int) ∧ ns.length ≤ 63 ∧ ∀ H', Q (.bl true) H'
theorem law_imp {K : PySem.W.Frag} {mg : Str → Option Value} {m : List D → Out D} (h : ∀ ns : List Int, ns.length ≤ 63 → m [.fz (ns.map .int)] = .ok (.bl true)) : ∀ vs H Q E, spL K vs H Q E → spP K mg 1 m vs H Q E := by
  rintro vs H Q E ⟨a, ns, rfl, hS, hl, q⟩
  refine ⟨rfl, H, [.fz (ns.map .int)], Same.refl _, ⟨.ref a, [], rfl, ⟨a, _, rfl, hS, DenL.of_ints ns⟩, rfl⟩, ?_⟩
  rw [h ns hl]
  intro v Hs' H' _ dv
  cases dv
  exact q H'
theorem noCX {P : Program} {w : World} {H : Hp} {s : Shared} {e : Value} {s' : Shared} (h : L2.CX P w [] H s (fun _ _ _ => False) e s') : False := by
  obtain ⟨_, _, _, _, _, _, _, _, _, _, _, _, z⟩ := h
  exact z
end FL
namespace FL
open PySem PySem.Spec PyProof.Rows L2
/-! ### try: clauses that name a class and keep no name -/
noncomputable def hGo : List (List Str × (Env' → Res Fl)) → Str → Env' → Res Fl
  | [], c, ρ => .exc c ρ
  | (cs, g) :: r, c, ρ => if c ∈ cs then g ρ else hGo r c ρ
/-- all: the classes that the law knows; cs: those that a clause takes -/
noncomputable def sTry (all : List Str) (gs : List (List Str × (Env' → Res Fl))) (f : Env' → Res Fl) : Env' → Res Fl := fun ρ => match f ρ with
  | .exc c ρ' => if c ∈ all then hGo gs c ρ' else .bad
  | r => r
/-- a clause's class, and what it takes -/
structure HdT (K : PySem.W.Frag) (mg : Str → Option Value) (all : List Str) (x : Str) (C : Addr) (cs : List Str) : Prop where
  name : mg x = some (.ref C)
  takes : ∀ c ∈ all, ∀ Cc, mg c = some (.ref Cc) → PySem.W.exmOne K (.ref Cc) (.ref C) = some (decide (c ∈ cs))
inductive HdsT (X : Cx) (W : WX) (all : List Str) : List ExceptHandler → List (List Str × (Env' → Res Fl)) → Prop
  | nil : HdsT X W all [] []
  | cons {x : Str} {C : Addr} {cs : List Str} {g : Env' → Res Fl} {b₀ : Stmt} {suite : List Stmt} {np pos' : Pos} {hds : List ExceptHandler} {gs : List (List Str × (Env' → Res Fl))}
      (e : HdT X.K X.mg all x C cs) (hg : Gl X x) (hdb : (x == ("__debug__" : Str)) = false)
      (hsu : ∀ (a : Addr) (oe : Obj) (pn : List (Addr × Obj)), PSs (X.suite a ((a, oe) :: pn)) (b₀ :: suite) (tFS X.K X.mg W g)) (r : HdsT X W all hds gs) :
      HdsT X W all (.ExceptHandler (some (.Name x np)) none (b₀ :: suite) pos' :: hds) ((cs, g) :: gs)
theorem HdsT.go {X : Cx} {W : WX} {all : List Str} {hds : List ExceptHandler} {gs : List (List Str × (Env' → Res Fl))} (h : HdsT X W all hds gs) :
    ∃ l, HdsOk X hds l ∧ ∀ c ρ σ H D C G, c ∈ all → X.mg c = some (.ref C) → Ok X.K G σ H ρ → PoS X.K X.mg W G D (hGo gs c ρ) → wMany X.K W D l (.ref C) none σ H := by
  induction h with
  | nil => exact ⟨[], .nil, fun c ρ σ H D C G _ hc ok po => po σ H C hc ok⟩
  | @cons x C cs g b₀ suite np pos' hds gs e hg hdb hsu r ih =>
    obtain ⟨l, h1, h2⟩ := ih
    refine ⟨(.ref C, fun _ _ _ => tFS X.K X.mg W g) :: l, .cons ⟨hg, hdb, .inl e.name⟩ (fun a oe cls d pn _ _ => hsu a oe pn) h1, fun c ρ σ H D Cc G ha hc ok po => ?_⟩
    refine ⟨_, e.takes c ha Cc hc, fun hb a _ => ?_, fun hb => ?_⟩
    · rw [hGo, if_pos (of_decide_eq_true hb)] at po
      exact ⟨G, ρ, ok, po⟩
    · rw [hGo, if_neg (of_decide_eq_false hb)] at po
      exact h2 c ρ σ H D Cc G ha hc ok po
theorem fs_try {X : Cx} {mg : Str → Option Value} {W : WX} {all : List Str} {gs : List (List Str × (Env' → Res Fl))} {f : Env' → Res Fl} {body : List Stmt} {h₀ : ExceptHandler} {hds : List ExceptHandler} {pos : Pos} (hm : X.mg = mg)
    (tk : Takes X W) (hb : ∀ (W' : WX) (pn : List (Addr × Obj)) (xe : Value → Shared → Prop), Takes (X.tr pn xe) W' → PassesOwn (model X.prog X.w) X.A X.env xe → PSs (X.tr pn xe) body (tFS X.K X.mg W' f))
    (hh : HdsT X W all (h₀ :: hds) gs) (hs : X.stack = X.env :: X.outer := by rfl) (hf : X.env.frame = some X.env.locals := by rfl) : PS X (.Try body (h₀ :: hds) [] [] pos) (tFS X.K mg W (sTry all gs f)) := by
  subst hm
  obtain ⟨l, h1, h2⟩ := hh.go
  refine (ps_try_many (tb := fun W' => tFS X.K X.mg W' f) hs hf tk hb h1).imp fun D σ H ⟨G, ρ, ok, po⟩ => ⟨G, ρ, ok, ?_⟩
  unfold sTry at po
  cases e : f ρ with
  | ok r =>
    rw [e] at po
    cases r <;> exact po
  | bad => rw [e] at po; exact po
  | exc c ρ' =>
    rw [e] at po
    simp only at po
    split at po
    · rename_i ha
      exact fun σ' H' C hc o => h2 c ρ' σ' H' D C G ha hc o po
    · exact po.elim
/-! what the top has written: a class that is but caught, and what takes what -/
def EI (K : PySem.W.Frag) (c x : Str) (b : Bool) : Prop := ∀ Cc Cx, PySem.W.nsIn K mainGlobals c = some (some (.ref Cc)) → PySem.W.nsIn K mainGlobals x = some (some (.ref Cx)) → PySem.W.exmOne K (.ref Cc) (.ref Cx) = some b
theorem exm_of {K : PySem.W.Frag} {C S : Addr} {b : Bool} (h1 : PySem.W.subIn K (.ref S) (.type "BaseException") = some true) (h2 : PySem.W.isClsIn K S = true) (h3 : PySem.W.typeIn K (.ref S) = some (.type "type")) (h4 : PySem.W.subIn K (.ref C) (.ref S) = some b) :
    PySem.W.exmOne K (.ref C) (.ref S) = some b := by
  have e1 : (PySem.W.subIn K (.ref S) (.type "BaseException") == some true) = true := by rw [h1] <;> rfl
  have e2 : ((PySem.W.clsIn K S).isSome && PySem.W.typeIn K (.ref S) == some (.type "type")) = true := by
    have h2' : (PySem.W.clsIn K S).isSome = true := h2
    rw [h2', h3] <;> rfl
  unfold PySem.W.exmOne
  rw [if_pos e1]
  unfold PySem.W.kitCls
  simp only []
  rw [if_pos e2]
  exact h4
theorem ei_mk {K : PySem.W.Frag} {c x : Str} {b : Bool} {C D : Addr} (a1 : PySem.W.nsIn K mainGlobals c = some (some (.ref C))) (a2 : PySem.W.nsIn K mainGlobals x = some (some (.ref D)))
    (h1 : PySem.W.subIn K (.ref D) (.type "BaseException") = some true) (h2 : PySem.W.isClsIn K D = true) (h3 : PySem.W.typeIn K (.ref D) = some (.type "type")) (h4 : PySem.W.subIn K (.ref C) (.ref D) = some b) : EI K c x b := fun C' D' h1' h2' => by
  cases a1.symm.trans h1'
  cases a2.symm.trans h2'
  exact exm_of h1 h2 h3 h4
end FL
namespace FL
open PySem PySem.Spec PyProof.Rows L2
/-! ### zip of two lists or of two tuples; reversed -/
noncomputable def zipD : List D → List D → List D
  | x :: xs, y :: ys => .tup [x, y] :: zipD xs ys
  | _, _ => []
theorem zipD_get : ∀ (xs ys : List D) (i : Nat), (zipD xs ys)[i]? = match xs[i]?, ys[i]? with
    | some x, some y => some (.tup [x, y])
    | _, _ => none
  | [], _, i => by simp [zipD]
  | x :: xs, [], i => by
    simp only [zipD, List.getElem?_nil]
    split <;> simp_all
  | x :: xs, y :: ys, 0 => by simp [zipD]
  | x :: xs, y :: ys, i + 1 => by simp only [zipD, List.getElem?_cons_succ, zipD_get xs ys i]
theorem zipD_length : ∀ (xs ys : List D), (zipD xs ys).length = min xs.length ys.length
  | [], _ => by simp [zipD]
  | x :: xs, [] => by simp [zipD]
  | x :: xs, y :: ys => by
    simp only [zipD, List.length_cons, zipD_length xs ys]
    omega
theorem ext_two {K Hs H T x y d e} (s : Same Hs H) (hT : H T = none) (dx : Den K Hs d x) (dy : Den K Hs e y) : Ext Hs H (upd Hs T (.tup [x, y])) (upd H T (.tup [x, y])) ∧ Den K (upd Hs T (.tup [x, y])) (.tup [d, e]) (.ref T) := by
  have ex := Ext.new (o := .tup [x, y]) s hT
  exact ⟨ex, T, _, rfl, upd_same, x, [y], rfl, dx.mono ex.s, y, [], rfl, dy.mono ex.s, rfl⟩
/-- what zip takes: both lists, or both tuples -/
noncomputable def zip2 : D → D → Option (List D)
  | .lst ds, .lst es => some (zipD ds es)
  | .tup ds, .tup es => some (zipD ds es)
  | .ftup ds, .tup es => some (zipD ds es)
  | .tup ds, .ftup es => some (zipD ds es)
  | .ftup ds, .ftup es => some (zipD ds es)
  | _, _ => none
section
variable {X : Cx} {mg : Str → Option Value} {W : WX} {a b : Expr} {fa fb : Env' → Res (RV × Env')} {pos p tpos : Pos}
noncomputable def iZip (fa fb : Env' → Res (RV × Env')) : Env' → Res (List D × Env') := fun ρ => (aConsE fa (aConsE fb aNil) ρ).bind fun (rs, ρ1) => match rs with
  | [.leaf d, .leaf e] => (Res.of (zip2 d e)).bind fun ds => .ok (ds, ρ1)
  | _ => .bad
end
end FL
namespace FL
open PySem PySem.Spec PyProof.Rows L2
theorem DenL.snoc {K Hs} {d : D} {v : V} (hd : Den K Hs d v) : ∀ {ds : List D} {vs : List V}, DenL K Hs ds vs → DenL K Hs (ds ++ [d]) (vs ++ [v])
  | [], _, h => by cases h; exact ⟨v, [], rfl, hd, rfl⟩
  | _ :: _, _, ⟨w, ws, e, h1, h2⟩ => by subst e; exact ⟨w, ws ++ [v], rfl, h1, DenL.snoc hd h2⟩
theorem DenL.rev {K Hs} : ∀ {ds : List D} {vs : List V}, DenL K Hs ds vs → DenL K Hs ds.reverse vs.reverse
  | [], _, h => by cases h; rfl
  | _ :: _, _, ⟨w, ws, e, h1, h2⟩ => by
    subst e
    rw [List.reverse_cons, List.reverse_cons]
    exact DenL.snoc h1 (DenL.rev h2)
noncomputable def D.rev : D → Option D
  | .lst ds => some (.tup ds.reverse)
  | .fz ds => some (.tup ds.reverse)
  | _ => none
end FL
namespace FL
open PySem PySem.Spec PyProof.Rows L2
/-! ### reckoning with mirrors: from the left, a step at a time -/
@[simp ↓] theorem bind_bind {α β γ : Type} (x : Res α) (f : α → Res β) (k : β → Res γ) : (x.bind f).bind k = x.bind fun a => (f a).bind k := by cases x <;> rfl
@[simp ↓] theorem bind_okp {α β : Type} (a : α) (k : α → Res β) : (Res.ok a).bind k = k a := rfl
@[simp ↓] theorem of_bind_some {α β : Type} (a : α) (k : α → Res β) : (Res.of (some a)).bind k = k a := rfl
@[simp ↓] theorem of_bind_none {α β : Type} (k : α → Res β) : (Res.of (none : Option α)).bind k = .bad := rfl
section
@[simp ↓] theorem eC_bind {β : Type} (d : D) (ρ : Env') (k : _ → Res β) : (eC d ρ).bind k = Res.bind (.ok (.leaf d, ρ)) k := rfl
@[simp ↓] theorem eVar_bind {β : Type} (i : Nat) (ρ : Env') (k : _ → Res β) : (eVar i ρ).bind k = Res.bind (match ρ[i]? with
  | some (some (.sh d)) => .ok (.leaf d, ρ)
  | some (some _) => .ok (.slot i, ρ)
  | _ => .bad) k := rfl
@[simp ↓] theorem eBin_bind {β : Type} (g : D → D → Option D) (fa fb : Env' → Res (RV × Env')) (ρ : Env') (k : _ → Res β) : (eBin g fa fb ρ).bind k = Res.bind ((fa ρ).bind fun (r1, ρ1) => (fb ρ1).bind fun (r2, ρ2) => (Res.of (look ρ2 r1)).bind fun d1 => (Res.of (look ρ2 r2)).bind fun d2 => (Res.of (g d1 d2)).bind fun d => .ok (.leaf d, ρ2)) k := rfl
@[simp ↓] theorem eUn_bind {β : Type} (g : D → Option D) (fa : Env' → Res (RV × Env')) (ρ : Env') (k : _ → Res β) : (eUn g fa ρ).bind k = Res.bind ((fa ρ).bind fun (r1, ρ1) => (Res.of (look ρ1 r1)).bind fun d1 => (Res.of (g d1)).bind fun d => .ok (.leaf d, ρ1)) k := rfl
@[simp ↓] theorem eB_bind {β : Type} (g : List D → Option D) (fs : Env' → Res (List RV × Env')) (ρ : Env') (k : _ → Res β) : (eB g fs ρ).bind k = Res.bind ((fs ρ).bind fun (rs, ρ1) => (Res.of (looks ρ1 rs)).bind fun ds => (Res.of (g ds)).bind fun d => .ok (.leaf d, ρ1)) k := rfl
@[simp ↓] theorem eTup_bind {β : Type} (fs : Env' → Res (List RV × Env')) (ρ : Env') (k : _ → Res β) : (eTup fs ρ).bind k = Res.bind ((fs ρ).bind fun (rs, ρ1) => (Res.of (leafs rs)).bind fun ds => if ds.length ≤ sizeLine then .ok (.leaf (.tup ds), ρ1) else .bad) k := rfl
@[simp ↓] theorem eAnd_bind {β : Type} (fa fb : Env' → Res (RV × Env')) (ρ : Env') (k : _ → Res β) : (eAnd fa fb ρ).bind k = Res.bind ((fa ρ).bind fun (r, ρ1) => match look ρ1 r with
  | some (.bl true) => fb ρ1
  | some (.bl false) => .ok (.leaf (.bl false), ρ1)
  | _ => .bad) k := rfl
@[simp ↓] theorem eOr_bind {β : Type} (fa fb : Env' → Res (RV × Env')) (ρ : Env') (k : _ → Res β) : (eOr fa fb ρ).bind k = Res.bind ((fa ρ).bind fun (r, ρ1) => match look ρ1 r with
  | some (.bl false) => fb ρ1
  | some (.bl true) => .ok (.leaf (.bl true), ρ1)
  | _ => .bad) k := rfl
@[simp ↓] theorem eNot_bind {β : Type} (fa : Env' → Res (RV × Env')) (ρ : Env') (k : _ → Res β) : (eNot fa ρ).bind k = Res.bind ((fa ρ).bind fun (r, ρ1) => match look ρ1 r with
  | some (.bl b) => .ok (.leaf (.bl (!b)), ρ1)
  | _ => .bad) k := rfl
@[simp ↓] theorem eIf_bind {β : Type} (tc : Env' → Res (Bool × Env')) (fa fb : Env' → Res (RV × Env')) (ρ : Env') (k : _ → Res β) : (eIf tc fa fb ρ).bind k = Res.bind ((tc ρ).bind fun (b, ρ1) => if b = true then fa ρ1 else fb ρ1) k := rfl
@[simp ↓] theorem eChain_bind {β : Type} (g g' : D → D → Option D) (fa fb fc : Env' → Res (RV × Env')) (ρ : Env') (k : _ → Res β) : (eChain g g' fa fb fc ρ).bind k = Res.bind ((fa ρ).bind fun (r1, ρ1) => (fb ρ1).bind fun (r2, ρ2) => (Res.of (look ρ2 r1)).bind fun d1 => (Res.of (look ρ2 r2)).bind fun d2 => match g d1 d2 with
    | some (.bl true) => (fc ρ2).bind fun (r3, ρ3) => (Res.of (look ρ3 r2)).bind fun d2 => (Res.of (look ρ3 r3)).bind fun d3 => (Res.of (g' d2 d3)).bind fun d => .ok (.leaf d, ρ3)
    | some (.bl false) => .ok (.leaf (.bl false), ρ2)
    | _ => .bad) k := rfl
@[simp ↓] theorem eSl_bind {β : Type} (fa : Env' → Res (RV × Env')) (fl fh : Env' → Res (Option Int × Env')) (ρ : Env') (k : _ → Res β) : (eSl fa fl fh ρ).bind k = Res.bind ((fa ρ).bind fun (r, ρ1) => (fl ρ1).bind fun (lo, ρ2) => (fh ρ2).bind fun (hi, ρ3) => (Res.of ((look ρ3 r).bind (D.sl lo hi))).bind fun d => .ok (.leaf d, ρ3)) k := rfl
@[simp ↓] theorem oOf_bind {β : Type} (na : Env' → Res (T × Env')) (ρ : Env') (k : _ → Res β) : (oOf na ρ).bind k = Res.bind ((na ρ).bind fun (t, ρ1) => .ok (.leaf t.d, ρ1)) k := rfl
@[simp ↓] theorem nOf_bind {β : Type} (fa : Env' → Res (RV × Env')) (ρ : Env') (k : _ → Res β) : (nOf fa ρ).bind k = Res.bind ((fa ρ).bind fun (r, ρ1) => (Res.of (esc ρ1 r)).bind fun (d, ρ2) => .ok (.sh d, ρ2)) k := rfl
@[simp ↓] theorem nB_bind {β : Type} (g : List D → Option (List D)) (fs : Env' → Res (List RV × Env')) (ρ : Env') (k : _ → Res β) : (nB g fs ρ).bind k = Res.bind ((fs ρ).bind fun (rs, ρ1) => (Res.of (looks ρ1 rs)).bind fun ds => (Res.of (g ds)).bind fun es => .ok (.lst (es.map T.sh), ρ1)) k := rfl
@[simp ↓] theorem nLst_bind {β : Type} (ns : Env' → Res (List T × Env')) (ρ : Env') (k : _ → Res β) : (nLst ns ρ).bind k = Res.bind ((ns ρ).bind fun (ts, ρ1) => if ts.length ≤ sizeLine then .ok (.lst ts, ρ1) else .bad) k := rfl
@[simp ↓] theorem nBin_bind {β : Type} (g : D → D → Option (List D)) (fa fb : Env' → Res (RV × Env')) (ρ : Env') (k : _ → Res β) : (nBin g fa fb ρ).bind k = Res.bind ((fa ρ).bind fun (r1, ρ1) => (fb ρ1).bind fun (r2, ρ2) => (Res.of (look ρ2 r1)).bind fun d1 => (Res.of (look ρ2 r2)).bind fun d2 => (Res.of (g d1 d2)).bind fun es => .ok (.lst (es.map T.sh), ρ2)) k := rfl
@[simp ↓] theorem nSl_bind {β : Type} (fa : Env' → Res (RV × Env')) (fl fh : Env' → Res (Option Int × Env')) (ρ : Env') (k : _ → Res β) : (nSl fa fl fh ρ).bind k = Res.bind ((fa ρ).bind fun (r, ρ1) => (fl ρ1).bind fun (lo, ρ2) => (fh ρ2).bind fun (hi, ρ3) => match look ρ3 r with
    | some (.lst ds) => .ok (.lst ((cutD ds lo hi).map T.sh), ρ3)
    | some (.fz ds) => .ok (.lst ((cutD ds lo hi).map T.sh), ρ3)
    | _ => .bad) k := rfl
@[simp ↓] theorem nIf_bind {β : Type} (tc : Env' → Res (Bool × Env')) (na nb : Env' → Res (T × Env')) (ρ : Env') (k : _ → Res β) : (nIf tc na nb ρ).bind k = Res.bind ((tc ρ).bind fun (b, ρ1) => if b = true then na ρ1 else nb ρ1) k := rfl
@[simp ↓] theorem nLc_bind {β : Type} (fi : Env' → Res (List D × Env')) (gt : D → Env' → Option Env') (tt : Env' → Res (Bool × Env')) (ne : Env' → Res (T × Env')) (vs : List Nat) (ρ : Env') (k : _ → Res β) : (nLc fi gt tt ne vs ρ).bind k = Res.bind ((fi ρ).bind fun (ds, ρ1) => if ds.length ≤ sizeLine then (lcGo gt tt ne vs ds (wipeE ρ1 vs)).bind fun (ts, ρ2) => .ok (.lst ts, backE ρ1 ρ2 vs) else .bad) k := rfl
@[simp ↓] theorem eM_bind {β : Type} (T : String) (g : D → List D → Option D) (fa : Env' → Res (RV × Env')) (fs : Env' → Res (List RV × Env')) (ρ : Env') (k : _ → Res β) : (eM T g fa fs ρ).bind k = Res.bind ((fa ρ).bind fun (r, ρ1) => (Res.of (look ρ1 r)).bind fun d0 => if D.isTy T d0 = true then (fs ρ1).bind fun (rs, ρ2) => (Res.of (look ρ2 r)).bind fun d => (Res.of (looks ρ2 rs)).bind fun ds => (Res.of (g d ds)).bind fun e => .ok (.leaf e, ρ2) else .bad) k := rfl
@[simp ↓] theorem eCall_bind {β : Type} (m : List D → Out D) (fs : Env' → Res (List RV × Env')) (ρ : Env') (k : _ → Res β) : (eCall m fs ρ).bind k = Res.bind ((fs ρ).bind fun (rs, ρ1) => (Res.of (leafs rs)).bind fun ds => match m ds with
  | .ok d => .ok (.leaf d, ρ1)
  | .exc c => .exc c ρ1
  | .bad => .bad) k := rfl
@[simp ↓] theorem nCall_bind {β : Type} (m : List D → Out T) (fs : Env' → Res (List RV × Env')) (ρ : Env') (k : _ → Res β) : (nCall m fs ρ).bind k = Res.bind ((fs ρ).bind fun (rs, ρ1) => (Res.of (leafs rs)).bind fun ds => match m ds with
  | .ok t => .ok (t, ρ1)
  | .exc c => .exc c ρ1
  | .bad => .bad) k := rfl
@[simp ↓] theorem ePop_bind {β : Type} (i : Nat) (ρ : Env') (k : _ → Res β) : (ePop i ρ).bind k = Res.bind (match ρ[i]? with
  | some (some (.lst ts)) => match ts[ts.length - 1]? with
    | some (.sh d) => .ok (.leaf d, ρ.set i (some (.lst ts.dropLast)))
    | _ => .bad
  | _ => .bad) k := rfl
@[simp ↓] theorem aNil_bind {β : Type} (ρ : Env') (k : _ → Res β) : (aNil  ρ).bind k = Res.bind (.ok ([], ρ)) k := rfl
@[simp ↓] theorem aCons_bind {β : Type} (fa : Env' → Res (RV × Env')) (fr : Env' → Res (List RV × Env')) (ρ : Env') (k : _ → Res β) : (aCons fa fr ρ).bind k = Res.bind ((fa ρ).bind fun (r, ρ1) => (fr ρ1).bind fun (rs, ρ2) => .ok (r :: rs, ρ2)) k := rfl
@[simp ↓] theorem aConsE_bind {β : Type} (fa : Env' → Res (RV × Env')) (fr : Env' → Res (List RV × Env')) (ρ : Env') (k : _ → Res β) : (aConsE fa fr ρ).bind k = Res.bind ((fa ρ).bind fun (r, ρ1) => (Res.of (esc ρ1 r)).bind fun (d, ρ1') => (fr ρ1').bind fun (rs, ρ2) => .ok (.leaf d :: rs, ρ2)) k := rfl
@[simp ↓] theorem atNil_bind {β : Type} (ρ : Env') (k : _ → Res β) : (atNil  ρ).bind k = Res.bind (.ok ([], ρ)) k := rfl
@[simp ↓] theorem atCons_bind {β : Type} (na : Env' → Res (T × Env')) (nr : Env' → Res (List T × Env')) (ρ : Env') (k : _ → Res β) : (atCons na nr ρ).bind k = Res.bind ((na ρ).bind fun (t, ρ1) => (nr ρ1).bind fun (ts, ρ2) => .ok (t :: ts, ρ2)) k := rfl
@[simp ↓] theorem tstV_bind {β : Type} (fa : Env' → Res (RV × Env')) (ρ : Env') (k : _ → Res β) : (tstV fa ρ).bind k = Res.bind ((fa ρ).bind fun (r, ρ1) => match look ρ1 r with
  | some (.bl b) => .ok (b, ρ1)
  | _ => .bad) k := rfl
@[simp ↓] theorem tstT_bind {β : Type} (fa : Env' → Res (RV × Env')) (ρ : Env') (k : _ → Res β) : (tstT fa ρ).bind k = Res.bind ((fa ρ).bind fun (r, ρ1) => (Res.of ((look ρ1 r).bind D.truth)).bind fun b => .ok (b, ρ1)) k := rfl
@[simp ↓] theorem tstNot_bind {β : Type} (ta : Env' → Res (Bool × Env')) (ρ : Env') (k : _ → Res β) : (tstNot ta ρ).bind k = Res.bind ((ta ρ).bind fun (b, ρ1) => .ok (!b, ρ1)) k := rfl
@[simp ↓] theorem tstAnd_bind {β : Type} (ta tb : Env' → Res (Bool × Env')) (ρ : Env') (k : _ → Res β) : (tstAnd ta tb ρ).bind k = Res.bind ((ta ρ).bind fun (b, ρ1) => if b = true then tb ρ1 else .ok (false, ρ1)) k := rfl
@[simp ↓] theorem tstOr_bind {β : Type} (ta tb : Env' → Res (Bool × Env')) (ρ : Env') (k : _ → Res β) : (tstOr ta tb ρ).bind k = Res.bind ((ta ρ).bind fun (b, ρ1) => if b = true then .ok (true, ρ1) else tb ρ1) k := rfl
@[simp ↓] theorem pNone_bind {β : Type} (ρ : Env') (k : _ → Res β) : (pNone  ρ).bind k = Res.bind (.ok (none, ρ)) k := rfl
@[simp ↓] theorem pSome_bind {β : Type} (fa : Env' → Res (RV × Env')) (ρ : Env') (k : _ → Res β) : (pSome fa ρ).bind k = Res.bind ((fa ρ).bind fun (r, ρ1) => match look ρ1 r with
  | some (.int i) => .ok (some i, ρ1)
  | _ => .bad) k := rfl
@[simp ↓] theorem ttYes_bind {β : Type} (ρ : Env') (k : _ → Res β) : (ttYes  ρ).bind k = Res.bind (.ok (true, ρ)) k := rfl
@[simp ↓] theorem sNil_bind {β : Type} (ρ : Env') (k : _ → Res β) : (sNil  ρ).bind k = Res.bind (.ok (.nx ρ)) k := rfl
@[simp ↓] theorem sSeq_bind {β : Type} (f g : Env' → Res Fl) (ρ : Env') (k : _ → Res β) : (sSeq f g ρ).bind k = Res.bind ((f ρ).bind fun r => match r with
  | .nx ρ' => g ρ'
  | r => .ok r) k := rfl
@[simp ↓] theorem sExpr_bind {β : Type} (fa : Env' → Res (RV × Env')) (ρ : Env') (k : _ → Res β) : (sExpr fa ρ).bind k = Res.bind ((fa ρ).bind fun (_, ρ1) => .ok (.nx ρ1)) k := rfl
@[simp ↓] theorem sSet_bind {β : Type} (i : Nat) (na : Env' → Res (T × Env')) (ρ : Env') (k : _ → Res β) : (sSet i na ρ).bind k = Res.bind ((na ρ).bind fun (t, ρ1) => if i < ρ1.length then .ok (.nx (ρ1.set i (some t))) else .bad) k := rfl
@[simp ↓] theorem sRet_bind {β : Type} (na : Env' → Res (T × Env')) (ρ : Env') (k : _ → Res β) : (sRet na ρ).bind k = Res.bind ((na ρ).bind fun (t, ρ1) => .ok (.rt t ρ1)) k := rfl
@[simp ↓] theorem sRetN_bind {β : Type} (ρ : Env') (k : _ → Res β) : (sRetN  ρ).bind k = Res.bind (.ok (.rt (.sh .non) ρ)) k := rfl
@[simp ↓] theorem sRetOwn_bind {β : Type} (i : Nat) (ρ : Env') (k : _ → Res β) : (sRetOwn i ρ).bind k = Res.bind (match ρ[i]? with
  | some (some t) => .ok (.rt t (ρ.set i none))
  | _ => .bad) k := rfl
@[simp ↓] theorem sIf_bind {β : Type} (ta : Env' → Res (Bool × Env')) (f g : Env' → Res Fl) (ρ : Env') (k : _ → Res β) : (sIf ta f g ρ).bind k = Res.bind ((ta ρ).bind fun (b, ρ1) => if b = true then f ρ1 else g ρ1) k := rfl
@[simp ↓] theorem sBk_bind {β : Type} (ρ : Env') (k : _ → Res β) : (sBk  ρ).bind k = Res.bind (.ok (.bk ρ)) k := rfl
@[simp ↓] theorem sCt_bind {β : Type} (ρ : Env') (k : _ → Res β) : (sCt  ρ).bind k = Res.bind (.ok (.ct ρ)) k := rfl
@[simp ↓] theorem sFor_bind {β : Type} (fi : Env' → Res (List D × Env')) (gt : D → Env' → Option Env') (f : Env' → Res Fl) (ρ : Env') (k : _ → Res β) : (sFor fi gt f ρ).bind k = Res.bind ((fi ρ).bind fun (ds, ρ1) => forGo gt f ds ρ1) k := rfl
@[simp ↓] theorem sUnpack_bind {β : Type} (fa : Env' → Res (RV × Env')) (gt : D → Env' → Option Env') (ρ : Env') (k : _ → Res β) : (sUnpack fa gt ρ).bind k = Res.bind ((fa ρ).bind fun (r, ρ1) => (Res.of (esc ρ1 r)).bind fun (d, ρ2) => (Res.of (gt d ρ2)).bind fun ρ3 => .ok (.nx ρ3)) k := rfl
@[simp ↓] theorem sPar_bind {β : Type} (i j : Nat) (fs : Env' → Res (List RV × Env')) (ρ : Env') (k : _ → Res β) : (sPar i j fs ρ).bind k = Res.bind ((fs ρ).bind fun (rs, ρ1) => match rs with
  | [.leaf d, .leaf e] => if i < ρ1.length ∧ j < ρ1.length then .ok (.nx ((ρ1.set i (some (.sh d))).set j (some (.sh e)))) else .bad
  | _ => .bad) k := rfl
@[simp ↓] theorem sAug_bind {β : Type} (i : Nat) (g : D → D → Option D) (fa : Env' → Res (RV × Env')) (ρ : Env') (k : _ → Res β) : (sAug i g fa ρ).bind k = Res.bind (match ρ[i]? with
  | some (some (.sh d1)) => (fa ρ).bind fun (r, ρ1) => (Res.of (look ρ1 r)).bind fun d2 => (Res.of (g d1 d2)).bind fun d => if i < ρ1.length then .ok (.nx (ρ1.set i (some (.sh d)))) else .bad
  | _ => .bad) k := rfl
@[simp ↓] theorem sAppend_bind {β : Type} (i : Nat) (na : Env' → Res (T × Env')) (ρ : Env') (k : _ → Res β) : (sAppend i na ρ).bind k = Res.bind (match ρ[i]? with
  | some (some (.lst _)) => (na ρ).bind fun (t, ρ1) => match ρ1[i]? with
    | some (some (.lst ts)) => if ts.length < sizeLine then .ok (.nx (ρ1.set i (some (.lst (ts ++ [t]))))) else .bad
    | _ => .bad
  | _ => .bad) k := rfl
@[simp ↓] theorem sExtend_bind {β : Type} (i : Nat) (fa : Env' → Res (RV × Env')) (ρ : Env') (k : _ → Res β) : (sExtend i fa ρ).bind k = Res.bind (match ρ[i]? with
  | some (some (.lst _)) => (fa ρ).bind fun (r, ρ1) => match look ρ1 r with
    | some (.lst ds) => match ρ1[i]? with
      | some (some (.lst ts)) => if ts.length + ds.length ≤ sizeLine then .ok (.nx (ρ1.set i (some (.lst (ts ++ ds.map T.sh))))) else .bad
      | _ => .bad
    | _ => .bad
  | _ => .bad) k := rfl
@[simp ↓] theorem sSetIx_bind {β : Type} (i : Nat) (na : Env' → Res (T × Env')) (fb : Env' → Res (RV × Env')) (ρ : Env') (k : _ → Res β) : (sSetIx i na fb ρ).bind k = Res.bind ((na ρ).bind fun (t, ρ1) => match t, ρ1[i]? with
  | .sh d, some (some _) => (fb ρ1).bind fun (r, ρ2) => match look ρ2 r, ρ2[i]? with
    | some (.int k), some (some (.lst ts)) => match ixN ts.length k with
      | some j => match ts[j]? with
        | some (.sh _) => .ok (.nx (ρ2.set i (some (.lst (ts.set j (.sh d))))))
        | _ => .bad
      | none => .bad
    | _, _ => .bad
  | _, _ => .bad) k := rfl
@[simp ↓] theorem sAugIx_bind {β : Type} (i : Nat) (g : D → D → Option D) (fb fa : Env' → Res (RV × Env')) (ρ : Env') (k : _ → Res β) : (sAugIx i g fb fa ρ).bind k = Res.bind (match ρ[i]? with
  | some (some _) => (fb ρ).bind fun (r, ρ1) => match look ρ1 r, ρ1[i]? with
    | some (.int k), some (some (.lst ts)) => match (ixN ts.length k).bind fun j => ts[j]? with
      | some (.sh d1) => (fa ρ1).bind fun (r2, ρ2) => (Res.of (look ρ2 r2)).bind fun d2 => (Res.of (g d1 d2)).bind fun d => match ρ2[i]? with
        | some (some (.lst ts2)) => match ixN ts2.length k with
          | some j => match ts2[j]? with
            | some (.sh _) => .ok (.nx (ρ2.set i (some (.lst (ts2.set j (.sh d))))))
            | _ => .bad
          | none => .bad
        | _ => .bad
      | _ => .bad
    | _, _ => .bad
  | _ => .bad) k := rfl
@[simp ↓] theorem sRaise_bind {β : Type} (x : Str) (ρ : Env') (k : _ → Res β) : (sRaise x ρ).bind k = Res.bind (.exc x ρ) k := rfl
@[simp ↓] theorem iSeq_bind {β : Type} (fa : Env' → Res (RV × Env')) (ρ : Env') (k : _ → Res β) : (iSeq fa ρ).bind k = Res.bind ((fa ρ).bind fun (r, ρ1) => (Res.of (esc ρ1 r)).bind fun (d, ρ2) => (Res.of d.walk).bind fun ds => .ok (ds, ρ2)) k := rfl
@[simp ↓] theorem iRange1_bind {β : Type} (fs : Env' → Res (List RV × Env')) (ρ : Env') (k : _ → Res β) : (iRange1 fs ρ).bind k = Res.bind ((fs ρ).bind fun (rs, ρ1) => match looks ρ1 rs with
  | some [.int j] => if rOk j then .ok (rangeD 0 j.toNat, ρ1) else .bad
  | _ => .bad) k := rfl
@[simp ↓] theorem iRange2_bind {β : Type} (fs : Env' → Res (List RV × Env')) (ρ : Env') (k : _ → Res β) : (iRange2 fs ρ).bind k = Res.bind ((fs ρ).bind fun (rs, ρ1) => match looks ρ1 rs with
  | some [.int i, .int j] => if rOk i ∧ rOk j then .ok (rangeD i (j - i).toNat, ρ1) else .bad
  | _ => .bad) k := rfl
@[simp ↓] theorem iEnum_bind {β : Type} (fa : Env' → Res (RV × Env')) (ρ : Env') (k : _ → Res β) : (iEnum fa ρ).bind k = Res.bind ((aConsE fa aNil ρ).bind fun (rs, ρ1) => match rs with
  | [.leaf d] => (Res.of d.walk).bind fun ds => .ok (enumFrom 0 ds, ρ1)
  | _ => .bad) k := rfl
end
@[simp] theorem look_leaf (ρ : Env') (d : D) : look ρ (.leaf d) = some d := rfl
@[simp] theorem look_slot (ρ : Env') (i : Nat) : look ρ (.slot i) = (match ρ[i]? with | some (some t) => t.top | _ => none) := rfl
@[simp] theorem looks_nil (ρ : Env') : looks ρ [] = some [] := rfl
@[simp] theorem looks_cons (ρ : Env') (r : RV) (rs : List RV) : looks ρ (r :: rs) = (look ρ r).bind fun d => (looks ρ rs).map (d :: ·) := rfl
@[simp] theorem esc_leaf (ρ : Env') (d : D) : esc ρ (.leaf d) = some (d, ρ) := rfl
@[simp] theorem esc_slot (ρ : Env') (i : Nat) : esc ρ (.slot i) = (match ρ[i]? with | some (some t) => some (t.d, ρ.set i (some (.sh t.d))) | _ => none) := rfl
@[simp] theorem top_sh (d : D) : (T.sh d).top = some d := rfl
@[simp] theorem d_sh (d : D) : (T.sh d).d = d := rfl
@[simp] theorem leafs_nil : eTup.leafs [] = some [] := rfl
@[simp] theorem leafs_cons (d : D) (rs : List RV) : eTup.leafs (.leaf d :: rs) = (eTup.leafs rs).map (d :: ·) := rfl
@[simp] theorem leafs_eq (rs : List RV) : leafs rs = eTup.leafs rs := rfl
/-! ### what comes of a mirror, where it comes to an end -/
structure Res.sat {α : Type} (r : Res α) (P : α → Prop) : Prop where
  of :: (h : match r with
    | .ok a => P a
    | _ => False)
@[simp] theorem sat_ok {α : Type} (a : α) (P : α → Prop) : (Res.ok a).sat P = P a := propext ⟨fun h => h.h, fun h => ⟨h⟩⟩
@[simp] theorem sat_bad {α : Type} (P : α → Prop) : (Res.bad : Res α).sat P = False := propext ⟨fun h => h.h, fun h => h.elim⟩
@[simp] theorem sat_exc {α : Type} (c : Str) (ρ : Env') (P : α → Prop) : (Res.exc c ρ : Res α).sat P = False := propext ⟨fun h => h.h, fun h => h.elim⟩
@[simp ↓] theorem eC_sat (d : D) (ρ : Env') (P : _ → Prop) : (eC d ρ).sat P = Res.sat (.ok (.leaf d, ρ)) P := rfl
@[simp ↓] theorem eVar_sat (i : Nat) (ρ : Env') (P : _ → Prop) : (eVar i ρ).sat P = Res.sat (match ρ[i]? with
  | some (some (.sh d)) => .ok (.leaf d, ρ)
  | some (some _) => .ok (.slot i, ρ)
  | _ => .bad) P := rfl
@[simp ↓] theorem eBin_sat (g : D → D → Option D) (fa fb : Env' → Res (RV × Env')) (ρ : Env') (P : _ → Prop) : (eBin g fa fb ρ).sat P = Res.sat ((fa ρ).bind fun (r1, ρ1) => (fb ρ1).bind fun (r2, ρ2) => (Res.of (look ρ2 r1)).bind fun d1 => (Res.of (look ρ2 r2)).bind fun d2 => (Res.of (g d1 d2)).bind fun d => .ok (.leaf d, ρ2)) P := rfl
@[simp ↓] theorem eUn_sat (g : D → Option D) (fa : Env' → Res (RV × Env')) (ρ : Env') (P : _ → Prop) : (eUn g fa ρ).sat P = Res.sat ((fa ρ).bind fun (r1, ρ1) => (Res.of (look ρ1 r1)).bind fun d1 => (Res.of (g d1)).bind fun d => .ok (.leaf d, ρ1)) P := rfl
@[simp ↓] theorem eB_sat (g : List D → Option D) (fs : Env' → Res (List RV × Env')) (ρ : Env') (P : _ → Prop) : (eB g fs ρ).sat P = Res.sat ((fs ρ).bind fun (rs, ρ1) => (Res.of (looks ρ1 rs)).bind fun ds => (Res.of (g ds)).bind fun d => .ok (.leaf d, ρ1)) P := rfl
@[simp ↓] theorem eTup_sat (fs : Env' → Res (List RV × Env')) (ρ : Env') (P : _ → Prop) : (eTup fs ρ).sat P = Res.sat ((fs ρ).bind fun (rs, ρ1) => (Res.of (leafs rs)).bind fun ds => if ds.length ≤ sizeLine then .ok (.leaf (.tup ds), ρ1) else .bad) P := rfl
@[simp ↓] theorem eAnd_sat (fa fb : Env' → Res (RV × Env')) (ρ : Env') (P : _ → Prop) : (eAnd fa fb ρ).sat P = Res.sat ((fa ρ).bind fun (r, ρ1) => match look ρ1 r with
  | some (.bl true) => fb ρ1
  | some (.bl false) => .ok (.leaf (.bl false), ρ1)
  | _ => .bad) P := rfl
@[simp ↓] theorem eOr_sat (fa fb : Env' → Res (RV × Env')) (ρ : Env') (P : _ → Prop) : (eOr fa fb ρ).sat P = Res.sat ((fa ρ).bind fun (r, ρ1) => match look ρ1 r with
  | some (.bl false) => fb ρ1
  | some (.bl true) => .ok (.leaf (.bl true), ρ1)
  | _ => .bad) P := rfl
@[simp ↓] theorem eNot_sat (fa : Env' → Res (RV × Env')) (ρ : Env') (P : _ → Prop) : (eNot fa ρ).sat P = Res.sat ((fa ρ).bind fun (r, ρ1) => match look ρ1 r with
  | some (.bl b) => .ok (.leaf (.bl (!b)), ρ1)
  | _ => .bad) P := rfl
@[simp ↓] theorem eIf_sat (tc : Env' → Res (Bool × Env')) (fa fb : Env' → Res (RV × Env')) (ρ : Env') (P : _ → Prop) : (eIf tc fa fb ρ).sat P = Res.sat ((tc ρ).bind fun (b, ρ1) => if b = true then fa ρ1 else fb ρ1) P := rfl
@[simp ↓] theorem eChain_sat (g g' : D → D → Option D) (fa fb fc : Env' → Res (RV × Env')) (ρ : Env') (P : _ → Prop) : (eChain g g' fa fb fc ρ).sat P = Res.sat ((fa ρ).bind fun (r1, ρ1) => (fb ρ1).bind fun (r2, ρ2) => (Res.of (look ρ2 r1)).bind fun d1 => (Res.of (look ρ2 r2)).bind fun d2 => match g d1 d2 with
    | some (.bl true) => (fc ρ2).bind fun (r3, ρ3) => (Res.of (look ρ3 r2)).bind fun d2 => (Res.of (look ρ3 r3)).bind fun d3 => (Res.of (g' d2 d3)).bind fun d => .ok (.leaf d, ρ3)
    | some (.bl false) => .ok (.leaf (.bl false), ρ2)
    | _ => .bad) P := rfl
@[simp ↓] theorem eSl_sat (fa : Env' → Res (RV × Env')) (fl fh : Env' → Res (Option Int × Env')) (ρ : Env') (P : _ → Prop) : (eSl fa fl fh ρ).sat P = Res.sat ((fa ρ).bind fun (r, ρ1) => (fl ρ1).bind fun (lo, ρ2) => (fh ρ2).bind fun (hi, ρ3) => (Res.of ((look ρ3 r).bind (D.sl lo hi))).bind fun d => .ok (.leaf d, ρ3)) P := rfl
@[simp ↓] theorem oOf_sat (na : Env' → Res (T × Env')) (ρ : Env') (P : _ → Prop) : (oOf na ρ).sat P = Res.sat ((na ρ).bind fun (t, ρ1) => .ok (.leaf t.d, ρ1)) P := rfl
@[simp ↓] theorem nOf_sat (fa : Env' → Res (RV × Env')) (ρ : Env') (P : _ → Prop) : (nOf fa ρ).sat P = Res.sat ((fa ρ).bind fun (r, ρ1) => (Res.of (esc ρ1 r)).bind fun (d, ρ2) => .ok (.sh d, ρ2)) P := rfl
@[simp ↓] theorem nB_sat (g : List D → Option (List D)) (fs : Env' → Res (List RV × Env')) (ρ : Env') (P : _ → Prop) : (nB g fs ρ).sat P = Res.sat ((fs ρ).bind fun (rs, ρ1) => (Res.of (looks ρ1 rs)).bind fun ds => (Res.of (g ds)).bind fun es => .ok (.lst (es.map T.sh), ρ1)) P := rfl
@[simp ↓] theorem nLst_sat (ns : Env' → Res (List T × Env')) (ρ : Env') (P : _ → Prop) : (nLst ns ρ).sat P = Res.sat ((ns ρ).bind fun (ts, ρ1) => if ts.length ≤ sizeLine then .ok (.lst ts, ρ1) else .bad) P := rfl
@[simp ↓] theorem nBin_sat (g : D → D → Option (List D)) (fa fb : Env' → Res (RV × Env')) (ρ : Env') (P : _ → Prop) : (nBin g fa fb ρ).sat P = Res.sat ((fa ρ).bind fun (r1, ρ1) => (fb ρ1).bind fun (r2, ρ2) => (Res.of (look ρ2 r1)).bind fun d1 => (Res.of (look ρ2 r2)).bind fun d2 => (Res.of (g d1 d2)).bind fun es => .ok (.lst (es.map T.sh), ρ2)) P := rfl
@[simp ↓] theorem nSl_sat (fa : Env' → Res (RV × Env')) (fl fh : Env' → Res (Option Int × Env')) (ρ : Env') (P : _ → Prop) : (nSl fa fl fh ρ).sat P = Res.sat ((fa ρ).bind fun (r, ρ1) => (fl ρ1).bind fun (lo, ρ2) => (fh ρ2).bind fun (hi, ρ3) => match look ρ3 r with
    | some (.lst ds) => .ok (.lst ((cutD ds lo hi).map T.sh), ρ3)
    | some (.fz ds) => .ok (.lst ((cutD ds lo hi).map T.sh), ρ3)
    | _ => .bad) P := rfl
@[simp ↓] theorem nIf_sat (tc : Env' → Res (Bool × Env')) (na nb : Env' → Res (T × Env')) (ρ : Env') (P : _ → Prop) : (nIf tc na nb ρ).sat P = Res.sat ((tc ρ).bind fun (b, ρ1) => if b = true then na ρ1 else nb ρ1) P := rfl
@[simp ↓] theorem nLc_sat (fi : Env' → Res (List D × Env')) (gt : D → Env' → Option Env') (tt : Env' → Res (Bool × Env')) (ne : Env' → Res (T × Env')) (vs : List Nat) (ρ : Env') (P : _ → Prop) : (nLc fi gt tt ne vs ρ).sat P = Res.sat ((fi ρ).bind fun (ds, ρ1) => if ds.length ≤ sizeLine then (lcGo gt tt ne vs ds (wipeE ρ1 vs)).bind fun (ts, ρ2) => .ok (.lst ts, backE ρ1 ρ2 vs) else .bad) P := rfl
@[simp ↓] theorem eM_sat (T : String) (g : D → List D → Option D) (fa : Env' → Res (RV × Env')) (fs : Env' → Res (List RV × Env')) (ρ : Env') (P : _ → Prop) : (eM T g fa fs ρ).sat P = Res.sat ((fa ρ).bind fun (r, ρ1) => (Res.of (look ρ1 r)).bind fun d0 => if D.isTy T d0 = true then (fs ρ1).bind fun (rs, ρ2) => (Res.of (look ρ2 r)).bind fun d => (Res.of (looks ρ2 rs)).bind fun ds => (Res.of (g d ds)).bind fun e => .ok (.leaf e, ρ2) else .bad) P := rfl
@[simp ↓] theorem eCall_sat (m : List D → Out D) (fs : Env' → Res (List RV × Env')) (ρ : Env') (P : _ → Prop) : (eCall m fs ρ).sat P = Res.sat ((fs ρ).bind fun (rs, ρ1) => (Res.of (leafs rs)).bind fun ds => match m ds with
  | .ok d => .ok (.leaf d, ρ1)
  | .exc c => .exc c ρ1
  | .bad => .bad) P := rfl
@[simp ↓] theorem nCall_sat (m : List D → Out T) (fs : Env' → Res (List RV × Env')) (ρ : Env') (P : _ → Prop) : (nCall m fs ρ).sat P = Res.sat ((fs ρ).bind fun (rs, ρ1) => (Res.of (leafs rs)).bind fun ds => match m ds with
  | .ok t => .ok (t, ρ1)
  | .exc c => .exc c ρ1
  | .bad => .bad) P := rfl
@[simp ↓] theorem ePop_sat (i : Nat) (ρ : Env') (P : _ → Prop) : (ePop i ρ).sat P = Res.sat (match ρ[i]? with
  | some (some (.lst ts)) => match ts[ts.length - 1]? with
    | some (.sh d) => .ok (.leaf d, ρ.set i (some (.lst ts.dropLast)))
    | _ => .bad
  | _ => .bad) P := rfl
@[simp ↓] theorem aNil_sat (ρ : Env') (P : _ → Prop) : (aNil  ρ).sat P = Res.sat (.ok ([], ρ)) P := rfl
@[simp ↓] theorem aCons_sat (fa : Env' → Res (RV × Env')) (fr : Env' → Res (List RV × Env')) (ρ : Env') (P : _ → Prop) : (aCons fa fr ρ).sat P = Res.sat ((fa ρ).bind fun (r, ρ1) => (fr ρ1).bind fun (rs, ρ2) => .ok (r :: rs, ρ2)) P := rfl
@[simp ↓] theorem aConsE_sat (fa : Env' → Res (RV × Env')) (fr : Env' → Res (List RV × Env')) (ρ : Env') (P : _ → Prop) : (aConsE fa fr ρ).sat P = Res.sat ((fa ρ).bind fun (r, ρ1) => (Res.of (esc ρ1 r)).bind fun (d, ρ1') => (fr ρ1').bind fun (rs, ρ2) => .ok (.leaf d :: rs, ρ2)) P := rfl
@[simp ↓] theorem atNil_sat (ρ : Env') (P : _ → Prop) : (atNil  ρ).sat P = Res.sat (.ok ([], ρ)) P := rfl
@[simp ↓] theorem atCons_sat (na : Env' → Res (T × Env')) (nr : Env' → Res (List T × Env')) (ρ : Env') (P : _ → Prop) : (atCons na nr ρ).sat P = Res.sat ((na ρ).bind fun (t, ρ1) => (nr ρ1).bind fun (ts, ρ2) => .ok (t :: ts, ρ2)) P := rfl
@[simp ↓] theorem tstV_sat (fa : Env' → Res (RV × Env')) (ρ : Env') (P : _ → Prop) : (tstV fa ρ).sat P = Res.sat ((fa ρ).bind fun (r, ρ1) => match look ρ1 r with
  | some (.bl b) => .ok (b, ρ1)
  | _ => .bad) P := rfl
@[simp ↓] theorem tstT_sat (fa : Env' → Res (RV × Env')) (ρ : Env') (P : _ → Prop) : (tstT fa ρ).sat P = Res.sat ((fa ρ).bind fun (r, ρ1) => (Res.of ((look ρ1 r).bind D.truth)).bind fun b => .ok (b, ρ1)) P := rfl
@[simp ↓] theorem tstNot_sat (ta : Env' → Res (Bool × Env')) (ρ : Env') (P : _ → Prop) : (tstNot ta ρ).sat P = Res.sat ((ta ρ).bind fun (b, ρ1) => .ok (!b, ρ1)) P := rfl
@[simp ↓] theorem tstAnd_sat (ta tb : Env' → Res (Bool × Env')) (ρ : Env') (P : _ → Prop) : (tstAnd ta tb ρ).sat P = Res.sat ((ta ρ).bind fun (b, ρ1) => if b = true then tb ρ1 else .ok (false, ρ1)) P := rfl
@[simp ↓] theorem tstOr_sat (ta tb : Env' → Res (Bool × Env')) (ρ : Env') (P : _ → Prop) : (tstOr ta tb ρ).sat P = Res.sat ((ta ρ).bind fun (b, ρ1) => if b = true then .ok (true, ρ1) else tb ρ1) P := rfl
@[simp ↓] theorem pNone_sat (ρ : Env') (P : _ → Prop) : (pNone  ρ).sat P = Res.sat (.ok (none, ρ)) P := rfl
@[simp ↓] theorem pSome_sat (fa : Env' → Res (RV × Env')) (ρ : Env') (P : _ → Prop) : (pSome fa ρ).sat P = Res.sat ((fa ρ).bind fun (r, ρ1) => match look ρ1 r with
  | some (.int i) => .ok (some i, ρ1)
  | _ => .bad) P := rfl
@[simp ↓] theorem ttYes_sat (ρ : Env') (P : _ → Prop) : (ttYes  ρ).sat P = Res.sat (.ok (true, ρ)) P := rfl
@[simp ↓] theorem sNil_sat (ρ : Env') (P : _ → Prop) : (sNil  ρ).sat P = Res.sat (.ok (.nx ρ)) P := rfl
@[simp ↓] theorem sSeq_sat (f g : Env' → Res Fl) (ρ : Env') (P : _ → Prop) : (sSeq f g ρ).sat P = Res.sat ((f ρ).bind fun r => match r with
  | .nx ρ' => g ρ'
  | r => .ok r) P := rfl
@[simp ↓] theorem sExpr_sat (fa : Env' → Res (RV × Env')) (ρ : Env') (P : _ → Prop) : (sExpr fa ρ).sat P = Res.sat ((fa ρ).bind fun (_, ρ1) => .ok (.nx ρ1)) P := rfl
@[simp ↓] theorem sSet_sat (i : Nat) (na : Env' → Res (T × Env')) (ρ : Env') (P : _ → Prop) : (sSet i na ρ).sat P = Res.sat ((na ρ).bind fun (t, ρ1) => if i < ρ1.length then .ok (.nx (ρ1.set i (some t))) else .bad) P := rfl
@[simp ↓] theorem sRet_sat (na : Env' → Res (T × Env')) (ρ : Env') (P : _ → Prop) : (sRet na ρ).sat P = Res.sat ((na ρ).bind fun (t, ρ1) => .ok (.rt t ρ1)) P := rfl
@[simp ↓] theorem sRetN_sat (ρ : Env') (P : _ → Prop) : (sRetN  ρ).sat P = Res.sat (.ok (.rt (.sh .non) ρ)) P := rfl
@[simp ↓] theorem sRetOwn_sat (i : Nat) (ρ : Env') (P : _ → Prop) : (sRetOwn i ρ).sat P = Res.sat (match ρ[i]? with
  | some (some t) => .ok (.rt t (ρ.set i none))
  | _ => .bad) P := rfl
@[simp ↓] theorem sIf_sat (ta : Env' → Res (Bool × Env')) (f g : Env' → Res Fl) (ρ : Env') (P : _ → Prop) : (sIf ta f g ρ).sat P = Res.sat ((ta ρ).bind fun (b, ρ1) => if b = true then f ρ1 else g ρ1) P := rfl
@[simp ↓] theorem sBk_sat (ρ : Env') (P : _ → Prop) : (sBk  ρ).sat P = Res.sat (.ok (.bk ρ)) P := rfl
@[simp ↓] theorem sCt_sat (ρ : Env') (P : _ → Prop) : (sCt  ρ).sat P = Res.sat (.ok (.ct ρ)) P := rfl
@[simp ↓] theorem sFor_sat (fi : Env' → Res (List D × Env')) (gt : D → Env' → Option Env') (f : Env' → Res Fl) (ρ : Env') (P : _ → Prop) : (sFor fi gt f ρ).sat P = Res.sat ((fi ρ).bind fun (ds, ρ1) => forGo gt f ds ρ1) P := rfl
@[simp ↓] theorem sUnpack_sat (fa : Env' → Res (RV × Env')) (gt : D → Env' → Option Env') (ρ : Env') (P : _ → Prop) : (sUnpack fa gt ρ).sat P = Res.sat ((fa ρ).bind fun (r, ρ1) => (Res.of (esc ρ1 r)).bind fun (d, ρ2) => (Res.of (gt d ρ2)).bind fun ρ3 => .ok (.nx ρ3)) P := rfl
@[simp ↓] theorem sPar_sat (i j : Nat) (fs : Env' → Res (List RV × Env')) (ρ : Env') (P : _ → Prop) : (sPar i j fs ρ).sat P = Res.sat ((fs ρ).bind fun (rs, ρ1) => match rs with
  | [.leaf d, .leaf e] => if i < ρ1.length ∧ j < ρ1.length then .ok (.nx ((ρ1.set i (some (.sh d))).set j (some (.sh e)))) else .bad
  | _ => .bad) P := rfl
@[simp ↓] theorem sAug_sat (i : Nat) (g : D → D → Option D) (fa : Env' → Res (RV × Env')) (ρ : Env') (P : _ → Prop) : (sAug i g fa ρ).sat P = Res.sat (match ρ[i]? with
  | some (some (.sh d1)) => (fa ρ).bind fun (r, ρ1) => (Res.of (look ρ1 r)).bind fun d2 => (Res.of (g d1 d2)).bind fun d => if i < ρ1.length then .ok (.nx (ρ1.set i (some (.sh d)))) else .bad
  | _ => .bad) P := rfl
@[simp ↓] theorem sAppend_sat (i : Nat) (na : Env' → Res (T × Env')) (ρ : Env') (P : _ → Prop) : (sAppend i na ρ).sat P = Res.sat (match ρ[i]? with
  | some (some (.lst _)) => (na ρ).bind fun (t, ρ1) => match ρ1[i]? with
    | some (some (.lst ts)) => if ts.length < sizeLine then .ok (.nx (ρ1.set i (some (.lst (ts ++ [t]))))) else .bad
    | _ => .bad
  | _ => .bad) P := rfl
@[simp ↓] theorem sExtend_sat (i : Nat) (fa : Env' → Res (RV × Env')) (ρ : Env') (P : _ → Prop) : (sExtend i fa ρ).sat P = Res.sat (match ρ[i]? with
  | some (some (.lst _)) => (fa ρ).bind fun (r, ρ1) => match look ρ1 r with
    | some (.lst ds) => match ρ1[i]? with
      | some (some (.lst ts)) => if ts.length + ds.length ≤ sizeLine then .ok (.nx (ρ1.set i (some (.lst (ts ++ ds.map T.sh))))) else .bad
      | _ => .bad
    | _ => .bad
  | _ => .bad) P := rfl
@[simp ↓] theorem sSetIx_sat (i : Nat) (na : Env' → Res (T × Env')) (fb : Env' → Res (RV × Env')) (ρ : Env') (P : _ → Prop) : (sSetIx i na fb ρ).sat P = Res.sat ((na ρ).bind fun (t, ρ1) => match t, ρ1[i]? with
  | .sh d, some (some _) => (fb ρ1).bind fun (r, ρ2) => match look ρ2 r, ρ2[i]? with
    | some (.int k), some (some (.lst ts)) => match ixN ts.length k with
      | some j => match ts[j]? with
        | some (.sh _) => .ok (.nx (ρ2.set i (some (.lst (ts.set j (.sh d))))))
        | _ => .bad
      | none => .bad
    | _, _ => .bad
  | _, _ => .bad) P := rfl
@[simp ↓] theorem sAugIx_sat (i : Nat) (g : D → D → Option D) (fb fa : Env' → Res (RV × Env')) (ρ : Env') (P : _ → Prop) : (sAugIx i g fb fa ρ).sat P = Res.sat (match ρ[i]? with
  | some (some _) => (fb ρ).bind fun (r, ρ1) => match look ρ1 r, ρ1[i]? with
    | some (.int k), some (some (.lst ts)) => match (ixN ts.length k).bind fun j => ts[j]? with
      | some (.sh d1) => (fa ρ1).bind fun (r2, ρ2) => (Res.of (look ρ2 r2)).bind fun d2 => (Res.of (g d1 d2)).bind fun d => match ρ2[i]? with
        | some (some (.lst ts2)) => match ixN ts2.length k with
          | some j => match ts2[j]? with
            | some (.sh _) => .ok (.nx (ρ2.set i (some (.lst (ts2.set j (.sh d))))))
            | _ => .bad
          | none => .bad
        | _ => .bad
      | _ => .bad
    | _, _ => .bad
  | _ => .bad) P := rfl
@[simp ↓] theorem sRaise_sat (x : Str) (ρ : Env') (P : _ → Prop) : (sRaise x ρ).sat P = Res.sat (.exc x ρ) P := rfl
@[simp ↓] theorem iSeq_sat (fa : Env' → Res (RV × Env')) (ρ : Env') (P : _ → Prop) : (iSeq fa ρ).sat P = Res.sat ((fa ρ).bind fun (r, ρ1) => (Res.of (esc ρ1 r)).bind fun (d, ρ2) => (Res.of d.walk).bind fun ds => .ok (ds, ρ2)) P := rfl
@[simp ↓] theorem iRange1_sat (fs : Env' → Res (List RV × Env')) (ρ : Env') (P : _ → Prop) : (iRange1 fs ρ).sat P = Res.sat ((fs ρ).bind fun (rs, ρ1) => match looks ρ1 rs with
  | some [.int j] => if rOk j then .ok (rangeD 0 j.toNat, ρ1) else .bad
  | _ => .bad) P := rfl
@[simp ↓] theorem iRange2_sat (fs : Env' → Res (List RV × Env')) (ρ : Env') (P : _ → Prop) : (iRange2 fs ρ).sat P = Res.sat ((fs ρ).bind fun (rs, ρ1) => match looks ρ1 rs with
  | some [.int i, .int j] => if rOk i ∧ rOk j then .ok (rangeD i (j - i).toNat, ρ1) else .bad
  | _ => .bad) P := rfl
@[simp ↓] theorem iEnum_sat (fa : Env' → Res (RV × Env')) (ρ : Env') (P : _ → Prop) : (iEnum fa ρ).sat P = Res.sat ((aConsE fa aNil ρ).bind fun (rs, ρ1) => match rs with
  | [.leaf d] => (Res.of d.walk).bind fun ds => .ok (enumFrom 0 ds, ρ1)
  | _ => .bad) P := rfl
@[simp ↓] theorem sat_ite_bind {α β : Type} (c : Prop) [Decidable c] (x y : Res α) (k : α → Res β) (P : β → Prop) : ((if c then x else y).bind k).sat P = ((c → (x.bind k).sat P) ∧ (¬ c → (y.bind k).sat P)) := by
  by_cases h : c <;> simp [h]
@[simp ↓] theorem sat_ite2 {α : Type} (c : Prop) [Decidable c] (x y : Res α) (P : α → Prop) : (if c then x else y).sat P = ((c → x.sat P) ∧ (¬ c → y.sat P)) := by
  by_cases h : c <;> simp [h]
@[simp ↓ high] theorem sat_if_bind {α β : Type} (c : Prop) [Decidable c] (x : Res α) (k : α → Res β) (P : β → Prop) : ((if c then x else Res.bad).bind k).sat P = (c ∧ (x.bind k).sat P) := by
  by_cases h : c <;> simp [h]
@[simp ↓ high] theorem sat_if2 {α : Type} (c : Prop) [Decidable c] (x : Res α) (P : α → Prop) : (if c then x else Res.bad).sat P = (c ∧ x.sat P) := by
  by_cases h : c <;> simp [h]
@[simp ↓ high] theorem sat_of_if {α β : Type} (c : Prop) [Decidable c] (x : α) (k : α → Res β) (P : β → Prop) : ((Res.of (if c then some x else none)).bind k).sat P = (c ∧ (k x).sat P) := by
  by_cases h : c <;> simp [h]
@[simp] theorem range_length (lo : Int) (n : Nat) : (rangeD lo n).length = n := by simp [rangeD]
theorem atI_pos {α : Type} (xs : List α) (i : Int) (h : 0 ≤ i) : L2.atI xs i = xs[i.toNat]? := by
  unfold L2.atI L2.ixN
  rw [if_pos h]
  split
  · rfl
  · rename_i q
    rw [List.getElem?_eq_none_iff.mpr (by omega)]
    rfl
theorem mulOk_l {i j : Int} (h : -(2 ^ 64) < i ∧ i < 2 ^ 64) : mulOk i j := .inl (.inl h)
theorem mulOk_r {i j : Int} (h : -(2 ^ 64) < j ∧ j < 2 ^ 64) : mulOk i j := .inl (.inr h)
theorem log_small {j : Int} (h0 : 0 < j) (h : j < 2 ^ 64) : j.natAbs.log2 < 9000 := by
  have : j.natAbs < 2 ^ 64 := by omega
  exact Nat.lt_trans (PySem.Flt.log2_lt_of (by decide) this) (by decide)
/-! ### operations on data, kind by kind -/
@[simp] theorem add_int (i j : Int) : D.add (.int i) (.int j) = some (.int (i + j)) := rfl
@[simp] theorem sub_int (i j : Int) : D.sub (.int i) (.int j) = some (.int (i - j)) := rfl
@[simp] theorem mul_int (i j : Int) : D.mul (.int i) (.int j) = if mulOk i j then some (.int (i * j)) else none := rfl
@[simp] theorem fdiv_int (i j : Int) : D.fdiv (.int i) (.int j) = if 0 < j ∧ j.natAbs.log2 < 9000 then some (.int (i / j)) else none := rfl
@[simp] theorem mod_int (i j : Int) : D.mod (.int i) (.int j) = if 0 < j then some (.int (i % j)) else none := rfl
@[simp] theorem pow_int (i j : Int) : D.pow (.int i) (.int j) = if 0 ≤ j ∧ j ≤ 1000000 ∧ i.natAbs < 2 ^ 64 then some (.int (i ^ j.toNat)) else none := rfl
@[simp] theorem lt_int (i j : Int) : D.lt (.int i) (.int j) = some (.bl (decide (i < j))) := rfl
@[simp] theorem le_int (i j : Int) : D.le (.int i) (.int j) = some (.bl (decide (i ≤ j))) := rfl
@[simp] theorem gt_int (i j : Int) : D.gt (.int i) (.int j) = some (.bl (decide (j < i))) := rfl
@[simp] theorem ge_int (i j : Int) : D.ge (.int i) (.int j) = some (.bl (decide (j ≤ i))) := rfl
@[simp] theorem neg_int (i : Int) : D.neg (.int i) = some (.int (-i)) := rfl
@[simp] theorem is_non (d : D) : D.is d .non = some (.bl d.isNon) := by cases d <;> rfl
@[simp] theorem isnt_non (d : D) : D.isnt d .non = some (.bl (!d.isNon)) := by cases d <;> rfl
@[simp] theorem is_bl (a b : Bool) : D.is (.bl a) (.bl b) = some (.bl (decide (a = b))) := rfl
@[simp] theorem isnt_bl (a b : Bool) : D.isnt (.bl a) (.bl b) = some (.bl (!decide (a = b))) := rfl
@[simp] theorem isNon_non : D.isNon .non = true := rfl
@[simp] theorem isNon_int (i : Int) : D.isNon (.int i) = false := rfl
@[simp] theorem isNon_str (x : Str) : D.isNon (.str x) = false := rfl
@[simp] theorem isNon_bl (x : Bool) : D.isNon (.bl x) = false := rfl
@[simp] theorem isNon_tup (x : List D) : D.isNon (.tup x) = false := rfl
@[simp] theorem isNon_lst (x : List D) : D.isNon (.lst x) = false := rfl
@[simp] theorem len_lst (ds : List D) : D.len [.lst ds] = some (.int ds.length) := rfl
@[simp] theorem len_fz (ds : List D) : D.len [.fz ds] = some (.int ds.length) := rfl
@[simp] theorem len_tup (ds : List D) : D.len [.tup ds] = some (.int ds.length) := rfl
@[simp] theorem len_str (x : Str) : D.len [.str x] = some (.int x.length) := rfl
@[simp] theorem toInt_int (i : Int) : D.toInt [.int i] = some (.int i) := rfl
@[simp] theorem toInt_bl (b : Bool) : D.toInt [.bl b] = some (.int (if b then 1 else 0)) := rfl
@[simp] theorem toTup_lst (ds : List D) : D.toTup [.lst ds] = some (.tup ds) := rfl
@[simp] theorem toTup_tup (ds : List D) : D.toTup [.tup ds] = some (.tup ds) := rfl
@[simp] theorem toLst_lst (ds : List D) : D.toLst [.lst ds] = some ds := rfl
@[simp] theorem toLst_tup (ds : List D) : D.toLst [.tup ds] = some ds := rfl
@[simp] theorem toLst_fz (ds : List D) : D.toLst [.fz ds] = some ds := rfl
@[simp] theorem ix_lst (ds : List D) (i : Int) : D.ix (.lst ds) (.int i) = L2.atI ds i := rfl
@[simp] theorem ix_fz (ds : List D) (i : Int) : D.ix (.fz ds) (.int i) = L2.atI ds i := rfl
@[simp] theorem ix_tup (ds : List D) (i : Int) : D.ix (.tup ds) (.int i) = L2.atI ds i := rfl
@[simp] theorem ix_str (x : Str) (i : Int) : D.ix (.str x) (.int i) = (L2.atI x.cps.toList i).map fun c => .str ⟨#[c]⟩ := rfl
@[simp] theorem walk_lst (ds : List D) : D.walk (.lst ds) = some ds := rfl
@[simp] theorem walk_fz (ds : List D) : D.walk (.fz ds) = some ds := rfl
@[simp] theorem walk_tup (ds : List D) : D.walk (.tup ds) = some ds := rfl
@[simp] theorem walk_str (x : Str) : D.walk (.str x) = some (signs x) := rfl
@[simp] theorem truth_bl (b : Bool) : D.truth (.bl b) = some b := rfl
@[simp] theorem truth_int (i : Int) : D.truth (.int i) = some (i != 0) := rfl
@[simp] theorem truth_non : D.truth .non = some false := rfl
@[simp] theorem truth_lst (xs : List D) : D.truth (.lst xs) = some (!xs.isEmpty) := rfl
@[simp] theorem iadd_int (i j : Int) : D.iadd (.int i) (.int j) = some (.int (i + j)) := rfl
@[simp] theorem all_bls (bs : List Bool) : D.all [.lst (bs.map D.bl)] = some (.bl (bs.all id)) := by simp [D.all]
@[simp] theorem any_bls (bs : List Bool) : D.any [.lst (bs.map D.bl)] = some (.bl (bs.any id)) := by simp [D.any]
theorem atI_map {α β : Type} (f : α → β) (xs : List α) (i : Int) : L2.atI (xs.map f) i = (L2.atI xs i).map f := by
  unfold L2.atI
  rw [List.length_map]
  cases L2.ixN xs.length i with
  | none => rfl
  | some j => simp
theorem atI_in {α : Type} {xs : List α} {i : Int} (h : 0 ≤ i) (h2 : i < xs.length) : L2.atI xs i = some (xs[i.toNat]'(by omega)) := by
  rw [atI_pos xs i h]
  exact List.getElem?_eq_getElem _
@[simp] theorem atI_cons0 {α : Type} (x : α) (xs : List α) : L2.atI (x :: xs) 0 = some x := by rw [atI_pos _ _ (by omega)]; rfl
@[simp] theorem gN_ap (i : Nat) (d : D) (ρ : Env') : gN i d ρ = if i < ρ.length then some (ρ.set i (some (.sh d))) else none := rfl
@[simp] theorem gsNil_ap (ρ : Env') : gsNil [] ρ = some ρ := rfl
@[simp] theorem gsCons_ap (g : D → Env' → Option Env') (gs : List D → Env' → Option Env') (d : D) (r : List D) (ρ : Env') : gsCons g gs (d :: r) ρ = (g d ρ).bind (gs r) := rfl
@[simp] theorem gT_ap (gs : List D → Env' → Option Env') (n : Nat) (ds : List D) (ρ : Env') : gT gs n (.tup ds) ρ = if ds.length = n then gs ds ρ else none := rfl
@[simp high] theorem mul_int' {i j : Int} (h : (-(2 ^ 64) < i ∧ i < 2 ^ 64) ∨ (-(2 ^ 64) < j ∧ j < 2 ^ 64)) : D.mul (.int i) (.int j) = some (.int (i * j)) := by rw [mul_int, if_pos (.inl h)]
@[simp high] theorem fdiv_int' {i j : Int} (h : 0 < j ∧ j < 2 ^ 64) : D.fdiv (.int i) (.int j) = some (.int (i / j)) := by rw [fdiv_int, if_pos ⟨h.1, log_small h.1 h.2⟩]
@[simp high] theorem mod_int' {i j : Int} (h : 0 < j) : D.mod (.int i) (.int j) = some (.int (i % j)) := by rw [mod_int, if_pos h]
/-! ### texts as lists of signs -/
def S (l : List Nat) : Str := ⟨l.toArray⟩
theorem S_of (x : Str) : x = S x.cps.toList := by cases x; simp [S]
@[simp] theorem S_cps (l : List Nat) : (S l).cps.toList = l := rfl
@[simp] theorem S_length (l : List Nat) : (S l).length = l.length := by simp [S, Str.length]
@[simp] theorem S_app (a b : List Nat) : S a ++ S b = S (a ++ b) := by
  show (⟨a.toArray ++ b.toArray⟩ : Str) = _
  simp [S]
@[simp] theorem S_inj (a b : List Nat) : S a = S b ↔ a = b := by
  constructor
  · intro h
    have := congrArg (fun x : Str => x.cps.toList) h
    simpa using this
  · intro h; rw [h]
@[simp] theorem S_beq (a b : List Nat) : (S a == S b) = (a == b) := by
  rw [Bool.eq_iff_iff]
  simp
@[simp] theorem sign_S (c : Nat) : (⟨#[c]⟩ : Str) = S [c] := rfl
@[simp] theorem ix_S (l : List Nat) (i : Int) : D.ix (.str (S l)) (.int i) = (L2.atI l i).map fun c => .str (S [c]) := rfl
@[simp] theorem signs_S (l : List Nat) : signs (S l) = l.map fun c => .str (S [c]) := rfl
@[simp] theorem add_S (a b : List Nat) : D.add (.str (S a)) (.str (S b)) = if a.length + b.length ≤ sizeLine then some (.str (S (a ++ b))) else none := by simp [D.add]
@[simp] theorem iadd_S (a b : List Nat) : D.iadd (.str (S a)) (.str (S b)) = if a.length + b.length ≤ sizeLine then some (.str (S (a ++ b))) else none := by simp [D.iadd]
@[simp] theorem sIn_S1 (c : Nat) (z : List Nat) : sIn (S [c]) (S z) = decide (c ∈ z) := by
  unfold sIn
  simp only [S_cps]
  exact decide_eq_decide.mpr Iff.rfl
@[simp] theorem isin_S (a z : List Nat) : D.isin (.str (S a)) (.str (S z)) = some (.bl (sIn (S a) (S z))) := rfl
@[simp] theorem notin_S (a z : List Nat) : D.notin (.str (S a)) (.str (S z)) = some (.bl (!sIn (S a) (S z))) := rfl
theorem sIx_pos (n d : Nat) (i : Int) (h : 0 ≤ i) : HT.sIx n d (some i) = min i.toNat n := by
  show (if i < 0 then _ else _) = _
  rw [if_neg (by omega)]
/-- the items from one place to another -/
def sub {α : Type} (xs : List α) (i j : Nat) : List α := (xs.take j).drop i
@[simp] theorem cutD_from (xs : List D) (i : Int) (h : 0 ≤ i) : cutD xs (some i) none = xs.drop i.toNat := by
  unfold cutD
  rw [sIx_pos _ _ _ h, HT.sIx_none]
  apply List.ext_getElem?
  intro k
  rw [List.getElem?_take, List.getElem?_drop, List.getElem?_drop]
  split
  · rw [show min i.toNat xs.length = i.toNat by omega]
  · rw [List.getElem?_eq_none_iff.mpr (by omega)]
@[simp] theorem cutD_to (xs : List D) (i : Int) (h : 0 ≤ i) : cutD xs none (some i) = xs.take i.toNat := by
  unfold cutD
  rw [sIx_pos _ _ _ h, HT.sIx_none]
  apply List.ext_getElem?
  intro k
  rw [List.getElem?_take, List.getElem?_drop, List.getElem?_take]
  split
  · rw [if_pos (by omega)]; simp
  · split
    · rw [List.getElem?_eq_none_iff.mpr (by omega)]
    · rfl
@[simp] theorem cutD_fromto (xs : List D) (i j : Int) (h : 0 ≤ i) (h2 : 0 ≤ j) : cutD xs (some i) (some j) = (xs.take j.toNat).drop i.toNat := by
  unfold cutD
  rw [sIx_pos _ _ _ h, sIx_pos _ _ _ h2]
  apply List.ext_getElem?
  intro k
  rw [List.getElem?_take, List.getElem?_drop, List.getElem?_drop, List.getElem?_take]
  split
  · rw [if_pos (by omega), show min i.toNat xs.length = i.toNat by omega]
  · split
    · rw [List.getElem?_eq_none_iff.mpr (by omega)]
    · rfl
@[simp] theorem cutS_from (l : List Nat) (i : Int) (h : 0 ≤ i) : cutS (S l) (some i) none = S (l.drop i.toNat) := by
  unfold cutS
  rw [S_length, sIx_pos _ _ _ h, HT.sIx_none, S_cps]
  show S _ = S _
  rw [S_inj]
  apply List.ext_getElem?
  intro k
  rw [List.getElem?_take, List.getElem?_drop, List.getElem?_drop]
  split
  · rw [show min i.toNat l.length = i.toNat by omega]
  · rw [List.getElem?_eq_none_iff.mpr (by omega)]
@[simp] theorem cutS_to (l : List Nat) (i : Int) (h : 0 ≤ i) : cutS (S l) none (some i) = S (l.take i.toNat) := by
  unfold cutS
  rw [S_length, sIx_pos _ _ _ h, HT.sIx_none, S_cps]
  show S _ = S _
  rw [S_inj]
  apply List.ext_getElem?
  intro k
  rw [List.getElem?_take, List.getElem?_drop, List.getElem?_take]
  split
  · rw [if_pos (by omega)]; simp
  · split
    · rw [List.getElem?_eq_none_iff.mpr (by omega)]
    · rfl
@[simp] theorem cutS_fromto (l : List Nat) (i j : Int) (h : 0 ≤ i) (h2 : 0 ≤ j) : cutS (S l) (some i) (some j) = S ((l.take j.toNat).drop i.toNat) := by
  unfold cutS
  rw [S_length, sIx_pos _ _ _ h, sIx_pos _ _ _ h2, S_cps]
  show S _ = S _
  rw [S_inj]
  apply List.ext_getElem?
  intro k
  rw [List.getElem?_take, List.getElem?_drop, List.getElem?_drop, List.getElem?_take]
  split
  · rw [if_pos (by omega), show min i.toNat l.length = i.toNat by omega]
  · split
    · rw [List.getElem?_eq_none_iff.mpr (by omega)]
    · rfl
@[simp] theorem sl_S (l : List Nat) (lo hi : Option Int) : D.sl lo hi (.str (S l)) = some (.str (cutS (S l) lo hi)) := rfl
@[simp] theorem sl_lst (l : List D) (lo hi : Option Int) : D.sl lo hi (.lst l) = some (.lst (cutD l lo hi)) := rfl
@[simp] theorem sl_tup (l : List D) (lo hi : Option Int) : D.sl lo hi (.tup l) = some (.tup (cutD l lo hi)) := rfl
/-! == of data -/
@[simp] theorem cmpOk_int (i : Int) : D.cmpOk (.int i) = true := rfl
@[simp] theorem cmpOk_str (x : Str) : D.cmpOk (.str x) = true := rfl
@[simp] theorem cmpOk_bl (x : Bool) : D.cmpOk (.bl x) = true := rfl
@[simp] theorem cmpOk_non : D.cmpOk .non = true := rfl
@[simp] theorem flat_int (i : Int) : D.flat (.int i) = true := rfl
@[simp] theorem flat_str (i : Str) : D.flat (.str i) = true := rfl
@[simp] theorem flat_bl (i : Bool) : D.flat (.bl i) = true := rfl
@[simp] theorem flat_non : D.flat .non = true := rfl
@[simp] theorem eqb_int (i j : Int) : D.eqb (.int i) (.int j) = (i == j) := by simp [D.eqb, D.py, PyData.eqv]
@[simp] theorem eqb_str (i j : Str) : D.eqb (.str i) (.str j) = (i == j) := by simp [D.eqb, D.py, PyData.eqv]
@[simp] theorem eqb_bl (i j : Bool) : D.eqb (.bl i) (.bl j) = (i == j) := by simp [D.eqb, D.py, PyData.eqv]
@[simp] theorem eqb_non : D.eqb .non .non = true := by simp [D.eqb, D.py, PyData.eqv]
theorem eqb_tup (xs ys : List D) : D.eqb (.tup xs) (.tup ys) = PyData.eqvAll (D.pys xs) (D.pys ys) := by simp [D.eqb, D.py, PyData.eqv]
theorem eqb_lst (xs ys : List D) : D.eqb (.lst xs) (.lst ys) = PyData.eqvAll (D.pys xs) (D.pys ys) := by simp [D.eqb, D.py, PyData.eqv]
@[simp] theorem eqs_nil : PyData.eqvAll (D.pys []) (D.pys []) = true := by simp [D.pys, PyData.eqvAll]
@[simp] theorem eqs_nil_cons (y : D) (ys : List D) : PyData.eqvAll (D.pys []) (D.pys (y :: ys)) = false := by simp [D.pys, PyData.eqvAll]
@[simp] theorem eqs_cons_nil (x : D) (xs : List D) : PyData.eqvAll (D.pys (x :: xs)) (D.pys []) = false := by simp [D.pys, PyData.eqvAll]
@[simp] theorem eqs_cons (x y : D) (xs ys : List D) : PyData.eqvAll (D.pys (x :: xs)) (D.pys (y :: ys)) = (D.eqb x y && PyData.eqvAll (D.pys xs) (D.pys ys)) := by simp [D.pys, PyData.eqvAll, D.eqb]
theorem eq_ap (d e : D) : D.eq d e = if D.cmpOk d = true ∧ D.cmpOk e = true then some (.bl (D.eqb d e)) else none := rfl
theorem ne_ap (d e : D) : D.ne d e = if D.cmpOk d = true ∧ D.cmpOk e = true then some (.bl (!D.eqb d e)) else none := rfl
@[simp] theorem eq_int (i j : Int) : D.eq (.int i) (.int j) = some (.bl (i == j)) := by simp [eq_ap]
@[simp] theorem ne_int (i j : Int) : D.ne (.int i) (.int j) = some (.bl (!(i == j))) := by simp [ne_ap]
@[simp] theorem eq_str (i j : Str) : D.eq (.str i) (.str j) = some (.bl (i == j)) := by simp [eq_ap]
@[simp] theorem ne_str (i j : Str) : D.ne (.str i) (.str j) = some (.bl (!(i == j))) := by simp [ne_ap]
@[simp] theorem eq_bl (i j : Bool) : D.eq (.bl i) (.bl j) = some (.bl (i == j)) := by simp [eq_ap]
@[simp] theorem ne_bl (i j : Bool) : D.ne (.bl i) (.bl j) = some (.bl (!(i == j))) := by simp [ne_ap]
@[simp] theorem datas_nil : D.datas [] = true := rfl
@[simp] theorem datas_cons (d : D) (ds : List D) : D.datas (d :: ds) = (d.data && D.datas ds) := rfl
@[simp] theorem deeps_nil : D.deeps [] = 0 := rfl
@[simp] theorem deeps_cons (d : D) (ds : List D) : D.deeps (d :: ds) = max d.deep (D.deeps ds) := rfl
@[simp] theorem data_int (i : Int) : D.data (.int i) = true := rfl
@[simp] theorem data_str (i : Str) : D.data (.str i) = true := rfl
@[simp] theorem data_bl (i : Bool) : D.data (.bl i) = true := rfl
@[simp] theorem data_non : D.data .non = true := rfl
@[simp] theorem data_tup (ds : List D) : D.data (.tup ds) = D.datas ds := rfl
@[simp] theorem data_lst (ds : List D) : D.data (.lst ds) = D.datas ds := rfl
@[simp] theorem deep_int (i : Int) : D.deep (.int i) = 0 := rfl
@[simp] theorem deep_str (i : Str) : D.deep (.str i) = 0 := rfl
@[simp] theorem deep_bl (i : Bool) : D.deep (.bl i) = 0 := rfl
@[simp] theorem deep_non : D.deep .non = 0 := rfl
@[simp] theorem deep_tup (ds : List D) : D.deep (.tup ds) = D.deeps ds + 1 := rfl
@[simp] theorem deep_lst (ds : List D) : D.deep (.lst ds) = D.deeps ds + 1 := rfl
theorem datas_map {α : Type} (f : α → D) (h : ∀ a, (f a).data = true) : ∀ xs : List α, D.datas (xs.map f) = true
  | [] => rfl
  | x :: xs => by simp [h, datas_map f h xs]
theorem deeps_map {α : Type} (f : α → D) (n : Nat) (h : ∀ a, (f a).deep ≤ n) : ∀ xs : List α, D.deeps (xs.map f) ≤ n
  | [] => by simp
  | x :: xs => by
    have := deeps_map f n h xs
    have := h x
    simp only [List.map_cons, deeps_cons]
    omega
@[simp] theorem tyN_int (i : Int) : D.tyN (.int i) = some "int" := rfl
@[simp] theorem tyN_str (i : Str) : D.tyN (.str i) = some "str" := rfl
@[simp] theorem tyN_bl (i : Bool) : D.tyN (.bl i) = some "bool" := rfl
@[simp] theorem tyN_non : D.tyN .non = some "NoneType" := rfl
@[simp] theorem tyN_tup (i : List D) : D.tyN (.tup i) = some "tuple" := rfl
@[simp] theorem tyN_lst (i : List D) : D.tyN (.lst i) = some "list" := rfl
@[simp] theorem isinst_int (d : D) : D.isinst [d, .ty "int"] = d.tyN.map fun m => .bl (isT m "int") := by simp [D.isinst]
@[simp] theorem isinst_str (d : D) : D.isinst [d, .ty "str"] = d.tyN.map fun m => .bl (isT m "str") := by simp [D.isinst]
@[simp] theorem isinst_bool (d : D) : D.isinst [d, .ty "bool"] = d.tyN.map fun m => .bl (isT m "bool") := by simp [D.isinst]
@[simp] theorem isinst_tuple (d : D) : D.isinst [d, .ty "tuple"] = d.tyN.map fun m => .bl (isT m "tuple") := by simp [D.isinst]
@[simp] theorem isinst_list (d : D) : D.isinst [d, .ty "list"] = d.tyN.map fun m => .bl (isT m "list") := by simp [D.isinst]
@[simp] theorem isinst_dict (d : D) : D.isinst [d, .ty "dict"] = d.tyN.map fun m => .bl (isT m "dict") := by simp [D.isinst]
/-- the letters -/
def L26 : List Nat := [97, 98, 99, 100, 101, 102, 103, 104, 105, 106, 107, 108, 109, 110, 111, 112, 113, 114, 115, 116, 117, 118, 119, 120, 121, 122]
/-- letters alone -/
def AllL (l : List Nat) : Prop := ∀ c ∈ l, c ∈ L26
theorem AllL.nil : AllL [] := fun _ h => by cases h
theorem AllL.app {a b : List Nat} (h : AllL a) (k : AllL b) : AllL (a ++ b) := fun c hc => (List.mem_append.mp hc).elim (h c) (k c)
theorem AllL.drop {a : List Nat} (h : AllL a) (n : Nat) : AllL (a.drop n) := fun c hc => h c (List.mem_of_mem_drop hc)
theorem AllL.take {a : List Nat} (h : AllL a) (n : Nat) : AllL (a.take n) := fun c hc => h c (List.mem_of_mem_take hc)
@[simp] theorem wipeE_nil (ρ : Env') : wipeE ρ [] = ρ := rfl
@[simp] theorem wipeE_cons (ρ : Env') (v : Nat) (vs : List Nat) : wipeE ρ (v :: vs) = (wipeE ρ vs).set v none := rfl
@[simp] theorem backE_nil (ρ0 ρ : Env') : backE ρ0 ρ [] = ρ := rfl
@[simp] theorem backE_cons (ρ0 ρ : Env') (v : Nat) (vs : List Nat) : backE ρ0 ρ (v :: vs) = back1 ρ0 (backE ρ0 ρ vs) v := rfl
@[simp] theorem back1_ap (ρ0 ρ : Env') (i : Nat) : back1 ρ0 ρ i = (match ρ0[i]? with | some (some (.sh d)) => ρ.set i (some (.sh d)) | _ => ρ.set i none) := rfl
@[simp] theorem ofString_nil : Str.ofString "" = S [] := rfl
@[simp high] theorem add_S' {a b : List Nat} (h : a.length + b.length ≤ 16777216) : D.add (.str (S a)) (.str (S b)) = some (.str (S (a ++ b))) := by rw [add_S, if_pos (by rw [sizeLine_eq]; exact h)]
theorem size_le {n : Nat} (h : n ≤ 16777216) : n ≤ sizeLine := by rw [sizeLine_eq]; exact h
theorem size_lt {n : Nat} (h : n < 16777216) : n < sizeLine := by rw [sizeLine_eq]; exact h
@[simp] theorem top_lst' (ts : List T) : (T.lst ts).top = (T.leaves ts).map D.lst := rfl
@[simp] theorem leaves_nil : T.leaves [] = some [] := rfl
@[simp] theorem leaves_cons (d : D) (ts : List T) : T.leaves (.sh d :: ts) = (T.leaves ts).map (d :: ·) := rfl
@[simp] theorem leaves_map {α : Type} (f : α → D) (xs : List α) : T.leaves (xs.map fun a => T.sh (f a)) = some (xs.map f) := by
  have := T.leaves_sh (xs.map f)
  rw [List.map_map] at this
  exact this
@[simp] theorem leaves_comp {α : Type} (f : α → D) (xs : List α) : T.leaves (xs.map (T.sh ∘ f)) = some (xs.map f) := leaves_map f xs
@[simp] theorem leaves_sh' (ds : List D) : T.leaves (ds.map T.sh) = some ds := T.leaves_sh ds
@[simp] theorem leaves_app : ∀ (xs ys : List T), T.leaves (xs ++ ys) = (T.leaves xs).bind fun a => (T.leaves ys).map (a ++ ·)
  | [], ys => by simp
  | .sh d :: xs, ys => by
    simp only [List.cons_append, leaves_cons, leaves_app xs ys]
    cases T.leaves xs <;> cases T.leaves ys <;> rfl
  | .lst _ :: xs, ys => rfl
  | .dic _ _ :: xs, ys => rfl
  | .dit _ _ :: xs, ys => rfl
  | .at _ _ :: xs, ys => rfl
@[simp] theorem d_lst' (ts : List T) : (T.lst ts).d = .lst (T.d.go ts) := rfl
@[simp] theorem go_nil : T.d.go [] = [] := rfl
@[simp] theorem go_cons (t : T) (ts : List T) : T.d.go (t :: ts) = t.d :: T.d.go ts := rfl
@[simp] theorem go_map {α : Type} (f : α → D) (xs : List α) : T.d.go (xs.map fun a => T.sh (f a)) = xs.map f := by
  have := T.go_sh (xs.map f)
  rw [List.map_map] at this
  exact this
@[simp] theorem go_comp {α : Type} (f : α → D) (xs : List α) : T.d.go (xs.map (T.sh ∘ f)) = xs.map f := go_map f xs
@[simp] theorem go_sh' (ds : List D) : T.d.go (ds.map T.sh) = ds := T.go_sh ds
@[simp] theorem go_app (xs ys : List T) : T.d.go (xs ++ ys) = T.d.go xs ++ T.d.go ys := by rw [T.go_map, T.go_map, T.go_map, List.map_append]
@[simp] theorem size_le' {n : Nat} (h : n ≤ 16777216) : (n ≤ sizeLine) = True := eq_true (size_le h)
@[simp] theorem size_lt' {n : Nat} (h : n < 16777216) : (n < sizeLine) = True := eq_true (size_lt h)
@[simp] theorem rOk' {i : Int} (h : -4611686018427387904 < i ∧ i < 4611686018427387904) : rOk i = True := eq_true (by unfold rOk; omega)
@[simp] theorem log_small' {j : Int} (h : 0 < j ∧ j < 18446744073709551616) : (j.natAbs.log2 < 9000) = True := eq_true (log_small h.1 h.2)
@[simp] theorem atI_lit {α : Type} (x : α) (xs : List α) (n : Nat) : L2.atI (x :: xs) (no_index (@OfNat.ofNat Int n instOfNat)) = (x :: xs)[(@OfNat.ofNat Nat n (instOfNatNat n))]? := by
  rw [atI_pos _ _ (by exact Int.natCast_nonneg n)]
  rfl
@[simp] theorem ixN_lit (m n : Nat) : L2.ixN m (no_index (@OfNat.ofNat Int n instOfNat)) = if (@OfNat.ofNat Nat n (instOfNatNat n)) < m then some (@OfNat.ofNat Nat n (instOfNatNat n)) else none := by
  show L2.ixN m (n : Int) = if n < m then some n else none
  unfold L2.ixN
  rw [if_pos (by omega)]
  simp
theorem ixN_in {n : Nat} {i : Int} (h : 0 ≤ i ∧ i < n) : L2.ixN n i = some i.toNat := by
  unfold L2.ixN
  rw [if_pos (by omega), if_pos (by omega)]
/-! the same, with what is to hold left unread -/
@[simp] theorem isTy_lst (ds : List D) : D.isTy "list" (.lst ds) = true := rfl
@[simp] theorem isTy_str (x : Str) : D.isTy "str" (.str x) = true := rfl
theorem atI_n {α : Type} (xs : List α) (i : Nat) : L2.atI xs (i : Int) = xs[i]? := by
  rw [atI_pos _ _ (by omega)]
  rfl
@[simp] theorem isin_tup (d : D) (ds : List D) : D.isin d (.tup ds) = if d.flat = true ∧ ds.all D.flat = true then some (.bl (ds.any fun z => D.eqb z d)) else none := rfl
@[simp] theorem isin_lst (d : D) (ds : List D) : D.isin d (.lst ds) = if D.cmpOk d = true ∧ D.cmpOk (.lst ds) = true then some (.bl (ds.any fun z => D.eqb z d)) else none := rfl
@[simp] theorem notin_tup (d : D) (ds : List D) : D.notin d (.tup ds) = if d.flat = true ∧ ds.all D.flat = true then some (.bl (!ds.any fun z => D.eqb z d)) else none := by
  unfold D.notin
  rw [isin_tup]
  split <;> simp_all
@[simp] theorem notin_lst (d : D) (ds : List D) : D.notin d (.lst ds) = if D.cmpOk d = true ∧ D.cmpOk (.lst ds) = true then some (.bl (!ds.any fun z => D.eqb z d)) else none := by
  unfold D.notin
  rw [isin_lst]
  split <;> simp_all
@[simp] theorem add_lst (a b : List D) : D.add (.lst a) (.lst b) = if a.length + b.length ≤ sizeLine then some (.lst (a ++ b)) else none := rfl
@[simp high] theorem add_lst' {a b : List D} (h : a.length + b.length ≤ 16777216) : D.add (.lst a) (.lst b) = some (.lst (a ++ b)) := by rw [add_lst, if_pos (size_le h)]
@[simp] theorem catN_lst (a b : List D) : D.catN (.lst a) (.lst b) = if a.length + b.length ≤ sizeLine then some (a ++ b) else none := rfl
@[simp high] theorem catN_lst' {a b : List D} (h : a.length + b.length ≤ 16777216) : D.catN (.lst a) (.lst b) = some (a ++ b) := by rw [catN_lst, if_pos (size_le h)]
end FL
namespace FL
open PySem PySem.Spec PyProof.Rows L2
/-! ### reckoning: zip, try -/
@[simp ↓] theorem iZip_bind {β : Type} (fa fb : Env' → Res (RV × Env')) (ρ : Env') (k : _ → Res β) : (iZip fa fb ρ).bind k = Res.bind ((aConsE fa (aConsE fb aNil) ρ).bind fun (rs, ρ1) => match rs with
  | [.leaf d, .leaf e] => (Res.of (zip2 d e)).bind fun ds => .ok (ds, ρ1)
  | _ => .bad) k := rfl
@[simp] theorem zip2_lst (a b : List D) : zip2 (.lst a) (.lst b) = some (zipD a b) := rfl
@[simp] theorem zip2_tup (a b : List D) : zip2 (.tup a) (.tup b) = some (zipD a b) := rfl
@[simp] theorem rev_lst (a : List D) : D.rev (.lst a) = some (.tup a.reverse) := rfl
@[simp] theorem rev_fz (a : List D) : D.rev (.fz a) = some (.tup a.reverse) := rfl
@[simp] theorem hGo_cons (cs : List Str) (g : Env' → Res Fl) (r : List (List Str × (Env' → Res Fl))) (c : Str) (ρ : Env') : hGo ((cs, g) :: r) c ρ = if c ∈ cs then g ρ else hGo r c ρ := rfl
@[simp] theorem hGo_nil (c : Str) (ρ : Env') : hGo [] c ρ = .exc c ρ := rfl
end FL
namespace FL
open PySem PySem.Spec PyProof.Rows L2
/-! ### dicts: keys are ints and texts, or tuples of them -/
def keyD : D → Option Key
  | .int i => some (.inl i)
  | .str x => some (.inr x)
  | _ => none
def keysD : List D → Option (List Key)
  | [] => some []
  | d :: ds => (keyD d).bind fun k => (keysD ds).map (k :: ·)
theorem den_key {K H d v k} (h : Den K H d v) (e : keyD d = some k) : v = kV k := by
  cases d <;> cases e
  · exact h
  · exact h.1
theorem den_keys {K H} : ∀ {ds : List D} {vs : List V} {ks : List Key}, DenL K H ds vs → keysD ds = some ks → vs = ks.map kV
  | [], _, _, h, e => by cases e; exact h
  | d :: ds, _, ks, ⟨v, r, e1, e2, e3⟩, e => by
    simp only [keysD] at e
    cases h1 : keyD d with
    | none => rw [h1] at e; cases e
    | some k =>
      rw [h1] at e
      simp only [Option.bind_some, Option.map_eq_some_iff] at e
      obtain ⟨ks', h2, rfl⟩ := e
      rw [e1, den_key e2 h1, den_keys e3 h2]; rfl
def lkD {κ : Type} [DecidableEq κ] : List κ → List D → κ → Option D
  | k :: ks, d :: ds, j => if k = j then some d else lkD ks ds j
  | _, _, _ => none
theorem lk_den {κ : Type} [DecidableEq κ] {K H} (j : κ) : ∀ {kv : List (κ × V)} {ds : List D}, DenL K H ds (kv.map (·.2)) → (∃ d v, lkD (kv.map (·.1)) ds j = some d ∧ valV kv j = some v ∧ Den K H d v) ∨ (lkD (kv.map (·.1)) ds j = none ∧ valV kv j = none)
  | [], _, h => .inr ⟨by simp [lkD], rfl⟩
  | p :: kv, [], h => by cases h
  | p :: kv, d :: ds, ⟨v, r, e1, e2, e3⟩ => by
    simp only [List.map_cons, List.cons.injEq] at e1
    obtain ⟨rfl, rfl⟩ := e1
    by_cases e : p.1 = j
    · exact .inl ⟨d, p.2, by simp [lkD, e], valV_pos e, e2⟩
    · rw [valV_neg e]
      simp only [List.map_cons, lkD, if_neg e]
      exact lk_den j e3
def putD {κ : Type} [DecidableEq κ] : List κ → List D → κ → D → List κ × List D
  | k :: ks, d :: ds, j, e => if k = j then (k :: ks, e :: ds) else ((k :: (putD ks ds j e).1), (d :: (putD ks ds j e).2))
  | _, _, j, e => ([j], [e])
/-- what a dict holds at a thing -/
def D.dat : D → D → Option (Option D)
  | .dic ks ds, e => (keyD e).map (lkD ks ds)
  | .dit ks ds, .tup es => (keysD es).map (lkD ks ds)
  | _, _ => none
theorem dat_get {K Hs H d e x y o} (s : Same Hs H) (h1 : Den1 K Hs H d x) (h2 : Den1 K Hs H e y) (g : D.dat d e = some o) :
    ∃ a r, x = .ref a ∧ DGet H a y r ∧ ((∃ d v, o = some d ∧ r = some v ∧ Den K Hs d v) ∨ (o = none ∧ r = none)) := by
  unfold D.dat at g
  split at g
  · simp only [Option.map_eq_some_iff] at g
    obtain ⟨k, g1, rfl⟩ := g
    obtain ⟨a, kv, rfl, k1, rfl, k2⟩ := h1
    have hy : y = kV k := by
      cases e <;> cases g1
      · exact h2
      · exact h2.1
    subst hy
    refine ⟨a, _, rfl, DGet.k k1, ?_⟩
    rcases lk_den k k2 with ⟨d, v, e1, e2, e3⟩ | ⟨e1, e2⟩
    · exact .inl ⟨d, v, e1, e2, e3⟩
    · exact .inr ⟨e1, e2⟩
  · simp only [Option.map_eq_some_iff] at g
    obtain ⟨k, g1, rfl⟩ := g
    obtain ⟨a, kv, rfl, k1, rfl, k2⟩ := h1
    obtain ⟨b, vs, rfl, m1, m2⟩ := h2
    have hv := den_keys m2 g1
    subst hv
    refine ⟨a, _, rfl, DGet.t k1 (s _ _ m1), ?_⟩
    rcases lk_den k k2 with ⟨d, v, e1, e2, e3⟩ | ⟨e1, e2⟩
    · exact .inl ⟨d, v, e1, e2, e3⟩
    · exact .inr ⟨e1, e2⟩
  · cases g
def D.dget (d e : D) : Option D := match D.dat d e with
  | some (some v) => some v
  | _ => none
section
variable {X : Cx} {mg : Str → Option Value} {W : WX} {a b : Expr} {fa fb fc : Env' → Res (RV × Env')} {pos p tpos : Pos}
theorem fo_dget (hu : X.A.units + 1 < cLine) (ha : PE X a (tFO X.K mg W fa)) (hb : PE X b (tFO X.K mg W fb)) (hs : NoSl b) : PE X (.Subscript a b pos) (tFO X.K mg W (eBin D.dget fa fb)) :=
  (pe_dget hu ha hb hs).imp fun _ _ _ h => bin_go (r := fun x y H Q => ∃ a v, x = .ref a ∧ DGet H a y (some v) ∧ Q v H) (fun x y H Q ⟨Hs, d1, d2, d, e, h1, h2, g, q⟩ => by
    unfold D.dget at g
    split at g
    · rename_i v hd
      cases g
      obtain ⟨a, r, e1, e2, ⟨d', v', e3, e4, e5⟩ | ⟨e3, _⟩⟩ := dat_get e h1 h2 hd
      · cases e3
        exact ⟨a, v', e1, e4 ▸ e2, q _ _ _ (.refl e) e5⟩
      · cases e3
    · cases g) h
/-! ### an owned dict -/
theorem putD_none {κ : Type} [DecidableEq κ] : ∀ (ks : List κ) (ds : List D) (j : κ) (e : D), ks.length = ds.length → j ∉ ks → putD ks ds j e = (ks ++ [j], ds ++ [e])
  | [], [], _, _, _, _ => rfl
  | k :: ks, d :: ds, j, e, h, hn => by
    simp only [List.mem_cons, not_or] at hn
    unfold putD
    rw [if_neg fun z => hn.1 z.symm, putD_none ks ds j e (by simpa using h) hn.2]; rfl
theorem any_keys {κ : Type} [DecidableEq κ] (kv : List (κ × V)) (j : κ) : (kv.any fun kv => decide (kv.1 = j)) = decide (j ∈ kv.map (·.1)) := by
  induction kv with
  | nil => simp
  | cons p r ih =>
    rw [List.any_cons, ih, List.map_cons]
    by_cases e : p.1 = j
    · simp [e]
    · have : ¬j = p.1 := fun z => e z.symm
      simp [e, this]
theorem DenL.repl {κ : Type} [DecidableEq κ] {K H} {j : κ} {e : D} {w : V} (hw : Den K H e w) : ∀ {kv : List (κ × V)} {ds : List D}, (kv.map (·.1)).Nodup → j ∈ kv.map (·.1) → DenL K H ds (kv.map (·.2)) →
    (kv.map fun p => if p.1 = j then (p.1, w) else p).map (·.1) = (putD (kv.map (·.1)) ds j e).1 ∧ DenL K H (putD (kv.map (·.1)) ds j e).2 ((kv.map fun p => if p.1 = j then (p.1, w) else p).map (·.2))
  | [], _, _, h, _ => by cases h
  | p :: kv, [], _, _, h => by cases h
  | p :: kv, d :: ds, nd, h, ⟨v, r, e1, e2, e3⟩ => by
    simp only [List.map_cons, List.cons.injEq] at e1
    obtain ⟨rfl, rfl⟩ := e1
    simp only [List.map_cons, List.nodup_cons] at nd
    by_cases z : p.1 = j
    · have hn : (kv.map fun p => if p.1 = j then (p.1, w) else p) = kv := by
        refine (List.map_congr_left fun q hq => if_neg fun y => nd.1 ?_).trans (List.map_id kv)
        rw [z, ← y]; exact List.mem_map_of_mem hq
      simp only [List.map_cons, if_pos z, hn, putD]
      exact ⟨trivial, w, _, rfl, hw, e3⟩
    · have h' : j ∈ kv.map (·.1) := by
        simp only [List.map_cons, List.mem_cons] at h
        rcases h with h | h
        · exact absurd h.symm z
        · exact h
      obtain ⟨i1, i2⟩ := DenL.repl hw nd.2 h' e3
      simp only [List.map_cons, if_neg z, putD]
      exact ⟨by rw [i1], p.2, _, rfl, e2, i2⟩
theorem putK_den {κ : Type} [DecidableEq κ] {K H} {j : κ} {e : D} {w : V} (hw : Den K H e w) {kv : List (κ × V)} {ds : List D} (nd : (kv.map (·.1)).Nodup) (h : DenL K H ds (kv.map (·.2))) :
    (putK kv j w).map (·.1) = (putD (kv.map (·.1)) ds j e).1 ∧ DenL K H (putD (kv.map (·.1)) ds j e).2 ((putK kv j w).map (·.2)) := by
  unfold putK
  rw [any_keys]
  by_cases z : j ∈ kv.map (·.1)
  · rw [if_pos (decide_eq_true z)]
    exact h.repl hw nd z
  · rw [if_neg (by simpa using z), putD_none _ _ _ _ (by have := h.length; simpa using this) z]
    simp only [List.map_append, List.map_cons, List.map_nil]
    exact ⟨trivial, h.append ⟨w, [], rfl, hw, rfl⟩⟩
theorem den1_key {K Hs H e y k} (h : Den1 K Hs H e y) (g : keyD e = some k) : y = kV k := by
  cases e with
  | int i => cases g; exact h
  | str x => cases g; exact h.1
  | _ => cases g
/-- d[k] = e, d an owned dict of shared things -/
noncomputable def D.dput : D → D → D → Option T
  | .dic ks ds, e, v => (keyD e).bind fun k => if ks.Nodup ∧ ks.length < sizeLine then some (.dic (putD ks ds k v).1 ((putD ks ds k v).2.map .sh)) else none
  | .dit ks ds, .tup es, v => (keysD es).bind fun k => if ks.Nodup ∧ ks.length < sizeLine then some (.dit (putD ks ds k v).1 ((putD ks ds k v).2.map .sh)) else none
  | _, _, _ => none
theorem OkAt.ownD {K G σ H ρ Hs fp i t} (ok : OkAt K G σ H ρ Hs fp) (hi : ρ[i]? = some (some t)) (hs : ∀ d, t ≠ .sh d) {d e v : D} {y w : V} {t' : T} (ht : t.top = some d) (hy : Den1 K Hs H e y) (hw : Den K Hs v w) (hp : D.dput d e v = some t') :
    ∃ l, σ[i]? = some (some (.ref l)) ∧ ∃ H', DPut H l y w H' ∧ ∃ fp', OkAt K G σ H' (ρ.set i (some t')) Hs fp' := by
  obtain ⟨v0, f1, f2, f3, h1, h2, h3, h4, _⟩ := ok.env.at hi
  have key : ∀ (l : Addr) (o : HO), v0 = .ref l → l ∈ f2 → (∀ H', H' = upd H l o → ∀ t' f', (∀ a ∈ f', a ∈ f2) → f'.Nodup → DenT K Hs H' t' (.ref l) f' → ∃ fp', OkAt K G σ H' (ρ.set i (some t')) Hs fp') := by
    rintro l o rfl hl H' rfl t' f' hsub hnd hd
    have hln : Hs l = none := ok.disj l (by rw [h2]; simp [hl])
    have nd := ok.nd
    rw [h2] at nd
    have hstay : ∀ a, a ≠ l → upd H l o a = H a := fun a h => upd_ne h
    have same : Same Hs (upd H l o) := fun b u e => by rw [upd_ne (fun z => by subst z; rw [hln] at e; cases e)]; exact ok.sh b u e
    refine ⟨f1 ++ (f' ++ f3), same, ok.base, fun b u e => ?_, fun a e1 e2 => ?_, fun a ha => ?_, ?_, ?_⟩
    · cases z : G.1 b with
      | some o' =>
        have := ok.base b o' z
        rw [upd_ne (fun q => by subst q; rw [hln] at this; cases this)]
        exact ok.frame b u e
      | none =>
        have := (ok.priv b (by rw [e]; rfl) z).2
        rw [upd_ne (fun q => this (by rw [h2, q]; simp [hl]))]
        exact ok.frame b u e
    · obtain ⟨q1, q2⟩ := ok.priv a e1 e2
      refine ⟨q1, fun hm => q2 ?_⟩
      rw [h2]
      simp only [List.mem_append] at hm ⊢
      rcases hm with hm | hm | hm
      · exact .inl hm
      · exact .inr (.inl (hsub a hm))
      · exact .inr (.inr hm)
    · refine ok.disj a ?_
      rw [h2]
      simp only [List.mem_append] at ha ⊢
      rcases ha with hm | hm | hm
      · exact .inl hm
      · exact .inr (.inl (hsub a hm))
      · exact .inr (.inr hm)
    · rw [List.nodup_append] at nd ⊢
      obtain ⟨n1, n2, n3⟩ := nd
      rw [List.nodup_append] at n2
      obtain ⟨n4, n5, n6⟩ := n2
      refine ⟨n1, List.nodup_append.mpr ⟨hnd, n5, fun a ha b hb => n6 a (hsub a ha) b hb⟩, fun a ha b hb => ?_⟩
      rcases List.mem_append.mp hb with hb | hb
      · exact n3 a ha b (by simp [hsub b hb])
      · exact n3 a ha b (by simp [hb])
    · have := h4 Hs (upd H l o) (Same.refl _) (fun a ha => hstay a fun z => by
        subst z
        rw [List.nodup_append] at nd
        obtain ⟨n1, n2, n3⟩ := nd
        rw [List.nodup_append] at n2
        rcases List.mem_append.mp ha with ha | ha
        · exact n3 a ha a (by simp [hl]) rfl
        · exact n2.2.2 a hl a ha rfl) t' (.ref l) f' hd
      have hsame : σ.set i (some (.ref l)) = σ := by
        apply List.ext_getElem?
        intro j
        rw [List.getElem?_set]
        split
        · rename_i q
          subst q
          have hlt : i < σ.length := (List.getElem?_eq_some_iff.mp h1).1
          rw [if_pos hlt]; exact h1.symm
        · rfl
      rw [hsame] at this
      exact this
  cases d with
  | dic ks ds =>
    simp only [D.dput, Option.bind_eq_some_iff] at hp
    obtain ⟨k, g1, g2⟩ := hp
    split at g2
    · rename_i c
      cases g2
      have hk := den1_key hy g1
      subst hk
      cases t with
      | sh d => exact absurd rfl (hs d)
      | dic ks' ts =>
        simp only [T.top, Option.map_eq_some_iff] at ht
        obtain ⟨ds', q1, q2⟩ := ht
        cases q2
        have q1 := T.leaves_eq q1
        subst q1
        obtain ⟨l, kv, fr, rfl, e2, e3, rfl, e5⟩ := h3
        obtain ⟨dl, rfl⟩ := DenTL.leaf e5
        obtain ⟨p1, p2⟩ := putK_den (j := k) hw c.1 dl
        obtain ⟨fp', ok'⟩ := key l (.dK (putK kv k w)) rfl (by rw [e2]; simp) _ rfl (.dic (putD (kv.map (·.1)) ds k v).1 ((putD (kv.map (·.1)) ds k v).2.map .sh)) [l] (fun a ha => by rw [e2]; simpa using ha) (by simp)
          ⟨l, _, [], rfl, rfl, upd_same, p1, DenTL.sh p2⟩
        exact ⟨l, h1, _, DPut.k e3 (by have := c.2; simpa using this), fp', ok'⟩
      | lst ts => simp only [T.top, Option.map_eq_some_iff] at ht; obtain ⟨_, _, q⟩ := ht; cases q
      | dit ks ts => simp only [T.top, Option.map_eq_some_iff] at ht; obtain ⟨_, _, q⟩ := ht; cases q
      | «at» b ts => simp only [T.top, Option.map_eq_some_iff] at ht; obtain ⟨_, _, q⟩ := ht; cases q
    · cases g2
  | dit ks ds =>
    cases e with
    | tup es =>
      simp only [D.dput, Option.bind_eq_some_iff] at hp
      obtain ⟨k, g1, g2⟩ := hp
      split at g2
      · rename_i c
        cases g2
        obtain ⟨b, vs, rfl, m1, m2⟩ := hy
        have hv := den_keys m2 g1
        subst hv
        cases t with
        | sh d => exact absurd rfl (hs d)
        | dit ks' ts =>
          simp only [T.top, Option.map_eq_some_iff] at ht
          obtain ⟨ds', q1, q2⟩ := ht
          cases q2
          have q1 := T.leaves_eq q1
          subst q1
          obtain ⟨l, kv, fr, rfl, e2, e3, rfl, e5⟩ := h3
          obtain ⟨dl, rfl⟩ := DenTL.leaf e5
          obtain ⟨p1, p2⟩ := putK_den (j := k) hw c.1 dl
          obtain ⟨fp', ok'⟩ := key l (.dT (putK kv k w)) rfl (by rw [e2]; simp) _ rfl (.dit (putD (kv.map (·.1)) ds k v).1 ((putD (kv.map (·.1)) ds k v).2.map .sh)) [l] (fun a ha => by rw [e2]; simpa using ha) (by simp)
            ⟨l, _, [], rfl, rfl, upd_same, p1, DenTL.sh p2⟩
          exact ⟨l, h1, _, DPut.t e3 (ok.sh _ _ m1) (by have := c.2; simpa using this), fp', ok'⟩
        | lst ts => simp only [T.top, Option.map_eq_some_iff] at ht; obtain ⟨_, _, q⟩ := ht; cases q
        | dic ks ts => simp only [T.top, Option.map_eq_some_iff] at ht; obtain ⟨_, _, q⟩ := ht; cases q
        | «at» b ts => simp only [T.top, Option.map_eq_some_iff] at ht; obtain ⟨_, _, q⟩ := ht; cases q
      · cases g2
    | _ => cases hp
  | _ => cases hp
end
end FL
namespace FL
open PySem PySem.Spec PyProof.Rows L2
/-- the owned dict in a slot -/
noncomputable def ownT (ρ : Env') (i : Nat) : Option D := match ρ[i]? with
  | some (some (.dic ks ts)) => (T.dic ks ts).top
  | some (some (.dit ks ts)) => (T.dit ks ts).top
  | _ => none
theorem ownT_at {ρ : Env'} {i : Nat} {d : D} (h : ownT ρ i = some d) : ∃ t, ρ[i]? = some (some t) ∧ (∀ d, t ≠ .sh d) ∧ t.top = some d := by
  unfold ownT at h
  split at h
  · rename_i ks ts e; exact ⟨_, e, (fun d z => nomatch z), h⟩
  · rename_i ks ts e; exact ⟨_, e, (fun d z => nomatch z), h⟩
  · cases h
noncomputable def sDput (i : Nat) (na : Env' → Res (T × Env')) (fb : Env' → Res (RV × Env')) : Env' → Res Fl := fun ρ => (na ρ).bind fun (t, ρ1) => match t with
  | .sh v => (Res.of (ownT ρ1 i)).bind fun _ => (fb ρ1).bind fun (r, ρ2) => (Res.of (look ρ2 r)).bind fun e => (Res.of (ownT ρ2 i)).bind fun d => (Res.of (D.dput d e v)).bind fun t' => .ok (.nx (ρ2.set i (some t')))
  | _ => .bad
noncomputable def sDaug (i : Nat) (g : D → D → Option D) (fb fa : Env' → Res (RV × Env')) : Env' → Res Fl := fun ρ => (Res.of (ownT ρ i)).bind fun _ => (fb ρ).bind fun (r, ρ1) => (Res.of (look ρ1 r)).bind fun e => (Res.of (ownT ρ1 i)).bind fun d => (Res.of (D.dget d e)).bind fun d1 =>
  (fa ρ1).bind fun (r2, ρ2) => (Res.of (look ρ2 r2)).bind fun d2 => (Res.of (g d1 d2)).bind fun v => (Res.of (look ρ2 r)).bind fun e' => (Res.of (ownT ρ2 i)).bind fun d => (Res.of (D.dput d e' v)).bind fun t' => .ok (.nx (ρ2.set i (some t')))
/-! new dicts -/
noncomputable def nDisp (ks : List Key) (fs : Env' → Res (List RV × Env')) : Env' → Res (T × Env') := fun ρ => (fs ρ).bind fun (rs, ρ1) => (Res.of (leafs rs)).bind fun ds => if ks.Nodup ∧ ks.length = ds.length ∧ ds.length ≤ 15 then .ok (.dic ks (ds.map .sh), ρ1) else .bad
theorem leafs_eq' (rs : List RV) : leafs rs = eTup.leafs rs := rfl
section
variable {X : Cx} {mg : Str → Option Value} {W : WX} {a b : Expr} {x : Str} {fa fb fc : Env' → Res (RV × Env')} {na : Env' → Res (T × Env')} {pos p tpos : Pos}
theorem fs_dput (i : Nat) (hu : X.A.units + 1 < cLine) (ha : PE X a (tFN X.K mg W na)) (hb : PE X b (tFO X.K mg W fb)) (hN : X.N[i]? = some x := by rfl) (hv : Vis X.env.scope x := by first | exact Or.inl rfl | exact Or.inr (Or.inl rfl) | exact Or.inr (Or.inr rfl)) (hd : (x == ("__debug__" : Str)) = false := by decide) (hcd : (x == ("__classdict__" : Str)) = false := by decide)
    (hs : swapsWith a (some (.Subscript (.Name x p) b tpos)) pos.line X.env = pure false := by rfl) :
    PS X (.Assign [.Subscript (.Name x p) b tpos] a pos) (tFS X.K mg W (sDput i na fb)) := by
  refine (ps_dput hu (pe_var hN hv hd hcd) hb ha hs).imp fun EE σ H ⟨G, ρ, ⟨Hs, fp, ok⟩, po⟩ => ?_
  refine goN (P := PoS X.K mg W G EE) ok po (fun c ρ' h => h σ) id fun t ρ1 y H1 Hs1 fp1 ft ok1 dt nd q po1 => ?_
  have ok1' := ok.back ok1
  cases t with
  | sh v =>
    simp only at po1
    cases e0 : ownT ρ1 i with
    | none => simp only [e0] at po1; exact po1.elim
    | some d0 =>
      simp only [e0, of_some, bind_ok] at po1
      obtain ⟨t0, hi0, _, _⟩ := ownT_at e0
      obtain ⟨v0, _, _, _, hv0, _⟩ := ok1'.env.at hi0
      refine ⟨v0, hv0, goE (P := PoS X.K mg W G EE) ok1' po1 (fun c ρ' h => h σ) id fun r2 ρ2 w H2 Hs2 fp2 ok2 dw po2 => ?_⟩
      have ok2' := ok1'.back ok2
      cases e1 : look ρ2 r2 with
      | none => simp only [e1] at po2; exact po2.elim
      | some e =>
        cases e2 : ownT ρ2 i with
        | none => simp only [e1, e2, of_some, bind_ok] at po2; exact po2.elim
        | some d =>
          cases e3 : D.dput d e v with
          | none => simp only [e1, e2, e3, of_some, bind_ok] at po2; exact po2.elim
          | some t' =>
            simp only [e1, e2, e3, of_some, bind_ok] at po2
            obtain ⟨t1, hi1, hns, htop⟩ := ownT_at e2
            obtain ⟨l, hl, H', hput, fp', ok3⟩ := ok2'.ownD hi1 hns htop (look_den ok2' dw e1) (dt.2.mono ok2.base) e3
            rw [hv0] at hl
            cases hl
            exact ⟨l, H', rfl, hput, po2 _ _ ⟨Hs2, fp', ok3⟩⟩
  | lst _ => simp only at po1; exact po1.elim
  | dic _ _ => simp only at po1; exact po1.elim
  | dit _ _ => simp only at po1; exact po1.elim
  | «at» _ _ => simp only at po1; exact po1.elim
theorem fs_daug (i : Nat) {op : Operator} {g : D → D → Option D} (hu : X.A.units + 1 < cLine) (ho : IpD X op g) (hb : PE X b (tFO X.K mg W fb)) (ha : PE X a (tFO X.K mg W fa)) (hN : X.N[i]? = some x := by rfl) (hv : Vis X.env.scope x := by first | exact Or.inl rfl | exact Or.inr (Or.inl rfl) | exact Or.inr (Or.inr rfl)) (hd : (x == ("__debug__" : Str)) = false := by decide) (hcd : (x == ("__classdict__" : Str)) = false := by decide)
    (hg : ∀ ov iv new, augStore b ov iv new = (do holding [new, ov, iv] (setItem ov iv new); release [new, ov, iv] []; pure .next) := by intros; rfl) :
    PS X (.AugAssign (.Subscript (.Name x p) b tpos) op a pos) (tFS X.K mg W (sDaug i g fb fa)) := by
  refine (ps_daug hu (pe_var hN hv hd hcd) hb ha ho hg).imp fun EE σ H ⟨G, ρ, ⟨Hs, fp, ok⟩, po⟩ => ?_
  unfold sDaug at po
  cases e0 : ownT ρ i with
  | none => rw [e0] at po; exact po.elim
  | some d0 =>
    rw [e0, of_some, bind_ok] at po
    obtain ⟨t0, hi0, _, _⟩ := ownT_at e0
    obtain ⟨v0, _, _, _, hv0, _⟩ := ok.env.at hi0
    refine ⟨v0, hv0, goE (P := PoS X.K mg W G EE) ok po (fun c ρ' h => h σ) id fun r1 ρ1 w H1 Hs1 fp1 ok1 dw po1 => ?_⟩
    have ok1' := ok.back ok1
    cases e1 : look ρ1 r1 with
    | none => simp only [e1] at po1; exact po1.elim
    | some e =>
      cases e2 : ownT ρ1 i with
      | none => simp only [e1, e2, of_some, bind_ok] at po1; exact po1.elim
      | some d =>
        cases e3 : D.dget d e with
        | none => simp only [e1, e2, e3, of_some, bind_ok] at po1; exact po1.elim
        | some d1 =>
          simp only [e1, e2, e3, of_some, bind_ok] at po1
          obtain ⟨t1, hi1, hns1, htop1⟩ := ownT_at e2
          have hd1 : Den1 X.K Hs1 H1 d v0 := by
            obtain ⟨v1, f1, f2, f3, g1, g2, g3, _⟩ := ok1'.env.at hi1
            rw [hv0] at g1
            cases g1
            exact g3.top ok1'.sh htop1
          unfold D.dget at e3
          split at e3
          · rename_i v1 hdat
            cases e3
            obtain ⟨l, o, ev, hget, ⟨d', w1, q1, q2, q3⟩ | ⟨q1, _⟩⟩ := dat_get ok1'.sh hd1 (look_den ok1' dw e1) hdat
            · cases q1
              subst q2
              refine ⟨l, w1, ev, hget, goE (P := PoS X.K mg W G EE) ok1' po1 (fun c ρ' h => h σ) id fun r2 ρ2 u H2 Hs2 fp2 ok2 du po2 => ?_⟩
              have ok2' := ok1'.back ok2
              cases f2 : look ρ2 r2 with
              | none => simp only [f2] at po2; exact po2.elim
              | some d2 =>
                cases f3 : g d1 d2 with
                | none => simp only [f2, f3, of_some, bind_ok] at po2; exact po2.elim
                | some v =>
                  simp only [f2, f3, of_some, bind_ok] at po2
                  refine ⟨Hs2, d1, d2, v, ok2'.sh, Den.one ok2'.sh (q3.mono ok2.base), look_den ok2' du f2, f3, fun z Hs3 H3 ex dz => ?_⟩
                  cases f4 : look ρ2 r1 with
                  | none => simp only [f4] at po2; exact po2.elim
                  | some e' =>
                    cases f5 : ownT ρ2 i with
                    | none => simp only [f4, f5, of_some, bind_ok] at po2; exact po2.elim
                    | some dd =>
                      cases f6 : D.dput dd e' v with
                      | none => simp only [f4, f5, f6, of_some, bind_ok] at po2; exact po2.elim
                      | some t' =>
                        simp only [f4, f5, f6, of_some, bind_ok] at po2
                        obtain ⟨t2, hi2, hns, htop⟩ := ownT_at f5
                        have ok3 := ok2'.ext ex
                        obtain ⟨l2, hl, H', hput, fp', ok4⟩ := ok3.ownD hi2 hns htop (look_den ok3 ((dw.mono ok2.base).mono ex.s) f4) dz f6
                        rw [hv0] at hl
                        cases hl
                        cases ev
                        exact ⟨H', hput, po2 _ _ ⟨Hs3, fp', ok4⟩⟩
            · cases q1
          · cases e3
theorem fn_dic_fin {K mg W} {G : Gh} {σ : L2.St} {H H2 : Hp} {ρ ρ2 : Env'} {Hs Hs2 : Hp} {fp fp2 : List Addr} {p : Addr} {o o2 : HO} (ok : OkAt K G σ H ρ Hs fp) (hp : H p = none) (ok2 : OkAt K (Hs, rem (upd H p o) fp) σ H2 ρ2 Hs2 fp2) {Q : VK} {t : T} (po : PoN K mg W G σ Q (.ok (t, ρ2)))
    (ht : DenT K Hs2 (upd H2 p o2) t (.ref p) [p]) : Q (.ref p) (upd H2 p o2) ∧ H2 p = some o := by
  have npf : p ∉ fp := fun hm => by
    obtain ⟨q, eq⟩ := ok.env.there p hm
    rw [hp] at eq; cases eq
  have hr : rem (upd H p o) fp p = some o := by simp [rem, npf, upd_same]
  obtain ⟨q1, q2⟩ := ok2.priv p (by show ((rem (upd H p o) fp) p).isSome = true; rw [hr]; rfl) (ok.sh.free hp)
  have hp2 : H2 p = some o := ok2.frame p o hr
  have okx : OkAt K G σ (upd H p o) ρ Hs fp := ok.ext (.out ok.sh hp)
  have okb := okx.back ok2
  refine ⟨po (.ref p) _ Hs2 fp2 [p] ?_ ht (by simp) fun a ha => ?_, hp2⟩
  · have hst : ∀ a, a ≠ p → upd H2 p o2 a = H2 a := fun a h => upd_ne h
    refine ⟨fun b u e => by rw [hst b fun z => by subst z; rw [q1] at e; cases e]; exact okb.sh b u e, okb.base, fun b u e => ?_, okb.priv, okb.disj, okb.nd, okb.env.mono (Same.refl _) fun a ha => hst a fun z => q2 (z ▸ ha)⟩
    rw [hst b fun z => by
      subst z
      have := ok.frame b u e
      rw [hp] at this; cases this]
    exact okb.frame b u e
  · rw [List.mem_singleton.mp ha]
    exact ⟨q1, q2, Same.free ok.frame hp⟩
inductive ChainF (X : Cx) (mg : Str → Option Value) (W : WX) : List Key → List (TE × TE) → (Env' → Res (List RV × Env')) → Prop
  | nil : ChainF X mg W [] [] aNil
  | cons {k : Key} {ks : List Key} {trs : List (TE × TE)} {f : Env' → Res (RV × Env')} {fr : Env' → Res (List RV × Env')} (h : ChainF X mg W ks trs fr) : ChainF X mg W (k :: ks) ((tC (kV k), tFO X.K mg W f) :: trs) (aConsE f fr)
theorem ChainF.go {X : Cx} {mg : Str → Option Value} {W : WX} {ks : List Key} {trs : List (TE × TE)} {fs : Env' → Res (List RV × Env')} (h : ChainF X mg W ks trs fs) : ∀ {σ : L2.St} {H : Hp} {Q : List (V × V) → Hp → Prop}, tFA X.K mg W fs σ H (fun vs H' => Q ((ks.map kV).zip vs) H') → tPairs trs σ H Q := by
  induction h with
  | nil =>
    rintro σ H Q ⟨G, ρ, ⟨Hs, fp, ok⟩, po⟩
    exact po [] H Hs fp ok rfl
  | cons h ih =>
    rintro σ H Q ⟨G, ρ, ⟨Hs, fp, ok⟩, po⟩
    refine goE ok po (fun _ _ h => h) id fun r1 ρ1 x H1 Hs1 fp1 ok1 dx po1 => ?_
    have ok1' := ok.back ok1
    cases e1 : esc ρ1 r1 with
    | none => simp only [e1] at po1; exact po1.elim
    | some p =>
      obtain ⟨d, ρ1'⟩ := p
      simp only [e1, of_some, bind_ok] at po1
      obtain ⟨Hs1', fp1', okE, sE, dE⟩ := esc_den ok1' dx e1
      refine ih (goA okE po1 (fun _ _ h => h) id fun rs ρ2 ys H2 Hs2 fp2 ok2 dy po2 => ?_)
      have ok2' := okE.back ok2
      exact po2 _ H2 Hs2 fp2 ok2' ⟨x, ys, rfl, dE.mono ok2.base, dy⟩
theorem zip_keys : ∀ {ks : List Key} {vs : List V}, ks.length = vs.length → (ks.map kV).zip vs = (ks.zip vs).map fun kv => (kV kv.1, kv.2)
  | [], [], _ => rfl
  | k :: ks, v :: vs, h => by simp [zip_keys (by simpa using h : ks.length = vs.length)]
theorem zip_fst : ∀ {ks : List Key} {vs : List V}, ks.length = vs.length → (ks.zip vs).map (·.1) = ks
  | [], [], _ => rfl
  | k :: ks, v :: vs, h => by simp [zip_fst (by simpa using h : ks.length = vs.length)]
theorem zip_snd : ∀ {ks : List Key} {vs : List V}, ks.length = vs.length → (ks.zip vs).map (·.2) = vs
  | [], [], _ => rfl
  | k :: ks, v :: vs, h => by simp [zip_snd (by simpa using h : ks.length = vs.length)]
theorem merge_new : ∀ (more kvs : List (Key × V)), (more.map (·.1)).Nodup → (∀ k ∈ more.map (·.1), k ∉ kvs.map (·.1)) → mergeK kvs more = kvs ++ more
  | [], kvs, _, _ => by simp [mergeK]
  | p :: more, kvs, nd, h => by
    simp only [List.map_cons, List.nodup_cons] at nd
    have e : putK kvs p.1 p.2 = kvs ++ [p] := by
      unfold putK
      rw [any_keys, if_neg (by simpa using h p.1 (by simp))]
    show mergeK (putK kvs p.1 p.2) more = _
    rw [e, merge_new more (kvs ++ [p]) nd.2 fun k hk => ?_]
    · simp
    · rw [List.map_append, List.mem_append]
      rintro (z | z)
      · exact h k (by simp [hk]) z
      · simp at z; subst z; exact nd.1 hk
theorem fn_disp {keys : List (Option Expr)} {values : List Expr} {ks : List Key} {trs : List (TE × TE)} {fs : Env' → Res (List RV × Env')} (hc : ChainF X mg W ks trs fs) (h : PPs X pos keys values trs) (hall : keys.all (·.isSome) = true) (hl : keys.length = values.length) (h0 : keys ≠ [])
    (h15 : keys.length ≤ 15) : PE X (.Dict keys values pos) (tFN X.K mg W (nDisp ks fs)) := by
  refine (pe_disp h hall hl h0 h15).imp fun σ H Q ⟨G, ρ, ⟨Hs, fp, ok⟩, po⟩ => fun p hp => ?_
  have okx : OkAt X.K G σ (upd H p (.dK [])) ρ Hs fp := ok.ext (.out ok.sh hp)
  refine hc.go (goA okx po (fun _ _ h => h) id fun rs ρ2 vs H2 Hs2 fp2 ok2 dy po2 => ?_)
  cases e1 : eTup.leafs rs with
  | none => simp only [leafs_eq', e1] at po2; exact po2.elim
  | some ds =>
    simp only [leafs_eq', e1, of_some, bind_ok] at po2
    have dl := leafs_den dy e1
    split at po2
    · rename_i c
      have hlen : ks.length = vs.length := by rw [dl.length]; exact c.2.1
      have ht : DenT X.K Hs2 (upd H2 p (.dK (ks.zip vs))) (.dic ks (ds.map .sh)) (.ref p) [p] := ⟨p, ks.zip vs, [], rfl, rfl, upd_same, zip_fst hlen, by rw [zip_snd hlen]; exact DenTL.sh dl⟩
      obtain ⟨q1, q2⟩ := fn_dic_fin (o2 := .dK (ks.zip vs)) ok hp ok2 po2 ht
      refine ⟨q2, ks.zip vs, zip_keys hlen, by rw [List.length_zip]; omega, ?_⟩
      rw [merge_new _ _ (by rw [zip_fst hlen]; exact c.1) (by simp), List.nil_append]
      exact q1
    · exact po2.elim
end
end FL
namespace FL
open PySem PySem.Spec PyProof.Rows L2
end FL
namespace L2
open PySem PySem.Spec PyProof.Rows HT
/-! ### xs[::-1] of lists, tuples and texts -/
end L2
namespace FL
open PySem PySem.Spec PyProof.Rows L2
end FL
namespace FL
open PySem PySem.Spec PyProof.Rows L2
/-! ### a, b, .. = x, y, ..: with things of one's own -/
theorem OkAt.put' {K G σ H ρ Hs fp i t v f} (ok : OkAt K G σ H ρ Hs fp) (hi : i < ρ.length) (d : DenT K Hs H t v f) (nd : f.Nodup) (q : ∀ a ∈ f, Hs a = none ∧ a ∉ fp ∧ G.2 a = none) :
    ∃ fp', OkAt K G (σ.set i (some v)) H (ρ.set i (some t)) Hs fp' ∧ ∀ a ∈ fp', a ∈ fp ∨ a ∈ f := by
  obtain ⟨f1, f2, f3, e, env⟩ := ok.env.put hi d
  have nfp := ok.nd
  refine ⟨f1 ++ (f ++ f3), ⟨ok.sh, ok.base, ok.frame, fun a p1 p2 => ?_, fun a ha => ?_, ?_, env⟩, fun a ha => ?_⟩
  · obtain ⟨q1, q2⟩ := ok.priv a p1 p2
    refine ⟨q1, fun hm => ?_⟩
    rw [e] at q2
    simp only [List.mem_append, not_or] at q2 hm
    rcases hm with h | h | h
    · exact q2.1 h
    · rw [(q a h).2.2] at p1; cases p1
    · exact q2.2.2 h
  · simp only [List.mem_append] at ha
    rcases ha with h | h | h
    · exact ok.disj a (by rw [e]; simp [h])
    · exact (q a h).1
    · exact ok.disj a (by rw [e]; simp [h])
  · rw [e, List.nodup_append] at nfp
    obtain ⟨n1, n2, n3⟩ := nfp
    rw [List.nodup_append] at n2
    rw [List.nodup_append, List.nodup_append]
    refine ⟨n1, ⟨nd, n2.2.1, fun a ha b hb z => ?_⟩, fun a ha b hb z => ?_⟩
    · subst z
      exact (q a ha).2.1 (by rw [e]; simp [hb])
    · subst z
      rcases List.mem_append.mp hb with hb | hb
      · exact (q a hb).2.1 (by rw [e]; simp [ha])
      · exact n3 a ha a (List.mem_append_right _ hb) rfl
  · simp only [List.mem_append] at ha
    rcases ha with h | h | h
    · exact .inl (by rw [e]; simp [h])
    · exact .inr h
    · exact .inl (by rw [e]; simp [h])
def setTs : Env' → List Nat → List T → Env'
  | ρ, i :: is, t :: ts => setTs (ρ.set i (some t)) is ts
  | ρ, _, _ => ρ
def setVs : L2.St → List Nat → List V → L2.St
  | σ, i :: is, v :: vs => setVs (σ.set i (some v)) is vs
  | σ, _, _ => σ
theorem OkAt.putL {K G H Hs} : ∀ (is : List Nat) {ts : List T} {vs : List V} {f : List Addr} {σ : L2.St} {ρ : Env'} {fp : List Addr}, OkAt K G σ H ρ Hs fp → (∀ i ∈ is, i < ρ.length) → DenTL K Hs H ts vs f → f.Nodup → (∀ a ∈ f, Hs a = none ∧ a ∉ fp ∧ G.2 a = none) →
    Ok K G (setVs σ is vs) H (setTs ρ is ts)
  | [], _, _, _, _, _, _, ok, _, _, _, _ => by unfold setVs setTs; exact ⟨_, _, ok⟩
  | i :: is, [], vs, f, σ, ρ, fp, ok, _, d, _, _ => by
    obtain ⟨rfl, rfl⟩ := d
    unfold setVs setTs
    exact ⟨_, _, ok⟩
  | i :: is, t :: ts, vs, f, σ, ρ, fp, ok, hi, d, nd, q => by
    obtain ⟨v, r, f1, f2, rfl, rfl, d1, d2⟩ := d
    rw [List.nodup_append] at nd
    obtain ⟨n1, n2, n3⟩ := nd
    obtain ⟨fp', ok', hm⟩ := ok.put' (hi i (by simp)) d1 n1 fun a ha => q a (List.mem_append_left _ ha)
    unfold setVs setTs
    refine OkAt.putL is ok' (fun j hj => by rw [List.length_set]; exact hi j (List.mem_cons_of_mem _ hj)) d2 n2 fun a ha => ?_
    obtain ⟨q1, q2, q3⟩ := q a (List.mem_append_right _ ha)
    refine ⟨q1, fun hf => ?_, q3⟩
    rcases hm a hf with h | h
    · exact q2 h
    · exact n3 a h a ha rfl
noncomputable def sParT (is : List Nat) (ns : Env' → Res (List T × Env')) : Env' → Res Fl := fun ρ => (ns ρ).bind fun (ts, ρ1) =>
  if ts.length = is.length ∧ ∀ i ∈ is, i < ρ1.length then .ok (.nx (setTs ρ1 is ts)) else .bad
def gNames : List Nat → TGs
  | [] => gNil
  | i :: is => gCons (gName i) (gNames is)
theorem gNames_of : ∀ (is : List Nat) (vs : List V) (σ : L2.St) (H : Hp) (Q : L2.St → Hp → Prop), vs.length = is.length → Q (setVs σ is vs) H → gNames is vs σ H Q
  | [], vs, σ, H, Q, hl, h => by
    obtain rfl := List.eq_nil_of_length_eq_zero hl
    exact ⟨rfl, by unfold setVs at h; exact h⟩
  | i :: is, [], σ, H, Q, hl, h => by cases hl
  | i :: is, v :: vs, σ, H, Q, hl, h => ⟨v, vs, rfl, gNames_of is vs _ H Q (by simpa using hl) (by unfold setVs at h; exact h)⟩
section
variable {X : Cx} {mg : Str → Option Value} {W : WX} {a b c : Expr}
theorem parT_go {D : Ends} {σ : L2.St} {H : Hp} {is : List Nat} {ns : Env' → Res (List T × Env')} {R : List V → Hp → Prop} (h : tFS X.K mg W (sParT is ns) D σ H)
    (hR : ∀ vs H1, vs.length = is.length → (∀ H2, (∀ G ρ Hs fp, OkAt X.K G (setVs σ is vs) H1 ρ Hs fp → OkAt X.K G (setVs σ is vs) H2 ρ Hs fp) → D.nx (setVs σ is vs) H2) → R vs H1) : tFAT X.K mg W ns σ H R := by
  obtain ⟨G, ρ, ⟨Hs, fp, ok⟩, po⟩ := h
  refine goAT (P := PoS X.K mg W G D) ok po (fun c ρ' h => h σ) id fun ts ρ1 xs H1 Hs1 fp1 ft ok1 dx nd q po1 => ?_
  have ok1' := ok.back ok1
  simp only at po1
  split at po1
  · rename_i c
    have hl : xs.length = is.length := by rw [dx.length]; exact c.1
    obtain ⟨Hs2, fp2, ok2⟩ := ok1'.putL is c.2 dx nd fun a ha => ⟨(q a ha).1, (q a ha).2.1, rem_none ok (q a ha).2.2⟩
    exact hR xs H1 hl fun H2 k => po1 _ _ ⟨Hs2, fp2, k _ _ _ _ ok2⟩
  · exact po1.elim
/-- names stored from the left -/
theorem fs_parTN {is : List Nat} {tg : List Expr} {es : List Expr} {ns : Env' → Res (List T × Env')} {pt pos : Pos} {kt k2 pt2} (hc : X.calm = true) (hg : PGs X tg (gNames is)) (ha : PA X es (tFAT X.K mg W ns))
    (hw : swappedStores [.Tuple tg kt pt] (.Tuple es k2 pt2) X.env = pure none)
    (hn : (assignEach tg X.env).length = is.length := by rfl) (hst : (assignEach tg X.env).findIdx? (·.1) = none := by rfl) (hz : is.length ≤ sizeLine := by decide)
    (hs : swapsWithSole [.Tuple tg kt pt] (.Tuple es k2 pt2) pos.line X.env = pure false := by rfl) (h1 : (assignEach [.Tuple tg kt pt] X.env).map (·.2) = [assign (.Tuple tg kt pt) X.env] := by rfl) :
    PS X (.Assign [.Tuple tg kt pt] (.Tuple es k2 pt2) pos) (tFS X.K mg W (sParT is ns)) := by
  refine (ps_asg (pe_tup ha) (pg_tup hc hg hn hst) hs hw h1).imp fun D σ H h => parT_go h fun vs H1 hl q => ?_
  refine ⟨by rw [hl]; exact hz, fun p hp => ⟨p, vs, rfl, SqT.of upd_same, hl, gNames_of is vs σ _ _ hl (q _ fun G ρ Hs fp o => o.ext (.out o.sh hp))⟩⟩
end
end FL
namespace FL
open PySem PySem.Spec PyProof.Rows L2
/-! ### defs that change the list which is their first argument -/
noncomputable section
theorem set_self {α : Type} : ∀ {l : List α} {i : Nat} {a : α}, l[i]? = some a → l.set i a = l
  | _ :: _, 0, _, h => by cases h; rfl
  | _ :: l, i + 1, _, h => by rw [List.set_cons_succ, set_self (l := l) (by simpa using h)]
end
end FL
namespace FL
open PySem PySem.Spec PyProof.Rows L2
/-! ### a store into the caller's list -/
theorem u1of {n : Nat} (h : n + 65 < cLine) : n + 1 < cLine := Nat.lt_of_le_of_lt (by omega) h
end FL
namespace FL
open PySem PySem.Spec PyProof.Rows L2
/-! ### sorted -/
def strsD : List D → Option (List Str)
  | [] => some []
  | .str x :: r => (strsD r).map (x :: ·)
  | _ :: _ => none
theorem strsD_eq : ∀ {ds : List D} {ns : List Str}, strsD ds = some ns → ds = ns.map .str
  | [], _, h => by cases h; rfl
  | .str i :: r, ns, h => by
    simp only [strsD, Option.map_eq_some_iff] at h
    obtain ⟨es, h1, rfl⟩ := h
    rw [strsD_eq h1]; rfl
theorem den_strs {K H} : ∀ {ns : List Str} {vs : List V}, DenL K H (ns.map .str) vs → vs = ns.map V.str ∧ ∀ x ∈ ns, sOk x
  | [], _, h => ⟨h, fun x h => by cases h⟩
  | n :: ns, _, ⟨v, r, e1, e2, e3⟩ => by
    obtain ⟨q1, q2⟩ := den_strs e3
    refine ⟨by rw [e1, q1, show v = .str n from e2.1]; rfl, fun x hx => ?_⟩
    rcases List.mem_cons.mp hx with rfl | hx
    · exact e2.2
    · exact q2 x hx
end FL
namespace PySem
open Sem (wp)
section
variable {prog : Program} {w : World} {A : Around} {E : Value → Shared → Prop} {s : Shared}
theorem fl_call_list_str {Q : Value → Shared → Prop} (hh : A.handled = none) (x : Str) (t : Tok)
    (hQ : ∀ s' acc c', (∀ b o, s.heap.get? b = some o → s'.heap.get? b = some o) → s'.gens = s.gens → s'.drawn = s.drawn → s'.os = s.os → ItemsOf (SignAt x) acc x.cps.size → s'.heap.get? s.heap.objs.size = some { cls := .type "list", dict := none, data := .seq acc c', slots := #[] } → Q (.ref s.heap.objs.size) s') (hn : x.cps.size ≤ sizeLine) :
    wpAny (model prog w) A (call (.type "list") [.str x t]) Q E s := by
  refine callType_codes (Q₁ := fun obj s₁ => obj = .ref s.heap.objs.size ∧ s₁ = { s with heap := s.heap.push { cls := .type "list", data := .seq #[] } }) F.called_list (F.typeCall_list_1 _) F.entry_list_init
    (code_list_new _ ⟨rfl, rfl⟩) fun obj s₁ h₁ => ?_
  obtain ⟨rfl, rfl⟩ := h₁
  have hS0 : (s.heap.push { cls := .type "list", data := .seq #[] }).get? s.heap.objs.size = some { cls := .type "list", data := .seq #[] } := Heap.get?_push_size _ rfl
  refine ⟨⟨_, hS0, rfl⟩, F.args_list_init_2 _ _, ?_⟩
  show wpAny _ A.in1.in1 (do let old ← Builtin.List.listItems (.ref s.heap.objs.size); Builtin.List.listUpdate (.ref s.heap.objs.size) (fun _ => #[]); letGo old.toList.reverse; Builtin.List.listExtendWith (.ref s.heap.objs.size) (.str x t) .none) _ _ _
  refine wpAny_bind ?_
  unfold Builtin.List.listItems
  refine wpAny_bind (wpAny_seqItems hS0 rfl (wpAny_pure ?_))
  show wpAny _ A.in1.in1 (updateSeq s.heap.objs.size (fun _ => #[]) >>= fun _ => letGo (#[] : Array Value).toList.reverse >>= fun _ => Builtin.List.listExtendWith (.ref s.heap.objs.size) (.str x t) .none) _ _ _
  refine wpAny_bind (wpAny_updateSeq hS0 rfl ?_)
  refine wpAny_bind (wpAny_letGo ?_)
  have hS1 := Heap.get?_update_self (Obj.mapSeq (fun _ => (#[] : Array Value))) hS0 rfl
  generalize hH : (s.heap.push { cls := .type "list", data := .seq #[] }).update s.heap.objs.size (Obj.mapSeq fun _ => (#[] : Array Value)) = H at hS1 ⊢
  have hHs : H.objs.size = s.heap.objs.size + 1 := by rw [← hH, Heap.size_update, Heap.size_push]
  have keep : ∀ b o, s.heap.get? b = some o → H.get? b = some o := fun b o e => by
    have hb : b ≠ s.heap.objs.size := fun e' => Nat.lt_irrefl _ (e' ▸ Heap.lt_size e)
    rw [← hH]
    exact (Heap.get?_update_other _ _ (Ne.symm hb)).trans (Heap.get?_push_of_some _ e)
  unfold Builtin.List.listExtendWith
  refine wpAny_bind (wpAny_typeOf (T := "str") (v := .str x t) rfl ?_)
  have h1 : Builtin.List.listSameRef (.ref s.heap.objs.size) (.str x t) = false := rfl
  have h2 : (Value.type "str" == Value.type "list") = false := by decide
  have h3 : (Value.type "str" == Value.type "tuple") = false := by decide
  simp only [h1, h2, h3, Bool.or_false, Bool.false_eq_true, if_false]
  refine wpAny_bind (wpAny_pyIter_str fun o St W hst => ?_)
  refine wpAny_bind (wpAny_holding ?_)
  unfold Builtin.List.listLengthHint
  refine wpAny_bind (wpAny_specialOf (T := "str") (v := .str x t) rfl F.str_len ?_)
  wp_delta
  refine wpAny_bind (wpAny_isInstance (T := "str") (v := .str x t) (b := true) rfl (by rw [isSubtype_type]; kernel_rfl) ?_)
  show wpAny _ A.in1.in1 (typeOf (Value.str x t) >>= _) _ _ _
  refine wpAny_bind (wpAny_typeOf (T := "str") (v := .str x t) rfl ?_)
  refine wpAny_pure ?_
  rw [if_neg (by decide)]
  have hSf : s.heap.objs.size ∉ [H.objs.size] := fun hm => by rw [List.mem_singleton.mp hm] at hHs; exact absurd hHs (Nat.ne_of_lt (Nat.lt_succ_self _))
  have hSo : (H.push o).get? s.heap.objs.size = some { cls := .type "list", dict := none, data := .seq #[], slots := #[] } := Heap.get?_push_of_some _ (by simpa [Obj.mapSeq] using hS1)
  refine wpAny_pure ⟨plainId_quiet F.plain_extend_loop _, codeAny_extend_loopS (W A.in1.in1 hh).toS hn _ hSf _ x.cps.size 0 _ _ _ rfl (Nat.zero_le _) hst hSo (ItemsOf.nil _) fun s' acc' c' hm hS' hacc => ?_⟩
  refine ⟨rfl, hQ s' acc' c' (fun b ob e => hm.heap b ob (fun hb => ?_) (Heap.get?_push_of_some _ (keep b ob e))) hm.gens hm.drawn hm.os hacc hS'⟩
  have hlt := Heap.lt_size e
  rcases List.mem_cons.mp hb with h | h
  · exact absurd hlt (h ▸ Nat.lt_irrefl _)
  · rw [List.mem_singleton.mp h, hHs] at hlt; exact absurd hlt (Nat.not_lt.mpr (Nat.le_succ _))
end
end PySem
namespace FL
open PySem PySem.Spec PyProof.Rows L2
noncomputable def D.toLstS : List D → Option (List D)
  | [.str x] => some (signs x)
  | ds => D.toLst ds
theorem signs_den {K H} {x : Str} (h : sOk x) : DenL K H (signs x) (x.cps.toList.map fun c => V.str ⟨#[c]⟩) := by
  unfold signs
  have : ∀ l : List Nat, (∀ c ∈ l, sOk ⟨#[c]⟩) → DenL K H (l.map fun c => D.str ⟨#[c]⟩) (l.map fun c => V.str ⟨#[c]⟩) := by
    intro l
    induction l with
    | nil => intro _; rfl
    | cons c l ih => exact fun h => ⟨_, _, rfl, ⟨rfl, h c (by simp)⟩, ih fun d hd => h d (List.mem_cons_of_mem _ hd)⟩
  exact this _ fun c hc => sOk_sign h hc
section
variable {X : Cx}
theorem vals_at : ∀ {xs : List V} {us : List Value}, xs.length = us.length → (∀ (i : Nat) (x : V) (u : Value), xs[i]? = some x → us[i]? = some u → RelV x u) → Vals xs us
  | [], [], _, _ => .nil
  | [], _ :: _, h, _ => by cases h
  | _ :: _, [], h, _ => by cases h
  | x :: xs, u :: us, h, k => .cons (k 0 x u rfl rfl) (vals_at (by simpa using h) fun i y w h1 h2 => k (i + 1) y w (by simpa using h1) (by simpa using h2))
theorem items_vals {x : Str} {acc : Array Value} (h : ItemsOf (SignAt x) acc x.cps.size) : Vals (x.cps.toList.map fun c => V.str ⟨#[c]⟩) acc.toList := by
  obtain ⟨h1, h2⟩ := h
  refine vals_at (by simp [h1]) fun i y u hy hu => ?_
  obtain ⟨c, t, hc, rfl⟩ := h2 i u (by simpa using hu)
  rw [List.getElem?_map] at hy
  have hc' : x.cps.toList[i]? = some c := by simpa using hc
  rw [hc'] at hy
  cases hy
  exact ⟨t, rfl⟩
theorem cn_listS (hc : X.calm = true) : CallN X (.type "list") D.toLstS := by
  rintro pins s σ H xs us Q I r ⟨Hs, ds, d, e, h1, h2, q⟩
  unfold D.toLstS at h2
  split at h2
  · cases h2
    obtain ⟨v, rfl, rfl, k⟩ := h1.d1
    obtain ⟨u, rfl, t, rfl⟩ := vals1 r
    refine fl_call_list_str (I.ok.hd hc) _ t (fun s' acc c' kp kg kd ko hi hl => ?_) k.1
    obtain ⟨h', g', d', t', o'⟩ := s'
    simp only at kp kg kd ko hl
    subst kg; subst kd; subst ko
    have rv := items_vals hi
    have hn := I.hok.fresh (Nat.le_refl s.heap.objs.size)
    refine ⟨.ref s.heap.objs.size, _, I.laid (h' := h') (t' := t') kp (Nat.le_refl _) (show ObjOk X.prog X.w _ h' _ (.lst _) from ⟨?_, acc.toList, c', rv, by simpa using hl⟩), rfl, q _ _ _ hn upd_same (keep_new hn) (signs_den k)⟩
    rw [List.length_map]
    exact k.1
  · exact cn_list pins s σ H xs us Q I r ⟨Hs, ds, d, e, h1, h2, q⟩
end
end FL
namespace FL
open PySem PySem.Spec PyProof.Rows L2
/-! ### zip of two of any kind: lists, tuples, texts -/
inductive Src where
  | l (a : Addr) | t (a : Addr) | s (x : Str)
def Src.v : Src → V
  | .l a => .ref a
  | .t a => .ref a
  | .s x => .str x
def sgnV (x : Str) : List V := x.cps.toList.map fun c => V.str ⟨#[c]⟩
def Src.items (K : PySem.W.Frag) (H : Hp) : Src → List V → Prop
  | .l a, xs => SqL K H a xs
  | .t a, xs => SqT K H a xs
  | .s x, xs => xs = sgnV x
def Src.tn (h : Heap) (it : Addr) (i : Nat) : Src → Prop
  | .l a => h.IsListIter it a i
  | .t a => h.IsTupleIter it a i
  | .s x => ∃ t, h.IsStrIter it (strIterType x) x t i
def Src.ap : Src → Addr → Prop
  | .l a, c => a ≠ c
  | .t a, c => a ≠ c
  | .s _, _ => True
theorem Src.tn_at {k : Src} {h h' : Heap} {it : Addr} {i : Nat} (st : k.tn h it i) (e : ∀ o, h.get? it = some o → h'.get? it = some o) : k.tn h' it i := by
  cases k with
  | l a => exact Heap.IsListIter.at st e
  | t a => exact Heap.IsTupleIter.at st e
  | s x =>
    obtain ⟨t, o, ho, r⟩ := st
    exact ⟨t, o, e o ho, r⟩
theorem Src.tn_obj {k : Src} {h : Heap} {it : Addr} {i : Nat} (st : k.tn h it i) : ∃ o, h.get? it = some o ∧ ∀ v, o.data ≠ .cell v := by
  cases k with
  | l a =>
    obtain ⟨o, e, c, d⟩ := st
    exact ⟨o, e, fun v z => by rw [d] at z; cases z⟩
  | t a =>
    obtain ⟨o, e, c, d⟩ := st
    exact ⟨o, e, fun v z => by rw [d] at z; cases z⟩
  | s x =>
    obtain ⟨t, o, e, c, d⟩ := st
    exact ⟨o, e, fun v z => by rw [d] at z; cases z⟩
section
variable {X : Cx} {pins : List (Addr × Obj)} {σ : L2.St} {H : Hp} {s : Shared}
theorem vals_get {xs : List V} {us : List Value} (h : Vals xs us) {i : Nat} {u : Value} (hu : us[i]? = some u) : ∃ x, xs[i]? = some x ∧ RelV x u := by
  have hl := h.length
  have hi : i < us.length := (List.getElem?_eq_some_iff.mp hu).1
  obtain ⟨u', h1, h2⟩ := h.get (List.getElem?_eq_getElem (show i < xs.length by omega))
  rw [hu] at h1
  cases h1
  exact ⟨_, List.getElem?_eq_getElem (show i < xs.length by omega), h2⟩
theorem src_draws (hc : X.calm = true) (I : Inv X pins σ H s) {k : Src} {xs : List V} (hq : k.items X.K H xs) {it : Addr} {i : Nat} (st : k.tn s.heap it i) (hap : k.ap it) :
    ∃ (fp : List Addr) (n : Nat) (P : Nat → Value → Prop) (St : Nat → Heap → Prop), Draws X.prog X.w X.A.in1 it fp n P St ∧ St i s.heap ∧ it ∈ fp ∧ (∀ c, c ≠ it → k.ap c → c ∉ fp) ∧ n = xs.length ∧
      (∀ j v, P j v → ∃ x, xs[j]? = some x ∧ RelV x v) ∧ ∀ j h', St j h' → k.tn h' it j := by
  cases k with
  | l a =>
    obtain ⟨its, rv, p, _⟩ := I.list hq
    refine ⟨[it, a], its.toArray.size, fun i v => its.toArray[i]? = some v, fun i h => h.IsListIter it a i ∧ h.IsList a its.toArray, Draws.list (A := X.A.in1) (show X.A.in1.handled = none from I.ok.hd hc) it a hap its.toArray, ⟨st, p.isList⟩, by simp, fun c h1 h2 h => ?_, by simp [rv.length], fun j v h => vals_get rv (by simpa using h), fun j h' h => h.1⟩
    have : c = it ∨ c = a := by simpa using h
    exact this.elim h1 fun e => h2 e.symm
  | t a =>
    obtain ⟨its, rv, p, _⟩ := I.tuple hq
    refine ⟨[it, a], its.toArray.size, fun i v => its.toArray[i]? = some v, fun i h => h.IsTupleIter it a i ∧ h.IsTuple a its.toArray, Draws.tuple (A := X.A.in1) (show X.A.in1.handled = none from I.ok.hd hc) it a hap its.toArray, ⟨st, p⟩, by simp, fun c h1 h2 h => ?_, by simp [rv.length], fun j v h => vals_get rv (by simpa using h), fun j h' h => h.1⟩
    have : c = it ∨ c = a := by simpa using h
    exact this.elim h1 fun e => h2 e.symm
  | s x =>
    obtain ⟨t, st⟩ := st
    have hq : xs = sgnV x := hq
    subst hq
    refine ⟨[it], x.cps.size, fun i v => ∃ c u, x.cps[i]? = some c ∧ v = .str ⟨#[c]⟩ u, fun i h => h.IsStrIter it (strIterType x) x t i, Draws.text (A := X.A.in1) (show X.A.in1.handled = none from I.ok.hd hc) it x t, st, by simp, fun c h1 _ h => h1 (by simpa using h), by simp [sgnV], fun j v h => ?_, fun j h' h => ⟨t, h⟩⟩
    obtain ⟨c, u, h1, rfl⟩ := h
    refine ⟨.str ⟨#[c]⟩, ?_, ⟨u, rfl⟩⟩
    unfold sgnV
    rw [List.getElem?_map]
    have : x.cps.toList[j]? = some c := by simpa using h1
    rw [this]; rfl
end
def Itu (K : PySem.W.Frag) (k1 k2 : Src) (l1 l2 : Nat) : It :=
  ⟨fun i H => ∃ (xs ys : List V), k1.items K H xs ∧ k2.items K H ys ∧ xs.length = l1 ∧ ys.length = l2 ∧ i < l1 ∧ i < l2,
    fun i H v H' => ∃ T x y, v = .ref T ∧ H T = none ∧ H' = upd H T (.tup [x, y]) ∧ (∀ xs, k1.items K H xs → xs[i]? = some x) ∧ ∀ ys, k2.items K H ys → ys[i]? = some y,
    fun i H => ∃ xs ys : List V, k1.items K H xs ∧ k2.items K H ys ∧ xs.length = l1 ∧ ys.length = l2 ∧ (l1 ≤ i ∨ l2 ≤ i)⟩
theorem Src.inj {X : Cx} {pins : List (Addr × Obj)} {σ : L2.St} {H : Hp} {s : Shared} (I : Inv X pins σ H s) {k : Src} {xs ys : List V} (h1 : k.items X.K H xs) (h2 : k.items X.K H ys) : xs = ys := by
  cases k with
  | l a => exact I.list_inj h1 h2
  | t a => exact I.tuple_inj h1 h2
  | s x => exact h1.trans h2.symm
structure ZApart (z TI TO i1 i2 : Addr) (k1 k2 : Src) : Prop where
  TIz : TI ≠ z
  TOz : TO ≠ z
  TITO : TI ≠ TO
  TIi1 : TI ≠ i1
  TIi2 : TI ≠ i2
  zi1 : z ≠ i1
  zi2 : z ≠ i2
  TOi1 : TO ≠ i1
  TOi2 : TO ≠ i2
  i12 : i1 ≠ i2
  a1z : k1.ap z
  a1T : k1.ap TO
  a11 : k1.ap i1
  a12 : k1.ap i2
  a2z : k2.ap z
  a2T : k2.ap TO
  a21 : k2.ap i1
  a22 : k2.ap i2
theorem turn_zipU {P : Program} {w : World} {K : PySem.W.Frag} {elts : List Expr} {kk : Nat} {tpos : Pos} {k1 k2 : Src} {z TI TO i1 i2 : Addr} {l1 l2 : Nat} (D : ZApart z TI TO i1 i2 k1 k2) :
    Turn P w K (.Tuple elts kk tpos) (Itu K k1 k2 l1 l2) [z, TI, TO, i1, i2] z (fun i h => IsZip h z TI TO .none ∧ IsTupOf2 h TI (.ref i1) (.ref i2) ∧ (∃ x y, IsTupOf2 h TO x y) ∧ k1.tn h i1 i ∧ k2.tn h i2 i ∧ i ≤ l1 ∧ i ≤ l2) where
  mem := by simp
  obj := fun i h st c hc => by
    obtain ⟨hz, hTI, ⟨x, y, hTO⟩, h1, h2, hl⟩ := st
    have e' : c = z ∨ c = TI ∨ c = TO ∨ c = i1 ∨ c = i2 := by simpa using hc
    rcases e' with q | q | q | q | q
    · rw [q]; exact ⟨_, hz, fun v q => nomatch q⟩
    · rw [q]; exact ⟨_, hTI, fun v q => nomatch q⟩
    · rw [q]; exact ⟨_, hTO, fun v q => nomatch q⟩
    · rw [q]; exact Src.tn_obj h1
    · rw [q]; exact Src.tn_obj h2
  keep := fun i h h' st k => by
    obtain ⟨hz, hTI, ⟨x, y, hTO⟩, h1, h2, hl⟩ := st
    exact ⟨k z (by simp) _ hz, k TI (by simp) _ hTI, ⟨x, y, k TO (by simp) _ hTO⟩, Src.tn_at h1 fun o q => k i1 (by simp) o q, Src.tn_at h2 fun o q => k i2 (by simp) o q, hl⟩
  item := by
    intro X hP hw hK hc i pins s σ H E I hf st hg
    subst hP hw hK
    obtain ⟨hz, hTI, ⟨x0, y0, hTO⟩, h1, h2, hl1, hl2⟩ := st
    obtain ⟨xs, ys, hqx, hqy, el1, el2, hx, hy⟩ := hg
    obtain ⟨fp1, n1, P1, St1, D1, s1, m1, f1, e1, r1, t1⟩ := src_draws hc I hqx h1 D.a11
    obtain ⟨fp2, n2, P2, St2, D2, s2, m2, f2, e2, r2, t2⟩ := src_draws hc I hqy h2 D.a22
    have S : ZipSep2 z TI TO i1 i2 fp1 fp2 := ⟨D.TIz, D.TOz, D.TITO, D.TIi1, m1, f1 _ D.zi1 D.a1z, f1 _ D.TOi1 D.a1T, D.TIi2, m2, f2 _ D.zi2 D.a2z, f2 _ D.TOi2 D.a2T, f2 _ D.i12 D.a21, f1 _ D.i12.symm D.a12⟩
    have hzl : z < s.heap.objs.size := Heap.lt_size hz
    refine wpAny_pyNext_zipD2_item S D1 D2 hz hTI hTO s1 s2 (by omega) (by omega) fun u u2 h' tk p1 p2 z' TO' h1' h2' hT hsz hk => ?_
    obtain ⟨x, hx, ru⟩ := r1 _ _ p1
    obtain ⟨y, hy, ru2⟩ := r2 _ _ p2
    refine ⟨_, rfl, wpAny_letOwnedTupleGo_zip (s := { s with heap := h', toks := tk }) z' fun h'' z'' sb => ?_⟩
    have hT2 : h''.get? s.heap.objs.size = some { cls := .type "tuple", data := .seq #[u, u2] } := (sb.2 _ (Nat.ne_of_gt hzl)).trans hT
    have new : ObjOk X.prog X.w (upd H s.heap.objs.size (.tup [x, y])) h'' s.heap.objs.size (.tup [x, y]) :=
      ⟨by show 2 ≤ sizeLine; decide, [u, u2], .cons ru (.cons ru2 .nil), ⟨_, hT2, rfl, _, rfl⟩⟩
    have I1 : Inv X pins σ (upd H s.heap.objs.size (.tup [x, y])) { s with heap := h'', toks := tk } :=
      I.turnedNew (t' := tk) (ch := [z, TI, TO, i1, i2]) (fun c o hb q => (sb.2 c (fun q' => hb (by simp [q']))).trans (hk c o (fun q' => hb (by simp [q'])) (fun q' => hb (by simp [q'])) (fun q' => hb (by simp [q'])) (fun q' => hb (by simp [q'])) q)) hf (Nat.le_refl _) new
    refine ⟨.ref s.heap.objs.size, _, I1, rfl, ⟨_, x, y, rfl, I.hok.fresh (Nat.le_refl _), rfl, fun l hl => by rw [Src.inj I hl hqx]; exact hx, fun l hl => by rw [Src.inj I hl hqy]; exact hy⟩, ⟨z'', ?_, ⟨u, u2, ?_⟩, ?_, ?_, by omega, by omega⟩, fun c hcm => ?_⟩
    · exact (sb.2 _ D.TIz).trans (hk _ _ D.TIz D.TITO D.TIi1 D.TIi2 hTI)
    · exact (sb.2 _ D.TOz).trans TO'
    · exact Src.tn_at (t1 _ _ h1') fun o q => (sb.2 _ D.zi1.symm).trans q
    · exact Src.tn_at (t2 _ _ h2') fun o q => (sb.2 _ D.zi2.symm).trans q
    · have hlt : c < s.heap.objs.size := by
        have e' : c = z ∨ c = TI ∨ c = TO ∨ c = i1 ∨ c = i2 := by simpa using hcm
        rcases e' with q | q | q | q | q
        · rw [q]; exact hzl
        · rw [q]; exact Heap.lt_size hTI
        · rw [q]; exact Heap.lt_size hTO
        · rw [q]; obtain ⟨_, e1, _⟩ := Src.tn_obj h1; exact Heap.lt_size e1
        · rw [q]; obtain ⟨_, e2, _⟩ := Src.tn_obj h2; exact Heap.lt_size e2
      rw [upd_ne (Nat.ne_of_lt hlt)]
      exact (hf c hcm).1
  done := by
    intro X hP hw hK hc i pins s σ H E I hf st hg
    subst hP hw hK
    obtain ⟨hz, hTI, ⟨x0, y0, hTO⟩, h1, h2, hl1, hl2⟩ := st
    obtain ⟨xs, ys, hqx, hqy, el1, el2, hend⟩ := hg
    obtain ⟨fp1, n1, P1, St1, D1, s1, m1, f1, e1, r1, t1⟩ := src_draws hc I hqx h1 D.a11
    obtain ⟨fp2, n2, P2, St2, D2, s2, m2, f2, e2, r2, t2⟩ := src_draws hc I hqy h2 D.a22
    have S : ZipSep2 z TI TO i1 i2 fp1 fp2 := ⟨D.TIz, D.TOz, D.TITO, D.TIi1, m1, f1 _ D.zi1 D.a1z, f1 _ D.TOi1 D.a1T, D.TIi2, m2, f2 _ D.zi2 D.a2z, f2 _ D.TOi2 D.a2T, f2 _ D.i12 D.a21, f1 _ D.i12.symm D.a12⟩
    exact wpAny_pyNext_zipD2_end S D1 D2 hz hTI hTO s1 s2 (by omega) (by omega) (by omega) fun h' tk hk => ⟨rfl, I.turnedL (t' := tk) (ch := [z, TI, TO, i1, i2]) (fun c o hb q =>
      hk c o (fun q' => hb (by simp [q'])) (fun q' => hb (by simp [q'])) (fun q' => hb (by simp [q'])) (fun q' => hb (by simp [q'])) q) hf⟩
  self := fun A i s Q E st h => wpAny_pyIter_zip st.1 h
theorem src_begins {X : Cx} {pins : List (Addr × Obj)} {σ : L2.St} {H : Hp} {s : Shared} (I : Inv X pins σ H s) {k : Src} {xs : List V} (hq : k.items X.K H xs) {u : Value} (r : RelV k.v u) :
    ∃ (o : Obj) (B : Heap → Prop), Begins u o B ∧ B s.heap ∧ (∀ h it, h.get? it = some o → k.tn h it 0) ∧ ∀ c, s.heap.objs.size ≤ c → k.ap c := by
  cases k with
  | l a =>
    cases r
    obtain ⟨its, rv, p, _⟩ := I.list hq
    exact ⟨_, _, begins_list a its.toArray, p.isList, fun h it e => ⟨_, e, rfl, rfl⟩, fun c hc => Nat.ne_of_lt (Nat.lt_of_lt_of_le p.lt hc)⟩
  | t a =>
    cases r
    obtain ⟨its, rv, p, _⟩ := I.tuple hq
    obtain ⟨o, ho, _⟩ := id p
    exact ⟨_, _, begins_tuple a its.toArray, p, fun h it e => ⟨_, e, rfl, rfl⟩, fun c hc => Nat.ne_of_lt (Nat.lt_of_lt_of_le (Heap.lt_size ho) hc)⟩
  | s x =>
    obtain ⟨t, rfl⟩ := r
    exact ⟨_, _, begins_text x t, trivial, fun h it e => ⟨t, _, e, rfl, rfl⟩, fun c hc => trivial⟩
theorem zap (n : Nat) {k1 k2 : Src} (f1 : ∀ c, n ≤ c → k1.ap c) (f2 : ∀ c, n ≤ c → k2.ap c) : ZApart (n + 4) (n + 2) (n + 3) n (n + 1) k1 k2 := by
  have ne : ∀ a b : Nat, a ≠ b → (n + a : Nat) ≠ (n + b : Nat) := fun a b h => by omega
  have ne0 : ∀ a : Nat, a ≠ 0 → (n + a : Nat) ≠ n := fun a h => by omega
  have le : ∀ a : Nat, n ≤ n + a := fun a => by omega
  exact ⟨ne _ _ (by decide), ne _ _ (by decide), ne _ _ (by decide), ne0 _ (by decide), ne _ _ (by decide), ne0 _ (by decide), ne _ _ (by decide), ne0 _ (by decide), ne _ _ (by decide), (ne0 _ (by decide)).symm,
    f1 _ (le _), f1 _ (le _), f1 _ (Nat.le_refl _), f1 _ (le _), f2 _ (le _), f2 _ (le _), f2 _ (Nat.le_refl _), f2 _ (le _)⟩
def iZipU (K : PySem.W.Frag) (ta : TA) : TI := fun σ H R => ta σ H fun vs H1 => ∃ k1 k2 xs ys, vs = [Src.v k1, Src.v k2] ∧ k1.items K H1 xs ∧ k2.items K H1 ys ∧ R (Itu K k1 k2 xs.length ys.length) H1
theorem pi_zipU {X : Cx} {e e2 : Expr} {ta : TA} {p pos tpos : Pos} {elts : List Expr} {kk : Nat} (hg : Gl X "zip") (hm : X.mg "zip" = none) (ha : PA X [e, e2] ta)
    (hs : starEach [e, e2] X.env = (false, eval e X.env) :: starEach [e2] X.env := by rfl) (hpl : (backTo pos (starEach [e2] X.env)).any (·.1) = false := by rfl) :
    PI X (.Tuple elts kk tpos) (.Call (.Name "zip" p) [e, e2] [] pos) (iZipU X.K ta) := by
  refine ⟨fun pins s σ H R I h => ?_⟩
  refine Call_ (ld_blt I hg hm PyProof.Rows.boot_zip (PyProof.Rows.callWith_type1 (thn (ha.run pos pins s σ H _ I h) fun us s1 ⟨vs, H1, I1, r1, q1⟩ => ?_) hs hpl))
  obtain ⟨k1, k2, xs, ys, ex, hqx, hqy, q⟩ := q1
  subst ex
  cases r1 with
  | cons r rr =>
    cases rr with
    | cons r' rr =>
      cases rr
      have fresh5 : ∀ c, c ∈ [s1.heap.objs.size + 4, s1.heap.objs.size + 2, s1.heap.objs.size + 3, s1.heap.objs.size, s1.heap.objs.size + 1] → FpOk X pins H1 c := fun c hcm => by
        have e' : c = s1.heap.objs.size + 4 ∨ c = s1.heap.objs.size + 2 ∨ c = s1.heap.objs.size + 3 ∨ c = s1.heap.objs.size ∨ c = s1.heap.objs.size + 1 := by simpa using hcm
        have hle : s1.heap.objs.size ≤ c := by
          rcases e' with z | z | z | z | z
          · rw [z]; exact Nat.le_add_right _ _
          · rw [z]; exact Nat.le_add_right _ _
          · rw [z]; exact Nat.le_add_right _ _
          · rw [z]; exact Nat.le_refl _
          · rw [z]; exact Nat.le_add_right _ _
        exact I1.fpOk hle (I1.hok.fresh hle)
      obtain ⟨o1, B1, b1, c1, d1, f1⟩ := src_begins I1 hqx r
      obtain ⟨o2, B2, b2, c2, d2, f2⟩ := src_begins I1 hqy r'
      refine zip_begins2 b1 b2 c1 c2 fun h' hz hTI hTO h1 h2 hsz hk => wpAny_pyIter_zip hz ?_
      have I2 : Inv X pins σ H1 { s1 with heap := h' } := I1.kept (t' := s1.toks) hk
      have D := zap s1.heap.objs.size f1 f2
      exact ⟨s1.heap.objs.size + 4, [s1.heap.objs.size + 4, s1.heap.objs.size + 2, s1.heap.objs.size + 3, s1.heap.objs.size, s1.heap.objs.size + 1], _, _, H1, rfl, I2, turn_zipU D, ⟨hz, hTI, ⟨_, _, hTO⟩, d1 _ _ h1, d2 _ _ h2, Nat.zero_le _, Nat.zero_le _⟩, fresh5, q⟩
theorem Src.mono {K : PySem.W.Frag} {H H' : Hp} (e : Same H H') {k : Src} {xs : List V} (h : k.items K H xs) : k.items K H' xs := by
  cases k with
  | l a => exact e.seq h
  | t a => exact e.seqT h
  | s x => exact h
theorem iter_zipU {K Hs k1 k2 vs us ds es} (h : Src.items K Hs k1 vs) (h2 : Src.items K Hs k2 us) (hd : DenL K Hs ds vs) (he : DenL K Hs es us) : IterOf K (Itu K k1 k2 vs.length us.length) (zipD ds es) Hs := fun i Hs1 H e1 e2 => by
  have s1 := Src.mono e2 (Src.mono e1 h)
  have s2 := Src.mono e2 (Src.mono e1 h2)
  have l := hd.length
  have l2 := he.length
  rw [zipD_length]
  refine ⟨fun hi => ?_, fun hi => ⟨vs, us, s1, s2, rfl, rfl, by omega⟩⟩
  obtain ⟨v, hv, dv⟩ := (hd.mono e1).get (List.getElem?_eq_getElem (show i < ds.length by omega))
  obtain ⟨u, hu, du⟩ := (he.mono e1).get (List.getElem?_eq_getElem (show i < es.length by omega))
  refine ⟨⟨vs, us, s1, s2, rfl, rfl, by omega, by omega⟩, fun x H' ⟨T, y, z, ex, hT, eH, q, q2⟩ => ?_⟩
  have := q vs s1
  rw [hv] at this
  cases this
  have := q2 us s2
  rw [hu] at this
  cases this
  subst ex; subst eH
  obtain ⟨k1, k2⟩ := ext_two e2 hT dv du
  refine ⟨_, k1, fun d hd => ?_⟩
  rw [zipD_get, List.getElem?_eq_getElem (show i < ds.length by omega), List.getElem?_eq_getElem (show i < es.length by omega)] at hd
  simp only [Option.some.injEq] at hd
  subst hd
  exact k2
theorem signs_denL {K H} {x : Str} (h : sOk x) : DenL K H (signs x) (sgnV x) := by
  have : ∀ l : List Nat, (∀ c ∈ l, c ∈ x.cps.toList) → DenL K H (l.map fun c => D.str ⟨#[c]⟩) (l.map fun c => V.str ⟨#[c]⟩) := by
    intro l
    induction l with
    | nil => intro _; rfl
    | cons c l ih => intro hl; exact ⟨_, _, rfl, ⟨rfl, sOk_sign h (hl c (by simp))⟩, ih fun c' h' => hl c' (by simp [h'])⟩
  exact this _ fun c h => h
theorem walk_src {K H} {d : D} {v : V} {ds : List D} (h : Den K H d v) (e : d.walk = some ds) : ∃ k xs, v = Src.v k ∧ Src.items K H k xs ∧ DenL K H ds xs := by
  cases d with
  | lst es => cases e; obtain ⟨a, vs, rfl, k1, k2⟩ := h; exact ⟨.l a, vs, rfl, SqL.lst k1, k2⟩
  | fz es => cases e; obtain ⟨a, vs, rfl, k1, k2⟩ := h; exact ⟨.l a, vs, rfl, k1, k2⟩
  | tup es => cases e; obtain ⟨a, vs, rfl, k1, k2⟩ := h; exact ⟨.t a, vs, rfl, SqT.of k1, k2⟩
  | ftup es => cases e; obtain ⟨a, vs, rfl, k1, k2⟩ := h; exact ⟨.t a, vs, rfl, k1, k2⟩
  | str x => cases e; obtain ⟨rfl, k⟩ := h; exact ⟨.s x, _, rfl, rfl, signs_denL k⟩
  | _ => cases e
section
variable {X : Cx} {mg : Str → Option Value} {W : WX} {a b : Expr} {fa fb : Env' → Res (RV × Env')} {pos p tpos : Pos}
noncomputable def iZipW (fa fb : Env' → Res (RV × Env')) : Env' → Res (List D × Env') := fun ρ => (aConsE fa (aConsE fb aNil) ρ).bind fun (rs, ρ1) => match rs with
  | [.leaf d, .leaf e] => (Res.of d.walk).bind fun ds => (Res.of e.walk).bind fun es => .ok (zipD ds es, ρ1)
  | _ => .bad
theorem fi_zipW {elts : List Expr} {kk : Nat} (hg : Gl X "zip") (hm : X.mg "zip" = none) (ha : PE X a (tFO X.K mg W fa)) (hb : PE X b (tFO X.K mg W fb)) (hs : starEach [a, b] X.env = (false, eval a X.env) :: starEach [b] X.env := by rfl) (hs2 : starEach [b] X.env = (false, eval b X.env) :: starEach [] X.env := by rfl)
    (hpl : (backTo pos (starEach [b] X.env)).any (·.1) = false := by rfl) : PI X (.Tuple elts kk tpos) (.Call (.Name "zip" p) [a, b] [] pos) (tFI X.K mg W (iZipW fa fb)) := by
  have pa : PA X [a, b] (tFA X.K mg W (aConsE fa (aConsE fb aNil))) := fa_consE ha (fa_consE hb fa_nil hs2) hs
  refine (pi_zipU hg hm pa hs hpl).imp fun σ H R ⟨G, ρ, ⟨Hs, fp, ok⟩, po⟩ => ?_
  unfold iZipW at po
  cases e0 : aConsE fa (aConsE fb aNil) ρ with
  | exc c ρ' => exact ⟨_, ρ, ⟨Hs, fp, ok.self⟩, by rw [e0] at po ⊢; exact fun H' C hc o => po H' C hc (Ok.back ok o)⟩
  | bad => rw [e0] at po; exact po.elim
  | ok q =>
    obtain ⟨rs, ρ1⟩ := q
    rw [e0] at po
    simp only [bind_ok] at po
    split at po
    · rename_i d e
      refine ⟨_, ρ, ⟨Hs, fp, ok.self⟩, ?_⟩
      rw [e0]
      intro vs H1 Hs1 fp1 ok1 ⟨v, ws, ev, dv, v2, ws2, ev2, dv2, ew⟩
      subst ev; subst ev2
      cases ew
      cases w1 : d.walk with
      | none => rw [w1] at po; exact po.elim
      | some ds =>
        cases w2 : e.walk with
        | none => rw [w1, w2] at po; exact po.elim
        | some es =>
          rw [w1, w2] at po
          obtain ⟨k1, xs, rfl, i1, d1⟩ := walk_src dv w1
          obtain ⟨k2, ys, rfl, i2, d2⟩ := walk_src dv2 w2
          exact ⟨k1, k2, xs, ys, rfl, Src.mono ok1.sh i1, Src.mono ok1.sh i2, po _ _ _ _ (ok.back ok1) (iter_zipU i1 i2 d1 d2)⟩
    · exact po.elim
end
end FL
namespace FL
open PySem PySem.Spec PyProof.Rows L2
/-! ### str.join -/
noncomputable def joinOk (a : Str) (ys : List Str) : Prop := (ys.map (·.length)).sum + ys.length * a.length ≤ sizeLine
open Classical in
noncomputable def D.join : D → List D → Option D
  | .str a, [e] => match e.items with
    | some ds => match strsD ds with
      | some ys => if joinOk a ys then some (.str (Txt.join a ys)) else none
      | none => none
    | none => none
  | _, _ => none
theorem join_ok {a : Str} (ha : sOk a) : ∀ {ys : List Str}, (∀ y ∈ ys, sOk y) → joinOk a ys → sOk (Txt.join a ys) := by
  intro ys hy hj
  rw [_root_.TL.join_eq]
  have key : ∀ ys : List Str, (∀ y ∈ ys, sOk y) → (Str.join a ys).length ≤ (ys.map (·.length)).sum + ys.length * a.length ∧ PyData.strOk (Str.join a ys) = true := by
    intro ys
    induction ys with
    | nil =>
      intro _
      have e : Str.join a [] = ⟨#[]⟩ := rfl
      rw [e]
      exact ⟨Nat.zero_le _, by decide +kernel⟩
    | cons x r ih =>
      intro h
      cases r with
      | nil => exact ⟨by show x.length ≤ _; simp, (h x (by simp)).2⟩
      | cons y r =>
        obtain ⟨h1, h2⟩ := ih fun z hz => h z (by simp [hz])
        refine ⟨?_, strOk_app (strOk_app (h x (by simp)).2 ha.2) h2⟩
        show ((x ++ a) ++ Str.join a (y :: r)).length ≤ _
        rw [len_app, len_app]
        simp only [List.map_cons, List.sum_cons, List.length_cons] at h1 ⊢
        have : (r.length + 1 + 1) * a.length = (r.length + 1) * a.length + a.length := by rw [Nat.add_mul (r.length + 1) 1, Nat.one_mul]
        omega
  obtain ⟨h1, h2⟩ := key ys hy
  exact ⟨Nat.le_trans h1 hj, h2⟩
theorem md_join {X : Cx} : MtD X "str.join" D.join := by
  rintro pins s σ H x xs v us Q I rx rxs ⟨Hs, d, ds, e, sm, h1, h2, g, q⟩
  refine mt_join pins s σ H x xs v us Q I rx rxs ?_
  unfold D.join at g
  split at g
  · rename_i a e'
    obtain ⟨v, rfl, h3⟩ := h2.d1
    obtain ⟨rfl, ka⟩ := h1
    split at g
    · rename_i es he
      split at g
      · rename_i ys hs
        split at g
        · rename_i hj
          cases g
          obtain ⟨p, vs, rfl, hp, hd⟩ := seq_den sm h3 he
          rw [strsD_eq hs] at hd
          obtain ⟨hv, hk⟩ := den_strs hd
          subst hv
          exact ⟨a, p, ys, rfl, rfl, hp, hj, q _ _ _ (.refl sm) ⟨rfl, join_ok ka hk hj⟩⟩
        · cases g
      · cases g
    · cases g
  · cases g
/-! ### dict.get -/
end FL
namespace FL
open PySem PySem.Spec PyProof.Rows L2
/-! ### lists of own lists -/
end FL
namespace FL
open PySem PySem.Spec PyProof.Rows L2
/-! ### typed results -/
def Out.bind {α β : Type} : Out α → (α → Out β) → Out β
  | .ok a, f => f a
  | .exc c, _ => .exc c
  | .bad, _ => .bad
@[simp] theorem Out.ok_bind {α β : Type} (a : α) (f : α → Out β) : (Out.ok a).bind f = f a := rfl
@[simp] theorem Out.exc_bind {α β : Type} (c : Str) (f : α → Out β) : (Out.exc c).bind f = .exc c := rfl
@[simp] theorem Out.bad_bind {α β : Type} (f : α → Out β) : (Out.bad).bind f = .bad := rfl
theorem Out.bind_assoc {α β γ : Type} (x : Out α) (f : α → Out β) (g : β → Out γ) : (x.bind f).bind g = x.bind fun a => (f a).bind g := by cases x <;> rfl
def Out.of {α : Type} : Option α → Out α
  | some a => .ok a
  | none => .bad
@[simp] theorem Out.of_some {α : Type} (a : α) : Out.of (some a) = .ok a := rfl
@[simp] theorem Out.of_none {α : Type} : Out.of (none : Option α) = .bad := rfl
def Out.nx {α : Type} : Out α → Out α
  | .exc _ => .bad
  | r => r
@[simp] theorem Out.nx_ok {α : Type} (a : α) : (Out.ok a).nx = .ok a := rfl
end FL
namespace TL
open PySem PySem.Spec PyProof.Rows L2 FL
/-! ### encoders -/
def cD (d : D) : D := d
def cI (i : Int) : D := .int i
def cB (b : Bool) : D := .bl b
def cS (l : List Nat) : D := .str (S l)
def cN (_ : Unit) : D := .non
def cL {α : Type} (c : α → D) (xs : List α) : D := .lst (xs.map c)
def cU {α : Type} (c : α → D) (xs : List α) : D := .tup (xs.map c)
def cF {α : Type} (c : α → D) (xs : List α) : D := .fz (xs.map c)
def c1 {α : Type} (c : α → D) (p : α) : D := .tup [c p]
def c2 {α β : Type} (c : α → D) (d : β → D) (p : α × β) : D := .tup [c p.1, d p.2]
def c3 {α β γ : Type} (c : α → D) (d : β → D) (e : γ → D) (p : α × β × γ) : D := .tup [c p.1, d p.2.1, e p.2.2]
def c4 {α β γ δ : Type} (c : α → D) (d : β → D) (e : γ → D) (f : δ → D) (p : α × β × γ × δ) : D := .tup [c p.1, d p.2.1, e p.2.2.1, f p.2.2.2]
def c5 {α β γ δ ε : Type} (c : α → D) (d : β → D) (e : γ → D) (f : δ → D) (g : ε → D) (p : α × β × γ × δ × ε) : D := .tup [c p.1, d p.2.1, e p.2.2.1, f p.2.2.2.1, g p.2.2.2.2]
/-- an owned list -/
def oL {α : Type} (c : α → D) (xs : List α) : T := .lst (xs.map fun a => .sh (c a))
def oS {α : Type} (c : α → D) (a : α) : T := .sh (c a)
theorem oL_top {α : Type} (c : α → D) (xs : List α) : (oL c xs).top = some (cL c xs) := by simp [oL, cL]
theorem oL_d {α : Type} (c : α → D) (xs : List α) : (oL c xs).d = cL c xs := by simp [oL, cL]
/-! ### slots -/
inductive Sl where
  | any | vw (d : D) | own (t : T) | fr (d : D)
def Sl.ok : Sl → Option T → Prop
  | .any, _ => True
  | .vw d, o => ∃ t, o = some t ∧ t.top = some d
  | .own t, o => o = some t
  | .fr d, o => ∃ t, o = some t ∧ t.d = d
def ER : List Sl → Env' → Prop
  | [], ρ => ρ = []
  | p :: ps, ρ => ∃ o r, ρ = o :: r ∧ p.ok o ∧ ER ps r
theorem ER.len : ∀ {Ps : List Sl} {ρ : Env'}, ER Ps ρ → ρ.length = Ps.length
  | [], _, h => by cases h; rfl
  | _ :: _, _, ⟨o, r, e, _, h⟩ => by rw [e]; simp [ER.len h]
theorem ER.get : ∀ {Ps : List Sl} {ρ : Env'} {i : Nat} {p : Sl}, ER Ps ρ → Ps[i]? = some p → ∃ o, ρ[i]? = some o ∧ p.ok o
  | _ :: _, _, 0, _, ⟨o, r, e, h, _⟩, q => by
    cases q; exact ⟨o, by rw [e]; rfl, h⟩
  | _ :: _, _, i + 1, p, ⟨o, r, e, _, h⟩, q => by
    obtain ⟨o', h1, h2⟩ := ER.get h (i := i) (by simpa using q)
    exact ⟨o', by rw [e]; simpa using h1, h2⟩
theorem ER.set : ∀ {Ps : List Sl} {ρ : Env'} (i : Nat) {p : Sl} {o : Option T}, ER Ps ρ → p.ok o → ER (Ps.set i p) (ρ.set i o)
  | [], _, _, _, _, h, _ => by cases h; simp [ER]
  | _ :: _, _, 0, _, _, ⟨o, r, e, _, h⟩, q => by rw [e]; exact ⟨_, _, rfl, q, h⟩
  | _ :: _, _, i + 1, _, _, ⟨o, r, e, h0, h⟩, q => by rw [e]; exact ⟨_, _, rfl, h0, ER.set i h q⟩
theorem ER.setSame : ∀ {Ps : List Sl} {ρ : Env'} {i : Nat} {p : Sl} {o : Option T}, ER Ps ρ → Ps[i]? = some p → p.ok o → ER Ps (ρ.set i o)
  | _ :: _, _, 0, _, _, ⟨o, r, e, _, h⟩, q, z => by cases q; rw [e]; exact ⟨_, _, rfl, z, h⟩
  | _ :: _, _, i + 1, _, _, ⟨o, r, e, h0, h⟩, q, z => by rw [e]; exact ⟨_, _, rfl, h0, ER.setSame (i := i) h (by simpa using q) z⟩
theorem ER.lt {Ps : List Sl} {ρ : Env'} {i : Nat} {p : Sl} (h : ER Ps ρ) (q : Ps[i]? = some p) : i < ρ.length := by
  rw [h.len]; exact (List.getElem?_eq_some_iff.mp q).1
inductive LeS : List Sl → List Sl → Prop
  | nil : LeS [] []
  | a {p : Sl} {ps qs : List Sl} (h : LeS ps qs) : LeS (p :: ps) (.any :: qs)
  | r {p : Sl} {ps qs : List Sl} (h : LeS ps qs) : LeS (p :: ps) (p :: qs)
  | v {t : T} {d : D} {ps qs : List Sl} (e : t.top = some d) (h : LeS ps qs) : LeS (.own t :: ps) (.vw d :: qs)
  | f {t : T} {d : D} {ps qs : List Sl} (e : t.d = d) (h : LeS ps qs) : LeS (.own t :: ps) (.fr d :: qs)
theorem LeS.er {Ps Qs : List Sl} (l : LeS Ps Qs) : ∀ {ρ : Env'}, ER Ps ρ → ER Qs ρ := by
  induction l with
  | nil => exact fun h => h
  | a _ ih => rintro _ ⟨o, r, e, _, h⟩; exact ⟨o, r, e, trivial, ih h⟩
  | r _ ih => rintro _ ⟨o, r, e, h0, h⟩; exact ⟨o, r, e, h0, ih h⟩
  | v e1 _ ih => rintro _ ⟨o, r, e, h0, h⟩; exact ⟨o, r, e, ⟨_, h0, e1⟩, ih h⟩
  | f e1 _ ih => rintro _ ⟨o, r, e, h0, h⟩; exact ⟨o, r, e, ⟨_, h0, e1⟩, ih h⟩
theorem LeS.refl : ∀ {Ps : List Sl}, LeS Ps Ps
  | [] => .nil
  | _ :: _ => .r LeS.refl
theorem top_d : ∀ {t : T} {d : D}, t.top = some d → t.d = d
  | .sh _, _, h => by cases h; rfl
  | .lst ts, d, h => by
    simp only [T.top, Option.map_eq_some_iff] at h
    obtain ⟨ds, h1, h2⟩ := h
    rw [T.leaves_eq h1, ← h2]; simp
  | .dic ks ts, d, h => by
    simp only [T.top, Option.map_eq_some_iff] at h
    obtain ⟨ds, h1, h2⟩ := h
    rw [T.leaves_eq h1, ← h2]; simp [T.d]
  | .dit ks ts, d, h => by
    simp only [T.top, Option.map_eq_some_iff] at h
    obtain ⟨ds, h1, h2⟩ := h
    rw [T.leaves_eq h1, ← h2]; simp [T.d]
  | .at b ts, d, h => by
    simp only [T.top, Option.map_eq_some_iff] at h
    obtain ⟨ds, h1, h2⟩ := h
    rw [T.leaves_eq h1, ← h2]; simp [T.d, T.go_sh]
/-! ### going along -/
def Sm {α β : Type} (x : Res β) (e : Out α) (K : α → β → Prop) (E : Env' → Prop) : Prop := match e with
  | .ok a => ∃ b, x = .ok b ∧ K a b
  | .exc c => ∃ ρ', x = .exc c ρ' ∧ E ρ'
  | .bad => True
theorem Sm.bind {α β γ δ : Type} {x : Res β} {e : Out α} {K : α → β → Prop} {E E' : Env' → Prop} {h : β → Res δ} {k : α → Out γ} {K' : γ → δ → Prop}
    (hx : Sm x e K E) (hk : ∀ a b, K a b → Sm (h b) (k a) K' E') (he : ∀ ρ, E ρ → E' ρ) : Sm (x.bind h) (e.bind k) K' E' := by
  cases e with
  | ok a => obtain ⟨b, e1, e2⟩ := hx; rw [e1]; exact hk a b e2
  | exc c => obtain ⟨ρ', e1, e2⟩ := hx; rw [e1]; exact ⟨ρ', rfl, he _ e2⟩
  | bad => trivial
theorem Sm.imp {α β : Type} {x : Res β} {e : Out α} {K K' : α → β → Prop} {E E' : Env' → Prop} (hx : Sm x e K E) (hk : ∀ a b, K a b → K' a b) (he : ∀ ρ, E ρ → E' ρ) : Sm x e K' E' := by
  cases e with
  | ok a => obtain ⟨b, e1, e2⟩ := hx; exact ⟨b, e1, hk a b e2⟩
  | exc c => obtain ⟨ρ', e1, e2⟩ := hx; exact ⟨ρ', e1, he _ e2⟩
  | bad => trivial
/-- the value alone: a pure result -/
theorem Sm.okI {α β : Type} {a : α} {b : β} {K : α → β → Prop} {E : Env' → Prop} (h : K a b) : Sm (.ok b) (.ok a) K E := ⟨b, rfl, h⟩
def RR (m : Bool) (Ps : List Sl) (r : RV) (d : D) : Prop := (∀ ρ, ER Ps ρ → look ρ r = some d) ∧ (m = true → ∀ ρ, ER Ps ρ → ∃ ρ', esc ρ r = some (d, ρ') ∧ ER Ps ρ')
theorem RR.leaf {m : Bool} {Ps : List Sl} {d : D} : RR m Ps (.leaf d) d := ⟨fun _ _ => rfl, fun _ ρ h => ⟨ρ, rfl, h⟩⟩
section
variable {α β γ δ : Type}
def X (m : Bool) (Ps : List Sl) (f : Env' → Res (RV × Env')) (e : Out α) (c : α → D) : Prop := ∀ ρ, ER Ps ρ → Sm (f ρ) e (fun a b => ER Ps b.2 ∧ RR m Ps b.1 (c a)) (ER Ps)
def TJ (Ps : List Sl) (f : Env' → Res (Bool × Env')) (e : Out Bool) : Prop := ∀ ρ, ER Ps ρ → Sm (f ρ) e (fun a b => b.1 = a ∧ ER Ps b.2) (ER Ps)
def NJ (Ps : List Sl) (f : Env' → Res (T × Env')) (e : Out α) (t : α → T) : Prop := ∀ ρ, ER Ps ρ → Sm (f ρ) e (fun a b => b.1 = t a ∧ ER Ps b.2) (ER Ps)
def IJ (Ps : List Sl) (f : Env' → Res (List D × Env')) (e : Out (List α)) (c : α → D) : Prop := ∀ ρ, ER Ps ρ → Sm (f ρ) e (fun a b => b.1 = a.map c ∧ ER Ps b.2) (ER Ps)
def PJ (Ps : List Sl) (f : Env' → Res (Option Int × Env')) (e : Out (Option Int)) : Prop := ∀ ρ, ER Ps ρ → Sm (f ρ) e (fun a b => b.1 = a ∧ ER Ps b.2) (ER Ps)
/-- arguments that are handed on -/
def AE (Ps : List Sl) (f : Env' → Res (List RV × Env')) (e : Out α) (dn : α → List D) : Prop := ∀ ρ, ER Ps ρ → Sm (f ρ) e (fun a b => b.1 = (dn a).map RV.leaf ∧ ER Ps b.2) (ER Ps)
/-- arguments that are looked at -/
def AL (Ps : List Sl) (f : Env' → Res (List RV × Env')) (e : Out α) (dn : α → List D) : Prop := ∀ ρ, ER Ps ρ → Sm (f ρ) e (fun a b => ER Ps b.2 ∧ ∀ ρ, ER Ps ρ → looks ρ b.1 = some (dn a)) (ER Ps)
def J (Ps : List Sl) (f : Env' → Res Fl) (p : Out γ) (R : γ → Fl → Prop) (E : Env' → Prop) : Prop := ∀ ρ, ER Ps ρ → Sm (f ρ) p R E
variable {m m' m'' : Bool} {Ps Qs : List Sl} {fa fb fc : Env' → Res (RV × Env')} {ca : α → D} {cb : β → D} {cc : γ → D} {cr : δ → D} {ea : Out α} {eb : Out β} {ec : Out γ}
/-! ### expressions -/
theorem X_eq {e e' : Out α} (h : X m Ps fa e ca) (q : e' = e) : X m Ps fa e' ca := q ▸ h
theorem X_var (i : Nat) (c : α → D) (a : α) (h : Ps[i]? = some (.vw (c a))) : X true Ps (eVar i) (.ok a) c := fun ρ e => by
  obtain ⟨o, h1, t, h2, h3⟩ := e.get h
  subst h2
  have lk : ∀ ρ, ER Ps ρ → look ρ (.slot i) = some (c a) ∧ ∃ ρ', esc ρ (.slot i) = some (c a, ρ') ∧ ER Ps ρ' := fun ρ e => by
    obtain ⟨o, h1, t, h2, h3⟩ := e.get h
    subst h2
    refine ⟨by simp only [look, h1]; exact h3, ρ.set i (some (.sh (c a))), ?_, e.setSame h ⟨_, rfl, rfl⟩⟩
    simp only [esc, h1, top_d h3]
  unfold eVar
  rw [h1]
  cases t with
  | sh d => cases h3; exact Sm.okI ⟨e, .leaf⟩
  | lst ts => exact Sm.okI ⟨e, fun ρ e => (lk ρ e).1, fun _ ρ e => (lk ρ e).2⟩
  | dic ks ts => exact Sm.okI ⟨e, fun ρ e => (lk ρ e).1, fun _ ρ e => (lk ρ e).2⟩
  | dit ks ts => exact Sm.okI ⟨e, fun ρ e => (lk ρ e).1, fun _ ρ e => (lk ρ e).2⟩
  | «at» b ts => exact Sm.okI ⟨e, fun ρ e => (lk ρ e).1, fun _ ρ e => (lk ρ e).2⟩
/-- an owned thing, looked at -/
theorem X_own (i : Nat) (c : α → D) (a : α) {t : T} (h : Ps[i]? = some (.own t)) (ht : t.top = some (c a)) : X false Ps (eVar i) (.ok a) c := fun ρ e => by
  obtain ⟨o, h1, h2⟩ := e.get h
  cases h2
  have lk : ∀ ρ, ER Ps ρ → look ρ (.slot i) = some (c a) := fun ρ e => by
    obtain ⟨o, h1, h2⟩ := e.get h
    cases h2
    simp only [look, h1]; exact ht
  unfold eVar
  rw [h1]
  cases t with
  | sh d => cases ht; exact Sm.okI ⟨e, .leaf⟩
  | lst ts => exact Sm.okI ⟨e, fun ρ e => lk ρ e, fun z => nomatch z⟩
  | dic ks ts => exact Sm.okI ⟨e, fun ρ e => lk ρ e, fun z => nomatch z⟩
  | dit ks ts => exact Sm.okI ⟨e, fun ρ e => lk ρ e, fun z => nomatch z⟩
  | «at» b ts => exact Sm.okI ⟨e, fun ρ e => lk ρ e, fun z => nomatch z⟩
theorem X_c (c : α → D) (a : α) {d : D} (h : d = c a) : X true Ps (eC d) (.ok a) c := fun ρ e => Sm.okI ⟨e, h ▸ .leaf⟩
theorem X_i (i : Int) : X true Ps (eC (.int i)) (.ok i) cI := X_c cI i rfl
theorem X_b (i : Bool) : X true Ps (eC (.bl i)) (.ok i) cB := X_c cB i rfl
theorem X_n : X true Ps (eC .non) (.ok ()) cN := X_c cN () rfl
theorem X_s {x : Str} (l : List Nat) (h : x = S l) : X true Ps (eC (.str x)) (.ok l) cS := X_c cS l (by rw [h]; rfl)
theorem X_dyn (h : X m Ps fa ea ca) : X m Ps fa (ea.bind fun a => .ok (ca a)) cD := fun ρ e => by
  have := h ρ e
  cases ea with
  | ok a => exact this
  | exc c => exact this
  | bad => trivial
/-- another reading of the same thing -/
theorem X_as {k : α → δ} (h : X m Ps fa ea ca) (hk : ∀ a, ca a = cr (k a)) : X m Ps fa (ea.bind fun a => .ok (k a)) cr := fun ρ e => by
  have := h ρ e
  cases ea with
  | ok a =>
    obtain ⟨b, e1, e2, e3⟩ := this
    exact ⟨b, e1, e2, hk a ▸ e3⟩
  | exc c => exact this
  | bad => trivial
/-- what an operation tells, as the typed one does -/
def RO (o : Option D) (r : Out δ) (c : δ → D) : Prop := match r with
  | .ok r => o = some (c r)
  | .exc _ => False
  | .bad => True
def ROL (o : Option (List D)) (r : Out (List δ)) (c : δ → D) : Prop := match r with
  | .ok r => o = some (r.map c)
  | .exc _ => False
  | .bad => True
def ROB (o : Option Bool) (r : Out Bool) : Prop := match r with
  | .ok r => o = some r
  | .exc _ => False
  | .bad => True
def OpT (g : D → D → Option D) (ca : α → D) (cb : β → D) (cr : δ → D) (f : α → β → Out δ) : Prop := ∀ a b, RO (g (ca a) (cb b)) (f a b) cr
theorem X_bin {g : D → D → Option D} {f : α → β → Out δ} (ho : OpT g ca cb cr f) (ha : X m Ps fa ea ca) (hb : X m' Ps fb eb cb) : X true Ps (eBin g fa fb) (ea.bind fun a => eb.bind fun b => f a b) cr := fun ρ h =>
  Sm.bind (ha ρ h) (fun a ⟨r, ρ1⟩ ⟨h1, q1⟩ => Sm.bind (hb ρ1 h1) (fun b ⟨r2, ρ2⟩ ⟨h2, q2⟩ => by
    have h2 : ER Ps ρ2 := h2
    have o := ho a b
    simp only [RO, ROL, ROB] at o
    show Sm ((Res.of (look ρ2 r)).bind fun d1 => (Res.of (look ρ2 r2)).bind fun d2 => (Res.of (g d1 d2)).bind fun d => .ok (RV.leaf d, ρ2)) _ _ _
    rw [q1.1 _ h2, q2.1 _ h2]
    cases e : f a b with
    | ok r => rw [e] at o; simp only [of_some, bind_ok, o]; exact Sm.okI ⟨h2, .leaf⟩
    | exc c => rw [e] at o; exact o.elim
    | bad => trivial) fun _ h => h) fun _ h => h
def UnT (g : D → Option D) (ca : α → D) (cr : δ → D) (f : α → Out δ) : Prop := ∀ a, RO (g (ca a)) (f a) cr
theorem X_un {g : D → Option D} {f : α → Out δ} (ho : UnT g ca cr f) (ha : X m Ps fa ea ca) : X true Ps (eUn g fa) (ea.bind f) cr := fun ρ h =>
  Sm.bind (ha ρ h) (fun a ⟨r, ρ1⟩ ⟨h1, q1⟩ => by
    have h1 : ER Ps ρ1 := h1
    have o := ho a
    simp only [RO, ROL, ROB] at o
    show Sm ((Res.of (look ρ1 r)).bind fun d1 => (Res.of (g d1)).bind fun d => .ok (RV.leaf d, ρ1)) _ _ _
    rw [q1.1 _ h1]
    cases e : f a with
    | ok r => rw [e] at o; simp only [of_some, bind_ok, o]; exact Sm.okI ⟨h1, .leaf⟩
    | exc c => rw [e] at o; exact o.elim
    | bad => trivial) fun _ h => h
/-- a tuple's place -/
theorem X_prj {k : Int} {π : α → δ} (ha : X m Ps fa ea ca) (hp : ∀ a, D.ix (ca a) (.int k) = some (cr (π a))) : X true Ps (eBin D.ix fa (eC (.int k))) (ea.bind fun a => .ok (π a)) cr := by
  have := X_bin (g := D.ix) (f := fun a (i : Int) => if i = k then Out.ok (π a) else .bad) (cb := cI) (cr := cr) (fun a b => by
    by_cases e : b = k
    · simp only [if_pos e]; rw [e]; exact hp a
    · simp only [if_neg e]; trivial) ha (X_i k)
  simpa using this
theorem AL_nil : AL Ps aNil (.ok ()) fun _ => [] := fun ρ h => Sm.okI ⟨h, fun _ _ => rfl⟩
theorem AL_cons {fr : Env' → Res (List RV × Env')} {er : Out β} {dn : β → List D} (ha : X m Ps fa ea ca) (hr : AL Ps fr er dn) : AL Ps (aCons fa fr) (ea.bind fun a => er.bind fun b => .ok (a, b)) fun g => ca g.1 :: dn g.2 := fun ρ h =>
  Sm.bind (ha ρ h) (fun a ⟨r, ρ1⟩ ⟨h1, q1⟩ => Sm.bind (hr ρ1 h1) (fun b ⟨rs, ρ2⟩ ⟨h2, q2⟩ => Sm.okI ⟨h2, fun ρ h => by simp [looks, q1.1 ρ h, q2 ρ h]⟩) fun _ h => h) fun _ h => h
theorem AE_nil : AE Ps aNil (.ok ()) fun _ => [] := fun ρ h => Sm.okI ⟨rfl, h⟩
theorem AE_cons {fr : Env' → Res (List RV × Env')} {er : Out β} {dn : β → List D} (ha : X true Ps fa ea ca) (hr : AE Ps fr er dn) : AE Ps (aConsE fa fr) (ea.bind fun a => er.bind fun b => .ok (a, b)) fun g => ca g.1 :: dn g.2 := fun ρ h =>
  Sm.bind (ha ρ h) (fun a ⟨r, ρ1⟩ ⟨h1, q1⟩ => by
    obtain ⟨ρ', e1, e2⟩ := q1.2 rfl ρ1 h1
    show Sm ((Res.of (esc ρ1 r)).bind fun (d, ρ1') => (fr ρ1').bind fun (rs, ρ2) => .ok (RV.leaf d :: rs, ρ2)) _ _ _
    rw [e1]
    show Sm ((fr ρ').bind fun (rs, ρ2) => .ok (RV.leaf (ca a) :: rs, ρ2)) _ _ _
    exact Sm.bind (hr ρ' e2) (fun b ⟨rs, ρ2⟩ ⟨h2, q2⟩ => Sm.okI ⟨by rw [show rs = _ from h2]; rfl, q2⟩) fun _ h => h) fun _ h => h
def BT (g : List D → Option D) (dn : α → List D) (cr : δ → D) (f : α → Out δ) : Prop := ∀ a, RO (g (dn a)) (f a) cr
theorem X_B {g : List D → Option D} {fs : Env' → Res (List RV × Env')} {dn : α → List D} {f : α → Out δ} (ho : BT g dn cr f) (ha : AL Ps fs ea dn) : X true Ps (eB g fs) (ea.bind f) cr := fun ρ h =>
  Sm.bind (ha ρ h) (fun a ⟨rs, ρ1⟩ ⟨h1, q1⟩ => by
    have h1 : ER Ps ρ1 := h1
    have o := ho a
    simp only [RO, ROL, ROB] at o
    show Sm ((Res.of (looks ρ1 rs)).bind fun ds => (Res.of (g ds)).bind fun d => .ok (RV.leaf d, ρ1)) _ _ _
    rw [q1 _ h1]
    cases e : f a with
    | ok r => rw [e] at o; simp only [of_some, bind_ok, o]; exact Sm.okI ⟨h1, .leaf⟩
    | exc c => rw [e] at o; exact o.elim
    | bad => trivial) fun _ h => h
theorem X_B1 {g : List D → Option D} {f : α → Out δ} (ho : ∀ a, RO (g [ca a]) (f a) cr) (ha : X m Ps fa ea ca) : X true Ps (eB g (aCons fa aNil)) (ea.bind f) cr := by
  have := X_B (g := g) (dn := fun x : α × Unit => [ca x.1]) (f := fun p : α × Unit => f p.1) (cr := cr) (fun a => ho a.1) (AL_cons ha AL_nil)
  refine X_eq this ?_
  cases ea <;> rfl
theorem X_B2 {g : List D → Option D} {f : α → β → Out δ} (ho : ∀ a b, RO (g [ca a, cb b]) (f a b) cr) (ha : X m Ps fa ea ca) (hb : X m' Ps fb eb cb) : X true Ps (eB g (aCons fa (aCons fb aNil))) (ea.bind fun a => eb.bind fun b => f a b) cr := by
  have := X_B (g := g) (dn := fun x : α × β × Unit => [ca x.1, cb x.2.1]) (f := fun p : α × β × Unit => f p.1 p.2.1) (cr := cr) (fun a => ho a.1 a.2.1) (AL_cons ha (AL_cons hb AL_nil))
  refine X_eq this ?_
  cases ea <;> cases eb <;> rfl
theorem leafs_leaf : ∀ ds : List D, leafs (ds.map RV.leaf) = some ds
  | [] => rfl
  | d :: ds => by
    have := leafs_leaf ds
    rw [leafs_eq] at this ⊢
    simp [this]
/-- a tuple of few things -/
theorem X_tup {fs : Env' → Res (List RV × Env')} {dn : α → List D} {n : Nat} (ha : AE Ps fs ea dn) (hn : ∀ a, (dn a).length = n) (h16 : n ≤ 16777216) {π : α → δ} (hc : ∀ a, D.tup (dn a) = cr (π a)) : X true Ps (eTup fs) (ea.bind fun a => .ok (π a)) cr := fun ρ h =>
  Sm.bind (ha ρ h) (fun a ⟨rs, ρ1⟩ ⟨h1, q1⟩ => by
    have h1 : rs = _ := h1
    show Sm ((Res.of (leafs rs)).bind fun ds => if ds.length ≤ sizeLine then .ok (RV.leaf (.tup ds), ρ1) else .bad) _ _ _
    rw [h1, leafs_leaf, of_some, bind_ok, if_pos (size_le (by rw [hn]; exact h16)), hc]
    exact Sm.okI ⟨q1, .leaf⟩) fun _ h => h
theorem X_not {ea : Out Bool} (ha : X m Ps fa ea cB) : X true Ps (eNot fa) (ea.bind fun b => .ok (!b)) cB := fun ρ h =>
  Sm.bind (ha ρ h) (fun a ⟨r, ρ1⟩ ⟨h1, q1⟩ => by
    have h1 : ER Ps ρ1 := h1
    show Sm (match look ρ1 r with
      | some (.bl b) => .ok (RV.leaf (.bl (!b)), ρ1)
      | _ => .bad) _ _ _
    rw [q1.1 _ h1]
    exact Sm.okI ⟨h1, .leaf⟩) fun _ h => h
theorem X_and {ea : Out Bool} (ha : X m Ps fa ea cB) {eb : Out Bool} (hb : X m' Ps fb eb cB) : X m' Ps (eAnd fa fb) (ea.bind fun b => if b = true then eb else .ok false) cB := fun ρ h =>
  Sm.bind (ha ρ h) (fun a ⟨r, ρ1⟩ ⟨h1, q1⟩ => by
    have h1 : ER Ps ρ1 := h1
    show Sm (match look ρ1 r with
      | some (.bl true) => fb ρ1
      | some (.bl false) => .ok (RV.leaf (.bl false), ρ1)
      | _ => .bad) _ _ _
    rw [q1.1 _ h1]
    cases a with
    | true => exact hb ρ1 h1
    | false => exact Sm.okI ⟨h1, .leaf⟩) fun _ h => h
theorem X_chain {g g' : D → D → Option D} {f : α → β → Out Bool} {f' : β → γ → Out Bool} (ho : OpT g ca cb cB f) (ho' : OpT g' cb cc cB f') (ha : X m Ps fa ea ca) (hb : X m' Ps fb eb cb) (hc : X m'' Ps fc ec cc) :
    X true Ps (eChain g g' fa fb fc) (ea.bind fun a => eb.bind fun b => (f a b).bind fun t => if t = true then ec.bind fun c => f' b c else .ok false) cB := fun ρ h =>
  Sm.bind (ha ρ h) (fun a ⟨r, ρ1⟩ ⟨h1, q1⟩ => Sm.bind (hb ρ1 h1) (fun b ⟨r2, ρ2⟩ ⟨h2, q2⟩ => by
    have h2 : ER Ps ρ2 := h2
    have o := ho a b
    simp only [RO, ROL, ROB] at o
    show Sm ((Res.of (look ρ2 r)).bind fun d1 => (Res.of (look ρ2 r2)).bind fun d2 => match g d1 d2 with
      | some (.bl true) => (fc ρ2).bind fun (r3, ρ3) => (Res.of (look ρ3 r2)).bind fun d2 => (Res.of (look ρ3 r3)).bind fun d3 => (Res.of (g' d2 d3)).bind fun d => .ok (RV.leaf d, ρ3)
      | some (.bl false) => .ok (RV.leaf (.bl false), ρ2)
      | _ => .bad) _ _ _
    rw [q1.1 _ h2, q2.1 _ h2]
    cases e : f a b with
    | ok t =>
      rw [e] at o
      simp only [of_some, bind_ok, Out.ok_bind, o, cB]
      cases t with
      | true =>
        refine Sm.bind (hc ρ2 h2) (fun c ⟨r3, ρ3⟩ ⟨h3, q3⟩ => ?_) fun _ h => h
        have h3 : ER Ps ρ3 := h3
        have o' := ho' b c
        simp only [RO] at o'
        show Sm ((Res.of (look ρ3 r2)).bind fun d2 => (Res.of (look ρ3 r3)).bind fun d3 => (Res.of (g' d2 d3)).bind fun d => .ok (RV.leaf d, ρ3)) _ _ _
        rw [q2.1 _ h3, q3.1 _ h3]
        cases e' : f' b c with
        | ok r => rw [e'] at o'; simp only [of_some, bind_ok, o']; exact Sm.okI ⟨h3, .leaf⟩
        | exc c => rw [e'] at o'; exact o'.elim
        | bad => trivial
      | false => exact Sm.okI ⟨h2, .leaf⟩
    | exc c => rw [e] at o; exact o.elim
    | bad => trivial) fun _ h => h) fun _ h => h
theorem PJ_none : PJ Ps pNone (.ok none) := fun ρ h => Sm.okI ⟨rfl, h⟩
theorem PJ_some {e : Out Int} (ha : X m Ps fa e cI) : PJ Ps (pSome fa) (e.bind fun i => .ok (some i)) := fun ρ h =>
  Sm.bind (ha ρ h) (fun a ⟨r, ρ1⟩ ⟨h1, q1⟩ => by
    have h1 : ER Ps ρ1 := h1
    show Sm (match look ρ1 r with
      | some (.int i) => .ok (some i, ρ1)
      | _ => .bad) _ _ _
    rw [q1.1 _ h1]
    exact Sm.okI ⟨rfl, h1⟩) fun _ h => h
def SlT (ca : α → D) (cr : δ → D) (f : Option Int → Option Int → α → δ) : Prop := ∀ lo hi a, D.sl lo hi (ca a) = some (cr (f lo hi a))
theorem X_sl {fl fh : Env' → Res (Option Int × Env')} {el eh : Out (Option Int)} {f : Option Int → Option Int → α → δ} (ho : SlT ca cr f) (ha : X m Ps fa ea ca) (hl : PJ Ps fl el) (hh : PJ Ps fh eh) :
    X true Ps (eSl fa fl fh) (ea.bind fun a => el.bind fun lo => eh.bind fun hi => .ok (f lo hi a)) cr := fun ρ h =>
  Sm.bind (ha ρ h) (fun a ⟨r, ρ1⟩ ⟨h1, q1⟩ => Sm.bind (hl ρ1 h1) (fun lo ⟨lo', ρ2⟩ ⟨h2, q2⟩ => Sm.bind (hh ρ2 q2) (fun hi ⟨hi', ρ3⟩ ⟨h3, q3⟩ => by
    have h2 : lo' = lo := h2
    have h3 : hi' = hi := h3
    have q3 : ER Ps ρ3 := q3
    subst h2; subst h3
    show Sm ((Res.of ((look ρ3 r).bind (D.sl lo' hi'))).bind fun d => .ok (RV.leaf d, ρ3)) _ _ _
    rw [q1.1 _ q3]
    simp only [Option.bind_some, ho lo' hi' a, of_some, bind_ok]
    exact Sm.okI ⟨q3, .leaf⟩) fun _ h => h) fun _ h => h) fun _ h => h
theorem X_m {T : String} {g : D → List D → Option D} {fs : Env' → Res (List RV × Env')} {dn : β → List D} {f : α → β → Out δ} (ht : ∀ a, D.isTy T (ca a) = true) (ho : ∀ a b, RO (g (ca a) (dn b)) (f a b) cr) (ha : X m Ps fa ea ca) (hb : AL Ps fs eb dn) : X true Ps (eM T g fa fs) (ea.bind fun a => eb.bind fun b => f a b) cr := fun ρ h =>
  Sm.bind (ha ρ h) (fun a ⟨r, ρ1⟩ ⟨h1, q1⟩ => by
    have h1 : ER Ps ρ1 := h1
    show Sm ((Res.of (look ρ1 r)).bind fun d0 => if D.isTy T d0 = true then (fs ρ1).bind fun (rs, ρ2) => (Res.of (look ρ2 r)).bind fun d => (Res.of (looks ρ2 rs)).bind fun ds => (Res.of (g d ds)).bind fun e => .ok (RV.leaf e, ρ2) else .bad) _ _ _
    rw [q1.1 _ h1, of_some, bind_ok, if_pos (ht a)]
    refine Sm.bind (hb ρ1 h1) (fun b ⟨rs, ρ2⟩ ⟨h2, q2⟩ => ?_) fun _ h => h
    have h2 : ER Ps ρ2 := h2
    have o := ho a b
    simp only [RO, ROL, ROB] at o
    show Sm ((Res.of (look ρ2 r)).bind fun d => (Res.of (looks ρ2 rs)).bind fun ds => (Res.of (g d ds)).bind fun e => .ok (RV.leaf e, ρ2)) _ _ _
    rw [q1.1 _ h2, q2 _ h2]
    cases e : f a b with
    | ok r => rw [e] at o; simp only [of_some, bind_ok, o]; exact Sm.okI ⟨h2, .leaf⟩
    | exc c => rw [e] at o; exact o.elim
    | bad => trivial) fun _ h => h
/-- a def's call -/
def Sim (o : Out D) (p : Out α) (c : α → D) : Prop := match p with
  | .ok a => o = .ok (c a)
  | .exc k => o = .exc k
  | .bad => True
theorem X_call {mf : List D → Out D} {fs : Env' → Res (List RV × Env')} {dn : α → List D} {p : α → Out δ} (hm : ∀ a, Sim (mf (dn a)) (p a) cr) (ha : AE Ps fs ea dn) : X true Ps (eCall mf fs) (ea.bind p) cr := fun ρ h =>
  Sm.bind (ha ρ h) (fun a ⟨rs, ρ1⟩ ⟨h1, q1⟩ => by
    have h1 : rs = _ := h1
    have o := hm a
    show Sm ((Res.of (leafs rs)).bind fun ds => match mf ds with
      | .ok d => .ok (RV.leaf d, ρ1)
      | .exc c => .exc c ρ1
      | .bad => .bad) _ _ _
    rw [h1, leafs_leaf, of_some, bind_ok]
    cases e : p a with
    | ok r => rw [e] at o; rw [show mf (dn a) = _ from o]; exact Sm.okI ⟨q1, .leaf⟩
    | exc c => rw [e] at o; rw [show mf (dn a) = _ from o]; exact ⟨_, rfl, q1⟩
    | bad => trivial) fun _ h => h
/-! ### new things -/
theorem NJ_eq {e e' : Out α} {na : Env' → Res (T × Env')} {t : α → T} (h : NJ Ps na e t) (q : e' = e) : NJ Ps na e' t := q ▸ h
theorem N_of (ha : X true Ps fa ea ca) : NJ Ps (nOf fa) ea (oS ca) := fun ρ h => by
  have : Sm ((fa ρ).bind fun (r, ρ1) => (Res.of (esc ρ1 r)).bind fun (d, ρ2) => .ok (T.sh d, ρ2)) (ea.bind .ok) (fun a b => b.1 = oS ca a ∧ ER Ps b.2) (ER Ps) :=
    Sm.bind (ha ρ h) (fun a ⟨r, ρ1⟩ ⟨h1, q1⟩ => by
      obtain ⟨ρ', e1, e2⟩ := q1.2 rfl ρ1 h1
      show Sm ((Res.of (esc ρ1 r)).bind fun (d, ρ2) => .ok (T.sh d, ρ2)) _ _ _
      rw [e1]
      exact Sm.okI ⟨rfl, e2⟩) fun _ h => h
  cases ea <;> exact this
theorem X_of {na : Env' → Res (T × Env')} {t : α → T} (ha : NJ Ps na ea t) (ht : ∀ a, (t a).d = ca a) : X true Ps (oOf na) ea ca := fun ρ h => by
  have : Sm ((na ρ).bind fun (t, ρ1) => .ok (RV.leaf t.d, ρ1)) (ea.bind .ok) (fun a b => ER Ps b.2 ∧ RR true Ps b.1 (ca a)) (ER Ps) :=
    Sm.bind (ha ρ h) (fun a ⟨t', ρ1⟩ ⟨h1, q1⟩ => by
      have h1 : t' = _ := h1
      show Sm (.ok (RV.leaf t'.d, ρ1)) _ _ _
      rw [h1, ht]
      exact Sm.okI ⟨q1, .leaf⟩) fun _ h => h
  cases ea <;> exact this
theorem X_ofL {na : Env' → Res (T × Env')} {ea : Out (List α)} (ha : NJ Ps na ea (oL ca)) : X true Ps (oOf na) ea (cL ca) := X_of ha fun a => oL_d ca a
theorem N_B {g : List D → Option (List D)} {fs : Env' → Res (List RV × Env')} {dn : α → List D} {f : α → Out (List δ)} (ho : ∀ a, ROL (g (dn a)) (f a) cr) (ha : AL Ps fs ea dn) : NJ Ps (nB g fs) (ea.bind f) (oL cr) := fun ρ h =>
  Sm.bind (ha ρ h) (fun a ⟨rs, ρ1⟩ ⟨h1, q1⟩ => by
    have h1 : ER Ps ρ1 := h1
    have o := ho a
    simp only [RO, ROL, ROB] at o
    show Sm ((Res.of (looks ρ1 rs)).bind fun ds => (Res.of (g ds)).bind fun es => .ok (T.lst (es.map T.sh), ρ1)) _ _ _
    rw [q1 _ h1]
    cases e : f a with
    | ok r =>
      rw [e] at o; simp only [of_some, bind_ok, o]
      exact Sm.okI ⟨by simp [oL, Function.comp_def], h1⟩
    | exc c => rw [e] at o; exact o.elim
    | bad => trivial) fun _ h => h
theorem N_B1 {g : List D → Option (List D)} {f : α → Out (List δ)} (ho : ∀ a, ROL (g [ca a]) (f a) cr) (ha : X m Ps fa ea ca) : NJ Ps (nB g (aCons fa aNil)) (ea.bind f) (oL cr) := by
  have := N_B (g := g) (dn := fun x : α × Unit => [ca x.1]) (f := fun p : α × Unit => f p.1) (cr := cr) (fun a => ho a.1) (AL_cons ha AL_nil)
  refine NJ_eq this ?_
  cases ea <;> rfl
/-- a slice of a list -/
def slL {α : Type} (lo hi : Option Int) (xs : List α) : List α := (xs.drop (HT.sIx xs.length 0 lo)).take (HT.sIx xs.length xs.length hi - HT.sIx xs.length 0 lo)
theorem slL_map {α β : Type} (f : α → β) (lo hi : Option Int) (xs : List α) : (slL lo hi xs).map f = slL lo hi (xs.map f) := by simp [slL, List.map_take, List.map_drop]
theorem cutD_map {α : Type} (c : α → D) (lo hi : Option Int) (xs : List α) : cutD (xs.map c) lo hi = (slL lo hi xs).map c := by rw [slL_map]; rfl
/-! ### tests -/
theorem T_v {e : Out Bool} (ha : X m Ps fa e cB) : TJ Ps (tstV fa) e := fun ρ h => by
  have : Sm ((fa ρ).bind fun (r, ρ1) => match look ρ1 r with
    | some (.bl b) => .ok (b, ρ1)
    | _ => .bad) (e.bind .ok) (fun a b => b.1 = a ∧ ER Ps b.2) (ER Ps) :=
    Sm.bind (ha ρ h) (fun a ⟨r, ρ1⟩ ⟨h1, q1⟩ => by
      have h1 : ER Ps ρ1 := h1
      show Sm (match look ρ1 r with
        | some (.bl b) => .ok (b, ρ1)
        | _ => .bad) _ _ _
      rw [q1.1 _ h1]
      exact Sm.okI ⟨rfl, h1⟩) fun _ h => h
  cases e <;> exact this
theorem T_t {f : α → Out Bool} (ho : ∀ a, ROB (D.truth (ca a)) (f a)) (ha : X m Ps fa ea ca) : TJ Ps (tstT fa) (ea.bind f) := fun ρ h =>
  Sm.bind (ha ρ h) (fun a ⟨r, ρ1⟩ ⟨h1, q1⟩ => by
    have h1 : ER Ps ρ1 := h1
    have o := ho a
    simp only [RO, ROL, ROB] at o
    show Sm ((Res.of ((look ρ1 r).bind D.truth)).bind fun b => .ok (b, ρ1)) _ _ _
    rw [q1.1 _ h1]
    cases e : f a with
    | ok r => rw [e] at o; simp only [Option.bind_some, of_some, bind_ok, o]; exact Sm.okI ⟨rfl, h1⟩
    | exc c => rw [e] at o; exact o.elim
    | bad => trivial) fun _ h => h
theorem T_tB {e : Out Bool} (ha : X m Ps fa e cB) : TJ Ps (tstT fa) e := fun ρ h => by
  have := T_t (f := Out.ok) (fun a => (rfl : D.truth (cB a) = some a)) ha ρ h
  cases e <;> exact this
variable {ta tb : Env' → Res (Bool × Env')} {e1 e2 : Out Bool}
theorem T_not (ha : TJ Ps ta e1) : TJ Ps (tstNot ta) (e1.bind fun b => .ok (!b)) := fun ρ h =>
  Sm.bind (ha ρ h) (fun a ⟨b, ρ1⟩ ⟨h1, q1⟩ => Sm.okI ⟨by rw [show b = a from h1], q1⟩) fun _ h => h
theorem T_or (ha : TJ Ps ta e1) (hb : TJ Ps tb e2) : TJ Ps (tstOr ta tb) (e1.bind fun b => if b = true then .ok true else e2) := fun ρ h =>
  Sm.bind (ha ρ h) (fun a ⟨b, ρ1⟩ ⟨h1, q1⟩ => by
    have h1 : b = a := h1
    subst h1
    show Sm (if b = true then .ok (true, ρ1) else tb ρ1) _ _ _
    cases b with
    | false => exact hb ρ1 q1
    | true => exact Sm.okI ⟨rfl, q1⟩) fun _ h => h
theorem TJ_eq {e e' : Out Bool} (h : TJ Ps ta e) (q : e' = e) : TJ Ps ta e' := q ▸ h
theorem T_yes : TJ Ps ttYes (.ok true) := fun ρ h => Sm.okI ⟨rfl, h⟩
end
end TL
namespace TL
open PySem PySem.Spec PyProof.Rows L2 FL
noncomputable section
theorem map_cD (ds : List D) : ds.map cD = ds := List.map_id ds
variable {α β γ δ σ ι : Type}
variable {m m' m'' : Bool} {Ps Qs : List Sl} {fa fb fc : Env' → Res (RV × Env')} {ca : α → D} {cb : β → D} {cc : γ → D} {cr : δ → D} {ci : ι → D} {ea : Out α} {eb : Out β} {ec : Out γ}
/-! ### what is walked -/
theorem I_seq {f : α → List ι} (ho : ∀ a, D.walk (ca a) = some ((f a).map ci)) (ha : X true Ps fa ea ca) : IJ Ps (iSeq fa) (ea.bind fun a => .ok (f a)) ci := fun ρ h =>
  Sm.bind (ha ρ h) (fun a ⟨r, ρ1⟩ ⟨h1, q1⟩ => by
    obtain ⟨ρ', e1, e2⟩ := q1.2 rfl ρ1 h1
    show Sm ((Res.of (esc ρ1 r)).bind fun (d, ρ2) => (Res.of d.walk).bind fun ds => .ok (ds, ρ2)) _ _ _
    rw [e1]
    show Sm ((Res.of (ca a).walk).bind fun ds => .ok (ds, ρ')) _ _ _
    rw [ho]
    exact Sm.okI ⟨rfl, e2⟩) fun _ h => h
theorem I_id {e : Out (List α)} {fi : Env' → Res (List D × Env')} (h : IJ Ps fi (e.bind fun a => .ok a) ca) : IJ Ps fi e ca := by cases e <;> exact h
theorem I_L {ea : Out (List α)} (ha : X true Ps fa ea (cL ca)) : IJ Ps (iSeq fa) ea ca := I_id (I_seq (f := fun a => a) (fun _ => rfl) ha)
theorem I_U {ea : Out (List α)} (ha : X true Ps fa ea (cU ca)) : IJ Ps (iSeq fa) ea ca := I_id (I_seq (f := fun a => a) (fun _ => rfl) ha)
/-- a text, sign by sign -/
def sgs (l : List Nat) : List (List Nat) := l.map fun c => [c]
theorem I_S {ea : Out (List Nat)} (ha : X true Ps fa ea cS) : IJ Ps (iSeq fa) (ea.bind fun a => .ok (sgs a)) cS := I_seq (fun a => by simp [cS, sgs, Function.comp_def]) ha
def itD (d : D) : Out (List D) := Out.of d.walk
theorem I_D {ea : Out D} (ha : X true Ps fa ea cD) : IJ Ps (iSeq fa) (ea.bind itD) cD := fun ρ h =>
  Sm.bind (ha ρ h) (fun a ⟨r, ρ1⟩ ⟨h1, q1⟩ => by
    obtain ⟨ρ', e1, e2⟩ := q1.2 rfl ρ1 h1
    show Sm ((Res.of (esc ρ1 r)).bind fun (d, ρ2) => (Res.of d.walk).bind fun ds => .ok (ds, ρ2)) _ _ _
    rw [e1]
    show Sm ((Res.of (cD a).walk).bind fun ds => .ok (ds, ρ')) (itD a) _ _
    unfold itD cD
    cases a.walk with
    | none => trivial
    | some ds => exact Sm.okI ⟨(map_cD ds).symm, e2⟩) fun _ h => h
def rng (i j : Int) : List Int := (List.range (j - i).toNat).map fun k => i + ((k : Nat) : Int)
def rng1 (j : Int) : Out (List Int) := if rOk j then .ok (rng 0 j) else .bad
def rng2 (i j : Int) : Out (List Int) := if rOk i ∧ rOk j then .ok (rng i j) else .bad
theorem I_r1 {e : Out Int} (ha : X m Ps fa e cI) : IJ Ps (iRange1 (aCons fa aNil)) (e.bind rng1) cI := fun ρ h => by
  have this : Sm ((aCons fa aNil) ρ) e (fun a b => ER Ps b.2 ∧ ∀ ρ, ER Ps ρ → looks ρ b.1 = some [cI a]) (ER Ps) := by
    have z := AL_cons ha AL_nil ρ h
    cases e <;> exact z
  exact Sm.bind (h := fun (rs, ρ1) => match looks ρ1 rs with
      | some [.int j] => if rOk j then .ok (rangeD 0 j.toNat, ρ1) else .bad
      | _ => .bad) this (fun a ⟨rs, ρ1⟩ ⟨h1, q1⟩ => by
    have h1 : ER Ps ρ1 := h1
    show Sm (match looks ρ1 rs with
      | some [.int j] => if rOk j then .ok (rangeD 0 j.toNat, ρ1) else .bad
      | _ => .bad) (rng1 a) _ _
    rw [q1 _ h1]
    unfold rng1
    show Sm (if rOk a then .ok (rangeD 0 a.toNat, ρ1) else .bad) _ _ _
    by_cases hr : rOk a
    · rw [if_pos hr, if_pos hr]
      exact Sm.okI ⟨by simp [rangeD, rng, cI, Function.comp_def], h1⟩
    · rw [if_neg hr, if_neg hr]; trivial) fun _ h => h
def enumN {α : Type} : Nat → List α → List (Int × α)
  | _, [] => []
  | n, a :: r => ((n : Int), a) :: enumN (n + 1) r
abbrev enum {α : Type} (xs : List α) : List (Int × α) := enumN 0 xs
theorem enumFrom_map (c : α → D) : ∀ (xs : List α) (n : Nat), enumFrom n (xs.map c) = (enumN n xs).map (c2 cI c)
  | [], _ => rfl
  | a :: r, n => by simp [enumFrom, enumN, enumFrom_map c r, c2, cI]
theorem I_enum {f : α → List ι} (ho : ∀ a, D.walk (ca a) = some ((f a).map ci)) (ha : X true Ps fa ea ca) : IJ Ps (iEnum fa) (ea.bind fun a => .ok (enum (f a))) (c2 cI ci) := fun ρ h => by
  have z := AE_cons ha AE_nil ρ h
  have : Sm ((aConsE fa aNil) ρ) ea (fun a b => b.1 = [RV.leaf (ca a)] ∧ ER Ps b.2) (ER Ps) := by cases ea <;> exact z
  exact Sm.bind this (fun a ⟨rs, ρ1⟩ ⟨h1, q1⟩ => by
    have h1 : rs = _ := h1
    subst h1
    show Sm ((Res.of (ca a).walk).bind fun ds => .ok (enumFrom 0 ds, ρ1)) _ _ _
    rw [ho]
    exact Sm.okI ⟨enumFrom_map ci _ _, q1⟩) fun _ h => h
/-! ### targets -/
/-- what a target makes of the slots -/
def GJ (Ps : List Sl) (g : D → Env' → Option Env') (d : D) (Qs : List Sl) : Prop := ∀ ρ, ER Ps ρ → ∃ ρ', g d ρ = some ρ' ∧ ER Qs ρ'
theorem G_n (i : Nat) {p : Sl} {d : D} (h : Ps[i]? = some p) : GJ Ps (gN i) d (Ps.set i (.vw d)) := fun ρ e => by
  refine ⟨ρ.set i (some (.sh d)), ?_, e.set i ⟨_, rfl, rfl⟩⟩
  unfold gN
  rw [if_pos (e.lt h)]
def GsJ (Ps : List Sl) (g : List D → Env' → Option Env') (ds : List D) (Qs : List Sl) : Prop := ∀ ρ, ER Ps ρ → ∃ ρ', g ds ρ = some ρ' ∧ ER Qs ρ'
theorem Gs_nil : GsJ Ps gsNil [] Ps := fun ρ e => ⟨ρ, rfl, e⟩
theorem Gs_cons {g : D → Env' → Option Env'} {gs : List D → Env' → Option Env'} {d : D} {ds : List D} {Rs : List Sl} (h : GJ Ps g d Qs) (k : GsJ Qs gs ds Rs) : GsJ Ps (gsCons g gs) (d :: ds) Rs := fun ρ e => by
  obtain ⟨ρ1, e1, e2⟩ := h ρ e
  obtain ⟨ρ2, e3, e4⟩ := k ρ1 e2
  exact ⟨ρ2, by show (g d ρ).bind (gs ds) = _; rw [e1]; exact e3, e4⟩
theorem G_t {gs : List D → Env' → Option Env'} {ds : List D} {n : Nat} {d : D} (hd : d = .tup ds) (hn : ds.length = n) (h : GsJ Ps gs ds Qs) : GJ Ps (gT gs n) d Qs := fun ρ e => by
  obtain ⟨ρ', e1, e2⟩ := h ρ e
  exact ⟨ρ', by subst hd; show (if ds.length = n then gs ds ρ else none) = _; rw [if_pos hn]; exact e1, e2⟩
/-! ### comprehensions -/
def lcM {ι α : Type} (t : ι → Out Bool) (e : ι → Out α) : List ι → Out (List α)
  | [] => .ok []
  | x :: xs => (t x).nx.bind fun b => if b = true then (e x).nx.bind fun a => (lcM t e xs).bind fun r => .ok (a :: r) else lcM t e xs
def lcR {ι α : Type} (t : ι → Out Bool) (e : ι → Out α) (xs : List ι) : Out (List α) := if xs.length ≤ 16777216 then lcM t e xs else .bad
/-- a comprehension whose parts tell values alone -/
def lcP {ι α : Type} (xs : List ι) (t : ι → Bool) (e : ι → α) : Out (List α) := if xs.length ≤ 16777216 then .ok ((xs.filter t).map e) else .bad
def lcA {ι α : Type} (xs : List ι) (e : ι → α) : Out (List α) := if xs.length ≤ 16777216 then .ok (xs.map e) else .bad
theorem lcM_pure (t : ι → Bool) (e : ι → α) : ∀ xs : List ι, lcM (fun x => .ok (t x)) (fun x => .ok (e x)) xs = .ok ((xs.filter t).map e)
  | [] => rfl
  | x :: xs => by
    show (if t x = true then _ else _) = _
    rw [lcM_pure t e xs]
    cases h : t x <;> simp [h]
theorem lcR_pure (t : ι → Bool) (e : ι → α) (xs : List ι) : lcP xs t e = lcR (fun x => .ok (t x)) (fun x => .ok (e x)) xs := by unfold lcP lcR; rw [lcM_pure]
theorem lcR_all (e : ι → α) (xs : List ι) : lcA xs e = lcR (fun _ => .ok true) (fun x => .ok (e x)) xs := by unfold lcA lcR; rw [lcM_pure (fun _ => true), List.filter_eq_self.mpr fun _ _ => rfl]
theorem Sm.nxE {x : Res β} {e : Out α} {K : α → β → Prop} {E E' : Env' → Prop} (h : Sm x e K E) : Sm x.nx e.nx K E' := by
  cases e with
  | ok a => obtain ⟨b, e1, e2⟩ := h; rw [e1]; exact ⟨b, rfl, e2⟩
  | exc c => trivial
  | bad => trivial
theorem lc_go {gt : D → Env' → Option Env'} {tt : Env' → Res (Bool × Env')} {ne : Env' → Res (T × Env')} {vs : List Nat} {Pw : List Sl} {Qs : ι → List Sl} {t : ι → Out Bool} {e : ι → Out α} {tn : α → T}
    (hg : ∀ x, GJ Pw gt (ci x) (Qs x)) (ht : ∀ x, TJ (Qs x) tt (t x)) (he : ∀ x, NJ (Qs x) ne (e x) tn) (hw : ∀ x ρ, ER (Qs x) ρ → ER Pw (wipeE ρ vs)) : ∀ (xs : List ι) (ρ : Env'), ER Pw ρ →
    Sm (lcGo gt tt ne vs (xs.map ci) ρ) (lcM t e xs) (fun a b => b.1 = a.map tn ∧ ER Pw b.2) (fun _ => False)
  | [], ρ, h => Sm.okI ⟨rfl, h⟩
  | x :: xs, ρ, h => by
    obtain ⟨ρ1, e1, e2⟩ := hg x ρ h
    have q : lcGo gt tt ne vs ((x :: xs).map ci) ρ = (tt ρ1).nx.bind fun (b, ρ2) => if b = true then (ne ρ2).nx.bind fun (t, ρ3) => (lcGo gt tt ne vs (xs.map ci) (wipeE ρ3 vs)).bind fun (ts, ρ4) => .ok (t :: ts, ρ4) else lcGo gt tt ne vs (xs.map ci) (wipeE ρ2 vs) := by
      rw [List.map_cons, lcGo, e1]; rfl
    rw [q]
    unfold lcM
    refine Sm.bind (Sm.nxE (E' := fun _ => False) (ht x ρ1 e2)) (fun b ⟨b', ρ2⟩ ⟨h1, h2⟩ => ?_) fun _ h => h
    have h1 : b' = b := h1
    subst h1
    show Sm (if b' = true then _ else _) (if b' = true then _ else _) _ _
    cases b' with
    | false => exact lc_go hg ht he hw xs _ (hw x _ h2)
    | true =>
      refine Sm.bind (Sm.nxE (E' := fun _ => False) (he x ρ2 h2)) (fun a ⟨t', ρ3⟩ ⟨h3, h4⟩ => ?_) fun _ h => h
      refine Sm.bind (lc_go hg ht he hw xs _ (hw x _ h4)) (fun r ⟨ts, ρ4⟩ ⟨h5, h6⟩ => ?_) fun _ h => h
      have h3 : t' = _ := h3
      have h5 : ts = _ := h5
      subst h3; subst h5
      exact Sm.okI ⟨rfl, h6⟩
/-- slots that a comprehension's names take -/
def Free (Ps : List Sl) : List Nat → Prop
  | [] => True
  | v :: vs => Ps[v]? = some .any ∧ Free Ps vs
theorem wipe_er : ∀ {vs : List Nat} {Ps : List Sl} {ρ : Env'}, Free Ps vs → ER Ps ρ → ER Ps (wipeE ρ vs)
  | [], _, _, _, h => h
  | v :: vs, Ps, ρ, f, h => (wipe_er f.2 h).setSame f.1 trivial
theorem back_er : ∀ {vs : List Nat} {Ps : List Sl} {ρ0 ρ : Env'}, Free Ps vs → ER Ps ρ → ER Ps (backE ρ0 ρ vs)
  | [], _, _, _, _, h => h
  | v :: vs, Ps, ρ0, ρ, f, h => by
    have := back_er (ρ0 := ρ0) f.2 h
    show ER Ps (back1 ρ0 (backE ρ0 ρ vs) v)
    unfold back1
    split <;> exact this.setSame f.1 trivial
theorem N_lc {fi : Env' → Res (List D × Env')} {gt : D → Env' → Option Env'} {tt : Env' → Res (Bool × Env')} {ne : Env' → Res (T × Env')} {vs : List Nat} {Qs : ι → List Sl} {xs : Out (List ι)} {t : ι → Out Bool} {e : ι → Out α} {tn : α → T}
    (hf : Free Ps vs) (hi : IJ Ps fi xs ci) (hg : ∀ x, GJ Ps gt (ci x) (Qs x)) (hl : ∀ x, LeS (Qs x) Ps) (ht : ∀ x, TJ (Qs x) tt (t x)) (he : ∀ x, NJ (Qs x) ne (e x) tn) :
    NJ Ps (nLc fi gt tt ne vs) (xs.bind fun xs => lcR t e xs) (fun a => .lst (a.map tn)) := fun ρ h =>
  Sm.bind (hi ρ h) (fun xs ⟨ds, ρ1⟩ ⟨h1, h2⟩ => by
    have h1 : ds = _ := h1
    subst h1
    have h2 : ER Ps ρ1 := h2
    show Sm (if (xs.map ci).length ≤ sizeLine then (lcGo gt tt ne vs (xs.map ci) (wipeE ρ1 vs)).bind fun (ts, ρ2) => .ok (T.lst ts, backE ρ1 ρ2 vs) else .bad) (lcR t e xs) _ _
    unfold lcR
    by_cases hs : xs.length ≤ 16777216
    · rw [if_pos (size_le (by rw [List.length_map]; exact hs)), if_pos hs]
      have q := lc_go hg ht he (fun x ρ h => wipe_er hf ((hl x).er h)) xs _ (wipe_er hf h2)
      cases e' : lcM t e xs with
      | ok a =>
        rw [e'] at q
        obtain ⟨⟨ts, ρ2⟩, e1, e2, e3⟩ := q
        have e2 : ts = _ := e2
        subst e2
        rw [e1]
        exact Sm.okI ⟨rfl, back_er hf e3⟩
      | exc c => rw [e'] at q; obtain ⟨ρ', _, f⟩ := q; exact f.elim
      | bad => trivial
    · rw [if_neg hs]; trivial) fun _ h => h
theorem N_lcR {fi : Env' → Res (List D × Env')} {gt : D → Env' → Option Env'} {tt : Env' → Res (Bool × Env')} {ne : Env' → Res (T × Env')} {vs : List Nat} {Qs : ι → List Sl} {xs : Out (List ι)} {t : ι → Out Bool} {e : ι → Out α}
    (hf : Free Ps vs) (hi : IJ Ps fi xs ci) (hg : ∀ x, GJ Ps gt (ci x) (Qs x)) (hl : ∀ x, LeS (Qs x) Ps) (ht : ∀ x, TJ (Qs x) tt (t x)) (he : ∀ x, NJ (Qs x) ne (e x) (oS ca)) :
    NJ Ps (nLc fi gt tt ne vs) (xs.bind fun xs => lcR t e xs) (oL ca) := N_lc hf hi hg hl ht he
theorem N_lcP {fi : Env' → Res (List D × Env')} {gt : D → Env' → Option Env'} {tt : Env' → Res (Bool × Env')} {ne : Env' → Res (T × Env')} {vs : List Nat} {Qs : ι → List Sl} {xs : Out (List ι)} {t : ι → Bool} {e : ι → α}
    (hf : Free Ps vs) (hi : IJ Ps fi xs ci) (hg : ∀ x, GJ Ps gt (ci x) (Qs x)) (hl : ∀ x, LeS (Qs x) Ps) (ht : ∀ x, TJ (Qs x) tt (.ok (t x))) (he : ∀ x, NJ (Qs x) ne (.ok (e x)) (oS ca)) :
    NJ Ps (nLc fi gt tt ne vs) (xs.bind fun xs => lcP xs t e) (oL ca) := NJ_eq (N_lc hf hi hg hl ht he) (by congr; funext xs; exact lcR_pure t e xs)
theorem N_lcA {fi : Env' → Res (List D × Env')} {gt : D → Env' → Option Env'} {ne : Env' → Res (T × Env')} {vs : List Nat} {Qs : ι → List Sl} {xs : Out (List ι)} {e : ι → α}
    (hf : Free Ps vs) (hi : IJ Ps fi xs ci) (hg : ∀ x, GJ Ps gt (ci x) (Qs x)) (hl : ∀ x, LeS (Qs x) Ps) (he : ∀ x, NJ (Qs x) ne (.ok (e x)) (oS ca)) :
    NJ Ps (nLc fi gt ttYes ne vs) (xs.bind fun xs => lcA xs e) (oL ca) := NJ_eq (N_lc hf hi hg hl (fun _ => T_yes) he) (by congr; funext xs; exact lcR_all e xs)
/-! ### statements -/
variable {R R' : γ → Fl → Prop} {E E' : Env' → Prop} {p : Out γ} {f g : Env' → Res Fl}
def Rn (Qs : α → List Sl) : α → Fl → Prop := fun a fl => ∃ ρ', fl = .nx ρ' ∧ ER (Qs a) ρ'
def NoNx : Fl → Prop
  | .nx _ => False
  | _ => True
def Rx (R : γ → Fl → Prop) : γ → Fl → Prop := fun a fl => R a fl ∧ NoNx fl
theorem J_eq {p' : Out γ} (h : J Ps f p R E) (q : p' = p) : J Ps f p' R E := q ▸ h
theorem J_le (l : LeS Ps Qs) (h : J Qs f p R E) : J Ps f p R E := fun ρ e => h ρ (l.er e)
theorem J_seq {e : Out α} {Qs : α → List Sl} {k : α → Out γ} (h : J Ps f e (Rn Qs) E) (hk : ∀ a, J (Qs a) g (k a) R E) : J Ps (sSeq f g) (e.bind k) R E := fun ρ h0 =>
  Sm.bind (h ρ h0) (fun a fl ⟨ρ', e1, e2⟩ => by subst e1; exact hk a ρ' e2) fun _ h => h
theorem J_last (h : J Ps (sSeq f sNil) p R E) : J Ps f p R E := fun ρ h0 => by
  have := h ρ h0
  unfold sSeq at this
  cases e : f ρ with
  | ok fl => rw [e] at this; cases fl <;> exact this
  | exc c ρ' => rw [e] at this; exact this
  | bad => rw [e] at this; exact this
theorem J_nil {a : γ} (h : ∀ ρ, ER Ps ρ → R a (.nx ρ)) : J Ps sNil (.ok a) R E := fun ρ h0 => Sm.okI (h ρ h0)
theorem J_nilN {a : α} {Qs : α → List Sl} (l : LeS Ps (Qs a)) : J Ps sNil (.ok a) (Rn Qs) E := fun ρ h0 => Sm.okI ⟨ρ, rfl, l.er h0⟩
/-- x = e -/
theorem J_set {i : Nat} {na : Env' → Res (T × Env')} {t : α → T} {p0 : Sl} (hE : ∀ ρ, ER Ps ρ → E ρ) (hi : Ps[i]? = some p0) (h : NJ Ps na ea t) (w : α → Sl) (hw : ∀ a, (w a).ok (some (t a))) : J Ps (sSet i na) ea (Rn fun a => Ps.set i (w a)) E := fun ρ h0 => by
  have : Sm ((na ρ).bind fun (t, ρ1) => if i < ρ1.length then .ok (Fl.nx (ρ1.set i (some t))) else .bad) (ea.bind .ok) (Rn fun a => Ps.set i (w a)) E :=
    Sm.bind (h ρ h0) (fun a ⟨t', ρ1⟩ ⟨h1, h2⟩ => by
      have h1 : t' = _ := h1
      have h2 : ER Ps ρ1 := h2
      subst h1
      show Sm (if i < ρ1.length then .ok (Fl.nx (ρ1.set i (some (t a)))) else .bad) _ _ _
      rw [if_pos (h2.lt hi)]
      exact Sm.okI ⟨_, rfl, h2.set i (hw a)⟩) hE
  cases ea <;> exact this
theorem J_setV {i : Nat} {na : Env' → Res (T × Env')} {t : α → T} {p0 : Sl} (hE : ∀ ρ, ER Ps ρ → E ρ) (hi : Ps[i]? = some p0) (h : NJ Ps na ea t) (ht : ∀ a, (t a).top = some (ca a)) : J Ps (sSet i na) ea (Rn fun a => Ps.set i (.vw (ca a))) E :=
  J_set hE hi h (fun a => .vw (ca a)) fun a => ⟨_, rfl, ht a⟩
theorem J_setS {i : Nat} {na : Env' → Res (T × Env')} {p0 : Sl} (hE : ∀ ρ, ER Ps ρ → E ρ) (hi : Ps[i]? = some p0) (h : NJ Ps na ea (oS ca)) : J Ps (sSet i na) ea (Rn fun a => Ps.set i (.vw (ca a))) E := J_setV hE hi h fun _ => rfl
theorem J_setLV {i : Nat} {na : Env' → Res (T × Env')} {ea : Out (List α)} {p0 : Sl} (hE : ∀ ρ, ER Ps ρ → E ρ) (hi : Ps[i]? = some p0) (h : NJ Ps na ea (oL ca)) : J Ps (sSet i na) ea (Rn fun a => Ps.set i (.vw (cL ca a))) E := J_setV hE hi h fun a => oL_top ca a
theorem J_setLO {i : Nat} {na : Env' → Res (T × Env')} {ea : Out (List α)} {p0 : Sl} (hE : ∀ ρ, ER Ps ρ → E ρ) (hi : Ps[i]? = some p0) (h : NJ Ps na ea (oL ca)) : J Ps (sSet i na) ea (Rn fun a => Ps.set i (.own (oL ca a))) E := J_set hE hi h (fun a => .own (oL ca a)) fun a => rfl
theorem J_expr (hE : ∀ ρ, ER Ps ρ → E ρ) (h : X m Ps fa ea ca) : J Ps (sExpr fa) ea (Rn fun _ => Ps) E := fun ρ h0 => by
  have : Sm ((fa ρ).bind fun (_, ρ1) => .ok (Fl.nx ρ1)) (ea.bind .ok) (Rn fun _ => Ps) E := Sm.bind (h ρ h0) (fun a ⟨r, ρ1⟩ ⟨h1, h2⟩ => Sm.okI ⟨ρ1, rfl, h1⟩) hE
  cases ea <;> exact this
theorem J_ret {na : Env' → Res (T × Env')} {t : α → T} {k : α → γ} (hE : ∀ ρ, ER Ps ρ → E ρ) (h : NJ Ps na ea t) (hR : ∀ a ρ', R (k a) (.rt (t a) ρ')) : J Ps (sRet na) (ea.bind fun a => .ok (k a)) R E := fun ρ h0 =>
  Sm.bind (h ρ h0) (fun a ⟨t', ρ1⟩ ⟨h1, h2⟩ => by
    have h1 : t' = _ := h1
    subst h1
    exact Sm.okI (hR a ρ1)) hE
theorem J_raise {c : Str} (hE : ∀ ρ, ER Ps ρ → E ρ) : J Ps (sRaise c) (.exc c) R E := fun ρ h0 => ⟨ρ, rfl, hE ρ h0⟩
theorem J_if {ta : Env' → Res (Bool × Env')} {et : Out Bool} {pA pB : Out γ} (hE : ∀ ρ, ER Ps ρ → E ρ) (ht : TJ Ps ta et) (ha : J Ps f pA R E) (hb : J Ps g pB R E) : J Ps (sIf ta f g) (et.bind fun b => if b = true then pA else pB) R E := fun ρ h0 =>
  Sm.bind (ht ρ h0) (fun a ⟨b, ρ1⟩ ⟨h1, h2⟩ => by
    have h1 : b = a := h1
    subst h1
    show Sm (if b = true then f ρ1 else g ρ1) _ _ _
    cases b with
    | true => exact ha ρ1 h2
    | false => exact hb ρ1 h2) hE
/-- if c: A (which goes out), then the rest -/
theorem J_guard {ta : Env' → Res (Bool × Env')} {et : Out Bool} {pA pB : Out γ} (hE : ∀ ρ, ER Ps ρ → E ρ) (ht : TJ Ps ta et) (ha : J Ps f pA (Rx R) E) (hb : J Ps g pB R E) : J Ps (sSeq (sIf ta f sNil) g) (et.bind fun b => if b = true then pA else pB) R E := fun ρ h0 => by
  have q := ht ρ h0
  cases et with
  | ok b =>
    obtain ⟨⟨b', ρ1⟩, e1, e2, e3⟩ := q
    have e2 : b' = b := e2
    subst e2
    show Sm ((Res.bind (Res.bind (ta ρ) _) _)) (if b' = true then pA else pB) R E
    rw [e1]
    cases b' with
    | true =>
      have qa := ha ρ1 e3
      show Sm ((f ρ1).bind _) pA R E
      cases pA with
      | ok a =>
        obtain ⟨fl, z1, z2, z3⟩ := qa
        rw [z1]
        cases fl with
        | nx _ => exact z3.elim
        | rt _ _ => exact ⟨_, rfl, z2⟩
        | bk _ => exact ⟨_, rfl, z2⟩
        | ct _ => exact ⟨_, rfl, z2⟩
      | exc c => obtain ⟨ρ', z1, z2⟩ := qa; rw [z1]; exact ⟨ρ', rfl, z2⟩
      | bad => trivial
    | false => exact hb ρ1 e3
  | exc c =>
    obtain ⟨ρ', e1, e2⟩ := q
    show Sm ((Res.bind (Res.bind (ta ρ) _) _)) (.exc c) R E
    rw [e1]
    exact ⟨ρ', rfl, hE _ e2⟩
  | bad => trivial
/-- a, b = e -/
theorem J_unp {gt : D → Env' → Option Env'} {Qs : α → List Sl} (hE : ∀ ρ, ER Ps ρ → E ρ) (h : X true Ps fa ea ca) (hg : ∀ a, GJ Ps gt (ca a) (Qs a)) : J Ps (sUnpack fa gt) ea (Rn Qs) E := fun ρ h0 => by
  have : Sm ((fa ρ).bind fun (r, ρ1) => (Res.of (esc ρ1 r)).bind fun (d, ρ2) => (Res.of (gt d ρ2)).bind fun ρ3 => .ok (Fl.nx ρ3)) (ea.bind .ok) (Rn Qs) E :=
    Sm.bind (h ρ h0) (fun a ⟨r, ρ1⟩ ⟨h1, q1⟩ => by
      obtain ⟨ρ', e1, e2⟩ := q1.2 rfl ρ1 h1
      obtain ⟨ρ'', e3, e4⟩ := hg a ρ' e2
      show Sm ((Res.of (esc ρ1 r)).bind fun (d, ρ2) => (Res.of (gt d ρ2)).bind fun ρ3 => .ok (Fl.nx ρ3)) _ _ _
      rw [e1]
      show Sm ((Res.of (gt (ca a) ρ')).bind fun ρ3 => .ok (Fl.nx ρ3)) _ _ _
      rw [e3]
      exact Sm.okI ⟨_, rfl, e4⟩) hE
  cases ea <;> exact this
theorem J_par {i j : Nat} {p0 p1 : Sl} (hE : ∀ ρ, ER Ps ρ → E ρ) (hi : Ps[i]? = some p0) (hj : Ps[j]? = some p1) (ha : X true Ps fa ea ca) (hb : X true Ps fb eb cb) :
    J Ps (sPar i j (aConsE fa (aConsE fb aNil))) (ea.bind fun a => eb.bind fun b => .ok (a, b)) (Rn fun g => (Ps.set i (.vw (ca g.1))).set j (.vw (cb g.2))) E := fun ρ h0 => by
  have : Sm ((aConsE fa (aConsE fb aNil)) ρ) (ea.bind fun a => eb.bind fun b => .ok (a, b)) (fun a b => b.1 = [RV.leaf (ca a.1), RV.leaf (cb a.2)] ∧ ER Ps b.2) (ER Ps) := by
    have z := AE_cons ha (AE_cons hb AE_nil) ρ h0
    cases ea with
    | ok a => cases eb with
      | ok b => exact z
      | exc c => exact z
      | bad => trivial
    | exc c => exact z
    | bad => trivial
  have q := Sm.bind (k := fun p : α × β => Out.ok p) (K' := Rn fun g : α × β => (Ps.set i (.vw (ca g.1))).set j (.vw (cb g.2))) (E' := E) (h := fun (rs, ρ1) => match rs with
    | [.leaf d, .leaf e] => if i < ρ1.length ∧ j < ρ1.length then .ok (.nx ((ρ1.set i (some (.sh d))).set j (some (.sh e)))) else .bad
    | _ => .bad) this (fun ⟨a, b⟩ ⟨rs, ρ1⟩ ⟨h1, q1⟩ => by
      have h1 : rs = [RV.leaf (ca a), RV.leaf (cb b)] := h1
      have q1 : ER Ps ρ1 := q1
      subst h1
      show Sm (if i < ρ1.length ∧ j < ρ1.length then .ok (Fl.nx ((ρ1.set i (some (.sh (ca a)))).set j (some (.sh (cb b))))) else .bad) _ _ _
      rw [if_pos ⟨q1.lt hi, q1.lt hj⟩]
      exact Sm.okI ⟨_, rfl, (q1.set (p := .vw (ca a)) i ⟨_, rfl, rfl⟩).set (p := .vw (cb b)) j ⟨_, rfl, rfl⟩⟩) hE
  cases ea with
  | ok a => cases eb with
    | ok b => exact q
    | exc c => exact q
    | bad => trivial
  | exc c => exact q
  | bad => trivial
/-! owned lists -/
def appR {α : Type} (xs : List α) (a : α) : Out (List α) := if xs.length < 16777216 then .ok (xs ++ [a]) else .bad
def extR {α : Type} (xs ys : List α) : Out (List α) := if xs.length + ys.length ≤ 16777216 then .ok (xs ++ ys) else .bad
def setR {α : Type} (xs : List α) (k : Int) (a : α) : Out (List α) := match ixN xs.length k with
  | some j => .ok (xs.set j a)
  | none => .bad
theorem J_app {i : Nat} {na : Env' → Res (T × Env')} {xs : List α} (hE : ∀ ρ, ER Ps ρ → E ρ) (hi : Ps[i]? = some (.own (oL ca xs))) (h : NJ Ps na ea (oS ca)) : J Ps (sAppend i na) (ea.bind fun a => appR xs a) (Rn fun r => Ps.set i (.own (oL ca r))) E := fun ρ h0 => by
  obtain ⟨o, h1, h2⟩ := h0.get hi
  cases h2
  unfold sAppend
  rw [h1]
  refine Sm.bind (h ρ h0) (fun a ⟨t', ρ1⟩ ⟨h1, h2⟩ => ?_) hE
  have h1 : t' = _ := h1
  have h2 : ER Ps ρ1 := h2
  subst h1
  obtain ⟨o, h3, h4⟩ := h2.get hi
  cases h4
  show Sm (match ρ1[i]? with
    | some (some (.lst ts)) => if ts.length < sizeLine then .ok (Fl.nx (ρ1.set i (some (.lst (ts ++ [oS ca a]))))) else .bad
    | _ => .bad) _ _ _
  rw [h3]
  unfold appR
  show Sm (if (xs.map fun a => T.sh (ca a)).length < sizeLine then _ else _) _ _ _
  by_cases hs : xs.length < 16777216
  · rw [if_pos (size_lt (by rw [List.length_map]; exact hs)), if_pos hs]
    refine Sm.okI ⟨_, rfl, h2.set i ?_⟩
    show _ = some (oL ca (xs ++ [a]))
    simp [oL, oS]
  · rw [if_neg hs]; trivial
theorem J_setIx {i : Nat} {na : Env' → Res (T × Env')} {xs : List α} {ek : Out Int} (hE : ∀ ρ, ER Ps ρ → E ρ) (hi : Ps[i]? = some (.own (oL ca xs))) (h : NJ Ps na ea (oS ca)) (hk : X m Ps fb ek cI) :
    J Ps (sSetIx i na fb) (ea.bind fun a => ek.bind fun k => setR xs k a) (Rn fun r => Ps.set i (.own (oL ca r))) E := fun ρ h0 => by
  unfold sSetIx
  refine Sm.bind (h ρ h0) (fun a ⟨t', ρ1⟩ ⟨h1, h2⟩ => ?_) hE
  have h1 : t' = _ := h1
  have h2 : ER Ps ρ1 := h2
  subst h1
  obtain ⟨o, h3, h4⟩ := h2.get hi
  cases h4
  show Sm (match oS ca a, ρ1[i]? with
    | .sh d, some (some _) => (fb ρ1).bind fun (r, ρ2) => match look ρ2 r, ρ2[i]? with
      | some (.int k), some (some (.lst ts)) => match ixN ts.length k with
        | some j => match ts[j]? with
          | some (.sh _) => .ok (Fl.nx (ρ2.set i (some (.lst (ts.set j (.sh d))))))
          | _ => .bad
        | none => .bad
      | _, _ => .bad
    | _, _ => .bad) _ _ _
  rw [h3]
  refine Sm.bind (hk ρ1 h2) (fun k ⟨r, ρ2⟩ ⟨h5, q5⟩ => ?_) hE
  have h5 : ER Ps ρ2 := h5
  obtain ⟨o, h6, h7⟩ := h5.get hi
  cases h7
  show Sm (match look ρ2 r, ρ2[i]? with
      | some (.int k), some (some (.lst ts)) => match ixN ts.length k with
        | some j => match ts[j]? with
          | some (.sh _) => .ok (Fl.nx (ρ2.set i (some (.lst (ts.set j (.sh (ca a)))))))
          | _ => .bad
        | none => .bad
      | _, _ => .bad) _ _ _
  rw [q5.1 _ h5, h6]
  show Sm (match ixN (xs.map fun a => T.sh (ca a)).length k with
        | some j => match (xs.map fun a => T.sh (ca a))[j]? with
          | some (.sh _) => .ok (Fl.nx (ρ2.set i (some (.lst ((xs.map fun a => T.sh (ca a)).set j (.sh (ca a)))))))
          | _ => .bad
        | none => .bad) (setR xs k a) _ _
  unfold setR
  rw [List.length_map]
  cases e : ixN xs.length k with
  | none => trivial
  | some j =>
    show Sm (match (xs.map fun a => T.sh (ca a))[j]? with
          | some (.sh _) => .ok (Fl.nx (ρ2.set i (some (.lst ((xs.map fun a => T.sh (ca a)).set j (.sh (ca a)))))))
          | _ => .bad) (.ok (xs.set j a)) _ _
    have hj : j < xs.length := by
      unfold ixN at e
      split at e
      · split at e
        · cases e; omega
        · cases e
      · split at e
        · cases e; omega
        · cases e
    rw [List.getElem?_map, List.getElem?_eq_getElem hj]
    refine Sm.okI ⟨_, rfl, h5.set i ?_⟩
    show _ = some (oL ca (xs.set j a))
    simp [oL, List.map_set]
end
end TL
namespace TL
open PySem PySem.Spec PyProof.Rows L2 FL
noncomputable section
inductive Lp (σ γ : Type) where
  | nx (s : σ) | bk (s : σ) | out (g : γ)
inductive Fj (σ γ : Type) where
  | nx (s : σ) | out (g : γ)
def jn {σ γ : Type} (e : Out (Fj σ γ)) (k : σ → Out γ) : Out γ := e.bind fun j => match j with
  | .nx s => k s
  | .out g => .ok g
def forF {ι σ γ : Type} (b : ι → σ → Out (Lp σ γ)) : List ι → σ → Out (Fj σ γ)
  | [], s => .ok (.nx s)
  | x :: xs, s => (b x s).bind fun r => match r with
    | .nx s' => forF b xs s'
    | .bk s' => .ok (.nx s')
    | .out g => .ok (.out g)
def forS {ι σ : Type} (b : ι → σ → Out σ) : List ι → σ → Out σ
  | [], s => .ok s
  | x :: xs, s => (b x s).bind fun s' => forS b xs s'
def whN {σ γ : Type} (c : σ → Out Bool) (b : σ → Out (Lp σ γ)) : Nat → σ → Out (Fj σ γ)
  | 0, _ => .bad
  | n + 1, s => (c s).bind fun t => if t = true then (b s).bind fun r => match r with
    | .nx s' => whN c b n s'
    | .bk s' => .ok (.nx s')
    | .out g => .ok (.out g)
    else .ok (.nx s)
open Classical in
def whF {σ γ : Type} (c : σ → Out Bool) (b : σ → Out (Lp σ γ)) (s : σ) : Out (Fj σ γ) := if h : ∃ n, whN c b n s ≠ .bad then whN c b h.choose s else .bad
/-- a try: rs the classes that the body may raise -/
def tryR {γ : Type} (rs : List Str) (h : Str → Out γ) (p : Out γ) : Out γ := match p with
  | .exc k => if k ∈ rs then h k else .bad
  | r => r
def goH {γ : Type} : List (List Str × Out γ) → Str → Out γ
  | [], c => .exc c
  | (cs, p) :: r, c => if c ∈ cs then p else goH r c
section
variable {α β γ δ σ ι : Type}
variable {m m' m'' : Bool} {Ps Qs : List Sl} {fa fb fc : Env' → Res (RV × Env')} {ca : α → D} {cb : β → D} {cc : γ → D} {cr : δ → D} {ci : ι → D} {ea : Out α} {eb : Out β} {ec : Out γ}
variable {R R' : γ → Fl → Prop} {E E' : Env' → Prop} {p : Out γ} {f g : Env' → Res Fl}
def RJ (Ls : σ → List Sl) (Ro : γ → Fl → Prop) : Fj σ γ → Fl → Prop
  | .nx s, fl => ∃ ρ', fl = .nx ρ' ∧ ER (Ls s) ρ'
  | .out g, fl => Ro g fl ∧ NoNx fl
def RB (Ls : σ → List Sl) (Ro : γ → Fl → Prop) : Lp σ γ → Fl → Prop
  | .nx s, fl => ∃ ρ', (fl = .nx ρ' ∨ fl = .ct ρ') ∧ ER (Ls s) ρ'
  | .bk s, fl => ∃ ρ', fl = .bk ρ' ∧ ER (Ls s) ρ'
  | .out g, fl => Ro g fl ∧ ∃ t ρ', fl = .rt t ρ'
def RC (Ls : σ → List Sl) : σ → Fl → Prop := fun s fl => ∃ ρ', (fl = .nx ρ' ∨ fl = .ct ρ') ∧ ER (Ls s) ρ'
theorem J_jn {e : Out (Fj σ γ)} {Qs : σ → List Sl} {k : σ → Out γ} (h : J Ps f e (RJ Qs R) E) (hk : ∀ s, J (Qs s) g (k s) R E) : J Ps (sSeq f g) (jn e k) R E := fun ρ h0 => by
  refine Sm.bind (h ρ h0) (fun j fl hj => ?_) fun _ h => h
  cases j with
  | nx s => obtain ⟨ρ', e1, e2⟩ := hj; subst e1; exact hk s ρ' e2
  | out a =>
    obtain ⟨h1, h2⟩ := hj
    cases fl with
    | nx _ => exact h2.elim
    | rt _ _ => exact Sm.okI h1
    | bk _ => exact Sm.okI h1
    | ct _ => exact Sm.okI h1
theorem J_for {fi : Env' → Res (List D × Env')} {gt : D → Env' → Option Env'} {xs : Out (List ι)} {s0 : σ} {b : ι → σ → Out (Lp σ γ)} (Ls : σ → List Sl) {Bs : ι → σ → List Sl} (hE : ∀ ρ, ER Ps ρ → E ρ) (hi : IJ Ps fi xs ci) (l : LeS Ps (Ls s0))
    (hg : ∀ x s, GJ (Ls s) gt (ci x) (Bs x s)) (hb : ∀ x s, J (Bs x s) f (b x s) (RB Ls R) E) : J Ps (sFor fi gt f) (xs.bind fun xs => forF b xs s0) (RJ Ls R) E := fun ρ h0 => by
  refine Sm.bind (hi ρ h0) (fun xs ⟨ds, ρ1⟩ ⟨h1, h2⟩ => ?_) hE
  have h1 : ds = _ := h1
  have h2 : ER Ps ρ1 := h2
  subst h1
  show Sm (forGo gt f (xs.map ci) ρ1) _ _ _
  have key : ∀ (xs : List ι) (s : σ) (ρ : Env'), ER (Ls s) ρ → Sm (forGo gt f (xs.map ci) ρ) (forF b xs s) (RJ Ls R) E := by
    intro xs
    induction xs with
    | nil => exact fun s ρ h => Sm.okI ⟨ρ, rfl, h⟩
    | cons x xs ih =>
      intro s ρ h
      obtain ⟨ρ', e1, e2⟩ := hg x s ρ h
      have q := hb x s ρ' e2
      rw [List.map_cons, forGo, e1]
      show Sm ((f ρ').bind fun r => match r with
        | .nx ρ' => forGo gt f (xs.map ci) ρ'
        | .ct ρ' => forGo gt f (xs.map ci) ρ'
        | .bk ρ' => .ok (.nx ρ')
        | .rt t ρ' => .ok (.rt t ρ')) _ _ _
      unfold forF
      refine Sm.bind q (fun r fl hr => ?_) fun _ h => h
      cases r with
      | nx s' =>
        obtain ⟨ρ'', e3, e4⟩ := hr
        rcases e3 with e3 | e3 <;> (subst e3; exact ih s' ρ'' e4)
      | bk s' => obtain ⟨ρ'', e3, e4⟩ := hr; subst e3; exact Sm.okI ⟨ρ'', rfl, e4⟩
      | out g => obtain ⟨h3, t, ρ'', e3⟩ := hr; subst e3; exact Sm.okI ⟨h3, trivial⟩
  exact key xs s0 ρ1 (l.er h2)
theorem J_forS {fi : Env' → Res (List D × Env')} {gt : D → Env' → Option Env'} {xs : Out (List ι)} {s0 : σ} {b : ι → σ → Out σ} (Ls : σ → List Sl) {Bs : ι → σ → List Sl} (hE : ∀ ρ, ER Ps ρ → E ρ) (hi : IJ Ps fi xs ci) (l : LeS Ps (Ls s0))
    (hg : ∀ x s, GJ (Ls s) gt (ci x) (Bs x s)) (hb : ∀ x s, J (Bs x s) f (b x s) (RC Ls) E) : J Ps (sFor fi gt f) (xs.bind fun xs => forS b xs s0) (Rn Ls) E := fun ρ h0 => by
  refine Sm.bind (hi ρ h0) (fun xs ⟨ds, ρ1⟩ ⟨h1, h2⟩ => ?_) hE
  have h1 : ds = _ := h1
  have h2 : ER Ps ρ1 := h2
  subst h1
  show Sm (forGo gt f (xs.map ci) ρ1) _ _ _
  have key : ∀ (xs : List ι) (s : σ) (ρ : Env'), ER (Ls s) ρ → Sm (forGo gt f (xs.map ci) ρ) (forS b xs s) (Rn Ls) E := by
    intro xs
    induction xs with
    | nil => exact fun s ρ h => Sm.okI ⟨ρ, rfl, h⟩
    | cons x xs ih =>
      intro s ρ h
      obtain ⟨ρ', e1, e2⟩ := hg x s ρ h
      have q := hb x s ρ' e2
      rw [List.map_cons, forGo, e1]
      show Sm ((f ρ').bind fun r => match r with
        | .nx ρ' => forGo gt f (xs.map ci) ρ'
        | .ct ρ' => forGo gt f (xs.map ci) ρ'
        | .bk ρ' => .ok (.nx ρ')
        | .rt t ρ' => .ok (.rt t ρ')) _ _ _
      unfold forS
      refine Sm.bind q (fun s' fl hr => ?_) fun _ h => h
      obtain ⟨ρ'', e3, e4⟩ := hr
      rcases e3 with e3 | e3 <;> (subst e3; exact ih s' ρ'' e4)
  exact key xs s0 ρ1 (l.er h2)
inductive HJ (Ps : List Sl) (R : γ → Fl → Prop) (E : Env' → Prop) (rs : List Str) : List (List Str × (Env' → Res Fl)) → List (List Str × Out γ) → Prop
  | nil : HJ Ps R E rs [] []
  | cons {cs cs' : List Str} {g : Env' → Res Fl} {p : Out γ} {gs : List (List Str × (Env' → Res Fl))} {ps : List (List Str × Out γ)} (h : ∀ k ∈ rs, (k ∈ cs ↔ k ∈ cs')) (hg : J Ps g p R E) (r : HJ Ps R E rs gs ps) : HJ Ps R E rs ((cs, g) :: gs) ((cs', p) :: ps)
theorem HJ.go {rs : List Str} {gs : List (List Str × (Env' → Res Fl))} {ps : List (List Str × Out γ)} (hE : ∀ ρ, ER Ps ρ → E ρ) (h : HJ Ps R E rs gs ps) {k : Str} (hk : k ∈ rs) {ρ : Env'} (h0 : ER Ps ρ) : Sm (hGo gs k ρ) (goH ps k) R E := by
  induction h with
  | nil => exact ⟨ρ, rfl, hE ρ h0⟩
  | @cons cs cs' g p gs ps h hg r ih =>
    unfold hGo goH
    by_cases q : k ∈ cs
    · rw [if_pos q, if_pos ((h k hk).mp q)]; exact hg ρ h0
    · rw [if_neg q, if_neg fun z => q ((h k hk).mpr z)]; exact ih
theorem J_try {all rs : List Str} {gs : List (List Str × (Env' → Res Fl))} {ps : List (List Str × Out γ)} (hE : ∀ ρ, ER Qs ρ → E ρ) (h : J Ps f p R (ER Qs)) (ha : ∀ k ∈ rs, k ∈ all) (hh : HJ Qs R E rs gs ps) : J Ps (sTry all gs f) (tryR rs (goH ps) p) R E := fun ρ h0 => by
  have q := h ρ h0
  unfold sTry tryR
  cases e : p with
  | ok a => rw [e] at q; obtain ⟨fl, e1, e2⟩ := q; rw [e1]; exact Sm.okI e2
  | exc k =>
    rw [e] at q
    obtain ⟨ρ', e1, e2⟩ := q
    rw [e1]
    show Sm (if k ∈ all then hGo gs k ρ' else .bad) (if k ∈ rs then goH ps k else .bad) R E
    by_cases hk : k ∈ rs
    · rw [if_pos hk, if_pos (ha k hk)]; exact hh.go hE hk e2
    · rw [if_neg hk]; trivial
  | bad => trivial
/-! ### a def -/
def RF (c : α → D) : α → Fl → Prop := fun a fl => (∃ ρ', fl = .rt (.sh (c a)) ρ') ∨ (c a = .non ∧ ∃ ρ', fl = .nx ρ')
theorem start_er : ∀ (ds : List D) (n : Nat), ER (ds.map Sl.vw ++ List.replicate n .any) (ds.map (fun d => some (.sh d)) ++ List.replicate n none)
  | [], 0 => rfl
  | [], n + 1 => ⟨none, _, rfl, trivial, start_er [] n⟩
  | d :: ds, n => ⟨_, _, rfl, ⟨_, rfl, rfl⟩, start_er ds n⟩
theorem simP {np nN : Nat} {b : Env' → Res Fl} {ds : List D} {p : Out α} (hl : ds.length = np) (hp : ds.map Sl.vw ++ List.replicate (nN - ds.length) .any = Ps) (h : J Ps b p (RF ca) fun _ => True) : Sim (mirP np nN b ds) p ca := by
  have q := h _ (hp ▸ start_er ds (nN - ds.length))
  unfold mirP
  rw [if_pos hl]
  show Sim (match b (ds.map (fun d => some (.sh d)) ++ List.replicate (nN - ds.length) none) with
    | .ok (.nx _) => .ok .non
    | .ok (.rt (.sh d) _) => .ok d
    | .exc c _ => .exc c
    | _ => .bad) p ca
  cases p with
  | ok a =>
    obtain ⟨fl, e1, e2⟩ := q
    rw [e1]
    rcases e2 with ⟨ρ', e2⟩ | ⟨e3, ρ', e2⟩
    · subst e2; rfl
    · subst e2; show Out.ok _ = .ok (ca a); rw [e3]
  | exc k => obtain ⟨ρ', e1, _⟩ := q; rw [e1]; rfl
  | bad => trivial
/-! ways out, in each kind of tail -/
theorem rf_rt (a : α) (ρ' : Env') : RF ca a (.rt (oS ca a) ρ') := .inl ⟨ρ', rfl⟩
theorem rf_nx (ρ' : Env') : RF cN () (.nx ρ') := .inr ⟨rfl, ρ', rfl⟩
theorem rx_rt {a : γ} {t : T} {ρ' : Env'} (h : R a (.rt t ρ')) : Rx R a (.rt t ρ') := ⟨h, trivial⟩
theorem rb_rt {Ls : σ → List Sl} {a : γ} {t : T} {ρ' : Env'} (h : R a (.rt t ρ')) : RB Ls R (.out a) (.rt t ρ') := ⟨h, t, ρ', rfl⟩
theorem rb_nx {Ls : σ → List Sl} {s : σ} {ρ' : Env'} (h : ER (Ls s) ρ') : RB (γ := γ) Ls R (.nx s) (.nx ρ') := ⟨ρ', .inl rfl, h⟩
theorem rc_nx {Ls : σ → List Sl} {s : σ} {ρ' : Env'} (h : ER (Ls s) ρ') : RC Ls s (.nx ρ') := ⟨ρ', .inl rfl, h⟩
end
end
end TL
namespace TL
open PySem PySem.Spec PyProof.Rows L2 FL
noncomputable section
section
variable {α β γ δ : Type} {ca : α → D} {cb : β → D}
/-! ### arithmetic -/
theorem o_add : OpT D.add cI cI cI fun a b => .ok (a + b) := fun _ _ => rfl
def mulR (a b : Int) : Out Int := if mulOk a b then .ok (a * b) else .bad
def divR (a b : Int) : Out Int := if 0 < b ∧ b.natAbs.log2 < 9000 then .ok (a / b) else .bad
def modR (a b : Int) : Out Int := if 0 < b then .ok (a % b) else .bad
def powR (a b : Int) : Out Int := if 0 ≤ b ∧ b ≤ 1000000 ∧ a.natAbs < 2 ^ 64 then .ok (a ^ b.toNat) else .bad
theorem o_mul : OpT D.mul cI cI cI mulR := fun a b => by
  unfold mulR
  by_cases z : mulOk a b
  · rw [if_pos z]
    show D.mul (.int a) (.int b) = some (.int _)
    simp only [D.mul, if_pos z]
  · rw [if_neg z]; trivial
theorem o_div : OpT D.fdiv cI cI cI divR := fun a b => by
  unfold divR
  by_cases z : 0 < b ∧ b.natAbs.log2 < 9000
  · rw [if_pos z]
    show D.fdiv (.int a) (.int b) = some (.int _)
    simp only [D.fdiv, if_pos z]
  · rw [if_neg z]; trivial
theorem o_mod : OpT D.mod cI cI cI modR := fun a b => by
  unfold modR
  by_cases z : 0 < b
  · rw [if_pos z]
    show D.mod (.int a) (.int b) = some (.int _)
    simp only [D.mod, if_pos z]
  · rw [if_neg z]; trivial
theorem o_pow : OpT D.pow cI cI cI powR := fun a b => by
  unfold powR
  by_cases z : 0 ≤ b ∧ b ≤ 1000000 ∧ a.natAbs < 2 ^ 64
  · rw [if_pos z]
    show D.pow (.int a) (.int b) = some (.int _)
    simp only [D.pow, if_pos z]
  · rw [if_neg z]; trivial
theorem u_neg : UnT D.neg cI cI fun a => .ok (-a) := fun _ => rfl
/-! ### putting together -/
def catR {α : Type} (a b : List α) : Out (List α) := if a.length + b.length ≤ 16777216 then .ok (a ++ b) else .bad
theorem o_catS : OpT D.add cS cS cS catR := fun a b => by
  unfold catR
  by_cases z : a.length + b.length ≤ 16777216
  · rw [if_pos z]
    show D.add (.str (S a)) (.str (S b)) = some (.str (S (a ++ b)))
    rw [add_S, if_pos (size_le z)]
  · rw [if_neg z]; trivial
theorem o_catU : OpT D.add (cU ca) (cU ca) (cU ca) catR := fun a b => by
  unfold catR
  by_cases z : a.length + b.length ≤ 16777216
  · rw [if_pos z]
    show D.add (.tup (a.map ca)) (.tup (b.map ca)) = some (.tup ((a ++ b).map ca))
    simp only [D.add, List.length_map, if_pos (size_le z), List.map_append]
  · rw [if_neg z]; trivial
/-! ### places -/
def atR {α : Type} (xs : List α) (i : Int) : Out α := Out.of (L2.atI xs i)
theorem atR_ok {xs : List α} {i : Int} {a : α} (h : L2.atI xs i = some a) : atR xs i = .ok a := by unfold atR; rw [h]; rfl
theorem o_ixL : OpT D.ix (cL ca) cI ca atR := fun a i => by
  unfold atR cL cI
  cases h : L2.atI a i with
  | none => trivial
  | some x => show L2.atI (a.map ca) i = _; rw [atI_map, h]; rfl
theorem o_ixU : OpT D.ix (cU ca) cI ca atR := fun a i => by
  unfold atR cU cI
  cases h : L2.atI a i with
  | none => trivial
  | some x => show L2.atI (a.map ca) i = _; rw [atI_map, h]; rfl
theorem o_ixF : OpT D.ix (cF ca) cI ca atR := fun a i => by
  unfold atR cF cI
  cases h : L2.atI a i with
  | none => trivial
  | some x => show L2.atI (a.map ca) i = _; rw [atI_map, h]; rfl
/-- a text's sign, as a text -/
def sgR (l : List Nat) (i : Int) : Out (List Nat) := (atR l i).bind fun c => .ok [c]
theorem o_ixS : OpT D.ix cS cI cS sgR := fun a i => by
  unfold sgR atR cS cI
  cases h : L2.atI a i with
  | none => trivial
  | some x => show D.ix (.str (S a)) (.int i) = _; rw [ix_S, h]; rfl
def ixD (d : D) (i : Int) : Out D := Out.of (D.ix d (.int i))
theorem o_ixD : OpT D.ix cD cI cD ixD := fun a i => by
  unfold ixD cD cI
  cases h : D.ix a (.int i) <;> trivial
def slS (lo hi : Option Int) (l : List Nat) : List Nat := (cutS (S l) lo hi).cps.toList
theorem s_S : SlT cS cS slS := fun lo hi a => by
  unfold cS slS
  rw [sl_S, ← S_of]
theorem s_U : SlT (cU ca) (cU ca) slL := fun lo hi a => by
  show some (D.tup (cutD (a.map ca) lo hi)) = _
  rw [cutD_map]; rfl
/-! ### like -/
/-- things that can be held against each other -/
structure Fai {α : Type} [DecidableEq α] (n : Nat) (c : α → D) : Prop where
  data : ∀ a, (c a).data = true
  deep : ∀ a, (c a).deep ≤ n
  eq : ∀ a b, D.eqb (c a) (c b) = decide (a = b)
theorem Fai.I : Fai 0 cI := ⟨fun _ => rfl, fun _ => Nat.le_refl _, fun a b => by show D.eqb (.int a) (.int b) = _; rw [eqb_int]; rfl⟩
theorem Fai.B : Fai 0 cB := ⟨fun _ => rfl, fun _ => Nat.le_refl _, fun a b => by show D.eqb (.bl a) (.bl b) = _; rw [eqb_bl]; cases a <;> cases b <;> rfl⟩
theorem Fai.S : Fai 0 cS := ⟨fun _ => rfl, fun _ => Nat.le_refl _, fun a b => by show D.eqb (.str (FL.S a)) (.str (FL.S b)) = _; rw [eqb_str, S_beq]; exact Bool.beq_eq_decide_eq a b⟩
theorem Fai.N : Fai 0 cN := ⟨fun _ => rfl, fun _ => Nat.le_refl _, fun a b => by show D.eqb .non .non = _; rw [eqb_non]; simp⟩
theorem eqs_mapD [DecidableEq α] (h : ∀ a b, D.eqb (ca a) (ca b) = decide (a = b)) : ∀ xs ys : List α, PyData.eqvAll (D.pys (xs.map ca)) (D.pys (ys.map ca)) = decide (xs = ys)
  | [], [] => by simp
  | [], y :: ys => by simp
  | x :: xs, [] => by simp
  | x :: xs, y :: ys => by
    rw [List.map_cons, List.map_cons, eqs_cons, h, eqs_mapD h xs ys]
    by_cases e : x = y <;> by_cases e' : xs = ys <;> simp [e, e']
theorem Fai.L [DecidableEq α] {n : Nat} (h : Fai n ca) : Fai (n + 1) (cL ca) :=
  ⟨fun a => datas_map ca h.data a, fun a => by show D.deeps (a.map ca) + 1 ≤ n + 1; exact Nat.succ_le_succ (deeps_map ca n h.deep a), fun a b => by show D.eqb (.lst _) (.lst _) = _; rw [eqb_lst]; exact eqs_mapD h.eq a b⟩
theorem Fai.U [DecidableEq α] {n : Nat} (h : Fai n ca) : Fai (n + 1) (cU ca) :=
  ⟨fun a => datas_map ca h.data a, fun a => by show D.deeps (a.map ca) + 1 ≤ n + 1; exact Nat.succ_le_succ (deeps_map ca n h.deep a), fun a b => by show D.eqb (.tup _) (.tup _) = _; rw [eqb_tup]; exact eqs_mapD h.eq a b⟩
theorem Fai.t1 [DecidableEq α] {n : Nat} (h : Fai n ca) : Fai (n + 1) (c1 ca) :=
  ⟨fun a => by show D.datas [_] = true; simp [h.data], fun a => by
    show D.deeps [_] + 1 ≤ _
    have h1 := h.deep a
    simp only [deeps_cons, deeps_nil]
    omega, fun a b => by
    show D.eqb (.tup [_]) (.tup [_]) = _
    rw [eqb_tup]
    simp only [eqs_cons, eqs_nil, h.eq]
    simp⟩
theorem Fai.t2 [DecidableEq α] [DecidableEq β] {n m : Nat} (h : Fai n ca) (k : Fai m cb) : Fai (max n m + 1) (c2 ca cb) :=
  ⟨fun a => by show D.datas [_, _] = true; simp [h.data, k.data], fun a => by
    show D.deeps [_, _] + 1 ≤ _
    have h1 := h.deep a.1
    have h2 := k.deep a.2
    simp only [deeps_cons, deeps_nil]
    omega, fun a b => by
    show D.eqb (.tup [_, _]) (.tup [_, _]) = _
    rw [eqb_tup]
    simp only [eqs_cons, eqs_nil, h.eq, k.eq]
    obtain ⟨a1, a2⟩ := a
    obtain ⟨b1, b2⟩ := b
    by_cases e : a1 = b1 <;> by_cases e' : a2 = b2 <;> simp [e, e']⟩
variable {cc : γ → D} {cd : δ → D}
theorem Fai.cmp [DecidableEq α] {n : Nat} (h : Fai n ca) (hn : n ≤ 60) (a : α) : D.cmpOk (ca a) = true := by
  have := h.deep a
  unfold D.cmpOk
  rw [h.data]
  simp only [Bool.true_and, decide_eq_true_eq]
  omega
theorem o_eq [DecidableEq α] {n : Nat} (h : Fai n ca) (hn : n ≤ 60 := by decide) : OpT D.eq ca ca cB fun a b => .ok (decide (a = b)) := fun a b => by
  show D.eq (ca a) (ca b) = some (.bl _)
  rw [eq_ap, if_pos ⟨h.cmp hn a, h.cmp hn b⟩, h.eq]
theorem o_ne [DecidableEq α] {n : Nat} (h : Fai n ca) (hn : n ≤ 60 := by decide) : OpT D.ne ca ca cB fun a b => .ok (!decide (a = b)) := fun a b => by
  show D.ne (ca a) (ca b) = some (.bl _)
  rw [ne_ap, if_pos ⟨h.cmp hn a, h.cmp hn b⟩, h.eq]
/-- like, of any things -/
def eqD (a b : D) : Out Bool := if D.cmpOk a = true ∧ D.cmpOk b = true then .ok (D.eqb a b) else .bad
def neD (a b : D) : Out Bool := if D.cmpOk a = true ∧ D.cmpOk b = true then .ok (!D.eqb a b) else .bad
theorem o_neD : OpT D.ne cD cD cB neD := fun a b => by
  unfold neD
  by_cases z : D.cmpOk a = true ∧ D.cmpOk b = true
  · rw [if_pos z]
    show D.ne a b = some (.bl _)
    simp only [D.ne, if_pos z]
  · rw [if_neg z]; trivial
/-! ### order -/
theorem o_lt : OpT D.lt cI cI cB fun a b => .ok (decide (a < b)) := fun _ _ => rfl
theorem o_le : OpT D.le cI cI cB fun a b => .ok (decide (a ≤ b)) := fun _ _ => rfl
theorem o_ge : OpT D.ge cI cI cB fun a b => .ok (decide (b ≤ a)) := fun _ _ => rfl
/-- one of them, of any things -/
def opD (g : D → D → Option D) (a b : D) : Out Bool := match g a b with
  | some (.bl k) => .ok k
  | _ => .bad
theorem o_opD (g : D → D → Option D) : OpT g cD cD cB (opD g) := fun a b => by
  unfold opD cD
  cases h : g a b with
  | none => trivial
  | some d => cases d <;> trivial
/-! ### is it within -/
def inS (a z : List Nat) : Bool := sIn (S a) (S z)
theorem o_inS : OpT D.isin cS cS cB fun a b => .ok (inS a b) := fun _ _ => rfl
theorem inS_1 (c : Nat) (z : List Nat) : inS [c] z = decide (c ∈ z) := sIn_S1 c z
theorem any_eqb [DecidableEq α] (h : ∀ a b, D.eqb (ca a) (ca b) = decide (a = b)) (x : α) : ∀ xs : List α, ((xs.map ca).any fun z => D.eqb z (ca x)) = decide (x ∈ xs)
  | [] => by simp
  | y :: ys => by
    rw [List.map_cons, List.any_cons, h, any_eqb h x ys]
    by_cases e : y = x
    · simp [e]
    · by_cases e' : x ∈ ys
      · simp [e']
      · have : ¬x = y := fun z => e z.symm
        simp [e, e', this]
/-- is it among them -/
def memB {α : Type} [DecidableEq α] (a : α) (b : List α) : Bool := decide (a ∈ b)
@[simp] theorem memB_iff {α : Type} [DecidableEq α] (a : α) (b : List α) : memB a b = true ↔ a ∈ b := by simp [memB]
theorem flS (a : List Nat) : (cS a).flat = true := rfl
/-! ### None -/
/-! ### built-ins -/
theorem b_lenU : ∀ a : List α, RO (D.len [cU ca a]) (Out.ok (a.length : Int)) cI := fun a => by show D.len [.tup _] = _; simp [cI]
theorem b_lenF : ∀ a : List α, RO (D.len [cF ca a]) (Out.ok (a.length : Int)) cI := fun a => by show D.len [.fz _] = _; simp [cI]
theorem b_lenS : ∀ a : List Nat, RO (D.len [cS a]) (Out.ok (a.length : Int)) cI := fun a => by show D.len [.str (S a)] = _; simp [cI]
def lenD (d : D) : Out Int := match D.len [d] with
  | some (.int i) => .ok i
  | _ => .bad
theorem b_lenD : ∀ a : D, RO (D.len [cD a]) (lenD a) cI := fun a => by
  unfold lenD cD
  cases h : D.len [a] with
  | none => trivial
  | some d => cases d <;> trivial
theorem b_int : ∀ a : Int, RO (D.toInt [cI a]) (Out.ok a) cI := fun a => rfl
theorem b_tupL : ∀ a : List α, RO (D.toTup [cL ca a]) (Out.ok a) (cU ca) := fun a => rfl
theorem b_lstU : ∀ a : List α, ROL (D.toLstS [cU ca a]) ((Out.ok a)) ca := fun a => rfl
theorem b_all : ∀ a : List Bool, RO (D.all [cL cB a]) (Out.ok (a.all id)) cB := fun a => all_bls a
/-- isinstance -/
def isD (n : String) (d : D) : Out Bool := match D.isinst [d, .ty n] with
  | some (.bl b) => .ok b
  | _ => .bad
variable {m : Bool} {Ps : List Sl} {fa : Env' → Res (RV × Env')}
theorem X_isinst {n : String} {e : Out D} (ha : X m Ps fa e cD) : X true Ps (eB D.isinst (aCons fa (aCons (eC (.ty n)) aNil))) (e.bind (isD n)) cB := by
  have := X_B2 (g := D.isinst) (ca := cD) (cb := fun _ : Unit => D.ty n) (cr := cB) (f := fun a _ => isD n a) (fun a b => by
    unfold isD cD
    cases h : D.isinst [a, .ty n] with
    | none => trivial
    | some d => cases d <;> trivial) ha (X_c (fun _ : Unit => D.ty n) () rfl : X true Ps (eC (.ty n)) (.ok ()) _)
  simpa using this
/-- a list's place of a thing -/
def idxR {α : Type} [DecidableEq α] (xs : List α) (a : α) : Out Int := match xs.findIdx? (fun z => decide (z = a)) with
  | some j => .ok (j : Int)
  | none => .bad
def sidxR (z a : List Nat) : Out Int := match D.sindex (cS z) [cS a] with
  | some (.int i) => .ok i
  | _ => .bad
theorem m_sindex : ∀ (z : List Nat) (p : List Nat × Unit), RO (D.sindex (cS z) [cS p.1]) (sidxR z p.1) cI := fun z p => by
  unfold sidxR
  cases h : D.sindex (cS z) [cS p.1] with
  | none => trivial
  | some d => cases d <;> trivial
/-! in place -/
theorem i_add : OpT D.iadd cI cI cI fun a b => .ok (a + b) := fun _ _ => rfl
end
end
end TL
namespace TL
open PySem PySem.Spec PyProof.Rows L2 FL
noncomputable section
section
variable {α β γ δ σ ι : Type}
variable {m m' m'' : Bool} {Ps Qs : List Sl} {fa fb fc : Env' → Res (RV × Env')} {ca : α → D} {cb : β → D} {cc : γ → D} {cr : δ → D} {ci : ι → D} {ea : Out α} {eb : Out β} {ec : Out γ}
variable {R R' : γ → Fl → Prop} {E E' : Env' → Prop} {p : Out γ} {f g : Env' → Res Fl}
theorem X_cl {mf : List D → Out D} {fs : Env' → Res (List RV × Env')} {dn : α → List D} {p : α → Out δ} (ha : AE Ps fs ea dn) (hm : ∀ a, Sim (mf (dn a)) (p a) cr) : X true Ps (eCall mf fs) (ea.bind p) cr := X_call hm ha
theorem X_mt {T : String} {g : D → List D → Option D} {fs : Env' → Res (List RV × Env')} {dn : β → List D} {f : α → β → Out δ} (ha : X m Ps fa ea ca) (hb : AL Ps fs eb dn) (ht : ∀ a, D.isTy T (ca a) = true) (ho : ∀ a b, RO (g (ca a) (dn b)) (f a b) cr) : X true Ps (eM T g fa fs) (ea.bind fun a => eb.bind fun b => f a b) cr := X_m ht ho ha hb
def NKJ (n : Nat) (Ps : List Sl) (f : Env' → Res (List T × Env')) (e : Out (List α)) (t : α → T) : Prop := ∀ ρ, ER Ps ρ → Sm (f ρ) e (fun a b => b.1 = a.map t ∧ a.length = n ∧ ER Ps b.2) (ER Ps)
theorem NK_nil {t : α → T} : NKJ 0 Ps atNil (.ok []) t := fun ρ h => Sm.okI ⟨rfl, rfl, h⟩
theorem NK_cons {n : Nat} {na : Env' → Res (T × Env')} {nr : Env' → Res (List T × Env')} {er : Out (List α)} {t : α → T} (ha : NJ Ps na ea t) (hr : NKJ n Ps nr er t) : NKJ (n + 1) Ps (atCons na nr) (ea.bind fun a => er.bind fun r => .ok (a :: r)) t := fun ρ h =>
  Sm.bind (ha ρ h) (fun a ⟨t', ρ1⟩ ⟨h1, q1⟩ => Sm.bind (hr ρ1 q1) (fun b ⟨ts, ρ2⟩ ⟨h2, h3, q2⟩ => by
    have h1 : t' = _ := h1
    have h2 : ts = _ := h2
    subst h1; subst h2
    exact Sm.okI ⟨rfl, by simp [h3], q2⟩) fun _ h => h) fun _ h => h
theorem N_lstn {n : Nat} {ns : Env' → Res (List T × Env')} {e : Out (List α)} (h : NKJ n Ps ns e (oS ca)) (h16 : n ≤ 16777216) : NJ Ps (nLst ns) e (oL ca) := fun ρ h0 => by
  have : Sm ((ns ρ).bind fun (ts, ρ1) => if ts.length ≤ sizeLine then .ok (T.lst ts, ρ1) else .bad) (e.bind .ok) (fun a b => b.1 = oL ca a ∧ ER Ps b.2) (ER Ps) :=
    Sm.bind (h ρ h0) (fun xs ⟨ts, ρ1⟩ ⟨h1, h2, h3⟩ => by
      have h1 : ts = _ := h1
      subst h1
      show Sm (if (xs.map (oS ca)).length ≤ sizeLine then .ok (T.lst (xs.map (oS ca)), ρ1) else .bad) _ _ _
      rw [if_pos (size_le (by rw [List.length_map, h2]; exact h16))]
      exact Sm.okI ⟨rfl, h3⟩) fun _ h => h
  cases e <;> exact this
theorem J_ret0 {na : Env' → Res (T × Env')} {e : Out γ} {t : γ → T} (hE : ∀ ρ, ER Ps ρ → E ρ) (h : NJ Ps na e t) (hR : ∀ a ρ', R a (.rt (t a) ρ')) : J Ps (sRet na) e R E := by
  have := J_ret (k := fun a => a) hE h hR
  refine J_eq this ?_
  cases e <;> rfl
theorem w_S (a : List Nat) : D.walk (cS a) = some ((sgs a).map cS) := by simp [cS, sgs, Function.comp_def]
theorem X_slT {lo hi : Option Int} {fl fh : Env' → Res (Option Int × Env')} {π : α → δ} (ha : X m Ps fa ea ca) (hl : PJ Ps fl (.ok lo)) (hh : PJ Ps fh (.ok hi)) (hc : ∀ p, D.sl lo hi (ca p) = some (cr (π p))) : X true Ps (eSl fa fl fh) (ea.bind fun p => .ok (π p)) cr := fun ρ h =>
  Sm.bind (ha ρ h) (fun a ⟨r, ρ1⟩ ⟨h1, q1⟩ => by
    obtain ⟨⟨l', ρ2⟩, e1, e2, e3⟩ := hl ρ1 h1
    obtain ⟨⟨i', ρ3⟩, e4, e5, e6⟩ := hh ρ2 e3
    have e2 : l' = lo := e2
    have e5 : i' = hi := e5
    have e6 : ER Ps ρ3 := e6
    subst e2; subst e5
    show Sm ((fl ρ1).bind fun (lo, ρ2) => (fh ρ2).bind fun (hi, ρ3) => (Res.of ((look ρ3 r).bind (D.sl lo hi))).bind fun d => .ok (RV.leaf d, ρ3)) _ _ _
    rw [e1]
    show Sm ((fh ρ2).bind fun (hi, ρ3) => (Res.of ((look ρ3 r).bind (D.sl l' hi))).bind fun d => .ok (RV.leaf d, ρ3)) _ _ _
    rw [e4]
    show Sm ((Res.of ((look ρ3 r).bind (D.sl l' i'))).bind fun d => .ok (RV.leaf d, ρ3)) _ _ _
    rw [q1.1 _ e6]
    simp only [Option.bind_some, hc a, of_some, bind_ok]
    exact Sm.okI ⟨e6, .leaf⟩) fun _ h => h
theorem J_augIx {i : Nat} {g : D → D → Option D} {f : α → β → Out α} {xs : List α} {ek : Out Int} (hE : ∀ ρ, ER Ps ρ → E ρ) (hi : Ps[i]? = some (.own (oL ca xs))) (ho : OpT g ca cb ca f) (hk : X m Ps fc ek cI) (hb : X m' Ps fb eb cb) :
    J Ps (sAugIx i g fc fb) (ek.bind fun k => (atR xs k).bind fun o => eb.bind fun y => (f o y).bind fun w => setR xs k w) (Rn fun r => Ps.set i (.own (oL ca r))) E := fun ρ h0 => by
  obtain ⟨o, h1, h2⟩ := h0.get hi
  cases h2
  unfold sAugIx
  rw [h1]
  refine Sm.bind (hk ρ h0) (fun k ⟨r, ρ1⟩ ⟨h3, q3⟩ => ?_) hE
  have h3 : ER Ps ρ1 := h3
  obtain ⟨o, h4, h5⟩ := h3.get hi
  cases h5
  have e0 : ∀ j, ixN xs.length k = some j → j < xs.length := fun j e => by
    unfold ixN at e
    split at e
    · split at e
      · cases e; omega
      · cases e
    · split at e
      · cases e; omega
      · cases e
  unfold atR
  cases e : ixN xs.length k with
  | none =>
    have : L2.atI xs k = none := by unfold L2.atI; rw [e]; rfl
    rw [this]; trivial
  | some j =>
    have hj := e0 j e
    have : L2.atI xs k = some xs[j] := by unfold L2.atI; rw [e]; exact List.getElem?_eq_getElem hj
    rw [this]
    have hx : (xs.map fun a => T.sh (ca a))[j]? = some (.sh (ca xs[j])) := by rw [List.getElem?_map, List.getElem?_eq_getElem hj]; rfl
    have hxe : ∀ (ts : List T), (ixN (xs.map fun a => T.sh (ca a)).length k) = some j := fun _ => by rw [List.length_map]; exact e
    have e1 : (ixN (xs.map fun a => T.sh (ca a)).length k).bind (fun j => (xs.map fun a => T.sh (ca a))[j]?) = some (.sh (ca xs[j])) := by rw [hxe []]; exact hx
    dsimp only
    rw [q3.1 _ h3, h4]
    show Sm (match (ixN (xs.map fun a => T.sh (ca a)).length k).bind (fun j => (xs.map fun a => T.sh (ca a))[j]?) with
      | some (.sh d1) => (fb ρ1).bind fun (r2, ρ2) => (Res.of (look ρ2 r2)).bind fun d2 => (Res.of (g d1 d2)).bind fun d => match ρ2[i]? with
        | some (some (.lst ts2)) => match ixN ts2.length k with
          | some j => match ts2[j]? with
            | some (.sh _) => .ok (Fl.nx (ρ2.set i (some (.lst (ts2.set j (.sh d))))))
            | _ => .bad
          | none => .bad
        | _ => .bad
      | _ => .bad) _ _ _
    rw [e1]
    rw [Out.of_some, Out.ok_bind]
    refine Sm.bind (hb ρ1 h3) (fun y ⟨r2, ρ2⟩ ⟨h6, q6⟩ => ?_) hE
    have h6 : ER Ps ρ2 := h6
    obtain ⟨o, h7, h8⟩ := h6.get hi
    cases h8
    have oo := ho xs[j] y
    simp only [RO] at oo
    show Sm ((Res.of (look ρ2 r2)).bind fun d2 => (Res.of (g (ca xs[j]) d2)).bind fun d => match ρ2[i]? with
        | some (some (.lst ts2)) => match ixN ts2.length k with
          | some j => match ts2[j]? with
            | some (.sh _) => .ok (Fl.nx (ρ2.set i (some (.lst (ts2.set j (.sh d))))))
            | _ => .bad
          | none => .bad
        | _ => .bad) _ _ _
    rw [q6.1 _ h6]
    cases e2 : f xs[j] y with
    | ok w =>
      rw [e2] at oo
      simp only [of_some, bind_ok, oo, h7, Out.ok_bind, oL, hxe [], hx]
      unfold setR
      rw [e]
      refine Sm.okI ⟨_, rfl, h6.set i ?_⟩
      show _ = some (oL ca (xs.set j w))
      simp [oL, List.map_set]
    | exc c => rw [e2] at oo; exact oo.elim
    | bad => trivial
/-! a thing taken as one of a kind -/
def DnP (o : Out α) (P : α → Prop) : Prop := match o with
  | .ok a => P a
  | .exc _ => False
  | .bad => True
theorem DnP.bind {o : Out α} {k : α → Out β} {P : α → Prop} {Q : β → Prop} (h : DnP o P) (hk : ∀ a, P a → DnP (k a) Q) : DnP (o.bind k) Q := by
  cases o with
  | ok a => exact hk a h
  | exc c => exact h
  | bad => trivial
def DnT (c : α → D) (f : D → Out α) : Prop := ∀ d, DnP (f d) fun a => d = c a
theorem X_dn {e : Out D} {f : D → Out α} (h : DnT ca f) (ha : X m Ps fa e cD) : X m Ps fa (e.bind f) ca := fun ρ h0 => by
  have q := ha ρ h0
  cases e with
  | ok d =>
    have o := h d
    show Sm (fa ρ) (f d) _ _
    cases z : f d with
    | ok a =>
      rw [z] at o
      obtain ⟨b, e1, e2, e3⟩ := q
      exact ⟨b, e1, e2, (show d = ca a from o) ▸ e3⟩
    | exc c => rw [z] at o; exact o.elim
    | bad => trivial
  | exc c => exact q
  | bad => trivial
def asI : D → Out Int
  | .int i => .ok i
  | _ => .bad
def asB : D → Out Bool
  | .bl i => .ok i
  | _ => .bad
def asS : D → Out (List Nat)
  | .str x => .ok x.cps.toList
  | _ => .bad
def asM {α : Type} (f : D → Out α) : List D → Out (List α)
  | [] => .ok []
  | d :: ds => (f d).bind fun a => (asM f ds).bind fun r => .ok (a :: r)
def asL {α : Type} (f : D → Out α) : D → Out (List α)
  | .lst ds => asM f ds
  | _ => .bad
def asU {α : Type} (f : D → Out α) : D → Out (List α)
  | .tup ds => asM f ds
  | _ => .bad
theorem dn_I : DnT cI asI := fun d => by cases d <;> trivial
theorem dn_S : DnT cS asS := fun d => by cases d <;> trivial
theorem dn_M {f : D → Out α} (h : DnT ca f) : ∀ ds : List D, DnP (asM f ds) fun xs => ds = xs.map ca
  | [] => rfl
  | d :: ds => (h d).bind fun a e => (dn_M h ds).bind fun r e' => by subst e; subst e'; rfl
theorem dn_U {f : D → Out α} (h : DnT ca f) : DnT (cU ca) (asU f) := fun d => by
  cases d <;> try trivial
  rename_i ds
  have := dn_M h ds
  show DnP (asM f ds) _
  cases e : asM f ds with
  | ok xs => rw [e] at this; exact congrArg D.tup this
  | exc c => rw [e] at this; exact this
  | bad => trivial
def asD (d : D) : Out D := .ok d
def slD (lo hi : Option Int) (d : D) : Out D := Out.of (D.sl lo hi d)
theorem X_slD {fl fh : Env' → Res (Option Int × Env')} {el eh : Out (Option Int)} {ea : Out D} (ha : X m Ps fa ea cD) (hl : PJ Ps fl el) (hh : PJ Ps fh eh) :
    X true Ps (eSl fa fl fh) (ea.bind fun a => el.bind fun lo => eh.bind fun hi => slD lo hi a) cD := fun ρ h =>
  Sm.bind (ha ρ h) (fun a ⟨r, ρ1⟩ ⟨h1, q1⟩ => Sm.bind (hl ρ1 h1) (fun lo ⟨lo', ρ2⟩ ⟨h2, q2⟩ => Sm.bind (hh ρ2 q2) (fun hi ⟨hi', ρ3⟩ ⟨h3, q3⟩ => by
    have h2 : lo' = lo := h2
    have h3 : hi' = hi := h3
    have q3 : ER Ps ρ3 := q3
    subst h2; subst h3
    show Sm ((Res.of ((look ρ3 r).bind (D.sl lo' hi'))).bind fun d => .ok (RV.leaf d, ρ3)) _ _ _
    rw [q1.1 _ q3]
    unfold slD cD
    simp only [Option.bind_some]
    cases D.sl lo' hi' a with
    | none => trivial
    | some d => exact Sm.okI ⟨q3, .leaf⟩) fun _ h => h) fun _ h => h) fun _ h => h
@[simp] theorem asI_c (i : Int) : asI (cI i) = .ok i := rfl
@[simp] theorem asB_c (i : Bool) : asB (cB i) = .ok i := rfl
@[simp] theorem asS_c (l : List Nat) : asS (cS l) = .ok l := rfl
theorem asM_map {f : D → Out α} (h : ∀ a, f (ca a) = .ok a) : ∀ xs : List α, asM f (xs.map ca) = .ok xs
  | [] => rfl
  | a :: xs => by rw [List.map_cons, asM, h, Out.ok_bind, asM_map h xs]; rfl
@[simp] theorem asL_S (xs : List (List Nat)) : asL asS (cL cS xs) = .ok xs := asM_map asS_c xs
@[simp] theorem asU_S (xs : List (List Nat)) : asU asS (cU cS xs) = .ok xs := asM_map asS_c xs
@[simp] theorem asL_I (xs : List Int) : asL asI (cL cI xs) = .ok xs := asM_map asI_c xs
@[simp] theorem asU_I (xs : List Int) : asU asI (cU cI xs) = .ok xs := asM_map asI_c xs
theorem J_guardp {ta : Env' → Res (Bool × Env')} {b : Bool} {pA pB : Out γ} (hE : ∀ ρ, ER Ps ρ → E ρ) (ht : TJ Ps ta (.ok b)) (ha : J Ps f pA (Rx R) E) (hb : J Ps g pB R E) : J Ps (sSeq (sIf ta f sNil) g) (if b = true then pA else pB) R E := J_guard hE ht ha hb
theorem J_ifp {ta : Env' → Res (Bool × Env')} {b : Bool} {pA pB : Out γ} (hE : ∀ ρ, ER Ps ρ → E ρ) (ht : TJ Ps ta (.ok b)) (ha : J Ps f pA R E) (hb : J Ps g pB R E) : J Ps (sIf ta f g) (if b = true then pA else pB) R E := J_if hE ht ha hb
def max2 (a b : Int) : Int := if b > a then b else a
def min2 (a b : Int) : Int := if b < a then b else a
theorem b_max2 : ∀ a b : Int, RO (D.max [cI a, cI b]) (Out.ok (max2 a b)) cI := fun a b => rfl
theorem b_min2 : ∀ a b : Int, RO (D.min [cI a, cI b]) (Out.ok (min2 a b)) cI := fun a b => rfl
end
end
end TL
namespace TL
open PySem PySem.Spec PyProof.Rows L2 FL
noncomputable section
variable {α β γ δ σ ι : Type}
variable {m m' m'' : Bool} {Ps Qs : List Sl} {fa fb fc : Env' → Res (RV × Env')} {ca : α → D} {cb : β → D} {cc : γ → D} {cr : δ → D} {ci : ι → D} {ea : Out α} {eb : Out β} {ec : Out γ}
/-! ### tuples that the top has written -/
def cV {α : Type} (c : α → D) (xs : List α) : D := .ftup (xs.map c)
theorem isin_ftup (d : D) (ds : List D) : D.isin d (.ftup ds) = if d.flat = true ∧ ds.all D.flat = true then some (.bl (ds.any fun z => D.eqb z d)) else none := rfl
theorem o_inV [DecidableEq α] (h : Fai 0 ca) (hf : ∀ a, (ca a).flat = true) : OpT D.isin ca (cV ca) cB fun a b => .ok (memB a b) := fun a b => by
  show D.isin (ca a) (.ftup (b.map ca)) = some (.bl _)
  rw [isin_ftup, if_pos ⟨hf a, by simp [hf]⟩, any_eqb h.eq, memB]
/-! turned about -/
/-! a list or a tuple unpacked -/
def unp4 {α : Type} : List α → Out (α × α × α × α)
  | [a, b, c, d] => .ok (a, b, c, d)
  | _ => .bad
theorem opD_inV (a : List Nat) (ms : List (List Nat)) : opD D.isin (cS a) (cV cS ms) = .ok (decide (a ∈ ms)) := by
  have := o_inV Fai.S flS a ms
  simp only [RO] at this
  unfold opD
  rw [this]
  simp only [cB, memB]
  exact congrArg Out.ok (decide_eq_decide.mpr Iff.rfl)
end
end TL
namespace TL
open PySem PySem.Spec PyProof.Rows L2 FL
noncomputable section
/-! ### expressions that change one list on their way -/
def M.rt {S α : Type} (a : α) : S → Out (α × S) := fun s => .ok (a, s)
def M.nx {S α : Type} (m : S → Out (α × S)) : S → Out (α × S) := fun s => (m s).nx
section
variable {S α β γ δ ι : Type}
structure Dk (i : Nat) (o : S → T) (Ps : S → List Sl) : Prop where
  sw : ∀ s s', Ps s' = (Ps s).set i (.own (o s'))
  pt : ∀ s, (Ps s)[i]? = some (.own (o s))
  ns : ∀ s d, o s ≠ .sh d
def EM (Ps : S → List Sl) : Env' → Prop := fun ρ => ∃ s, ER (Ps s) ρ
def RRM (Ps : S → List Sl) (r : RV) (d : D) : Prop := (∀ s ρ, ER (Ps s) ρ → look ρ r = some d) ∧ (∀ s ρ, ER (Ps s) ρ → ∃ ρ', esc ρ r = some (d, ρ') ∧ ER (Ps s) ρ')
theorem RRM.leaf {Ps : S → List Sl} {d : D} : RRM Ps (.leaf d) d := ⟨fun _ _ _ => rfl, fun _ ρ h => ⟨ρ, rfl, h⟩⟩
variable {Ps : S → List Sl} {fa fb fc : Env' → Res (RV × Env')} {ca : α → D} {cb : β → D} {cc : γ → D} {cr : δ → D} {ci : ι → D} {ea : S → Out (α × S)} {eb : S → Out (β × S)} {i : Nat} {o : S → T}
theorem RR.m (D : Dk i o Ps) {s : S} {ρ : Env'} {r : RV} {d : FL.D} (h : ER (Ps s) ρ) (q : RR true (Ps s) r d) : RRM Ps r d := by
  cases r with
  | leaf d' =>
    have := q.1 ρ h
    cases this
    exact .leaf
  | slot j =>
    have esc_eq : ∀ (ρ : Env') (t : T), ρ[j]? = some (some t) → esc ρ (.slot j) = some (t.d, ρ.set j (some (.sh t.d))) := fun ρ t e => by simp only [esc, e]
    have look_eq : ∀ (ρ : Env') (t : T), ρ[j]? = some (some t) → look ρ (.slot j) = t.top := fun ρ t e => by simp only [look, e]
    have ex : ∀ ρ, look ρ (.slot j) = some d → ∃ t, ρ[j]? = some (some t) ∧ t.top = some d := fun ρ z => by
      simp only [look] at z
      split at z
      · rename_i t e; exact ⟨t, e, z⟩
      · cases z
    have ji : j ≠ i := fun e => by
      subst e
      obtain ⟨ρ', z1, z2⟩ := q.2 rfl ρ h
      obtain ⟨t, e1, e2⟩ := ex ρ (q.1 ρ h)
      rw [esc_eq _ _ e1] at z1
      cases z1
      obtain ⟨w, e3, e4⟩ := z2.get (D.pt s)
      have hlt : j < ρ.length := (List.getElem?_eq_some_iff.mp e1).1
      rw [List.getElem?_set_self hlt] at e3
      cases e3
      exact D.ns s _ (Option.some.inj e4).symm
    have mv : ∀ s' ρ', ER (Ps s') ρ' → ER (Ps s) (ρ'.set i (some (o s))) := fun s' ρ' h' => by
      rw [D.sw s' s]; exact h'.set i rfl
    have gt : ∀ s' ρ', ER (Ps s') ρ' → ∃ t, ρ'[j]? = some (some t) ∧ t.top = some d := fun s' ρ' h' => by
      obtain ⟨t, e1, e2⟩ := ex _ (q.1 _ (mv s' ρ' h'))
      rw [List.getElem?_set_ne (Ne.symm ji)] at e1
      exact ⟨t, e1, e2⟩
    refine ⟨fun s' ρ' h' => ?_, fun s' ρ' h' => ?_⟩
    · obtain ⟨t, e1, e2⟩ := gt s' ρ' h'
      rw [look_eq _ _ e1]; exact e2
    · obtain ⟨t, e1, e2⟩ := gt s' ρ' h'
      have td := top_d e2
      refine ⟨ρ'.set j (some (.sh t.d)), by rw [esc_eq _ _ e1, td], ?_⟩
      obtain ⟨ρ2, z1, z2⟩ := q.2 rfl _ (mv s' ρ' h')
      have e1' : (ρ'.set i (some (o s)))[j]? = some (some t) := by rw [List.getElem?_set_ne (Ne.symm ji)]; exact e1
      rw [esc_eq _ _ e1'] at z1
      cases z1
      have z3 := z2.set i (p := .own (o s')) (o := some (o s')) rfl
      rw [← D.sw s s'] at z3
      rw [List.set_comm _ _ (Ne.symm ji), List.set_set] at z3
      obtain ⟨w, e3, e4⟩ := h'.get (D.pt s')
      have e4 : w = some (o s') := e4
      subst e4
      have : (ρ'.set j (some (T.sh t.d))).set i (some (o s')) = ρ'.set j (some (.sh t.d)) := FL.set_self (by rw [List.getElem?_set_ne ji]; exact e3)
      rw [this] at z3
      exact z3
/-! tests -/
variable {ta tb : Env' → Res (Bool × Env')} {e1 e2 : S → Out (Bool × S)}
/-! what is walked -/
/-! comprehensions -/
end
end
end TL
namespace TL
open PySem PySem.Spec PyProof.Rows L2 FL
noncomputable section
/-! ### the deck: cells and four numbers -/
section
variable {S α β γ δ ι σ : Type}
variable {m m' : Bool} {Qs : List Sl} {Ps : S → List Sl} {fa fb fc : Env' → Res (RV × Env')} {ca : α → D} {cb : β → D} {cc : γ → D} {cr : δ → D} {ci : ι → D} {ea : S → Out (α × S)} {eb : S → Out (β × S)} {i : Nat} {o : S → T} {s : S}
variable {R R' : γ → Fl → Prop} {E E' : Env' → Prop} {p : Out γ} {f g : Env' → Res Fl}
theorem EM.le (hE : ∀ s ρ, ER (Ps s) ρ → E ρ) : ∀ ρ, EM Ps ρ → E ρ := fun ρ ⟨s, h⟩ => hE s ρ h
/-! lists of unlike things -/
def HL (Qs : List Sl) (f : Env' → Res (List T × Env')) (e : Out α) (t : α → List T) : Prop := ∀ ρ, ER Qs ρ → Sm (f ρ) e (fun a b => b.1 = t a ∧ ER Qs b.2) (ER Qs)
theorem HL_nil : HL Qs atNil (.ok ()) fun _ => [] := fun ρ h => Sm.okI ⟨rfl, h⟩
theorem HL_cons {na : Env' → Res (T × Env')} {nr : Env' → Res (List T × Env')} {ea : Out α} {er : Out β} {t : α → T} {u : β → List T} (ha : NJ Qs na ea t) (hr : HL Qs nr er u) : HL Qs (atCons na nr) (ea.bind fun a => er.bind fun b => .ok (a, b)) fun p => t p.1 :: u p.2 := fun ρ h =>
  Sm.bind (ha ρ h) (fun a ⟨t', ρ1⟩ ⟨h1, q1⟩ => Sm.bind (hr ρ1 q1) (fun b ⟨ts, ρ2⟩ ⟨h2, q2⟩ => by
    have h1 : t' = _ := h1
    have h2 : ts = _ := h2
    subst h1; subst h2
    exact Sm.okI ⟨rfl, q2⟩) fun _ h => h) fun _ h => h
/-- a, b, .. = x, y, .. -/
def setSl : List Sl → List Nat → List Sl → List Sl
  | Ps, i :: is, p :: ps => setSl (Ps.set i p) is ps
  | Ps, _, _ => Ps
theorem ER.setL : ∀ (is : List Nat) {Qs ps : List Sl} {ts : List T} {ρ : Env'}, ER Qs ρ → ps.length = ts.length → (∀ (k : Nat) (p : Sl) (t : T), ps[k]? = some p → ts[k]? = some t → p.ok (some t)) → ER (setSl Qs is ps) (setTs ρ is ts)
  | [], _, _, _, _, h, _, _ => by unfold setSl setTs; exact h
  | i :: is, _, [], [], _, h, _, _ => by unfold setSl setTs; exact h
  | i :: is, _, [], _ :: _, _, _, hl, _ => by cases hl
  | i :: is, _, _ :: _, [], _, _, hl, _ => by cases hl
  | i :: is, _, p :: ps, t :: ts, _, h, hl, hk => by
    unfold setSl setTs
    exact ER.setL is (h.set i (hk 0 p t rfl rfl)) (by simpa using hl) fun k p t h1 h2 => hk (k + 1) p t (by simpa using h1) (by simpa using h2)
inductive PkL : List Sl → List T → Prop
  | nil : PkL [] []
  | cons {p : Sl} {t : T} {ps : List Sl} {ts : List T} (h : p.ok (some t)) (r : PkL ps ts) : PkL (p :: ps) (t :: ts)
theorem PkL.len {ps : List Sl} {ts : List T} (h : PkL ps ts) : ps.length = ts.length := by
  induction h with
  | nil => rfl
  | cons _ _ ih => simp [ih]
theorem PkL.at {ps : List Sl} {ts : List T} (h : PkL ps ts) : ∀ (k : Nat) (p : Sl) (t : T), ps[k]? = some p → ts[k]? = some t → p.ok (some t) := by
  induction h with
  | nil => intro k p t h1; cases h1
  | cons h r ih =>
    intro k p t h1 h2
    cases k with
    | zero => cases h1; cases h2; exact h
    | succ k => exact ih k p t (by simpa using h1) (by simpa using h2)
theorem pk_v {c : α → D} {a : α} : Sl.ok (.vw (c a)) (some (oS c a)) := ⟨_, rfl, rfl⟩
theorem pk_o {t : T} : Sl.ok (.own t) (some t) := rfl
theorem J_parT {is : List Nat} {ns : Env' → Res (List T × Env')} {e : Out α} {u : α → List T} (w : α → List Sl) (hE : ∀ ρ, ER Qs ρ → E ρ) (h : HL Qs ns e u) (hw : ∀ a, PkL (w a) (u a)) (hl : ∀ a, (u a).length = is.length) (hi : ∀ i ∈ is, i < Qs.length) :
    J Qs (sParT is ns) e (Rn fun a => setSl Qs is (w a)) E := fun ρ h0 => by
  have : Sm ((ns ρ).bind fun (ts, ρ1) => if ts.length = is.length ∧ ∀ i ∈ is, i < ρ1.length then .ok (Fl.nx (setTs ρ1 is ts)) else .bad) (e.bind .ok) (Rn fun a => setSl Qs is (w a)) E :=
    Sm.bind (h ρ h0) (fun a ⟨ts, ρ1⟩ ⟨h1, h2⟩ => by
      have h1 : ts = _ := h1
      have h2 : ER Qs ρ1 := h2
      subst h1
      show Sm (if (u a).length = is.length ∧ ∀ i ∈ is, i < ρ1.length then .ok (Fl.nx (setTs ρ1 is (u a))) else .bad) _ _ _
      rw [if_pos ⟨hl a, fun i hm => by rw [h2.len]; exact hi i hm⟩]
      exact Sm.okI ⟨_, rfl, ER.setL is h2 (hw a).len (hw a).at⟩) hE
  cases e <;> exact this
/-! statements with such expressions -/
/-! a list or a tuple, unpacked -/
theorem gT_seq {gs : List D → Env' → Option Env'} {ds : List D} {n : Nat} {d : D} (hd : d = .lst ds ∨ d = .tup ds ∨ d = .ftup ds ∨ d = .fz ds) (hn : ds.length = n) (ρ : Env') : gT gs n d ρ = gs ds ρ := by
  rcases hd with rfl | rfl | rfl | rfl <;> exact if_pos hn
theorem J_unpG {gs : List D → Env' → Option Env'} {fa : Env' → Res (RV × Env')} {ea : Out (List α)} {cx : List α → D} {n : Nat} {Ws : β → List Sl} {π : List α → Out β} {dn : β → List D} (hE : ∀ ρ, ER Qs ρ → E ρ) (h : X true Qs fa ea cx)
    (hc : ∀ xs : List α, cx xs = .lst (xs.map ca) ∨ cx xs = .tup (xs.map ca) ∨ cx xs = .ftup (xs.map ca) ∨ cx xs = .fz (xs.map ca)) (hπ : ∀ xs, (∃ p, π xs = .ok p ∧ xs.map ca = dn p ∧ (dn p).length = n) ∨ π xs = .bad) (hg : ∀ p, GsJ Qs gs (dn p) (Ws p)) : J Qs (sUnpack fa (gT gs n)) (ea.bind π) (Rn Ws) E := fun ρ h0 =>
  Sm.bind (h ρ h0) (fun a ⟨r, ρ1⟩ ⟨h1, q1⟩ => by
    obtain ⟨ρ', e1, e2⟩ := q1.2 rfl ρ1 h1
    show Sm ((Res.of (esc ρ1 r)).bind fun (d, ρ2) => (Res.of (gT gs n d ρ2)).bind fun ρ3 => .ok (Fl.nx ρ3)) _ _ _
    rw [e1]
    show Sm ((Res.of (gT gs n (cx a) ρ')).bind fun ρ3 => .ok (Fl.nx ρ3)) _ _ _
    rcases hπ a with ⟨p, z1, z2, z3⟩ | z
    · rw [z1, gT_seq (hc a) (by rw [z2]; exact z3), z2]
      obtain ⟨ρ'', e3, e4⟩ := hg p ρ' e2
      rw [e3]
      exact Sm.okI ⟨_, rfl, e4⟩
    · rw [z]; trivial) hE
theorem unp4_pi (c : α → D) (xs : List α) : (∃ p, unp4 xs = .ok p ∧ xs.map c = [c p.1, c p.2.1, c p.2.2.1, c p.2.2.2] ∧ [c p.1, c p.2.1, c p.2.2.1, c p.2.2.2].length = 4) ∨ unp4 xs = .bad := by
  unfold unp4
  split
  · exact .inl ⟨_, rfl, rfl, rfl⟩
  · exact .inr rfl
theorem sqU (c : α → D) : ∀ xs : List α, cU c xs = .lst (xs.map c) ∨ cU c xs = .tup (xs.map c) ∨ cU c xs = .ftup (xs.map c) ∨ cU c xs = .fz (xs.map c) := fun _ => .inr (.inl rfl)
/-! a def that changes the deck -/
end
end
end TL
namespace TL
open PySem PySem.Spec PyProof.Rows L2 FL
noncomputable section
/-! ### dictionaries -/
section
variable {κ α β γ δ ι σ : Type} [DecidableEq κ]
def kS (l : List Nat) : Key := .inr (S l)
structure KeyT (ck : κ → Key) (cd : κ → D) : Prop where
  inj : ∀ a b, ck a = ck b → a = b
  kd : ∀ a, keyD (cd a) = some (ck a)
theorem keyS : KeyT kS cS := ⟨fun a b h => by
  have h := Sum.inr.inj h
  have h2 := congrArg (fun s : Str => s.cps.toList) h
  simpa [S] using h2, fun a => rfl⟩
def cM {κ α : Type} (ck : κ → Key) (c : α → D) (m : List (κ × α)) : D := .dic (m.map fun p => ck p.1) (m.map fun p => c p.2)
def oM {κ α : Type} (ck : κ → Key) (c : α → D) (m : List (κ × α)) : T := .dic (m.map fun p => ck p.1) (m.map fun p => .sh (c p.2))
def lkM : List (κ × α) → κ → Option α
  | [], _ => none
  | (k, a) :: r, j => if k = j then some a else lkM r j
def putM : List (κ × α) → κ → α → List (κ × α)
  | [], j, e => [(j, e)]
  | (k, a) :: r, j, e => if k = j then (k, e) :: r else (k, a) :: putM r j e
def getR (m : List (κ × α)) (k : κ) : Out α := Out.of (lkM m k)
def putR (m : List (κ × α)) (k : κ) (a : α) : Out (List (κ × α)) := if (m.map (·.1)).Nodup ∧ m.length < 16777216 then .ok (putM m k a) else .bad
variable {m m' : Bool} {Ps : List Sl} {fa fb fc : Env' → Res (RV × Env')} {ca : α → D} {cb : β → D} {cr : δ → D} {ck : κ → Key} {cd : κ → D} {ea : Out α} {eb : Out β} {ek : Out κ} {E : Env' → Prop}
theorem oM_top (m : List (κ × α)) : (oM ck ca m).top = some (cM ck ca m) := by simp [oM, cM, T.top]
theorem oM_d (m : List (κ × α)) : (oM ck ca m).d = cM ck ca m := top_d (oM_top m)
theorem lkD_M (h : KeyT ck cd) (j : κ) : ∀ m : List (κ × α), lkD (m.map fun p => ck p.1) (m.map fun p => ca p.2) (ck j) = (lkM m j).map ca
  | [] => rfl
  | (k, a) :: r => by
    simp only [List.map_cons, lkD, lkM]
    by_cases e : k = j
    · rw [if_pos e, if_pos (by rw [e])]; rfl
    · rw [if_neg e, if_neg fun z => e (h.inj _ _ z)]; exact lkD_M h j r
theorem putD_M (h : KeyT ck cd) (j : κ) (e : α) : ∀ m : List (κ × α), putD (m.map fun p => ck p.1) (m.map fun p => ca p.2) (ck j) (ca e) = ((putM m j e).map fun p => ck p.1, (putM m j e).map fun p => ca p.2)
  | [] => rfl
  | (k, a) :: r => by
    simp only [List.map_cons, putD, putM]
    by_cases z : k = j
    · rw [if_pos z, if_pos (by rw [z])]; rfl
    · rw [if_neg z, if_neg fun w => z (h.inj _ _ w), putD_M h j e r]; rfl
theorem dat_M (h : KeyT ck cd) (m : List (κ × α)) (k : κ) : D.dat (cM ck ca m) (cd k) = some ((lkM m k).map ca) := by
  show (keyD (cd k)).map (lkD _ _) = _
  rw [h.kd]
  show some (lkD _ _ (ck k)) = _
  rw [lkD_M h]
theorem o_dget (h : KeyT ck cd) : OpT D.dget (cM ck ca) cd ca getR := fun m k => by
  unfold getR D.dget
  rw [dat_M h]
  cases lkM m k <;> trivial
theorem nodup_M (h : KeyT ck cd) (m : List (κ × α)) : (m.map fun p => ck p.1).Nodup ↔ (m.map (·.1)).Nodup := by
  have e : (m.map fun p => ck p.1) = (m.map (·.1)).map ck := by rw [List.map_map]; rfl
  rw [e]
  generalize m.map (·.1) = l
  induction l with
  | nil => simp
  | cons x xs ih =>
    rw [List.map_cons, List.nodup_cons, List.nodup_cons]
    have : ck x ∈ xs.map ck ↔ x ∈ xs := by
      constructor
      · intro hm
        obtain ⟨y, hy, e⟩ := List.mem_map.mp hm
        exact h.inj _ _ e ▸ hy
      · exact fun hm => List.mem_map.mpr ⟨x, hm, rfl⟩
    exact and_congr (not_congr this) ih
theorem dput_M (h : KeyT ck cd) (m : List (κ × α)) (k : κ) (a : α) (hc : (m.map (·.1)).Nodup ∧ m.length < 16777216) : D.dput (cM ck ca m) (cd k) (ca a) = some (oM ck ca (putM m k a)) := by
  show (keyD (cd k)).bind (fun k => if (m.map fun p => ck p.1).Nodup ∧ (m.map fun p => ck p.1).length < sizeLine then some (T.dic (putD (m.map fun p => ck p.1) (m.map fun p => ca p.2) k (ca a)).1 ((putD (m.map fun p => ck p.1) (m.map fun p => ca p.2) k (ca a)).2.map .sh)) else none) = _
  rw [h.kd]
  show (if (m.map fun p => ck p.1).Nodup ∧ (m.map fun p => ck p.1).length < sizeLine then some (T.dic (putD (m.map fun p => ck p.1) (m.map fun p => ca p.2) (ck k) (ca a)).1 ((putD (m.map fun p => ck p.1) (m.map fun p => ca p.2) (ck k) (ca a)).2.map .sh)) else none) = _
  rw [if_pos ⟨(nodup_M h m).mpr hc.1, size_lt (by rw [List.length_map]; exact hc.2)⟩, putD_M h]
  simp [oM, Function.comp_def]
/-- a display with keys that are written down -/
theorem N_disp {ks : List Key} {fs : Env' → Res (List RV × Env')} {e : Out β} {dn : β → List D} (ha : AE Ps fs e dn) {π : β → List (κ × α)} (hk : ∀ b, (π b).map (fun p => ck p.1) = ks) (hv : ∀ b, (π b).map (fun p => ca p.2) = dn b) (hn : ks.Nodup) (h15 : ks.length ≤ 15) : NJ Ps (nDisp ks fs) (e.bind fun b => .ok (π b)) (oM ck ca) := fun ρ h =>
  Sm.bind (ha ρ h) (fun b ⟨rs, ρ1⟩ ⟨h1, h2⟩ => by
    have h1 : rs = _ := h1
    have hl : ks.length = (dn b).length := by rw [← hk b, ← hv b, List.length_map, List.length_map]
    show Sm ((Res.of (leafs rs)).bind fun ds => if ks.Nodup ∧ ks.length = ds.length ∧ ds.length ≤ 15 then .ok (T.dic ks (ds.map .sh), ρ1) else .bad) _ _ _
    rw [h1, leafs_leaf, of_some, bind_ok, if_pos ⟨hn, hl, by omega⟩]
    refine Sm.okI ⟨?_, h2⟩
    show T.dic ks ((dn b).map .sh) = oM ck ca (π b)
    unfold oM
    rw [hk b, ← hv b, List.map_map]
    rfl) fun _ h => h
theorem X_ofM {na : Env' → Res (T × Env')} {e : Out (List (κ × α))} (ha : NJ Ps na e (oM ck ca)) : X true Ps (oOf na) e (cM ck ca) := X_of ha fun a => oM_d a
theorem J_setMO {i : Nat} {na : Env' → Res (T × Env')} {e : Out (List (κ × α))} {p0 : Sl} (hE : ∀ ρ, ER Ps ρ → E ρ) (hi : Ps[i]? = some p0) (h : NJ Ps na e (oM ck ca)) : J Ps (sSet i na) e (Rn fun a => Ps.set i (.own (oM ck ca a))) E := J_set hE hi h (fun a => .own (oM ck ca a)) fun a => rfl
theorem ownT_M {i : Nat} {m : List (κ × α)} {ρ : Env'} (h0 : ER Ps ρ) (hi : Ps[i]? = some (.own (oM ck ca m))) : ownT ρ i = some (cM ck ca m) := by
  obtain ⟨o, h1, h2⟩ := h0.get hi
  cases h2
  unfold ownT
  rw [h1]
  exact oM_top m
/-- d[k] = e -/
theorem J_dput {i : Nat} {na : Env' → Res (T × Env')} {m0 : List (κ × α)} (hk : KeyT ck cd) (hE : ∀ ρ, ER Ps ρ → E ρ) (hi : Ps[i]? = some (.own (oM ck ca m0))) (h : NJ Ps na ea (oS ca)) (hb : X m Ps fb ek cd) :
    J Ps (sDput i na fb) (ea.bind fun a => ek.bind fun k => putR m0 k a) (Rn fun r => Ps.set i (.own (oM ck ca r))) E := fun ρ h0 => by
  unfold sDput
  refine Sm.bind (h ρ h0) (fun a ⟨t', ρ1⟩ ⟨h1, h2⟩ => ?_) hE
  have h1 : t' = _ := h1
  have h2 : ER Ps ρ1 := h2
  subst h1
  show Sm ((Res.of (ownT ρ1 i)).bind fun _ => (fb ρ1).bind fun (r, ρ2) => (Res.of (look ρ2 r)).bind fun e => (Res.of (ownT ρ2 i)).bind fun d => (Res.of (D.dput d e (ca a))).bind fun t' => .ok (Fl.nx (ρ2.set i (some t')))) _ _ _
  rw [ownT_M h2 hi, of_some, bind_ok]
  refine Sm.bind (hb ρ1 h2) (fun k ⟨r, ρ2⟩ ⟨h5, q5⟩ => ?_) hE
  have h5 : ER Ps ρ2 := h5
  show Sm ((Res.of (look ρ2 r)).bind fun e => (Res.of (ownT ρ2 i)).bind fun d => (Res.of (D.dput d e (ca a))).bind fun t' => .ok (Fl.nx (ρ2.set i (some t')))) (putR m0 k a) _ _
  rw [q5.1 _ h5, of_some, bind_ok, ownT_M h5 hi, of_some, bind_ok]
  unfold putR
  by_cases hc : (m0.map (·.1)).Nodup ∧ m0.length < 16777216
  · rw [if_pos hc, dput_M hk _ _ _ hc]
    exact Sm.okI ⟨_, rfl, h5.set i rfl⟩
  · rw [if_neg hc]; trivial
/-- d[k] op= e -/
theorem J_daug {i : Nat} {g : D → D → Option D} {f : α → β → Out α} {m0 : List (κ × α)} (hk : KeyT ck cd) (hE : ∀ ρ, ER Ps ρ → E ρ) (hi : Ps[i]? = some (.own (oM ck ca m0))) (ho : OpT g ca cb ca f) (hb : X m Ps fb ek cd) (ha : X m' Ps fa eb cb) :
    J Ps (sDaug i g fb fa) (ek.bind fun k => (getR m0 k).bind fun o => eb.bind fun y => (f o y).bind fun w => putR m0 k w) (Rn fun r => Ps.set i (.own (oM ck ca r))) E := fun ρ h0 => by
  unfold sDaug
  rw [ownT_M h0 hi, of_some, bind_ok]
  refine Sm.bind (hb ρ h0) (fun k ⟨r, ρ1⟩ ⟨h1, q1⟩ => ?_) hE
  have h1 : ER Ps ρ1 := h1
  show Sm ((Res.of (look ρ1 r)).bind fun e => (Res.of (ownT ρ1 i)).bind fun d => (Res.of (D.dget d e)).bind fun d1 =>
    (fa ρ1).bind fun (r2, ρ2) => (Res.of (look ρ2 r2)).bind fun d2 => (Res.of (g d1 d2)).bind fun v => (Res.of (look ρ2 r)).bind fun e' => (Res.of (ownT ρ2 i)).bind fun d => (Res.of (D.dput d e' v)).bind fun t' => .ok (Fl.nx (ρ2.set i (some t')))) ((getR m0 k).bind fun o => eb.bind fun y => (f o y).bind fun w => putR m0 k w) _ _
  rw [q1.1 _ h1, of_some, bind_ok, ownT_M h1 hi, of_some, bind_ok]
  have hg := o_dget (ca := ca) hk m0 k
  simp only [RO] at hg
  cases e : getR m0 k with
  | ok o =>
    rw [e] at hg
    rw [show D.dget (cM ck ca m0) (cd k) = _ from hg, of_some, bind_ok, Out.ok_bind]
    refine Sm.bind (ha ρ1 h1) (fun y ⟨r2, ρ2⟩ ⟨h2, q2⟩ => ?_) hE
    have h2 : ER Ps ρ2 := h2
    show Sm ((Res.of (look ρ2 r2)).bind fun d2 => (Res.of (g (ca o) d2)).bind fun v => (Res.of (look ρ2 r)).bind fun e' => (Res.of (ownT ρ2 i)).bind fun d => (Res.of (D.dput d e' v)).bind fun t' => .ok (Fl.nx (ρ2.set i (some t')))) ((f o y).bind fun w => putR m0 k w) _ _
    rw [q2.1 _ h2, of_some, bind_ok, q1.1 _ h2, ownT_M h2 hi]
    have hf := ho o y
    simp only [RO] at hf
    cases e2 : f o y with
    | ok w =>
      rw [e2] at hf
      rw [show g (ca o) (cb y) = _ from hf]
      simp only [of_some, bind_ok, Out.ok_bind]
      unfold putR
      by_cases hc : (m0.map (·.1)).Nodup ∧ m0.length < 16777216
      · rw [if_pos hc, dput_M hk _ _ _ hc]
        exact Sm.okI ⟨_, rfl, h2.set i rfl⟩
      · rw [if_neg hc]; trivial
    | exc c => rw [e2] at hf; exact hf.elim
    | bad => trivial
  | exc c => rw [e] at hg; exact hg.elim
  | bad => trivial
/-! a thing that may be None, taken as told -/
/-! sorted -/
theorem strsD_map : ∀ l : List (List Nat), strsD (l.map cS) = some (l.map S)
  | [] => rfl
  | a :: r => by
    show (strsD (r.map cS)).map (S a :: ·) = _
    rw [strsD_map r]; rfl
end
end
end TL
namespace TL
open PySem PySem.Spec PyProof.Rows L2 FL
noncomputable section
section
variable {κ α β γ δ σ ι ι' : Type} [DecidableEq κ]
variable {m m' m'' : Bool} {Ps Qs : List Sl} {fa fb fc : Env' → Res (RV × Env')} {ca : α → D} {cb : β → D} {cc : γ → D} {cr : δ → D} {ci : ι → D} {cj : ι' → D} {ck : κ → Key} {cd : κ → D} {ea : Out α} {eb : Out β} {ec : Out γ} {ek : Out κ}
variable {R R' : γ → Fl → Prop} {E E' : Env' → Prop} {p : Out γ} {f g : Env' → Res Fl}
/-! ### zip of any two kinds -/
theorem zipD_m (ci : ι → D) (cj : ι' → D) : ∀ (xs : List ι) (ys : List ι'), zipD (xs.map ci) (ys.map cj) = (xs.zip ys).map (c2 ci cj)
  | [], _ => by simp [zipD]
  | _ :: _, [] => by simp [zipD]
  | x :: xs, y :: ys => by simp [zipD, c2, zipD_m ci cj xs ys]
theorem I_zipW {f : α → List ι} {g : β → List ι'} (hf : ∀ a, D.walk (ca a) = some ((f a).map ci)) (hg : ∀ b, D.walk (cb b) = some ((g b).map cj)) (ha : X true Ps fa ea ca) (hb : X true Ps fb eb cb) :
    IJ Ps (iZipW fa fb) (ea.bind fun a => eb.bind fun b => .ok ((f a).zip (g b))) (c2 ci cj) := fun ρ h => by
  have q := Sm.bind (k := fun p : α × β × Unit => Out.ok ((f p.1).zip (g p.2.1))) (K' := fun a b => b.1 = a.map (c2 ci cj) ∧ ER Ps b.2) (E' := ER Ps) (h := fun (rs, ρ1) => match rs with
      | [.leaf d, .leaf e] => (Res.of d.walk).bind fun ds => (Res.of e.walk).bind fun es => .ok (zipD ds es, ρ1)
      | _ => .bad) (AE_cons ha (AE_cons hb AE_nil) ρ h) (fun ⟨a, b, _⟩ ⟨rs, ρ1⟩ ⟨h1, q1⟩ => by
    have h1 : rs = [.leaf (ca a), .leaf (cb b)] := h1
    subst h1
    show Sm ((Res.of (ca a).walk).bind fun ds => (Res.of (cb b).walk).bind fun es => .ok (zipD ds es, ρ1)) _ _ _
    rw [hf, hg]
    exact Sm.okI ⟨zipD_m ci cj _ _, q1⟩) fun _ h => h
  unfold iZipW
  cases ea with
  | ok a => cases eb with
    | ok b => exact q
    | exc c => exact q
    | bad => trivial
  | exc c => exact q
  | bad => trivial
theorem I_zipD {ea eb : Out D} (ha : X true Ps fa ea cD) (hb : X true Ps fb eb cD) :
    IJ Ps (iZipW fa fb) (ea.bind fun a => eb.bind fun b => (itD a).bind fun x => (itD b).bind fun y => .ok (x.zip y)) (c2 cD cD) := fun ρ h => by
  have q := Sm.bind (k := fun p : D × D × Unit => (itD p.1).bind fun x => (itD p.2.1).bind fun y => Out.ok (x.zip y)) (K' := fun a b => b.1 = a.map (c2 cD cD) ∧ ER Ps b.2) (E' := ER Ps) (h := fun (rs, ρ1) => match rs with
      | [.leaf d, .leaf e] => (Res.of d.walk).bind fun ds => (Res.of e.walk).bind fun es => .ok (zipD ds es, ρ1)
      | _ => .bad) (AE_cons ha (AE_cons hb AE_nil) ρ h) (fun ⟨a, b, _⟩ ⟨rs, ρ1⟩ ⟨h1, q1⟩ => by
    have h1 : rs = [.leaf a, .leaf b] := h1
    subst h1
    show Sm ((Res.of a.walk).bind fun ds => (Res.of b.walk).bind fun es => .ok (zipD ds es, ρ1)) ((itD a).bind fun x => (itD b).bind fun y => Out.ok (x.zip y)) _ _
    unfold itD
    cases a.walk with
    | none => trivial
    | some ds => cases b.walk with
      | none => trivial
      | some es =>
        have z := zipD_m cD cD ds es
        rw [map_cD, map_cD] at z
        exact Sm.okI ⟨z, q1⟩) fun _ h => h
  unfold iZipW
  cases ea with
  | ok a => cases eb with
    | ok b => exact q
    | exc c => exact q
    | bad => trivial
  | exc c => exact q
  | bad => trivial
theorem w_U (a : List α) : D.walk (cU ca a) = some (a.map ca) := rfl
/-! ### a, b, c = xs.pop() -/
/-! ### dict.get -/
/-! ### join -/
def joinR (a : List Nat) (ys : List (List Nat)) : Out (List Nat) := if (ys.map List.length).sum + ys.length * a.length ≤ 16777216 then .ok (joinL a ys) else .bad
theorem join_S (a : List Nat) (ys : List (List Nat)) (h : (ys.map List.length).sum + ys.length * a.length ≤ 16777216) : joinOk (S a) (ys.map S) ∧ Txt.join (S a) (ys.map S) = S (joinL a ys) := by
  constructor
  · unfold joinOk
    rw [List.map_map, List.length_map]
    have : ((fun x : Str => x.length) ∘ S) = List.length := by funext l; simp [S, Str.length]
    rw [this]
    simpa [S, Str.length] using size_le h
  · rw [_root_.TL.join_eq]
    apply _root_.TL.ext_tl
    rw [_root_.TL.tl_join, List.map_map]
    have : (_root_.TL.tl ∘ S) = id := by funext l; simp [_root_.TL.tl, S]
    rw [this, List.map_id]
    simp [_root_.TL.tl, S]
theorem join_gen (a : List Nat) (ys : List (List Nat)) {d : D} (hd : d.items = some (ys.map cS)) : RO (D.join (cS a) [d]) (joinR a ys) cS := by
  unfold joinR
  by_cases z : (ys.map List.length).sum + ys.length * a.length ≤ 16777216
  · rw [if_pos z]
    obtain ⟨j1, j2⟩ := join_S a ys z
    show D.join (.str (S a)) [d] = _
    unfold D.join
    simp only [hd, strsD_map, if_pos j1, j2]
    rfl
  · rw [if_neg z]; trivial
theorem m_joinL : ∀ (a : List Nat) (p : List (List Nat) × Unit), RO (D.join (cS a) [cL cS p.1]) (joinR a p.1) cS := fun a p => join_gen a p.1 rfl
/-! ### range(i, j, -1) -/
/-! ### lists of own lists -/
def GI (Ps : List Sl) (g : Env' → Option Int) (k : Int) : Prop := ∀ ρ, ER Ps ρ → g ρ = some k
/-! frozen trees -/
end
end
end TL
namespace TL
open PySem PySem.Spec PyProof.Rows L2 FL
/-! ### reckoning with typed programs -/
section
variable {α β γ δ σ ι : Type}
@[simp] theorem modR_ok {a b : Int} (h : 0 < b) : modR a b = .ok (a % b) := if_pos h
@[simp] theorem divR_ok {a b : Int} (h : 0 < b ∧ b < 18446744073709551616) : divR a b = .ok (a / b) := if_pos ⟨h.1, log_small h.1 h.2⟩
@[simp] theorem mulR_ok {a b : Int} (h : -18446744073709551616 < a ∧ a < 18446744073709551616) : mulR a b = .ok (a * b) := if_pos (mulOk_l ⟨by omega, by omega⟩)
theorem mulR_okr {a b : Int} (h : -18446744073709551616 < b ∧ b < 18446744073709551616) : mulR a b = .ok (a * b) := if_pos (mulOk_r ⟨by omega, by omega⟩)
@[simp] theorem catR_ok {a b : List α} (h : a.length + b.length ≤ 16777216) : catR a b = .ok (a ++ b) := if_pos h
@[simp] theorem appR_ok {a : List α} {b : α} (h : a.length < 16777216) : appR a b = .ok (a ++ [b]) := if_pos h
@[simp] theorem extR_ok {a b : List α} (h : a.length + b.length ≤ 16777216) : extR a b = .ok (a ++ b) := if_pos h
@[simp] theorem lcA_ok {xs : List ι} {e : ι → α} (h : xs.length ≤ 16777216) : lcA xs e = .ok (xs.map e) := if_pos h
@[simp] theorem lcP_ok {xs : List ι} {t : ι → Bool} {e : ι → α} (h : xs.length ≤ 16777216) : lcP xs t e = .ok ((xs.filter t).map e) := if_pos h
theorem lcR_ok {xs : List ι} {t : ι → Out Bool} {e : ι → Out α} (p : ι → Bool) (g : ι → α) (h : xs.length ≤ 16777216) (ht : ∀ x ∈ xs, t x = .ok (p x)) (he : ∀ x ∈ xs, p x = true → e x = .ok (g x)) : lcR t e xs = .ok ((xs.filter p).map g) := by
  unfold lcR
  rw [if_pos h]
  clear h
  induction xs with
  | nil => rfl
  | cons x xs ih =>
    rw [lcM, ht x (by simp)]
    show (if p x = true then _ else _) = _
    rw [ih (fun y hy => ht y (by simp [hy])) fun y hy => he y (by simp [hy])]
    by_cases q : p x = true
    · rw [if_pos q, he x (by simp) q]; simp [q]
    · simp [q]
theorem lcR_okA {xs : List ι} {e : ι → Out α} (g : ι → α) (h : xs.length ≤ 16777216) (he : ∀ x ∈ xs, e x = .ok (g x)) : lcR (fun _ => .ok true) e xs = .ok (xs.map g) := by
  rw [lcR_ok (fun _ => true) g h (fun _ _ => rfl) fun x hx _ => he x hx, List.filter_eq_self.mpr fun _ _ => rfl]
@[simp] theorem rng1_ok {j : Int} (h : -4611686018427387904 < j ∧ j < 4611686018427387904) : rng1 j = .ok (rng 0 j) := if_pos (by unfold rOk; omega)
@[simp] theorem rng2_ok {i j : Int} (h : (-4611686018427387904 < i ∧ i < 4611686018427387904) ∧ (-4611686018427387904 < j ∧ j < 4611686018427387904)) : rng2 i j = .ok (rng i j) := if_pos ⟨by unfold rOk; omega, by unfold rOk; omega⟩
@[simp] theorem rng_length (i j : Int) : (rng i j).length = (j - i).toNat := by simp [rng]
theorem rng_get {i j : Int} {k : Nat} {x : Int} (h : (rng i j)[k]? = some x) : x = i + (k : Int) ∧ k < (j - i).toNat := by
  unfold rng at h
  rw [List.getElem?_map] at h
  cases e : (List.range (j - i).toNat)[k]? with
  | none => rw [e] at h; cases h
  | some y =>
    rw [e] at h
    obtain ⟨h1, h2⟩ := List.getElem?_eq_some_iff.mp e
    rw [List.getElem_range] at h2
    rw [List.length_range] at h1
    subst h2
    simp at h
    exact ⟨h.symm, h1⟩
theorem rng_mem {i j x : Int} : x ∈ rng i j ↔ i ≤ x ∧ x < j := by
  unfold rng
  simp only [List.mem_map, List.mem_range]
  constructor
  · rintro ⟨k, h1, rfl⟩; omega
  · rintro ⟨h1, h2⟩; exact ⟨(x - i).toNat, by omega, by omega⟩
@[simp] theorem pow_10_18 : powR 10 18 = .ok 1000000000000000000 := by
  unfold powR
  rw [if_pos ⟨by decide, by decide, by decide⟩]
  rfl
/-! places -/
@[simp] theorem atR_nat (xs : List α) (i : Nat) : atR xs (i : Int) = Out.of xs[i]? := by unfold atR; rw [atI_n]
theorem atR_in {xs : List α} {i : Int} (h : 0 ≤ i) (h2 : i < xs.length) : atR xs i = .ok (xs[i.toNat]'(by omega)) := atR_ok (atI_in h h2)
theorem atR_ex {xs : List α} {i : Int} (h : 0 ≤ i) (h2 : i < xs.length) : ∃ a ∈ xs, atR xs i = .ok a := ⟨_, List.getElem_mem _, atR_in h h2⟩
@[simp] theorem atR_0 (x : α) (xs : List α) : atR (x :: xs) 0 = .ok x := atR_ok (atI_cons0 x xs)
@[simp] theorem atR_lit (x : α) (xs : List α) (n : Nat) : atR (x :: xs) (no_index (@OfNat.ofNat Int n instOfNat)) = Out.of (x :: xs)[(@OfNat.ofNat Nat n (instOfNatNat n))]? := by unfold atR; rw [atI_lit]
theorem sgR_ex {l : List Nat} {i : Int} (h : 0 ≤ i) (h2 : i < l.length) : ∃ c ∈ l, sgR l i = .ok [c] := by
  obtain ⟨c, h1, h2⟩ := atR_ex h h2
  exact ⟨c, h1, by unfold sgR; rw [h2]; rfl⟩
@[simp] theorem sgR_nat (l : List Nat) (i : Nat) : sgR l (i : Int) = Out.of (l[i]?.map fun c => [c]) := by
  unfold sgR; rw [atR_nat]; cases l[i]? <;> rfl
@[simp] theorem sgR_0 (x : Nat) (xs : List Nat) : sgR (x :: xs) 0 = .ok [x] := by unfold sgR; rw [atR_0]; rfl
@[simp] theorem sgR_lit (x : Nat) (xs : List Nat) (n : Nat) : sgR (x :: xs) (no_index (@OfNat.ofNat Int n instOfNat)) = Out.of ((x :: xs)[(@OfNat.ofNat Nat n (instOfNatNat n))]?.map fun c => [c]) := by
  unfold sgR; rw [atR_lit]; cases ((x :: xs)[(@OfNat.ofNat Nat n (instOfNatNat n))]?) <;> rfl
theorem setR_in {xs : List α} {i : Int} {a : α} (h : 0 ≤ i) (h2 : i < xs.length) : setR xs i a = .ok (xs.set i.toNat a) := by unfold setR; rw [ixN_in ⟨h, h2⟩]
@[simp] theorem setR_nat {xs : List α} {i : Nat} {a : α} (h : i < xs.length) : setR xs (i : Int) a = .ok (xs.set i a) := by
  rw [setR_in (by omega) (by omega)]; simp
/-! slices -/
theorem slL_from {xs : List α} {i : Int} (h : 0 ≤ i) : slL (some i) none xs = xs.drop i.toNat := by
  unfold slL
  rw [sIx_pos _ _ _ h]
  show (xs.drop _).take (xs.length - _) = _
  rw [List.take_of_length_le (by simp)]
  rcases Nat.le_total i.toNat xs.length with l | l
  · rw [Nat.min_eq_left l]
  · rw [Nat.min_eq_right l, List.drop_eq_nil_iff.mpr (Nat.le_refl _), List.drop_eq_nil_iff.mpr l]
theorem slL_to {xs : List α} {i : Int} (h : 0 ≤ i) : slL none (some i) xs = xs.take i.toNat := by
  unfold slL
  rw [sIx_pos _ _ _ h]
  show (xs.drop 0).take (min i.toNat xs.length - 0) = _
  rw [List.drop_zero, Nat.sub_zero]
  rcases Nat.le_total i.toNat xs.length with l | l
  · rw [Nat.min_eq_left l]
  · rw [Nat.min_eq_right l, List.take_of_length_le (Nat.le_refl _), List.take_of_length_le l]
theorem slS_from {l : List Nat} {i : Int} (h : 0 ≤ i) : slS (some i) none l = l.drop i.toNat := by unfold slS; rw [cutS_from _ _ h]; rfl
theorem slS_to {l : List Nat} {i : Int} (h : 0 ≤ i) : slS none (some i) l = l.take i.toNat := by unfold slS; rw [cutS_to _ _ h]; rfl
@[simp] theorem sgs_length (l : List Nat) : (sgs l).length = l.length := by simp [sgs]
/-! ### loops -/
@[simp] theorem jn_nx (s : σ) (k : σ → Out γ) : jn (.ok (.nx s)) k = k s := rfl
@[simp] theorem jn_out (g : γ) (k : σ → Out γ) : jn (.ok (.out g)) k = .ok g := rfl
@[simp] theorem jn_exc (c : Str) (k : σ → Out γ) : jn (.exc c) k = .exc c := rfl
@[simp] theorem jn_if (c : Prop) [Decidable c] (a b : Out (Fj σ γ)) (k : σ → Out γ) : jn (if c then a else b) k = if c then jn a k else jn b k := by split <;> rfl
@[simp] theorem bind_if (c : Prop) [Decidable c] (a b : Out α) (k : α → Out γ) : (if c then a else b).bind k = if c then a.bind k else b.bind k := by split <;> rfl
theorem forS_nil (b : ι → σ → Out σ) (s : σ) : forS b [] s = .ok s := rfl
theorem forS_cons (b : ι → σ → Out σ) (x : ι) (xs : List ι) (s : σ) : forS b (x :: xs) s = (b x s).bind fun s' => forS b xs s' := rfl
theorem forF_cons (b : ι → σ → Out (Lp σ γ)) (x : ι) (xs : List ι) (s : σ) : forF b (x :: xs) s = (b x s).bind fun r => match r with
    | .nx s' => forF b xs s'
    | .bk s' => .ok (.nx s')
    | .out g => .ok (.out g) := by
  rw [forF]
  cases b x s with
  | ok r => cases r <;> rfl
  | exc c => rfl
  | bad => rfl
/-- a loop whose turns all come to an end, by an invariant -/
theorem forS_inv {b : ι → σ → Out σ} (I : Nat → σ → Prop) : ∀ (xs : List ι) (n : Nat) (s : σ), I n s → (∀ i x s, xs[i]? = some x → I (n + i) s → ∃ s', b x s = .ok s' ∧ I (n + i + 1) s') → ∃ s', forS b xs s = .ok s' ∧ I (n + xs.length) s'
  | [], n, s, h, _ => ⟨s, rfl, h⟩
  | x :: xs, n, s, h, hs => by
    obtain ⟨s1, e1, h1⟩ := hs 0 x s rfl h
    obtain ⟨s2, e2, h2⟩ := forS_inv I xs (n + 1) s1 h1 fun i y s hy hi => by
      have := hs (i + 1) y s (by simpa using hy) (by rw [show n + (i + 1) = n + 1 + i by omega]; exact hi)
      rw [show n + (i + 1) + 1 = n + 1 + i + 1 by omega] at this
      exact this
    refine ⟨s2, by rw [forS_cons, e1]; exact e2, ?_⟩
    rw [List.length_cons, show n + (xs.length + 1) = n + 1 + xs.length by omega]
    exact h2
theorem forS_ex {b : ι → σ → Out σ} (I : Nat → σ → Prop) {xs : List ι} {s : σ} (h0 : I 0 s) (hs : ∀ i x s, xs[i]? = some x → I i s → ∃ s', b x s = .ok s' ∧ I (i + 1) s') : ∃ s', forS b xs s = .ok s' ∧ I xs.length s' := by
  have := forS_inv I xs 0 s h0 fun i x s hx hi => by
    have := hs i x s hx (by simpa using hi)
    simpa using this
  simpa using this
/-- over the numbers from 0 on -/
theorem forS_rng {b : Int → σ → Out σ} {n : Nat} (I : Nat → σ → Prop) {s : σ} {j : Int} (hj : j = n) (h0 : I 0 s) (hs : ∀ (i : Nat) s, i < n → I i s → ∃ s', b (i : Int) s = .ok s' ∧ I (i + 1) s') : ∃ s', forS b (rng 0 j) s = .ok s' ∧ I n s' := by
  subst hj
  have := forS_ex (b := b) (xs := rng 0 (n : Int)) I h0 fun i x s hx hi => by
    obtain ⟨h1, h2⟩ := rng_get hx
    have h1 : x = (i : Int) := by omega
    subst h1
    exact hs i s (by omega) hi
  simpa using this
/-- a law's loop: no state, no turn goes out -/
theorem forF_unit {b : ι → Unit → Out (Lp Unit γ)} : ∀ {xs : List ι}, (∀ x ∈ xs, b x () = .ok (.nx ())) → forF b xs () = .ok (.nx ())
  | [], _ => rfl
  | x :: xs, h => by rw [forF_cons, h x (by simp)]; exact forF_unit fun y hy => h y (by simp [hy])
end
/-! ### shapes of any things -/
@[simp] theorem isD_str (l : List Nat) : isD "str" (cS l) = .ok true := by simp [isD, cS]; decide
@[simp] theorem itD_S (l : List Nat) : itD (cS l) = .ok (l.map fun c => cS [c]) := by simp [itD, cS]
@[simp] theorem opD_inS (a b : List Nat) : opD D.isin (cS a) (cS b) = .ok (inS a b) := by simp [opD, cS, inS]
@[simp] theorem opD_ninS (a b : List Nat) : opD D.notin (cS a) (cS b) = .ok (!inS a b) := by simp [opD, cS, inS]
end TL
namespace TL
open PySem PySem.Spec PyProof.Rows L2 FL
section
variable {α β γ δ σ ι : Type}
/-- a program comes to an end, with a value of this kind -/
def Sat (p : Out α) (P : α → Prop) : Prop := ∃ a, p = .ok a ∧ P a
@[simp] theorem Sat_ok (a : α) (P : α → Prop) : Sat (.ok a) P ↔ P a := ⟨fun ⟨_, e, h⟩ => by cases e; exact h, fun h => ⟨a, rfl, h⟩⟩
@[simp] theorem Sat_bad (P : α → Prop) : ¬Sat (.bad : Out α) P := fun ⟨_, e, _⟩ => by cases e
@[simp] theorem Sat_exc (c : Str) (P : α → Prop) : ¬Sat (.exc c : Out α) P := fun ⟨_, e, _⟩ => by cases e
theorem Sat.bind {p : Out α} {k : α → Out β} {P : β → Prop} (Q : α → Prop) (h : Sat p Q) (hk : ∀ a, Q a → Sat (k a) P) : Sat (p.bind k) P := by
  obtain ⟨a, e, q⟩ := h
  rw [e]; exact hk a q
theorem Sat.imp {p : Out α} {P Q : α → Prop} (h : Sat p P) (hk : ∀ a, P a → Q a) : Sat p Q := by
  obtain ⟨a, e, q⟩ := h
  exact ⟨a, e, hk a q⟩
theorem Sat.of {p : Out α} {a : α} {P : α → Prop} (h : p = .ok a) (q : P a) : Sat p P := ⟨a, h, q⟩
theorem Sat.eq {p : Out α} {k : α → Out β} {P : β → Prop} {a : α} (h : p = .ok a) (hk : Sat (k a) P) : Sat (p.bind k) P := by rw [h]; exact hk
theorem Sat.is {p : Out α} {a : α} (h : Sat p fun b => b = a) : p = .ok a := by obtain ⟨b, e, rfl⟩ := h; exact e
theorem Sat.ite {c : Prop} [Decidable c] {a b : Out α} {P : α → Prop} (h1 : c → Sat a P) (h2 : ¬c → Sat b P) : Sat (if c then a else b) P := by
  by_cases h : c
  · rw [if_pos h]; exact h1 h
  · rw [if_neg h]; exact h2 h
theorem Sat.forS {b : ι → σ → Out σ} (I : Nat → σ → Prop) {xs : List ι} {s : σ} {P : σ → Prop} (h0 : I 0 s) (hs : ∀ i x s, xs[i]? = some x → I i s → Sat (b x s) (I (i + 1))) (hd : ∀ s, I xs.length s → P s) : Sat (forS b xs s) P := by
  obtain ⟨s', e, h⟩ := forS_ex I h0 fun i x s hx hi => hs i x s hx hi
  exact ⟨s', e, hd s' h⟩
theorem Sat.rngS {b : Int → σ → Out σ} (I : Nat → σ → Prop) {n : Nat} {j : Int} {s : σ} {P : σ → Prop} (hj : j = n) (h0 : I 0 s) (hs : ∀ (i : Nat) s, i < n → I i s → Sat (b (i : Int) s) (I (i + 1))) (hd : ∀ s, I n s → P s) : Sat (TL.forS b (rng 0 j) s) P := by
  obtain ⟨s', e, h⟩ := forS_rng I hj h0 fun i s hi h => hs i s hi h
  exact ⟨s', e, hd s' h⟩
/-- what a turn of a loop with ways out may be: go on, or go out with such a thing -/
def Turn (I : σ → Prop) (O : γ → Prop) : Lp σ γ → Prop
  | .nx s => I s
  | .bk s => False
  | .out g => O g
/-- a law's loop: no state at all -/
theorem law_loop {b : ι → Unit → Out (Lp Unit γ)} {xs : List ι} {k : Unit → Out γ} {P : γ → Prop} (h : ∀ x ∈ xs, Sat (b x ()) fun r => r = .nx ()) (hk : Sat (k ()) P) : Sat (TL.jn (TL.forF b xs ()) k) P := by
  rw [forF_unit fun x hx => (h x hx).is]
  exact hk
end
end TL
namespace TL
open PySem PySem.Spec PyProof.Rows L2 FL
section
variable {α β γ δ ε ζ : Type} {ca : α → D} {cb : β → D} {cc : γ → D} {cd : δ → D} {ce : ε → D} {cf : ζ → D}
/-! ### kinds of things, and their parts -/
@[simp] theorem isD_c1 (p : α) : isD "tuple" (c1 ca p) = .ok true := by simp [isD, c1]; decide
@[simp] theorem isD_c2 (p : α × β) : isD "tuple" (c2 ca cb p) = .ok true := by simp [isD, c2]; decide
@[simp] theorem isD_c3 (p : α × β × γ) : isD "tuple" (c3 ca cb cc p) = .ok true := by simp [isD, c3]; decide
@[simp] theorem isD_c4 (p : α × β × γ × δ) : isD "tuple" (c4 ca cb cc cd p) = .ok true := by simp [isD, c4]; decide
@[simp] theorem isD_cU (p : List α) : isD "tuple" (cU ca p) = .ok true := by simp [isD, cU]; decide
@[simp] theorem isD_tup (p : List D) : isD "tuple" (.tup p) = .ok true := by simp [isD]; decide
@[simp] theorem isDt_cL (p : List α) : isD "tuple" (cL ca p) = .ok false := by simp [isD, cL]; decide
@[simp] theorem isDt_cS (p : List Nat) : isD "tuple" (cS p) = .ok false := by simp [isD, cS]; decide
@[simp] theorem isDt_cI (p : Int) : isD "tuple" (cI p) = .ok false := by simp [isD, cI]; decide
@[simp] theorem isDt_cB (p : Bool) : isD "tuple" (cB p) = .ok false := by simp [isD, cB]; decide
@[simp] theorem isDt_cN (p : Unit) : isD "tuple" (cN p) = .ok false := by simp [isD, cN]; decide
@[simp] theorem isDs_c1 (p : α) : isD "str" (c1 ca p) = .ok false := by simp [isD, c1]; decide
@[simp] theorem isDs_c2 (p : α × β) : isD "str" (c2 ca cb p) = .ok false := by simp [isD, c2]; decide
@[simp] theorem isDs_c3 (p : α × β × γ) : isD "str" (c3 ca cb cc p) = .ok false := by simp [isD, c3]; decide
@[simp] theorem isDs_c4 (p : α × β × γ × δ) : isD "str" (c4 ca cb cc cd p) = .ok false := by simp [isD, c4]; decide
@[simp] theorem isDs_cU (p : List α) : isD "str" (cU ca p) = .ok false := by simp [isD, cU]; decide
@[simp] theorem isDs_cL (p : List α) : isD "str" (cL ca p) = .ok false := by simp [isD, cL]; decide
@[simp] theorem isDs_cI (p : Int) : isD "str" (cI p) = .ok false := by simp [isD, cI]; decide
@[simp] theorem isDs_cB (p : Bool) : isD "str" (cB p) = .ok false := by simp [isD, cB]; decide
@[simp] theorem isDs_cN (p : Unit) : isD "str" (cN p) = .ok false := by simp [isD, cN]; decide
@[simp] theorem isDi_cS (p : List Nat) : isD "int" (cS p) = .ok false := by simp [isD, cS]; decide
@[simp] theorem isDi_cI (p : Int) : isD "int" (cI p) = .ok true := by simp [isD, cI]; decide
@[simp] theorem isDi_cB (p : Bool) : isD "int" (cB p) = .ok true := by simp [isD, cB, isT]
@[simp] theorem isDi_cN (p : Unit) : isD "int" (cN p) = .ok false := by simp [isD, cN]; decide
@[simp] theorem isDi_cL (p : List α) : isD "int" (cL ca p) = .ok false := by simp [isD, cL]; decide
@[simp] theorem isDi_cU (p : List α) : isD "int" (cU ca p) = .ok false := by simp [isD, cU]; decide
@[simp] theorem isDb_cI (p : Int) : isD "bool" (cI p) = .ok false := by simp [isD, cI]; decide
@[simp] theorem isDb_cB (p : Bool) : isD "bool" (cB p) = .ok true := by simp [isD, cB]; decide
@[simp] theorem isDb_cS (p : List Nat) : isD "bool" (cS p) = .ok false := by simp [isD, cS]; decide
@[simp] theorem isDb_cN (p : Unit) : isD "bool" (cN p) = .ok false := by simp [isD, cN]; decide
@[simp] theorem lenD_c1 (p : α) : lenD (c1 ca p) = .ok 1 := by simp [lenD, c1]
@[simp] theorem lenD_c2 (p : α × β) : lenD (c2 ca cb p) = .ok 2 := by simp [lenD, c2]
@[simp] theorem lenD_c3 (p : α × β × γ) : lenD (c3 ca cb cc p) = .ok 3 := by simp [lenD, c3]
@[simp] theorem lenD_c4 (p : α × β × γ × δ) : lenD (c4 ca cb cc cd p) = .ok 4 := by simp [lenD, c4]
@[simp] theorem lenD_cU (p : List α) : lenD (cU ca p) = .ok (p.length : Int) := by simp [lenD, cU]
@[simp] theorem lenD_cL (p : List α) : lenD (cL ca p) = .ok (p.length : Int) := by simp [lenD, cL]
@[simp] theorem lenD_cS (p : List Nat) : lenD (cS p) = .ok (p.length : Int) := by simp [lenD, cS]
@[simp] theorem lenD_tup (p : List D) : lenD (.tup p) = .ok (p.length : Int) := by simp [lenD]
@[simp] theorem ixD_c1 (p : α) : ixD (c1 ca p) 0 = .ok (ca p) := rfl
@[simp] theorem ixD_c20 (p : α × β) : ixD (c2 ca cb p) 0 = .ok (ca p.1) := rfl
@[simp] theorem ixD_c21 (p : α × β) : ixD (c2 ca cb p) 1 = .ok (cb p.2) := rfl
@[simp] theorem ixD_c30 (p : α × β × γ) : ixD (c3 ca cb cc p) 0 = .ok (ca p.1) := rfl
@[simp] theorem ixD_c31 (p : α × β × γ) : ixD (c3 ca cb cc p) 1 = .ok (cb p.2.1) := rfl
@[simp] theorem ixD_c32 (p : α × β × γ) : ixD (c3 ca cb cc p) 2 = .ok (cc p.2.2) := rfl
@[simp] theorem ixD_c40 (p : α × β × γ × δ) : ixD (c4 ca cb cc cd p) 0 = .ok (ca p.1) := rfl
@[simp] theorem ixD_c41 (p : α × β × γ × δ) : ixD (c4 ca cb cc cd p) 1 = .ok (cb p.2.1) := rfl
@[simp] theorem ixD_c42 (p : α × β × γ × δ) : ixD (c4 ca cb cc cd p) 2 = .ok (cc p.2.2.1) := rfl
@[simp] theorem ixD_c43 (p : α × β × γ × δ) : ixD (c4 ca cb cc cd p) 3 = .ok (cd p.2.2.2) := rfl
@[simp] theorem itD_c1 (p : α) : itD (c1 ca p) = .ok [ca p] := rfl
@[simp] theorem itD_c2 (p : α × β) : itD (c2 ca cb p) = .ok [ca p.1, cb p.2] := rfl
@[simp] theorem itD_c3 (p : α × β × γ) : itD (c3 ca cb cc p) = .ok [ca p.1, cb p.2.1, cc p.2.2] := rfl
@[simp] theorem itD_cU (p : List α) : itD (cU ca p) = .ok (p.map ca) := rfl
@[simp] theorem itD_cL (p : List α) : itD (cL ca p) = .ok (p.map ca) := rfl
@[simp] theorem itD_tup (p : List D) : itD (.tup p) = .ok p := rfl
@[simp] theorem cD_ap (d : D) : cD d = d := rfl
@[simp] theorem asD_ap (d : D) : asD d = .ok d := rfl
theorem eqD_fai [DecidableEq α] {n : Nat} (h : Fai n ca) (hn : n ≤ 60) (a b : α) : eqD (ca a) (ca b) = .ok (decide (a = b)) := by
  unfold eqD; rw [if_pos ⟨h.cmp hn a, h.cmp hn b⟩, h.eq]
theorem neD_fai [DecidableEq α] {n : Nat} (h : Fai n ca) (hn : n ≤ 60) (a b : α) : neD (ca a) (ca b) = .ok (!decide (a = b)) := by
  unfold neD; rw [if_pos ⟨h.cmp hn a, h.cmp hn b⟩, h.eq]
@[simp] theorem eqD_S (a b : List Nat) : eqD (cS a) (cS b) = .ok (decide (a = b)) := eqD_fai Fai.S (by decide) a b
@[simp] theorem neD_S (a b : List Nat) : neD (cS a) (cS b) = .ok (!decide (a = b)) := neD_fai Fai.S (by decide) a b
@[simp] theorem eqD_I (a b : Int) : eqD (cI a) (cI b) = .ok (decide (a = b)) := eqD_fai Fai.I (by decide) a b
@[simp] theorem neD_I (a b : Int) : neD (cI a) (cI b) = .ok (!decide (a = b)) := neD_fai Fai.I (by decide) a b
@[simp] theorem eqD_B (a b : Bool) : eqD (cB a) (cB b) = .ok (decide (a = b)) := eqD_fai Fai.B (by decide) a b
@[simp] theorem neD_B (a b : Bool) : neD (cB a) (cB b) = .ok (!decide (a = b)) := neD_fai Fai.B (by decide) a b
@[simp] theorem opD_leI (a b : Int) : opD D.le (cI a) (cI b) = .ok (decide (a ≤ b)) := rfl
@[simp] theorem opD_ltI (a b : Int) : opD D.lt (cI a) (cI b) = .ok (decide (a < b)) := rfl
@[simp] theorem opD_geI (a b : Int) : opD D.ge (cI a) (cI b) = .ok (decide (b ≤ a)) := rfl
@[simp] theorem opD_gtI (a b : Int) : opD D.gt (cI a) (cI b) = .ok (decide (b < a)) := rfl
@[simp] theorem opD_isB (a b : Bool) : opD D.is (cB a) (cB b) = .ok (decide (a = b)) := rfl
@[simp] theorem opD_isntB (a b : Bool) : opD D.isnt (cB a) (cB b) = .ok (!decide (a = b)) := rfl
@[simp] theorem isNon_cS (l : List Nat) : (cS l).isNon = false := rfl
@[simp] theorem isNon_cI (l : Int) : (cI l).isNon = false := rfl
@[simp] theorem isNon_cB (l : Bool) : (cB l).isNon = false := rfl
@[simp] theorem isNon_cN (l : Unit) : (cN l).isNon = true := rfl
@[simp] theorem isNon_cU (l : List α) : (cU ca l).isNon = false := rfl
@[simp] theorem isNon_cL (l : List α) : (cL ca l).isNon = false := rfl
@[simp] theorem isNon_c1 (p : α) : (c1 ca p).isNon = false := rfl
@[simp] theorem isNon_c2 (p : α × β) : (c2 ca cb p).isNon = false := rfl
@[simp] theorem isNon_c3 (p : α × β × γ) : (c3 ca cb cc p).isNon = false := rfl
end
@[simp] theorem tryR_ok {γ : Type} (rs : List Str) (h : Str → Out γ) (a : γ) : tryR rs h (.ok a) = .ok a := rfl
@[simp] theorem tryR_exc {γ : Type} (rs : List Str) (h : Str → Out γ) (k : Str) : tryR rs h (.exc k) = if k ∈ rs then h k else .bad := rfl
@[simp] theorem goH_cons {γ : Type} (cs : List Str) (p : Out γ) (r : List (List Str × Out γ)) (c : Str) : goH ((cs, p) :: r) c = if c ∈ cs then p else goH r c := by rw [goH]
@[simp] theorem goH_nil {γ : Type} (c : Str) : goH ([] : List (List Str × Out γ)) c = .exc c := by rw [goH]
end TL
namespace TL
open PySem PySem.Spec PyProof.Rows L2 FL
section
variable {S α β γ δ σ ι : Type}
/-- a program that changes its deck: it comes to an end, the deck stays good -/
def SatM (I : S → Prop) (m : S → Out (α × S)) (P : α → Prop) : Prop := ∀ s, I s → Sat (m s) fun p => P p.1 ∧ I p.2
theorem SatM.rt {I : S → Prop} {a : α} {P : α → Prop} (h : P a) : SatM I (M.rt a) P := fun s hs => ⟨(a, s), rfl, h, hs⟩
theorem SatM.nx {I : S → Prop} {m : S → Out (α × S)} {P : α → Prop} (h : SatM I m P) : SatM I (M.nx m) P := fun s hs => by
  obtain ⟨a, e1, h1⟩ := h s hs
  refine ⟨a, ?_, h1⟩
  unfold M.nx
  rw [e1]; rfl
theorem SatM.imp {I : S → Prop} {m : S → Out (α × S)} {P Q : α → Prop} (h : SatM I m P) (hk : ∀ a, P a → Q a) : SatM I m Q := fun s hs => (h s hs).imp fun p q => ⟨hk _ q.1, q.2⟩
theorem SatM.ap {I : S → Prop} {m : S → Out (α × S)} {s : S} (P : α → Prop) {R : α × S → Prop} (hs : I s) (h : SatM I m P) (hk : ∀ a s, P a → I s → R (a, s)) : Sat (m s) R := (h s hs).imp fun p q => hk p.1 p.2 q.1 q.2
end
end TL
namespace TL
open PySem PySem.Spec PyProof.Rows L2 FL
section
variable {α β γ δ σ ι μ ρ : Type}
/-! ### loops that go along with a plain function -/
theorem forS_sim {b : ι → σ → Out σ} {kf : σ → Out γ} (f : μ → ι) (I : σ → ρ → List μ → Prop) (F : ρ → List μ → Out γ) (h0 : ∀ s r, I s r [] → kf s = F r [])
    (hs : ∀ m ms s r, I s r (m :: ms) → (∃ s' r', b (f m) s = .ok s' ∧ I s' r' ms ∧ F r (m :: ms) = F r' ms) ∨ (∃ c, b (f m) s = .exc c ∧ F r (m :: ms) = .exc c)) :
    ∀ (ms : List μ) (s : σ) (r : ρ), I s r ms → (TL.forS b (ms.map f) s).bind kf = F r ms
  | [], s, r, h => h0 s r h
  | m :: ms, s, r, h => by
    rcases hs m ms s r h with ⟨s', r', e1, e2, e3⟩ | ⟨c, e1, e2⟩
    · rw [List.map_cons, TL.forS, e1, e3, ← forS_sim f I F h0 hs ms s' r' e2]; rfl
    · rw [List.map_cons, TL.forS, e1, e2]; rfl
theorem jn_simE {b : Int × ι → σ → Out (Lp σ γ)} {kf : σ → Out γ} (f : μ → ι) (I : σ → ρ → Nat → List μ → Prop) (F : ρ → Nat → List μ → Out γ) (h0 : ∀ s r k, I s r k [] → kf s = F r k [])
    (hs : ∀ m ms s r k, I s r k (m :: ms) → (∃ s' r', b ((k : Int), f m) s = .ok (.nx s') ∧ I s' r' (k + 1) ms ∧ F r k (m :: ms) = F r' (k + 1) ms) ∨ (∃ g, b ((k : Int), f m) s = .ok (.out g) ∧ F r k (m :: ms) = .ok g) ∨ (∃ c, b ((k : Int), f m) s = .exc c ∧ F r k (m :: ms) = .exc c)) :
    ∀ (ms : List μ) (s : σ) (r : ρ) (k : Nat), I s r k ms → TL.jn (TL.forF b (enumN k (ms.map f)) s) kf = F r k ms
  | [], s, r, k, h => h0 s r k h
  | m :: ms, s, r, k, h => by
    rcases hs m ms s r k h with ⟨s', r', e1, e2, e3⟩ | ⟨g, e1, e2⟩ | ⟨c, e1, e2⟩
    · rw [List.map_cons, enumN, TL.forF, e1, e3, ← jn_simE f I F h0 hs ms s' r' (k + 1) e2]; rfl
    · rw [List.map_cons, enumN, TL.forF, e1, e2]; rfl
    · rw [List.map_cons, enumN, TL.forF, e1, e2]; rfl
theorem rng_cons {k n : Nat} (h : k < n) : rng (k : Int) (n : Int) = (k : Int) :: rng ((k + 1 : Nat) : Int) (n : Int) := by
  unfold rng
  rw [show ((n : Int) - k).toNat = (n - (k + 1)) + 1 by omega, show ((n : Int) - ((k + 1 : Nat) : Int)).toNat = n - (k + 1) by omega, List.range_succ_eq_map]
  simp only [List.map_cons, List.map_map]
  refine congr (congrArg List.cons (by simp)) (List.map_congr_left fun a _ => ?_)
  simp only [Function.comp]
  omega
theorem rng_nil (n : Nat) : rng (n : Int) (n : Int) = [] := by simp [rng]
/-- a walk over the places of a list -/
theorem jn_simR {b : Int → σ → Out (Lp σ γ)} {kf : σ → Out γ} (I : σ → ρ → Nat → List μ → Prop) (F : ρ → Nat → List μ → Out γ) (h0 : ∀ s r k, I s r k [] → kf s = F r k [])
    (hs : ∀ m ms s r k, I s r k (m :: ms) → (∃ s' r', b (k : Int) s = .ok (.nx s') ∧ I s' r' (k + 1) ms ∧ F r k (m :: ms) = F r' (k + 1) ms) ∨ (∃ g, b (k : Int) s = .ok (.out g) ∧ F r k (m :: ms) = .ok g) ∨ (∃ c, b (k : Int) s = .exc c ∧ F r k (m :: ms) = .exc c)) :
    ∀ (ms : List μ) (s : σ) (r : ρ) (k n : Nat), k + ms.length = n → I s r k ms → TL.jn (TL.forF b (rng (k : Int) (n : Int)) s) kf = F r k ms
  | [], s, r, k, n, hn, h => by
    simp only [List.length_nil, Nat.add_zero] at hn
    subst hn
    rw [rng_nil]; exact h0 s r k h
  | m :: ms, s, r, k, n, hn, h => by
    simp only [List.length_cons] at hn
    rw [rng_cons (show k < n by omega)]
    rcases hs m ms s r k h with ⟨s', r', e1, e2, e3⟩ | ⟨g, e1, e2⟩ | ⟨c, e1, e2⟩
    · rw [TL.forF, e1, e3, ← jn_simR I F h0 hs ms s' r' (k + 1) n (by omega) e2]; rfl
    · rw [TL.forF, e1, e2]; rfl
    · rw [TL.forF, e1, e2]; rfl
/-! ### more places -/
theorem setR_litN {xs : List α} (n : Nat) {a : α} (h : n < xs.length) : setR xs (n : Int) a = .ok (xs.set n a) := setR_nat h
@[simp] theorem setR_c0 (x a : α) (xs : List α) : setR (x :: xs) 0 a = .ok (a :: xs) := setR_litN 0 (by simp)
@[simp] theorem setR_c1 (x y a : α) (xs : List α) : setR (x :: y :: xs) 1 a = .ok (x :: a :: xs) := setR_litN 1 (by simp)
@[simp] theorem setR_c2 (x y z a : α) (xs : List α) : setR (x :: y :: z :: xs) 2 a = .ok (x :: y :: a :: xs) := setR_litN 2 (by simp)
@[simp] theorem setR_c3 (x y z t a : α) (xs : List α) : setR (x :: y :: z :: t :: xs) 3 a = .ok (x :: y :: z :: a :: xs) := setR_litN 3 (by simp)
@[simp] theorem setR_c4 (x y z t u a : α) (xs : List α) : setR (x :: y :: z :: t :: u :: xs) 4 a = .ok (x :: y :: z :: t :: a :: xs) := setR_litN 4 (by simp)
@[simp] theorem of_some (a : α) : Out.of (some a) = .ok a := rfl
theorem at_c0 (x : α) (xs : List α) : atR (x :: xs) 0 = .ok x := atR_0 x xs
theorem at_c1 (x y : α) (xs : List α) : atR (x :: y :: xs) 1 = .ok y := by simp
theorem at_c2 (x y z : α) (xs : List α) : atR (x :: y :: z :: xs) 2 = .ok z := by simp
theorem at_c3 (x y z t : α) (xs : List α) : atR (x :: y :: z :: t :: xs) 3 = .ok t := by simp
theorem drop_c {l : List α} {i : Nat} {a : α} {r : List α} (h : l.drop i = a :: r) : l[i]? = some a ∧ i < l.length ∧ l.drop (i + 1) = r := by
  have hi : i < l.length := by
    rcases Nat.lt_or_ge i l.length with q | q
    · exact q
    · rw [List.drop_eq_nil_iff.mpr q] at h; cases h
  rw [List.drop_eq_getElem_cons hi] at h
  injection h with h1 h2
  exact ⟨by rw [List.getElem?_eq_getElem hi, h1], hi, h2⟩
theorem drop_n {l : List α} {i : Nat} (h : l.drop i = []) (hi : i ≤ l.length) : i = l.length := by
  have := List.drop_eq_nil_iff.mp h; omega
theorem sidx_lit {x y : List Nat} {i : Nat} {is : List Nat} (h : Builtin.Str.occurrences (S x) (S y) 0 (S x).length 1 = i :: is) : sidxR x y = .ok (i : Int) := by
  unfold sidxR
  have : D.sindex (cS x) [cS y] = some (.int (i : Int)) := by
    unfold cS D.sindex
    simp only [h]
  rw [this]
theorem lcR_map {xs : List μ} {f : μ → ι} {t : ι → Out Bool} {e : ι → Out α} (p : μ → Bool) (g : μ → α) (h : xs.length ≤ 16777216) (ht : ∀ x ∈ xs, t (f x) = .ok (p x)) (he : ∀ x ∈ xs, p x = true → e (f x) = .ok (g x)) : lcR t e (xs.map f) = .ok ((xs.filter p).map g) := by
  unfold lcR
  rw [if_pos (by simpa using h)]
  clear h
  induction xs with
  | nil => rfl
  | cons x xs ih =>
    rw [List.map_cons, lcM, ht x (by simp)]
    show (if p x = true then _ else _) = _
    rw [ih (fun y hy => ht y (by simp [hy])) fun y hy => he y (by simp [hy])]
    by_cases q : p x = true
    · rw [if_pos q, he x (by simp) q]; simp [q]
    · simp [q]
end
end TL
namespace TL
open PySem PySem.Spec PyProof.Rows L2 FL
noncomputable section
def P.is_word (thing : D) : Out Bool := (isD "str" thing).bind fun v3 => if v3 = true then (((itD thing).bind fun v1 => lcR (fun (sign : D) => Out.ok true) (fun (sign : D) => (opD D.isin sign (cS ([97, 98, 99, 100, 101, 102, 103, 104, 105, 106, 107, 108, 109, 110, 111, 112, 113, 114, 115, 116, 117, 118, 119, 120, 121, 122] : (List Nat))))) v1).bind fun v2 => Out.ok ((v2.all id))) else Out.ok false
def P.is_weaving (thing : D) : Out Bool := (isD "tuple" thing).bind fun v4 => if v4 = true then (((itD thing).bind fun v2 => lcR (fun (move : D) => Out.ok true) (fun (move : D) => ((isD "str" move).bind fun v1 => if v1 = true then (opD D.isin move ((cV cS) ([[120, 121], [120, 122], [116, 121], [116, 122]] : (List (List Nat))))) else Out.ok false)) v2).bind fun v3 => Out.ok ((v3.all id))) else Out.ok false
def P.raw_judged (words : (List (List Nat))) (weaving : (List (List Nat))) : Out D := (Out.ok ([(0 : Int), (0 : Int), (0 : Int), (0 : Int)] : List Int)).bind fun (taken : (List Int)) => jn (forF (fun ((at_, move) : (Int × (List Nat))) (taken : (List Int)) => (((sgR move (0 : Int)).bind fun v1 => sidxR ([120, 121, 122, 116] : (List Nat)) v1).bind fun v3 => ((sgR move (1 : Int)).bind fun v2 => sidxR ([120, 121, 122, 116] : (List Nat)) v2).bind fun v4 => Out.ok ((v3, v4))).bind fun (one, other) => (((atR taken one).bind fun v6 => ((atR words one).bind fun v5 => Out.ok ((v5.length : Int))).bind fun v7 => Out.ok ((decide (v6 = v7)))).bind fun v11 => if v11 = true then Out.ok true else ((atR taken other).bind fun v9 => ((atR words other).bind fun v8 => Out.ok ((v8.length : Int))).bind fun v10 => Out.ok ((decide (v9 = v10))))).bind fun v19 => if v19 = true then Out.ok (Lp.out ((c3 cS cI cS) (([114, 101, 102, 117, 115, 101, 100] : List Nat), at_, ([101, 110, 100] : List Nat)))) else (((atR words one).bind fun v12 => (atR taken one).bind fun v13 => sgR v12 v13).bind fun v16 => ((atR words other).bind fun v14 => (atR taken other).bind fun v15 => sgR v14 v15).bind fun v17 => Out.ok ((!decide (v16 = v17)))).bind fun v18 => if v18 = true then Out.ok (Lp.out ((c3 cS cI cS) (([114, 101, 102, 117, 115, 101, 100] : List Nat), at_, ([117, 110, 108, 105, 107, 101] : List Nat)))) else ((atR taken one).bind fun o => (Out.ok (o + (1 : Int))).bind fun w => setR taken one w).bind fun taken => ((atR taken other).bind fun o => (Out.ok (o + (1 : Int))).bind fun w => setR taken other w).bind fun taken => Out.ok (Lp.nx taken)) (enum weaving) taken) fun taken => ((lcA words (fun (word : (List Nat)) => (word.length : Int))).bind fun v20 => Out.ok ((!decide (taken = v20)))).bind fun v21 => if v21 = true then Out.ok ((c3 cS cI cS) (([114, 101, 102, 117, 115, 101, 100] : List Nat), (weaving.length : Int), ([108, 101, 102, 116] : List Nat))) else Out.ok ((c1 cS) (([119, 111, 118, 101, 110] : List Nat)))
def P.check_words (words : (List D)) : Out Unit := (forS (fun (word : D) (_ : Unit) => ((P.is_word word).bind fun v1 => Out.ok ((!v1))).bind fun v2 => if v2 = true then Out.exc "NoWord" else Out.ok ()) words ()).bind fun _ => Out.ok ()
def P.check_weaving (weaving : D) : Out Unit := ((P.is_weaving weaving).bind fun v1 => Out.ok ((!v1))).bind fun v2 => if v2 = true then Out.exc "NoWeaving" else Out.ok ()
def P.judged (x : D) (y : D) (z : D) (t : D) (weaving : D) : Out D := (P.check_words ([x, y, z, t] : List D)).bind fun _ => (P.check_weaving weaving).bind fun _ => ((asS x).bind fun v1 => (asS y).bind fun v2 => (asS z).bind fun v3 => (asS t).bind fun v4 => Out.ok (([v1, v2, v3, v4] : List (List Nat)))).bind fun v5 => ((asU asS) weaving).bind fun v6 => P.raw_judged v5 v6
end
end TL
namespace TL
open PySem PySem.Spec PyProof.Rows L2 FL
noncomputable section
def P.is_integer (thing : D) : Out Bool := (isD "int" thing).bind fun v2 => if v2 = true then ((isD "bool" thing).bind fun v1 => Out.ok ((!v1))) else Out.ok false
def P.is_tuple (thing : D) (least : Int) (most : Int) : Out Bool := (isD "tuple" thing).bind fun v2 => if v2 = true then ((lenD thing).bind fun v1 => if (decide (least ≤ v1)) = true then Out.ok ((decide (v1 ≤ most))) else Out.ok false) else Out.ok false
def P.is_within (thing : D) (low : Int) (high : Int) : Out Bool := (P.is_integer thing).bind fun v2 => if v2 = true then ((opD D.le (cI low) thing).bind fun v1 => if v1 = true then opD D.le thing (cI high) else Out.ok false) else Out.ok false
end
end TL
namespace TL
open PySem PySem.Spec PyProof.Rows L2 FL
noncomputable section
def P.divisor (one : Int) (other : Int) : Out Int := jn (whF (fun ((one, other) : Int × Int) => (Out.ok (!decide (other = (0 : Int))))) (fun ((one, other) : Int × Int) => ((modR one other).bind fun v1 => Out.ok ((other, v1))).bind fun (one, other) => Out.ok (Lp.nx (one, other))) (one, other)) fun (one, other) => Out.ok one
def P.made (top : Int) (bottom : Int) : Out (Int × Int) := (P.divisor top bottom).bind fun (by_ : Int) => (divR top by_).bind fun v1 => (divR bottom by_).bind fun v2 => Out.ok ((v1, v2))
end
end TL
namespace TL
open PySem PySem.Spec PyProof.Rows L2 FL
noncomputable section
def P.read_off (x : (List Nat)) (y : (List Nat)) (z : (List Nat)) (weaving : (List (List Nat))) : Out ((List Nat) × (List Nat)) := (Out.ok (([([120], x), ([121], y), ([122], z)] : (List ((List Nat) × (List Nat)))), ([([120], (0 : Int)), ([121], (0 : Int)), ([122], (0 : Int))] : (List ((List Nat) × Int))), ([] : List Nat), ([] : List Nat), ())).bind fun (words, taken, row, made, _) => (forS (fun (move : (List Nat)) ((taken, row, made) : (List ((List Nat) × Int)) × (List Nat) × (List Nat)) => (sgR move (1 : Int)).bind fun (side : (List Nat)) => ((getR taken side).bind fun v2 => ((getR words side).bind fun v1 => Out.ok ((v1.length : Int))).bind fun v3 => Out.ok ((decide (v2 = v3)))).bind fun v13 => if v13 = true then Out.exc "NotWoven" else ((getR words side).bind fun v4 => (getR taken side).bind fun v5 => sgR v4 v5).bind fun (letter : (List Nat)) => ((getR taken side).bind fun o => (Out.ok (o + (1 : Int))).bind fun w => putR taken side w).bind fun taken => (catR row letter).bind fun (row : (List Nat)) => ((sgR move (0 : Int)).bind fun v6 => Out.ok ((decide (v6 = ([116] : List Nat))))).bind fun v12 => if v12 = true then (catR made letter).bind fun (made : (List Nat)) => Out.ok (taken, row, made) else (((getR taken ([120] : List Nat)).bind fun v7 => Out.ok ((decide (v7 = (x.length : Int))))).bind fun v10 => if v10 = true then Out.ok true else (((getR taken ([120] : List Nat)).bind fun v8 => sgR x v8).bind fun v9 => Out.ok ((!decide (v9 = letter))))).bind fun v11 => if v11 = true then Out.exc "NotWoven" else ((getR taken ([120] : List Nat)).bind fun o => (Out.ok (o + (1 : Int))).bind fun w => putR taken ([120] : List Nat) w).bind fun taken => Out.ok (taken, row, made)) weaving (taken, row, made)).bind fun (taken, row, made) => (((getR taken ([120] : List Nat)).bind fun v14 => (getR taken ([121] : List Nat)).bind fun v15 => (getR taken ([122] : List Nat)).bind fun v16 => Out.ok (([v14, v15, v16] : List Int))).bind fun v17 => Out.ok ((!decide (v17 = ([(x.length : Int), (y.length : Int), (z.length : Int)] : List Int))))).bind fun v18 => if v18 = true then Out.exc "NotWoven" else Out.ok (row, made)
end
end TL
namespace TL
open PySem PySem.Spec PyProof.Rows L2 FL
end TL
namespace TL
open PySem PySem.Spec PyProof.Rows L2 FL
noncomputable section
def P.quad_of (row : (List Nat)) (weaving : (List (List Nat))) : Out (List (List Nat)) := (lcR (fun (side : (List Nat)) => Out.ok true) (fun (side : (List Nat)) => ((lcP (weaving.zip (sgs row)) (fun ((move, letter) : ((List Nat) × (List Nat))) => (inS side move)) (fun ((move, letter) : ((List Nat) × (List Nat))) => letter)).bind fun v1 => joinR ([] : List Nat) v1)) (sgs ([120, 121, 122, 116] : List Nat))).bind fun v2 => Out.ok (v2)
def P.w_cell (script : (List Int)) (place : Int) : Out Int := if (decide (place < (script.length : Int))) = true then atR script place else Out.ok (0 : Int)
def P.w_letter (number : Int) : Out (List Nat) := (modR number (26 : Int)).bind fun v1 => sgR ([97, 98, 99, 100, 101, 102, 103, 104, 105, 106, 107, 108, 109, 110, 111, 112, 113, 114, 115, 116, 117, 118, 119, 120, 121, 122] : List Nat) v1
def P.w_judged_2 (words : (List (List Nat))) (weaving : (List (List Nat))) : Out D := ((atR words (0 : Int)).bind fun v1 => (atR words (1 : Int)).bind fun v2 => (atR words (2 : Int)).bind fun v3 => (atR words (3 : Int)).bind fun v4 => Out.ok (([([120], v1), ([121], v2), ([122], v3), ([116], v4)] : (List ((List Nat) × (List Nat)))))).bind fun (left : (List ((List Nat) × (List Nat)))) => jn ((rng1 (weaving.length : Int)).bind fun v20 => forF (fun (k : Int) (left : (List ((List Nat) × (List Nat)))) => ((atR weaving k).bind fun v5 => sgR v5 (0 : Int)).bind fun (one : (List Nat)) => ((atR weaving k).bind fun v6 => sgR v6 (1 : Int)).bind fun (other : (List Nat)) => (((getR left one).bind fun v7 => Out.ok ((decide (v7 = ([] : List Nat))))).bind fun v9 => if v9 = true then Out.ok true else ((getR left other).bind fun v8 => Out.ok ((decide (v8 = ([] : List Nat)))))).bind fun v19 => if v19 = true then Out.ok (Lp.out ((c3 cS cI cS) (([114, 101, 102, 117, 115, 101, 100] : List Nat), k, ([101, 110, 100] : List Nat)))) else (((getR left one).bind fun v10 => sgR v10 (0 : Int)).bind fun v12 => ((getR left other).bind fun v11 => sgR v11 (0 : Int)).bind fun v13 => Out.ok ((!decide (v12 = v13)))).bind fun v18 => if v18 = true then Out.ok (Lp.out ((c3 cS cI cS) (([114, 101, 102, 117, 115, 101, 100] : List Nat), k, ([117, 110, 108, 105, 107, 101] : List Nat)))) else (((getR left one).bind fun v14 => Out.ok ((slS (some (1 : Int)) none v14))).bind fun v15 => putR left one v15).bind fun left => (((getR left other).bind fun v16 => Out.ok ((slS (some (1 : Int)) none v16))).bind fun v17 => putR left other v17).bind fun left => Out.ok (Lp.nx left)) v20 left) fun left => (((((getR left ([120] : List Nat)).bind fun v21 => (getR left ([121] : List Nat)).bind fun v22 => catR v21 v22).bind fun v23 => (getR left ([122] : List Nat)).bind fun v24 => catR v23 v24).bind fun v25 => (getR left ([116] : List Nat)).bind fun v26 => catR v25 v26).bind fun v27 => Out.ok ((!decide (v27 = ([] : List Nat))))).bind fun v28 => if v28 = true then Out.ok ((c3 cS cI cS) (([114, 101, 102, 117, 115, 101, 100] : List Nat), (weaving.length : Int), ([108, 101, 102, 116] : List Nat))) else Out.ok ((c1 cS) (([119, 111, 118, 101, 110] : List Nat)))
def P.w_front (words : (List (List Nat))) (weaving : (List (List Nat))) : Out ((List (List Nat)) × (List (List Nat))) := (Out.ok ([([120], (0 : Int)), ([121], (0 : Int)), ([122], (0 : Int)), ([116], (0 : Int))] : (List ((List Nat) × Int)))).bind fun (sizes : (List ((List Nat) × Int))) => (forS (fun (move : (List Nat)) (sizes : (List ((List Nat) × Int))) => (forS (fun (side : (List Nat)) (sizes : (List ((List Nat) × Int))) => (((getR sizes side).bind fun v1 => Out.ok ((v1 + (1 : Int)))).bind fun v2 => putR sizes side v2).bind fun sizes => Out.ok sizes) (sgs move) sizes).bind fun sizes => Out.ok sizes) weaving sizes).bind fun sizes => (Out.ok ([120, 121, 122, 116] : List Nat)).bind fun (names : (List Nat)) => (((rng1 (4 : Int)).bind fun v7 => lcR (fun (k : Int) => Out.ok true) (fun (k : Int) => ((atR words k).bind fun v5 => (((sgR names k).bind fun v3 => getR sizes v3).bind fun v4 => Out.ok ((some v4))).bind fun v6 => Out.ok ((slS none v6 v5)))) v7).bind fun v8 => Out.ok (v8)).bind fun (front : (List (List Nat))) => (((rng1 (4 : Int)).bind fun v13 => lcR (fun (k : Int) => Out.ok true) (fun (k : Int) => ((atR words k).bind fun v11 => (((sgR names k).bind fun v9 => getR sizes v9).bind fun v10 => Out.ok ((some v10))).bind fun v12 => Out.ok ((slS v12 none v11)))) v13).bind fun v14 => Out.ok (v14)).bind fun v15 => Out.ok ((front, v15))
def P.check_quad (quad : D) : Out Unit := (((P.is_tuple quad (4 : Int) (4 : Int)).bind fun v1 => Out.ok ((!v1))).bind fun v5 => if v5 = true then Out.ok true else ((((itD quad).bind fun v2 => lcR (fun (word : D) => Out.ok true) (fun (word : D) => (P.is_word word)) v2).bind fun v3 => Out.ok ((v3.all id))).bind fun v4 => Out.ok ((!v4)))).bind fun v6 => if v6 = true then Out.exc "NoQuad" else Out.ok ()
def P.w_draw_2 (script : (List Int)) (place : Int) (turn : Int) (many : Int) : Out Int := (P.w_cell script place).bind fun (cell : Int) => ((powR (10 : Int) (18 : Int)).bind fun v1 => Out.ok ((decide (v1 ≤ cell)))).bind fun v24 => if v24 = true then ((rng1 turn).bind fun v2 => forS (fun (step : Int) (cell : Int) => (divR cell (1009 : Int)).bind fun (cell : Int) => Out.ok cell) v2 cell).bind fun cell => modR cell many else ((((((mulR cell (48271 : Int)).bind fun v4 => (mulR place (7919 : Int)).bind fun v5 => Out.ok ((v4 + v5))).bind fun v6 => (mulR turn (69621 : Int)).bind fun v7 => Out.ok ((v6 + v7))).bind fun v8 => Out.ok ((v8 + (11 : Int)))).bind fun v9 => Out.ok (v9)).bind fun v10 => modR v10 (2147483647 : Int)).bind fun (number : Int) => ((((powR number (5 : Int)).bind fun v11 => (mulR turn (16811 : Int)).bind fun v12 => Out.ok ((v11 + v12))).bind fun v13 => Out.ok (v13)).bind fun v14 => modR v14 (2147483629 : Int)).bind fun (number : Int) => ((((((divR number (1009 : Int)).bind fun v15 => Out.ok ((v15 + (69621 : Int)))).bind fun v16 => (mulR (31 : Int) turn).bind fun v17 => Out.ok ((v16 + v17))).bind fun v18 => mulR number v18).bind fun v19 => Out.ok (v19)).bind fun v20 => modR v20 (2147483587 : Int)).bind fun (number : Int) => ((divR number (16 : Int)).bind fun v21 => Out.ok (v21)).bind fun v22 => modR v22 many
def P.joined_quads (one : D) (other : D) : Out (List (List Nat)) := (P.check_quad one).bind fun _ => (P.check_quad other).bind fun _ => (((itD one).bind fun v1 => (itD other).bind fun v2 => Out.ok (v1.zip v2)).bind fun v5 => lcR (fun ((mine, its) : (D × D)) => Out.ok true) (fun ((mine, its) : (D × D)) => ((asS mine).bind fun v3 => (asS its).bind fun v4 => catR v3 v4)) v5).bind fun v6 => Out.ok (v6)
def P.joined_weavings (one : D) (other : D) : Out (List (List Nat)) := (P.check_weaving one).bind fun _ => (P.check_weaving other).bind fun _ => ((asU asS) one).bind fun v1 => ((asU asS) other).bind fun v2 => catR v1 v2
def P.parts_at (x : D) (y : D) (z : D) (weaving : D) (at_ : D) : Out ((List (List Nat)) × (List (List Nat))) := (P.check_words ([x, y, z] : List D)).bind fun _ => (P.check_weaving weaving).bind fun _ => ((asS x).bind fun v1 => (asS y).bind fun v2 => (asS z).bind fun v3 => ((asU asS) weaving).bind fun v4 => P.read_off v1 v2 v3 v4).bind fun (row, made) => (((lenD weaving).bind fun v5 => P.is_within at_ (0 : Int) v5).bind fun v6 => Out.ok ((!v6))).bind fun v24 => if v24 = true then Out.exc "NoNumber" else ((((asI at_).bind fun v7 => Out.ok ((some v7))).bind fun v8 => Out.ok ((slS none v8 row))).bind fun v12 => ((((asI at_).bind fun v9 => Out.ok ((some v9))).bind fun v10 => slD none v10 weaving).bind fun v11 => (asU asS) v11).bind fun v13 => P.quad_of v12 v13).bind fun v21 => ((((asI at_).bind fun v14 => Out.ok ((some v14))).bind fun v15 => Out.ok ((slS v15 none row))).bind fun v19 => ((((asI at_).bind fun v16 => Out.ok ((some v16))).bind fun v17 => slD v17 none weaving).bind fun v18 => (asU asS) v18).bind fun v20 => P.quad_of v19 v20).bind fun v22 => Out.ok ((v21, v22))
def P.w_quad (script : (List Int)) (place : Int) (turn : Int) (most : Int) : Out ((List Nat) × (List Nat) × (List Nat) × (List Nat) × (List (List Nat))) := (Out.ok ([([120], ([] : List Nat)), ([121], ([] : List Nat)), ([122], ([] : List Nat)), ([116], ([] : List Nat))] : (List ((List Nat) × (List Nat))))).bind fun (words : (List ((List Nat) × (List Nat)))) => (Out.ok ([] : List (List Nat))).bind fun (weaving : (List (List Nat))) => ((P.w_draw_2 script place turn (4 : Int)).bind fun v1 => atR ([(1 : Int), (2 : Int), (3 : Int), (26 : Int)] : List Int) v1).bind fun (wide : Int) => (P.w_draw_2 script place (turn + (1 : Int)) (26 : Int)).bind fun (start : Int) => (((P.w_draw_2 script place (turn + (2 : Int)) (most + (1 : Int))).bind fun v2 => rng1 v2).bind fun v18 => forS (fun (k : Int) ((words, weaving) : (List ((List Nat) × (List Nat))) × (List (List Nat))) => ((((mulR (2 : Int) k).bind fun v3 => Out.ok (((turn + (3 : Int)) + v3))).bind fun v4 => P.w_draw_2 script place v4 (4 : Int)).bind fun v5 => atR ([([120, 121] : List Nat), ([120, 122] : List Nat), ([116, 121] : List Nat), ([116, 122] : List Nat)] : List (List Nat)) v5).bind fun (move : (List Nat)) => (((((mulR (2 : Int) k).bind fun v6 => Out.ok (((turn + (4 : Int)) + v6))).bind fun v7 => P.w_draw_2 script place v7 wide).bind fun v8 => Out.ok ((start + v8))).bind fun v9 => P.w_letter v9).bind fun (letter : (List Nat)) => (appR weaving move).bind fun weaving => ((((sgR move (0 : Int)).bind fun v10 => getR words v10).bind fun v11 => catR v11 letter).bind fun v12 => (sgR move (0 : Int)).bind fun v13 => putR words v13 v12).bind fun words => ((((sgR move (1 : Int)).bind fun v14 => getR words v14).bind fun v15 => catR v15 letter).bind fun v16 => (sgR move (1 : Int)).bind fun v17 => putR words v17 v16).bind fun words => Out.ok (words, weaving)) v18 (words, weaving)).bind fun (words, weaving) => (getR words ([120] : List Nat)).bind fun v19 => (getR words ([121] : List Nat)).bind fun v20 => (getR words ([122] : List Nat)).bind fun v21 => (getR words ([116] : List Nat)).bind fun v22 => Out.ok ((v19, v20, v21, v22, weaving))
def P.w_refused_2 (way : Int) (asked : (List D)) : Out (List Nat) := (Out.ok ([] : List Nat)).bind fun (told : (List Nat)) => (tryR ["NoNumber", "NoQuad", "NoWeaving", "NoWord", "NotWoven"] (goH [(["NoQuad"], (Out.ok ([113, 117, 97, 100] : List Nat)).bind fun (told : (List Nat)) => Out.ok told), (["NoWeaving"], (Out.ok ([119, 101, 97, 118, 105, 110, 103] : List Nat)).bind fun (told : (List Nat)) => Out.ok told), (["NoWord"], (Out.ok ([119, 111, 114, 100] : List Nat)).bind fun (told : (List Nat)) => Out.ok told), (["NotWoven"], (Out.ok ([119, 111, 118, 101, 110] : List Nat)).bind fun (told : (List Nat)) => Out.ok told), (["NoNumber"], (Out.ok ([110, 117, 109, 98, 101, 114] : List Nat)).bind fun (told : (List Nat)) => Out.ok told)]) (if (decide (way = (0 : Int))) = true then ((atR asked (0 : Int)).bind fun v10 => (atR asked (1 : Int)).bind fun v11 => P.joined_quads v10 v11).bind fun _ => Out.ok told else if (decide (way = (1 : Int))) = true then ((atR asked (0 : Int)).bind fun v12 => (atR asked (1 : Int)).bind fun v13 => P.joined_weavings v12 v13).bind fun _ => Out.ok told else ((atR asked (0 : Int)).bind fun v14 => (atR asked (1 : Int)).bind fun v15 => (atR asked (2 : Int)).bind fun v16 => (atR asked (3 : Int)).bind fun v17 => (atR asked (4 : Int)).bind fun v18 => P.parts_at v14 v15 v16 v17 v18).bind fun _ => Out.ok told)).bind fun told => Out.ok told
def P.w_refusals (script : (List Int)) (place : Int) (words : (List (List Nat))) (weaving : (List (List Nat))) : Out Bool := ((P.w_draw_2 script place (61 : Int) (6 : Int)).bind fun v1 => atR ([(cN ()), (cS ([120, 121] : List Nat)), ((cL cS) weaving), ((c1 cS) (([121, 120] : List Nat))), ((c1 cS) (([120, 116] : List Nat))), ((c1 cI) ((1 : Int)))] : List D) v1).bind fun (none_ : D) => (((catR words [([] : List Nat)]).bind fun v2 => Out.ok (((cU cS) v2))).bind fun v3 => Out.ok (([(cN ()), ((cU cS) (slL none (some (3 : Int)) words)), ((cL cS) words), v3, ((c4 cS cS cS cS) (([65] : List Nat), ([] : List Nat), ([] : List Nat), ([] : List Nat))), ((c4 cN cS cS cS) ((), ([] : List Nat), ([] : List Nat), ([] : List Nat)))] : List D))).bind fun (quad : (List D)) => ((P.w_draw_2 script place (62 : Int) (6 : Int)).bind fun v4 => atR quad v4).bind fun (quad : D) => ((P.w_draw_2 script place (63 : Int) (5 : Int)).bind fun v5 => atR ([(cI (-1)), (cI ((weaving.length : Int) + (1 : Int))), (cN ()), (cB true), (cS ([48] : List Nat))] : List D) v5).bind fun (odd : D) => ((P.w_draw_2 script place (64 : Int) (4 : Int)).bind fun v6 => atR ([(cN ()), (cS ([65] : List Nat)), (cS ([97, 32, 98] : List Nat)), (cI (7 : Int))] : List D) v6).bind fun (bad : D) => ((Out.ok words).bind unp4).bind fun (x, y, z, t) => (((P.w_refused_2 (0 : Int) ([quad, ((cU cS) words)] : List D)).bind fun v7 => Out.ok ((!decide (v7 = ([113, 117, 97, 100] : List Nat))))).bind fun v9 => if v9 = true then Out.ok true else ((P.w_refused_2 (0 : Int) ([((cU cS) words), quad] : List D)).bind fun v8 => Out.ok ((!decide (v8 = ([113, 117, 97, 100] : List Nat)))))).bind fun v23 => if v23 = true then Out.ok false else (((P.w_refused_2 (1 : Int) ([none_, ((cU cS) weaving)] : List D)).bind fun v10 => Out.ok ((!decide (v10 = ([119, 101, 97, 118, 105, 110, 103] : List Nat))))).bind fun v12 => if v12 = true then Out.ok true else ((P.w_refused_2 (1 : Int) ([((cU cS) weaving), none_] : List D)).bind fun v11 => Out.ok ((!decide (v11 = ([119, 101, 97, 118, 105, 110, 103] : List Nat)))))).bind fun v22 => if v22 = true then Out.ok false else (catR weaving [([120, 121] : List Nat)]).bind fun (more : (List (List Nat))) => (((P.w_refused_2 (2 : Int) ([(cS x), (cS y), (cS z), ((cU cS) weaving), odd] : List D)).bind fun v13 => Out.ok ((!decide (v13 = ([110, 117, 109, 98, 101, 114] : List Nat))))).bind fun v15 => if v15 = true then Out.ok true else ((P.w_refused_2 (2 : Int) ([(cS x), (cS y), (cS z), ((cU cS) more), odd] : List D)).bind fun v14 => Out.ok ((!decide (v14 = ([119, 111, 118, 101, 110] : List Nat)))))).bind fun v21 => if v21 = true then Out.ok false else ((P.w_refused_2 (2 : Int) ([(cS x), (cS y), (cS z), none_, odd] : List D)).bind fun v16 => Out.ok ((!decide (v16 = ([119, 101, 97, 118, 105, 110, 103] : List Nat))))).bind fun v20 => if v20 = true then Out.ok false else (Out.ok ([(cS x), (cS y), (cS z), none_, odd] : List D)).bind fun (asked : (List D)) => ((P.w_draw_2 script place (65 : Int) (3 : Int)).bind fun v17 => setR asked v17 bad).bind fun asked => (P.w_refused_2 (2 : Int) asked).bind fun v18 => Out.ok ((decide (v18 = ([119, 111, 114, 100] : List Nat))))
def P.w_right (script : (List Int)) (place : Int) : Out Bool := (P.w_quad script place (0 : Int) (10 : Int)).bind fun (one : ((List Nat) × (List Nat) × (List Nat) × (List Nat) × (List (List Nat)))) => (P.w_quad script place (30 : Int) (10 : Int)).bind fun (other : ((List Nat) × (List Nat) × (List Nat) × (List Nat) × (List (List Nat)))) => (P.joined_quads ((c4 cS cS cS cS) (one.1, one.2.1, one.2.2.1, one.2.2.2.1)) ((c4 cS cS cS cS) (other.1, other.2.1, other.2.2.1, other.2.2.2.1))).bind fun (words : (List (List Nat))) => (P.joined_weavings ((cU cS) one.2.2.2.2) ((cU cS) other.2.2.2.2)).bind fun (weaving : (List (List Nat))) => (((isD "tuple" ((cU cS) words)).bind fun v1 => Out.ok ((!v1))).bind fun v9 => if v9 = true then Out.ok true else ((((rng1 (4 : Int)).bind fun v6 => lcR (fun (k : Int) => Out.ok true) (fun (k : Int) => (((ixD ((c5 cS cS cS cS (cU cS)) one) k).bind fun v2 => asS v2).bind fun v4 => ((ixD ((c5 cS cS cS cS (cU cS)) other) k).bind fun v3 => asS v3).bind fun v5 => catR v4 v5)) v6).bind fun v7 => Out.ok (v7)).bind fun v8 => Out.ok ((!decide (words = v8))))).bind fun v32 => if v32 = true then Out.ok false else (((isD "tuple" ((cU cS) weaving)).bind fun v10 => Out.ok ((!v10))).bind fun v12 => if v12 = true then Out.ok true else ((catR one.2.2.2.2 other.2.2.2.2).bind fun v11 => Out.ok ((!decide (weaving = v11))))).bind fun v31 => if v31 = true then Out.ok false else ((Out.ok words).bind unp4).bind fun (x, y, z, t) => (((P.w_judged_2 words weaving).bind fun v13 => neD v13 ((c1 cS) (([119, 111, 118, 101, 110] : List Nat)))).bind fun v15 => if v15 = true then Out.ok true else ((P.judged (cS x) (cS y) (cS z) (cS t) ((cU cS) weaving)).bind fun v14 => neD v14 ((c1 cS) (([119, 111, 118, 101, 110] : List Nat))))).bind fun v30 => if v30 = true then Out.ok false else (((P.parts_at (cS x) (cS y) (cS z) ((cU cS) weaving) (cI (one.2.2.2.2.length : Int))).bind fun v16 => Out.ok (((c2 (cU cS) (cU cS)) v16))).bind fun v17 => neD v17 ((c2 (c4 cS cS cS cS) (c4 cS cS cS cS)) ((one.1, one.2.1, one.2.2.1, one.2.2.2.1), (other.1, other.2.1, other.2.2.1, other.2.2.2.1)))).bind fun v29 => if v29 = true then Out.ok false else (P.w_draw_2 script place (60 : Int) ((weaving.length : Int) + (1 : Int))).bind fun (at_ : Int) => (P.parts_at (cS x) (cS y) (cS z) ((cU cS) weaving) (cI at_)).bind fun (found : ((List (List Nat)) × (List (List Nat)))) => (((isD "tuple" ((c2 (cU cS) (cU cS)) found)).bind fun v18 => Out.ok ((!v18))).bind fun v20 => if v20 = true then Out.ok true else ((P.w_front words (slL none (some at_) weaving)).bind fun v19 => Out.ok ((!decide (found = v19))))).bind fun v28 => if v28 = true then Out.ok false else (((P.w_judged_2 found.1 (slL none (some at_) weaving)).bind fun v21 => neD v21 ((c1 cS) (([119, 111, 118, 101, 110] : List Nat)))).bind fun v23 => if v23 = true then Out.ok true else ((P.w_judged_2 found.2 (slL (some at_) none weaving)).bind fun v22 => neD v22 ((c1 cS) (([119, 111, 118, 101, 110] : List Nat))))).bind fun v27 => if v27 = true then Out.ok false else ((P.joined_quads ((cU cS) found.1) ((cU cS) found.2)).bind fun v24 => Out.ok ((!decide (v24 = words)))).bind fun v26 => if v26 = true then Out.ok false else P.w_refusals script place [(one.1, one.2.1, one.2.2.1, one.2.2.2.1).1, (one.1, one.2.1, one.2.2.1, one.2.2.2.1).2.1, (one.1, one.2.1, one.2.2.1, one.2.2.2.1).2.2.1, (one.1, one.2.1, one.2.2.1, one.2.2.2.1).2.2.2] one.2.2.2.2
def P.law_6 (script : (List Int)) : Out Bool := jn ((rng1 (max2 (2 : Int) (min2 (script.length : Int) (24 : Int)))).bind fun v3 => forF (fun (place : Int) (_ : Unit) => ((P.w_right script place).bind fun v1 => Out.ok ((!v1))).bind fun v2 => if v2 = true then Out.ok (Lp.out false) else Out.ok (Lp.nx ())) v3 ()) fun _ => Out.ok true
end
end TL
namespace TL
open PySem PySem.Spec PyProof.Rows L2 FL
/-! ### numbers -/
/-! ### is a thing itself -/
end TL
namespace TL
open PySem PySem.Spec PyProof.Rows L2 FL
/-! ### words and weavings -/
theorem is_word_ok {l : List Nat} (h : AllL l) (hl : l.length ≤ 16777216) : P.is_word (cS l) = .ok true := by
  unfold P.is_word
  rw [isD_str, Out.ok_bind, if_pos rfl, itD_S, Out.ok_bind, lcR_okA (fun _ => true) (by simpa using hl)]
  · simp
  · intro x hx
    obtain ⟨c, hc, rfl⟩ := List.mem_map.mp hx
    rw [opD_inS, inS_1]
    exact congrArg Out.ok (decide_eq_true (h c hc))
theorem check_words_ok {ds : List D} (h : ∀ d ∈ ds, P.is_word d = .ok true) : P.check_words ds = .ok () := by
  refine Sat.is ?_
  unfold P.check_words
  refine Sat.bind (fun _ => True) (Sat.forS (fun _ _ => True) trivial ?_ fun _ _ => trivial) (by simp)
  intro i x s hx _
  rw [h x (List.mem_of_getElem? hx)]
  simp
abbrev mXY : List Nat := [120, 121]
abbrev mXZ : List Nat := [120, 122]
abbrev mTY : List Nat := [116, 121]
abbrev mTZ : List Nat := [116, 122]
def MV (ms : List (List Nat)) : Prop := ∀ m ∈ ms, m = mXY ∨ m = mXZ ∨ m = mTY ∨ m = mTZ
theorem is_weaving_ok {ms : List (List Nat)} (h : MV ms) (hl : ms.length ≤ 16777216) : P.is_weaving (cU cS ms) = .ok true := by
  unfold P.is_weaving
  have e1 : isD "tuple" (cU cS ms) = .ok true := by simp [isD, cU]; decide
  have e2 : itD (cU cS ms) = .ok (ms.map cS) := by simp [itD, cU]
  rw [e1, Out.ok_bind, if_pos rfl, e2, Out.ok_bind, lcR_okA (fun _ => true) (by simpa using hl)]
  · simp
  · intro x hx
    obtain ⟨m, hm, rfl⟩ := List.mem_map.mp hx
    rw [isD_str, Out.ok_bind, if_pos rfl]
    rw [opD_inV]
    rcases h m hm with rfl | rfl | rfl | rfl <;> rfl
theorem check_weaving_ok {ms : List (List Nat)} (h : MV ms) (hl : ms.length ≤ 16777216) : P.check_weaving (cU cS ms) = .ok () := by
  unfold P.check_weaving
  rw [is_weaving_ok h hl]
  rfl
/-! ### woven words -/
end TL
namespace TL
open PySem PySem.Spec PyProof.Rows L2 FL
/-! ### moves -/
structure Mv where
  t : Bool
  z : Bool
def mvN (m : Mv) : List Nat := [if m.t = true then 116 else 120, if m.z = true then 122 else 121]
theorem MV.ex : ∀ {ms : List (List Nat)}, MV ms → ∃ l : List Mv, ms = l.map mvN
  | [], _ => ⟨[], rfl⟩
  | m :: ms, h => by
    obtain ⟨l, rfl⟩ := MV.ex (ms := ms) fun k hk => h k (List.mem_cons_of_mem _ hk)
    rcases h m (by simp) with rfl | rfl | rfl | rfl
    · exact ⟨⟨false, false⟩ :: l, rfl⟩
    · exact ⟨⟨false, true⟩ :: l, rfl⟩
    · exact ⟨⟨true, false⟩ :: l, rfl⟩
    · exact ⟨⟨true, true⟩ :: l, rfl⟩
theorem mv_MV (l : List Mv) : MV (l.map mvN) := fun m h => by
  obtain ⟨⟨a, b⟩, _, rfl⟩ := List.mem_map.mp h
  cases a <;> cases b <;> simp [mvN]
/-! ### the judge -/
inductive Vd where
  | wov | en (k : Nat) | un (k : Nat) | le (k : Nat)
abbrev kRef : List Nat := [114, 101, 102, 117, 115, 101, 100]
abbrev kEnd : List Nat := [101, 110, 100]
abbrev kUn : List Nat := [117, 110, 108, 105, 107, 101]
abbrev kLeft : List Nat := [108, 101, 102, 116]
abbrev kWov : List Nat := [119, 111, 118, 101, 110]
def Vd.d : Vd → D
  | .wov => c1 cS kWov
  | .en k => c3 cS cI cS (kRef, (k : Int), kEnd)
  | .un k => c3 cS cI cS (kRef, (k : Int), kUn)
  | .le k => c3 cS cI cS (kRef, (k : Int), kLeft)
def jd : Nat → List Nat → List Nat → List Nat → List Nat → List Mv → Vd
  | k, x, y, z, t, [] => if x = [] ∧ y = [] ∧ z = [] ∧ t = [] then .wov else .le k
  | k, x, y, z, t, ⟨false, false⟩ :: ms => match x, y with
    | a :: x, b :: y => if a = b then jd (k + 1) x y z t ms else .un k
    | _, _ => .en k
  | k, x, y, z, t, ⟨false, true⟩ :: ms => match x, z with
    | a :: x, b :: z => if a = b then jd (k + 1) x y z t ms else .un k
    | _, _ => .en k
  | k, x, y, z, t, ⟨true, false⟩ :: ms => match t, y with
    | a :: t, b :: y => if a = b then jd (k + 1) x y z t ms else .un k
    | _, _ => .en k
  | k, x, y, z, t, ⟨true, true⟩ :: ms => match t, z with
    | a :: t, b :: z => if a = b then jd (k + 1) x y z t ms else .un k
    | _, _ => .en k
@[simp] theorem s4x : sidxR [120, 121, 122, 116] [120] = .ok 0 := sidx_lit (i := 0) (is := []) (by decide +kernel)
@[simp] theorem s4y : sidxR [120, 121, 122, 116] [121] = .ok 1 := sidx_lit (i := 1) (is := []) (by decide +kernel)
@[simp] theorem s4z : sidxR [120, 121, 122, 116] [122] = .ok 2 := sidx_lit (i := 2) (is := []) (by decide +kernel)
@[simp] theorem s4t : sidxR [120, 121, 122, 116] [116] = .ok 3 := sidx_lit (i := 3) (is := []) (by decide +kernel)
/-- what is left of four words -/
abbrev Q4 := List Nat × List Nat × List Nat × List Nat
theorem raw_judged_ok (x y z t : List Nat) (l : List Mv) : P.raw_judged [x, y, z, t] (l.map mvN) = .ok (jd 0 x y z t l).d := by
  unfold P.raw_judged
  rw [Out.ok_bind]
  refine (jn_simE mvN (fun (s : List Int) (r : Q4) k ms => ∃ i j p q : Nat, s = [(i : Int), j, p, q] ∧ r = (x.drop i, y.drop j, z.drop p, t.drop q) ∧ i ≤ x.length ∧ j ≤ y.length ∧ p ≤ z.length ∧ q ≤ t.length ∧ k + ms.length = l.length)
    (fun r k ms => .ok (jd k r.1 r.2.1 r.2.2.1 r.2.2.2 ms).d) ?_ ?_ l [0, 0, 0, 0] (x, y, z, t) 0 ⟨0, 0, 0, 0, rfl, rfl, by omega, by omega, by omega, by omega, by omega⟩)
  · rintro _ _ k ⟨i, j, p, q, rfl, rfl, hi, hj, hp, hq, hn⟩
    simp only [List.length_nil, Nat.add_zero] at hn
    subst hn
    rw [lcA_ok (by simp), Out.ok_bind, Out.ok_bind]
    simp only [jd]
    by_cases h : x.drop i = [] ∧ y.drop j = [] ∧ z.drop p = [] ∧ t.drop q = []
    · rw [if_pos h]
      obtain ⟨h1, h2, h3, h4⟩ := h
      have h1 := drop_n h1 hi; have h2 := drop_n h2 hj; have h3 := drop_n h3 hp; have h4 := drop_n h4 hq
      subst h1; subst h2; subst h3; subst h4
      simp [Vd.d]
    · rw [if_neg h]
      have : ¬([(i : Int), j, p, q] = [x, y, z, t].map fun w => (w.length : Int)) := fun e => h (by
        simp at e
        simp only [List.drop_eq_nil_iff]
        omega)
      rw [decide_eq_false this]
      simp [Vd.d]
  · rintro ⟨_ | _, _ | _⟩ ms _ _ k ⟨i, j, p, q, rfl, rfl, hi, hj, hp, hq, hn⟩ <;> simp only [List.length_cons] at hn
    · cases h1 : x.drop i with
      | nil =>
        have := drop_n h1 hi; subst this
        exact .inr (.inl ⟨(Vd.en k).d, by simp [mvN, Vd.d], by simp [jd]⟩)
      | cons a x' =>
        obtain ⟨a1, a2, a3⟩ := drop_c h1
        have a4 : ¬(i : Int) = x.length := by omega
        cases h2 : y.drop j with
        | nil =>
          have := drop_n h2 hj; subst this
          exact .inr (.inl ⟨(Vd.en k).d, by simp [mvN, a4, Vd.d], by simp [jd]⟩)
        | cons b y' =>
          obtain ⟨b1, b2, b3⟩ := drop_c h2
          have b4 : ¬(j : Int) = y.length := by omega
          by_cases e : a = b
          · subst e
            exact .inl ⟨[((i + 1 : Nat) : Int), ((j + 1 : Nat) : Int), p, q], (x', y', z.drop p, t.drop q), by simp [mvN, a4, b4, a1, b1], ⟨i + 1, j + 1, p, q, rfl, by rw [a3, b3], by omega, by omega, by omega, by omega, by omega⟩, by simp [jd]⟩
          · exact .inr (.inl ⟨(Vd.un k).d, by simp [mvN, a4, b4, a1, b1, e, Vd.d], by simp [jd, e]⟩)
    · cases h1 : x.drop i with
      | nil =>
        have := drop_n h1 hi; subst this
        exact .inr (.inl ⟨(Vd.en k).d, by simp [mvN, Vd.d], by simp [jd]⟩)
      | cons a x' =>
        obtain ⟨a1, a2, a3⟩ := drop_c h1
        have a4 : ¬(i : Int) = x.length := by omega
        cases h2 : z.drop p with
        | nil =>
          have := drop_n h2 hp; subst this
          exact .inr (.inl ⟨(Vd.en k).d, by simp [mvN, a4, Vd.d], by simp [jd]⟩)
        | cons b y' =>
          obtain ⟨b1, b2, b3⟩ := drop_c h2
          have b4 : ¬(p : Int) = z.length := by omega
          by_cases e : a = b
          · subst e
            exact .inl ⟨[((i + 1 : Nat) : Int), j, ((p + 1 : Nat) : Int), q], (x', y.drop j, y', t.drop q), by simp [mvN, a4, b4, a1, b1], ⟨i + 1, j, p + 1, q, rfl, by rw [a3, b3], by omega, by omega, by omega, by omega, by omega⟩, by simp [jd]⟩
          · exact .inr (.inl ⟨(Vd.un k).d, by simp [mvN, a4, b4, a1, b1, e, Vd.d], by simp [jd, e]⟩)
    · cases h1 : t.drop q with
      | nil =>
        have := drop_n h1 hq; subst this
        exact .inr (.inl ⟨(Vd.en k).d, by simp [mvN, Vd.d], by simp [jd]⟩)
      | cons a x' =>
        obtain ⟨a1, a2, a3⟩ := drop_c h1
        have a4 : ¬(q : Int) = t.length := by omega
        cases h2 : y.drop j with
        | nil =>
          have := drop_n h2 hj; subst this
          exact .inr (.inl ⟨(Vd.en k).d, by simp [mvN, a4, Vd.d], by simp [jd]⟩)
        | cons b y' =>
          obtain ⟨b1, b2, b3⟩ := drop_c h2
          have b4 : ¬(j : Int) = y.length := by omega
          by_cases e : a = b
          · subst e
            exact .inl ⟨[(i : Int), ((j + 1 : Nat) : Int), p, ((q + 1 : Nat) : Int)], (x.drop i, y', z.drop p, x'), by simp [mvN, a4, b4, a1, b1], ⟨i, j + 1, p, q + 1, rfl, by rw [a3, b3], by omega, by omega, by omega, by omega, by omega⟩, by simp [jd]⟩
          · exact .inr (.inl ⟨(Vd.un k).d, by simp [mvN, a4, b4, a1, b1, e, Vd.d], by simp [jd, e]⟩)
    · cases h1 : t.drop q with
      | nil =>
        have := drop_n h1 hq; subst this
        exact .inr (.inl ⟨(Vd.en k).d, by simp [mvN, Vd.d], by simp [jd]⟩)
      | cons a x' =>
        obtain ⟨a1, a2, a3⟩ := drop_c h1
        have a4 : ¬(q : Int) = t.length := by omega
        cases h2 : z.drop p with
        | nil =>
          have := drop_n h2 hp; subst this
          exact .inr (.inl ⟨(Vd.en k).d, by simp [mvN, a4, Vd.d], by simp [jd]⟩)
        | cons b y' =>
          obtain ⟨b1, b2, b3⟩ := drop_c h2
          have b4 : ¬(p : Int) = z.length := by omega
          by_cases e : a = b
          · subst e
            exact .inl ⟨[(i : Int), j, ((p + 1 : Nat) : Int), ((q + 1 : Nat) : Int)], (x.drop i, y.drop j, y', x'), by simp [mvN, a4, b4, a1, b1], ⟨i, j, p + 1, q + 1, rfl, by rw [a3, b3], by omega, by omega, by omega, by omega, by omega⟩, by simp [jd]⟩
          · exact .inr (.inl ⟨(Vd.un k).d, by simp [mvN, a4, b4, a1, b1, e, Vd.d], by simp [jd, e]⟩)
theorem as_S (l : List Nat) : asS (cS l) = .ok l := rfl
theorem judged_ok {x y z t : List Nat} (hx : AllL x) (hy : AllL y) (hz : AllL z) (ht : AllL t) (hl : x.length ≤ 16777216 ∧ y.length ≤ 16777216 ∧ z.length ≤ 16777216 ∧ t.length ≤ 16777216) (l : List Mv) (h : l.length ≤ 16777216) :
    P.judged (cS x) (cS y) (cS z) (cS t) (cU cS (l.map mvN)) = .ok (jd 0 x y z t l).d := by
  unfold P.judged
  rw [check_words_ok (ds := [cS x, cS y, cS z, cS t]) (by
    intro d hd
    simp only [List.mem_cons, List.not_mem_nil, or_false] at hd
    rcases hd with rfl | rfl | rfl | rfl
    · exact is_word_ok hx hl.1
    · exact is_word_ok hy hl.2.1
    · exact is_word_ok hz hl.2.2.1
    · exact is_word_ok ht hl.2.2.2), Out.ok_bind, check_weaving_ok (mv_MV l) (by simpa using h), Out.ok_bind]
  have e : (asU asS) (cU cS (l.map mvN)) = .ok (l.map mvN) := asU_S _
  rw [e]
  exact raw_judged_ok x y z t l
/-! ### the walk over three words -/
def wk : List Nat → List Nat → List Nat → List Nat → List Nat → List Mv → Option (List Nat × List Nat)
  | x, y, z, t, row, [] => if x = [] ∧ y = [] ∧ z = [] then some (t, row) else none
  | x, y, z, t, row, ⟨false, false⟩ :: ms => match x, y with
    | a :: x, b :: y => if a = b then wk x y z t (row ++ [b]) ms else none
    | _, _ => none
  | x, y, z, t, row, ⟨false, true⟩ :: ms => match x, z with
    | a :: x, b :: z => if a = b then wk x y z t (row ++ [b]) ms else none
    | _, _ => none
  | x, y, z, t, row, ⟨true, false⟩ :: ms => match y with
    | b :: y => wk x y z (t ++ [b]) (row ++ [b]) ms
    | _ => none
  | x, y, z, t, row, ⟨true, true⟩ :: ms => match z with
    | b :: z => wk x y z (t ++ [b]) (row ++ [b]) ms
    | _ => none
/-! ### read_off -/
section
variable {α : Type} (a b c d : α)
@[simp] theorem get3x : getR [(([120] : List Nat), a), ([121], b), ([122], c)] [120] = .ok a := rfl
@[simp] theorem get3y : getR [(([120] : List Nat), a), ([121], b), ([122], c)] [121] = .ok b := rfl
@[simp] theorem get3z : getR [(([120] : List Nat), a), ([121], b), ([122], c)] [122] = .ok c := rfl
@[simp] theorem put3x : putR [(([120] : List Nat), a), ([121], b), ([122], c)] [120] d = .ok [([120], d), ([121], b), ([122], c)] := by simp [putR, putM]
@[simp] theorem put3y : putR [(([120] : List Nat), a), ([121], b), ([122], c)] [121] d = .ok [([120], a), ([121], d), ([122], c)] := by simp [putR, putM]
@[simp] theorem put3z : putR [(([120] : List Nat), a), ([121], b), ([122], c)] [122] d = .ok [([120], a), ([121], b), ([122], d)] := by simp [putR, putM]
end
def rdo (o : Option (List Nat × List Nat)) : Out (List Nat × List Nat) := match o with
  | some (t, row) => .ok (row, t)
  | none => .exc "NotWoven"
abbrev Q5 := List Nat × List Nat × List Nat × List Nat × List Nat
abbrev S5 := List (List Nat × Int) × List Nat × List Nat
theorem read_off_ok (x y z : List Nat) (l : List Mv) (hl : l.length ≤ 16777216) : P.read_off x y z (l.map mvN) = rdo (wk x y z [] [] l) := by
  unfold P.read_off
  simp only [Out.ok_bind]
  refine forS_sim mvN (fun (s : S5) (r : Q5) ms => ∃ (i j p : Nat) (t row : List Nat), s = ([([120], (i : Int)), ([121], (j : Int)), ([122], (p : Int))], row, t) ∧ r = (x.drop i, y.drop j, z.drop p, t, row) ∧ i ≤ x.length ∧ j ≤ y.length ∧ p ≤ z.length ∧ t.length + ms.length ≤ 16777216 ∧ row.length + ms.length ≤ 16777216)
    (fun r ms => rdo (wk r.1 r.2.1 r.2.2.1 r.2.2.2.1 r.2.2.2.2 ms)) ?_ ?_ l _ (x, y, z, [], []) ⟨0, 0, 0, [], [], rfl, rfl, by omega, by omega, by omega, by simpa using hl, by simpa using hl⟩
  · rintro _ _ ⟨i, j, p, t, row, rfl, rfl, hi, hj, hp, ht, hr⟩
    simp only [get3x, get3y, get3z, Out.ok_bind, wk]
    by_cases h : x.drop i = [] ∧ y.drop j = [] ∧ z.drop p = []
    · rw [if_pos h]
      obtain ⟨h1, h2, h3⟩ := h
      have h1 := drop_n h1 hi; have h2 := drop_n h2 hj; have h3 := drop_n h3 hp
      subst h1; subst h2; subst h3
      simp [rdo]
    · rw [if_neg h]
      have : ¬([(i : Int), j, p] = [(x.length : Int), y.length, z.length]) := fun e => h (by
        simp at e
        simp only [List.drop_eq_nil_iff]
        omega)
      rw [decide_eq_false this]
      simp [rdo]
  · rintro ⟨_ | _, _ | _⟩ ms _ _ ⟨i, j, p, t, row, rfl, rfl, hi, hj, hp, ht, hr⟩ <;> simp only [List.length_cons] at ht hr
    · cases h2 : y.drop j with
      | nil =>
        have := drop_n h2 hj; subst this
        exact .inr ⟨"NotWoven", by simp [mvN], by cases x.drop i <;> simp [wk, rdo]⟩
      | cons b y' =>
        obtain ⟨b1, b2, b3⟩ := drop_c h2
        have b4 : ¬(j : Int) = y.length := by omega
        have cr : catR row [b] = .ok (row ++ [b]) := catR_ok (by simp; omega)
        cases h1 : x.drop i with
        | nil =>
          have := drop_n h1 hi; subst this
          exact .inr ⟨"NotWoven", by simp [mvN, b4, b1, cr], by simp [wk, rdo]⟩
        | cons a x' =>
          obtain ⟨a1, a2, a3⟩ := drop_c h1
          have a4 : ¬(i : Int) = x.length := by omega
          by_cases e : a = b
          · subst e
            exact .inl ⟨([([120], ((i + 1 : Nat) : Int)), ([121], ((j + 1 : Nat) : Int)), ([122], (p : Int))], row ++ [a], t), (x', y', z.drop p, t, row ++ [a]), by simp [mvN, a4, b4, a1, b1, cr], ⟨i + 1, j + 1, p, t, row ++ [a], rfl, by rw [a3, b3], by omega, by omega, by omega, by omega, by simp; omega⟩, by simp [wk]⟩
          · exact .inr ⟨"NotWoven", by simp [mvN, a4, b4, a1, b1, cr, e], by simp [wk, rdo, e]⟩
    · cases h2 : z.drop p with
      | nil =>
        have := drop_n h2 hp; subst this
        exact .inr ⟨"NotWoven", by simp [mvN], by cases x.drop i <;> simp [wk, rdo]⟩
      | cons b y' =>
        obtain ⟨b1, b2, b3⟩ := drop_c h2
        have b4 : ¬(p : Int) = z.length := by omega
        have cr : catR row [b] = .ok (row ++ [b]) := catR_ok (by simp; omega)
        cases h1 : x.drop i with
        | nil =>
          have := drop_n h1 hi; subst this
          exact .inr ⟨"NotWoven", by simp [mvN, b4, b1, cr], by simp [wk, rdo]⟩
        | cons a x' =>
          obtain ⟨a1, a2, a3⟩ := drop_c h1
          have a4 : ¬(i : Int) = x.length := by omega
          by_cases e : a = b
          · subst e
            exact .inl ⟨([([120], ((i + 1 : Nat) : Int)), ([121], (j : Int)), ([122], ((p + 1 : Nat) : Int))], row ++ [a], t), (x', y.drop j, y', t, row ++ [a]), by simp [mvN, a4, b4, a1, b1, cr], ⟨i + 1, j, p + 1, t, row ++ [a], rfl, by rw [a3, b3], by omega, by omega, by omega, by omega, by simp; omega⟩, by simp [wk]⟩
          · exact .inr ⟨"NotWoven", by simp [mvN, a4, b4, a1, b1, cr, e], by simp [wk, rdo, e]⟩
    · cases h2 : y.drop j with
      | nil =>
        have := drop_n h2 hj; subst this
        exact .inr ⟨"NotWoven", by simp [mvN], by simp [wk, rdo]⟩
      | cons b y' =>
        obtain ⟨b1, b2, b3⟩ := drop_c h2
        have b4 : ¬(j : Int) = y.length := by omega
        have cr : catR row [b] = .ok (row ++ [b]) := catR_ok (by simp; omega)
        have ct : catR t [b] = .ok (t ++ [b]) := catR_ok (by simp; omega)
        exact .inl ⟨([([120], (i : Int)), ([121], ((j + 1 : Nat) : Int)), ([122], (p : Int))], row ++ [b], t ++ [b]), (x.drop i, y', z.drop p, t ++ [b], row ++ [b]), by simp [mvN, b4, b1, cr, ct], ⟨i, j + 1, p, t ++ [b], row ++ [b], rfl, by rw [b3], by omega, by omega, by omega, by simp; omega, by simp; omega⟩, by simp [wk]⟩
    · cases h2 : z.drop p with
      | nil =>
        have := drop_n h2 hp; subst this
        exact .inr ⟨"NotWoven", by simp [mvN], by simp [wk, rdo]⟩
      | cons b y' =>
        obtain ⟨b1, b2, b3⟩ := drop_c h2
        have b4 : ¬(p : Int) = z.length := by omega
        have cr : catR row [b] = .ok (row ++ [b]) := catR_ok (by simp; omega)
        have ct : catR t [b] = .ok (t ++ [b]) := catR_ok (by simp; omega)
        exact .inl ⟨([([120], (i : Int)), ([121], (j : Int)), ([122], ((p + 1 : Nat) : Int))], row ++ [b], t ++ [b]), (x.drop i, y.drop j, y', t ++ [b], row ++ [b]), by simp [mvN, b4, b1, cr, ct], ⟨i, j, p + 1, t ++ [b], row ++ [b], rfl, by rw [b3], by omega, by omega, by omega, by simp; omega, by simp; omega⟩, by simp [wk]⟩
/-! ### the laws' own judge -/
theorem rest1 (a : Nat) (l : List Nat) : slS (some (1 : Int)) none (a :: l) = l := slS_from (by decide)
@[simp] theorem ixmv (m : Mv) : (idxR ([([120, 121] : List Nat), ([120, 122] : List Nat), ([116, 121] : List Nat), ([116, 122] : List Nat)] : List (List Nat)) (mvN m)) = .ok (if m.t = true then (if m.z = true then 3 else 2) else (if m.z = true then 1 else 0)) := by
  rcases m with ⟨_ | _, _ | _⟩ <;> rfl
theorem check3 {x y z : List Nat} (hx : AllL x) (hy : AllL y) (hz : AllL z) (hl : x.length ≤ 16777216 ∧ y.length ≤ 16777216 ∧ z.length ≤ 16777216) : P.check_words [cS x, cS y, cS z] = .ok () := check_words_ok (by
    intro d hd
    simp only [List.mem_cons, List.not_mem_nil, or_false] at hd
    rcases hd with rfl | rfl | rfl
    · exact is_word_ok hx hl.1
    · exact is_word_ok hy hl.2.1
    · exact is_word_ok hz hl.2.2)
/-! ### what is refused -/
theorem check_words_no {xs ys : List D} {x : D} (h : ∀ d ∈ xs, P.is_word d = .ok true) (hx : P.is_word x = .ok false) : P.check_words (xs ++ x :: ys) = .exc "NoWord" := by
  unfold P.check_words
  induction xs with
  | nil => rw [List.nil_append, forS_cons, hx]; rfl
  | cons d xs ih =>
    rw [List.cons_append, forS_cons, h d (by simp)]
    exact ih fun e he => h e (by simp [he])
theorem is_word_kind {d : D} (h : isD "str" d = .ok false) : P.is_word d = .ok false := by unfold P.is_word; rw [h]; rfl
theorem is_word_sign {l : List Nat} (hl : l.length ≤ 16777216) (h : ∃ c ∈ l, c ∉ L26) : P.is_word (cS l) = .ok false := by
  unfold P.is_word
  rw [isD_str, Out.ok_bind, if_pos rfl, itD_S, Out.ok_bind]
  have e := lcR_map (f := fun c => cS [c]) (t := fun (sign : D) => Out.ok true) (e := fun (sign : D) => opD D.isin sign (cS L26)) (xs := l) (fun _ => true) (fun c => decide (c ∈ L26)) hl (fun _ _ => rfl) fun c _ _ => by rw [opD_inS, inS_1]
  have e : lcR (fun (sign : D) => Out.ok true) (fun (sign : D) => (opD D.isin sign (cS ([97, 98, 99, 100, 101, 102, 103, 104, 105, 106, 107, 108, 109, 110, 111, 112, 113, 114, 115, 116, 117, 118, 119, 120, 121, 122] : (List Nat))))) (l.map fun c => cS [c]) = _ := e
  rw [e, Out.ok_bind]
  obtain ⟨c, h1, h2⟩ := h
  have : ((l.filter fun _ => true).map fun c => decide (c ∈ L26)).all id = false := by
    rw [List.filter_eq_self.mpr fun _ _ => rfl, List.all_eq_false]
    exact ⟨false, List.mem_map.mpr ⟨c, h1, by simp [h2]⟩, by simp⟩
  rw [this]
theorem is_weaving_kind {d : D} (h : isD "tuple" d = .ok false) : P.is_weaving d = .ok false := by unfold P.is_weaving; rw [h]; rfl
theorem is_weaving_no {ms : List (List Nat)} (hl : ms.length ≤ 16777216) (h : ∃ m ∈ ms, m ∉ [[120, 121], [120, 122], [116, 121], [116, 122]]) : P.is_weaving (cU cS ms) = .ok false := by
  unfold P.is_weaving
  have e1 : isD "tuple" (cU cS ms) = .ok true := isD_cU ms
  have e2 : itD (cU cS ms) = .ok (ms.map cS) := itD_cU ms
  have e3 := lcR_map (f := cS) (t := fun (move : D) => Out.ok true) (e := fun (move : D) => ((isD "str" move).bind fun v1 => if v1 = true then (opD D.isin move ((cV cS) ([[120, 121], [120, 122], [116, 121], [116, 122]] : (List (List Nat))))) else Out.ok false)) (xs := ms) (fun _ => true) (fun m => decide (m ∈ [[120, 121], [120, 122], [116, 121], [116, 122]])) hl (fun _ _ => rfl) fun c _ _ => by rw [isD_str, Out.ok_bind, if_pos rfl, opD_inV]
  rw [e1, Out.ok_bind, if_pos rfl, e2, Out.ok_bind, e3, Out.ok_bind]
  obtain ⟨c, h1, h2⟩ := h
  have : ((ms.filter fun _ => true).map fun m => decide (m ∈ [[120, 121], [120, 122], [116, 121], [116, 122]])).all id = false := by
    rw [List.filter_eq_self.mpr fun _ _ => rfl, List.all_eq_false]
    exact ⟨false, List.mem_map.mpr ⟨c, h1, by simp [h2]⟩, by simp⟩
  rw [this]
theorem check_weaving_no {d : D} (h : P.is_weaving d = .ok false) : P.check_weaving d = .exc "NoWeaving" := by unfold P.check_weaving; rw [h]; rfl
end TL
namespace TL
open PySem PySem.Spec PyProof.Rows L2 FL
@[simp] theorem sg_mv0 (m : Mv) : sgR (mvN m) 0 = .ok [if m.t = true then 116 else 120] := by rcases m with ⟨_ | _, _ | _⟩ <;> rfl
@[simp] theorem sg_mv1 (m : Mv) : sgR (mvN m) 1 = .ok [if m.z = true then 122 else 121] := by rcases m with ⟨_ | _, _ | _⟩ <;> rfl
/-! ### traces: moves with the letters that they take -/
abbrev Tr := List (Mv × Nat)
def q4 (a b : Q4) : Q4 := (a.1 ++ b.1, a.2.1 ++ b.2.1, a.2.2.1 ++ b.2.2.1, a.2.2.2 ++ b.2.2.2)
abbrev q0 : Q4 := ([], [], [], [])
def one4 : Mv → Nat → Q4
  | ⟨false, false⟩, c => ([c], [c], [], [])
  | ⟨false, true⟩, c => ([c], [], [c], [])
  | ⟨true, false⟩, c => ([], [c], [], [c])
  | ⟨true, true⟩, c => ([], [], [c], [c])
def Wd : Tr → Q4
  | [] => q0
  | p :: r => q4 (one4 p.1 p.2) (Wd r)
theorem q4_assoc (a b c : Q4) : q4 (q4 a b) c = q4 a (q4 b c) := by simp [q4]
@[simp] theorem q4_nil (a : Q4) : q4 q0 a = a := by simp [q4]
@[simp] theorem q4_nil' (a : Q4) : q4 a q0 = a := by simp [q4]
theorem Wd_app : ∀ a b : Tr, Wd (a ++ b) = q4 (Wd a) (Wd b)
  | [], b => by simp [Wd]
  | p :: a, b => by rw [List.cons_append, Wd, Wd, Wd_app a b, q4_assoc]
theorem Wd_one (m : Mv) (c : Nat) : Wd [(m, c)] = one4 m c := by simp [Wd]
theorem Wd_jd : ∀ (tr : Tr) (k : Nat), jd k (Wd tr).1 (Wd tr).2.1 (Wd tr).2.2.1 (Wd tr).2.2.2 (tr.map (·.1)) = .wov
  | [], k => by simp [Wd, jd, q0]
  | (⟨false, false⟩, c) :: r, k => by simp [Wd, one4, q4, jd, Wd_jd r (k + 1)]
  | (⟨false, true⟩, c) :: r, k => by simp [Wd, one4, q4, jd, Wd_jd r (k + 1)]
  | (⟨true, false⟩, c) :: r, k => by simp [Wd, one4, q4, jd, Wd_jd r (k + 1)]
  | (⟨true, true⟩, c) :: r, k => by simp [Wd, one4, q4, jd, Wd_jd r (k + 1)]
theorem tr_wk : ∀ (tr : Tr) (T R : List Nat), wk (Wd tr).1 (Wd tr).2.1 (Wd tr).2.2.1 T R (tr.map (·.1)) = some (T ++ (Wd tr).2.2.2, R ++ tr.map (·.2))
  | [], T, R => by simp [Wd, wk, q0]
  | (⟨false, false⟩, c) :: r, T, R => by simp [Wd, one4, q4, wk, tr_wk r T (R ++ [c])]
  | (⟨false, true⟩, c) :: r, T, R => by simp [Wd, one4, q4, wk, tr_wk r T (R ++ [c])]
  | (⟨true, false⟩, c) :: r, T, R => by simp [Wd, one4, q4, wk, tr_wk r (T ++ [c]) (R ++ [c])]
  | (⟨true, true⟩, c) :: r, T, R => by simp [Wd, one4, q4, wk, tr_wk r (T ++ [c]) (R ++ [c])]
theorem wk_tr : ∀ (l : List Mv) (x y z T R t' row : List Nat), wk x y z T R l = some (t', row) → ∃ tr : Tr, tr.map (·.1) = l ∧ (Wd tr).1 = x ∧ (Wd tr).2.1 = y ∧ (Wd tr).2.2.1 = z ∧ t' = T ++ (Wd tr).2.2.2 ∧ row = R ++ tr.map (·.2)
  | [], x, y, z, T, R, t', row, h => by
    simp only [wk] at h
    split at h
    · rename_i q
      obtain ⟨rfl, rfl, rfl⟩ := q
      cases h
      exact ⟨[], rfl, rfl, rfl, rfl, by simp [Wd, q0], by simp⟩
    · cases h
  | ⟨false, false⟩ :: ms, x, y, z, T, R, t', row, h => by
    cases x <;> cases y <;> simp only [wk, reduceCtorEq] at h
    split at h
    · rename_i a x b y q
      subst q
      obtain ⟨tr, e1, e2, e3, e4, e5, e6⟩ := wk_tr ms _ _ _ _ _ _ _ h
      exact ⟨(⟨false, false⟩, a) :: tr, by simp [e1], by simp [Wd, one4, q4, e2], by simp [Wd, one4, q4, e3], by simp [Wd, one4, q4, e4], by simp [Wd, one4, q4, e5], by simp [e6]⟩
    · cases h
  | ⟨false, true⟩ :: ms, x, y, z, T, R, t', row, h => by
    cases x <;> cases z <;> simp only [wk, reduceCtorEq] at h
    split at h
    · rename_i a x b z q
      subst q
      obtain ⟨tr, e1, e2, e3, e4, e5, e6⟩ := wk_tr ms _ _ _ _ _ _ _ h
      exact ⟨(⟨false, true⟩, a) :: tr, by simp [e1], by simp [Wd, one4, q4, e2], by simp [Wd, one4, q4, e3], by simp [Wd, one4, q4, e4], by simp [Wd, one4, q4, e5], by simp [e6]⟩
    · cases h
  | ⟨true, false⟩ :: ms, x, y, z, T, R, t', row, h => by
    cases y <;> simp only [wk, reduceCtorEq] at h
    rename_i a y
    obtain ⟨tr, e1, e2, e3, e4, e5, e6⟩ := wk_tr ms _ _ _ _ _ _ _ h
    exact ⟨(⟨true, false⟩, a) :: tr, by simp [e1], by simp [Wd, one4, q4, e2], by simp [Wd, one4, q4, e3], by simp [Wd, one4, q4, e4], by simp [Wd, one4, q4, e5], by simp [e6]⟩
  | ⟨true, true⟩ :: ms, x, y, z, T, R, t', row, h => by
    cases z <;> simp only [wk, reduceCtorEq] at h
    rename_i a z
    obtain ⟨tr, e1, e2, e3, e4, e5, e6⟩ := wk_tr ms _ _ _ _ _ _ _ h
    exact ⟨(⟨true, true⟩, a) :: tr, by simp [e1], by simp [Wd, one4, q4, e2], by simp [Wd, one4, q4, e3], by simp [Wd, one4, q4, e4], by simp [Wd, one4, q4, e5], by simp [e6]⟩
theorem Wd_len : ∀ tr : Tr, (Wd tr).1.length + (Wd tr).2.2.2.length = tr.length ∧ (Wd tr).2.1.length + (Wd tr).2.2.1.length = tr.length
  | [] => by simp [Wd, q0]
  | (⟨a, b⟩, c) :: r => by
    have := Wd_len r
    cases a <;> cases b <;> simp [Wd, one4, q4] <;> omega
theorem Wd_mem : ∀ (tr : Tr) (c : Nat), c ∈ (Wd tr).1 ∨ c ∈ (Wd tr).2.1 ∨ c ∈ (Wd tr).2.2.1 ∨ c ∈ (Wd tr).2.2.2 ↔ c ∈ tr.map (·.2)
  | [], c => by simp [Wd, q0]
  | (⟨a, b⟩, d) :: r, c => by
    have := Wd_mem r c
    cases a <;> cases b <;> simp [Wd, one4, q4] at this ⊢ <;> grind
theorem MV.app {a b : List (List Nat)} (h : MV a) (k : MV b) : MV (a ++ b) := fun m hm => (List.mem_append.mp hm).elim (h m) (k m)
theorem MV.take {a : List (List Nat)} (h : MV a) (n : Nat) : MV (a.take n) := fun m hm => h m (List.mem_of_mem_take hm)
theorem MV.drop {a : List (List Nat)} (h : MV a) (n : Nat) : MV (a.drop n) := fun m hm => h m (List.mem_of_mem_drop hm)
theorem slD_cU {α : Type} (ca : α → D) (lo hi : Option Int) (xs : List α) : slD lo hi (cU ca xs) = .ok (cU ca (slL lo hi xs)) := by
  have : D.sl lo hi (cU ca xs) = some (cU ca (slL lo hi xs)) := s_U lo hi xs
  unfold slD; rw [this]; rfl
end TL
namespace TL
open PySem PySem.Spec PyProof.Rows L2 FL
/-! ### cells and draws -/
theorem cell_ok (ns : List Int) {place : Int} (h : 0 ≤ place) : Sat (P.w_cell ns place) fun _ => True := by
  unfold P.w_cell
  refine Sat.ite (fun q => ?_) fun _ => by simp
  obtain ⟨a, _, e⟩ := atR_ex (xs := ns) (i := place) h (by simpa using q)
  rw [e]; simp
theorem powR_5 {a : Int} (h : 0 ≤ a ∧ a < 4294967296) : powR a 5 = .ok (a ^ 5) := by
  unfold powR
  rw [if_pos ⟨by omega, by omega, by omega⟩]; rfl
theorem draw_ok (ns : List Int) {place turn many : Int} (hp : 0 ≤ place ∧ place ≤ 1000000) (ht : 0 ≤ turn ∧ turn ≤ 1000000) (hm : 0 < many ∧ many ≤ 1000000000) : Sat (P.w_draw_2 ns place turn many) fun r => 0 ≤ r ∧ r < many := by
  unfold P.w_draw_2
  have em : ∀ a b : Int, 0 < b → 0 ≤ a % b ∧ a % b < b := fun a b h => ⟨Int.emod_nonneg _ (by omega), Int.emod_lt_of_pos _ h⟩
  refine Sat.bind _ (cell_ok ns hp.1) fun cell _ => ?_
  rw [pow_10_18, Out.ok_bind, Out.ok_bind]
  refine Sat.ite (fun _ => ?_) fun _ => ?_
  · rw [rng1_ok (by omega), Out.ok_bind]
    refine Sat.bind (fun _ => True) (Sat.forS (fun _ _ => True) trivial (fun i x s _ _ => ?_) fun _ _ => trivial) fun c _ => ?_
    · rw [divR_ok (by omega)]; simp
    · rw [modR_ok (by omega), Sat_ok]; exact em _ _ hm.1
  · rw [mulR_okr (by omega), Out.ok_bind, mulR_okr (by omega), Out.ok_bind, Out.ok_bind, mulR_okr (by omega), Out.ok_bind, Out.ok_bind, Out.ok_bind, Out.ok_bind, modR_ok (by omega), Out.ok_bind]
    have h1 := em (cell * 48271 + place * 7919 + turn * 69621 + 11) 2147483647 (by omega)
    generalize (cell * 48271 + place * 7919 + turn * 69621 + 11) % 2147483647 = n1 at h1 ⊢
    rw [powR_5 (by omega), Out.ok_bind, mulR_okr (by omega), Out.ok_bind, Out.ok_bind, Out.ok_bind, modR_ok (by omega), Out.ok_bind]
    have h2 := em (n1 ^ 5 + turn * 16811) 2147483629 (by omega)
    generalize (n1 ^ 5 + turn * 16811) % 2147483629 = n2 at h2 ⊢
    rw [divR_ok (by omega), Out.ok_bind, Out.ok_bind, mulR_ok (by omega), Out.ok_bind, Out.ok_bind, mulR_ok (by omega), Out.ok_bind, Out.ok_bind, modR_ok (by omega), Out.ok_bind, divR_ok (by omega), Out.ok_bind, Out.ok_bind, modR_ok (by omega), Sat_ok]
    exact em _ _ hm.1
theorem letter_ok (n : Int) : Sat (P.w_letter n) fun l => ∃ c, l = [c] ∧ c ∈ L26 := by
  unfold P.w_letter
  rw [modR_ok (by omega), Out.ok_bind]
  have em : ∀ a b : Int, 0 < b → 0 ≤ a % b ∧ a % b < b := fun a b h => ⟨Int.emod_nonneg _ (by omega), Int.emod_lt_of_pos _ h⟩
  obtain ⟨c, hc, e⟩ := sgR_ex (l := L26) (i := n % 26) (em n 26 (by omega)).1 (by have := (em n 26 (by omega)).2; simpa [L26] using this)
  have e : sgR ([97, 98, 99, 100, 101, 102, 103, 104, 105, 106, 107, 108, 109, 110, 111, 112, 113, 114, 115, 116, 117, 118, 119, 120, 121, 122] : List Nat) (n % 26) = .ok [c] := e
  rw [e, Sat_ok]; exact ⟨c, rfl, hc⟩
/-! ### dictionaries of the four words -/
section
variable {α : Type} (a b c d e : α)
abbrev D4 (a b c d : α) : List (List Nat × α) := [([120], a), ([121], b), ([122], c), ([116], d)]
@[simp] theorem get4x : getR (D4 a b c d) [120] = .ok a := rfl
@[simp] theorem get4y : getR (D4 a b c d) [121] = .ok b := rfl
@[simp] theorem get4z : getR (D4 a b c d) [122] = .ok c := rfl
@[simp] theorem get4t : getR (D4 a b c d) [116] = .ok d := rfl
@[simp] theorem put4x : putR (D4 a b c d) [120] e = .ok (D4 e b c d) := by simp [putR, putM]
@[simp] theorem put4y : putR (D4 a b c d) [121] e = .ok (D4 a e c d) := by simp [putR, putM]
@[simp] theorem put4z : putR (D4 a b c d) [122] e = .ok (D4 a b e d) := by simp [putR, putM]
@[simp] theorem put4t : putR (D4 a b c d) [116] e = .ok (D4 a b c e) := by simp [putR, putM]
end
end TL
namespace TL
open PySem PySem.Spec PyProof.Rows L2 FL
theorem joinL_nil : ∀ ys : List (List Nat), joinL [] ys = ys.flatten
  | [] => rfl
  | [y] => by simp [joinL]
  | y :: z :: r => by have := joinL_nil (z :: r); simp [joinL] at this ⊢; exact this
def mo (tr : Tr) : List (List Nat) := (tr.map (·.1)).map mvN
def W4 (tr : Tr) : List (List Nat) := [(Wd tr).1, (Wd tr).2.1, (Wd tr).2.2.1, (Wd tr).2.2.2]
def okT (tr : Tr) (n : Nat) : Prop := tr.length ≤ n ∧ ∀ p ∈ tr, p.2 ∈ L26
@[simp] theorem mo_len (tr : Tr) : (mo tr).length = tr.length := by simp [mo]
theorem mo_app (a b : Tr) : mo (a ++ b) = mo a ++ mo b := by simp [mo]
theorem mo_take (a : Tr) (n : Nat) : (mo a).take n = mo (a.take n) := by simp [mo]
theorem mo_drop (a : Tr) (n : Nat) : (mo a).drop n = mo (a.drop n) := by simp [mo]
theorem mo_MV (tr : Tr) : MV (mo tr) := mv_MV _
theorem okT.app {a b : Tr} {n m : Nat} (h : okT a n) (k : okT b m) : okT (a ++ b) (n + m) := ⟨by have := h.1; have := k.1; simp; omega, fun p hp => (List.mem_append.mp hp).elim (h.2 p) (k.2 p)⟩
theorem okT.take {a : Tr} {n : Nat} (h : okT a n) (k : Nat) : okT (a.take k) n := ⟨by have := h.1; simp; omega, fun p hp => h.2 p (List.mem_of_mem_take hp)⟩
theorem okT.drop {a : Tr} {n : Nat} (h : okT a n) (k : Nat) : okT (a.drop k) n := ⟨by have := h.1; simp; omega, fun p hp => h.2 p (List.mem_of_mem_drop hp)⟩
theorem okT.al {tr : Tr} {n : Nat} (h : okT tr n) : AllL (Wd tr).1 ∧ AllL (Wd tr).2.1 ∧ AllL (Wd tr).2.2.1 ∧ AllL (Wd tr).2.2.2 := by
  have q : ∀ c, c ∈ tr.map (·.2) → c ∈ L26 := fun c hc => by obtain ⟨p, hp, rfl⟩ := List.mem_map.mp hc; exact h.2 p hp
  refine ⟨fun c hc => q c ((Wd_mem tr c).mp ?_), fun c hc => q c ((Wd_mem tr c).mp ?_), fun c hc => q c ((Wd_mem tr c).mp ?_), fun c hc => q c ((Wd_mem tr c).mp ?_)⟩ <;> simp [hc]
theorem quad_ok (ns : List Int) {place turn : Int} (hp : 0 ≤ place ∧ place ≤ 1000) (ht : 0 ≤ turn ∧ turn ≤ 1000) : Sat (P.w_quad ns place turn 10) fun q => ∃ tr : Tr, okT tr 10 ∧ q = ((Wd tr).1, (Wd tr).2.1, (Wd tr).2.2.1, (Wd tr).2.2.2, mo tr) := by
  unfold P.w_quad
  rw [Out.ok_bind, Out.ok_bind]
  refine Sat.bind (fun w => 1 ≤ w ∧ w ≤ 26) (Sat.bind _ (draw_ok ns (by omega) (by omega) (by omega)) fun r hr => ?_) fun wide hw => ?_
  · obtain ⟨a, ha, e⟩ := atR_ex (xs := [(1 : Int), 2, 3, 26]) (i := r) hr.1 (by simpa using hr.2)
    rw [e, Sat_ok]; simp at ha; omega
  refine Sat.bind _ (draw_ok ns (by omega) (by omega) (by omega)) fun start hs => ?_
  refine Sat.bind (fun s : List (List Nat × List Nat) × List (List Nat) => ∃ tr : Tr, okT tr 10 ∧ s = (D4 (Wd tr).1 (Wd tr).2.1 (Wd tr).2.2.1 (Wd tr).2.2.2, mo tr)) ?_ ?_
  · refine Sat.bind (fun n : List Int => ∃ k : Nat, k ≤ 10 ∧ n = rng 0 k) (Sat.bind _ (draw_ok ns (by omega) (by omega) (by omega)) fun r hr => ?_) ?_
    · rw [rng1_ok (by omega), Sat_ok]
      exact ⟨r.toNat, by omega, by rw [Int.toNat_of_nonneg hr.1]⟩
    rintro _ ⟨n, hn, rfl⟩
    refine Sat.rngS (fun i (s : List (List Nat × List Nat) × List (List Nat)) => ∃ tr : Tr, okT tr i ∧ s = (D4 (Wd tr).1 (Wd tr).2.1 (Wd tr).2.2.1 (Wd tr).2.2.2, mo tr)) (n := n) rfl ⟨[], ⟨by simp, by simp⟩, rfl⟩ ?_ fun s ⟨tr, ok, e⟩ => ⟨tr, ⟨by have := ok.1; omega, ok.2⟩, e⟩
    rintro i _ hi ⟨tr, ok, rfl⟩
    dsimp only
    have hl := ok.1
    obtain ⟨l1, l2⟩ := Wd_len tr
    rw [mulR_ok (by omega), Out.ok_bind, Out.ok_bind]
    refine Sat.bind (fun m => ∃ v : Mv, m = mvN v) (Sat.bind _ (draw_ok ns (by omega) (by omega) (by omega)) fun r hr => ?_) ?_
    · obtain ⟨a, ha, e⟩ := atR_ex (xs := ([([120, 121] : List Nat), ([120, 122] : List Nat), ([116, 121] : List Nat), ([116, 122] : List Nat)] : List (List Nat))) (i := r) hr.1 (by simpa using hr.2)
      rw [e, Sat_ok]
      simp only [List.mem_cons, List.not_mem_nil, or_false] at ha
      rcases ha with rfl | rfl | rfl | rfl
      · exact ⟨⟨false, false⟩, rfl⟩
      · exact ⟨⟨false, true⟩, rfl⟩
      · exact ⟨⟨true, false⟩, rfl⟩
      · exact ⟨⟨true, true⟩, rfl⟩
    rintro _ ⟨v, rfl⟩
    refine Sat.bind (fun l => ∃ c, l = [c] ∧ c ∈ L26) ?_ ?_
    · rw [Out.ok_bind, Out.ok_bind]
      refine Sat.bind (fun _ => True) (Sat.bind _ (draw_ok ns (by omega) (by omega) (by omega)) fun r hr => by simp) fun r _ => letter_ok r
    rintro _ ⟨c, rfl, hc⟩
    rw [appR_ok (by simp; omega), Out.ok_bind]
    have cat : ∀ w : List Nat, w.length ≤ 10 → catR w [c] = .ok (w ++ [c]) := fun w h => catR_ok (by simp; omega)
    have c1 := cat (Wd tr).1 (by omega)
    have c2 := cat (Wd tr).2.1 (by omega)
    have c3 := cat (Wd tr).2.2.1 (by omega)
    have c4 := cat (Wd tr).2.2.2 (by omega)
    have okn : okT (tr ++ [(v, c)]) (i + 1) := ok.app ⟨by simp, by simpa using hc⟩
    have em : mo (tr ++ [(v, c)]) = mo tr ++ [mvN v] := mo_app _ _
    have ew : Wd (tr ++ [(v, c)]) = q4 (Wd tr) (one4 v c) := by rw [Wd_app, Wd_one]
    rcases v with ⟨_ | _, _ | _⟩
    all_goals
      simp only [sg_mv0, sg_mv1, Out.ok_bind, if_true, if_false, Bool.false_eq_true, reduceIte, get4x, get4y, get4z, get4t, put4x, put4y, put4z, put4t, c1, c2, c3, c4, Sat_ok]
      refine ⟨_, okn, ?_⟩
      rw [em, ew]
      simp [q4, one4]
  rintro _ ⟨tr, ok, rfl⟩
  dsimp only
  simp only [get4x, get4y, get4z, get4t, Out.ok_bind, Sat_ok]
  exact ⟨tr, ok, rfl⟩
theorem w_judged2_ok (x y z t : List Nat) (l : List Mv) (hl : l.length ≤ 16777216) (hs : x.length + y.length + z.length + t.length ≤ 16777216) : P.w_judged_2 [x, y, z, t] (l.map mvN) = .ok (jd 0 x y z t l).d := by
  unfold P.w_judged_2
  simp only [at_c0, at_c1, at_c2, at_c3, Out.ok_bind]
  rw [rng1_ok (by simp; omega), Out.ok_bind]
  rw [List.length_map]
  refine (jn_simR (fun (s : List (List Nat × List Nat)) (r : Q4) k ms => s = D4 r.1 r.2.1 r.2.2.1 r.2.2.2 ∧ l.drop k = ms ∧ k ≤ l.length ∧ r.1.length + r.2.1.length + r.2.2.1.length + r.2.2.2.length ≤ 16777216)
    (fun r k ms => .ok (jd k r.1 r.2.1 r.2.2.1 r.2.2.2 ms).d) ?_ ?_ l (D4 x y z t) (x, y, z, t) 0 l.length (by omega) ⟨rfl, rfl, by omega, hs⟩)
  · rintro _ ⟨x, y, z, t⟩ k ⟨rfl, h, hk, hs⟩
    dsimp only at hs
    have := drop_n h hk
    subst this
    simp only [get4x, get4y, get4z, get4t, Out.ok_bind]
    rw [catR_ok (by omega), Out.ok_bind, catR_ok (by simp; omega), Out.ok_bind, catR_ok (by simp; omega), Out.ok_bind, Out.ok_bind]
    simp only [jd]
    by_cases h : x = [] ∧ y = [] ∧ z = [] ∧ t = []
    · obtain ⟨rfl, rfl, rfl, rfl⟩ := h; simp [Vd.d]
    · have : ¬(x ++ y ++ z ++ t = []) := fun e => h (by simpa [and_assoc] using e)
      simp [this, Vd.d, h]
  · rintro m ms _ ⟨x, y, z, t⟩ k ⟨rfl, h, hk, hs⟩
    dsimp only at hs
    obtain ⟨h1, h2, h3⟩ := drop_c h
    have e : atR (l.map mvN) (k : Int) = .ok (mvN m) := by simp [h1]
    rcases m with ⟨_ | _, _ | _⟩
    · cases x with
      | nil => exact .inr (.inl ⟨(Vd.en k).d, by simp [e, Vd.d], by simp [jd]⟩)
      | cons a x' =>
        cases y with
        | nil => exact .inr (.inl ⟨(Vd.en k).d, by simp [e, Vd.d], by simp [jd]⟩)
        | cons b y' =>
          simp only [List.length_cons] at hs
          by_cases q : a = b
          · subst q
            exact .inl ⟨D4 x' y' z t, (x', y', z, t), by simp [e, rest1], ⟨rfl, h3, by omega, by dsimp only; omega⟩, by simp [jd]⟩
          · exact .inr (.inl ⟨(Vd.un k).d, by simp [e, Vd.d, q], by simp [jd, q]⟩)
    · cases x with
      | nil => exact .inr (.inl ⟨(Vd.en k).d, by simp [e, Vd.d], by simp [jd]⟩)
      | cons a x' =>
        cases z with
        | nil => exact .inr (.inl ⟨(Vd.en k).d, by simp [e, Vd.d], by simp [jd]⟩)
        | cons b y' =>
          simp only [List.length_cons] at hs
          by_cases q : a = b
          · subst q
            exact .inl ⟨D4 x' y y' t, (x', y, y', t), by simp [e, rest1], ⟨rfl, h3, by omega, by dsimp only; omega⟩, by simp [jd]⟩
          · exact .inr (.inl ⟨(Vd.un k).d, by simp [e, Vd.d, q], by simp [jd, q]⟩)
    · cases t with
      | nil => exact .inr (.inl ⟨(Vd.en k).d, by simp [e, Vd.d], by simp [jd]⟩)
      | cons a x' =>
        cases y with
        | nil => exact .inr (.inl ⟨(Vd.en k).d, by simp [e, Vd.d], by simp [jd]⟩)
        | cons b y' =>
          simp only [List.length_cons] at hs
          by_cases q : a = b
          · subst q
            exact .inl ⟨D4 x y' z x', (x, y', z, x'), by simp [e, rest1], ⟨rfl, h3, by omega, by dsimp only; omega⟩, by simp [jd]⟩
          · exact .inr (.inl ⟨(Vd.un k).d, by simp [e, Vd.d, q], by simp [jd, q]⟩)
    · cases t with
      | nil => exact .inr (.inl ⟨(Vd.en k).d, by simp [e, Vd.d], by simp [jd]⟩)
      | cons a x' =>
        cases z with
        | nil => exact .inr (.inl ⟨(Vd.en k).d, by simp [e, Vd.d], by simp [jd]⟩)
        | cons b y' =>
          simp only [List.length_cons] at hs
          by_cases q : a = b
          · subst q
            exact .inl ⟨D4 x y y' x', (x, y, y', x'), by simp [e, rest1], ⟨rfl, h3, by omega, by dsimp only; omega⟩, by simp [jd]⟩
          · exact .inr (.inl ⟨(Vd.un k).d, by simp [e, Vd.d, q], by simp [jd, q]⟩)
/-! ### quadruples -/
theorem pick (d : Nat) (g : Tr → List Nat) (h0 : g [] = []) (h1 : ∀ m c tr, g ((m, c) :: tr) = if inS [d] (mvN m) = true then c :: g tr else g tr) : ∀ tr : Tr, ((((mo tr).zip (sgs (tr.map (·.2)))).filter fun p => inS [d] p.1).map fun p => p.2).flatten = g tr
  | [] => by simp [mo, sgs, h0]
  | (m, c) :: tr => by
    have := pick d g h0 h1 tr
    simp only [mo, sgs, List.map_cons, List.zip_cons_cons, h1] at this ⊢
    by_cases e : inS [d] (mvN m) = true
    · simp only [List.filter_cons, e, if_true, List.map_cons, List.flatten_cons, this]; rfl
    · have e : inS [d] (mvN m) = false := by simpa using e
      simp only [List.filter_cons, e, Bool.false_eq_true, if_false, this]
theorem quad_of_ok (tr : Tr) (h : tr.length ≤ 1000) : P.quad_of (tr.map (·.2)) (mo tr) = .ok (W4 tr) := by
  unfold P.quad_of
  have one : ∀ (d : Nat) (g : Tr → List Nat), g [] = [] → (∀ m c tr, g ((m, c) :: tr) = if inS [d] (mvN m) = true then c :: g tr else g tr) → (g tr).length ≤ 16777216 → ((lcP ((mo tr).zip (sgs (tr.map (·.2)))) (fun ((move, letter) : ((List Nat) × (List Nat))) => (inS [d] move)) (fun ((move, letter) : ((List Nat) × (List Nat))) => letter)).bind fun v1 => joinR ([] : List Nat) v1) = .ok (g tr) := fun d g h0 h1 hl => by
    have e := pick d g h0 h1 tr
    rw [lcP_ok (by simp [sgs]; omega), Out.ok_bind]
    unfold joinR
    rw [joinL_nil, ← List.length_flatten]
    have e : (List.map (fun ((move, letter) : ((List Nat) × (List Nat))) => letter) (List.filter (fun ((move, letter) : ((List Nat) × (List Nat))) => (inS [d] move)) ((mo tr).zip (sgs (tr.map (·.2)))))).flatten = g tr := e
    rw [e, if_pos (by simpa using hl)]
  obtain ⟨l1, l2⟩ := Wd_len tr
  have g : ∀ m c (tr : Tr), Wd ((m, c) :: tr) = q4 (one4 m c) (Wd tr) := fun _ _ _ => rfl
  have a1 := one 120 (fun tr => (Wd tr).1) rfl (fun m c tr => by rcases m with ⟨_ | _, _ | _⟩ <;> simp [g, q4, one4, inS_1, mvN]) (by omega)
  have a2 := one 121 (fun tr => (Wd tr).2.1) rfl (fun m c tr => by rcases m with ⟨_ | _, _ | _⟩ <;> simp [g, q4, one4, inS_1, mvN]) (by omega)
  have a3 := one 122 (fun tr => (Wd tr).2.2.1) rfl (fun m c tr => by rcases m with ⟨_ | _, _ | _⟩ <;> simp [g, q4, one4, inS_1, mvN]) (by omega)
  have a4 := one 116 (fun tr => (Wd tr).2.2.2) rfl (fun m c tr => by rcases m with ⟨_ | _, _ | _⟩ <;> simp [g, q4, one4, inS_1, mvN]) (by omega)
  have e : sgs ([120, 121, 122, 116] : List Nat) = [[120], [121], [122], [116]] := rfl
  rw [e, lcR_okA (fun side => if side = [120] then (Wd tr).1 else if side = [121] then (Wd tr).2.1 else if side = [122] then (Wd tr).2.2.1 else (Wd tr).2.2.2) (by simp) (by
    intro side hs
    simp only [List.mem_cons, List.not_mem_nil, or_false] at hs
    rcases hs with rfl | rfl | rfl | rfl
    · exact a1
    · exact a2
    · exact a3
    · exact a4)]
  rfl
theorem sizes_ok : ∀ (tr : Tr) (a b c d : Int), forS (fun (move : (List Nat)) (sizes : (List ((List Nat) × Int))) => (forS (fun (side : (List Nat)) (sizes : (List ((List Nat) × Int))) => (((getR sizes side).bind fun v1 => Out.ok ((v1 + (1 : Int)))).bind fun v2 => putR sizes side v2).bind fun sizes => Out.ok sizes) (sgs move) sizes).bind fun sizes => Out.ok sizes) (mo tr) (D4 a b c d) = .ok (D4 (a + (Wd tr).1.length) (b + (Wd tr).2.1.length) (c + (Wd tr).2.2.1.length) (d + (Wd tr).2.2.2.length))
  | [], a, b, c, d => by simp [mo, Wd, q0, forS_nil]
  | (m, l) :: tr, a, b, c, d => by
    have g : Wd ((m, l) :: tr) = q4 (one4 m l) (Wd tr) := rfl
    have e : mo ((m, l) :: tr) = mvN m :: mo tr := rfl
    have e2 : sgs (mvN m) = [[if m.t = true then 116 else 120], [if m.z = true then 122 else 121]] := rfl
    rw [e, forS_cons, g, e2]
    rcases m with ⟨_ | _, _ | _⟩
    all_goals
      simp only [if_true, if_false, Bool.false_eq_true, reduceIte, forS_cons, forS_nil, Out.ok_bind, get4x, get4y, get4z, get4t, put4x, put4y, put4z, put4t]
      rw [sizes_ok tr]
      simp [q4, one4]
      omega
theorem Wd_W4 (tr : Tr) : W4 tr = [(Wd tr).1, (Wd tr).2.1, (Wd tr).2.2.1, (Wd tr).2.2.2] := rfl
theorem W4_app (a b : Tr) : W4 (a ++ b) = [(Wd a).1 ++ (Wd b).1, (Wd a).2.1 ++ (Wd b).2.1, (Wd a).2.2.1 ++ (Wd b).2.2.1, (Wd a).2.2.2 ++ (Wd b).2.2.2] := by rw [Wd_W4, Wd_app]; rfl
theorem front_ok (a b : Tr) : P.w_front (W4 (a ++ b)) (mo a) = .ok (W4 a, W4 b) := by
  unfold P.w_front
  have r4 : rng1 4 = .ok [0, 1, 2, 3] := by rw [rng1_ok (by omega)]; rfl
  have n0 : sgR ([120, 121, 122, 116] : List Nat) 0 = .ok [120] := rfl
  have n1 : sgR ([120, 121, 122, 116] : List Nat) 1 = .ok [121] := rfl
  have n2 : sgR ([120, 121, 122, 116] : List Nat) 2 = .ok [122] := rfl
  have n3 : sgR ([120, 121, 122, 116] : List Nat) 3 = .ok [116] := rfl
  rw [Out.ok_bind, sizes_ok a 0 0 0 0]
  have t : ∀ p q : List Nat, slS none (some (0 + (p.length : Int))) (p ++ q) = p := fun p q => by rw [slS_to (by omega)]; simp
  have d : ∀ p q : List Nat, slS (some (0 + (p.length : Int))) none (p ++ q) = q := fun p q => by rw [slS_from (by omega)]; simp
  simp only [Out.ok_bind, r4, W4_app]
  rw [lcR_okA (fun k : Int => (W4 a).getD k.toNat []) (by simp) (by
    intro k hk
    simp only [List.mem_cons, List.not_mem_nil, or_false] at hk
    rcases hk with rfl | rfl | rfl | rfl
    · rw [at_c0, Out.ok_bind, n0, Out.ok_bind, get4x, Out.ok_bind, Out.ok_bind, t]; rfl
    · rw [at_c1, Out.ok_bind, n1, Out.ok_bind, get4y, Out.ok_bind, Out.ok_bind, t]; rfl
    · rw [at_c2, Out.ok_bind, n2, Out.ok_bind, get4z, Out.ok_bind, Out.ok_bind, t]; rfl
    · rw [at_c3, Out.ok_bind, n3, Out.ok_bind, get4t, Out.ok_bind, Out.ok_bind, t]; rfl), Out.ok_bind, Out.ok_bind,
    lcR_okA (fun k : Int => (W4 b).getD k.toNat []) (by simp) (by
    intro k hk
    simp only [List.mem_cons, List.not_mem_nil, or_false] at hk
    rcases hk with rfl | rfl | rfl | rfl
    · rw [at_c0, Out.ok_bind, n0, Out.ok_bind, get4x, Out.ok_bind, Out.ok_bind, d]; rfl
    · rw [at_c1, Out.ok_bind, n1, Out.ok_bind, get4y, Out.ok_bind, Out.ok_bind, d]; rfl
    · rw [at_c2, Out.ok_bind, n2, Out.ok_bind, get4z, Out.ok_bind, Out.ok_bind, d]; rfl
    · rw [at_c3, Out.ok_bind, n3, Out.ok_bind, get4t, Out.ok_bind, Out.ok_bind, d]; rfl)]
  rfl
/-- the answer of a Bool program that comes to an end -/
def okB : Out Bool → Bool
  | .ok b => b
  | _ => false
theorem check_quad_of {d : D} {ds : List D} (ht : P.is_tuple d 4 4 = .ok true) (hi : itD d = .ok ds) (hl : ds.length ≤ 1000) (h : ∀ x ∈ ds, ∃ b, P.is_word x = .ok b) : P.check_quad d = if ds.all (fun x => okB (P.is_word x)) = true then .ok () else .exc "NoQuad" := by
  unfold P.check_quad
  rw [ht, Out.ok_bind, Out.ok_bind, hi, Out.ok_bind, lcR_okA (fun x => okB (P.is_word x)) (by omega) (fun x hx => by obtain ⟨b, e⟩ := h x hx; rw [e]; rfl)]
  simp only [Out.ok_bind, Bool.not_true, Bool.false_eq_true, if_false, List.all_map]
  cases e : ds.all (id ∘ fun x => okB (P.is_word x)) <;> simp [e] <;> simpa using e
theorem check_quad_no {d : D} (ht : P.is_tuple d 4 4 = .ok false) : P.check_quad d = .exc "NoQuad" := by
  unfold P.check_quad; rw [ht]; rfl
theorem W4_words {tr : Tr} {n : Nat} (h : okT tr n) (hn : n ≤ 1000) : ∀ w ∈ W4 tr, P.is_word (cS w) = .ok true := by
  obtain ⟨h1, h2, h3, h4⟩ := h.al
  obtain ⟨l1, l2⟩ := Wd_len tr
  have := h.1
  intro w hw
  simp only [W4, List.mem_cons, List.not_mem_nil, or_false] at hw
  rcases hw with rfl | rfl | rfl | rfl
  · exact is_word_ok h1 (by omega)
  · exact is_word_ok h2 (by omega)
  · exact is_word_ok h3 (by omega)
  · exact is_word_ok h4 (by omega)
theorem tuple4 (w : List (List Nat)) : P.is_tuple (cU cS w) 4 4 = .ok (decide (w.length = 4)) := by
  unfold P.is_tuple
  rw [isD_cU, Out.ok_bind, if_pos rfl, lenD_cU, Out.ok_bind]
  by_cases h : w.length = 4
  · simp [h]
  · by_cases h2 : (4 : Int) ≤ w.length
    · have : ¬((w.length : Int) ≤ 4) := by omega
      simp [h, h2, this]
    · simp [h, h2]
theorem check_quad_ok {tr : Tr} {n : Nat} (h : okT tr n) (hn : n ≤ 1000) : P.check_quad (cU cS (W4 tr)) = .ok () := by
  have q := W4_words h hn
  rw [check_quad_of (tuple4 _) (itD_cU _) (by simp [W4]) fun x hx => by
    obtain ⟨w, hw, rfl⟩ := List.mem_map.mp hx
    exact ⟨true, q w hw⟩, if_pos]
  rw [List.all_eq_true]
  intro x hx
  obtain ⟨w, hw, rfl⟩ := List.mem_map.mp hx
  rw [q w hw]; rfl
theorem joined_quads_ok {a b : Tr} {n : Nat} (ha : okT a n) (hb : okT b n) (hn : n ≤ 1000) : P.joined_quads (cU cS (W4 a)) (cU cS (W4 b)) = .ok (W4 (a ++ b)) := by
  unfold P.joined_quads
  obtain ⟨l1, l2⟩ := Wd_len a
  obtain ⟨l3, l4⟩ := Wd_len b
  have := ha.1; have := hb.1
  rw [check_quad_ok ha hn, Out.ok_bind, check_quad_ok hb hn, Out.ok_bind, itD_cU, itD_cU, Out.ok_bind, Out.ok_bind, Out.ok_bind]
  have e : (List.map cS (W4 a)).zip (List.map cS (W4 b)) = ((W4 a).zip (W4 b)).map fun p => (cS p.1, cS p.2) := by simp [W4]
  have e2 : lcR (fun ((mine, its) : (D × D)) => Out.ok true) (fun ((mine, its) : (D × D)) => ((asS mine).bind fun v3 => (asS its).bind fun v4 => catR v3 v4)) (((W4 a).zip (W4 b)).map fun p => (cS p.1, cS p.2)) = .ok ((((W4 a).zip (W4 b)).filter fun _ => true).map fun p => p.1 ++ p.2) :=
    lcR_map (f := fun p : List Nat × List Nat => (cS p.1, cS p.2)) (fun _ => true) (fun p : List Nat × List Nat => p.1 ++ p.2) (by simp [W4]) (fun _ _ => rfl) (fun p hp _ => by
      show (asS (cS p.1)).bind (fun v3 => (asS (cS p.2)).bind fun v4 => catR v3 v4) = _
      rw [as_S, as_S, Out.ok_bind, Out.ok_bind, catR_ok]
      simp only [W4, List.zip_cons_cons, List.zip_nil_right, List.mem_cons, List.not_mem_nil, or_false] at hp
      rcases hp with rfl | rfl | rfl | rfl <;> dsimp only <;> omega)
  rw [e, e2, Out.ok_bind, W4_app]
  rfl
theorem joined_weavings_ok (a b : Tr) (h : a.length + b.length ≤ 1000) : P.joined_weavings (cU cS (mo a)) (cU cS (mo b)) = .ok (mo (a ++ b)) := by
  unfold P.joined_weavings
  rw [check_weaving_ok (mo_MV a) (by simp; omega), Out.ok_bind, check_weaving_ok (mo_MV b) (by simp; omega), Out.ok_bind]
  rw [show (asU asS) (cU cS (mo a)) = .ok (mo a) from asU_S _, show (asU asS) (cU cS (mo b)) = .ok (mo b) from asU_S _, Out.ok_bind, Out.ok_bind, catR_ok (by simp; omega), mo_app]
theorem within67 {i hi : Int} (h1 : 0 ≤ i) (h2 : i ≤ hi) : P.is_within (cI i) 0 hi = .ok true := by
  simp [P.is_within, P.is_integer, h1, h2]
theorem parts_at_ok {tr : Tr} {n : Nat} (h : okT tr n) (hn : n ≤ 1000) {i : Nat} (hi : i ≤ tr.length) : P.parts_at (cS (Wd tr).1) (cS (Wd tr).2.1) (cS (Wd tr).2.2.1) (cU cS (mo tr)) (cI i) = .ok (W4 (tr.take i), W4 (tr.drop i)) := by
  unfold P.parts_at
  obtain ⟨h1, h2, h3, h4⟩ := h.al
  obtain ⟨l1, l2⟩ := Wd_len tr
  have hl := h.1
  have q := tr_wk tr [] []
  rw [check3 h1 h2 h3 (by omega), Out.ok_bind, check_weaving_ok (mo_MV tr) (by simp; omega), Out.ok_bind, as_S, as_S, as_S]
  rw [show (asU asS) (cU cS (mo tr)) = .ok (mo tr) from asU_S _]
  simp only [Out.ok_bind]
  have e3 : P.read_off (Wd tr).1 (Wd tr).2.1 (Wd tr).2.2.1 (mo tr) = .ok (tr.map (·.2), (Wd tr).2.2.2) := by
    unfold mo; rw [read_off_ok _ _ _ _ (by simp; omega), q]; rfl
  have ii : asI (cI (i : Int)) = .ok (i : Int) := rfl
  rw [e3, Out.ok_bind]
  dsimp only
  rw [lenD_cU, Out.ok_bind, within67 (by omega) (by simp; omega)]
  simp only [Out.ok_bind, Bool.not_true, Bool.false_eq_true, if_false, ii, slD_cU]
  rw [slS_to (by omega), slS_from (by omega), slL_to (by omega), slL_from (by omega), Int.toNat_natCast, mo_take, mo_drop, ← List.map_take, ← List.map_drop]
  rw [show (asU asS) (cU cS (mo (tr.take i))) = .ok (mo (tr.take i)) from asU_S _, show (asU asS) (cU cS (mo (tr.drop i))) = .ok (mo (tr.drop i)) from asU_S _]
  simp only [Out.ok_bind]
  rw [quad_of_ok _ (by simp; omega), quad_of_ok _ (by simp; omega)]
  rfl
/-! ### what is refused -/
abbrev kQuad : List Nat := [113, 117, 97, 100]
abbrev kWeav : List Nat := [119, 101, 97, 118, 105, 110, 103]
abbrev kWord : List Nat := [119, 111, 114, 100]
abbrev kNum : List Nat := [110, 117, 109, 98, 101, 114]
theorem refused0 {a b : D} (h : P.joined_quads a b = .exc "NoQuad") : P.w_refused_2 0 [a, b] = .ok kQuad := by
  unfold P.w_refused_2
  simp only [decide_true, if_true, at_c0, at_c1, Out.ok_bind, h]
  rfl
theorem refused1 {a b : D} (h : P.joined_weavings a b = .exc "NoWeaving") : P.w_refused_2 1 [a, b] = .ok kWeav := by
  unfold P.w_refused_2
  simp only [at_c0, at_c1, Out.ok_bind, h]
  rfl
theorem at_c4 (x y z t u : α) (xs : List α) : atR (x :: y :: z :: t :: u :: xs) 4 = .ok u := by simp
theorem refused2 {a b c d e : D} {x : String} {k : List Nat} (h : P.parts_at a b c d e = .exc x) (hk : (x = "NoNumber" ∧ k = kNum) ∨ (x = "NotWoven" ∧ k = kWov) ∨ (x = "NoWeaving" ∧ k = kWeav) ∨ (x = "NoWord" ∧ k = kWord)) : P.w_refused_2 2 [a, b, c, d, e] = .ok k := by
  unfold P.w_refused_2
  simp only [at_c0, at_c1, at_c2, at_c3, at_c4, Out.ok_bind, h]
  rcases hk with ⟨rfl, rfl⟩ | ⟨rfl, rfl⟩ | ⟨rfl, rfl⟩ | ⟨rfl, rfl⟩ <;> rfl
theorem jq_no1 {a b : D} (h : P.check_quad a = .exc "NoQuad") : P.joined_quads a b = .exc "NoQuad" := by unfold P.joined_quads; rw [h]; rfl
theorem jq_no2 {a b : D} (h1 : P.check_quad a = .ok ()) (h : P.check_quad b = .exc "NoQuad") : P.joined_quads a b = .exc "NoQuad" := by unfold P.joined_quads; rw [h1, h]; rfl
theorem jw_no1 {a b : D} (h : P.is_weaving a = .ok false) : P.joined_weavings a b = .exc "NoWeaving" := by unfold P.joined_weavings; rw [check_weaving_no h]; rfl
theorem jw_no2 {a b : D} (h1 : P.check_weaving a = .ok ()) (h : P.is_weaving b = .ok false) : P.joined_weavings a b = .exc "NoWeaving" := by unfold P.joined_weavings; rw [h1, check_weaving_no h]; rfl
theorem pa_word {a b c d e : D} (h : P.check_words [a, b, c] = .exc "NoWord") : P.parts_at a b c d e = .exc "NoWord" := by unfold P.parts_at; rw [h]; rfl
theorem pa_weav {a b c d e : D} (h : P.check_words [a, b, c] = .ok ()) (h2 : P.is_weaving d = .ok false) : P.parts_at a b c d e = .exc "NoWeaving" := by unfold P.parts_at; rw [h, check_weaving_no h2]; rfl
theorem pa_woven {x y z : List Nat} {l : List Mv} {e : D} (h : P.check_words [cS x, cS y, cS z] = .ok ()) (hl : l.length ≤ 16777216) (hw : wk x y z [] [] l = none) : P.parts_at (cS x) (cS y) (cS z) (cU cS (l.map mvN)) e = .exc "NotWoven" := by
  unfold P.parts_at
  rw [h, Out.ok_bind, check_weaving_ok (mv_MV l) (by simpa using hl), Out.ok_bind, as_S, as_S, as_S, show (asU asS) (cU cS (l.map mvN)) = .ok (l.map mvN) from asU_S _]
  simp only [Out.ok_bind]
  rw [read_off_ok _ _ _ _ hl, hw]
  rfl
theorem pa_num {tr : Tr} {n : Nat} (h : okT tr n) (hn : n ≤ 1000) {e : D} (he : P.is_within e 0 tr.length = .ok false) : P.parts_at (cS (Wd tr).1) (cS (Wd tr).2.1) (cS (Wd tr).2.2.1) (cU cS (mo tr)) e = .exc "NoNumber" := by
  unfold P.parts_at
  obtain ⟨h1, h2, h3, h4⟩ := h.al
  obtain ⟨l1, l2⟩ := Wd_len tr
  have hl := h.1
  have q := tr_wk tr [] []
  rw [check3 h1 h2 h3 (by omega), Out.ok_bind, check_weaving_ok (mo_MV tr) (by simp; omega), Out.ok_bind, as_S, as_S, as_S]
  rw [show (asU asS) (cU cS (mo tr)) = .ok (mo tr) from asU_S _]
  simp only [Out.ok_bind]
  have e3 : P.read_off (Wd tr).1 (Wd tr).2.1 (Wd tr).2.2.1 (mo tr) = .ok (tr.map (·.2), (Wd tr).2.2.2) := by
    unfold mo; rw [read_off_ok _ _ _ _ (by simp; omega), q]; rfl
  rw [e3, Out.ok_bind]
  dsimp only
  rw [lenD_cU, Out.ok_bind, mo_len, he]
  rfl
theorem wk_more (tr : Tr) (m : Mv) : wk (Wd tr).1 (Wd tr).2.1 (Wd tr).2.2.1 [] [] (tr.map (·.1) ++ [m]) = none := by
  cases e : wk (Wd tr).1 (Wd tr).2.1 (Wd tr).2.2.1 [] [] (tr.map (·.1) ++ [m]) with
  | none => rfl
  | some p =>
    obtain ⟨tr', e1, e2, e3, e4, _, _⟩ := wk_tr _ _ _ _ _ _ p.1 p.2 e
    have l1 := (Wd_len tr).2
    have l2 := (Wd_len tr').2
    have := congrArg List.length e1
    rw [e3, e4] at l2
    simp at this; omega
theorem odd_within {len : Nat} {odd : D} (h : odd ∈ ([(cI (-1)), (cI ((len : Int) + (1 : Int))), (cN ()), (cB true), (cS ([48] : List Nat))] : List D)) : P.is_within odd 0 len = .ok false := by
  simp only [List.mem_cons, List.not_mem_nil, or_false] at h
  rcases h with rfl | rfl | rfl | rfl | rfl
  · simp [P.is_within, P.is_integer]
  · have : ¬((len : Int) + 1 ≤ len) := by omega
    have h2 : (0 : Int) ≤ (len : Int) + 1 := by omega
    simp [P.is_within, P.is_integer, this, h2]
  · simp [P.is_within, P.is_integer]
  · simp [P.is_within, P.is_integer]
  · simp [P.is_within, P.is_integer]
theorem bad_word {b : D} (h : b ∈ ([(cN ()), (cS ([65] : List Nat)), (cS ([97, 32, 98] : List Nat)), (cI (7 : Int))] : List D)) : P.is_word b = .ok false := by
  simp only [List.mem_cons, List.not_mem_nil, or_false] at h
  rcases h with rfl | rfl | rfl | rfl
  · exact is_word_kind rfl
  · exact is_word_sign (by simp) ⟨65, by simp, by simp [L26]⟩
  · exact is_word_sign (by simp) ⟨32, by simp, by simp [L26]⟩
  · exact is_word_kind rfl
theorem none_weaving {ms : List (List Nat)} {d : D} (h : d ∈ ([(cN ()), (cS ([120, 121] : List Nat)), ((cL cS) ms), ((c1 cS) (([121, 120] : List Nat))), ((c1 cS) (([120, 116] : List Nat))), ((c1 cI) ((1 : Int)))] : List D)) : P.is_weaving d = .ok false := by
  simp only [List.mem_cons, List.not_mem_nil, or_false] at h
  rcases h with rfl | rfl | rfl | rfl | rfl | rfl
  · exact is_weaving_kind rfl
  · exact is_weaving_kind rfl
  · exact is_weaving_kind rfl
  · exact is_weaving_no (ms := [[121, 120]]) (by simp) ⟨[121, 120], by simp, by simp⟩
  · exact is_weaving_no (ms := [[120, 116]]) (by simp) ⟨[120, 116], by simp, by simp⟩
  · unfold P.is_weaving
    have e1 : isD "tuple" (c1 cI 1) = .ok true := rfl
    have e2 : itD (c1 cI 1) = .ok [cI 1] := rfl
    rw [e1, Out.ok_bind, if_pos rfl, e2, Out.ok_bind, lcR_okA (fun _ => false) (by simp) (fun x hx => by
      rw [List.mem_singleton.mp hx]; rfl)]
    rfl
theorem no_quad {w : List (List Nat)} (hw : w.length = 4) {d : D} (h : d ∈ ([(cN ()), ((cU cS) (slL none (some (3 : Int)) w)), ((cL cS) w), cU cS (w ++ [[]]), ((c4 cS cS cS cS) (([65] : List Nat), ([] : List Nat), ([] : List Nat), ([] : List Nat))), ((c4 cN cS cS cS) ((), ([] : List Nat), ([] : List Nat), ([] : List Nat)))] : List D)) : P.check_quad d = .exc "NoQuad" := by
  have e0 : P.is_word (cS []) = .ok true := is_word_ok (by intro c hc; simp at hc) (by simp)
  have e1 : P.is_word (cS [65]) = .ok false := is_word_sign (by simp) ⟨65, by simp, by simp [L26]⟩
  have e2 : P.is_word (cN ()) = .ok false := is_word_kind rfl
  simp only [List.mem_cons, List.not_mem_nil, or_false] at h
  rcases h with rfl | rfl | rfl | rfl | rfl | rfl
  · exact check_quad_no rfl
  · exact check_quad_no (by rw [tuple4, slL_to (by omega)]; simp [hw])
  · exact check_quad_no rfl
  · exact check_quad_no (by rw [tuple4]; simp [hw])
  · have t : P.is_tuple (c4 cS cS cS cS (([65] : List Nat), ([] : List Nat), ([] : List Nat), ([] : List Nat))) 4 4 = .ok true := rfl
    rw [check_quad_of (ds := [cS [65], cS [], cS [], cS []]) t rfl (by simp) (by
      intro x hx
      simp only [List.mem_cons, List.not_mem_nil, or_false] at hx
      rcases hx with rfl | rfl | rfl | rfl
      · exact ⟨_, e1⟩
      all_goals exact ⟨_, e0⟩)]
    simp [e1, okB]
  · have t : P.is_tuple (c4 cN cS cS cS ((), ([] : List Nat), ([] : List Nat), ([] : List Nat))) 4 4 = .ok true := rfl
    rw [check_quad_of (ds := [cN (), cS [], cS [], cS []]) t rfl (by simp) (by
      intro x hx
      simp only [List.mem_cons, List.not_mem_nil, or_false] at hx
      rcases hx with rfl | rfl | rfl | rfl
      · exact ⟨_, e2⟩
      all_goals exact ⟨_, e0⟩)]
    simp [e2, okB]
theorem refusals_ok (ns : List Int) {place : Int} (hp : 0 ≤ place ∧ place ≤ 1000) {tr : Tr} (ok : okT tr 10) : P.w_refusals ns place (W4 tr) (mo tr) = .ok true := by
  refine Sat.is ?_
  unfold P.w_refusals
  obtain ⟨h1, h2, h3, h4⟩ := ok.al
  obtain ⟨l1, l2⟩ := Wd_len tr
  have hl := ok.1
  have ck := check3 h1 h2 h3 (by omega)
  have wx := is_word_ok h1 (by omega)
  have wy := is_word_ok h2 (by omega)
  have wz := is_word_ok h3 (by omega)
  refine Sat.bind (fun d => P.is_weaving d = .ok false) (Sat.bind _ (draw_ok ns (by omega) (by omega) (by omega)) fun r hr => ?_) fun none_ hnone => ?_
  · obtain ⟨a, ha, e⟩ := atR_ex (xs := ([(cN ()), (cS ([120, 121] : List Nat)), ((cL cS) (mo tr)), ((c1 cS) (([121, 120] : List Nat))), ((c1 cS) (([120, 116] : List Nat))), ((c1 cI) ((1 : Int)))] : List D)) (i := r) hr.1 (by simpa using hr.2)
    rw [e, Sat_ok]; exact none_weaving ha
  rw [catR_ok (by simp [W4]), Out.ok_bind, Out.ok_bind, Out.ok_bind]
  refine Sat.bind (fun d => P.check_quad d = .exc "NoQuad") (Sat.bind _ (draw_ok ns (by omega) (by omega) (by omega)) fun r hr => ?_) fun quad hquad => ?_
  · obtain ⟨a, ha, e⟩ := atR_ex (xs := ([(cN ()), ((cU cS) (slL none (some (3 : Int)) (W4 tr))), ((cL cS) (W4 tr)), cU cS (W4 tr ++ [[]]), ((c4 cS cS cS cS) (([65] : List Nat), ([] : List Nat), ([] : List Nat), ([] : List Nat))), ((c4 cN cS cS cS) ((), ([] : List Nat), ([] : List Nat), ([] : List Nat)))] : List D)) (i := r) hr.1 (by simpa using hr.2)
    rw [e, Sat_ok]; exact no_quad rfl ha
  refine Sat.bind (fun d => P.is_within d 0 tr.length = .ok false) (Sat.bind _ (draw_ok ns (by omega) (by omega) (by omega)) fun r hr => ?_) fun odd hodd => ?_
  · obtain ⟨a, ha, e⟩ := atR_ex (xs := ([(cI (-1)), (cI (((mo tr).length : Int) + (1 : Int))), (cN ()), (cB true), (cS ([48] : List Nat))] : List D)) (i := r) hr.1 (by simpa using hr.2)
    rw [e, Sat_ok]; rw [mo_len] at ha; exact odd_within ha
  refine Sat.bind (fun d => P.is_word d = .ok false) (Sat.bind _ (draw_ok ns (by omega) (by omega) (by omega)) fun r hr => ?_) fun bad hbad => ?_
  · obtain ⟨a, ha, e⟩ := atR_ex (xs := ([(cN ()), (cS ([65] : List Nat)), (cS ([97, 32, 98] : List Nat)), (cI (7 : Int))] : List D)) (i := r) hr.1 (by simpa using hr.2)
    rw [e, Sat_ok]; exact bad_word ha
  have eu : unp4 (W4 tr) = .ok ((Wd tr).1, (Wd tr).2.1, (Wd tr).2.2.1, (Wd tr).2.2.2) := rfl
  rw [Out.ok_bind, eu, Out.ok_bind]
  have cq := check_quad_ok ok (by omega)
  have cw := check_weaving_ok (mo_MV tr) (by simp; omega)
  dsimp only
  rw [refused0 (jq_no1 hquad), refused0 (jq_no2 cq hquad), refused1 (jw_no1 hnone), refused1 (jw_no2 cw hnone)]
  simp only [Out.ok_bind, decide_true, Bool.not_true, Bool.false_eq_true, if_false]
  rw [catR_ok (by simp; omega), Out.ok_bind, refused2 (pa_num ok (by omega) hodd) (.inl ⟨rfl, rfl⟩)]
  have em : mo tr ++ [[120, 121]] = (List.map (fun p : Mv × Nat => p.1) tr ++ [(⟨false, false⟩ : Mv)]).map mvN := by rw [List.map_append]; rfl
  rw [em, refused2 (pa_woven ck (by simp; omega) (wk_more tr _)) (.inr (.inl ⟨rfl, rfl⟩)), refused2 (pa_weav ck hnone) (.inr (.inr (.inl ⟨rfl, rfl⟩)))]
  simp only [Out.ok_bind, decide_true, Bool.not_true, Bool.false_eq_true, if_false]
  refine Sat.bind (fun asked => P.w_refused_2 2 asked = .ok kWord) (Sat.bind _ (draw_ok ns (by omega) (by omega) (by omega)) fun r hr => ?_) fun asked h => ?_
  · have : r = 0 ∨ r = 1 ∨ r = 2 := by omega
    rcases this with rfl | rfl | rfl
    · rw [setR_c0, Sat_ok]; exact refused2 (pa_word (check_words_no (xs := []) (by simp) hbad)) (.inr (.inr (.inr ⟨rfl, rfl⟩)))
    · rw [setR_c1, Sat_ok]; exact refused2 (pa_word (check_words_no (xs := [cS (Wd tr).1]) (by intro d hd; rw [List.mem_singleton.mp hd]; exact wx) hbad)) (.inr (.inr (.inr ⟨rfl, rfl⟩)))
    · rw [setR_c2, Sat_ok]; exact refused2 (pa_word (check_words_no (xs := [cS (Wd tr).1, cS (Wd tr).2.1]) (by intro d hd; simp only [List.mem_cons, List.not_mem_nil, or_false] at hd; rcases hd with rfl | rfl; exact wx; exact wy) hbad)) (.inr (.inr (.inr ⟨rfl, rfl⟩)))
  rw [h]; simp
theorem judge_all (tr : Tr) (h : tr.length ≤ 1000) : (P.w_judged_2 (W4 tr) (mo tr)).bind (fun v => neD v (c1 cS kWov)) = .ok false := by
  obtain ⟨l1, l2⟩ := Wd_len tr
  have e := w_judged2_ok (Wd tr).1 (Wd tr).2.1 (Wd tr).2.2.1 (Wd tr).2.2.2 (tr.map (·.1)) (by simp; omega) (by omega)
  rw [Wd_jd] at e
  have e : P.w_judged_2 (W4 tr) (mo tr) = .ok Vd.wov.d := e
  rw [e, Out.ok_bind]
  show neD (c1 cS kWov) (c1 cS kWov) = _
  rw [neD_fai (Fai.t1 Fai.S) (by decide)]; simp
theorem right_ok (ns : List Int) {place : Int} (hp : 0 ≤ place ∧ place ≤ 1000) : P.w_right ns place = .ok true := by
  refine Sat.is ?_
  unfold P.w_right
  refine Sat.bind _ (quad_ok ns hp (by omega)) ?_
  rintro _ ⟨a, oa, rfl⟩
  refine Sat.bind _ (quad_ok ns hp (by omega)) ?_
  rintro _ ⟨b, ob, rfl⟩
  dsimp only
  have f : ∀ tr : Tr, c4 cS cS cS cS ((Wd tr).1, (Wd tr).2.1, (Wd tr).2.2.1, (Wd tr).2.2.2) = cU cS (W4 tr) := fun _ => rfl
  have la := oa.1; have lb := ob.1
  have oc := oa.app ob
  obtain ⟨l1, l2⟩ := Wd_len (a ++ b)
  have lc := oc.1
  rw [f, f, joined_quads_ok oa ob (by omega), Out.ok_bind, joined_weavings_ok a b (by omega), Out.ok_bind]
  have r4 : rng1 4 = .ok [0, 1, 2, 3] := by rw [rng1_ok (by omega)]; rfl
  obtain ⟨l3, l4⟩ := Wd_len a
  obtain ⟨l5, l6⟩ := Wd_len b
  simp only [isD_cU, Out.ok_bind, Bool.not_true, Bool.false_eq_true, if_false, r4]
  have hx : ∀ (q : List Nat × List Nat × List Nat × List Nat × List (List Nat)), ixD (c5 cS cS cS cS (cU cS) q) 0 = .ok (cS q.1) ∧ ixD (c5 cS cS cS cS (cU cS) q) 1 = .ok (cS q.2.1) ∧ ixD (c5 cS cS cS cS (cU cS) q) 2 = .ok (cS q.2.2.1) ∧ ixD (c5 cS cS cS cS (cU cS) q) 3 = .ok (cS q.2.2.2.1) := fun _ => ⟨rfl, rfl, rfl, rfl⟩
  rw [lcR_okA (fun k : Int => (W4 (a ++ b)).getD k.toNat []) (by simp) (by
    intro k hk
    simp only [List.mem_cons, List.not_mem_nil, or_false] at hk
    rw [W4_app]
    rcases hk with rfl | rfl | rfl | rfl
    · rw [(hx _).1, (hx _).1, Out.ok_bind, Out.ok_bind, as_S, as_S, Out.ok_bind, Out.ok_bind, catR_ok (by dsimp only; omega)]; rfl
    · rw [(hx _).2.1, (hx _).2.1, Out.ok_bind, Out.ok_bind, as_S, as_S, Out.ok_bind, Out.ok_bind, catR_ok (by dsimp only; omega)]; rfl
    · rw [(hx _).2.2.1, (hx _).2.2.1, Out.ok_bind, Out.ok_bind, as_S, as_S, Out.ok_bind, Out.ok_bind, catR_ok (by dsimp only; omega)]; rfl
    · rw [(hx _).2.2.2, (hx _).2.2.2, Out.ok_bind, Out.ok_bind, as_S, as_S, Out.ok_bind, Out.ok_bind, catR_ok (by dsimp only; omega)]; rfl)]
  have e1 : List.map (fun k : Int => (W4 (a ++ b)).getD k.toNat []) [0, 1, 2, 3] = W4 (a ++ b) := rfl
  rw [e1, catR_ok (by simp; omega), ← mo_app]
  have eu : unp4 (W4 (a ++ b)) = .ok ((Wd (a ++ b)).1, (Wd (a ++ b)).2.1, (Wd (a ++ b)).2.2.1, (Wd (a ++ b)).2.2.2) := rfl
  simp only [Out.ok_bind, decide_true, Bool.not_true, Bool.false_eq_true, if_false, eu]
  have j1 := judge_all (a ++ b) (by omega)
  have ja := oc.al
  have j2 := judged_ok ja.1 ja.2.1 ja.2.2.1 ja.2.2.2 (by omega) ((a ++ b).map (·.1)) (by simp at lc ⊢; omega)
  rw [Wd_jd] at j2
  have j2 : P.judged (cS (Wd (a ++ b)).1) (cS (Wd (a ++ b)).2.1) (cS (Wd (a ++ b)).2.2.1) (cS (Wd (a ++ b)).2.2.2) (cU cS (mo (a ++ b))) = .ok Vd.wov.d := j2
  have n1 : neD (Vd.wov.d) (c1 cS kWov) = .ok false := by
    show neD (c1 cS kWov) (c1 cS kWov) = _
    rw [neD_fai (Fai.t1 Fai.S) (by decide)]; simp
  rw [j1, j2]
  simp only [Out.ok_bind, n1, Bool.false_eq_true, if_false]
  rw [mo_len, parts_at_ok oc (by omega) (i := a.length) (by simp)]
  have n2 : neD (c2 (cU cS) (cU cS) (W4 ((a ++ b).take a.length), W4 ((a ++ b).drop a.length))) (c2 (cU cS) (cU cS) (W4 a, W4 b)) = .ok false := by
    rw [neD_fai (Fai.t2 (Fai.U Fai.S) (Fai.U Fai.S)) (by decide)]; simp
  have n2 : neD (c2 (cU cS) (cU cS) (W4 ((a ++ b).take a.length), W4 ((a ++ b).drop a.length))) (c2 (c4 cS cS cS cS) (c4 cS cS cS cS) (((Wd a).1, (Wd a).2.1, (Wd a).2.2.1, (Wd a).2.2.2), ((Wd b).1, (Wd b).2.1, (Wd b).2.2.1, (Wd b).2.2.2))) = .ok false := n2
  rw [Out.ok_bind, Out.ok_bind, n2]
  simp only [Out.ok_bind, Bool.false_eq_true, if_false]
  refine Sat.bind _ (draw_ok ns (by omega) (by omega) (by simp; omega)) fun at_ hat => ?_
  obtain ⟨i, rfl⟩ : ∃ i : Nat, at_ = i := ⟨at_.toNat, by omega⟩
  rw [mo_len] at hat
  have ta : (a ++ b).take i ++ (a ++ b).drop i = a ++ b := List.take_append_drop i (a ++ b)
  have ot := oc.take i
  have od := oc.drop i
  rw [parts_at_ok oc (by omega) (i := i) (by omega), Out.ok_bind]
  have fr := front_ok ((a ++ b).take i) ((a ++ b).drop i)
  rw [ta] at fr
  have i2 : ∀ p : List (List Nat) × List (List Nat), isD "tuple" (c2 (cU cS) (cU cS) p) = .ok true := fun _ => rfl
  dsimp only
  rw [slL_to (by omega), slL_from (by omega), Int.toNat_natCast, mo_take, mo_drop, fr, i2]
  have j3 := judge_all ((a ++ b).take i) (by have := ot.1; omega)
  have j4 := judge_all ((a ++ b).drop i) (by have := od.1; omega)
  simp only [Out.ok_bind, decide_true, Bool.not_true, Bool.false_eq_true, if_false]
  rw [j3, j4, joined_quads_ok ot od (by omega), ta]
  simp only [Out.ok_bind, decide_true, Bool.not_true, Bool.false_eq_true, if_false]
  have rf := refusals_ok ns hp oa
  have rf : P.w_refusals ns place [(Wd a).1, (Wd a).2.1, (Wd a).2.2.1, (Wd a).2.2.2] (mo a) = .ok true := rf
  rw [rf]; simp
theorem law67 (ns : List Int) (_ : ns.length ≤ 63) : P.law_6 ns = .ok true := by
  refine Sat.is ?_
  unfold P.law_6
  have hm : 2 ≤ max2 (2 : Int) (min2 (ns.length : Int) (24 : Int)) ∧ max2 (2 : Int) (min2 (ns.length : Int) (24 : Int)) ≤ 24 := by
    unfold max2 min2; split <;> split <;> omega
  rw [rng1_ok (by omega), Out.ok_bind]
  refine law_loop (fun k hk => ?_) (by simp)
  have hk' := rng_mem.mp hk
  rw [right_ok ns (by omega)]
  simp
end TL
namespace W_k67
open PySem PySem.Spec PyProof.Rows L2 FL
def topS (i : Nat) : Stmt := PySem.Challenge.pw_fourthword_k67_whole_weavings_joined_and.main.body.getD i (.Pass ⟨0, 0, 0, 0⟩)
abbrev s_is_integer : Stmt := topS 9
abbrev N_is_integer : List Str := ["thing"]
theorem sc_is_integer : FnScope N_is_integer ["thing"] (defScope s_is_integer) := ⟨rfl, rfl, rfl, by decide +kernel, rfl, by decide +kernel, by decide +kernel⟩
abbrev s_is_within : Stmt := topS 10
abbrev N_is_within : List Str := ["thing", "low", "high"]
theorem sc_is_within : FnScope N_is_within ["thing", "low", "high"] (defScope s_is_within) := ⟨rfl, rfl, rfl, by decide +kernel, rfl, by decide +kernel, by decide +kernel⟩
abbrev s_is_tuple : Stmt := topS 11
abbrev N_is_tuple : List Str := ["thing", "least", "most"]
theorem sc_is_tuple : FnScope N_is_tuple ["thing", "least", "most"] (defScope s_is_tuple) := ⟨rfl, rfl, rfl, by decide +kernel, rfl, by decide +kernel, by decide +kernel⟩
abbrev s_is_word : Stmt := topS 12
abbrev N_is_word : List Str := ["thing", "sign"]
theorem sc_is_word : FnScope N_is_word ["thing"] (defScope s_is_word) := ⟨rfl, rfl, rfl, by decide +kernel, rfl, by decide +kernel, by decide +kernel⟩
abbrev s_check_words : Stmt := topS 13
abbrev N_check_words : List Str := ["words", "word"]
theorem sc_check_words : FnScope N_check_words ["words"] (defScope s_check_words) := ⟨rfl, rfl, rfl, by decide +kernel, rfl, by decide +kernel, by decide +kernel⟩
abbrev s_is_weaving : Stmt := topS 17
abbrev N_is_weaving : List Str := ["thing", "move"]
theorem sc_is_weaving : FnScope N_is_weaving ["thing"] (defScope s_is_weaving) := ⟨rfl, rfl, rfl, by decide +kernel, rfl, by decide +kernel, by decide +kernel⟩
abbrev s_check_weaving : Stmt := topS 18
abbrev N_check_weaving : List Str := ["weaving"]
theorem sc_check_weaving : FnScope N_check_weaving ["weaving"] (defScope s_check_weaving) := ⟨rfl, rfl, rfl, by decide +kernel, rfl, by decide +kernel, by decide +kernel⟩
abbrev s_raw_judged : Stmt := topS 19
abbrev N_raw_judged : List Str := ["words", "weaving", "taken", "at", "move", "one", "other", "word"]
theorem sc_raw_judged : FnScope N_raw_judged ["words", "weaving"] (defScope s_raw_judged) := ⟨rfl, rfl, rfl, by decide +kernel, rfl, by decide +kernel, by decide +kernel⟩
abbrev s_judged : Stmt := topS 20
abbrev N_judged : List Str := ["x", "y", "z", "t", "weaving"]
theorem sc_judged : FnScope N_judged ["x", "y", "z", "t", "weaving"] (defScope s_judged) := ⟨rfl, rfl, rfl, by decide +kernel, rfl, by decide +kernel, by decide +kernel⟩
abbrev s_read_off : Stmt := topS 21
abbrev N_read_off : List Str := ["x", "y", "z", "weaving", "words", "taken", "row", "made", "move", "side", "letter"]
theorem sc_read_off : FnScope N_read_off ["x", "y", "z", "weaving"] (defScope s_read_off) := ⟨rfl, rfl, rfl, by decide +kernel, rfl, by decide +kernel, by decide +kernel⟩
abbrev s_check_quad : Stmt := topS 23
abbrev N_check_quad : List Str := ["quad", "word"]
theorem sc_check_quad : FnScope N_check_quad ["quad"] (defScope s_check_quad) := ⟨rfl, rfl, rfl, by decide +kernel, rfl, by decide +kernel, by decide +kernel⟩
abbrev s_joined_quads : Stmt := topS 24
abbrev N_joined_quads : List Str := ["one", "other", "mine", "its"]
theorem sc_joined_quads : FnScope N_joined_quads ["one", "other"] (defScope s_joined_quads) := ⟨rfl, rfl, rfl, by decide +kernel, rfl, by decide +kernel, by decide +kernel⟩
abbrev s_joined_weavings : Stmt := topS 25
abbrev N_joined_weavings : List Str := ["one", "other"]
theorem sc_joined_weavings : FnScope N_joined_weavings ["one", "other"] (defScope s_joined_weavings) := ⟨rfl, rfl, rfl, by decide +kernel, rfl, by decide +kernel, by decide +kernel⟩
abbrev s_quad_of : Stmt := topS 26
abbrev N_quad_of : List Str := ["row", "weaving", "side", "move", "letter"]
theorem sc_quad_of : FnScope N_quad_of ["row", "weaving"] (defScope s_quad_of) := ⟨rfl, rfl, rfl, by decide +kernel, rfl, by decide +kernel, by decide +kernel⟩
abbrev s_parts_at : Stmt := topS 27
abbrev N_parts_at : List Str := ["x", "y", "z", "weaving", "at", "row", "made"]
theorem sc_parts_at : FnScope N_parts_at ["x", "y", "z", "weaving", "at"] (defScope s_parts_at) := ⟨rfl, rfl, rfl, by decide +kernel, rfl, by decide +kernel, by decide +kernel⟩
abbrev s__law_cell : Stmt := topS 29
abbrev N__law_cell : List Str := ["script", "place"]
theorem sc__law_cell : FnScope N__law_cell ["script", "place"] (defScope s__law_cell) := ⟨rfl, rfl, rfl, by decide +kernel, rfl, by decide +kernel, by decide +kernel⟩
abbrev s__law_draw : Stmt := topS 30
abbrev N__law_draw : List Str := ["script", "place", "turn", "many", "cell", "number", "step"]
theorem sc__law_draw : FnScope N__law_draw ["script", "place", "turn", "many"] (defScope s__law_draw) := ⟨rfl, rfl, rfl, by decide +kernel, rfl, by decide +kernel, by decide +kernel⟩
abbrev s__law_letter : Stmt := topS 31
abbrev N__law_letter : List Str := ["number"]
theorem sc__law_letter : FnScope N__law_letter ["number"] (defScope s__law_letter) := ⟨rfl, rfl, rfl, by decide +kernel, rfl, by decide +kernel, by decide +kernel⟩
abbrev s__law_quad : Stmt := topS 32
abbrev N__law_quad : List Str := ["script", "place", "turn", "most", "words", "weaving", "wide", "start", "k", "move", "letter"]
theorem sc__law_quad : FnScope N__law_quad ["script", "place", "turn", "most"] (defScope s__law_quad) := ⟨rfl, rfl, rfl, by decide +kernel, rfl, by decide +kernel, by decide +kernel⟩
abbrev s__law_judged : Stmt := topS 33
abbrev N__law_judged : List Str := ["words", "weaving", "left", "k", "one", "other"]
theorem sc__law_judged : FnScope N__law_judged ["words", "weaving"] (defScope s__law_judged) := ⟨rfl, rfl, rfl, by decide +kernel, rfl, by decide +kernel, by decide +kernel⟩
abbrev s__law_refused : Stmt := topS 34
abbrev N__law_refused : List Str := ["way", "asked", "told"]
theorem sc__law_refused : FnScope N__law_refused ["way", "asked"] (defScope s__law_refused) := ⟨rfl, rfl, rfl, by decide +kernel, rfl, by decide +kernel, by decide +kernel⟩
abbrev s__law_front : Stmt := topS 35
abbrev N__law_front : List Str := ["words", "weaving", "sizes", "move", "names", "front", "side", "k"]
theorem sc__law_front : FnScope N__law_front ["words", "weaving"] (defScope s__law_front) := ⟨rfl, rfl, rfl, by decide +kernel, rfl, by decide +kernel, by decide +kernel⟩
abbrev s__law_refusals : Stmt := topS 36
abbrev N__law_refusals : List Str := ["script", "place", "words", "weaving", "none", "quad", "odd", "bad", "x", "y", "z", "t", "more", "asked"]
theorem sc__law_refusals : FnScope N__law_refusals ["script", "place", "words", "weaving"] (defScope s__law_refusals) := ⟨rfl, rfl, rfl, by decide +kernel, rfl, by decide +kernel, by decide +kernel⟩
abbrev s__law_right : Stmt := topS 37
abbrev N__law_right : List Str := ["script", "place", "one", "other", "words", "weaving", "x", "y", "z", "t", "at", "found", "k"]
theorem sc__law_right : FnScope N__law_right ["script", "place"] (defScope s__law_right) := ⟨rfl, rfl, rfl, by decide +kernel, rfl, by decide +kernel, by decide +kernel⟩
abbrev s_law : Stmt := topS 38
abbrev N_law : List Str := ["script", "place"]
theorem sc_law : FnScope N_law ["script"] (defScope s_law) := ⟨rfl, rfl, rfl, by decide +kernel, rfl, by decide +kernel, by decide +kernel⟩
def c_LETTERS : D := (.str "abcdefghijklmnopqrstuvwxyz")
def c_MOVES : D := (.ftup [(.str "xy"), (.str "xz"), (.str "ty"), (.str "tz")])
def c_PLACES : D := (.str "xyzt")
def xs_all : List Str := ["NoNumber", "NoQuad", "NoWeaving", "NoWord", "NotWoven"]
def cs_NoNumber : List Str := ["NoNumber"]
def cs_NoQuad : List Str := ["NoQuad"]
def cs_NoWeaving : List Str := ["NoWeaving"]
def cs_NoWord : List Str := ["NoWord"]
def cs_NotWoven : List Str := ["NotWoven"]
noncomputable def b_is_integer : Env' → Res Fl := sRet (nOf (eAnd (eB D.isinst (aCons (eVar 0) (aCons (eC (.ty "int")) (aNil)))) (eNot (eB D.isinst (aCons (eVar 0) (aCons (eC (.ty "bool")) (aNil)))))))
noncomputable def m_is_integer : List D → Out D := mirP 1 1 b_is_integer
noncomputable def b_is_within : Env' → Res Fl := sRet (nOf (eAnd (eCall m_is_integer (aConsE (eVar 0) (aNil))) (eChain D.le D.le (eVar 1) (eVar 0) (eVar 2))))
noncomputable def m_is_within : List D → Out D := mirP 3 3 b_is_within
noncomputable def b_is_tuple : Env' → Res Fl := sRet (nOf (eAnd (eB D.isinst (aCons (eVar 0) (aCons (eC (.ty "tuple")) (aNil)))) (eChain D.le D.le (eVar 1) (eB D.len (aCons (eVar 0) (aNil))) (eVar 2))))
noncomputable def m_is_tuple : List D → Out D := mirP 3 3 b_is_tuple
noncomputable def b_is_word : Env' → Res Fl := sRet (nOf (eAnd (eB D.isinst (aCons (eVar 0) (aCons (eC (.ty "str")) (aNil)))) (eB D.all (aCons (oOf (nLc (iSeq (eVar 0)) (gN 1) (ttYes) (nOf (eBin D.isin (eVar 1) (eC c_LETTERS))) [1])) (aNil)))))
noncomputable def m_is_word : List D → Out D := mirP 1 2 b_is_word
noncomputable def b_check_words : Env' → Res Fl := sFor (iSeq (eVar 0)) (gN 1) (sIf (tstNot (tstT (eCall m_is_word (aConsE (eVar 1) (aNil))))) (sRaise "NoWord") (sNil))
noncomputable def m_check_words : List D → Out D := mirP 1 2 b_check_words
noncomputable def b_is_weaving : Env' → Res Fl := sRet (nOf (eAnd (eB D.isinst (aCons (eVar 0) (aCons (eC (.ty "tuple")) (aNil)))) (eB D.all (aCons (oOf (nLc (iSeq (eVar 0)) (gN 1) (ttYes) (nOf (eAnd (eB D.isinst (aCons (eVar 1) (aCons (eC (.ty "str")) (aNil)))) (eBin D.isin (eVar 1) (eC c_MOVES)))) [1])) (aNil)))))
noncomputable def m_is_weaving : List D → Out D := mirP 1 2 b_is_weaving
noncomputable def b_check_weaving : Env' → Res Fl := sIf (tstNot (tstT (eCall m_is_weaving (aConsE (eVar 0) (aNil))))) (sRaise "NoWeaving") (sNil)
noncomputable def m_check_weaving : List D → Out D := mirP 1 1 b_check_weaving
noncomputable def b_raw_judged : Env' → Res Fl := sSeq (sSet 2 (nLst (atCons (nOf (eC (.int 0))) (atCons (nOf (eC (.int 0))) (atCons (nOf (eC (.int 0))) (atCons (nOf (eC (.int 0))) (atNil))))))) (sSeq (sFor (iEnum (eVar 1)) (gT (gsCons (gN 3) (gsCons (gN 4) (gsNil))) 2) (sSeq (sPar 5 6 (aConsE (eM "str" D.sindex (eC c_PLACES) (aCons (eBin D.ix (eVar 4) (eC (.int 0))) (aNil))) (aConsE (eM "str" D.sindex (eC c_PLACES) (aCons (eBin D.ix (eVar 4) (eC (.int 1))) (aNil))) (aNil)))) (sSeq (sIf (tstOr (tstV (eBin D.eq (eBin D.ix (eVar 2) (eVar 5)) (eB D.len (aCons (eBin D.ix (eVar 0) (eVar 5)) (aNil))))) (tstV (eBin D.eq (eBin D.ix (eVar 2) (eVar 6)) (eB D.len (aCons (eBin D.ix (eVar 0) (eVar 6)) (aNil)))))) (sRet (nOf (eTup (aConsE (eC (.str "refused")) (aConsE (eVar 3) (aConsE (eC (.str "end")) (aNil))))))) (sNil)) (sSeq (sIf (tstV (eBin D.ne (eBin D.ix (eBin D.ix (eVar 0) (eVar 5)) (eBin D.ix (eVar 2) (eVar 5))) (eBin D.ix (eBin D.ix (eVar 0) (eVar 6)) (eBin D.ix (eVar 2) (eVar 6))))) (sRet (nOf (eTup (aConsE (eC (.str "refused")) (aConsE (eVar 3) (aConsE (eC (.str "unlike")) (aNil))))))) (sNil)) (sSeq (sAugIx 2 D.iadd (eVar 5) (eC (.int 1))) (sAugIx 2 D.iadd (eVar 6) (eC (.int 1)))))))) (sSeq (sIf (tstV (eBin D.ne (eVar 2) (oOf (nLc (iSeq (eVar 0)) (gN 7) (ttYes) (nOf (eB D.len (aCons (eVar 7) (aNil)))) [7])))) (sRet (nOf (eTup (aConsE (eC (.str "refused")) (aConsE (eB D.len (aCons (eVar 1) (aNil))) (aConsE (eC (.str "left")) (aNil))))))) (sNil)) (sRet (nOf (eTup (aConsE (eC (.str "woven")) (aNil)))))))
noncomputable def m_raw_judged : List D → Out D := mirP 2 8 b_raw_judged
noncomputable def b_judged : Env' → Res Fl := sSeq (sExpr (eCall m_check_words (aConsE (oOf (nLst (atCons (nOf (eVar 0)) (atCons (nOf (eVar 1)) (atCons (nOf (eVar 2)) (atCons (nOf (eVar 3)) (atNil))))))) (aNil)))) (sSeq (sExpr (eCall m_check_weaving (aConsE (eVar 4) (aNil)))) (sRet (nOf (eCall m_raw_judged (aConsE (oOf (nLst (atCons (nOf (eVar 0)) (atCons (nOf (eVar 1)) (atCons (nOf (eVar 2)) (atCons (nOf (eVar 3)) (atNil))))))) (aConsE (eVar 4) (aNil)))))))
noncomputable def m_judged : List D → Out D := mirP 5 5 b_judged
noncomputable def b_read_off : Env' → Res Fl := sSeq (sParT [4, 5, 6, 7] (atCons (nOf (oOf (nDisp [.inr "x", .inr "y", .inr "z"] (aConsE (eVar 0) (aConsE (eVar 1) (aConsE (eVar 2) (aNil))))))) (atCons (nDisp [.inr "x", .inr "y", .inr "z"] (aConsE (eC (.int 0)) (aConsE (eC (.int 0)) (aConsE (eC (.int 0)) (aNil))))) (atCons (nOf (eC (.str ""))) (atCons (nOf (eC (.str ""))) (atNil)))))) (sSeq (sFor (iSeq (eVar 3)) (gN 8) (sSeq (sSet 9 (nOf (eBin D.ix (eVar 8) (eC (.int 1))))) (sSeq (sIf (tstV (eBin D.eq (eBin D.dget (eVar 5) (eVar 9)) (eB D.len (aCons (eBin D.dget (eVar 4) (eVar 9)) (aNil))))) (sRaise "NotWoven") (sNil)) (sSeq (sSet 10 (nOf (eBin D.ix (eBin D.dget (eVar 4) (eVar 9)) (eBin D.dget (eVar 5) (eVar 9))))) (sSeq (sDaug 5 D.iadd (eVar 9) (eC (.int 1))) (sSeq (sSet 6 (nOf (eBin D.add (eVar 6) (eVar 10)))) (sIf (tstV (eBin D.eq (eBin D.ix (eVar 8) (eC (.int 0))) (eC (.str "t")))) (sSet 7 (nOf (eBin D.add (eVar 7) (eVar 10)))) (sSeq (sIf (tstOr (tstV (eBin D.eq (eBin D.dget (eVar 5) (eC (.str "x"))) (eB D.len (aCons (eVar 0) (aNil))))) (tstV (eBin D.ne (eBin D.ix (eVar 0) (eBin D.dget (eVar 5) (eC (.str "x")))) (eVar 10)))) (sRaise "NotWoven") (sNil)) (sDaug 5 D.iadd (eC (.str "x")) (eC (.int 1))))))))))) (sSeq (sIf (tstV (eBin D.ne (oOf (nLst (atCons (nOf (eBin D.dget (eVar 5) (eC (.str "x")))) (atCons (nOf (eBin D.dget (eVar 5) (eC (.str "y")))) (atCons (nOf (eBin D.dget (eVar 5) (eC (.str "z")))) (atNil)))))) (oOf (nLst (atCons (nOf (eB D.len (aCons (eVar 0) (aNil)))) (atCons (nOf (eB D.len (aCons (eVar 1) (aNil)))) (atCons (nOf (eB D.len (aCons (eVar 2) (aNil)))) (atNil)))))))) (sRaise "NotWoven") (sNil)) (sRet (nOf (eTup (aConsE (eVar 6) (aConsE (eVar 7) (aNil))))))))
noncomputable def m_read_off : List D → Out D := mirP 4 11 b_read_off
noncomputable def b_check_quad : Env' → Res Fl := sIf (tstOr (tstNot (tstT (eCall m_is_tuple (aConsE (eVar 0) (aConsE (eC (.int 4)) (aConsE (eC (.int 4)) (aNil))))))) (tstNot (tstT (eB D.all (aCons (oOf (nLc (iSeq (eVar 0)) (gN 1) (ttYes) (nOf (eCall m_is_word (aConsE (eVar 1) (aNil)))) [1])) (aNil)))))) (sRaise "NoQuad") (sNil)
noncomputable def m_check_quad : List D → Out D := mirP 1 2 b_check_quad
noncomputable def b_joined_quads : Env' → Res Fl := sSeq (sExpr (eCall m_check_quad (aConsE (eVar 0) (aNil)))) (sSeq (sExpr (eCall m_check_quad (aConsE (eVar 1) (aNil)))) (sRet (nOf (eB D.toTup (aCons (oOf (nLc (iZipW (eVar 0) (eVar 1)) (gT (gsCons (gN 2) (gsCons (gN 3) (gsNil))) 2) (ttYes) (nOf (eBin D.add (eVar 2) (eVar 3))) [2, 3])) (aNil))))))
noncomputable def m_joined_quads : List D → Out D := mirP 2 4 b_joined_quads
noncomputable def b_joined_weavings : Env' → Res Fl := sSeq (sExpr (eCall m_check_weaving (aConsE (eVar 0) (aNil)))) (sSeq (sExpr (eCall m_check_weaving (aConsE (eVar 1) (aNil)))) (sRet (nOf (eBin D.add (eVar 0) (eVar 1)))))
noncomputable def m_joined_weavings : List D → Out D := mirP 2 2 b_joined_weavings
noncomputable def b_quad_of : Env' → Res Fl := sRet (nOf (eB D.toTup (aCons (oOf (nLc (iSeq (eC (.str "xyzt"))) (gN 2) (ttYes) (nOf (eM "str" D.join (eC (.str "")) (aCons (oOf (nLc (iZipW (eVar 1) (eVar 0)) (gT (gsCons (gN 3) (gsCons (gN 4) (gsNil))) 2) (tstV (eBin D.isin (eVar 2) (eVar 3))) (nOf (eVar 4)) [3, 4])) (aNil)))) [2])) (aNil))))
noncomputable def m_quad_of : List D → Out D := mirP 2 5 b_quad_of
noncomputable def b_parts_at : Env' → Res Fl := sSeq (sExpr (eCall m_check_words (aConsE (oOf (nLst (atCons (nOf (eVar 0)) (atCons (nOf (eVar 1)) (atCons (nOf (eVar 2)) (atNil)))))) (aNil)))) (sSeq (sExpr (eCall m_check_weaving (aConsE (eVar 3) (aNil)))) (sSeq (sUnpack (eCall m_read_off (aConsE (eVar 0) (aConsE (eVar 1) (aConsE (eVar 2) (aConsE (eVar 3) (aNil)))))) (gT (gsCons (gN 5) (gsCons (gN 6) (gsNil))) 2)) (sSeq (sIf (tstNot (tstT (eCall m_is_within (aConsE (eVar 4) (aConsE (eC (.int 0)) (aConsE (eB D.len (aCons (eVar 3) (aNil))) (aNil))))))) (sRaise "NoNumber") (sNil)) (sRet (nOf (eTup (aConsE (eCall m_quad_of (aConsE (eSl (eVar 5) (pNone) (pSome (eVar 4))) (aConsE (eSl (eVar 3) (pNone) (pSome (eVar 4))) (aNil)))) (aConsE (eCall m_quad_of (aConsE (eSl (eVar 5) (pSome (eVar 4)) (pNone)) (aConsE (eSl (eVar 3) (pSome (eVar 4)) (pNone)) (aNil)))) (aNil)))))))))
noncomputable def m_parts_at : List D → Out D := mirP 5 7 b_parts_at
noncomputable def b__law_cell : Env' → Res Fl := sSeq (sIf (tstV (eBin D.lt (eVar 1) (eB D.len (aCons (eVar 0) (aNil))))) (sRet (nOf (eBin D.ix (eVar 0) (eVar 1)))) (sNil)) (sRet (nOf (eC (.int 0))))
noncomputable def m__law_cell : List D → Out D := mirP 2 2 b__law_cell
noncomputable def b__law_draw : Env' → Res Fl := sSeq (sSet 4 (nOf (eCall m__law_cell (aConsE (eVar 0) (aConsE (eVar 1) (aNil)))))) (sSeq (sIf (tstV (eBin D.ge (eVar 4) (eBin D.pow (eC (.int 10)) (eC (.int 18))))) (sSeq (sFor (iRange1 (aCons (eVar 2) (aNil))) (gN 6) (sSet 4 (nOf (eBin D.fdiv (eVar 4) (eC (.int 1009)))))) (sRet (nOf (eBin D.mod (eB D.toInt (aCons (eVar 4) (aNil))) (eVar 3))))) (sNil)) (sSeq (sSet 5 (nOf (eBin D.mod (eB D.toInt (aCons (eBin D.add (eBin D.add (eBin D.add (eBin D.mul (eVar 4) (eC (.int 48271))) (eBin D.mul (eVar 1) (eC (.int 7919)))) (eBin D.mul (eVar 2) (eC (.int 69621)))) (eC (.int 11))) (aNil))) (eC (.int 2147483647))))) (sSeq (sSet 5 (nOf (eBin D.mod (eB D.toInt (aCons (eBin D.add (eBin D.pow (eVar 5) (eC (.int 5))) (eBin D.mul (eVar 2) (eC (.int 16811)))) (aNil))) (eC (.int 2147483629))))) (sSeq (sSet 5 (nOf (eBin D.mod (eB D.toInt (aCons (eBin D.mul (eVar 5) (eBin D.add (eBin D.add (eBin D.fdiv (eVar 5) (eC (.int 1009))) (eC (.int 69621))) (eBin D.mul (eC (.int 31)) (eVar 2)))) (aNil))) (eC (.int 2147483587))))) (sRet (nOf (eBin D.mod (eB D.toInt (aCons (eBin D.fdiv (eVar 5) (eC (.int 16))) (aNil))) (eVar 3))))))))
noncomputable def m__law_draw : List D → Out D := mirP 4 7 b__law_draw
noncomputable def b__law_letter : Env' → Res Fl := sRet (nOf (eBin D.ix (eC (.str "abcdefghijklmnopqrstuvwxyz")) (eBin D.mod (eB D.toInt (aCons (eVar 0) (aNil))) (eC (.int 26)))))
noncomputable def m__law_letter : List D → Out D := mirP 1 1 b__law_letter
noncomputable def b__law_quad : Env' → Res Fl := sSeq (sSet 4 (nDisp [.inr "x", .inr "y", .inr "z", .inr "t"] (aConsE (eC (.str "")) (aConsE (eC (.str "")) (aConsE (eC (.str "")) (aConsE (eC (.str "")) (aNil))))))) (sSeq (sSet 5 (nLst (atNil))) (sSeq (sSet 6 (nOf (eBin D.ix (oOf (nLst (atCons (nOf (eC (.int 1))) (atCons (nOf (eC (.int 2))) (atCons (nOf (eC (.int 3))) (atCons (nOf (eC (.int 26))) (atNil))))))) (eCall m__law_draw (aConsE (eVar 0) (aConsE (eVar 1) (aConsE (eVar 2) (aConsE (eC (.int 4)) (aNil))))))))) (sSeq (sSet 7 (nOf (eCall m__law_draw (aConsE (eVar 0) (aConsE (eVar 1) (aConsE (eBin D.add (eVar 2) (eC (.int 1))) (aConsE (eC (.int 26)) (aNil)))))))) (sSeq (sFor (iRange1 (aCons (eCall m__law_draw (aConsE (eVar 0) (aConsE (eVar 1) (aConsE (eBin D.add (eVar 2) (eC (.int 2))) (aConsE (eBin D.add (eVar 3) (eC (.int 1))) (aNil)))))) (aNil))) (gN 8) (sSeq (sSet 9 (nOf (eBin D.ix (oOf (nLst (atCons (nOf (eC (.str "xy"))) (atCons (nOf (eC (.str "xz"))) (atCons (nOf (eC (.str "ty"))) (atCons (nOf (eC (.str "tz"))) (atNil))))))) (eCall m__law_draw (aConsE (eVar 0) (aConsE (eVar 1) (aConsE (eBin D.add (eBin D.add (eVar 2) (eC (.int 3))) (eBin D.mul (eC (.int 2)) (eVar 8))) (aConsE (eC (.int 4)) (aNil))))))))) (sSeq (sSet 10 (nOf (eCall m__law_letter (aConsE (eBin D.add (eVar 7) (eCall m__law_draw (aConsE (eVar 0) (aConsE (eVar 1) (aConsE (eBin D.add (eBin D.add (eVar 2) (eC (.int 4))) (eBin D.mul (eC (.int 2)) (eVar 8))) (aConsE (eVar 6) (aNil))))))) (aNil))))) (sSeq (sAppend 5 (nOf (eVar 9))) (sSeq (sDput 4 (nOf (eBin D.add (eBin D.dget (eVar 4) (eBin D.ix (eVar 9) (eC (.int 0)))) (eVar 10))) (eBin D.ix (eVar 9) (eC (.int 0)))) (sDput 4 (nOf (eBin D.add (eBin D.dget (eVar 4) (eBin D.ix (eVar 9) (eC (.int 1)))) (eVar 10))) (eBin D.ix (eVar 9) (eC (.int 1))))))))) (sRet (nOf (eTup (aConsE (eBin D.dget (eVar 4) (eC (.str "x"))) (aConsE (eBin D.dget (eVar 4) (eC (.str "y"))) (aConsE (eBin D.dget (eVar 4) (eC (.str "z"))) (aConsE (eBin D.dget (eVar 4) (eC (.str "t"))) (aConsE (eB D.toTup (aCons (eVar 5) (aNil))) (aNil)))))))))))))
noncomputable def m__law_quad : List D → Out D := mirP 4 11 b__law_quad
noncomputable def b__law_judged : Env' → Res Fl := sSeq (sSet 2 (nDisp [.inr "x", .inr "y", .inr "z", .inr "t"] (aConsE (eBin D.ix (eVar 0) (eC (.int 0))) (aConsE (eBin D.ix (eVar 0) (eC (.int 1))) (aConsE (eBin D.ix (eVar 0) (eC (.int 2))) (aConsE (eBin D.ix (eVar 0) (eC (.int 3))) (aNil))))))) (sSeq (sFor (iRange1 (aCons (eB D.len (aCons (eVar 1) (aNil))) (aNil))) (gN 3) (sSeq (sSet 4 (nOf (eBin D.ix (eBin D.ix (eVar 1) (eVar 3)) (eC (.int 0))))) (sSeq (sSet 5 (nOf (eBin D.ix (eBin D.ix (eVar 1) (eVar 3)) (eC (.int 1))))) (sSeq (sIf (tstOr (tstV (eBin D.eq (eBin D.dget (eVar 2) (eVar 4)) (eC (.str "")))) (tstV (eBin D.eq (eBin D.dget (eVar 2) (eVar 5)) (eC (.str ""))))) (sRet (nOf (eTup (aConsE (eC (.str "refused")) (aConsE (eVar 3) (aConsE (eC (.str "end")) (aNil))))))) (sNil)) (sSeq (sIf (tstV (eBin D.ne (eBin D.ix (eBin D.dget (eVar 2) (eVar 4)) (eC (.int 0))) (eBin D.ix (eBin D.dget (eVar 2) (eVar 5)) (eC (.int 0))))) (sRet (nOf (eTup (aConsE (eC (.str "refused")) (aConsE (eVar 3) (aConsE (eC (.str "unlike")) (aNil))))))) (sNil)) (sSeq (sDput 2 (nOf (eSl (eBin D.dget (eVar 2) (eVar 4)) (pSome (eC (.int 1))) (pNone))) (eVar 4)) (sDput 2 (nOf (eSl (eBin D.dget (eVar 2) (eVar 5)) (pSome (eC (.int 1))) (pNone))) (eVar 5)))))))) (sSeq (sIf (tstV (eBin D.ne (eBin D.add (eBin D.add (eBin D.add (eBin D.dget (eVar 2) (eC (.str "x"))) (eBin D.dget (eVar 2) (eC (.str "y")))) (eBin D.dget (eVar 2) (eC (.str "z")))) (eBin D.dget (eVar 2) (eC (.str "t")))) (eC (.str "")))) (sRet (nOf (eTup (aConsE (eC (.str "refused")) (aConsE (eB D.len (aCons (eVar 1) (aNil))) (aConsE (eC (.str "left")) (aNil))))))) (sNil)) (sRet (nOf (eTup (aConsE (eC (.str "woven")) (aNil)))))))
noncomputable def m__law_judged : List D → Out D := mirP 2 6 b__law_judged
noncomputable def b__law_refused : Env' → Res Fl := sSeq (sSet 2 (nOf (eC (.str "")))) (sSeq (sTry xs_all [(cs_NoQuad, sSet 2 (nOf (eC (.str "quad")))), (cs_NoWeaving, sSet 2 (nOf (eC (.str "weaving")))), (cs_NoWord, sSet 2 (nOf (eC (.str "word")))), (cs_NotWoven, sSet 2 (nOf (eC (.str "woven")))), (cs_NoNumber, sSet 2 (nOf (eC (.str "number"))))] (sIf (tstV (eBin D.eq (eVar 0) (eC (.int 0)))) (sExpr (eCall m_joined_quads (aConsE (eBin D.ix (eVar 1) (eC (.int 0))) (aConsE (eBin D.ix (eVar 1) (eC (.int 1))) (aNil))))) (sIf (tstV (eBin D.eq (eVar 0) (eC (.int 1)))) (sExpr (eCall m_joined_weavings (aConsE (eBin D.ix (eVar 1) (eC (.int 0))) (aConsE (eBin D.ix (eVar 1) (eC (.int 1))) (aNil))))) (sExpr (eCall m_parts_at (aConsE (eBin D.ix (eVar 1) (eC (.int 0))) (aConsE (eBin D.ix (eVar 1) (eC (.int 1))) (aConsE (eBin D.ix (eVar 1) (eC (.int 2))) (aConsE (eBin D.ix (eVar 1) (eC (.int 3))) (aConsE (eBin D.ix (eVar 1) (eC (.int 4))) (aNil))))))))))) (sRet (nOf (eVar 2))))
noncomputable def m__law_refused : List D → Out D := mirP 2 3 b__law_refused
noncomputable def b__law_front : Env' → Res Fl := sSeq (sSet 2 (nDisp [.inr "x", .inr "y", .inr "z", .inr "t"] (aConsE (eC (.int 0)) (aConsE (eC (.int 0)) (aConsE (eC (.int 0)) (aConsE (eC (.int 0)) (aNil))))))) (sSeq (sFor (iSeq (eVar 1)) (gN 3) (sFor (iSeq (eVar 3)) (gN 6) (sDput 2 (nOf (eBin D.add (eBin D.dget (eVar 2) (eVar 6)) (eC (.int 1)))) (eVar 6)))) (sSeq (sSet 4 (nOf (eC (.str "xyzt")))) (sSeq (sSet 5 (nOf (eB D.toTup (aCons (oOf (nLc (iRange1 (aCons (eC (.int 4)) (aNil))) (gN 7) (ttYes) (nOf (eSl (eBin D.ix (eVar 0) (eVar 7)) (pNone) (pSome (eBin D.dget (eVar 2) (eBin D.ix (eVar 4) (eVar 7)))))) [7])) (aNil))))) (sRet (nOf (eTup (aConsE (eVar 5) (aConsE (eB D.toTup (aCons (oOf (nLc (iRange1 (aCons (eC (.int 4)) (aNil))) (gN 7) (ttYes) (nOf (eSl (eBin D.ix (eVar 0) (eVar 7)) (pSome (eBin D.dget (eVar 2) (eBin D.ix (eVar 4) (eVar 7)))) (pNone))) [7])) (aNil))) (aNil)))))))))
noncomputable def m__law_front : List D → Out D := mirP 2 8 b__law_front
noncomputable def b__law_refusals : Env' → Res Fl := sSeq (sSet 4 (nOf (eBin D.ix (oOf (nLst (atCons (nOf (eC .non)) (atCons (nOf (eC (.str "xy"))) (atCons (nOf (oOf (nB D.toLstS (aCons (eVar 3) (aNil))))) (atCons (nOf (eTup (aConsE (eC (.str "yx")) (aNil)))) (atCons (nOf (eTup (aConsE (eC (.str "xt")) (aNil)))) (atCons (nOf (eTup (aConsE (eC (.int 1)) (aNil)))) (atNil))))))))) (eCall m__law_draw (aConsE (eVar 0) (aConsE (eVar 1) (aConsE (eC (.int 61)) (aConsE (eC (.int 6)) (aNil))))))))) (sSeq (sSet 5 (nLst (atCons (nOf (eC .non)) (atCons (nOf (eSl (eVar 2) (pNone) (pSome (eC (.int 3))))) (atCons (nOf (oOf (nB D.toLstS (aCons (eVar 2) (aNil))))) (atCons (nOf (eBin D.add (eVar 2) (eTup (aConsE (eC (.str "")) (aNil))))) (atCons (nOf (eTup (aConsE (eC (.str "A")) (aConsE (eC (.str "")) (aConsE (eC (.str "")) (aConsE (eC (.str "")) (aNil))))))) (atCons (nOf (eTup (aConsE (eC .non) (aConsE (eC (.str "")) (aConsE (eC (.str "")) (aConsE (eC (.str "")) (aNil))))))) (atNil))))))))) (sSeq (sSet 5 (nOf (eBin D.ix (eVar 5) (eCall m__law_draw (aConsE (eVar 0) (aConsE (eVar 1) (aConsE (eC (.int 62)) (aConsE (eC (.int 6)) (aNil))))))))) (sSeq (sSet 6 (nOf (eBin D.ix (oOf (nLst (atCons (nOf (eUn D.neg (eC (.int 1)))) (atCons (nOf (eBin D.add (eB D.len (aCons (eVar 3) (aNil))) (eC (.int 1)))) (atCons (nOf (eC .non)) (atCons (nOf (eC (.bl true))) (atCons (nOf (eC (.str "0"))) (atNil)))))))) (eCall m__law_draw (aConsE (eVar 0) (aConsE (eVar 1) (aConsE (eC (.int 63)) (aConsE (eC (.int 5)) (aNil))))))))) (sSeq (sSet 7 (nOf (eBin D.ix (oOf (nLst (atCons (nOf (eC .non)) (atCons (nOf (eC (.str "A"))) (atCons (nOf (eC (.str "a b"))) (atCons (nOf (eC (.int 7))) (atNil))))))) (eCall m__law_draw (aConsE (eVar 0) (aConsE (eVar 1) (aConsE (eC (.int 64)) (aConsE (eC (.int 4)) (aNil))))))))) (sSeq (sUnpack (eVar 2) (gT (gsCons (gN 8) (gsCons (gN 9) (gsCons (gN 10) (gsCons (gN 11) (gsNil))))) 4)) (sSeq (sIf (tstOr (tstV (eBin D.ne (eCall m__law_refused (aConsE (eC (.int 0)) (aConsE (oOf (nLst (atCons (nOf (eVar 5)) (atCons (nOf (eVar 2)) (atNil))))) (aNil)))) (eC (.str "quad")))) (tstV (eBin D.ne (eCall m__law_refused (aConsE (eC (.int 0)) (aConsE (oOf (nLst (atCons (nOf (eVar 2)) (atCons (nOf (eVar 5)) (atNil))))) (aNil)))) (eC (.str "quad"))))) (sRet (nOf (eC (.bl false)))) (sNil)) (sSeq (sIf (tstOr (tstV (eBin D.ne (eCall m__law_refused (aConsE (eC (.int 1)) (aConsE (oOf (nLst (atCons (nOf (eVar 4)) (atCons (nOf (eVar 3)) (atNil))))) (aNil)))) (eC (.str "weaving")))) (tstV (eBin D.ne (eCall m__law_refused (aConsE (eC (.int 1)) (aConsE (oOf (nLst (atCons (nOf (eVar 3)) (atCons (nOf (eVar 4)) (atNil))))) (aNil)))) (eC (.str "weaving"))))) (sRet (nOf (eC (.bl false)))) (sNil)) (sSeq (sSet 12 (nOf (eBin D.add (eVar 3) (eTup (aConsE (eC (.str "xy")) (aNil)))))) (sSeq (sIf (tstOr (tstV (eBin D.ne (eCall m__law_refused (aConsE (eC (.int 2)) (aConsE (oOf (nLst (atCons (nOf (eVar 8)) (atCons (nOf (eVar 9)) (atCons (nOf (eVar 10)) (atCons (nOf (eVar 3)) (atCons (nOf (eVar 6)) (atNil)))))))) (aNil)))) (eC (.str "number")))) (tstV (eBin D.ne (eCall m__law_refused (aConsE (eC (.int 2)) (aConsE (oOf (nLst (atCons (nOf (eVar 8)) (atCons (nOf (eVar 9)) (atCons (nOf (eVar 10)) (atCons (nOf (eVar 12)) (atCons (nOf (eVar 6)) (atNil)))))))) (aNil)))) (eC (.str "woven"))))) (sRet (nOf (eC (.bl false)))) (sNil)) (sSeq (sIf (tstV (eBin D.ne (eCall m__law_refused (aConsE (eC (.int 2)) (aConsE (oOf (nLst (atCons (nOf (eVar 8)) (atCons (nOf (eVar 9)) (atCons (nOf (eVar 10)) (atCons (nOf (eVar 4)) (atCons (nOf (eVar 6)) (atNil)))))))) (aNil)))) (eC (.str "weaving")))) (sRet (nOf (eC (.bl false)))) (sNil)) (sSeq (sSet 13 (nLst (atCons (nOf (eVar 8)) (atCons (nOf (eVar 9)) (atCons (nOf (eVar 10)) (atCons (nOf (eVar 4)) (atCons (nOf (eVar 6)) (atNil)))))))) (sSeq (sSetIx 13 (nOf (eVar 7)) (eCall m__law_draw (aConsE (eVar 0) (aConsE (eVar 1) (aConsE (eC (.int 65)) (aConsE (eC (.int 3)) (aNil))))))) (sRet (nOf (eBin D.eq (eCall m__law_refused (aConsE (eC (.int 2)) (aConsE (eVar 13) (aNil)))) (eC (.str "word")))))))))))))))))
noncomputable def m__law_refusals : List D → Out D := mirP 4 14 b__law_refusals
noncomputable def b__law_right : Env' → Res Fl := sSeq (sSet 2 (nOf (eCall m__law_quad (aConsE (eVar 0) (aConsE (eVar 1) (aConsE (eC (.int 0)) (aConsE (eC (.int 10)) (aNil)))))))) (sSeq (sSet 3 (nOf (eCall m__law_quad (aConsE (eVar 0) (aConsE (eVar 1) (aConsE (eC (.int 30)) (aConsE (eC (.int 10)) (aNil)))))))) (sSeq (sSet 4 (nOf (eCall m_joined_quads (aConsE (eSl (eVar 2) (pNone) (pSome (eC (.int 4)))) (aConsE (eSl (eVar 3) (pNone) (pSome (eC (.int 4)))) (aNil)))))) (sSeq (sSet 5 (nOf (eCall m_joined_weavings (aConsE (eBin D.ix (eVar 2) (eC (.int 4))) (aConsE (eBin D.ix (eVar 3) (eC (.int 4))) (aNil)))))) (sSeq (sIf (tstOr (tstNot (tstT (eB D.isinst (aCons (eVar 4) (aCons (eC (.ty "tuple")) (aNil)))))) (tstV (eBin D.ne (eVar 4) (eB D.toTup (aCons (oOf (nLc (iRange1 (aCons (eC (.int 4)) (aNil))) (gN 12) (ttYes) (nOf (eBin D.add (eBin D.ix (eVar 2) (eVar 12)) (eBin D.ix (eVar 3) (eVar 12)))) [12])) (aNil)))))) (sRet (nOf (eC (.bl false)))) (sNil)) (sSeq (sIf (tstOr (tstNot (tstT (eB D.isinst (aCons (eVar 5) (aCons (eC (.ty "tuple")) (aNil)))))) (tstV (eBin D.ne (eVar 5) (eBin D.add (eBin D.ix (eVar 2) (eC (.int 4))) (eBin D.ix (eVar 3) (eC (.int 4))))))) (sRet (nOf (eC (.bl false)))) (sNil)) (sSeq (sUnpack (eVar 4) (gT (gsCons (gN 6) (gsCons (gN 7) (gsCons (gN 8) (gsCons (gN 9) (gsNil))))) 4)) (sSeq (sIf (tstOr (tstV (eBin D.ne (eCall m__law_judged (aConsE (eVar 4) (aConsE (eVar 5) (aNil)))) (eTup (aConsE (eC (.str "woven")) (aNil))))) (tstV (eBin D.ne (eCall m_judged (aConsE (eVar 6) (aConsE (eVar 7) (aConsE (eVar 8) (aConsE (eVar 9) (aConsE (eVar 5) (aNil))))))) (eTup (aConsE (eC (.str "woven")) (aNil)))))) (sRet (nOf (eC (.bl false)))) (sNil)) (sSeq (sIf (tstV (eBin D.ne (eCall m_parts_at (aConsE (eVar 6) (aConsE (eVar 7) (aConsE (eVar 8) (aConsE (eVar 5) (aConsE (eB D.len (aCons (eBin D.ix (eVar 2) (eC (.int 4))) (aNil))) (aNil))))))) (eTup (aConsE (eSl (eVar 2) (pNone) (pSome (eC (.int 4)))) (aConsE (eSl (eVar 3) (pNone) (pSome (eC (.int 4)))) (aNil)))))) (sRet (nOf (eC (.bl false)))) (sNil)) (sSeq (sSet 10 (nOf (eCall m__law_draw (aConsE (eVar 0) (aConsE (eVar 1) (aConsE (eC (.int 60)) (aConsE (eBin D.add (eB D.len (aCons (eVar 5) (aNil))) (eC (.int 1))) (aNil)))))))) (sSeq (sSet 11 (nOf (eCall m_parts_at (aConsE (eVar 6) (aConsE (eVar 7) (aConsE (eVar 8) (aConsE (eVar 5) (aConsE (eVar 10) (aNil))))))))) (sSeq (sIf (tstOr (tstNot (tstT (eB D.isinst (aCons (eVar 11) (aCons (eC (.ty "tuple")) (aNil)))))) (tstV (eBin D.ne (eVar 11) (eCall m__law_front (aConsE (eVar 4) (aConsE (eSl (eVar 5) (pNone) (pSome (eVar 10))) (aNil))))))) (sRet (nOf (eC (.bl false)))) (sNil)) (sSeq (sIf (tstOr (tstV (eBin D.ne (eCall m__law_judged (aConsE (eBin D.ix (eVar 11) (eC (.int 0))) (aConsE (eSl (eVar 5) (pNone) (pSome (eVar 10))) (aNil)))) (eTup (aConsE (eC (.str "woven")) (aNil))))) (tstV (eBin D.ne (eCall m__law_judged (aConsE (eBin D.ix (eVar 11) (eC (.int 1))) (aConsE (eSl (eVar 5) (pSome (eVar 10)) (pNone)) (aNil)))) (eTup (aConsE (eC (.str "woven")) (aNil)))))) (sRet (nOf (eC (.bl false)))) (sNil)) (sSeq (sIf (tstV (eBin D.ne (eCall m_joined_quads (aConsE (eBin D.ix (eVar 11) (eC (.int 0))) (aConsE (eBin D.ix (eVar 11) (eC (.int 1))) (aNil)))) (eVar 4))) (sRet (nOf (eC (.bl false)))) (sNil)) (sRet (nOf (eCall m__law_refusals (aConsE (eVar 0) (aConsE (eVar 1) (aConsE (eSl (eVar 2) (pNone) (pSome (eC (.int 4)))) (aConsE (eBin D.ix (eVar 2) (eC (.int 4))) (aNil)))))))))))))))))))))
noncomputable def m__law_right : List D → Out D := mirP 2 13 b__law_right
noncomputable def b_law : Env' → Res Fl := sSeq (sFor (iRange1 (aCons (eB D.max (aCons (eC (.int 2)) (aCons (eB D.min (aCons (eB D.len (aCons (eVar 0) (aNil))) (aCons (eC (.int 24)) (aNil)))) (aNil)))) (aNil))) (gN 1) (sIf (tstNot (tstT (eCall m__law_right (aConsE (eVar 0) (aConsE (eVar 1) (aNil)))))) (sRet (nOf (eC (.bl false)))) (sNil))) (sRet (nOf (eC (.bl true))))
noncomputable def m_law : List D → Out D := mirP 1 2 b_law
/-- what the top has written -/
structure Txt (K : PySem.W.Frag) (mg : Str → Option Value) (A : Nat → Addr) (FD : Nat → FuncData) : Prop where
  n_all : mg "all" = none
  n_bool : mg "bool" = none
  n_enumerate : mg "enumerate" = none
  n_int : mg "int" = none
  n_isinstance : mg "isinstance" = none
  n_len : mg "len" = none
  n_list : mg "list" = none
  n_max : mg "max" = none
  n_min : mg "min" = none
  n_range : mg "range" = none
  n_str : mg "str" = none
  n_tuple : mg "tuple" = none
  n_zip : mg "zip" = none
  F_is_integer : Fun K "is_integer" "is_integer" s_is_integer (A 0) (FD 0)
  g_is_integer : mg "is_integer" = some (.ref (A 0))
  b_is_integer : Binds K (FD 0) ["thing"] []
  F_is_within : Fun K "is_within" "is_within" s_is_within (A 1) (FD 1)
  g_is_within : mg "is_within" = some (.ref (A 1))
  b_is_within : Binds K (FD 1) ["thing", "low", "high"] []
  F_is_tuple : Fun K "is_tuple" "is_tuple" s_is_tuple (A 2) (FD 2)
  g_is_tuple : mg "is_tuple" = some (.ref (A 2))
  b_is_tuple : Binds K (FD 2) ["thing", "least", "most"] []
  F_is_word : Fun K "is_word" "is_word" s_is_word (A 3) (FD 3)
  g_is_word : mg "is_word" = some (.ref (A 3))
  b_is_word : Binds K (FD 3) ["thing"] []
  F_check_words : Fun K "check_words" "check_words" s_check_words (A 4) (FD 4)
  g_check_words : mg "check_words" = some (.ref (A 4))
  b_check_words : Binds K (FD 4) ["words"] []
  F_is_weaving : Fun K "is_weaving" "is_weaving" s_is_weaving (A 5) (FD 5)
  g_is_weaving : mg "is_weaving" = some (.ref (A 5))
  b_is_weaving : Binds K (FD 5) ["thing"] []
  F_check_weaving : Fun K "check_weaving" "check_weaving" s_check_weaving (A 6) (FD 6)
  g_check_weaving : mg "check_weaving" = some (.ref (A 6))
  b_check_weaving : Binds K (FD 6) ["weaving"] []
  F_raw_judged : Fun K "raw_judged" "raw_judged" s_raw_judged (A 7) (FD 7)
  g_raw_judged : mg "raw_judged" = some (.ref (A 7))
  b_raw_judged : Binds K (FD 7) ["words", "weaving"] []
  F_judged : Fun K "judged" "judged" s_judged (A 8) (FD 8)
  g_judged : mg "judged" = some (.ref (A 8))
  b_judged : Binds K (FD 8) ["x", "y", "z", "t", "weaving"] []
  F_read_off : Fun K "read_off" "read_off" s_read_off (A 9) (FD 9)
  g_read_off : mg "read_off" = some (.ref (A 9))
  b_read_off : Binds K (FD 9) ["x", "y", "z", "weaving"] []
  F_check_quad : Fun K "check_quad" "check_quad" s_check_quad (A 10) (FD 10)
  g_check_quad : mg "check_quad" = some (.ref (A 10))
  b_check_quad : Binds K (FD 10) ["quad"] []
  F_joined_quads : Fun K "joined_quads" "joined_quads" s_joined_quads (A 11) (FD 11)
  g_joined_quads : mg "joined_quads" = some (.ref (A 11))
  b_joined_quads : Binds K (FD 11) ["one", "other"] []
  F_joined_weavings : Fun K "joined_weavings" "joined_weavings" s_joined_weavings (A 12) (FD 12)
  g_joined_weavings : mg "joined_weavings" = some (.ref (A 12))
  b_joined_weavings : Binds K (FD 12) ["one", "other"] []
  F_quad_of : Fun K "quad_of" "quad_of" s_quad_of (A 13) (FD 13)
  g_quad_of : mg "quad_of" = some (.ref (A 13))
  b_quad_of : Binds K (FD 13) ["row", "weaving"] []
  F_parts_at : Fun K "parts_at" "parts_at" s_parts_at (A 14) (FD 14)
  g_parts_at : mg "parts_at" = some (.ref (A 14))
  b_parts_at : Binds K (FD 14) ["x", "y", "z", "weaving", "at"] []
  F__law_cell : Fun K "_law_cell" "_law_cell" s__law_cell (A 15) (FD 15)
  g__law_cell : mg "_law_cell" = some (.ref (A 15))
  b__law_cell : Binds K (FD 15) ["script", "place"] []
  F__law_draw : Fun K "_law_draw" "_law_draw" s__law_draw (A 16) (FD 16)
  g__law_draw : mg "_law_draw" = some (.ref (A 16))
  b__law_draw : Binds K (FD 16) ["script", "place", "turn", "many"] []
  F__law_letter : Fun K "_law_letter" "_law_letter" s__law_letter (A 17) (FD 17)
  g__law_letter : mg "_law_letter" = some (.ref (A 17))
  b__law_letter : Binds K (FD 17) ["number"] []
  F__law_quad : Fun K "_law_quad" "_law_quad" s__law_quad (A 18) (FD 18)
  g__law_quad : mg "_law_quad" = some (.ref (A 18))
  b__law_quad : Binds K (FD 18) ["script", "place", "turn", "most"] []
  F__law_judged : Fun K "_law_judged" "_law_judged" s__law_judged (A 19) (FD 19)
  g__law_judged : mg "_law_judged" = some (.ref (A 19))
  b__law_judged : Binds K (FD 19) ["words", "weaving"] []
  F__law_refused : Fun K "_law_refused" "_law_refused" s__law_refused (A 20) (FD 20)
  g__law_refused : mg "_law_refused" = some (.ref (A 20))
  b__law_refused : Binds K (FD 20) ["way", "asked"] []
  F__law_front : Fun K "_law_front" "_law_front" s__law_front (A 21) (FD 21)
  g__law_front : mg "_law_front" = some (.ref (A 21))
  b__law_front : Binds K (FD 21) ["words", "weaving"] []
  F__law_refusals : Fun K "_law_refusals" "_law_refusals" s__law_refusals (A 22) (FD 22)
  g__law_refusals : mg "_law_refusals" = some (.ref (A 22))
  b__law_refusals : Binds K (FD 22) ["script", "place", "words", "weaving"] []
  F__law_right : Fun K "_law_right" "_law_right" s__law_right (A 23) (FD 23)
  g__law_right : mg "_law_right" = some (.ref (A 23))
  b__law_right : Binds K (FD 23) ["script", "place"] []
  F_law : Fun K "law" "law" s_law (A 24) (FD 24)
  g_law : mg "law" = some (.ref (A 24))
  b_law : Binds K (FD 24) ["script"] []
  X_NoNumber : ExT K mg "NoNumber" (A 25)
  X_NoQuad : ExT K mg "NoQuad" (A 26)
  X_NoWeaving : ExT K mg "NoWeaving" (A 27)
  X_NoWord : ExT K mg "NoWord" (A 28)
  X_NotWoven : ExT K mg "NotWoven" (A 29)
  H_NoNumber : HdT K mg xs_all "NoNumber" (A 25) cs_NoNumber
  H_NoQuad : HdT K mg xs_all "NoQuad" (A 26) cs_NoQuad
  H_NoWeaving : HdT K mg xs_all "NoWeaving" (A 27) cs_NoWeaving
  H_NoWord : HdT K mg xs_all "NoWord" (A 28) cs_NoWord
  H_NotWoven : HdT K mg xs_all "NotWoven" (A 29) cs_NotWoven
  c_LETTERS : GC K mg "LETTERS" c_LETTERS
  c_MOVES : GC K mg "MOVES" c_MOVES
  c_PLACES : GC K mg "PLACES" c_PLACES
section
variable {P : Program} {w : World} {K : PySem.W.Frag} {mg : Str → Option Value} {base : Heap} {A : Nat → Addr} {FD : Nat → FuncData}
theorem ok_is_integer (T : Txt K mg A FD) : FnOk P w K mg base (L2.CX P w) 1 (A 0) (FD 0) ["thing"] (spP K mg 1 m_is_integer) :=
  def_ok T.F_is_integer sc_is_integer (by decide) fun cdv Ar outer s H E hr tk => by
    exact fss_one (fs_ret (fn_of (fo_and (fo_callB cd_isinst (by rfl) T.n_isinstance (by decide +kernel) (fa_cons (fo_var 0) (fa_cons (fo_ty (by rfl) T.n_int (by decide +kernel)) (fa_nil)))) (fo_one (fo_not (fo_callB cd_isinst (by rfl) T.n_isinstance (by decide +kernel) (fa_cons (fo_var 0) (fa_cons (fo_ty (by rfl) T.n_bool (by decide +kernel)) (fa_nil)))))))))
theorem ok_is_within (T : Txt K mg A FD) : FnOk P w K mg base (L2.CX P w) 2 (A 1) (FD 1) ["thing", "low", "high"] (spP K mg 3 m_is_within) :=
  def_ok T.F_is_within sc_is_within (by decide) fun cdv Ar outer s H E hr tk => by
    exact fss_one (fs_ret (fn_of (fo_and (fo_call (ok_is_integer T) (hr.mono (by decide)) (by rfl) T.g_is_integer T.F_is_integer.kp T.b_is_integer tk rfl (fa_consE (fo_var 0) (fa_nil)) (alen_cons (alen_nil))) (fo_one (fo_chain od_le od_le (fo_var 1) (fo_var 0) (fo_var 2))))))
theorem ok_is_tuple (T : Txt K mg A FD) : FnOk P w K mg base (L2.CX P w) 1 (A 2) (FD 2) ["thing", "least", "most"] (spP K mg 3 m_is_tuple) :=
  def_ok T.F_is_tuple sc_is_tuple (by decide) fun cdv Ar outer s H E hr tk => by
    exact fss_one (fs_ret (fn_of (fo_and (fo_callB cd_isinst (by rfl) T.n_isinstance (by decide +kernel) (fa_cons (fo_var 0) (fa_cons (fo_ty (by rfl) T.n_tuple (by decide +kernel)) (fa_nil)))) (fo_one (fo_chain od_le od_le (fo_var 1) (fo_callB cd_len (by rfl) T.n_len (by decide +kernel) (fa_cons (fo_var 0) (fa_nil))) (fo_var 2))))))
theorem ok_is_word (T : Txt K mg A FD) : FnOk P w K mg base (L2.CX P w) 1 (A 3) (FD 3) ["thing"] (spP K mg 1 m_is_word) :=
  def_ok T.F_is_word sc_is_word (by decide) fun cdv Ar outer s H E hr tk => by
    have hu65 := u65 hr
    exact fss_one (fs_ret (fn_of (fo_and (fo_callB cd_isinst (by rfl) T.n_isinstance (by decide +kernel) (fa_cons (fo_var 0) (fa_cons (fo_ty (by rfl) T.n_str (by decide +kernel)) (fa_nil)))) (fo_one (fo_callB (cd_all rfl) (by rfl) T.n_all (by decide +kernel) (fa_cons (fo_of (fn_lc (own := [("sign", 1)]) rfl sc_is_word.nd (fi_seq (fo_var 0)) (blkOk_by (N := N_is_word) (sc := defScope s_is_word) (by decide +kernel)) (fun _ _ _ _ _ => fg_name (by simp) sc_is_word.nd rfl (.inl rfl)) (fun _ _ _ _ _ => fts_nil) (fun _ _ _ _ _ => fn_of (fo_cmp (od_in hu65) (fo_var 1) (fo_gc (by rfl) T.c_LETTERS) (by rfl))))) (fa_nil)))))))
theorem ok_check_words (T : Txt K mg A FD) : FnOk P w K mg base (L2.CX P w) 2 (A 4) (FD 4) ["words"] (spP K mg 1 m_check_words) :=
  def_ok T.F_check_words sc_check_words (by decide) fun cdv Ar outer s H E hr tk => by
    exact fss_one (fs_for (vs := [1]) (passes_of rfl) rfl (fi_seq (fo_var 0)) (fg_name (by simp) sc_check_words.nd rfl (.inl rfl)) (fss_one (fs_if (ft_not (ft_truth (fo_call (ok_is_word T) (hr.mono (by decide)) (by rfl) T.g_is_word T.F_is_word.kp T.b_is_word tk rfl (fa_consE (fo_var 1) (fa_nil)) (alen_cons (alen_nil))))) (fss_one (fs_raise rfl tk T.X_NoWord rfl (by rfl))) (fss_nil))))
theorem ok_is_weaving (T : Txt K mg A FD) : FnOk P w K mg base (L2.CX P w) 1 (A 5) (FD 5) ["thing"] (spP K mg 1 m_is_weaving) :=
  def_ok T.F_is_weaving sc_is_weaving (by decide) fun cdv Ar outer s H E hr tk => by
    have hu65 := u65 hr
    exact fss_one (fs_ret (fn_of (fo_and (fo_callB cd_isinst (by rfl) T.n_isinstance (by decide +kernel) (fa_cons (fo_var 0) (fa_cons (fo_ty (by rfl) T.n_tuple (by decide +kernel)) (fa_nil)))) (fo_one (fo_callB (cd_all rfl) (by rfl) T.n_all (by decide +kernel) (fa_cons (fo_of (fn_lc (own := [("move", 1)]) rfl sc_is_weaving.nd (fi_seq (fo_var 0)) (blkOk_by (N := N_is_weaving) (sc := defScope s_is_weaving) (by decide +kernel)) (fun _ _ _ _ _ => fg_name (by simp) sc_is_weaving.nd rfl (.inl rfl)) (fun _ _ _ _ _ => fts_nil) (fun _ _ _ _ _ => fn_of (fo_and (fo_callB cd_isinst (by rfl) T.n_isinstance (by decide +kernel) (fa_cons (fo_var 1) (fa_cons (fo_ty (by rfl) T.n_str (by decide +kernel)) (fa_nil)))) (fo_one (fo_cmp (od_in hu65) (fo_var 1) (fo_gc (by rfl) T.c_MOVES) (by rfl))))))) (fa_nil)))))))
theorem ok_check_weaving (T : Txt K mg A FD) : FnOk P w K mg base (L2.CX P w) 2 (A 6) (FD 6) ["weaving"] (spP K mg 1 m_check_weaving) :=
  def_ok T.F_check_weaving sc_check_weaving (by decide) fun cdv Ar outer s H E hr tk => by
    exact fss_one (fs_if (ft_not (ft_truth (fo_call (ok_is_weaving T) (hr.mono (by decide)) (by rfl) T.g_is_weaving T.F_is_weaving.kp T.b_is_weaving tk rfl (fa_consE (fo_var 0) (fa_nil)) (alen_cons (alen_nil))))) (fss_one (fs_raise rfl tk T.X_NoWeaving rfl (by rfl))) (fss_nil))
theorem ok_raw_judged (T : Txt K mg A FD) : FnOk P w K mg base (L2.CX P w) 1 (A 7) (FD 7) ["words", "weaving"] (spP K mg 2 m_raw_judged) :=
  def_ok T.F_raw_judged sc_raw_judged (by decide) fun cdv Ar outer s H E hr tk => by
    have hu64 := hr.units
    exact fss_cons (fs_set (i := 2) sc_raw_judged.nd rfl (.inl rfl) (fn_lst (fat_cons (fn_of (fo_int)) (fat_cons (fn_of (fo_int)) (fat_cons (fn_of (fo_int)) (fat_cons (fn_of (fo_int)) (fat_nil))))))) (fss_cons (fs_for (vs := [3, 4]) (passes_of rfl) rfl (fi_enum (by rfl) T.n_enumerate (fo_var 1)) (fg_tup (us := [3, 4]) rfl (fgs_cons (by simp) (pg_name (i := 3) sc_raw_judged.nd rfl (.inl rfl)) (fgs_cons (by simp) (pg_name (i := 4) sc_raw_judged.nd rfl (.inl rfl)) (fgs_nil)))) (fss_cons (fs_par (i := 5) (j := 6) rfl sc_raw_judged.nd rfl rfl (by decide) rfl rfl (fa_consE (fo_m PySem.F.plainAttrs_str PySem.F.slot_str_index PySem.F.type_str_index md_sindex (fo_gc (by rfl) T.c_PLACES) (fa_cons (fo_ix xd_ix (fo_var 4) (fo_int) (fun _ _ => rfl)) (fa_nil))) (fa_consE (fo_m PySem.F.plainAttrs_str PySem.F.slot_str_index PySem.F.type_str_index md_sindex (fo_gc (by rfl) T.c_PLACES) (fa_cons (fo_ix xd_ix (fo_var 4) (fo_int) (fun _ _ => rfl)) (fa_nil))) (fa_nil))) (by rfl)) (fss_cons (fs_if (PW.pt (fw_or (ft_cmp (od_eq hu64) (fo_ix xd_ix (fo_var 2) (fo_var 5) (fun _ _ => rfl)) (fo_callB cd_len (by rfl) T.n_len (by decide +kernel) (fa_cons (fo_ix xd_ix (fo_var 0) (fo_var 5) (fun _ _ => rfl)) (fa_nil))) (nomark _)) (fw_or1 (ft_cmp (od_eq hu64) (fo_ix xd_ix (fo_var 2) (fo_var 6) (fun _ _ => rfl)) (fo_callB cd_len (by rfl) T.n_len (by decide +kernel) (fa_cons (fo_ix xd_ix (fo_var 0) (fo_var 6) (fun _ _ => rfl)) (fa_nil))) (nomark _))))) (fss_one (fs_ret (fn_of (fo_tup (fa_consE (fo_str) (fa_consE (fo_var 3) (fa_consE (fo_str) (fa_nil)))))))) (fss_nil)) (fss_cons (fs_if (ft_cmp (od_ne hu64) (fo_ix xd_ix (fo_ix xd_ix (fo_var 0) (fo_var 5) (fun _ _ => rfl)) (fo_ix xd_ix (fo_var 2) (fo_var 5) (fun _ _ => rfl)) (fun _ _ => rfl)) (fo_ix xd_ix (fo_ix xd_ix (fo_var 0) (fo_var 6) (fun _ _ => rfl)) (fo_ix xd_ix (fo_var 2) (fo_var 6) (fun _ _ => rfl)) (fun _ _ => rfl)) (nomark _)) (fss_one (fs_ret (fn_of (fo_tup (fa_consE (fo_str) (fa_consE (fo_var 3) (fa_consE (fo_str) (fa_nil)))))))) (fss_nil)) (fss_cons (fs_augIx 2 id_add (fo_var 5) (fo_int)) (fss_one (fs_augIx 2 id_add (fo_var 6) (fo_int)))))))) (fss_cons (fs_if (ft_cmp (od_ne hu64) (fo_var 2) (fo_of (fn_lc (own := [("word", 7)]) rfl sc_raw_judged.nd (fi_seq (fo_var 0)) (blkOk_by (N := N_raw_judged) (sc := defScope s_raw_judged) (by decide +kernel)) (fun _ _ _ _ _ => fg_name (by simp) sc_raw_judged.nd rfl (.inl rfl)) (fun _ _ _ _ _ => fts_nil) (fun _ _ _ _ _ => fn_of (fo_callB cd_len (by rfl) T.n_len (by decide +kernel) (fa_cons (fo_var 7) (fa_nil)))))) (nomark _)) (fss_one (fs_ret (fn_of (fo_tup (fa_consE (fo_str) (fa_consE (fo_callB cd_len (by rfl) T.n_len (by decide +kernel) (fa_cons (fo_var 1) (fa_nil))) (fa_consE (fo_str) (fa_nil)))))))) (fss_nil)) (fss_one (fs_ret (fn_of (fo_tup (fa_consE (fo_str) (fa_nil))))))))
theorem ok_judged (T : Txt K mg A FD) : FnOk P w K mg base (L2.CX P w) 3 (A 8) (FD 8) ["x", "y", "z", "t", "weaving"] (spP K mg 5 m_judged) :=
  def_ok T.F_judged sc_judged (by decide) fun cdv Ar outer s H E hr tk => by
    exact fss_cons (fs_expr (fo_call (ok_check_words T) (hr.mono (by decide)) (by rfl) T.g_check_words T.F_check_words.kp T.b_check_words tk rfl (fa_consE (fo_of (fn_lst (fat_cons (fn_of (fo_var 0)) (fat_cons (fn_of (fo_var 1)) (fat_cons (fn_of (fo_var 2)) (fat_cons (fn_of (fo_var 3)) (fat_nil))))))) (fa_nil)) (alen_cons (alen_nil)))) (fss_cons (fs_expr (fo_call (ok_check_weaving T) (hr.mono (by decide)) (by rfl) T.g_check_weaving T.F_check_weaving.kp T.b_check_weaving tk rfl (fa_consE (fo_var 4) (fa_nil)) (alen_cons (alen_nil)))) (fss_one (fs_ret (fn_of (fo_call (ok_raw_judged T) (hr.mono (by decide)) (by rfl) T.g_raw_judged T.F_raw_judged.kp T.b_raw_judged tk rfl (fa_consE (fo_of (fn_lst (fat_cons (fn_of (fo_var 0)) (fat_cons (fn_of (fo_var 1)) (fat_cons (fn_of (fo_var 2)) (fat_cons (fn_of (fo_var 3)) (fat_nil))))))) (fa_consE (fo_var 4) (fa_nil))) (alen_cons (alen_cons (alen_nil))))))))
theorem ok_read_off (T : Txt K mg A FD) : FnOk P w K mg base (L2.CX P w) 1 (A 9) (FD 9) ["x", "y", "z", "weaving"] (spP K mg 4 m_read_off) :=
  def_ok T.F_read_off sc_read_off (by decide) fun cdv Ar outer s H E hr tk => by
    have hu64 := hr.units
    have hu65 := u65 hr
    exact fss_cons (fs_parTN (is := [4, 5, 6, 7]) rfl (pgs_cons (pg_name (i := 4) sc_read_off.nd rfl (.inl rfl)) (pgs_cons (pg_name (i := 5) sc_read_off.nd rfl (.inl rfl)) (pgs_cons (pg_name (i := 6) sc_read_off.nd rfl (.inl rfl)) (pgs_cons (pg_name (i := 7) sc_read_off.nd rfl (.inl rfl)) (pgs_nil))))) (fat_cons (fn_of (fo_of (fn_disp (.cons (.cons (.cons (.nil)))) (pps_cons pe_str (fo_var 0) (pps_cons pe_str (fo_var 1) (pps_cons pe_str (fo_var 2) (pps_nil)))) rfl rfl (by simp) (by decide)))) (fat_cons (fn_disp (.cons (.cons (.cons (.nil)))) (pps_cons pe_str (fo_int) (pps_cons pe_str (fo_int) (pps_cons pe_str (fo_int) (pps_nil)))) rfl rfl (by simp) (by decide)) (fat_cons (fn_of (fo_str)) (fat_cons (fn_of (fo_str)) (fat_nil))))) (by rfl)) (fss_cons (fs_for (vs := [8]) (passes_of rfl) rfl (fi_seq (fo_var 3)) (fg_name (by simp) sc_read_off.nd rfl (.inl rfl)) (fss_cons (fs_set (i := 9) sc_read_off.nd rfl (.inl rfl) (fn_of (fo_ix xd_ix (fo_var 8) (fo_int) (fun _ _ => rfl)))) (fss_cons (fs_if (ft_cmp (od_eq hu64) (fo_dget (u1of hu65) (fo_var 5) (fo_var 9) (fun _ _ => rfl)) (fo_callB cd_len (by rfl) T.n_len (by decide +kernel) (fa_cons (fo_dget (u1of hu65) (fo_var 4) (fo_var 9) (fun _ _ => rfl)) (fa_nil))) (nomark _)) (fss_one (fs_raise rfl tk T.X_NotWoven rfl (by rfl))) (fss_nil)) (fss_cons (fs_set (i := 10) sc_read_off.nd rfl (.inl rfl) (fn_of (fo_ix xd_ix (fo_dget (u1of hu65) (fo_var 4) (fo_var 9) (fun _ _ => rfl)) (fo_dget (u1of hu65) (fo_var 5) (fo_var 9) (fun _ _ => rfl)) (fun _ _ => rfl)))) (fss_cons (fs_daug 5 (u1of hu65) id_add (fo_var 9) (fo_int)) (fss_cons (fs_set (i := 6) sc_read_off.nd rfl (.inl rfl) (fn_of (fo_bin od_add (fo_var 6) (fo_var 10)))) (fss_one (fs_if (ft_cmp (od_eq hu64) (fo_ix xd_ix (fo_var 8) (fo_int) (fun _ _ => rfl)) (fo_str) (nomark _)) (fss_one (fs_set (i := 7) sc_read_off.nd rfl (.inl rfl) (fn_of (fo_bin od_add (fo_var 7) (fo_var 10))))) (fss_cons (fs_if (PW.pt (fw_or (ft_cmp (od_eq hu64) (fo_dget (u1of hu65) (fo_var 5) (fo_str) (fun _ _ => rfl)) (fo_callB cd_len (by rfl) T.n_len (by decide +kernel) (fa_cons (fo_var 0) (fa_nil))) (nomark _)) (fw_or1 (ft_cmp (od_ne hu64) (fo_ix xd_ix (fo_var 0) (fo_dget (u1of hu65) (fo_var 5) (fo_str) (fun _ _ => rfl)) (fun _ _ => rfl)) (fo_var 10) (nomark _))))) (fss_one (fs_raise rfl tk T.X_NotWoven rfl (by rfl))) (fss_nil)) (fss_one (fs_daug 5 (u1of hu65) id_add (fo_str) (fo_int)))))))))))) (fss_cons (fs_if (ft_cmp (od_ne hu64) (fo_of (fn_lst (fat_cons (fn_of (fo_dget (u1of hu65) (fo_var 5) (fo_str) (fun _ _ => rfl))) (fat_cons (fn_of (fo_dget (u1of hu65) (fo_var 5) (fo_str) (fun _ _ => rfl))) (fat_cons (fn_of (fo_dget (u1of hu65) (fo_var 5) (fo_str) (fun _ _ => rfl))) (fat_nil)))))) (fo_of (fn_lst (fat_cons (fn_of (fo_callB cd_len (by rfl) T.n_len (by decide +kernel) (fa_cons (fo_var 0) (fa_nil)))) (fat_cons (fn_of (fo_callB cd_len (by rfl) T.n_len (by decide +kernel) (fa_cons (fo_var 1) (fa_nil)))) (fat_cons (fn_of (fo_callB cd_len (by rfl) T.n_len (by decide +kernel) (fa_cons (fo_var 2) (fa_nil)))) (fat_nil)))))) (nomark _)) (fss_one (fs_raise rfl tk T.X_NotWoven rfl (by rfl))) (fss_nil)) (fss_one (fs_ret (fn_of (fo_tup (fa_consE (fo_var 6) (fa_consE (fo_var 7) (fa_nil)))))))))
theorem ok_check_quad (T : Txt K mg A FD) : FnOk P w K mg base (L2.CX P w) 2 (A 10) (FD 10) ["quad"] (spP K mg 1 m_check_quad) :=
  def_ok T.F_check_quad sc_check_quad (by decide) fun cdv Ar outer s H E hr tk => by
    exact fss_one (fs_if (PW.pt (fw_or (ft_not (ft_truth (fo_call (ok_is_tuple T) (hr.mono (by decide)) (by rfl) T.g_is_tuple T.F_is_tuple.kp T.b_is_tuple tk rfl (fa_consE (fo_var 0) (fa_consE (fo_int) (fa_consE (fo_int) (fa_nil)))) (alen_cons (alen_cons (alen_cons (alen_nil))))))) (fw_or1 (ft_not (ft_truth (fo_callB (cd_all rfl) (by rfl) T.n_all (by decide +kernel) (fa_cons (fo_of (fn_lc (own := [("word", 1)]) rfl sc_check_quad.nd (fi_seq (fo_var 0)) (blkOk_by (N := N_check_quad) (sc := defScope s_check_quad) (by decide +kernel)) (fun _ _ _ _ _ => fg_name (by simp) sc_check_quad.nd rfl (.inl rfl)) (fun _ _ _ _ _ => fts_nil) (fun _ _ _ _ _ => fn_of (fo_call (ok_is_word T) (hr.mono (by decide)) (by rfl) T.g_is_word T.F_is_word.kp T.b_is_word takes0 rfl (fa_consE (fo_var 1) (fa_nil)) (alen_cons (alen_nil)))))) (fa_nil)))))))) (fss_one (fs_raise rfl tk T.X_NoQuad rfl (by rfl))) (fss_nil))
theorem ok_joined_quads (T : Txt K mg A FD) : FnOk P w K mg base (L2.CX P w) 3 (A 11) (FD 11) ["one", "other"] (spP K mg 2 m_joined_quads) :=
  def_ok T.F_joined_quads sc_joined_quads (by decide) fun cdv Ar outer s H E hr tk => by
    exact fss_cons (fs_expr (fo_call (ok_check_quad T) (hr.mono (by decide)) (by rfl) T.g_check_quad T.F_check_quad.kp T.b_check_quad tk rfl (fa_consE (fo_var 0) (fa_nil)) (alen_cons (alen_nil)))) (fss_cons (fs_expr (fo_call (ok_check_quad T) (hr.mono (by decide)) (by rfl) T.g_check_quad T.F_check_quad.kp T.b_check_quad tk rfl (fa_consE (fo_var 1) (fa_nil)) (alen_cons (alen_nil)))) (fss_one (fs_ret (fn_of (fo_callTy cd_tuple (by rfl) T.n_tuple (by decide +kernel) (fa_cons (fo_of (fn_lc (own := [("mine", 2), ("its", 3)]) rfl sc_joined_quads.nd (fi_zipW (by rfl) T.n_zip (fo_var 0) (fo_var 1)) (blkOk_by (N := N_joined_quads) (sc := defScope s_joined_quads) (by decide +kernel)) (fun _ _ _ _ _ => fg_tup (us := [2, 3]) rfl (fgs_cons (by simp) (pg_name (i := 2) sc_joined_quads.nd rfl (.inl rfl)) (fgs_cons (by simp) (pg_name (i := 3) sc_joined_quads.nd rfl (.inl rfl)) (fgs_nil)))) (fun _ _ _ _ _ => fts_nil) (fun _ _ _ _ _ => fn_of (fo_bin od_add (fo_var 2) (fo_var 3))))) (fa_nil)))))))
theorem ok_joined_weavings (T : Txt K mg A FD) : FnOk P w K mg base (L2.CX P w) 3 (A 12) (FD 12) ["one", "other"] (spP K mg 2 m_joined_weavings) :=
  def_ok T.F_joined_weavings sc_joined_weavings (by decide) fun cdv Ar outer s H E hr tk => by
    exact fss_cons (fs_expr (fo_call (ok_check_weaving T) (hr.mono (by decide)) (by rfl) T.g_check_weaving T.F_check_weaving.kp T.b_check_weaving tk rfl (fa_consE (fo_var 0) (fa_nil)) (alen_cons (alen_nil)))) (fss_cons (fs_expr (fo_call (ok_check_weaving T) (hr.mono (by decide)) (by rfl) T.g_check_weaving T.F_check_weaving.kp T.b_check_weaving tk rfl (fa_consE (fo_var 1) (fa_nil)) (alen_cons (alen_nil)))) (fss_one (fs_ret (fn_of (fo_bin od_add (fo_var 0) (fo_var 1))))))
theorem ok_quad_of (T : Txt K mg A FD) : FnOk P w K mg base (L2.CX P w) 1 (A 13) (FD 13) ["row", "weaving"] (spP K mg 2 m_quad_of) :=
  def_ok T.F_quad_of sc_quad_of (by decide) fun cdv Ar outer s H E hr tk => by
    have hu65 := u65 hr
    exact fss_one (fs_ret (fn_of (fo_callTy cd_tuple (by rfl) T.n_tuple (by decide +kernel) (fa_cons (fo_of (fn_lc (own := [("side", 2)]) rfl sc_quad_of.nd (fi_seq (fo_str)) (blkOk_by (N := N_quad_of) (sc := defScope s_quad_of) (by decide +kernel)) (fun _ _ _ _ _ => fg_name (by simp) sc_quad_of.nd rfl (.inr rfl)) (fun _ _ _ _ _ => fts_nil) (fun _ _ _ _ _ => fn_of (fo_m PySem.F.plainAttrs_str PySem.F.slot_str_join PySem.F.type_str_join md_join (fo_str) (fa_cons (fo_of (fn_lc (own := [("move", 3), ("letter", 4)]) rfl sc_quad_of.nd (fi_zipW (by rfl) T.n_zip (fo_var 1) (fo_var 0)) (blkOk_by (by rfl)) (fun _ _ _ _ _ => fg_tup (us := [3, 4]) rfl (fgs_cons (by simp) (pg_name (i := 3) sc_quad_of.nd rfl (.inl rfl)) (fgs_cons (by simp) (pg_name (i := 4) sc_quad_of.nd rfl (.inl rfl)) (fgs_nil)))) (fun _ _ _ _ _ => fts_one (ft_cmp (od_in hu65) (fo_var 2) (fo_var 3) (by rfl))) (fun _ _ _ _ _ => fn_of (fo_var 4)))) (fa_nil)))))) (fa_nil)))))
theorem ok_parts_at (T : Txt K mg A FD) : FnOk P w K mg base (L2.CX P w) 3 (A 14) (FD 14) ["x", "y", "z", "weaving", "at"] (spP K mg 5 m_parts_at) :=
  def_ok T.F_parts_at sc_parts_at (by decide) fun cdv Ar outer s H E hr tk => by
    exact fss_cons (fs_expr (fo_call (ok_check_words T) (hr.mono (by decide)) (by rfl) T.g_check_words T.F_check_words.kp T.b_check_words tk rfl (fa_consE (fo_of (fn_lst (fat_cons (fn_of (fo_var 0)) (fat_cons (fn_of (fo_var 1)) (fat_cons (fn_of (fo_var 2)) (fat_nil)))))) (fa_nil)) (alen_cons (alen_nil)))) (fss_cons (fs_expr (fo_call (ok_check_weaving T) (hr.mono (by decide)) (by rfl) T.g_check_weaving T.F_check_weaving.kp T.b_check_weaving tk rfl (fa_consE (fo_var 3) (fa_nil)) (alen_cons (alen_nil)))) (fss_cons (fs_unpack (vs := [5, 6]) (fo_call (ok_read_off T) (hr.mono (by decide)) (by rfl) T.g_read_off T.F_read_off.kp T.b_read_off tk rfl (fa_consE (fo_var 0) (fa_consE (fo_var 1) (fa_consE (fo_var 2) (fa_consE (fo_var 3) (fa_nil))))) (alen_cons (alen_cons (alen_cons (alen_cons (alen_nil)))))) (fg_tup (us := [5, 6]) rfl (fgs_cons (by simp) (pg_name (i := 5) sc_parts_at.nd rfl (.inl rfl)) (fgs_cons (by simp) (pg_name (i := 6) sc_parts_at.nd rfl (.inl rfl)) (fgs_nil))))) (fss_cons (fs_if (ft_not (ft_truth (fo_call (ok_is_within T) (hr.mono (by decide)) (by rfl) T.g_is_within T.F_is_within.kp T.b_is_within tk rfl (fa_consE (fo_var 4) (fa_consE (fo_int) (fa_consE (fo_callB cd_len (by rfl) T.n_len (by decide +kernel) (fa_cons (fo_var 3) (fa_nil))) (fa_nil)))) (alen_cons (alen_cons (alen_cons (alen_nil))))))) (fss_one (fs_raise rfl tk T.X_NoNumber rfl (by rfl))) (fss_nil)) (fss_one (fs_ret (fn_of (fo_tup (fa_consE (fo_call (ok_quad_of T) (hr.mono (by decide)) (by rfl) T.g_quad_of T.F_quad_of.kp T.b_quad_of tk rfl (fa_consE (fo_sl (fo_var 5) (fp_none) (fp_some (fo_var 4))) (fa_consE (fo_sl (fo_var 3) (fp_none) (fp_some (fo_var 4))) (fa_nil))) (alen_cons (alen_cons (alen_nil)))) (fa_consE (fo_call (ok_quad_of T) (hr.mono (by decide)) (by rfl) T.g_quad_of T.F_quad_of.kp T.b_quad_of tk rfl (fa_consE (fo_sl (fo_var 5) (fp_some (fo_var 4)) (fp_none)) (fa_consE (fo_sl (fo_var 3) (fp_some (fo_var 4)) (fp_none)) (fa_nil))) (alen_cons (alen_cons (alen_nil)))) (fa_nil))))))))))
theorem ok__law_cell (T : Txt K mg A FD) : FnOk P w K mg base (L2.CX P w) 1 (A 15) (FD 15) ["script", "place"] (spP K mg 2 m__law_cell) :=
  def_ok T.F__law_cell sc__law_cell (by decide) fun cdv Ar outer s H E hr tk => by
    exact fss_cons (fs_if (ft_cmp od_lt (fo_var 1) (fo_callB cd_len (by rfl) T.n_len (by decide +kernel) (fa_cons (fo_var 0) (fa_nil))) (nomark _)) (fss_one (fs_ret (fn_of (fo_ix xd_ix (fo_var 0) (fo_var 1) (fun _ _ => rfl))))) (fss_nil)) (fss_one (fs_ret (fn_of (fo_int))))
theorem ok__law_draw (T : Txt K mg A FD) : FnOk P w K mg base (L2.CX P w) 2 (A 16) (FD 16) ["script", "place", "turn", "many"] (spP K mg 4 m__law_draw) :=
  def_ok T.F__law_draw sc__law_draw (by decide) fun cdv Ar outer s H E hr tk => by
    exact fss_cons (fs_set (i := 4) sc__law_draw.nd rfl (.inl rfl) (fn_of (fo_call (ok__law_cell T) (hr.mono (by decide)) (by rfl) T.g__law_cell T.F__law_cell.kp T.b__law_cell tk rfl (fa_consE (fo_var 0) (fa_consE (fo_var 1) (fa_nil))) (alen_cons (alen_cons (alen_nil)))))) (fss_cons (fs_if (ft_cmp od_ge (fo_var 4) (fo_bin od_pow (fo_int) (fo_int)) (nomark _)) (fss_cons (fs_for (vs := [6]) (passes_of rfl) rfl (fi_range1 (by rfl) T.n_range (fa_cons (fo_var 2) (fa_nil))) (fg_name (by simp) sc__law_draw.nd rfl (.inl rfl)) (fss_one (fs_set (i := 4) sc__law_draw.nd rfl (.inl rfl) (fn_of (fo_bin od_fdiv (fo_var 4) (fo_int)))))) (fss_one (fs_ret (fn_of (fo_bin od_mod (fo_callTy cd_int (by rfl) T.n_int (by decide +kernel) (fa_cons (fo_var 4) (fa_nil))) (fo_var 3)))))) (fss_nil)) (fss_cons (fs_set (i := 5) sc__law_draw.nd rfl (.inl rfl) (fn_of (fo_bin od_mod (fo_callTy cd_int (by rfl) T.n_int (by decide +kernel) (fa_cons (fo_bin od_add (fo_bin od_add (fo_bin od_add (fo_bin od_mul (fo_var 4) (fo_int)) (fo_bin od_mul (fo_var 1) (fo_int))) (fo_bin od_mul (fo_var 2) (fo_int))) (fo_int)) (fa_nil))) (fo_int)))) (fss_cons (fs_set (i := 5) sc__law_draw.nd rfl (.inl rfl) (fn_of (fo_bin od_mod (fo_callTy cd_int (by rfl) T.n_int (by decide +kernel) (fa_cons (fo_bin od_add (fo_bin od_pow (fo_var 5) (fo_int)) (fo_bin od_mul (fo_var 2) (fo_int))) (fa_nil))) (fo_int)))) (fss_cons (fs_set (i := 5) sc__law_draw.nd rfl (.inl rfl) (fn_of (fo_bin od_mod (fo_callTy cd_int (by rfl) T.n_int (by decide +kernel) (fa_cons (fo_bin od_mul (fo_var 5) (fo_bin od_add (fo_bin od_add (fo_bin od_fdiv (fo_var 5) (fo_int)) (fo_int)) (fo_bin od_mul (fo_int) (fo_var 2)))) (fa_nil))) (fo_int)))) (fss_one (fs_ret (fn_of (fo_bin od_mod (fo_callTy cd_int (by rfl) T.n_int (by decide +kernel) (fa_cons (fo_bin od_fdiv (fo_var 5) (fo_int)) (fa_nil))) (fo_var 3)))))))))
theorem ok__law_letter (T : Txt K mg A FD) : FnOk P w K mg base (L2.CX P w) 1 (A 17) (FD 17) ["number"] (spP K mg 1 m__law_letter) :=
  def_ok T.F__law_letter sc__law_letter (by decide) fun cdv Ar outer s H E hr tk => by
    exact fss_one (fs_ret (fn_of (fo_ix xd_ix (fo_str) (fo_bin od_mod (fo_callTy cd_int (by rfl) T.n_int (by decide +kernel) (fa_cons (fo_var 0) (fa_nil))) (fo_int)) (fun _ _ => rfl))))
theorem ok__law_quad (T : Txt K mg A FD) : FnOk P w K mg base (L2.CX P w) 3 (A 18) (FD 18) ["script", "place", "turn", "most"] (spP K mg 4 m__law_quad) :=
  def_ok T.F__law_quad sc__law_quad (by decide) fun cdv Ar outer s H E hr tk => by
    have hu65 := u65 hr
    exact fss_cons (fs_set (i := 4) sc__law_quad.nd rfl (.inl rfl) (fn_disp (.cons (.cons (.cons (.cons (.nil))))) (pps_cons pe_str (fo_str) (pps_cons pe_str (fo_str) (pps_cons pe_str (fo_str) (pps_cons pe_str (fo_str) (pps_nil))))) rfl rfl (by simp) (by decide))) (fss_cons (fs_set (i := 5) sc__law_quad.nd rfl (.inl rfl) (fn_lst (fat_nil))) (fss_cons (fs_set (i := 6) sc__law_quad.nd rfl (.inl rfl) (fn_of (fo_ix xd_ix (fo_of (fn_lst (fat_cons (fn_of (fo_int)) (fat_cons (fn_of (fo_int)) (fat_cons (fn_of (fo_int)) (fat_cons (fn_of (fo_int)) (fat_nil))))))) (fo_call (ok__law_draw T) (hr.mono (by decide)) (by rfl) T.g__law_draw T.F__law_draw.kp T.b__law_draw tk rfl (fa_consE (fo_var 0) (fa_consE (fo_var 1) (fa_consE (fo_var 2) (fa_consE (fo_int) (fa_nil))))) (alen_cons (alen_cons (alen_cons (alen_cons (alen_nil)))))) (fun _ _ => rfl)))) (fss_cons (fs_set (i := 7) sc__law_quad.nd rfl (.inl rfl) (fn_of (fo_call (ok__law_draw T) (hr.mono (by decide)) (by rfl) T.g__law_draw T.F__law_draw.kp T.b__law_draw tk rfl (fa_consE (fo_var 0) (fa_consE (fo_var 1) (fa_consE (fo_bin od_add (fo_var 2) (fo_int)) (fa_consE (fo_int) (fa_nil))))) (alen_cons (alen_cons (alen_cons (alen_cons (alen_nil)))))))) (fss_cons (fs_for (vs := [8]) (passes_of rfl) rfl (fi_range1 (by rfl) T.n_range (fa_cons (fo_call (ok__law_draw T) (hr.mono (by decide)) (by rfl) T.g__law_draw T.F__law_draw.kp T.b__law_draw tk rfl (fa_consE (fo_var 0) (fa_consE (fo_var 1) (fa_consE (fo_bin od_add (fo_var 2) (fo_int)) (fa_consE (fo_bin od_add (fo_var 3) (fo_int)) (fa_nil))))) (alen_cons (alen_cons (alen_cons (alen_cons (alen_nil)))))) (fa_nil))) (fg_name (by simp) sc__law_quad.nd rfl (.inl rfl)) (fss_cons (fs_set (i := 9) sc__law_quad.nd rfl (.inl rfl) (fn_of (fo_ix xd_ix (fo_of (fn_lst (fat_cons (fn_of (fo_str)) (fat_cons (fn_of (fo_str)) (fat_cons (fn_of (fo_str)) (fat_cons (fn_of (fo_str)) (fat_nil))))))) (fo_call (ok__law_draw T) (hr.mono (by decide)) (by rfl) T.g__law_draw T.F__law_draw.kp T.b__law_draw tk rfl (fa_consE (fo_var 0) (fa_consE (fo_var 1) (fa_consE (fo_bin od_add (fo_bin od_add (fo_var 2) (fo_int)) (fo_bin od_mul (fo_int) (fo_var 8))) (fa_consE (fo_int) (fa_nil))))) (alen_cons (alen_cons (alen_cons (alen_cons (alen_nil)))))) (fun _ _ => rfl)))) (fss_cons (fs_set (i := 10) sc__law_quad.nd rfl (.inl rfl) (fn_of (fo_call (ok__law_letter T) (hr.mono (by decide)) (by rfl) T.g__law_letter T.F__law_letter.kp T.b__law_letter tk rfl (fa_consE (fo_bin od_add (fo_var 7) (fo_call (ok__law_draw T) (hr.mono (by decide)) (by rfl) T.g__law_draw T.F__law_draw.kp T.b__law_draw tk rfl (fa_consE (fo_var 0) (fa_consE (fo_var 1) (fa_consE (fo_bin od_add (fo_bin od_add (fo_var 2) (fo_int)) (fo_bin od_mul (fo_int) (fo_var 8))) (fa_consE (fo_var 6) (fa_nil))))) (alen_cons (alen_cons (alen_cons (alen_cons (alen_nil))))))) (fa_nil)) (alen_cons (alen_nil))))) (fss_cons (fs_append 5 (fn_of (fo_var 9)) rfl) (fss_cons (fs_dput 4 (u1of hu65) (fn_of (fo_bin od_add (fo_dget (u1of hu65) (fo_var 4) (fo_ix xd_ix (fo_var 9) (fo_int) (fun _ _ => rfl)) (fun _ _ => rfl)) (fo_var 10))) (fo_ix xd_ix (fo_var 9) (fo_int) (fun _ _ => rfl))) (fss_one (fs_dput 4 (u1of hu65) (fn_of (fo_bin od_add (fo_dget (u1of hu65) (fo_var 4) (fo_ix xd_ix (fo_var 9) (fo_int) (fun _ _ => rfl)) (fun _ _ => rfl)) (fo_var 10))) (fo_ix xd_ix (fo_var 9) (fo_int) (fun _ _ => rfl))))))))) (fss_one (fs_ret (fn_of (fo_tup (fa_consE (fo_dget (u1of hu65) (fo_var 4) (fo_str) (fun _ _ => rfl)) (fa_consE (fo_dget (u1of hu65) (fo_var 4) (fo_str) (fun _ _ => rfl)) (fa_consE (fo_dget (u1of hu65) (fo_var 4) (fo_str) (fun _ _ => rfl)) (fa_consE (fo_dget (u1of hu65) (fo_var 4) (fo_str) (fun _ _ => rfl)) (fa_consE (fo_callTy cd_tuple (by rfl) T.n_tuple (by decide +kernel) (fa_cons (fo_var 5) (fa_nil))) (fa_nil))))))))))))))
theorem ok__law_judged (T : Txt K mg A FD) : FnOk P w K mg base (L2.CX P w) 1 (A 19) (FD 19) ["words", "weaving"] (spP K mg 2 m__law_judged) :=
  def_ok T.F__law_judged sc__law_judged (by decide) fun cdv Ar outer s H E hr tk => by
    have hu64 := hr.units
    have hu65 := u65 hr
    exact fss_cons (fs_set (i := 2) sc__law_judged.nd rfl (.inl rfl) (fn_disp (.cons (.cons (.cons (.cons (.nil))))) (pps_cons pe_str (fo_ix xd_ix (fo_var 0) (fo_int) (fun _ _ => rfl)) (pps_cons pe_str (fo_ix xd_ix (fo_var 0) (fo_int) (fun _ _ => rfl)) (pps_cons pe_str (fo_ix xd_ix (fo_var 0) (fo_int) (fun _ _ => rfl)) (pps_cons pe_str (fo_ix xd_ix (fo_var 0) (fo_int) (fun _ _ => rfl)) (pps_nil))))) rfl rfl (by simp) (by decide))) (fss_cons (fs_for (vs := [3]) (passes_of rfl) rfl (fi_range1 (by rfl) T.n_range (fa_cons (fo_callB cd_len (by rfl) T.n_len (by decide +kernel) (fa_cons (fo_var 1) (fa_nil))) (fa_nil))) (fg_name (by simp) sc__law_judged.nd rfl (.inl rfl)) (fss_cons (fs_set (i := 4) sc__law_judged.nd rfl (.inl rfl) (fn_of (fo_ix xd_ix (fo_ix xd_ix (fo_var 1) (fo_var 3) (fun _ _ => rfl)) (fo_int) (fun _ _ => rfl)))) (fss_cons (fs_set (i := 5) sc__law_judged.nd rfl (.inl rfl) (fn_of (fo_ix xd_ix (fo_ix xd_ix (fo_var 1) (fo_var 3) (fun _ _ => rfl)) (fo_int) (fun _ _ => rfl)))) (fss_cons (fs_if (PW.pt (fw_or (ft_cmp (od_eq hu64) (fo_dget (u1of hu65) (fo_var 2) (fo_var 4) (fun _ _ => rfl)) (fo_str) (nomark _)) (fw_or1 (ft_cmp (od_eq hu64) (fo_dget (u1of hu65) (fo_var 2) (fo_var 5) (fun _ _ => rfl)) (fo_str) (nomark _))))) (fss_one (fs_ret (fn_of (fo_tup (fa_consE (fo_str) (fa_consE (fo_var 3) (fa_consE (fo_str) (fa_nil)))))))) (fss_nil)) (fss_cons (fs_if (ft_cmp (od_ne hu64) (fo_ix xd_ix (fo_dget (u1of hu65) (fo_var 2) (fo_var 4) (fun _ _ => rfl)) (fo_int) (fun _ _ => rfl)) (fo_ix xd_ix (fo_dget (u1of hu65) (fo_var 2) (fo_var 5) (fun _ _ => rfl)) (fo_int) (fun _ _ => rfl)) (nomark _)) (fss_one (fs_ret (fn_of (fo_tup (fa_consE (fo_str) (fa_consE (fo_var 3) (fa_consE (fo_str) (fa_nil)))))))) (fss_nil)) (fss_cons (fs_dput 2 (u1of hu65) (fn_of (fo_sl (fo_dget (u1of hu65) (fo_var 2) (fo_var 4) (fun _ _ => rfl)) (fp_some (fo_int)) (fp_none))) (fo_var 4)) (fss_one (fs_dput 2 (u1of hu65) (fn_of (fo_sl (fo_dget (u1of hu65) (fo_var 2) (fo_var 5) (fun _ _ => rfl)) (fp_some (fo_int)) (fp_none))) (fo_var 5))))))))) (fss_cons (fs_if (ft_cmp (od_ne hu64) (fo_bin od_add (fo_bin od_add (fo_bin od_add (fo_dget (u1of hu65) (fo_var 2) (fo_str) (fun _ _ => rfl)) (fo_dget (u1of hu65) (fo_var 2) (fo_str) (fun _ _ => rfl))) (fo_dget (u1of hu65) (fo_var 2) (fo_str) (fun _ _ => rfl))) (fo_dget (u1of hu65) (fo_var 2) (fo_str) (fun _ _ => rfl))) (fo_str) (nomark _)) (fss_one (fs_ret (fn_of (fo_tup (fa_consE (fo_str) (fa_consE (fo_callB cd_len (by rfl) T.n_len (by decide +kernel) (fa_cons (fo_var 1) (fa_nil))) (fa_consE (fo_str) (fa_nil)))))))) (fss_nil)) (fss_one (fs_ret (fn_of (fo_tup (fa_consE (fo_str) (fa_nil))))))))
theorem ok__law_refused (T : Txt K mg A FD) : FnOk P w K mg base (L2.CX P w) 4 (A 20) (FD 20) ["way", "asked"] (spP K mg 2 m__law_refused) :=
  def_ok T.F__law_refused sc__law_refused (by decide) fun cdv Ar outer s H E hr tk => by
    have hu64 := hr.units
    exact fss_cons (fs_set (i := 2) sc__law_refused.nd rfl (.inl rfl) (fn_of (fo_str))) (fss_cons (fs_try rfl tk (fun _ _ _ tk hp => fss_one (fs_if (ft_cmp (od_eq hu64) (fo_var 0) (fo_int) (nomark _)) (fss_one (fs_expr (fo_call (ok_joined_quads T) (hr.mono (by decide)) (by rfl) T.g_joined_quads T.F_joined_quads.kp T.b_joined_quads tk rfl (fa_consE (fo_ix xd_ix (fo_var 1) (fo_int) (fun _ _ => rfl)) (fa_consE (fo_ix xd_ix (fo_var 1) (fo_int) (fun _ _ => rfl)) (fa_nil))) (alen_cons (alen_cons (alen_nil)))))) (fss_one (fs_if (ft_cmp (od_eq hu64) (fo_var 0) (fo_int) (nomark _)) (fss_one (fs_expr (fo_call (ok_joined_weavings T) (hr.mono (by decide)) (by rfl) T.g_joined_weavings T.F_joined_weavings.kp T.b_joined_weavings tk rfl (fa_consE (fo_ix xd_ix (fo_var 1) (fo_int) (fun _ _ => rfl)) (fa_consE (fo_ix xd_ix (fo_var 1) (fo_int) (fun _ _ => rfl)) (fa_nil))) (alen_cons (alen_cons (alen_nil)))))) (fss_one (fs_expr (fo_call (ok_parts_at T) (hr.mono (by decide)) (by rfl) T.g_parts_at T.F_parts_at.kp T.b_parts_at tk rfl (fa_consE (fo_ix xd_ix (fo_var 1) (fo_int) (fun _ _ => rfl)) (fa_consE (fo_ix xd_ix (fo_var 1) (fo_int) (fun _ _ => rfl)) (fa_consE (fo_ix xd_ix (fo_var 1) (fo_int) (fun _ _ => rfl)) (fa_consE (fo_ix xd_ix (fo_var 1) (fo_int) (fun _ _ => rfl)) (fa_consE (fo_ix xd_ix (fo_var 1) (fo_int) (fun _ _ => rfl)) (fa_nil)))))) (alen_cons (alen_cons (alen_cons (alen_cons (alen_cons (alen_nil))))))))))))) (.cons T.H_NoQuad (by rfl) (by decide) (fun _ _ _ => fss_one (fs_set (i := 2) sc__law_refused.nd rfl (.inl rfl) (fn_of (fo_str)))) (.cons T.H_NoWeaving (by rfl) (by decide) (fun _ _ _ => fss_one (fs_set (i := 2) sc__law_refused.nd rfl (.inl rfl) (fn_of (fo_str)))) (.cons T.H_NoWord (by rfl) (by decide) (fun _ _ _ => fss_one (fs_set (i := 2) sc__law_refused.nd rfl (.inl rfl) (fn_of (fo_str)))) (.cons T.H_NotWoven (by rfl) (by decide) (fun _ _ _ => fss_one (fs_set (i := 2) sc__law_refused.nd rfl (.inl rfl) (fn_of (fo_str)))) (.cons T.H_NoNumber (by rfl) (by decide) (fun _ _ _ => fss_one (fs_set (i := 2) sc__law_refused.nd rfl (.inl rfl) (fn_of (fo_str)))) (.nil))))))) (fss_one (fs_ret (fn_of (fo_var 2)))))
theorem ok__law_front (T : Txt K mg A FD) : FnOk P w K mg base (L2.CX P w) 1 (A 21) (FD 21) ["words", "weaving"] (spP K mg 2 m__law_front) :=
  def_ok T.F__law_front sc__law_front (by decide) fun cdv Ar outer s H E hr tk => by
    have hu65 := u65 hr
    exact fss_cons (fs_set (i := 2) sc__law_front.nd rfl (.inr rfl) (fn_disp (.cons (.cons (.cons (.cons (.nil))))) (pps_cons pe_str (fo_int) (pps_cons pe_str (fo_int) (pps_cons pe_str (fo_int) (pps_cons pe_str (fo_int) (pps_nil))))) rfl rfl (by simp) (by decide))) (fss_cons (fs_for (vs := [3]) (passes_of rfl) rfl (fi_seq (fo_var 1)) (fg_name (by simp) sc__law_front.nd rfl (.inl rfl)) (fss_one (fs_for (vs := [6]) (passes_of rfl) rfl (fi_seq (fo_var 3)) (fg_name (by simp) sc__law_front.nd rfl (.inl rfl)) (fss_one (fs_dput 2 (u1of hu65) (fn_of (fo_bin od_add (fo_dget (u1of hu65) (fo_var 2) (fo_var 6) (fun _ _ => rfl)) (fo_int))) (fo_var 6)))))) (fss_cons (fs_set (i := 4) sc__law_front.nd rfl (.inr rfl) (fn_of (fo_str))) (fss_cons (fs_set (i := 5) sc__law_front.nd rfl (.inl rfl) (fn_of (fo_callTy cd_tuple (by rfl) T.n_tuple (by decide +kernel) (fa_cons (fo_of (fn_lc (own := [("k", 7)]) rfl sc__law_front.nd (fi_range1 (by rfl) T.n_range (fa_cons (fo_int) (fa_nil))) (blkOk_by (N := N__law_front) (sc := defScope s__law_front) (by decide +kernel)) (fun _ _ _ _ _ => fg_name (by simp) sc__law_front.nd rfl (.inl rfl)) (fun _ _ _ _ _ => fts_nil) (fun _ _ _ _ _ => fn_of (fo_sl (fo_ix xd_ix (fo_var 0) (fo_var 7) (fun _ _ => rfl)) (fp_none) (fp_some (fo_dget (u1of hu65) (fo_var 2) (fo_ix xd_ix (fo_var 4) (fo_var 7) (fun _ _ => rfl)) (fun _ _ => rfl))))))) (fa_nil))))) (fss_one (fs_ret (fn_of (fo_tup (fa_consE (fo_var 5) (fa_consE (fo_callTy cd_tuple (by rfl) T.n_tuple (by decide +kernel) (fa_cons (fo_of (fn_lc (own := [("k", 7)]) rfl sc__law_front.nd (fi_range1 (by rfl) T.n_range (fa_cons (fo_int) (fa_nil))) (blkOk_by (N := N__law_front) (sc := defScope s__law_front) (by decide +kernel)) (fun _ _ _ _ _ => fg_name (by simp) sc__law_front.nd rfl (.inl rfl)) (fun _ _ _ _ _ => fts_nil) (fun _ _ _ _ _ => fn_of (fo_sl (fo_ix xd_ix (fo_var 0) (fo_var 7) (fun _ _ => rfl)) (fp_some (fo_dget (u1of hu65) (fo_var 2) (fo_ix xd_ix (fo_var 4) (fo_var 7) (fun _ _ => rfl)) (fun _ _ => rfl))) (fp_none))))) (fa_nil))) (fa_nil))))))))))
theorem ok__law_refusals (T : Txt K mg A FD) : FnOk P w K mg base (L2.CX P w) 5 (A 22) (FD 22) ["script", "place", "words", "weaving"] (spP K mg 4 m__law_refusals) :=
  def_ok T.F__law_refusals sc__law_refusals (by decide) fun cdv Ar outer s H E hr tk => by
    have hu64 := hr.units
    exact fss_cons (fs_set (i := 4) sc__law_refusals.nd rfl (.inl rfl) (fn_of (fo_ix xd_ix (fo_of (fn_lst (fat_cons (fn_of (fo_non)) (fat_cons (fn_of (fo_str)) (fat_cons (fn_of (fo_of (fn_callTy (cn_listS rfl) (by rfl) T.n_list (by decide +kernel) (fa_cons (fo_var 3) (fa_nil))))) (fat_cons (fn_of (fo_tup (fa_consE (fo_str) (fa_nil)))) (fat_cons (fn_of (fo_tup (fa_consE (fo_str) (fa_nil)))) (fat_cons (fn_of (fo_tup (fa_consE (fo_int) (fa_nil)))) (fat_nil))))))))) (fo_call (ok__law_draw T) (hr.mono (by decide)) (by rfl) T.g__law_draw T.F__law_draw.kp T.b__law_draw tk rfl (fa_consE (fo_var 0) (fa_consE (fo_var 1) (fa_consE (fo_int) (fa_consE (fo_int) (fa_nil))))) (alen_cons (alen_cons (alen_cons (alen_cons (alen_nil)))))) (fun _ _ => rfl)))) (fss_cons (fs_set (i := 5) sc__law_refusals.nd rfl (.inl rfl) (fn_lst (fat_cons (fn_of (fo_non)) (fat_cons (fn_of (fo_sl (fo_var 2) (fp_none) (fp_some (fo_int)))) (fat_cons (fn_of (fo_of (fn_callTy (cn_listS rfl) (by rfl) T.n_list (by decide +kernel) (fa_cons (fo_var 2) (fa_nil))))) (fat_cons (fn_of (fo_bin od_add (fo_var 2) (fo_tup (fa_consE (fo_str) (fa_nil))))) (fat_cons (fn_of (fo_tup (fa_consE (fo_str) (fa_consE (fo_str) (fa_consE (fo_str) (fa_consE (fo_str) (fa_nil))))))) (fat_cons (fn_of (fo_tup (fa_consE (fo_non) (fa_consE (fo_str) (fa_consE (fo_str) (fa_consE (fo_str) (fa_nil))))))) (fat_nil))))))))) (fss_cons (fs_set (i := 5) sc__law_refusals.nd rfl (.inl rfl) (fn_of (fo_ix xd_ix (fo_var 5) (fo_call (ok__law_draw T) (hr.mono (by decide)) (by rfl) T.g__law_draw T.F__law_draw.kp T.b__law_draw tk rfl (fa_consE (fo_var 0) (fa_consE (fo_var 1) (fa_consE (fo_int) (fa_consE (fo_int) (fa_nil))))) (alen_cons (alen_cons (alen_cons (alen_cons (alen_nil)))))) (fun _ _ => rfl)))) (fss_cons (fs_set (i := 6) sc__law_refusals.nd rfl (.inl rfl) (fn_of (fo_ix xd_ix (fo_of (fn_lst (fat_cons (fn_of (fo_un ud_neg (fo_int))) (fat_cons (fn_of (fo_bin od_add (fo_callB cd_len (by rfl) T.n_len (by decide +kernel) (fa_cons (fo_var 3) (fa_nil))) (fo_int))) (fat_cons (fn_of (fo_non)) (fat_cons (fn_of (fo_bl)) (fat_cons (fn_of (fo_str)) (fat_nil)))))))) (fo_call (ok__law_draw T) (hr.mono (by decide)) (by rfl) T.g__law_draw T.F__law_draw.kp T.b__law_draw tk rfl (fa_consE (fo_var 0) (fa_consE (fo_var 1) (fa_consE (fo_int) (fa_consE (fo_int) (fa_nil))))) (alen_cons (alen_cons (alen_cons (alen_cons (alen_nil)))))) (fun _ _ => rfl)))) (fss_cons (fs_set (i := 7) sc__law_refusals.nd rfl (.inl rfl) (fn_of (fo_ix xd_ix (fo_of (fn_lst (fat_cons (fn_of (fo_non)) (fat_cons (fn_of (fo_str)) (fat_cons (fn_of (fo_str)) (fat_cons (fn_of (fo_int)) (fat_nil))))))) (fo_call (ok__law_draw T) (hr.mono (by decide)) (by rfl) T.g__law_draw T.F__law_draw.kp T.b__law_draw tk rfl (fa_consE (fo_var 0) (fa_consE (fo_var 1) (fa_consE (fo_int) (fa_consE (fo_int) (fa_nil))))) (alen_cons (alen_cons (alen_cons (alen_cons (alen_nil)))))) (fun _ _ => rfl)))) (fss_cons (fs_unpack (vs := [8, 9, 10, 11]) (fo_var 2) (fg_tup (us := [8, 9, 10, 11]) rfl (fgs_cons (by simp) (pg_name (i := 8) sc__law_refusals.nd rfl (.inl rfl)) (fgs_cons (by simp) (pg_name (i := 9) sc__law_refusals.nd rfl (.inl rfl)) (fgs_cons (by simp) (pg_name (i := 10) sc__law_refusals.nd rfl (.inl rfl)) (fgs_cons (by simp) (pg_name (i := 11) sc__law_refusals.nd rfl (.inl rfl)) (fgs_nil))))))) (fss_cons (fs_if (PW.pt (fw_or (ft_cmp (od_ne hu64) (fo_call (ok__law_refused T) (hr.mono (by decide)) (by rfl) T.g__law_refused T.F__law_refused.kp T.b__law_refused tk rfl (fa_consE (fo_int) (fa_consE (fo_of (fn_lst (fat_cons (fn_of (fo_var 5)) (fat_cons (fn_of (fo_var 2)) (fat_nil))))) (fa_nil))) (alen_cons (alen_cons (alen_nil)))) (fo_str) (nomark _)) (fw_or1 (ft_cmp (od_ne hu64) (fo_call (ok__law_refused T) (hr.mono (by decide)) (by rfl) T.g__law_refused T.F__law_refused.kp T.b__law_refused tk rfl (fa_consE (fo_int) (fa_consE (fo_of (fn_lst (fat_cons (fn_of (fo_var 2)) (fat_cons (fn_of (fo_var 5)) (fat_nil))))) (fa_nil))) (alen_cons (alen_cons (alen_nil)))) (fo_str) (nomark _))))) (fss_one (fs_ret (fn_of (fo_bl)))) (fss_nil)) (fss_cons (fs_if (PW.pt (fw_or (ft_cmp (od_ne hu64) (fo_call (ok__law_refused T) (hr.mono (by decide)) (by rfl) T.g__law_refused T.F__law_refused.kp T.b__law_refused tk rfl (fa_consE (fo_int) (fa_consE (fo_of (fn_lst (fat_cons (fn_of (fo_var 4)) (fat_cons (fn_of (fo_var 3)) (fat_nil))))) (fa_nil))) (alen_cons (alen_cons (alen_nil)))) (fo_str) (nomark _)) (fw_or1 (ft_cmp (od_ne hu64) (fo_call (ok__law_refused T) (hr.mono (by decide)) (by rfl) T.g__law_refused T.F__law_refused.kp T.b__law_refused tk rfl (fa_consE (fo_int) (fa_consE (fo_of (fn_lst (fat_cons (fn_of (fo_var 3)) (fat_cons (fn_of (fo_var 4)) (fat_nil))))) (fa_nil))) (alen_cons (alen_cons (alen_nil)))) (fo_str) (nomark _))))) (fss_one (fs_ret (fn_of (fo_bl)))) (fss_nil)) (fss_cons (fs_set (i := 12) sc__law_refusals.nd rfl (.inl rfl) (fn_of (fo_bin od_add (fo_var 3) (fo_tup (fa_consE (fo_str) (fa_nil)))))) (fss_cons (fs_if (PW.pt (fw_or (ft_cmp (od_ne hu64) (fo_call (ok__law_refused T) (hr.mono (by decide)) (by rfl) T.g__law_refused T.F__law_refused.kp T.b__law_refused tk rfl (fa_consE (fo_int) (fa_consE (fo_of (fn_lst (fat_cons (fn_of (fo_var 8)) (fat_cons (fn_of (fo_var 9)) (fat_cons (fn_of (fo_var 10)) (fat_cons (fn_of (fo_var 3)) (fat_cons (fn_of (fo_var 6)) (fat_nil)))))))) (fa_nil))) (alen_cons (alen_cons (alen_nil)))) (fo_str) (nomark _)) (fw_or1 (ft_cmp (od_ne hu64) (fo_call (ok__law_refused T) (hr.mono (by decide)) (by rfl) T.g__law_refused T.F__law_refused.kp T.b__law_refused tk rfl (fa_consE (fo_int) (fa_consE (fo_of (fn_lst (fat_cons (fn_of (fo_var 8)) (fat_cons (fn_of (fo_var 9)) (fat_cons (fn_of (fo_var 10)) (fat_cons (fn_of (fo_var 12)) (fat_cons (fn_of (fo_var 6)) (fat_nil)))))))) (fa_nil))) (alen_cons (alen_cons (alen_nil)))) (fo_str) (nomark _))))) (fss_one (fs_ret (fn_of (fo_bl)))) (fss_nil)) (fss_cons (fs_if (ft_cmp (od_ne hu64) (fo_call (ok__law_refused T) (hr.mono (by decide)) (by rfl) T.g__law_refused T.F__law_refused.kp T.b__law_refused tk rfl (fa_consE (fo_int) (fa_consE (fo_of (fn_lst (fat_cons (fn_of (fo_var 8)) (fat_cons (fn_of (fo_var 9)) (fat_cons (fn_of (fo_var 10)) (fat_cons (fn_of (fo_var 4)) (fat_cons (fn_of (fo_var 6)) (fat_nil)))))))) (fa_nil))) (alen_cons (alen_cons (alen_nil)))) (fo_str) (nomark _)) (fss_one (fs_ret (fn_of (fo_bl)))) (fss_nil)) (fss_cons (fs_set (i := 13) sc__law_refusals.nd rfl (.inl rfl) (fn_lst (fat_cons (fn_of (fo_var 8)) (fat_cons (fn_of (fo_var 9)) (fat_cons (fn_of (fo_var 10)) (fat_cons (fn_of (fo_var 4)) (fat_cons (fn_of (fo_var 6)) (fat_nil)))))))) (fss_cons (fs_setIx 13 (fn_of (fo_var 7)) (fo_call (ok__law_draw T) (hr.mono (by decide)) (by rfl) T.g__law_draw T.F__law_draw.kp T.b__law_draw tk rfl (fa_consE (fo_var 0) (fa_consE (fo_var 1) (fa_consE (fo_int) (fa_consE (fo_int) (fa_nil))))) (alen_cons (alen_cons (alen_cons (alen_cons (alen_nil))))))) (fss_one (fs_ret (fn_of (fo_cmp (od_eq hu64) (fo_call (ok__law_refused T) (hr.mono (by decide)) (by rfl) T.g__law_refused T.F__law_refused.kp T.b__law_refused tk rfl (fa_consE (fo_int) (fa_consE (fo_var 13) (fa_nil))) (alen_cons (alen_cons (alen_nil)))) (fo_str) (nomark _)))))))))))))))))
theorem ok__law_right (T : Txt K mg A FD) : FnOk P w K mg base (L2.CX P w) 6 (A 23) (FD 23) ["script", "place"] (spP K mg 2 m__law_right) :=
  def_ok T.F__law_right sc__law_right (by decide) fun cdv Ar outer s H E hr tk => by
    have hu64 := hr.units
    exact fss_cons (fs_set (i := 2) sc__law_right.nd rfl (.inr rfl) (fn_of (fo_call (ok__law_quad T) (hr.mono (by decide)) (by rfl) T.g__law_quad T.F__law_quad.kp T.b__law_quad tk rfl (fa_consE (fo_var 0) (fa_consE (fo_var 1) (fa_consE (fo_int) (fa_consE (fo_int) (fa_nil))))) (alen_cons (alen_cons (alen_cons (alen_cons (alen_nil)))))))) (fss_cons (fs_set (i := 3) sc__law_right.nd rfl (.inr rfl) (fn_of (fo_call (ok__law_quad T) (hr.mono (by decide)) (by rfl) T.g__law_quad T.F__law_quad.kp T.b__law_quad tk rfl (fa_consE (fo_var 0) (fa_consE (fo_var 1) (fa_consE (fo_int) (fa_consE (fo_int) (fa_nil))))) (alen_cons (alen_cons (alen_cons (alen_cons (alen_nil)))))))) (fss_cons (fs_set (i := 4) sc__law_right.nd rfl (.inl rfl) (fn_of (fo_call (ok_joined_quads T) (hr.mono (by decide)) (by rfl) T.g_joined_quads T.F_joined_quads.kp T.b_joined_quads tk rfl (fa_consE (fo_sl (fo_var 2) (fp_none) (fp_some (fo_int))) (fa_consE (fo_sl (fo_var 3) (fp_none) (fp_some (fo_int))) (fa_nil))) (alen_cons (alen_cons (alen_nil)))))) (fss_cons (fs_set (i := 5) sc__law_right.nd rfl (.inl rfl) (fn_of (fo_call (ok_joined_weavings T) (hr.mono (by decide)) (by rfl) T.g_joined_weavings T.F_joined_weavings.kp T.b_joined_weavings tk rfl (fa_consE (fo_ix xd_ix (fo_var 2) (fo_int) (fun _ _ => rfl)) (fa_consE (fo_ix xd_ix (fo_var 3) (fo_int) (fun _ _ => rfl)) (fa_nil))) (alen_cons (alen_cons (alen_nil)))))) (fss_cons (fs_if (PW.pt (fw_or (ft_not (ft_truth (fo_callB cd_isinst (by rfl) T.n_isinstance (by decide +kernel) (fa_cons (fo_var 4) (fa_cons (fo_ty (by rfl) T.n_tuple (by decide +kernel)) (fa_nil)))))) (fw_or1 (ft_cmp (od_ne hu64) (fo_var 4) (fo_callTy cd_tuple (by rfl) T.n_tuple (by decide +kernel) (fa_cons (fo_of (fn_lc (own := [("k", 12)]) rfl sc__law_right.nd (fi_range1 (by rfl) T.n_range (fa_cons (fo_int) (fa_nil))) (blkOk_by (N := N__law_right) (sc := defScope s__law_right) (by decide +kernel)) (fun _ _ _ _ _ => fg_name (by simp) sc__law_right.nd rfl (.inl rfl)) (fun _ _ _ _ _ => fts_nil) (fun _ _ _ _ _ => fn_of (fo_bin od_add (fo_ix xd_ix (fo_var 2) (fo_var 12) (fun _ _ => rfl)) (fo_ix xd_ix (fo_var 3) (fo_var 12) (fun _ _ => rfl)))))) (fa_nil))) (nomark _))))) (fss_one (fs_ret (fn_of (fo_bl)))) (fss_nil)) (fss_cons (fs_if (PW.pt (fw_or (ft_not (ft_truth (fo_callB cd_isinst (by rfl) T.n_isinstance (by decide +kernel) (fa_cons (fo_var 5) (fa_cons (fo_ty (by rfl) T.n_tuple (by decide +kernel)) (fa_nil)))))) (fw_or1 (ft_cmp (od_ne hu64) (fo_var 5) (fo_bin od_add (fo_ix xd_ix (fo_var 2) (fo_int) (fun _ _ => rfl)) (fo_ix xd_ix (fo_var 3) (fo_int) (fun _ _ => rfl))) (nomark _))))) (fss_one (fs_ret (fn_of (fo_bl)))) (fss_nil)) (fss_cons (fs_unpack (vs := [6, 7, 8, 9]) (fo_var 4) (fg_tup (us := [6, 7, 8, 9]) rfl (fgs_cons (by simp) (pg_name (i := 6) sc__law_right.nd rfl (.inl rfl)) (fgs_cons (by simp) (pg_name (i := 7) sc__law_right.nd rfl (.inl rfl)) (fgs_cons (by simp) (pg_name (i := 8) sc__law_right.nd rfl (.inl rfl)) (fgs_cons (by simp) (pg_name (i := 9) sc__law_right.nd rfl (.inl rfl)) (fgs_nil))))))) (fss_cons (fs_if (PW.pt (fw_or (ft_cmp (od_ne hu64) (fo_call (ok__law_judged T) (hr.mono (by decide)) (by rfl) T.g__law_judged T.F__law_judged.kp T.b__law_judged tk rfl (fa_consE (fo_var 4) (fa_consE (fo_var 5) (fa_nil))) (alen_cons (alen_cons (alen_nil)))) (fo_tup (fa_consE (fo_str) (fa_nil))) (nomark _)) (fw_or1 (ft_cmp (od_ne hu64) (fo_call (ok_judged T) (hr.mono (by decide)) (by rfl) T.g_judged T.F_judged.kp T.b_judged tk rfl (fa_consE (fo_var 6) (fa_consE (fo_var 7) (fa_consE (fo_var 8) (fa_consE (fo_var 9) (fa_consE (fo_var 5) (fa_nil)))))) (alen_cons (alen_cons (alen_cons (alen_cons (alen_cons (alen_nil))))))) (fo_tup (fa_consE (fo_str) (fa_nil))) (nomark _))))) (fss_one (fs_ret (fn_of (fo_bl)))) (fss_nil)) (fss_cons (fs_if (ft_cmp (od_ne hu64) (fo_call (ok_parts_at T) (hr.mono (by decide)) (by rfl) T.g_parts_at T.F_parts_at.kp T.b_parts_at tk rfl (fa_consE (fo_var 6) (fa_consE (fo_var 7) (fa_consE (fo_var 8) (fa_consE (fo_var 5) (fa_consE (fo_callB cd_len (by rfl) T.n_len (by decide +kernel) (fa_cons (fo_ix xd_ix (fo_var 2) (fo_int) (fun _ _ => rfl)) (fa_nil))) (fa_nil)))))) (alen_cons (alen_cons (alen_cons (alen_cons (alen_cons (alen_nil))))))) (fo_tup (fa_consE (fo_sl (fo_var 2) (fp_none) (fp_some (fo_int))) (fa_consE (fo_sl (fo_var 3) (fp_none) (fp_some (fo_int))) (fa_nil)))) (nomark _)) (fss_one (fs_ret (fn_of (fo_bl)))) (fss_nil)) (fss_cons (fs_set (i := 10) sc__law_right.nd rfl (.inl rfl) (fn_of (fo_call (ok__law_draw T) (hr.mono (by decide)) (by rfl) T.g__law_draw T.F__law_draw.kp T.b__law_draw tk rfl (fa_consE (fo_var 0) (fa_consE (fo_var 1) (fa_consE (fo_int) (fa_consE (fo_bin od_add (fo_callB cd_len (by rfl) T.n_len (by decide +kernel) (fa_cons (fo_var 5) (fa_nil))) (fo_int)) (fa_nil))))) (alen_cons (alen_cons (alen_cons (alen_cons (alen_nil)))))))) (fss_cons (fs_set (i := 11) sc__law_right.nd rfl (.inl rfl) (fn_of (fo_call (ok_parts_at T) (hr.mono (by decide)) (by rfl) T.g_parts_at T.F_parts_at.kp T.b_parts_at tk rfl (fa_consE (fo_var 6) (fa_consE (fo_var 7) (fa_consE (fo_var 8) (fa_consE (fo_var 5) (fa_consE (fo_var 10) (fa_nil)))))) (alen_cons (alen_cons (alen_cons (alen_cons (alen_cons (alen_nil))))))))) (fss_cons (fs_if (PW.pt (fw_or (ft_not (ft_truth (fo_callB cd_isinst (by rfl) T.n_isinstance (by decide +kernel) (fa_cons (fo_var 11) (fa_cons (fo_ty (by rfl) T.n_tuple (by decide +kernel)) (fa_nil)))))) (fw_or1 (ft_cmp (od_ne hu64) (fo_var 11) (fo_call (ok__law_front T) (hr.mono (by decide)) (by rfl) T.g__law_front T.F__law_front.kp T.b__law_front tk rfl (fa_consE (fo_var 4) (fa_consE (fo_sl (fo_var 5) (fp_none) (fp_some (fo_var 10))) (fa_nil))) (alen_cons (alen_cons (alen_nil)))) (nomark _))))) (fss_one (fs_ret (fn_of (fo_bl)))) (fss_nil)) (fss_cons (fs_if (PW.pt (fw_or (ft_cmp (od_ne hu64) (fo_call (ok__law_judged T) (hr.mono (by decide)) (by rfl) T.g__law_judged T.F__law_judged.kp T.b__law_judged tk rfl (fa_consE (fo_ix xd_ix (fo_var 11) (fo_int) (fun _ _ => rfl)) (fa_consE (fo_sl (fo_var 5) (fp_none) (fp_some (fo_var 10))) (fa_nil))) (alen_cons (alen_cons (alen_nil)))) (fo_tup (fa_consE (fo_str) (fa_nil))) (nomark _)) (fw_or1 (ft_cmp (od_ne hu64) (fo_call (ok__law_judged T) (hr.mono (by decide)) (by rfl) T.g__law_judged T.F__law_judged.kp T.b__law_judged tk rfl (fa_consE (fo_ix xd_ix (fo_var 11) (fo_int) (fun _ _ => rfl)) (fa_consE (fo_sl (fo_var 5) (fp_some (fo_var 10)) (fp_none)) (fa_nil))) (alen_cons (alen_cons (alen_nil)))) (fo_tup (fa_consE (fo_str) (fa_nil))) (nomark _))))) (fss_one (fs_ret (fn_of (fo_bl)))) (fss_nil)) (fss_cons (fs_if (ft_cmp (od_ne hu64) (fo_call (ok_joined_quads T) (hr.mono (by decide)) (by rfl) T.g_joined_quads T.F_joined_quads.kp T.b_joined_quads tk rfl (fa_consE (fo_ix xd_ix (fo_var 11) (fo_int) (fun _ _ => rfl)) (fa_consE (fo_ix xd_ix (fo_var 11) (fo_int) (fun _ _ => rfl)) (fa_nil))) (alen_cons (alen_cons (alen_nil)))) (fo_var 4) (nomark _)) (fss_one (fs_ret (fn_of (fo_bl)))) (fss_nil)) (fss_one (fs_ret (fn_of (fo_call (ok__law_refusals T) (hr.mono (by decide)) (by rfl) T.g__law_refusals T.F__law_refusals.kp T.b__law_refusals tk rfl (fa_consE (fo_var 0) (fa_consE (fo_var 1) (fa_consE (fo_sl (fo_var 2) (fp_none) (fp_some (fo_int))) (fa_consE (fo_ix xd_ix (fo_var 2) (fo_int) (fun _ _ => rfl)) (fa_nil))))) (alen_cons (alen_cons (alen_cons (alen_cons (alen_nil))))))))))))))))))))))
theorem ok_law (T : Txt K mg A FD) : FnOk P w K mg base (L2.CX P w) 7 (A 24) (FD 24) ["script"] (spP K mg 1 m_law) :=
  def_ok T.F_law sc_law (by decide) fun cdv Ar outer s H E hr tk => by
    exact fss_cons (fs_for (vs := [1]) (passes_of rfl) rfl (fi_range1 (by rfl) T.n_range (fa_cons (fo_callB (cd_max rfl) (by rfl) T.n_max (by decide +kernel) (fa_cons (fo_int) (fa_cons (fo_callB (cd_min rfl) (by rfl) T.n_min (by decide +kernel) (fa_cons (fo_callB cd_len (by rfl) T.n_len (by decide +kernel) (fa_cons (fo_var 0) (fa_nil))) (fa_cons (fo_int) (fa_nil)))) (fa_nil)))) (fa_nil))) (fg_name (by simp) sc_law.nd rfl (.inl rfl)) (fss_one (fs_if (ft_not (ft_truth (fo_call (ok__law_right T) (hr.mono (by decide)) (by rfl) T.g__law_right T.F__law_right.kp T.b__law_right tk rfl (fa_consE (fo_var 0) (fa_consE (fo_var 1) (fa_nil))) (alen_cons (alen_cons (alen_nil)))))) (fss_one (fs_ret (fn_of (fo_bl)))) (fss_nil)))) (fss_one (fs_ret (fn_of (fo_bl))))
end
/-! ### the end -/
theorem all_mk {P : Program} {w : World} {K : PySem.W.Frag} {h : Heap} {mg : Str → Option Value} {fa : Addr} (X : K.In h) (G : h.Ns mainGlobals mg) (hfa : mg "law" = some (.ref fa))
    (D_is_integer : DI K "is_integer" s_is_integer)
    (D_is_within : DI K "is_within" s_is_within)
    (D_is_tuple : DI K "is_tuple" s_is_tuple)
    (D_is_word : DI K "is_word" s_is_word)
    (D_check_words : DI K "check_words" s_check_words)
    (D_is_weaving : DI K "is_weaving" s_is_weaving)
    (D_check_weaving : DI K "check_weaving" s_check_weaving)
    (D_raw_judged : DI K "raw_judged" s_raw_judged)
    (D_judged : DI K "judged" s_judged)
    (D_read_off : DI K "read_off" s_read_off)
    (D_check_quad : DI K "check_quad" s_check_quad)
    (D_joined_quads : DI K "joined_quads" s_joined_quads)
    (D_joined_weavings : DI K "joined_weavings" s_joined_weavings)
    (D_quad_of : DI K "quad_of" s_quad_of)
    (D_parts_at : DI K "parts_at" s_parts_at)
    (D__law_cell : DI K "_law_cell" s__law_cell)
    (D__law_draw : DI K "_law_draw" s__law_draw)
    (D__law_letter : DI K "_law_letter" s__law_letter)
    (D__law_quad : DI K "_law_quad" s__law_quad)
    (D__law_judged : DI K "_law_judged" s__law_judged)
    (D__law_refused : DI K "_law_refused" s__law_refused)
    (D__law_front : DI K "_law_front" s__law_front)
    (D__law_refusals : DI K "_law_refusals" s__law_refusals)
    (D__law_right : DI K "_law_right" s__law_right)
    (D_law : DI K "law" s_law)
    (D_NoNumber : XI K "NoNumber")
    (D_NoQuad : XI K "NoQuad")
    (D_NoWeaving : XI K "NoWeaving")
    (D_NoWord : XI K "NoWord")
    (D_NotWoven : XI K "NotWoven")
    (E_NoNumber_NoNumber : EI K "NoNumber" "NoNumber" true)
    (E_NoQuad_NoNumber : EI K "NoQuad" "NoNumber" false)
    (E_NoWeaving_NoNumber : EI K "NoWeaving" "NoNumber" false)
    (E_NoWord_NoNumber : EI K "NoWord" "NoNumber" false)
    (E_NotWoven_NoNumber : EI K "NotWoven" "NoNumber" false)
    (E_NoNumber_NoQuad : EI K "NoNumber" "NoQuad" false)
    (E_NoQuad_NoQuad : EI K "NoQuad" "NoQuad" true)
    (E_NoWeaving_NoQuad : EI K "NoWeaving" "NoQuad" false)
    (E_NoWord_NoQuad : EI K "NoWord" "NoQuad" false)
    (E_NotWoven_NoQuad : EI K "NotWoven" "NoQuad" false)
    (E_NoNumber_NoWeaving : EI K "NoNumber" "NoWeaving" false)
    (E_NoQuad_NoWeaving : EI K "NoQuad" "NoWeaving" false)
    (E_NoWeaving_NoWeaving : EI K "NoWeaving" "NoWeaving" true)
    (E_NoWord_NoWeaving : EI K "NoWord" "NoWeaving" false)
    (E_NotWoven_NoWeaving : EI K "NotWoven" "NoWeaving" false)
    (E_NoNumber_NoWord : EI K "NoNumber" "NoWord" false)
    (E_NoQuad_NoWord : EI K "NoQuad" "NoWord" false)
    (E_NoWeaving_NoWord : EI K "NoWeaving" "NoWord" false)
    (E_NoWord_NoWord : EI K "NoWord" "NoWord" true)
    (E_NotWoven_NoWord : EI K "NotWoven" "NoWord" false)
    (E_NoNumber_NotWoven : EI K "NoNumber" "NotWoven" false)
    (E_NoQuad_NotWoven : EI K "NoQuad" "NotWoven" false)
    (E_NoWeaving_NotWoven : EI K "NoWeaving" "NotWoven" false)
    (E_NoWord_NotWoven : EI K "NoWord" "NotWoven" false)
    (E_NotWoven_NotWoven : EI K "NotWoven" "NotWoven" true)
    (D_LETTERS : GI K "LETTERS" c_LETTERS)
    (D_MOVES : GI K "MOVES" c_MOVES)
    (D_PLACES : GI K "PLACES" c_PLACES)
    (z_all : PySem.W.nsIn K mainGlobals "all" = some none)
    (z_bool : PySem.W.nsIn K mainGlobals "bool" = some none)
    (z_enumerate : PySem.W.nsIn K mainGlobals "enumerate" = some none)
    (z_int : PySem.W.nsIn K mainGlobals "int" = some none)
    (z_isinstance : PySem.W.nsIn K mainGlobals "isinstance" = some none)
    (z_len : PySem.W.nsIn K mainGlobals "len" = some none)
    (z_list : PySem.W.nsIn K mainGlobals "list" = some none)
    (z_max : PySem.W.nsIn K mainGlobals "max" = some none)
    (z_min : PySem.W.nsIn K mainGlobals "min" = some none)
    (z_range : PySem.W.nsIn K mainGlobals "range" = some none)
    (z_str : PySem.W.nsIn K mainGlobals "str" = some none)
    (z_tuple : PySem.W.nsIn K mainGlobals "tuple" = some none)
    (z_zip : PySem.W.nsIn K mainGlobals "zip" = some none)
    (hm : ∀ ns : List Int, ns.length ≤ 63 → m_law [.fz (ns.map .int)] = .ok (.bl true))
    : ∃ fd : FuncData, (∀ (s : Shared) (u : Value), BindsTo s fd ⟨[u], []⟩ [("script", u)]) ∧ ∀ base : Heap, K.In base → base.Ns mainGlobals mg → FnOk P w K mg base (L2.CX P w) 7 fa fd ["script"] (spL K) := by
  obtain ⟨f_is_integer, fd_is_integer, a_is_integer, F_is_integer⟩ := D_is_integer
  obtain ⟨f_is_within, fd_is_within, a_is_within, F_is_within⟩ := D_is_within
  obtain ⟨f_is_tuple, fd_is_tuple, a_is_tuple, F_is_tuple⟩ := D_is_tuple
  obtain ⟨f_is_word, fd_is_word, a_is_word, F_is_word⟩ := D_is_word
  obtain ⟨f_check_words, fd_check_words, a_check_words, F_check_words⟩ := D_check_words
  obtain ⟨f_is_weaving, fd_is_weaving, a_is_weaving, F_is_weaving⟩ := D_is_weaving
  obtain ⟨f_check_weaving, fd_check_weaving, a_check_weaving, F_check_weaving⟩ := D_check_weaving
  obtain ⟨f_raw_judged, fd_raw_judged, a_raw_judged, F_raw_judged⟩ := D_raw_judged
  obtain ⟨f_judged, fd_judged, a_judged, F_judged⟩ := D_judged
  obtain ⟨f_read_off, fd_read_off, a_read_off, F_read_off⟩ := D_read_off
  obtain ⟨f_check_quad, fd_check_quad, a_check_quad, F_check_quad⟩ := D_check_quad
  obtain ⟨f_joined_quads, fd_joined_quads, a_joined_quads, F_joined_quads⟩ := D_joined_quads
  obtain ⟨f_joined_weavings, fd_joined_weavings, a_joined_weavings, F_joined_weavings⟩ := D_joined_weavings
  obtain ⟨f_quad_of, fd_quad_of, a_quad_of, F_quad_of⟩ := D_quad_of
  obtain ⟨f_parts_at, fd_parts_at, a_parts_at, F_parts_at⟩ := D_parts_at
  obtain ⟨f__law_cell, fd__law_cell, a__law_cell, F__law_cell⟩ := D__law_cell
  obtain ⟨f__law_draw, fd__law_draw, a__law_draw, F__law_draw⟩ := D__law_draw
  obtain ⟨f__law_letter, fd__law_letter, a__law_letter, F__law_letter⟩ := D__law_letter
  obtain ⟨f__law_quad, fd__law_quad, a__law_quad, F__law_quad⟩ := D__law_quad
  obtain ⟨f__law_judged, fd__law_judged, a__law_judged, F__law_judged⟩ := D__law_judged
  obtain ⟨f__law_refused, fd__law_refused, a__law_refused, F__law_refused⟩ := D__law_refused
  obtain ⟨f__law_front, fd__law_front, a__law_front, F__law_front⟩ := D__law_front
  obtain ⟨f__law_refusals, fd__law_refusals, a__law_refusals, F__law_refusals⟩ := D__law_refusals
  obtain ⟨f__law_right, fd__law_right, a__law_right, F__law_right⟩ := D__law_right
  obtain ⟨f_law, fd_law, a_law, F_law⟩ := D_law
  obtain ⟨f_NoNumber, a_NoNumber, q_NoNumber, k_NoNumber, b_NoNumber, t_NoNumber⟩ := D_NoNumber
  obtain ⟨f_NoQuad, a_NoQuad, q_NoQuad, k_NoQuad, b_NoQuad, t_NoQuad⟩ := D_NoQuad
  obtain ⟨f_NoWeaving, a_NoWeaving, q_NoWeaving, k_NoWeaving, b_NoWeaving, t_NoWeaving⟩ := D_NoWeaving
  obtain ⟨f_NoWord, a_NoWord, q_NoWord, k_NoWord, b_NoWord, t_NoWord⟩ := D_NoWord
  obtain ⟨f_NotWoven, a_NotWoven, q_NotWoven, k_NotWoven, b_NotWoven, t_NotWoven⟩ := D_NotWoven
  obtain ⟨v_LETTERS, u_LETTERS, a_LETTERS, r_LETTERS, d_LETTERS⟩ := D_LETTERS
  obtain ⟨v_MOVES, u_MOVES, a_MOVES, r_MOVES, d_MOVES⟩ := D_MOVES
  obtain ⟨v_PLACES, u_PLACES, a_PLACES, r_PLACES, d_PLACES⟩ := D_PLACES
  have B_is_integer := F_is_integer.binds (ps := ["thing"]) fun _ _ _ _ _ _ us hl => match us, hl with | [_], _ => rfl
  have B_is_within := F_is_within.binds (ps := ["thing", "low", "high"]) fun _ _ _ _ _ _ us hl => match us, hl with | [_, _, _], _ => rfl
  have B_is_tuple := F_is_tuple.binds (ps := ["thing", "least", "most"]) fun _ _ _ _ _ _ us hl => match us, hl with | [_, _, _], _ => rfl
  have B_is_word := F_is_word.binds (ps := ["thing"]) fun _ _ _ _ _ _ us hl => match us, hl with | [_], _ => rfl
  have B_check_words := F_check_words.binds (ps := ["words"]) fun _ _ _ _ _ _ us hl => match us, hl with | [_], _ => rfl
  have B_is_weaving := F_is_weaving.binds (ps := ["thing"]) fun _ _ _ _ _ _ us hl => match us, hl with | [_], _ => rfl
  have B_check_weaving := F_check_weaving.binds (ps := ["weaving"]) fun _ _ _ _ _ _ us hl => match us, hl with | [_], _ => rfl
  have B_raw_judged := F_raw_judged.binds (ps := ["words", "weaving"]) fun _ _ _ _ _ _ us hl => match us, hl with | [_, _], _ => rfl
  have B_judged := F_judged.binds (ps := ["x", "y", "z", "t", "weaving"]) fun _ _ _ _ _ _ us hl => match us, hl with | [_, _, _, _, _], _ => rfl
  have B_read_off := F_read_off.binds (ps := ["x", "y", "z", "weaving"]) fun _ _ _ _ _ _ us hl => match us, hl with | [_, _, _, _], _ => rfl
  have B_check_quad := F_check_quad.binds (ps := ["quad"]) fun _ _ _ _ _ _ us hl => match us, hl with | [_], _ => rfl
  have B_joined_quads := F_joined_quads.binds (ps := ["one", "other"]) fun _ _ _ _ _ _ us hl => match us, hl with | [_, _], _ => rfl
  have B_joined_weavings := F_joined_weavings.binds (ps := ["one", "other"]) fun _ _ _ _ _ _ us hl => match us, hl with | [_, _], _ => rfl
  have B_quad_of := F_quad_of.binds (ps := ["row", "weaving"]) fun _ _ _ _ _ _ us hl => match us, hl with | [_, _], _ => rfl
  have B_parts_at := F_parts_at.binds (ps := ["x", "y", "z", "weaving", "at"]) fun _ _ _ _ _ _ us hl => match us, hl with | [_, _, _, _, _], _ => rfl
  have B__law_cell := F__law_cell.binds (ps := ["script", "place"]) fun _ _ _ _ _ _ us hl => match us, hl with | [_, _], _ => rfl
  have B__law_draw := F__law_draw.binds (ps := ["script", "place", "turn", "many"]) fun _ _ _ _ _ _ us hl => match us, hl with | [_, _, _, _], _ => rfl
  have B__law_letter := F__law_letter.binds (ps := ["number"]) fun _ _ _ _ _ _ us hl => match us, hl with | [_], _ => rfl
  have B__law_quad := F__law_quad.binds (ps := ["script", "place", "turn", "most"]) fun _ _ _ _ _ _ us hl => match us, hl with | [_, _, _, _], _ => rfl
  have B__law_judged := F__law_judged.binds (ps := ["words", "weaving"]) fun _ _ _ _ _ _ us hl => match us, hl with | [_, _], _ => rfl
  have B__law_refused := F__law_refused.binds (ps := ["way", "asked"]) fun _ _ _ _ _ _ us hl => match us, hl with | [_, _], _ => rfl
  have B__law_front := F__law_front.binds (ps := ["words", "weaving"]) fun _ _ _ _ _ _ us hl => match us, hl with | [_, _], _ => rfl
  have B__law_refusals := F__law_refusals.binds (ps := ["script", "place", "words", "weaving"]) fun _ _ _ _ _ _ us hl => match us, hl with | [_, _, _, _], _ => rfl
  have B__law_right := F__law_right.binds (ps := ["script", "place"]) fun _ _ _ _ _ _ us hl => match us, hl with | [_, _], _ => rfl
  have B_law := F_law.binds (ps := ["script"]) fun _ _ _ _ _ _ us hl => match us, hl with | [_], _ => rfl
  have T : Txt K mg (fun i => ([f_is_integer, f_is_within, f_is_tuple, f_is_word, f_check_words, f_is_weaving, f_check_weaving, f_raw_judged, f_judged, f_read_off, f_check_quad, f_joined_quads, f_joined_weavings, f_quad_of, f_parts_at, f__law_cell, f__law_draw, f__law_letter, f__law_quad, f__law_judged, f__law_refused, f__law_front, f__law_refusals, f__law_right, f_law, f_NoNumber, f_NoQuad, f_NoWeaving, f_NoWord, f_NotWoven] : List Addr).getD i 0) (fun i => ([fd_is_integer, fd_is_within, fd_is_tuple, fd_is_word, fd_check_words, fd_is_weaving, fd_check_weaving, fd_raw_judged, fd_judged, fd_read_off, fd_check_quad, fd_joined_quads, fd_joined_weavings, fd_quad_of, fd_parts_at, fd__law_cell, fd__law_draw, fd__law_letter, fd__law_quad, fd__law_judged, fd__law_refused, fd__law_front, fd__law_refusals, fd__law_right, fd_law] : List FuncData).getD i fd_law) := {
    n_all := PySem.W.mg_none_of X G z_all
    n_bool := PySem.W.mg_none_of X G z_bool
    n_enumerate := PySem.W.mg_none_of X G z_enumerate
    n_int := PySem.W.mg_none_of X G z_int
    n_isinstance := PySem.W.mg_none_of X G z_isinstance
    n_len := PySem.W.mg_none_of X G z_len
    n_list := PySem.W.mg_none_of X G z_list
    n_max := PySem.W.mg_none_of X G z_max
    n_min := PySem.W.mg_none_of X G z_min
    n_range := PySem.W.mg_none_of X G z_range
    n_str := PySem.W.mg_none_of X G z_str
    n_tuple := PySem.W.mg_none_of X G z_tuple
    n_zip := PySem.W.mg_none_of X G z_zip
    F_is_integer := F_is_integer
    g_is_integer := PySem.W.mg_of X G a_is_integer
    b_is_integer := B_is_integer
    F_is_within := F_is_within
    g_is_within := PySem.W.mg_of X G a_is_within
    b_is_within := B_is_within
    F_is_tuple := F_is_tuple
    g_is_tuple := PySem.W.mg_of X G a_is_tuple
    b_is_tuple := B_is_tuple
    F_is_word := F_is_word
    g_is_word := PySem.W.mg_of X G a_is_word
    b_is_word := B_is_word
    F_check_words := F_check_words
    g_check_words := PySem.W.mg_of X G a_check_words
    b_check_words := B_check_words
    F_is_weaving := F_is_weaving
    g_is_weaving := PySem.W.mg_of X G a_is_weaving
    b_is_weaving := B_is_weaving
    F_check_weaving := F_check_weaving
    g_check_weaving := PySem.W.mg_of X G a_check_weaving
    b_check_weaving := B_check_weaving
    F_raw_judged := F_raw_judged
    g_raw_judged := PySem.W.mg_of X G a_raw_judged
    b_raw_judged := B_raw_judged
    F_judged := F_judged
    g_judged := PySem.W.mg_of X G a_judged
    b_judged := B_judged
    F_read_off := F_read_off
    g_read_off := PySem.W.mg_of X G a_read_off
    b_read_off := B_read_off
    F_check_quad := F_check_quad
    g_check_quad := PySem.W.mg_of X G a_check_quad
    b_check_quad := B_check_quad
    F_joined_quads := F_joined_quads
    g_joined_quads := PySem.W.mg_of X G a_joined_quads
    b_joined_quads := B_joined_quads
    F_joined_weavings := F_joined_weavings
    g_joined_weavings := PySem.W.mg_of X G a_joined_weavings
    b_joined_weavings := B_joined_weavings
    F_quad_of := F_quad_of
    g_quad_of := PySem.W.mg_of X G a_quad_of
    b_quad_of := B_quad_of
    F_parts_at := F_parts_at
    g_parts_at := PySem.W.mg_of X G a_parts_at
    b_parts_at := B_parts_at
    F__law_cell := F__law_cell
    g__law_cell := PySem.W.mg_of X G a__law_cell
    b__law_cell := B__law_cell
    F__law_draw := F__law_draw
    g__law_draw := PySem.W.mg_of X G a__law_draw
    b__law_draw := B__law_draw
    F__law_letter := F__law_letter
    g__law_letter := PySem.W.mg_of X G a__law_letter
    b__law_letter := B__law_letter
    F__law_quad := F__law_quad
    g__law_quad := PySem.W.mg_of X G a__law_quad
    b__law_quad := B__law_quad
    F__law_judged := F__law_judged
    g__law_judged := PySem.W.mg_of X G a__law_judged
    b__law_judged := B__law_judged
    F__law_refused := F__law_refused
    g__law_refused := PySem.W.mg_of X G a__law_refused
    b__law_refused := B__law_refused
    F__law_front := F__law_front
    g__law_front := PySem.W.mg_of X G a__law_front
    b__law_front := B__law_front
    F__law_refusals := F__law_refusals
    g__law_refusals := PySem.W.mg_of X G a__law_refusals
    b__law_refusals := B__law_refusals
    F__law_right := F__law_right
    g__law_right := PySem.W.mg_of X G a__law_right
    b__law_right := B__law_right
    F_law := F_law
    g_law := PySem.W.mg_of X G a_law
    b_law := B_law
    X_NoNumber := ⟨PySem.W.mg_of X G a_NoNumber, q_NoNumber, k_NoNumber, b_NoNumber, t_NoNumber⟩
    X_NoQuad := ⟨PySem.W.mg_of X G a_NoQuad, q_NoQuad, k_NoQuad, b_NoQuad, t_NoQuad⟩
    X_NoWeaving := ⟨PySem.W.mg_of X G a_NoWeaving, q_NoWeaving, k_NoWeaving, b_NoWeaving, t_NoWeaving⟩
    X_NoWord := ⟨PySem.W.mg_of X G a_NoWord, q_NoWord, k_NoWord, b_NoWord, t_NoWord⟩
    X_NotWoven := ⟨PySem.W.mg_of X G a_NotWoven, q_NotWoven, k_NotWoven, b_NotWoven, t_NotWoven⟩
    H_NoNumber := ⟨PySem.W.mg_of X G a_NoNumber, fun c hc Cc hCc => by
      simp only [xs_all, List.mem_cons, List.not_mem_nil, or_false] at hc
      rcases hc with rfl | rfl | rfl | rfl | rfl
      · cases (PySem.W.mg_of X G a_NoNumber).symm.trans hCc
        exact (E_NoNumber_NoNumber _ _ a_NoNumber a_NoNumber).trans (congrArg some (by decide +kernel))
      · cases (PySem.W.mg_of X G a_NoQuad).symm.trans hCc
        exact (E_NoQuad_NoNumber _ _ a_NoQuad a_NoNumber).trans (congrArg some (by decide +kernel))
      · cases (PySem.W.mg_of X G a_NoWeaving).symm.trans hCc
        exact (E_NoWeaving_NoNumber _ _ a_NoWeaving a_NoNumber).trans (congrArg some (by decide +kernel))
      · cases (PySem.W.mg_of X G a_NoWord).symm.trans hCc
        exact (E_NoWord_NoNumber _ _ a_NoWord a_NoNumber).trans (congrArg some (by decide +kernel))
      · cases (PySem.W.mg_of X G a_NotWoven).symm.trans hCc
        exact (E_NotWoven_NoNumber _ _ a_NotWoven a_NoNumber).trans (congrArg some (by decide +kernel))⟩
    H_NoQuad := ⟨PySem.W.mg_of X G a_NoQuad, fun c hc Cc hCc => by
      simp only [xs_all, List.mem_cons, List.not_mem_nil, or_false] at hc
      rcases hc with rfl | rfl | rfl | rfl | rfl
      · cases (PySem.W.mg_of X G a_NoNumber).symm.trans hCc
        exact (E_NoNumber_NoQuad _ _ a_NoNumber a_NoQuad).trans (congrArg some (by decide +kernel))
      · cases (PySem.W.mg_of X G a_NoQuad).symm.trans hCc
        exact (E_NoQuad_NoQuad _ _ a_NoQuad a_NoQuad).trans (congrArg some (by decide +kernel))
      · cases (PySem.W.mg_of X G a_NoWeaving).symm.trans hCc
        exact (E_NoWeaving_NoQuad _ _ a_NoWeaving a_NoQuad).trans (congrArg some (by decide +kernel))
      · cases (PySem.W.mg_of X G a_NoWord).symm.trans hCc
        exact (E_NoWord_NoQuad _ _ a_NoWord a_NoQuad).trans (congrArg some (by decide +kernel))
      · cases (PySem.W.mg_of X G a_NotWoven).symm.trans hCc
        exact (E_NotWoven_NoQuad _ _ a_NotWoven a_NoQuad).trans (congrArg some (by decide +kernel))⟩
    H_NoWeaving := ⟨PySem.W.mg_of X G a_NoWeaving, fun c hc Cc hCc => by
      simp only [xs_all, List.mem_cons, List.not_mem_nil, or_false] at hc
      rcases hc with rfl | rfl | rfl | rfl | rfl
      · cases (PySem.W.mg_of X G a_NoNumber).symm.trans hCc
        exact (E_NoNumber_NoWeaving _ _ a_NoNumber a_NoWeaving).trans (congrArg some (by decide +kernel))
      · cases (PySem.W.mg_of X G a_NoQuad).symm.trans hCc
        exact (E_NoQuad_NoWeaving _ _ a_NoQuad a_NoWeaving).trans (congrArg some (by decide +kernel))
      · cases (PySem.W.mg_of X G a_NoWeaving).symm.trans hCc
        exact (E_NoWeaving_NoWeaving _ _ a_NoWeaving a_NoWeaving).trans (congrArg some (by decide +kernel))
      · cases (PySem.W.mg_of X G a_NoWord).symm.trans hCc
        exact (E_NoWord_NoWeaving _ _ a_NoWord a_NoWeaving).trans (congrArg some (by decide +kernel))
      · cases (PySem.W.mg_of X G a_NotWoven).symm.trans hCc
        exact (E_NotWoven_NoWeaving _ _ a_NotWoven a_NoWeaving).trans (congrArg some (by decide +kernel))⟩
    H_NoWord := ⟨PySem.W.mg_of X G a_NoWord, fun c hc Cc hCc => by
      simp only [xs_all, List.mem_cons, List.not_mem_nil, or_false] at hc
      rcases hc with rfl | rfl | rfl | rfl | rfl
      · cases (PySem.W.mg_of X G a_NoNumber).symm.trans hCc
        exact (E_NoNumber_NoWord _ _ a_NoNumber a_NoWord).trans (congrArg some (by decide +kernel))
      · cases (PySem.W.mg_of X G a_NoQuad).symm.trans hCc
        exact (E_NoQuad_NoWord _ _ a_NoQuad a_NoWord).trans (congrArg some (by decide +kernel))
      · cases (PySem.W.mg_of X G a_NoWeaving).symm.trans hCc
        exact (E_NoWeaving_NoWord _ _ a_NoWeaving a_NoWord).trans (congrArg some (by decide +kernel))
      · cases (PySem.W.mg_of X G a_NoWord).symm.trans hCc
        exact (E_NoWord_NoWord _ _ a_NoWord a_NoWord).trans (congrArg some (by decide +kernel))
      · cases (PySem.W.mg_of X G a_NotWoven).symm.trans hCc
        exact (E_NotWoven_NoWord _ _ a_NotWoven a_NoWord).trans (congrArg some (by decide +kernel))⟩
    H_NotWoven := ⟨PySem.W.mg_of X G a_NotWoven, fun c hc Cc hCc => by
      simp only [xs_all, List.mem_cons, List.not_mem_nil, or_false] at hc
      rcases hc with rfl | rfl | rfl | rfl | rfl
      · cases (PySem.W.mg_of X G a_NoNumber).symm.trans hCc
        exact (E_NoNumber_NotWoven _ _ a_NoNumber a_NotWoven).trans (congrArg some (by decide +kernel))
      · cases (PySem.W.mg_of X G a_NoQuad).symm.trans hCc
        exact (E_NoQuad_NotWoven _ _ a_NoQuad a_NotWoven).trans (congrArg some (by decide +kernel))
      · cases (PySem.W.mg_of X G a_NoWeaving).symm.trans hCc
        exact (E_NoWeaving_NotWoven _ _ a_NoWeaving a_NotWoven).trans (congrArg some (by decide +kernel))
      · cases (PySem.W.mg_of X G a_NoWord).symm.trans hCc
        exact (E_NoWord_NotWoven _ _ a_NoWord a_NotWoven).trans (congrArg some (by decide +kernel))
      · cases (PySem.W.mg_of X G a_NotWoven).symm.trans hCc
        exact (E_NotWoven_NotWoven _ _ a_NotWoven a_NotWoven).trans (congrArg some (by decide +kernel))⟩
    c_LETTERS := ⟨v_LETTERS, u_LETTERS, PySem.W.mg_of X G a_LETTERS, r_LETTERS, d_LETTERS⟩
    c_MOVES := ⟨v_MOVES, u_MOVES, PySem.W.mg_of X G a_MOVES, r_MOVES, d_MOVES⟩
    c_PLACES := ⟨v_PLACES, u_PLACES, PySem.W.mg_of X G a_PLACES, r_PLACES, d_PLACES⟩ }
  have e := hfa.symm.trans (PySem.W.mg_of X G a_law)
  cases e
  obtain ⟨oc, od, kV, doc, pm, an, cdv, ct, osl, rfl, lk, hcd⟩ := id F_law.ex
  exact ⟨_, fun s u => .of_eq rfl, fun base _ _ => (ok_law T).imp (law_imp hm)⟩
end W_k67
namespace W_k67
open PySem PySem.Spec PyProof.Rows L2 FL TL
theorem kc_LETTERS : c_LETTERS = cS [97, 98, 99, 100, 101, 102, 103, 104, 105, 106, 107, 108, 109, 110, 111, 112, 113, 114, 115, 116, 117, 118, 119, 120, 121, 122] := by first | rfl | exact congrArg D.str (by decide +kernel) | (unfold c_LETTERS; simp only [cU, cS, List.map]; repeat (first | rfl | (congr 1; try decide +kernel)))
theorem kc_MOVES : c_MOVES = (cV cS) [[120, 121], [120, 122], [116, 121], [116, 122]] := by first | rfl | exact congrArg D.str (by decide +kernel) | (unfold c_MOVES; simp only [cU, cS, List.map]; repeat (first | rfl | (congr 1; try decide +kernel)))
theorem kc_PLACES : c_PLACES = cS [120, 121, 122, 116] := by first | rfl | exact congrArg D.str (by decide +kernel) | (unfold c_PLACES; simp only [cU, cS, List.map]; repeat (first | rfl | (congr 1; try decide +kernel)))
theorem t_is_integer (thing : D) : Sim (m_is_integer [cD thing]) (P.is_integer thing) cB := simP (Ps := [.vw (cD thing)]) rfl rfl (by unfold P.is_integer b_is_integer; exact J_eq (J_ret0 (fun _ _ => trivial) (N_of (X_and (X_isinst (X_var 0 cD thing rfl)) (X_not (X_isinst (X_var 0 cD thing rfl))))) (fun _ _ => rf_rt _ _)) (by first | with_reducible rfl | (simp only [Out.bind_assoc, Out.ok_bind]; done) | rfl))
theorem t_is_tuple (thing : D) (least : Int) (most : Int) : Sim (m_is_tuple [cD thing, cI least, cI most]) (P.is_tuple thing least most) cB := simP (Ps := [.vw (cD thing), .vw (cI least), .vw (cI most)]) rfl rfl (by unfold P.is_tuple b_is_tuple; exact J_eq (J_ret0 (fun _ _ => trivial) (N_of (X_and (X_isinst (X_var 0 cD thing rfl)) (X_chain o_le o_le (X_var 1 cI least rfl) (X_B1 (cr := cI) b_lenD (X_var 0 cD thing rfl)) (X_var 2 cI most rfl)))) (fun _ _ => rf_rt _ _)) (by first | with_reducible rfl | (simp only [Out.bind_assoc, Out.ok_bind]; done) | rfl))
theorem t_is_word (thing : D) : Sim (m_is_word [cD thing]) (P.is_word thing) cB := simP (Ps := [.vw (cD thing), .any]) rfl rfl (by unfold P.is_word b_is_word; exact J_eq (J_ret0 (fun _ _ => trivial) (N_of (X_and (X_isinst (X_var 0 cD thing rfl)) (X_B1 (cr := cB) b_all (X_ofL (N_lcR (t := fun (sign : D) => Out.ok true) (e := fun (sign : D) => (opD D.isin sign (cS ([97, 98, 99, 100, 101, 102, 103, 104, 105, 106, 107, 108, 109, 110, 111, 112, 113, 114, 115, 116, 117, 118, 119, 120, 121, 122] : (List Nat))))) (by exact ⟨rfl, trivial⟩) (I_D (X_var 0 cD thing rfl)) (by exact fun x => G_n 1 rfl) (by exact fun x => .r (.a (.nil))) (fun (sign : D) => TJ_eq (T_yes) (by first | with_reducible rfl | (simp only [Out.bind_assoc, Out.ok_bind]; done) | rfl)) (fun (sign : D) => NJ_eq (N_of (X_bin (o_opD D.isin) (X_var 1 cD sign rfl) (X_dyn (X_c cS [97, 98, 99, 100, 101, 102, 103, 104, 105, 106, 107, 108, 109, 110, 111, 112, 113, 114, 115, 116, 117, 118, 119, 120, 121, 122] kc_LETTERS)))) (by first | with_reducible rfl | (simp only [Out.bind_assoc, Out.ok_bind]; done) | rfl))))))) (fun _ _ => rf_rt _ _)) (by first | with_reducible rfl | (simp only [Out.bind_assoc, Out.ok_bind]; done) | rfl))
theorem t_is_weaving (thing : D) : Sim (m_is_weaving [cD thing]) (P.is_weaving thing) cB := simP (Ps := [.vw (cD thing), .any]) rfl rfl (by unfold P.is_weaving b_is_weaving; exact J_eq (J_ret0 (fun _ _ => trivial) (N_of (X_and (X_isinst (X_var 0 cD thing rfl)) (X_B1 (cr := cB) b_all (X_ofL (N_lcR (t := fun (move : D) => Out.ok true) (e := fun (move : D) => ((isD "str" move).bind fun v1 => if v1 = true then (opD D.isin move ((cV cS) ([[120, 121], [120, 122], [116, 121], [116, 122]] : (List (List Nat))))) else Out.ok false)) (by exact ⟨rfl, trivial⟩) (I_D (X_var 0 cD thing rfl)) (by exact fun x => G_n 1 rfl) (by exact fun x => .r (.a (.nil))) (fun (move : D) => TJ_eq (T_yes) (by first | with_reducible rfl | (simp only [Out.bind_assoc, Out.ok_bind]; done) | rfl)) (fun (move : D) => NJ_eq (N_of (X_and (X_isinst (X_var 1 cD move rfl)) (X_bin (o_opD D.isin) (X_var 1 cD move rfl) (X_dyn (X_c (cV cS) [[120, 121], [120, 122], [116, 121], [116, 122]] kc_MOVES))))) (by first | with_reducible rfl | (simp only [Out.bind_assoc, Out.ok_bind]; done) | rfl))))))) (fun _ _ => rf_rt _ _)) (by first | with_reducible rfl | (simp only [Out.bind_assoc, Out.ok_bind]; done) | rfl))
theorem t_raw_judged (words : (List (List Nat))) (weaving : (List (List Nat))) : Sim (m_raw_judged [(cL cS) words, (cU cS) weaving]) (P.raw_judged words weaving) cD := simP (Ps := [.vw ((cL cS) words), .vw ((cU cS) weaving), .any, .any, .any, .any, .any, .any]) rfl rfl (by unfold P.raw_judged b_raw_judged; exact J_seq (J_eq (J_setLO (i := 2) (fun _ _ => trivial) rfl (N_lstn (ca := cI) (NK_cons (N_of (X_i 0)) (NK_cons (N_of (X_i 0)) (NK_cons (N_of (X_i 0)) (NK_cons (N_of (X_i 0)) (NK_nil))))) (by decide))) (by first | with_reducible rfl | (simp only [Out.bind_assoc, Out.ok_bind]; done) | rfl)) (fun (taken : (List Int)) => by exact J_jn (J_eq (J_for (s0 := taken) (b := fun ((at_, move) : (Int × (List Nat))) (taken : (List Int)) => (((sgR move (0 : Int)).bind fun v1 => sidxR ([120, 121, 122, 116] : (List Nat)) v1).bind fun v3 => ((sgR move (1 : Int)).bind fun v2 => sidxR ([120, 121, 122, 116] : (List Nat)) v2).bind fun v4 => Out.ok ((v3, v4))).bind fun (one, other) => (((atR taken one).bind fun v6 => ((atR words one).bind fun v5 => Out.ok ((v5.length : Int))).bind fun v7 => Out.ok ((decide (v6 = v7)))).bind fun v11 => if v11 = true then Out.ok true else ((atR taken other).bind fun v9 => ((atR words other).bind fun v8 => Out.ok ((v8.length : Int))).bind fun v10 => Out.ok ((decide (v9 = v10))))).bind fun v19 => if v19 = true then Out.ok (Lp.out ((c3 cS cI cS) (([114, 101, 102, 117, 115, 101, 100] : List Nat), at_, ([101, 110, 100] : List Nat)))) else (((atR words one).bind fun v12 => (atR taken one).bind fun v13 => sgR v12 v13).bind fun v16 => ((atR words other).bind fun v14 => (atR taken other).bind fun v15 => sgR v14 v15).bind fun v17 => Out.ok ((!decide (v16 = v17)))).bind fun v18 => if v18 = true then Out.ok (Lp.out ((c3 cS cI cS) (([114, 101, 102, 117, 115, 101, 100] : List Nat), at_, ([117, 110, 108, 105, 107, 101] : List Nat)))) else ((atR taken one).bind fun o => (Out.ok (o + (1 : Int))).bind fun w => setR taken one w).bind fun taken => ((atR taken other).bind fun o => (Out.ok (o + (1 : Int))).bind fun w => setR taken other w).bind fun taken => Out.ok (Lp.nx taken)) (Bs := fun (ix_ : (Int × (List Nat))) (st_ : (List Int)) => [.vw ((cL cS) words), .vw ((cU cS) weaving), .own (oL cI st_), .vw (cI ix_.1), .vw (cS ix_.2), .any, .any, .any]) (fun (st_ : (List Int)) => [.vw ((cL cS) words), .vw ((cU cS) weaving), .own (oL cI st_), .any, .any, .any, .any, .any]) (fun _ _ => trivial) (I_enum (ci := cS) (f := fun a => a) (fun _ => rfl) (X_var 1 (cU cS) weaving rfl)) (.r (.r (.r (.r (.r (.r (.r (.r (.nil))))))))) (fun x s => G_t rfl rfl (Gs_cons (G_n 3 rfl) (Gs_cons (G_n 4 rfl) (Gs_nil)))) (fun ((at_, move) : (Int × (List Nat))) (taken : (List Int)) => by exact J_seq (J_eq (J_par (i := 5) (j := 6) (fun _ _ => trivial) rfl rfl (X_mt (g := D.sindex) (cr := cI) (f := fun x (p : _ × Unit) => sidxR x p.1) (X_c cS [120, 121, 122, 116] kc_PLACES) (AL_cons (X_bin o_ixS (X_var 4 cS move rfl) (X_i 0)) AL_nil) (fun _ => rfl) m_sindex) (X_mt (g := D.sindex) (cr := cI) (f := fun x (p : _ × Unit) => sidxR x p.1) (X_c cS [120, 121, 122, 116] kc_PLACES) (AL_cons (X_bin o_ixS (X_var 4 cS move rfl) (X_i 1)) AL_nil) (fun _ => rfl) m_sindex)) (by first | with_reducible rfl | (simp only [Out.bind_assoc, Out.ok_bind]; done) | rfl)) (fun (one, other) => by exact J_guard (fun _ _ => trivial) (TJ_eq (T_or (T_v (X_bin (o_eq Fai.I) (X_bin o_ixL (X_own 2 (cL cI) taken rfl (oL_top _ _)) (X_var 5 cI one rfl)) (X_B1 (cr := cI) b_lenS (X_bin o_ixL (X_var 0 (cL cS) words rfl) (X_var 5 cI one rfl))))) (T_v (X_bin (o_eq Fai.I) (X_bin o_ixL (X_own 2 (cL cI) taken rfl (oL_top _ _)) (X_var 6 cI other rfl)) (X_B1 (cr := cI) b_lenS (X_bin o_ixL (X_var 0 (cL cS) words rfl) (X_var 6 cI other rfl)))))) (by first | with_reducible rfl | (simp only [Out.bind_assoc, Out.ok_bind]; done) | rfl)) (J_eq (J_ret (k := fun a => (Lp.out a)) (fun _ _ => trivial) (N_of (X_dyn (X_tup (cr := (c3 cS cI cS)) (π := fun g => (g.1, g.2.1, g.2.2.1)) (n := 3) (AE_cons (X_s [114, 101, 102, 117, 115, 101, 100] (by decide +kernel)) (AE_cons (X_var 3 cI at_ rfl) (AE_cons (X_s [101, 110, 100] (by decide +kernel)) (AE_nil)))) (fun _ => rfl) (by decide) (fun _ => rfl)))) (fun _ _ => rx_rt (rb_rt (rf_rt _ _)))) (by first | with_reducible rfl | (simp only [Out.bind_assoc, Out.ok_bind]; done) | rfl)) (J_guard (fun _ _ => trivial) (TJ_eq (T_v (X_bin (o_ne Fai.S) (X_bin o_ixS (X_bin o_ixL (X_var 0 (cL cS) words rfl) (X_var 5 cI one rfl)) (X_bin o_ixL (X_own 2 (cL cI) taken rfl (oL_top _ _)) (X_var 5 cI one rfl))) (X_bin o_ixS (X_bin o_ixL (X_var 0 (cL cS) words rfl) (X_var 6 cI other rfl)) (X_bin o_ixL (X_own 2 (cL cI) taken rfl (oL_top _ _)) (X_var 6 cI other rfl))))) (by first | with_reducible rfl | (simp only [Out.bind_assoc, Out.ok_bind]; done) | rfl)) (J_eq (J_ret (k := fun a => (Lp.out a)) (fun _ _ => trivial) (N_of (X_dyn (X_tup (cr := (c3 cS cI cS)) (π := fun g => (g.1, g.2.1, g.2.2.1)) (n := 3) (AE_cons (X_s [114, 101, 102, 117, 115, 101, 100] (by decide +kernel)) (AE_cons (X_var 3 cI at_ rfl) (AE_cons (X_s [117, 110, 108, 105, 107, 101] (by decide +kernel)) (AE_nil)))) (fun _ => rfl) (by decide) (fun _ => rfl)))) (fun _ _ => rx_rt (rb_rt (rf_rt _ _)))) (by first | with_reducible rfl | (simp only [Out.bind_assoc, Out.ok_bind]; done) | rfl)) (J_seq (J_eq (J_augIx (i := 2) (f := (fun o y => Out.ok (o + y))) (fun _ _ => trivial) rfl i_add (X_var 5 cI one rfl) (X_i 1)) (by first | with_reducible rfl | (simp only [Out.bind_assoc, Out.ok_bind]; done) | rfl)) (fun taken => by exact J_last (J_seq (J_eq (J_augIx (i := 2) (f := (fun o y => Out.ok (o + y))) (fun _ _ => trivial) rfl i_add (X_var 6 cI other rfl) (X_i 1)) (by first | with_reducible rfl | (simp only [Out.bind_assoc, Out.ok_bind]; done) | rfl)) (fun taken => by exact J_nil (a := (Lp.nx taken)) (fun _ h => rb_nx (LeS.er (.r (.r (.r (.a (.a (.a (.a (.r (.nil))))))))) h)))))))))) (by first | with_reducible rfl | (simp only [Out.bind_assoc, Out.ok_bind]; done) | rfl)) (fun taken => by exact J_guard (fun _ _ => trivial) (TJ_eq (T_v (X_bin (o_ne (Fai.L Fai.I)) (X_own 2 (cL cI) taken rfl (oL_top _ _)) (X_ofL (N_lcA (e := fun (word : (List Nat)) => (word.length : Int)) (by exact ⟨rfl, trivial⟩) (I_L (X_var 0 (cL cS) words rfl)) (by exact fun x => G_n 7 rfl) (by exact fun x => .r (.r (.r (.r (.r (.r (.r (.a (.nil))))))))) (fun (word : (List Nat)) => NJ_eq (N_of (X_B1 (cr := cI) b_lenS (X_var 7 cS word rfl))) (by first | with_reducible rfl | (simp only [Out.bind_assoc, Out.ok_bind]; done) | rfl)))))) (by first | with_reducible rfl | (simp only [Out.bind_assoc, Out.ok_bind]; done) | rfl)) (J_eq (J_ret0 (fun _ _ => trivial) (N_of (X_dyn (X_tup (cr := (c3 cS cI cS)) (π := fun g => (g.1, g.2.1, g.2.2.1)) (n := 3) (AE_cons (X_s [114, 101, 102, 117, 115, 101, 100] (by decide +kernel)) (AE_cons (X_B1 (cr := cI) b_lenU (X_var 1 (cU cS) weaving rfl)) (AE_cons (X_s [108, 101, 102, 116] (by decide +kernel)) (AE_nil)))) (fun _ => rfl) (by decide) (fun _ => rfl)))) (fun _ _ => rx_rt (rf_rt _ _))) (by first | with_reducible rfl | (simp only [Out.bind_assoc, Out.ok_bind]; done) | rfl)) (J_eq (J_ret0 (fun _ _ => trivial) (N_of (X_dyn (X_tup (cr := (c1 cS)) (π := fun g => (g.1)) (n := 1) (AE_cons (X_s [119, 111, 118, 101, 110] (by decide +kernel)) (AE_nil)) (fun _ => rfl) (by decide) (fun _ => rfl)))) (fun _ _ => rf_rt _ _)) (by first | with_reducible rfl | (simp only [Out.bind_assoc, Out.ok_bind]; done) | rfl)))))
theorem t_read_off (x : (List Nat)) (y : (List Nat)) (z : (List Nat)) (weaving : (List (List Nat))) : Sim (m_read_off [cS x, cS y, cS z, (cU cS) weaving]) (P.read_off x y z weaving) (c2 cS cS) := simP (Ps := [.vw (cS x), .vw (cS y), .vw (cS z), .vw ((cU cS) weaving), .any, .any, .any, .any, .any, .any, .any]) rfl rfl (by unfold P.read_off b_read_off; exact J_seq (J_eq (J_parT (is := [4, 5, 6, 7]) (fun a => [.vw ((cM kS cS) a.1), .own ((oM kS cI) a.2.1), .vw (cS a.2.2.1), .vw (cS a.2.2.2.1)]) (fun _ _ => trivial) (HL_cons (N_of (X_ofM (NJ_eq (N_disp (ck := kS) (ca := cS) (AE_cons (X_var 0 cS x rfl) (AE_cons (X_var 1 cS y rfl) (AE_cons (X_var 2 cS z rfl) (AE_nil)))) (π := fun g => ([([120], g.1), ([121], g.2.1), ([122], g.2.2.1)] : (List ((List Nat) × (List Nat))))) (fun _ => rfl) (fun _ => rfl) (by decide +kernel) (by decide)) (by first | with_reducible rfl | (simp only [Out.bind_assoc, Out.ok_bind]; done) | rfl)))) (HL_cons (NJ_eq (N_disp (ck := kS) (ca := cI) (AE_cons (X_i 0) (AE_cons (X_i 0) (AE_cons (X_i 0) (AE_nil)))) (π := fun g => ([([120], g.1), ([121], g.2.1), ([122], g.2.2.1)] : (List ((List Nat) × Int)))) (fun _ => rfl) (fun _ => rfl) (by decide +kernel) (by decide)) (by first | with_reducible rfl | (simp only [Out.bind_assoc, Out.ok_bind]; done) | rfl)) (HL_cons (N_of (X_s [] (by decide +kernel))) (HL_cons (N_of (X_s [] (by decide +kernel))) (HL_nil))))) (fun _ => .cons pk_v (.cons pk_o (.cons pk_v (.cons pk_v (.nil))))) (fun _ => rfl) (show ∀ i ∈ ([4, 5, 6, 7] : List Nat), i < 11 by decide)) (by first | with_reducible rfl | (simp only [Out.bind_assoc, Out.ok_bind]; done) | rfl)) (fun (words, taken, row, made, _) => by exact J_seq (J_eq (J_forS (s0 := (taken, row, made)) (b := fun (move : (List Nat)) ((taken, row, made) : (List ((List Nat) × Int)) × (List Nat) × (List Nat)) => (sgR move (1 : Int)).bind fun (side : (List Nat)) => ((getR taken side).bind fun v2 => ((getR words side).bind fun v1 => Out.ok ((v1.length : Int))).bind fun v3 => Out.ok ((decide (v2 = v3)))).bind fun v13 => if v13 = true then Out.exc "NotWoven" else ((getR words side).bind fun v4 => (getR taken side).bind fun v5 => sgR v4 v5).bind fun (letter : (List Nat)) => ((getR taken side).bind fun o => (Out.ok (o + (1 : Int))).bind fun w => putR taken side w).bind fun taken => (catR row letter).bind fun (row : (List Nat)) => ((sgR move (0 : Int)).bind fun v6 => Out.ok ((decide (v6 = ([116] : List Nat))))).bind fun v12 => if v12 = true then (catR made letter).bind fun (made : (List Nat)) => Out.ok (taken, row, made) else (((getR taken ([120] : List Nat)).bind fun v7 => Out.ok ((decide (v7 = (x.length : Int))))).bind fun v10 => if v10 = true then Out.ok true else (((getR taken ([120] : List Nat)).bind fun v8 => sgR x v8).bind fun v9 => Out.ok ((!decide (v9 = letter))))).bind fun v11 => if v11 = true then Out.exc "NotWoven" else ((getR taken ([120] : List Nat)).bind fun o => (Out.ok (o + (1 : Int))).bind fun w => putR taken ([120] : List Nat) w).bind fun taken => Out.ok (taken, row, made)) (Bs := fun (ix_ : (List Nat)) (st_ : (List ((List Nat) × Int)) × (List Nat) × (List Nat)) => [.vw (cS x), .vw (cS y), .vw (cS z), .vw ((cU cS) weaving), .vw ((cM kS cS) words), .own ((oM kS cI) st_.1), .vw (cS st_.2.1), .vw (cS st_.2.2), .vw (cS ix_), .any, .any]) (fun (st_ : (List ((List Nat) × Int)) × (List Nat) × (List Nat)) => [.vw (cS x), .vw (cS y), .vw (cS z), .vw ((cU cS) weaving), .vw ((cM kS cS) words), .own ((oM kS cI) st_.1), .vw (cS st_.2.1), .vw (cS st_.2.2), .any, .any, .any]) (fun _ _ => trivial) (I_U (X_var 3 (cU cS) weaving rfl)) (.r (.r (.r (.r (.r (.r (.r (.r (.r (.r (.r (.nil)))))))))))) (fun x s => G_n 8 rfl) (fun (move : (List Nat)) ((taken, row, made) : (List ((List Nat) × Int)) × (List Nat) × (List Nat)) => by exact J_seq (J_eq (J_setS (i := 9) (fun _ _ => trivial) rfl (N_of (X_bin o_ixS (X_var 8 cS move rfl) (X_i 1)))) (by first | with_reducible rfl | (simp only [Out.bind_assoc, Out.ok_bind]; done) | rfl)) (fun (side : (List Nat)) => by exact J_guard (fun _ _ => trivial) (TJ_eq (T_v (X_bin (o_eq Fai.I) (X_bin (o_dget keyS) (X_own 5 (cM kS cI) taken rfl (oM_top _)) (X_var 9 cS side rfl)) (X_B1 (cr := cI) b_lenS (X_bin (o_dget keyS) (X_var 4 (cM kS cS) words rfl) (X_var 9 cS side rfl))))) (by first | with_reducible rfl | (simp only [Out.bind_assoc, Out.ok_bind]; done) | rfl)) (J_raise (fun _ _ => trivial)) (J_seq (J_eq (J_setS (i := 10) (fun _ _ => trivial) rfl (N_of (X_bin o_ixS (X_bin (o_dget keyS) (X_var 4 (cM kS cS) words rfl) (X_var 9 cS side rfl)) (X_bin (o_dget keyS) (X_own 5 (cM kS cI) taken rfl (oM_top _)) (X_var 9 cS side rfl))))) (by first | with_reducible rfl | (simp only [Out.bind_assoc, Out.ok_bind]; done) | rfl)) (fun (letter : (List Nat)) => by exact J_seq (J_eq (J_daug (i := 5) (f := fun o y => Out.ok (o + y)) keyS (fun _ _ => trivial) rfl i_add (X_var 9 cS side rfl) (X_i 1)) (by first | with_reducible rfl | (simp only [Out.bind_assoc, Out.ok_bind]; done) | rfl)) (fun taken => by exact J_seq (J_eq (J_setS (i := 6) (fun _ _ => trivial) rfl (N_of (X_bin o_catS (X_var 6 cS row rfl) (X_var 10 cS letter rfl)))) (by first | with_reducible rfl | (simp only [Out.bind_assoc, Out.ok_bind]; done) | rfl)) (fun (row : (List Nat)) => by exact J_if (fun _ _ => trivial) (TJ_eq (T_v (X_bin (o_eq Fai.S) (X_bin o_ixS (X_var 8 cS move rfl) (X_i 0)) (X_s [116] (by decide +kernel)))) (by first | with_reducible rfl | (simp only [Out.bind_assoc, Out.ok_bind]; done) | rfl)) (J_last (J_seq (J_eq (J_setS (i := 7) (fun _ _ => trivial) rfl (N_of (X_bin o_catS (X_var 7 cS made rfl) (X_var 10 cS letter rfl)))) (by first | with_reducible rfl | (simp only [Out.bind_assoc, Out.ok_bind]; done) | rfl)) (fun (made : (List Nat)) => by exact J_nil (a := (taken, row, made)) (fun _ h => rc_nx (LeS.er (.r (.r (.r (.r (.r (.r (.r (.r (.a (.a (.a (.nil)))))))))))) h))))) (J_guard (fun _ _ => trivial) (TJ_eq (T_or (T_v (X_bin (o_eq Fai.I) (X_bin (o_dget keyS) (X_own 5 (cM kS cI) taken rfl (oM_top _)) (X_s [120] (by decide +kernel))) (X_B1 (cr := cI) b_lenS (X_var 0 cS x rfl)))) (T_v (X_bin (o_ne Fai.S) (X_bin o_ixS (X_var 0 cS x rfl) (X_bin (o_dget keyS) (X_own 5 (cM kS cI) taken rfl (oM_top _)) (X_s [120] (by decide +kernel)))) (X_var 10 cS letter rfl)))) (by first | with_reducible rfl | (simp only [Out.bind_assoc, Out.ok_bind]; done) | rfl)) (J_raise (fun _ _ => trivial)) (J_last (J_seq (J_eq (J_daug (i := 5) (f := fun o y => Out.ok (o + y)) keyS (fun _ _ => trivial) rfl i_add (X_s [120] (by decide +kernel)) (X_i 1)) (by first | with_reducible rfl | (simp only [Out.bind_assoc, Out.ok_bind]; done) | rfl)) (fun taken => by exact J_nil (a := (taken, row, made)) (fun _ h => rc_nx (LeS.er (.r (.r (.r (.r (.r (.r (.r (.r (.a (.a (.a (.nil)))))))))))) h))))))))))))) (by first | with_reducible rfl | (simp only [Out.bind_assoc, Out.ok_bind]; done) | rfl)) (fun (taken, row, made) => by exact J_guard (fun _ _ => trivial) (TJ_eq (T_v (X_bin (o_ne (Fai.L Fai.I)) (X_ofL (N_lstn (ca := cI) (NK_cons (N_of (X_bin (o_dget keyS) (X_own 5 (cM kS cI) taken rfl (oM_top _)) (X_s [120] (by decide +kernel)))) (NK_cons (N_of (X_bin (o_dget keyS) (X_own 5 (cM kS cI) taken rfl (oM_top _)) (X_s [121] (by decide +kernel)))) (NK_cons (N_of (X_bin (o_dget keyS) (X_own 5 (cM kS cI) taken rfl (oM_top _)) (X_s [122] (by decide +kernel)))) (NK_nil)))) (by decide))) (X_ofL (N_lstn (ca := cI) (NK_cons (N_of (X_B1 (cr := cI) b_lenS (X_var 0 cS x rfl))) (NK_cons (N_of (X_B1 (cr := cI) b_lenS (X_var 1 cS y rfl))) (NK_cons (N_of (X_B1 (cr := cI) b_lenS (X_var 2 cS z rfl))) (NK_nil)))) (by decide))))) (by first | with_reducible rfl | (simp only [Out.bind_assoc, Out.ok_bind]; done) | rfl)) (J_raise (fun _ _ => trivial)) (J_eq (J_ret0 (fun _ _ => trivial) (N_of (X_tup (cr := (c2 cS cS)) (π := fun g => (g.1, g.2.1)) (n := 2) (AE_cons (X_var 6 cS row rfl) (AE_cons (X_var 7 cS made rfl) (AE_nil))) (fun _ => rfl) (by decide) (fun _ => rfl))) (fun _ _ => rf_rt _ _)) (by first | with_reducible rfl | (simp only [Out.bind_assoc, Out.ok_bind]; done) | rfl)))))
theorem t_quad_of (row : (List Nat)) (weaving : (List (List Nat))) : Sim (m_quad_of [cS row, (cU cS) weaving]) (P.quad_of row weaving) (cU cS) := simP (Ps := [.vw (cS row), .vw ((cU cS) weaving), .any, .any, .any]) rfl rfl (by unfold P.quad_of b_quad_of; exact J_eq (J_ret0 (fun _ _ => trivial) (N_of (X_B1 (cr := (cU cS)) b_tupL (X_ofL (N_lcR (t := fun (side : (List Nat)) => Out.ok true) (e := fun (side : (List Nat)) => ((lcP (weaving.zip (sgs row)) (fun ((move, letter) : ((List Nat) × (List Nat))) => (inS side move)) (fun ((move, letter) : ((List Nat) × (List Nat))) => letter)).bind fun v1 => joinR ([] : List Nat) v1)) (by exact ⟨rfl, trivial⟩) (I_S (X_s [120, 121, 122, 116] (by decide +kernel))) (by exact fun x => G_n 2 rfl) (by exact fun x => .r (.r (.a (.r (.r (.nil)))))) (fun (side : (List Nat)) => TJ_eq (T_yes) (by first | with_reducible rfl | (simp only [Out.bind_assoc, Out.ok_bind]; done) | rfl)) (fun (side : (List Nat)) => NJ_eq (N_of (X_mt (g := D.join) (cr := cS) (f := fun x (p : _ × Unit) => joinR x p.1) (X_s [] (by decide +kernel)) (AL_cons (X_ofL (N_lcP (t := fun ((move, letter) : ((List Nat) × (List Nat))) => (inS side move)) (e := fun ((move, letter) : ((List Nat) × (List Nat))) => letter) (by exact ⟨rfl, rfl, trivial⟩) (I_zipW (ci := cS) (cj := cS) (f := fun a => a) (g := sgs) w_U w_S (X_var 1 (cU cS) weaving rfl) (X_var 0 cS row rfl)) (by exact fun x => G_t rfl rfl (Gs_cons (G_n 3 rfl) (Gs_cons (G_n 4 rfl) (Gs_nil)))) (by exact fun x => .r (.r (.r (.a (.a (.nil)))))) (fun ((move, letter) : ((List Nat) × (List Nat))) => TJ_eq (T_v (X_bin o_inS (X_var 2 cS side rfl) (X_var 3 cS move rfl))) (by first | with_reducible rfl | (simp only [Out.bind_assoc, Out.ok_bind]; done) | rfl)) (fun ((move, letter) : ((List Nat) × (List Nat))) => NJ_eq (N_of (X_var 4 cS letter rfl)) (by first | with_reducible rfl | (simp only [Out.bind_assoc, Out.ok_bind]; done) | rfl)))) AL_nil) (fun _ => rfl) m_joinL)) (by first | with_reducible rfl | (simp only [Out.bind_assoc, Out.ok_bind]; done) | rfl)))))) (fun _ _ => rf_rt _ _)) (by first | with_reducible rfl | (simp only [Out.bind_assoc, Out.ok_bind]; done) | rfl))
theorem t__law_cell (script : (List Int)) (place : Int) : Sim (m__law_cell [(cF cI) script, cI place]) (P.w_cell script place) cI := simP (Ps := [.vw ((cF cI) script), .vw (cI place)]) rfl rfl (by unfold P.w_cell b__law_cell; exact J_guardp (fun _ _ => trivial) (TJ_eq (T_v (X_bin o_lt (X_var 1 cI place rfl) (X_B1 (cr := cI) b_lenF (X_var 0 (cF cI) script rfl)))) (by first | with_reducible rfl | (simp only [Out.bind_assoc, Out.ok_bind]; done) | rfl)) (J_eq (J_ret0 (fun _ _ => trivial) (N_of (X_bin o_ixF (X_var 0 (cF cI) script rfl) (X_var 1 cI place rfl))) (fun _ _ => rx_rt (rf_rt _ _))) (by first | with_reducible rfl | (simp only [Out.bind_assoc, Out.ok_bind]; done) | rfl)) (J_eq (J_ret0 (fun _ _ => trivial) (N_of (X_i 0)) (fun _ _ => rf_rt _ _)) (by first | with_reducible rfl | (simp only [Out.bind_assoc, Out.ok_bind]; done) | rfl)))
theorem t__law_letter (number : Int) : Sim (m__law_letter [cI number]) (P.w_letter number) cS := simP (Ps := [.vw (cI number)]) rfl rfl (by unfold P.w_letter b__law_letter; exact J_eq (J_ret0 (fun _ _ => trivial) (N_of (X_bin o_ixS (X_s [97, 98, 99, 100, 101, 102, 103, 104, 105, 106, 107, 108, 109, 110, 111, 112, 113, 114, 115, 116, 117, 118, 119, 120, 121, 122] (by decide +kernel)) (X_bin o_mod (X_B1 (cr := cI) b_int (X_var 0 cI number rfl)) (X_i 26)))) (fun _ _ => rf_rt _ _)) (by first | with_reducible rfl | (simp only [Out.bind_assoc, Out.ok_bind]; done) | rfl))
theorem t__law_judged (words : (List (List Nat))) (weaving : (List (List Nat))) : Sim (m__law_judged [(cU cS) words, (cU cS) weaving]) (P.w_judged_2 words weaving) cD := simP (Ps := [.vw ((cU cS) words), .vw ((cU cS) weaving), .any, .any, .any, .any]) rfl rfl (by unfold P.w_judged_2 b__law_judged; exact J_seq (J_eq (J_setMO (i := 2) (fun _ _ => trivial) rfl (NJ_eq (N_disp (ck := kS) (ca := cS) (AE_cons (X_bin o_ixU (X_var 0 (cU cS) words rfl) (X_i 0)) (AE_cons (X_bin o_ixU (X_var 0 (cU cS) words rfl) (X_i 1)) (AE_cons (X_bin o_ixU (X_var 0 (cU cS) words rfl) (X_i 2)) (AE_cons (X_bin o_ixU (X_var 0 (cU cS) words rfl) (X_i 3)) (AE_nil))))) (π := fun g => ([([120], g.1), ([121], g.2.1), ([122], g.2.2.1), ([116], g.2.2.2.1)] : (List ((List Nat) × (List Nat))))) (fun _ => rfl) (fun _ => rfl) (by decide +kernel) (by decide)) (by first | with_reducible rfl | (simp only [Out.bind_assoc, Out.ok_bind]; done) | rfl))) (by first | with_reducible rfl | (simp only [Out.bind_assoc, Out.ok_bind]; done) | rfl)) (fun (left : (List ((List Nat) × (List Nat)))) => by exact J_jn (J_eq (J_for (s0 := left) (b := fun (k : Int) (left : (List ((List Nat) × (List Nat)))) => ((atR weaving k).bind fun v5 => sgR v5 (0 : Int)).bind fun (one : (List Nat)) => ((atR weaving k).bind fun v6 => sgR v6 (1 : Int)).bind fun (other : (List Nat)) => (((getR left one).bind fun v7 => Out.ok ((decide (v7 = ([] : List Nat))))).bind fun v9 => if v9 = true then Out.ok true else ((getR left other).bind fun v8 => Out.ok ((decide (v8 = ([] : List Nat)))))).bind fun v19 => if v19 = true then Out.ok (Lp.out ((c3 cS cI cS) (([114, 101, 102, 117, 115, 101, 100] : List Nat), k, ([101, 110, 100] : List Nat)))) else (((getR left one).bind fun v10 => sgR v10 (0 : Int)).bind fun v12 => ((getR left other).bind fun v11 => sgR v11 (0 : Int)).bind fun v13 => Out.ok ((!decide (v12 = v13)))).bind fun v18 => if v18 = true then Out.ok (Lp.out ((c3 cS cI cS) (([114, 101, 102, 117, 115, 101, 100] : List Nat), k, ([117, 110, 108, 105, 107, 101] : List Nat)))) else (((getR left one).bind fun v14 => Out.ok ((slS (some (1 : Int)) none v14))).bind fun v15 => putR left one v15).bind fun left => (((getR left other).bind fun v16 => Out.ok ((slS (some (1 : Int)) none v16))).bind fun v17 => putR left other v17).bind fun left => Out.ok (Lp.nx left)) (Bs := fun (ix_ : Int) (st_ : (List ((List Nat) × (List Nat)))) => [.vw ((cU cS) words), .vw ((cU cS) weaving), .own ((oM kS cS) st_), .vw (cI ix_), .any, .any]) (fun (st_ : (List ((List Nat) × (List Nat)))) => [.vw ((cU cS) words), .vw ((cU cS) weaving), .own ((oM kS cS) st_), .any, .any, .any]) (fun _ _ => trivial) (I_r1 (X_B1 (cr := cI) b_lenU (X_var 1 (cU cS) weaving rfl))) (.r (.r (.r (.r (.r (.r (.nil))))))) (fun x s => G_n 3 rfl) (fun (k : Int) (left : (List ((List Nat) × (List Nat)))) => by exact J_seq (J_eq (J_setS (i := 4) (fun _ _ => trivial) rfl (N_of (X_bin o_ixS (X_bin o_ixU (X_var 1 (cU cS) weaving rfl) (X_var 3 cI k rfl)) (X_i 0)))) (by first | with_reducible rfl | (simp only [Out.bind_assoc, Out.ok_bind]; done) | rfl)) (fun (one : (List Nat)) => by exact J_seq (J_eq (J_setS (i := 5) (fun _ _ => trivial) rfl (N_of (X_bin o_ixS (X_bin o_ixU (X_var 1 (cU cS) weaving rfl) (X_var 3 cI k rfl)) (X_i 1)))) (by first | with_reducible rfl | (simp only [Out.bind_assoc, Out.ok_bind]; done) | rfl)) (fun (other : (List Nat)) => by exact J_guard (fun _ _ => trivial) (TJ_eq (T_or (T_v (X_bin (o_eq Fai.S) (X_bin (o_dget keyS) (X_own 2 (cM kS cS) left rfl (oM_top _)) (X_var 4 cS one rfl)) (X_s [] (by decide +kernel)))) (T_v (X_bin (o_eq Fai.S) (X_bin (o_dget keyS) (X_own 2 (cM kS cS) left rfl (oM_top _)) (X_var 5 cS other rfl)) (X_s [] (by decide +kernel))))) (by first | with_reducible rfl | (simp only [Out.bind_assoc, Out.ok_bind]; done) | rfl)) (J_eq (J_ret (k := fun a => (Lp.out a)) (fun _ _ => trivial) (N_of (X_dyn (X_tup (cr := (c3 cS cI cS)) (π := fun g => (g.1, g.2.1, g.2.2.1)) (n := 3) (AE_cons (X_s [114, 101, 102, 117, 115, 101, 100] (by decide +kernel)) (AE_cons (X_var 3 cI k rfl) (AE_cons (X_s [101, 110, 100] (by decide +kernel)) (AE_nil)))) (fun _ => rfl) (by decide) (fun _ => rfl)))) (fun _ _ => rx_rt (rb_rt (rf_rt _ _)))) (by first | with_reducible rfl | (simp only [Out.bind_assoc, Out.ok_bind]; done) | rfl)) (J_guard (fun _ _ => trivial) (TJ_eq (T_v (X_bin (o_ne Fai.S) (X_bin o_ixS (X_bin (o_dget keyS) (X_own 2 (cM kS cS) left rfl (oM_top _)) (X_var 4 cS one rfl)) (X_i 0)) (X_bin o_ixS (X_bin (o_dget keyS) (X_own 2 (cM kS cS) left rfl (oM_top _)) (X_var 5 cS other rfl)) (X_i 0)))) (by first | with_reducible rfl | (simp only [Out.bind_assoc, Out.ok_bind]; done) | rfl)) (J_eq (J_ret (k := fun a => (Lp.out a)) (fun _ _ => trivial) (N_of (X_dyn (X_tup (cr := (c3 cS cI cS)) (π := fun g => (g.1, g.2.1, g.2.2.1)) (n := 3) (AE_cons (X_s [114, 101, 102, 117, 115, 101, 100] (by decide +kernel)) (AE_cons (X_var 3 cI k rfl) (AE_cons (X_s [117, 110, 108, 105, 107, 101] (by decide +kernel)) (AE_nil)))) (fun _ => rfl) (by decide) (fun _ => rfl)))) (fun _ _ => rx_rt (rb_rt (rf_rt _ _)))) (by first | with_reducible rfl | (simp only [Out.bind_assoc, Out.ok_bind]; done) | rfl)) (J_seq (J_eq (J_dput (i := 2) keyS (fun _ _ => trivial) rfl (N_of (X_sl s_S (X_bin (o_dget keyS) (X_own 2 (cM kS cS) left rfl (oM_top _)) (X_var 4 cS one rfl)) (PJ_some (X_i 1)) (PJ_none))) (X_var 4 cS one rfl)) (by first | with_reducible rfl | (simp only [Out.bind_assoc, Out.ok_bind]; done) | rfl)) (fun left => by exact J_last (J_seq (J_eq (J_dput (i := 2) keyS (fun _ _ => trivial) rfl (N_of (X_sl s_S (X_bin (o_dget keyS) (X_own 2 (cM kS cS) left rfl (oM_top _)) (X_var 5 cS other rfl)) (PJ_some (X_i 1)) (PJ_none))) (X_var 5 cS other rfl)) (by first | with_reducible rfl | (simp only [Out.bind_assoc, Out.ok_bind]; done) | rfl)) (fun left => by exact J_nil (a := (Lp.nx left)) (fun _ h => rb_nx (LeS.er (.r (.r (.r (.a (.a (.a (.nil))))))) h))))))))))) (by first | with_reducible rfl | (simp only [Out.bind_assoc, Out.ok_bind]; done) | rfl)) (fun left => by exact J_guard (fun _ _ => trivial) (TJ_eq (T_v (X_bin (o_ne Fai.S) (X_bin o_catS (X_bin o_catS (X_bin o_catS (X_bin (o_dget keyS) (X_own 2 (cM kS cS) left rfl (oM_top _)) (X_s [120] (by decide +kernel))) (X_bin (o_dget keyS) (X_own 2 (cM kS cS) left rfl (oM_top _)) (X_s [121] (by decide +kernel)))) (X_bin (o_dget keyS) (X_own 2 (cM kS cS) left rfl (oM_top _)) (X_s [122] (by decide +kernel)))) (X_bin (o_dget keyS) (X_own 2 (cM kS cS) left rfl (oM_top _)) (X_s [116] (by decide +kernel)))) (X_s [] (by decide +kernel)))) (by first | with_reducible rfl | (simp only [Out.bind_assoc, Out.ok_bind]; done) | rfl)) (J_eq (J_ret0 (fun _ _ => trivial) (N_of (X_dyn (X_tup (cr := (c3 cS cI cS)) (π := fun g => (g.1, g.2.1, g.2.2.1)) (n := 3) (AE_cons (X_s [114, 101, 102, 117, 115, 101, 100] (by decide +kernel)) (AE_cons (X_B1 (cr := cI) b_lenU (X_var 1 (cU cS) weaving rfl)) (AE_cons (X_s [108, 101, 102, 116] (by decide +kernel)) (AE_nil)))) (fun _ => rfl) (by decide) (fun _ => rfl)))) (fun _ _ => rx_rt (rf_rt _ _))) (by first | with_reducible rfl | (simp only [Out.bind_assoc, Out.ok_bind]; done) | rfl)) (J_eq (J_ret0 (fun _ _ => trivial) (N_of (X_dyn (X_tup (cr := (c1 cS)) (π := fun g => (g.1)) (n := 1) (AE_cons (X_s [119, 111, 118, 101, 110] (by decide +kernel)) (AE_nil)) (fun _ => rfl) (by decide) (fun _ => rfl)))) (fun _ _ => rf_rt _ _)) (by first | with_reducible rfl | (simp only [Out.bind_assoc, Out.ok_bind]; done) | rfl)))))
theorem t__law_front (words : (List (List Nat))) (weaving : (List (List Nat))) : Sim (m__law_front [(cU cS) words, (cU cS) weaving]) (P.w_front words weaving) (c2 (cU cS) (cU cS)) := simP (Ps := [.vw ((cU cS) words), .vw ((cU cS) weaving), .any, .any, .any, .any, .any, .any]) rfl rfl (by unfold P.w_front b__law_front; exact J_seq (J_eq (J_setMO (i := 2) (fun _ _ => trivial) rfl (NJ_eq (N_disp (ck := kS) (ca := cI) (AE_cons (X_i 0) (AE_cons (X_i 0) (AE_cons (X_i 0) (AE_cons (X_i 0) (AE_nil))))) (π := fun g => ([([120], g.1), ([121], g.2.1), ([122], g.2.2.1), ([116], g.2.2.2.1)] : (List ((List Nat) × Int)))) (fun _ => rfl) (fun _ => rfl) (by decide +kernel) (by decide)) (by first | with_reducible rfl | (simp only [Out.bind_assoc, Out.ok_bind]; done) | rfl))) (by first | with_reducible rfl | (simp only [Out.bind_assoc, Out.ok_bind]; done) | rfl)) (fun (sizes : (List ((List Nat) × Int))) => by exact J_seq (J_eq (J_forS (s0 := sizes) (b := fun (move : (List Nat)) (sizes : (List ((List Nat) × Int))) => (forS (fun (side : (List Nat)) (sizes : (List ((List Nat) × Int))) => (((getR sizes side).bind fun v1 => Out.ok ((v1 + (1 : Int)))).bind fun v2 => putR sizes side v2).bind fun sizes => Out.ok sizes) (sgs move) sizes).bind fun sizes => Out.ok sizes) (Bs := fun (ix_ : (List Nat)) (st_ : (List ((List Nat) × Int))) => [.vw ((cU cS) words), .vw ((cU cS) weaving), .own ((oM kS cI) st_), .vw (cS ix_), .any, .any, .any, .any]) (fun (st_ : (List ((List Nat) × Int))) => [.vw ((cU cS) words), .vw ((cU cS) weaving), .own ((oM kS cI) st_), .any, .any, .any, .any, .any]) (fun _ _ => trivial) (I_U (X_var 1 (cU cS) weaving rfl)) (.r (.r (.r (.r (.r (.r (.r (.r (.nil))))))))) (fun x s => G_n 3 rfl) (fun (move : (List Nat)) (sizes : (List ((List Nat) × Int))) => by exact J_last (J_seq (J_eq (J_forS (s0 := sizes) (b := fun (side : (List Nat)) (sizes : (List ((List Nat) × Int))) => (((getR sizes side).bind fun v1 => Out.ok ((v1 + (1 : Int)))).bind fun v2 => putR sizes side v2).bind fun sizes => Out.ok sizes) (Bs := fun (ix_ : (List Nat)) (st_ : (List ((List Nat) × Int))) => [.vw ((cU cS) words), .vw ((cU cS) weaving), .own ((oM kS cI) st_), .vw (cS move), .any, .any, .vw (cS ix_), .any]) (fun (st_ : (List ((List Nat) × Int))) => [.vw ((cU cS) words), .vw ((cU cS) weaving), .own ((oM kS cI) st_), .vw (cS move), .any, .any, .any, .any]) (fun _ _ => trivial) (I_S (X_var 3 cS move rfl)) (.r (.r (.r (.r (.r (.r (.r (.r (.nil))))))))) (fun x s => G_n 6 rfl) (fun (side : (List Nat)) (sizes : (List ((List Nat) × Int))) => by exact J_last (J_seq (J_eq (J_dput (i := 2) keyS (fun _ _ => trivial) rfl (N_of (X_bin o_add (X_bin (o_dget keyS) (X_own 2 (cM kS cI) sizes rfl (oM_top _)) (X_var 6 cS side rfl)) (X_i 1))) (X_var 6 cS side rfl)) (by first | with_reducible rfl | (simp only [Out.bind_assoc, Out.ok_bind]; done) | rfl)) (fun sizes => by exact J_nil (a := sizes) (fun _ h => rc_nx (LeS.er (.r (.r (.r (.r (.r (.r (.a (.r (.nil))))))))) h)))))) (by first | with_reducible rfl | (simp only [Out.bind_assoc, Out.ok_bind]; done) | rfl)) (fun sizes => by exact J_nil (a := sizes) (fun _ h => rc_nx (LeS.er (.r (.r (.r (.a (.r (.r (.r (.r (.nil))))))))) h)))))) (by first | with_reducible rfl | (simp only [Out.bind_assoc, Out.ok_bind]; done) | rfl)) (fun sizes => by exact J_seq (J_eq (J_setS (i := 4) (fun _ _ => trivial) rfl (N_of (X_s [120, 121, 122, 116] (by decide +kernel)))) (by first | with_reducible rfl | (simp only [Out.bind_assoc, Out.ok_bind]; done) | rfl)) (fun (names : (List Nat)) => by exact J_seq (J_eq (J_setS (i := 5) (fun _ _ => trivial) rfl (N_of (X_B1 (cr := (cU cS)) b_tupL (X_ofL (N_lcR (t := fun (k : Int) => Out.ok true) (e := fun (k : Int) => ((atR words k).bind fun v5 => (((sgR names k).bind fun v3 => getR sizes v3).bind fun v4 => Out.ok ((some v4))).bind fun v6 => Out.ok ((slS none v6 v5)))) (by exact ⟨rfl, trivial⟩) (I_r1 (X_i 4)) (by exact fun x => G_n 7 rfl) (by exact fun x => .r (.r (.r (.r (.r (.r (.r (.a (.nil))))))))) (fun (k : Int) => TJ_eq (T_yes) (by first | with_reducible rfl | (simp only [Out.bind_assoc, Out.ok_bind]; done) | rfl)) (fun (k : Int) => NJ_eq (N_of (X_sl s_S (X_bin o_ixU (X_var 0 (cU cS) words rfl) (X_var 7 cI k rfl)) (PJ_none) (PJ_some (X_bin (o_dget keyS) (X_own 2 (cM kS cI) sizes rfl (oM_top _)) (X_bin o_ixS (X_var 4 cS names rfl) (X_var 7 cI k rfl)))))) (by first | with_reducible rfl | (simp only [Out.bind_assoc, Out.ok_bind]; done) | rfl))))))) (by first | with_reducible rfl | (simp only [Out.bind_assoc, Out.ok_bind]; done) | rfl)) (fun (front : (List (List Nat))) => by exact J_eq (J_ret0 (fun _ _ => trivial) (N_of (X_tup (cr := (c2 (cU cS) (cU cS))) (π := fun g => (g.1, g.2.1)) (n := 2) (AE_cons (X_var 5 (cU cS) front rfl) (AE_cons (X_B1 (cr := (cU cS)) b_tupL (X_ofL (N_lcR (t := fun (k : Int) => Out.ok true) (e := fun (k : Int) => ((atR words k).bind fun v11 => (((sgR names k).bind fun v9 => getR sizes v9).bind fun v10 => Out.ok ((some v10))).bind fun v12 => Out.ok ((slS v12 none v11)))) (by exact ⟨rfl, trivial⟩) (I_r1 (X_i 4)) (by exact fun x => G_n 7 rfl) (by exact fun x => .r (.r (.r (.r (.r (.r (.r (.a (.nil))))))))) (fun (k : Int) => TJ_eq (T_yes) (by first | with_reducible rfl | (simp only [Out.bind_assoc, Out.ok_bind]; done) | rfl)) (fun (k : Int) => NJ_eq (N_of (X_sl s_S (X_bin o_ixU (X_var 0 (cU cS) words rfl) (X_var 7 cI k rfl)) (PJ_some (X_bin (o_dget keyS) (X_own 2 (cM kS cI) sizes rfl (oM_top _)) (X_bin o_ixS (X_var 4 cS names rfl) (X_var 7 cI k rfl)))) (PJ_none))) (by first | with_reducible rfl | (simp only [Out.bind_assoc, Out.ok_bind]; done) | rfl))))) (AE_nil))) (fun _ => rfl) (by decide) (fun _ => rfl))) (fun _ _ => rf_rt _ _)) (by first | with_reducible rfl | (simp only [Out.bind_assoc, Out.ok_bind]; done) | rfl))))))
theorem t_is_within (thing : D) (low : Int) (high : Int) : Sim (m_is_within [cD thing, cI low, cI high]) (P.is_within thing low high) cB := simP (Ps := [.vw (cD thing), .vw (cI low), .vw (cI high)]) rfl rfl (by unfold P.is_within b_is_within; exact J_eq (J_ret0 (fun _ _ => trivial) (N_of (X_and (X_cl (AE_cons (X_var 0 cD thing rfl) (AE_nil)) (fun g => t_is_integer g.1)) (X_chain (o_opD D.le) (o_opD D.le) (X_dyn (X_var 1 cI low rfl)) (X_var 0 cD thing rfl) (X_dyn (X_var 2 cI high rfl))))) (fun _ _ => rf_rt _ _)) (by first | with_reducible rfl | (simp only [Out.bind_assoc, Out.ok_bind]; done) | rfl))
theorem t_check_words (words : (List D)) : Sim (m_check_words [(cL cD) words]) (P.check_words words) cN := simP (Ps := [.vw ((cL cD) words), .any]) rfl rfl (by unfold P.check_words b_check_words; exact J_last (J_seq (J_eq (J_forS (s0 := ()) (b := fun (word : D) (_ : Unit) => ((P.is_word word).bind fun v1 => Out.ok ((!v1))).bind fun v2 => if v2 = true then Out.exc "NoWord" else Out.ok ()) (Bs := fun (ix_ : D) (st_ : Unit) => [.vw ((cL cD) words), .vw (cD ix_)]) (fun (st_ : Unit) => [.vw ((cL cD) words), .any]) (fun _ _ => trivial) (I_L (X_var 0 (cL cD) words rfl)) (.r (.r (.nil))) (fun x s => G_n 1 rfl) (fun (word : D) (_ : Unit) => by exact J_last (J_guard (fun _ _ => trivial) (TJ_eq (T_not (T_tB (X_cl (AE_cons (X_var 1 cD word rfl) (AE_nil)) (fun g => t_is_word g.1)))) (by first | with_reducible rfl | (simp only [Out.bind_assoc, Out.ok_bind]; done) | rfl)) (J_raise (fun _ _ => trivial)) (J_nil (a := ()) (fun _ h => rc_nx (LeS.er (.r (.a (.nil))) h)))))) (by first | with_reducible rfl | (simp only [Out.bind_assoc, Out.ok_bind]; done) | rfl)) (fun _ => by exact J_nil (fun _ _ => rf_nx _))))
theorem t_check_weaving (weaving : D) : Sim (m_check_weaving [cD weaving]) (P.check_weaving weaving) cN := simP (Ps := [.vw (cD weaving)]) rfl rfl (by unfold P.check_weaving b_check_weaving; exact J_last (J_guard (fun _ _ => trivial) (TJ_eq (T_not (T_tB (X_cl (AE_cons (X_var 0 cD weaving rfl) (AE_nil)) (fun g => t_is_weaving g.1)))) (by first | with_reducible rfl | (simp only [Out.bind_assoc, Out.ok_bind]; done) | rfl)) (J_raise (fun _ _ => trivial)) (J_nil (fun _ _ => rf_nx _))))
theorem t_check_quad (quad : D) : Sim (m_check_quad [cD quad]) (P.check_quad quad) cN := simP (Ps := [.vw (cD quad), .any]) rfl rfl (by unfold P.check_quad b_check_quad; exact J_last (J_guard (fun _ _ => trivial) (TJ_eq (T_or (T_not (T_tB (X_cl (AE_cons (X_var 0 cD quad rfl) (AE_cons (X_i 4) (AE_cons (X_i 4) (AE_nil)))) (fun g => t_is_tuple g.1 g.2.1 g.2.2.1)))) (T_not (T_tB (X_B1 (cr := cB) b_all (X_ofL (N_lcR (t := fun (word : D) => Out.ok true) (e := fun (word : D) => (P.is_word word)) (by exact ⟨rfl, trivial⟩) (I_D (X_var 0 cD quad rfl)) (by exact fun x => G_n 1 rfl) (by exact fun x => .r (.a (.nil))) (fun (word : D) => TJ_eq (T_yes) (by first | with_reducible rfl | (simp only [Out.bind_assoc, Out.ok_bind]; done) | rfl)) (fun (word : D) => NJ_eq (N_of (X_cl (AE_cons (X_var 1 cD word rfl) (AE_nil)) (fun g => t_is_word g.1))) (by first | with_reducible rfl | (simp only [Out.bind_assoc, Out.ok_bind]; done) | rfl)))))))) (by first | with_reducible rfl | (simp only [Out.bind_assoc, Out.ok_bind]; done) | rfl)) (J_raise (fun _ _ => trivial)) (J_nil (fun _ _ => rf_nx _))))
theorem t__law_draw (script : (List Int)) (place : Int) (turn : Int) (many : Int) : Sim (m__law_draw [(cF cI) script, cI place, cI turn, cI many]) (P.w_draw_2 script place turn many) cI := simP (Ps := [.vw ((cF cI) script), .vw (cI place), .vw (cI turn), .vw (cI many), .any, .any, .any]) rfl rfl (by unfold P.w_draw_2 b__law_draw; exact J_seq (J_eq (J_setS (i := 4) (fun _ _ => trivial) rfl (N_of (X_cl (AE_cons (X_var 0 (cF cI) script rfl) (AE_cons (X_var 1 cI place rfl) (AE_nil))) (fun g => t__law_cell g.1 g.2.1)))) (by first | with_reducible rfl | (simp only [Out.bind_assoc, Out.ok_bind]; done) | rfl)) (fun (cell : Int) => by exact J_guard (fun _ _ => trivial) (TJ_eq (T_v (X_bin o_ge (X_var 4 cI cell rfl) (X_bin o_pow (X_i 10) (X_i 18)))) (by first | with_reducible rfl | (simp only [Out.bind_assoc, Out.ok_bind]; done) | rfl)) (J_seq (J_eq (J_forS (s0 := cell) (b := fun (step : Int) (cell : Int) => (divR cell (1009 : Int)).bind fun (cell : Int) => Out.ok cell) (Bs := fun (ix_ : Int) (st_ : Int) => [.vw ((cF cI) script), .vw (cI place), .vw (cI turn), .vw (cI many), .vw (cI st_), .any, .vw (cI ix_)]) (fun (st_ : Int) => [.vw ((cF cI) script), .vw (cI place), .vw (cI turn), .vw (cI many), .vw (cI st_), .any, .any]) (fun _ _ => trivial) (I_r1 (X_var 2 cI turn rfl)) (.r (.r (.r (.r (.r (.r (.r (.nil)))))))) (fun x s => G_n 6 rfl) (fun (step : Int) (cell : Int) => by exact J_last (J_seq (J_eq (J_setS (i := 4) (fun _ _ => trivial) rfl (N_of (X_bin o_div (X_var 4 cI cell rfl) (X_i 1009)))) (by first | with_reducible rfl | (simp only [Out.bind_assoc, Out.ok_bind]; done) | rfl)) (fun (cell : Int) => by exact J_nil (a := cell) (fun _ h => rc_nx (LeS.er (.r (.r (.r (.r (.r (.r (.a (.nil)))))))) h)))))) (by first | with_reducible rfl | (simp only [Out.bind_assoc, Out.ok_bind]; done) | rfl)) (fun cell => by exact J_eq (J_ret0 (fun _ _ => trivial) (N_of (X_bin o_mod (X_B1 (cr := cI) b_int (X_var 4 cI cell rfl)) (X_var 3 cI many rfl))) (fun _ _ => rx_rt (rf_rt _ _))) (by first | with_reducible rfl | (simp only [Out.bind_assoc, Out.ok_bind]; done) | rfl))) (J_seq (J_eq (J_setS (i := 5) (fun _ _ => trivial) rfl (N_of (X_bin o_mod (X_B1 (cr := cI) b_int (X_bin o_add (X_bin o_add (X_bin o_add (X_bin o_mul (X_var 4 cI cell rfl) (X_i 48271)) (X_bin o_mul (X_var 1 cI place rfl) (X_i 7919))) (X_bin o_mul (X_var 2 cI turn rfl) (X_i 69621))) (X_i 11))) (X_i 2147483647)))) (by first | with_reducible rfl | (simp only [Out.bind_assoc, Out.ok_bind]; done) | rfl)) (fun (number : Int) => by exact J_seq (J_eq (J_setS (i := 5) (fun _ _ => trivial) rfl (N_of (X_bin o_mod (X_B1 (cr := cI) b_int (X_bin o_add (X_bin o_pow (X_var 5 cI number rfl) (X_i 5)) (X_bin o_mul (X_var 2 cI turn rfl) (X_i 16811)))) (X_i 2147483629)))) (by first | with_reducible rfl | (simp only [Out.bind_assoc, Out.ok_bind]; done) | rfl)) (fun (number : Int) => by exact J_seq (J_eq (J_setS (i := 5) (fun _ _ => trivial) rfl (N_of (X_bin o_mod (X_B1 (cr := cI) b_int (X_bin o_mul (X_var 5 cI number rfl) (X_bin o_add (X_bin o_add (X_bin o_div (X_var 5 cI number rfl) (X_i 1009)) (X_i 69621)) (X_bin o_mul (X_i 31) (X_var 2 cI turn rfl))))) (X_i 2147483587)))) (by first | with_reducible rfl | (simp only [Out.bind_assoc, Out.ok_bind]; done) | rfl)) (fun (number : Int) => by exact J_eq (J_ret0 (fun _ _ => trivial) (N_of (X_bin o_mod (X_B1 (cr := cI) b_int (X_bin o_div (X_var 5 cI number rfl) (X_i 16))) (X_var 3 cI many rfl))) (fun _ _ => rf_rt _ _)) (by first | with_reducible rfl | (simp only [Out.bind_assoc, Out.ok_bind]; done) | rfl)))))))
theorem t_judged (x : D) (y : D) (z : D) (t : D) (weaving : D) : Sim (m_judged [cD x, cD y, cD z, cD t, cD weaving]) (P.judged x y z t weaving) cD := simP (Ps := [.vw (cD x), .vw (cD y), .vw (cD z), .vw (cD t), .vw (cD weaving)]) rfl rfl (by unfold P.judged b_judged; exact J_seq (J_eq (J_expr (fun _ _ => trivial) (X_cl (AE_cons (X_ofL (N_lstn (ca := cD) (NK_cons (N_of (X_var 0 cD x rfl)) (NK_cons (N_of (X_var 1 cD y rfl)) (NK_cons (N_of (X_var 2 cD z rfl)) (NK_cons (N_of (X_var 3 cD t rfl)) (NK_nil))))) (by decide))) (AE_nil)) (fun g => t_check_words g.1))) (by first | with_reducible rfl | (simp only [Out.bind_assoc, Out.ok_bind]; done) | rfl)) (fun _ => by exact J_seq (J_eq (J_expr (fun _ _ => trivial) (X_cl (AE_cons (X_var 4 cD weaving rfl) (AE_nil)) (fun g => t_check_weaving g.1))) (by first | with_reducible rfl | (simp only [Out.bind_assoc, Out.ok_bind]; done) | rfl)) (fun _ => by exact J_eq (J_ret0 (fun _ _ => trivial) (N_of (X_cl (AE_cons (X_ofL (N_lstn (ca := cS) (NK_cons (N_of (X_dn dn_S (X_var 0 cD x rfl))) (NK_cons (N_of (X_dn dn_S (X_var 1 cD y rfl))) (NK_cons (N_of (X_dn dn_S (X_var 2 cD z rfl))) (NK_cons (N_of (X_dn dn_S (X_var 3 cD t rfl))) (NK_nil))))) (by decide))) (AE_cons (X_dn (dn_U dn_S) (X_var 4 cD weaving rfl)) (AE_nil))) (fun g => t_raw_judged g.1 g.2.1))) (fun _ _ => rf_rt _ _)) (by first | with_reducible rfl | (simp only [Out.bind_assoc, Out.ok_bind]; done) | rfl))))
theorem t_joined_quads (one : D) (other : D) : Sim (m_joined_quads [cD one, cD other]) (P.joined_quads one other) (cU cS) := simP (Ps := [.vw (cD one), .vw (cD other), .any, .any]) rfl rfl (by unfold P.joined_quads b_joined_quads; exact J_seq (J_eq (J_expr (fun _ _ => trivial) (X_cl (AE_cons (X_var 0 cD one rfl) (AE_nil)) (fun g => t_check_quad g.1))) (by first | with_reducible rfl | (simp only [Out.bind_assoc, Out.ok_bind]; done) | rfl)) (fun _ => by exact J_seq (J_eq (J_expr (fun _ _ => trivial) (X_cl (AE_cons (X_var 1 cD other rfl) (AE_nil)) (fun g => t_check_quad g.1))) (by first | with_reducible rfl | (simp only [Out.bind_assoc, Out.ok_bind]; done) | rfl)) (fun _ => by exact J_eq (J_ret0 (fun _ _ => trivial) (N_of (X_B1 (cr := (cU cS)) b_tupL (X_ofL (N_lcR (t := fun ((mine, its) : (D × D)) => Out.ok true) (e := fun ((mine, its) : (D × D)) => ((asS mine).bind fun v3 => (asS its).bind fun v4 => catR v3 v4)) (by exact ⟨rfl, rfl, trivial⟩) (I_zipD (X_var 0 cD one rfl) (X_var 1 cD other rfl)) (by exact fun x => G_t rfl rfl (Gs_cons (G_n 2 rfl) (Gs_cons (G_n 3 rfl) (Gs_nil)))) (by exact fun x => .r (.r (.a (.a (.nil))))) (fun ((mine, its) : (D × D)) => TJ_eq (T_yes) (by first | with_reducible rfl | (simp only [Out.bind_assoc, Out.ok_bind]; done) | rfl)) (fun ((mine, its) : (D × D)) => NJ_eq (N_of (X_bin o_catS (X_dn dn_S (X_var 2 cD mine rfl)) (X_dn dn_S (X_var 3 cD its rfl)))) (by first | with_reducible rfl | (simp only [Out.bind_assoc, Out.ok_bind]; done) | rfl)))))) (fun _ _ => rf_rt _ _)) (by first | with_reducible rfl | (simp only [Out.bind_assoc, Out.ok_bind]; done) | rfl))))
theorem t_joined_weavings (one : D) (other : D) : Sim (m_joined_weavings [cD one, cD other]) (P.joined_weavings one other) (cU cS) := simP (Ps := [.vw (cD one), .vw (cD other)]) rfl rfl (by unfold P.joined_weavings b_joined_weavings; exact J_seq (J_eq (J_expr (fun _ _ => trivial) (X_cl (AE_cons (X_var 0 cD one rfl) (AE_nil)) (fun g => t_check_weaving g.1))) (by first | with_reducible rfl | (simp only [Out.bind_assoc, Out.ok_bind]; done) | rfl)) (fun _ => by exact J_seq (J_eq (J_expr (fun _ _ => trivial) (X_cl (AE_cons (X_var 1 cD other rfl) (AE_nil)) (fun g => t_check_weaving g.1))) (by first | with_reducible rfl | (simp only [Out.bind_assoc, Out.ok_bind]; done) | rfl)) (fun _ => by exact J_eq (J_ret0 (fun _ _ => trivial) (N_of (X_bin o_catU (X_dn (dn_U dn_S) (X_var 0 cD one rfl)) (X_dn (dn_U dn_S) (X_var 1 cD other rfl)))) (fun _ _ => rf_rt _ _)) (by first | with_reducible rfl | (simp only [Out.bind_assoc, Out.ok_bind]; done) | rfl))))
theorem t_parts_at (x : D) (y : D) (z : D) (weaving : D) (at_ : D) : Sim (m_parts_at [cD x, cD y, cD z, cD weaving, cD at_]) (P.parts_at x y z weaving at_) (c2 (cU cS) (cU cS)) := simP (Ps := [.vw (cD x), .vw (cD y), .vw (cD z), .vw (cD weaving), .vw (cD at_), .any, .any]) rfl rfl (by unfold P.parts_at b_parts_at; exact J_seq (J_eq (J_expr (fun _ _ => trivial) (X_cl (AE_cons (X_ofL (N_lstn (ca := cD) (NK_cons (N_of (X_var 0 cD x rfl)) (NK_cons (N_of (X_var 1 cD y rfl)) (NK_cons (N_of (X_var 2 cD z rfl)) (NK_nil)))) (by decide))) (AE_nil)) (fun g => t_check_words g.1))) (by first | with_reducible rfl | (simp only [Out.bind_assoc, Out.ok_bind]; done) | rfl)) (fun _ => by exact J_seq (J_eq (J_expr (fun _ _ => trivial) (X_cl (AE_cons (X_var 3 cD weaving rfl) (AE_nil)) (fun g => t_check_weaving g.1))) (by first | with_reducible rfl | (simp only [Out.bind_assoc, Out.ok_bind]; done) | rfl)) (fun _ => by exact J_seq (J_eq (J_unp (fun _ _ => trivial) (X_cl (AE_cons (X_dn dn_S (X_var 0 cD x rfl)) (AE_cons (X_dn dn_S (X_var 1 cD y rfl)) (AE_cons (X_dn dn_S (X_var 2 cD z rfl)) (AE_cons (X_dn (dn_U dn_S) (X_var 3 cD weaving rfl)) (AE_nil))))) (fun g => t_read_off g.1 g.2.1 g.2.2.1 g.2.2.2.1)) (fun x => G_t rfl rfl (Gs_cons (G_n 5 rfl) (Gs_cons (G_n 6 rfl) (Gs_nil))))) (by first | with_reducible rfl | (simp only [Out.bind_assoc, Out.ok_bind]; done) | rfl)) (fun (row, made) => by exact J_guard (fun _ _ => trivial) (TJ_eq (T_not (T_tB (X_cl (AE_cons (X_var 4 cD at_ rfl) (AE_cons (X_i 0) (AE_cons (X_B1 (cr := cI) b_lenD (X_var 3 cD weaving rfl)) (AE_nil)))) (fun g => t_is_within g.1 g.2.1 g.2.2.1)))) (by first | with_reducible rfl | (simp only [Out.bind_assoc, Out.ok_bind]; done) | rfl)) (J_raise (fun _ _ => trivial)) (J_eq (J_ret0 (fun _ _ => trivial) (N_of (X_tup (cr := (c2 (cU cS) (cU cS))) (π := fun g => (g.1, g.2.1)) (n := 2) (AE_cons (X_cl (AE_cons (X_sl s_S (X_var 5 cS row rfl) (PJ_none) (PJ_some (X_dn dn_I (X_var 4 cD at_ rfl)))) (AE_cons (X_dn (dn_U dn_S) (X_slD (X_var 3 cD weaving rfl) (PJ_none) (PJ_some (X_dn dn_I (X_var 4 cD at_ rfl))))) (AE_nil))) (fun g => t_quad_of g.1 g.2.1)) (AE_cons (X_cl (AE_cons (X_sl s_S (X_var 5 cS row rfl) (PJ_some (X_dn dn_I (X_var 4 cD at_ rfl))) (PJ_none)) (AE_cons (X_dn (dn_U dn_S) (X_slD (X_var 3 cD weaving rfl) (PJ_some (X_dn dn_I (X_var 4 cD at_ rfl))) (PJ_none))) (AE_nil))) (fun g => t_quad_of g.1 g.2.1)) (AE_nil))) (fun _ => rfl) (by decide) (fun _ => rfl))) (fun _ _ => rf_rt _ _)) (by first | with_reducible rfl | (simp only [Out.bind_assoc, Out.ok_bind]; done) | rfl))))))
theorem t__law_quad (script : (List Int)) (place : Int) (turn : Int) (most : Int) : Sim (m__law_quad [(cF cI) script, cI place, cI turn, cI most]) (P.w_quad script place turn most) (c5 cS cS cS cS (cU cS)) := simP (Ps := [.vw ((cF cI) script), .vw (cI place), .vw (cI turn), .vw (cI most), .any, .any, .any, .any, .any, .any, .any]) rfl rfl (by unfold P.w_quad b__law_quad; exact J_seq (J_eq (J_setMO (i := 4) (fun _ _ => trivial) rfl (NJ_eq (N_disp (ck := kS) (ca := cS) (AE_cons (X_s [] (by decide +kernel)) (AE_cons (X_s [] (by decide +kernel)) (AE_cons (X_s [] (by decide +kernel)) (AE_cons (X_s [] (by decide +kernel)) (AE_nil))))) (π := fun g => ([([120], g.1), ([121], g.2.1), ([122], g.2.2.1), ([116], g.2.2.2.1)] : (List ((List Nat) × (List Nat))))) (fun _ => rfl) (fun _ => rfl) (by decide +kernel) (by decide)) (by first | with_reducible rfl | (simp only [Out.bind_assoc, Out.ok_bind]; done) | rfl))) (by first | with_reducible rfl | (simp only [Out.bind_assoc, Out.ok_bind]; done) | rfl)) (fun (words : (List ((List Nat) × (List Nat)))) => by exact J_seq (J_eq (J_setLO (i := 5) (fun _ _ => trivial) rfl (N_lstn (ca := cS) (NK_nil) (by decide))) (by first | with_reducible rfl | (simp only [Out.bind_assoc, Out.ok_bind]; done) | rfl)) (fun (weaving : (List (List Nat))) => by exact J_seq (J_eq (J_setS (i := 6) (fun _ _ => trivial) rfl (N_of (X_bin o_ixL (X_ofL (N_lstn (ca := cI) (NK_cons (N_of (X_i 1)) (NK_cons (N_of (X_i 2)) (NK_cons (N_of (X_i 3)) (NK_cons (N_of (X_i 26)) (NK_nil))))) (by decide))) (X_cl (AE_cons (X_var 0 (cF cI) script rfl) (AE_cons (X_var 1 cI place rfl) (AE_cons (X_var 2 cI turn rfl) (AE_cons (X_i 4) (AE_nil))))) (fun g => t__law_draw g.1 g.2.1 g.2.2.1 g.2.2.2.1))))) (by first | with_reducible rfl | (simp only [Out.bind_assoc, Out.ok_bind]; done) | rfl)) (fun (wide : Int) => by exact J_seq (J_eq (J_setS (i := 7) (fun _ _ => trivial) rfl (N_of (X_cl (AE_cons (X_var 0 (cF cI) script rfl) (AE_cons (X_var 1 cI place rfl) (AE_cons (X_bin o_add (X_var 2 cI turn rfl) (X_i 1)) (AE_cons (X_i 26) (AE_nil))))) (fun g => t__law_draw g.1 g.2.1 g.2.2.1 g.2.2.2.1)))) (by first | with_reducible rfl | (simp only [Out.bind_assoc, Out.ok_bind]; done) | rfl)) (fun (start : Int) => by exact J_seq (J_eq (J_forS (s0 := (words, weaving)) (b := fun (k : Int) ((words, weaving) : (List ((List Nat) × (List Nat))) × (List (List Nat))) => ((((mulR (2 : Int) k).bind fun v3 => Out.ok (((turn + (3 : Int)) + v3))).bind fun v4 => P.w_draw_2 script place v4 (4 : Int)).bind fun v5 => atR ([([120, 121] : List Nat), ([120, 122] : List Nat), ([116, 121] : List Nat), ([116, 122] : List Nat)] : List (List Nat)) v5).bind fun (move : (List Nat)) => (((((mulR (2 : Int) k).bind fun v6 => Out.ok (((turn + (4 : Int)) + v6))).bind fun v7 => P.w_draw_2 script place v7 wide).bind fun v8 => Out.ok ((start + v8))).bind fun v9 => P.w_letter v9).bind fun (letter : (List Nat)) => (appR weaving move).bind fun weaving => ((((sgR move (0 : Int)).bind fun v10 => getR words v10).bind fun v11 => catR v11 letter).bind fun v12 => (sgR move (0 : Int)).bind fun v13 => putR words v13 v12).bind fun words => ((((sgR move (1 : Int)).bind fun v14 => getR words v14).bind fun v15 => catR v15 letter).bind fun v16 => (sgR move (1 : Int)).bind fun v17 => putR words v17 v16).bind fun words => Out.ok (words, weaving)) (Bs := fun (ix_ : Int) (st_ : (List ((List Nat) × (List Nat))) × (List (List Nat))) => [.vw ((cF cI) script), .vw (cI place), .vw (cI turn), .vw (cI most), .own ((oM kS cS) st_.1), .own (oL cS st_.2), .vw (cI wide), .vw (cI start), .vw (cI ix_), .any, .any]) (fun (st_ : (List ((List Nat) × (List Nat))) × (List (List Nat))) => [.vw ((cF cI) script), .vw (cI place), .vw (cI turn), .vw (cI most), .own ((oM kS cS) st_.1), .own (oL cS st_.2), .vw (cI wide), .vw (cI start), .any, .any, .any]) (fun _ _ => trivial) (I_r1 (X_cl (AE_cons (X_var 0 (cF cI) script rfl) (AE_cons (X_var 1 cI place rfl) (AE_cons (X_bin o_add (X_var 2 cI turn rfl) (X_i 2)) (AE_cons (X_bin o_add (X_var 3 cI most rfl) (X_i 1)) (AE_nil))))) (fun g => t__law_draw g.1 g.2.1 g.2.2.1 g.2.2.2.1))) (.r (.r (.r (.r (.r (.r (.r (.r (.r (.r (.r (.nil)))))))))))) (fun x s => G_n 8 rfl) (fun (k : Int) ((words, weaving) : (List ((List Nat) × (List Nat))) × (List (List Nat))) => by exact J_seq (J_eq (J_setS (i := 9) (fun _ _ => trivial) rfl (N_of (X_bin o_ixL (X_ofL (N_lstn (ca := cS) (NK_cons (N_of (X_s [120, 121] (by decide +kernel))) (NK_cons (N_of (X_s [120, 122] (by decide +kernel))) (NK_cons (N_of (X_s [116, 121] (by decide +kernel))) (NK_cons (N_of (X_s [116, 122] (by decide +kernel))) (NK_nil))))) (by decide))) (X_cl (AE_cons (X_var 0 (cF cI) script rfl) (AE_cons (X_var 1 cI place rfl) (AE_cons (X_bin o_add (X_bin o_add (X_var 2 cI turn rfl) (X_i 3)) (X_bin o_mul (X_i 2) (X_var 8 cI k rfl))) (AE_cons (X_i 4) (AE_nil))))) (fun g => t__law_draw g.1 g.2.1 g.2.2.1 g.2.2.2.1))))) (by first | with_reducible rfl | (simp only [Out.bind_assoc, Out.ok_bind]; done) | rfl)) (fun (move : (List Nat)) => by exact J_seq (J_eq (J_setS (i := 10) (fun _ _ => trivial) rfl (N_of (X_cl (AE_cons (X_bin o_add (X_var 7 cI start rfl) (X_cl (AE_cons (X_var 0 (cF cI) script rfl) (AE_cons (X_var 1 cI place rfl) (AE_cons (X_bin o_add (X_bin o_add (X_var 2 cI turn rfl) (X_i 4)) (X_bin o_mul (X_i 2) (X_var 8 cI k rfl))) (AE_cons (X_var 6 cI wide rfl) (AE_nil))))) (fun g => t__law_draw g.1 g.2.1 g.2.2.1 g.2.2.2.1))) (AE_nil)) (fun g => t__law_letter g.1)))) (by first | with_reducible rfl | (simp only [Out.bind_assoc, Out.ok_bind]; done) | rfl)) (fun (letter : (List Nat)) => by exact J_seq (J_eq (J_app (i := 5) (fun _ _ => trivial) rfl (N_of (X_var 9 cS move rfl))) (by first | with_reducible rfl | (simp only [Out.bind_assoc, Out.ok_bind]; done) | rfl)) (fun weaving => by exact J_seq (J_eq (J_dput (i := 4) keyS (fun _ _ => trivial) rfl (N_of (X_bin o_catS (X_bin (o_dget keyS) (X_own 4 (cM kS cS) words rfl (oM_top _)) (X_bin o_ixS (X_var 9 cS move rfl) (X_i 0))) (X_var 10 cS letter rfl))) (X_bin o_ixS (X_var 9 cS move rfl) (X_i 0))) (by first | with_reducible rfl | (simp only [Out.bind_assoc, Out.ok_bind]; done) | rfl)) (fun words => by exact J_last (J_seq (J_eq (J_dput (i := 4) keyS (fun _ _ => trivial) rfl (N_of (X_bin o_catS (X_bin (o_dget keyS) (X_own 4 (cM kS cS) words rfl (oM_top _)) (X_bin o_ixS (X_var 9 cS move rfl) (X_i 1))) (X_var 10 cS letter rfl))) (X_bin o_ixS (X_var 9 cS move rfl) (X_i 1))) (by first | with_reducible rfl | (simp only [Out.bind_assoc, Out.ok_bind]; done) | rfl)) (fun words => by exact J_nil (a := (words, weaving)) (fun _ h => rc_nx (LeS.er (.r (.r (.r (.r (.r (.r (.r (.r (.a (.a (.a (.nil)))))))))))) h)))))))))) (by first | with_reducible rfl | (simp only [Out.bind_assoc, Out.ok_bind]; done) | rfl)) (fun (words, weaving) => by exact J_eq (J_ret0 (fun _ _ => trivial) (N_of (X_tup (cr := (c5 cS cS cS cS (cU cS))) (π := fun g => (g.1, g.2.1, g.2.2.1, g.2.2.2.1, g.2.2.2.2.1)) (n := 5) (AE_cons (X_bin (o_dget keyS) (X_own 4 (cM kS cS) words rfl (oM_top _)) (X_s [120] (by decide +kernel))) (AE_cons (X_bin (o_dget keyS) (X_own 4 (cM kS cS) words rfl (oM_top _)) (X_s [121] (by decide +kernel))) (AE_cons (X_bin (o_dget keyS) (X_own 4 (cM kS cS) words rfl (oM_top _)) (X_s [122] (by decide +kernel))) (AE_cons (X_bin (o_dget keyS) (X_own 4 (cM kS cS) words rfl (oM_top _)) (X_s [116] (by decide +kernel))) (AE_cons (X_B1 (cr := (cU cS)) b_tupL (X_own 5 (cL cS) weaving rfl (oL_top _ _))) (AE_nil)))))) (fun _ => rfl) (by decide) (fun _ => rfl))) (fun _ _ => rf_rt _ _)) (by first | with_reducible rfl | (simp only [Out.bind_assoc, Out.ok_bind]; done) | rfl)))))))
theorem t__law_refused (way : Int) (asked : (List D)) : Sim (m__law_refused [cI way, (cL cD) asked]) (P.w_refused_2 way asked) cS := simP (Ps := [.vw (cI way), .vw ((cL cD) asked), .any]) rfl rfl (by unfold P.w_refused_2 b__law_refused; exact J_seq (J_eq (J_setS (i := 2) (fun _ _ => trivial) rfl (N_of (X_s [] (by decide +kernel)))) (by first | with_reducible rfl | (simp only [Out.bind_assoc, Out.ok_bind]; done) | rfl)) (fun (told : (List Nat)) => by exact J_seq (J_try (Qs := [.vw (cI way), .vw ((cL cD) asked), .vw (cS told)]) (R := Rn (fun (st_ : (List Nat)) => [.vw (cI way), .vw ((cL cD) asked), .vw (cS st_)])) (fun _ _ => trivial) (J_ifp (fun _ h => LeS.er (.r (.r (.r (.nil)))) h) (TJ_eq (T_v (X_bin (o_eq Fai.I) (X_var 0 cI way rfl) (X_i 0))) (by first | with_reducible rfl | (simp only [Out.bind_assoc, Out.ok_bind]; done) | rfl)) (J_last (J_seq (J_eq (J_expr (fun _ h => LeS.er (.r (.r (.r (.nil)))) h) (X_cl (AE_cons (X_bin o_ixL (X_var 1 (cL cD) asked rfl) (X_i 0)) (AE_cons (X_bin o_ixL (X_var 1 (cL cD) asked rfl) (X_i 1)) (AE_nil))) (fun g => t_joined_quads g.1 g.2.1))) (by first | with_reducible rfl | (simp only [Out.bind_assoc, Out.ok_bind]; done) | rfl)) (fun _ => by exact J_nilN (a := told) (.r (.r (.r (.nil))))))) (J_ifp (fun _ h => LeS.er (.r (.r (.r (.nil)))) h) (TJ_eq (T_v (X_bin (o_eq Fai.I) (X_var 0 cI way rfl) (X_i 1))) (by first | with_reducible rfl | (simp only [Out.bind_assoc, Out.ok_bind]; done) | rfl)) (J_last (J_seq (J_eq (J_expr (fun _ h => LeS.er (.r (.r (.r (.nil)))) h) (X_cl (AE_cons (X_bin o_ixL (X_var 1 (cL cD) asked rfl) (X_i 0)) (AE_cons (X_bin o_ixL (X_var 1 (cL cD) asked rfl) (X_i 1)) (AE_nil))) (fun g => t_joined_weavings g.1 g.2.1))) (by first | with_reducible rfl | (simp only [Out.bind_assoc, Out.ok_bind]; done) | rfl)) (fun _ => by exact J_nilN (a := told) (.r (.r (.r (.nil))))))) (J_last (J_seq (J_eq (J_expr (fun _ h => LeS.er (.r (.r (.r (.nil)))) h) (X_cl (AE_cons (X_bin o_ixL (X_var 1 (cL cD) asked rfl) (X_i 0)) (AE_cons (X_bin o_ixL (X_var 1 (cL cD) asked rfl) (X_i 1)) (AE_cons (X_bin o_ixL (X_var 1 (cL cD) asked rfl) (X_i 2)) (AE_cons (X_bin o_ixL (X_var 1 (cL cD) asked rfl) (X_i 3)) (AE_cons (X_bin o_ixL (X_var 1 (cL cD) asked rfl) (X_i 4)) (AE_nil)))))) (fun g => t_parts_at g.1 g.2.1 g.2.2.1 g.2.2.2.1 g.2.2.2.2.1))) (by first | with_reducible rfl | (simp only [Out.bind_assoc, Out.ok_bind]; done) | rfl)) (fun _ => by exact J_nilN (a := told) (.r (.r (.r (.nil))))))))) (by decide) (.cons (by decide) (J_last (J_seq (J_eq (J_setS (i := 2) (fun _ _ => trivial) rfl (N_of (X_s [113, 117, 97, 100] (by decide +kernel)))) (by first | with_reducible rfl | (simp only [Out.bind_assoc, Out.ok_bind]; done) | rfl)) (fun (told : (List Nat)) => by exact J_nilN (a := told) (.r (.r (.r (.nil))))))) (.cons (by decide) (J_last (J_seq (J_eq (J_setS (i := 2) (fun _ _ => trivial) rfl (N_of (X_s [119, 101, 97, 118, 105, 110, 103] (by decide +kernel)))) (by first | with_reducible rfl | (simp only [Out.bind_assoc, Out.ok_bind]; done) | rfl)) (fun (told : (List Nat)) => by exact J_nilN (a := told) (.r (.r (.r (.nil))))))) (.cons (by decide) (J_last (J_seq (J_eq (J_setS (i := 2) (fun _ _ => trivial) rfl (N_of (X_s [119, 111, 114, 100] (by decide +kernel)))) (by first | with_reducible rfl | (simp only [Out.bind_assoc, Out.ok_bind]; done) | rfl)) (fun (told : (List Nat)) => by exact J_nilN (a := told) (.r (.r (.r (.nil))))))) (.cons (by decide) (J_last (J_seq (J_eq (J_setS (i := 2) (fun _ _ => trivial) rfl (N_of (X_s [119, 111, 118, 101, 110] (by decide +kernel)))) (by first | with_reducible rfl | (simp only [Out.bind_assoc, Out.ok_bind]; done) | rfl)) (fun (told : (List Nat)) => by exact J_nilN (a := told) (.r (.r (.r (.nil))))))) (.cons (by decide) (J_last (J_seq (J_eq (J_setS (i := 2) (fun _ _ => trivial) rfl (N_of (X_s [110, 117, 109, 98, 101, 114] (by decide +kernel)))) (by first | with_reducible rfl | (simp only [Out.bind_assoc, Out.ok_bind]; done) | rfl)) (fun (told : (List Nat)) => by exact J_nilN (a := told) (.r (.r (.r (.nil))))))) (.nil))))))) (fun told => by exact J_eq (J_ret0 (fun _ _ => trivial) (N_of (X_var 2 cS told rfl)) (fun _ _ => rf_rt _ _)) (by first | with_reducible rfl | (simp only [Out.bind_assoc, Out.ok_bind]; done) | rfl))))
theorem t__law_refusals (script : (List Int)) (place : Int) (words : (List (List Nat))) (weaving : (List (List Nat))) : Sim (m__law_refusals [(cF cI) script, cI place, (cU cS) words, (cU cS) weaving]) (P.w_refusals script place words weaving) cB := simP (Ps := [.vw ((cF cI) script), .vw (cI place), .vw ((cU cS) words), .vw ((cU cS) weaving), .any, .any, .any, .any, .any, .any, .any, .any, .any, .any]) rfl rfl (by unfold P.w_refusals b__law_refusals; exact J_seq (J_eq (J_setS (i := 4) (fun _ _ => trivial) rfl (N_of (X_bin o_ixL (X_ofL (N_lstn (ca := cD) (NK_cons (N_of (X_dyn (X_n))) (NK_cons (N_of (X_dyn (X_s [120, 121] (by decide +kernel)))) (NK_cons (N_of (X_dyn (X_ofL (N_B1 b_lstU (X_var 3 (cU cS) weaving rfl))))) (NK_cons (N_of (X_dyn (X_tup (cr := (c1 cS)) (π := fun g => (g.1)) (n := 1) (AE_cons (X_s [121, 120] (by decide +kernel)) (AE_nil)) (fun _ => rfl) (by decide) (fun _ => rfl)))) (NK_cons (N_of (X_dyn (X_tup (cr := (c1 cS)) (π := fun g => (g.1)) (n := 1) (AE_cons (X_s [120, 116] (by decide +kernel)) (AE_nil)) (fun _ => rfl) (by decide) (fun _ => rfl)))) (NK_cons (N_of (X_dyn (X_tup (cr := (c1 cI)) (π := fun g => (g.1)) (n := 1) (AE_cons (X_i 1) (AE_nil)) (fun _ => rfl) (by decide) (fun _ => rfl)))) (NK_nil))))))) (by decide))) (X_cl (AE_cons (X_var 0 (cF cI) script rfl) (AE_cons (X_var 1 cI place rfl) (AE_cons (X_i 61) (AE_cons (X_i 6) (AE_nil))))) (fun g => t__law_draw g.1 g.2.1 g.2.2.1 g.2.2.2.1))))) (by first | with_reducible rfl | (simp only [Out.bind_assoc, Out.ok_bind]; done) | rfl)) (fun (none_ : D) => by exact J_seq (J_eq (J_setLV (i := 5) (fun _ _ => trivial) rfl (N_lstn (ca := cD) (NK_cons (N_of (X_dyn (X_n))) (NK_cons (N_of (X_dyn (X_sl s_U (X_var 2 (cU cS) words rfl) (PJ_none) (PJ_some (X_i 3))))) (NK_cons (N_of (X_dyn (X_ofL (N_B1 b_lstU (X_var 2 (cU cS) words rfl))))) (NK_cons (N_of (X_dyn (X_bin o_catU (X_var 2 (cU cS) words rfl) (X_tup (cr := (cU cS)) (π := fun g => [g.1]) (n := 1) (AE_cons (X_s [] (by decide +kernel)) (AE_nil)) (fun _ => rfl) (by decide) (fun _ => rfl))))) (NK_cons (N_of (X_dyn (X_tup (cr := (c4 cS cS cS cS)) (π := fun g => (g.1, g.2.1, g.2.2.1, g.2.2.2.1)) (n := 4) (AE_cons (X_s [65] (by decide +kernel)) (AE_cons (X_s [] (by decide +kernel)) (AE_cons (X_s [] (by decide +kernel)) (AE_cons (X_s [] (by decide +kernel)) (AE_nil))))) (fun _ => rfl) (by decide) (fun _ => rfl)))) (NK_cons (N_of (X_dyn (X_tup (cr := (c4 cN cS cS cS)) (π := fun g => (g.1, g.2.1, g.2.2.1, g.2.2.2.1)) (n := 4) (AE_cons (X_n) (AE_cons (X_s [] (by decide +kernel)) (AE_cons (X_s [] (by decide +kernel)) (AE_cons (X_s [] (by decide +kernel)) (AE_nil))))) (fun _ => rfl) (by decide) (fun _ => rfl)))) (NK_nil))))))) (by decide))) (by first | with_reducible rfl | (simp only [Out.bind_assoc, Out.ok_bind]; done) | rfl)) (fun (quad : (List D)) => by exact J_seq (J_eq (J_setS (i := 5) (fun _ _ => trivial) rfl (N_of (X_bin o_ixL (X_var 5 (cL cD) quad rfl) (X_cl (AE_cons (X_var 0 (cF cI) script rfl) (AE_cons (X_var 1 cI place rfl) (AE_cons (X_i 62) (AE_cons (X_i 6) (AE_nil))))) (fun g => t__law_draw g.1 g.2.1 g.2.2.1 g.2.2.2.1))))) (by first | with_reducible rfl | (simp only [Out.bind_assoc, Out.ok_bind]; done) | rfl)) (fun (quad : D) => by exact J_seq (J_eq (J_setS (i := 6) (fun _ _ => trivial) rfl (N_of (X_bin o_ixL (X_ofL (N_lstn (ca := cD) (NK_cons (N_of (X_dyn (X_un u_neg (X_i 1)))) (NK_cons (N_of (X_dyn (X_bin o_add (X_B1 (cr := cI) b_lenU (X_var 3 (cU cS) weaving rfl)) (X_i 1)))) (NK_cons (N_of (X_dyn (X_n))) (NK_cons (N_of (X_dyn (X_b true))) (NK_cons (N_of (X_dyn (X_s [48] (by decide +kernel)))) (NK_nil)))))) (by decide))) (X_cl (AE_cons (X_var 0 (cF cI) script rfl) (AE_cons (X_var 1 cI place rfl) (AE_cons (X_i 63) (AE_cons (X_i 5) (AE_nil))))) (fun g => t__law_draw g.1 g.2.1 g.2.2.1 g.2.2.2.1))))) (by first | with_reducible rfl | (simp only [Out.bind_assoc, Out.ok_bind]; done) | rfl)) (fun (odd : D) => by exact J_seq (J_eq (J_setS (i := 7) (fun _ _ => trivial) rfl (N_of (X_bin o_ixL (X_ofL (N_lstn (ca := cD) (NK_cons (N_of (X_dyn (X_n))) (NK_cons (N_of (X_dyn (X_s [65] (by decide +kernel)))) (NK_cons (N_of (X_dyn (X_s [97, 32, 98] (by decide +kernel)))) (NK_cons (N_of (X_dyn (X_i 7))) (NK_nil))))) (by decide))) (X_cl (AE_cons (X_var 0 (cF cI) script rfl) (AE_cons (X_var 1 cI place rfl) (AE_cons (X_i 64) (AE_cons (X_i 4) (AE_nil))))) (fun g => t__law_draw g.1 g.2.1 g.2.2.1 g.2.2.2.1))))) (by first | with_reducible rfl | (simp only [Out.bind_assoc, Out.ok_bind]; done) | rfl)) (fun (bad : D) => by exact J_seq (J_eq (J_unpG (n := 4) (fun _ _ => trivial) (X_var 2 (cU cS) words rfl) (sqU cS) (unp4_pi cS) (fun p => Gs_cons (G_n 8 rfl) (Gs_cons (G_n 9 rfl) (Gs_cons (G_n 10 rfl) (Gs_cons (G_n 11 rfl) (Gs_nil)))))) (by first | with_reducible rfl | (simp only [Out.bind_assoc, Out.ok_bind]; done) | rfl)) (fun (x, y, z, t) => by exact J_guard (fun _ _ => trivial) (TJ_eq (T_or (T_v (X_bin (o_ne Fai.S) (X_cl (AE_cons (X_i 0) (AE_cons (X_ofL (N_lstn (ca := cD) (NK_cons (N_of (X_var 5 cD quad rfl)) (NK_cons (N_of (X_dyn (X_var 2 (cU cS) words rfl))) (NK_nil))) (by decide))) (AE_nil))) (fun g => t__law_refused g.1 g.2.1)) (X_s [113, 117, 97, 100] (by decide +kernel)))) (T_v (X_bin (o_ne Fai.S) (X_cl (AE_cons (X_i 0) (AE_cons (X_ofL (N_lstn (ca := cD) (NK_cons (N_of (X_dyn (X_var 2 (cU cS) words rfl))) (NK_cons (N_of (X_var 5 cD quad rfl)) (NK_nil))) (by decide))) (AE_nil))) (fun g => t__law_refused g.1 g.2.1)) (X_s [113, 117, 97, 100] (by decide +kernel))))) (by first | with_reducible rfl | (simp only [Out.bind_assoc, Out.ok_bind]; done) | rfl)) (J_eq (J_ret0 (fun _ _ => trivial) (N_of (X_b false)) (fun _ _ => rx_rt (rf_rt _ _))) (by first | with_reducible rfl | (simp only [Out.bind_assoc, Out.ok_bind]; done) | rfl)) (J_guard (fun _ _ => trivial) (TJ_eq (T_or (T_v (X_bin (o_ne Fai.S) (X_cl (AE_cons (X_i 1) (AE_cons (X_ofL (N_lstn (ca := cD) (NK_cons (N_of (X_var 4 cD none_ rfl)) (NK_cons (N_of (X_dyn (X_var 3 (cU cS) weaving rfl))) (NK_nil))) (by decide))) (AE_nil))) (fun g => t__law_refused g.1 g.2.1)) (X_s [119, 101, 97, 118, 105, 110, 103] (by decide +kernel)))) (T_v (X_bin (o_ne Fai.S) (X_cl (AE_cons (X_i 1) (AE_cons (X_ofL (N_lstn (ca := cD) (NK_cons (N_of (X_dyn (X_var 3 (cU cS) weaving rfl))) (NK_cons (N_of (X_var 4 cD none_ rfl)) (NK_nil))) (by decide))) (AE_nil))) (fun g => t__law_refused g.1 g.2.1)) (X_s [119, 101, 97, 118, 105, 110, 103] (by decide +kernel))))) (by first | with_reducible rfl | (simp only [Out.bind_assoc, Out.ok_bind]; done) | rfl)) (J_eq (J_ret0 (fun _ _ => trivial) (N_of (X_b false)) (fun _ _ => rx_rt (rf_rt _ _))) (by first | with_reducible rfl | (simp only [Out.bind_assoc, Out.ok_bind]; done) | rfl)) (J_seq (J_eq (J_setS (i := 12) (fun _ _ => trivial) rfl (N_of (X_bin o_catU (X_var 3 (cU cS) weaving rfl) (X_tup (cr := (cU cS)) (π := fun g => [g.1]) (n := 1) (AE_cons (X_s [120, 121] (by decide +kernel)) (AE_nil)) (fun _ => rfl) (by decide) (fun _ => rfl))))) (by first | with_reducible rfl | (simp only [Out.bind_assoc, Out.ok_bind]; done) | rfl)) (fun (more : (List (List Nat))) => by exact J_guard (fun _ _ => trivial) (TJ_eq (T_or (T_v (X_bin (o_ne Fai.S) (X_cl (AE_cons (X_i 2) (AE_cons (X_ofL (N_lstn (ca := cD) (NK_cons (N_of (X_dyn (X_var 8 cS x rfl))) (NK_cons (N_of (X_dyn (X_var 9 cS y rfl))) (NK_cons (N_of (X_dyn (X_var 10 cS z rfl))) (NK_cons (N_of (X_dyn (X_var 3 (cU cS) weaving rfl))) (NK_cons (N_of (X_var 6 cD odd rfl)) (NK_nil)))))) (by decide))) (AE_nil))) (fun g => t__law_refused g.1 g.2.1)) (X_s [110, 117, 109, 98, 101, 114] (by decide +kernel)))) (T_v (X_bin (o_ne Fai.S) (X_cl (AE_cons (X_i 2) (AE_cons (X_ofL (N_lstn (ca := cD) (NK_cons (N_of (X_dyn (X_var 8 cS x rfl))) (NK_cons (N_of (X_dyn (X_var 9 cS y rfl))) (NK_cons (N_of (X_dyn (X_var 10 cS z rfl))) (NK_cons (N_of (X_dyn (X_var 12 (cU cS) more rfl))) (NK_cons (N_of (X_var 6 cD odd rfl)) (NK_nil)))))) (by decide))) (AE_nil))) (fun g => t__law_refused g.1 g.2.1)) (X_s [119, 111, 118, 101, 110] (by decide +kernel))))) (by first | with_reducible rfl | (simp only [Out.bind_assoc, Out.ok_bind]; done) | rfl)) (J_eq (J_ret0 (fun _ _ => trivial) (N_of (X_b false)) (fun _ _ => rx_rt (rf_rt _ _))) (by first | with_reducible rfl | (simp only [Out.bind_assoc, Out.ok_bind]; done) | rfl)) (J_guard (fun _ _ => trivial) (TJ_eq (T_v (X_bin (o_ne Fai.S) (X_cl (AE_cons (X_i 2) (AE_cons (X_ofL (N_lstn (ca := cD) (NK_cons (N_of (X_dyn (X_var 8 cS x rfl))) (NK_cons (N_of (X_dyn (X_var 9 cS y rfl))) (NK_cons (N_of (X_dyn (X_var 10 cS z rfl))) (NK_cons (N_of (X_var 4 cD none_ rfl)) (NK_cons (N_of (X_var 6 cD odd rfl)) (NK_nil)))))) (by decide))) (AE_nil))) (fun g => t__law_refused g.1 g.2.1)) (X_s [119, 101, 97, 118, 105, 110, 103] (by decide +kernel)))) (by first | with_reducible rfl | (simp only [Out.bind_assoc, Out.ok_bind]; done) | rfl)) (J_eq (J_ret0 (fun _ _ => trivial) (N_of (X_b false)) (fun _ _ => rx_rt (rf_rt _ _))) (by first | with_reducible rfl | (simp only [Out.bind_assoc, Out.ok_bind]; done) | rfl)) (J_seq (J_eq (J_setLO (i := 13) (fun _ _ => trivial) rfl (N_lstn (ca := cD) (NK_cons (N_of (X_dyn (X_var 8 cS x rfl))) (NK_cons (N_of (X_dyn (X_var 9 cS y rfl))) (NK_cons (N_of (X_dyn (X_var 10 cS z rfl))) (NK_cons (N_of (X_var 4 cD none_ rfl)) (NK_cons (N_of (X_var 6 cD odd rfl)) (NK_nil)))))) (by decide))) (by first | with_reducible rfl | (simp only [Out.bind_assoc, Out.ok_bind]; done) | rfl)) (fun (asked : (List D)) => by exact J_seq (J_eq (J_setIx (i := 13) (fun _ _ => trivial) rfl (N_of (X_var 7 cD bad rfl)) (X_cl (AE_cons (X_var 0 (cF cI) script rfl) (AE_cons (X_var 1 cI place rfl) (AE_cons (X_i 65) (AE_cons (X_i 3) (AE_nil))))) (fun g => t__law_draw g.1 g.2.1 g.2.2.1 g.2.2.2.1))) (by first | with_reducible rfl | (simp only [Out.bind_assoc, Out.ok_bind]; done) | rfl)) (fun asked => by exact J_le (Qs := [.vw ((cF cI) script), .vw (cI place), .vw ((cU cS) words), .vw ((cU cS) weaving), .vw (cD none_), .vw (cD quad), .vw (cD odd), .vw (cD bad), .vw (cS x), .vw (cS y), .vw (cS z), .vw (cS t), .vw ((cU cS) more), .vw ((cL cD) asked)]) (.r (.r (.r (.r (.r (.r (.r (.r (.r (.r (.r (.r (.r (.v (oL_top _ _) (.nil))))))))))))))) (J_eq (J_ret0 (fun _ _ => trivial) (N_of (X_bin (o_eq Fai.S) (X_cl (AE_cons (X_i 2) (AE_cons (X_var 13 (cL cD) asked rfl) (AE_nil))) (fun g => t__law_refused g.1 g.2.1)) (X_s [119, 111, 114, 100] (by decide +kernel)))) (fun _ _ => rf_rt _ _)) (by first | with_reducible rfl | (simp only [Out.bind_assoc, Out.ok_bind]; done) | rfl))))))))))))))))
theorem t__law_right (script : (List Int)) (place : Int) : Sim (m__law_right [(cF cI) script, cI place]) (P.w_right script place) cB := simP (Ps := [.vw ((cF cI) script), .vw (cI place), .any, .any, .any, .any, .any, .any, .any, .any, .any, .any, .any]) rfl rfl (by unfold P.w_right b__law_right; exact J_seq (J_eq (J_setS (i := 2) (fun _ _ => trivial) rfl (N_of (X_cl (AE_cons (X_var 0 (cF cI) script rfl) (AE_cons (X_var 1 cI place rfl) (AE_cons (X_i 0) (AE_cons (X_i 10) (AE_nil))))) (fun g => t__law_quad g.1 g.2.1 g.2.2.1 g.2.2.2.1)))) (by first | with_reducible rfl | (simp only [Out.bind_assoc, Out.ok_bind]; done) | rfl)) (fun (one : ((List Nat) × (List Nat) × (List Nat) × (List Nat) × (List (List Nat)))) => by exact J_seq (J_eq (J_setS (i := 3) (fun _ _ => trivial) rfl (N_of (X_cl (AE_cons (X_var 0 (cF cI) script rfl) (AE_cons (X_var 1 cI place rfl) (AE_cons (X_i 30) (AE_cons (X_i 10) (AE_nil))))) (fun g => t__law_quad g.1 g.2.1 g.2.2.1 g.2.2.2.1)))) (by first | with_reducible rfl | (simp only [Out.bind_assoc, Out.ok_bind]; done) | rfl)) (fun (other : ((List Nat) × (List Nat) × (List Nat) × (List Nat) × (List (List Nat)))) => by exact J_seq (J_eq (J_setS (i := 4) (fun _ _ => trivial) rfl (N_of (X_cl (AE_cons (X_dyn (X_slT (cr := (c4 cS cS cS cS)) (π := fun p => (p.1, p.2.1, p.2.2.1, p.2.2.2.1)) (X_var 2 (c5 cS cS cS cS (cU cS)) one rfl) (PJ_none) (PJ_some (X_i 4)) (fun _ => rfl))) (AE_cons (X_dyn (X_slT (cr := (c4 cS cS cS cS)) (π := fun p => (p.1, p.2.1, p.2.2.1, p.2.2.2.1)) (X_var 3 (c5 cS cS cS cS (cU cS)) other rfl) (PJ_none) (PJ_some (X_i 4)) (fun _ => rfl))) (AE_nil))) (fun g => t_joined_quads g.1 g.2.1)))) (by first | with_reducible rfl | (simp only [Out.bind_assoc, Out.ok_bind]; done) | rfl)) (fun (words : (List (List Nat))) => by exact J_seq (J_eq (J_setS (i := 5) (fun _ _ => trivial) rfl (N_of (X_cl (AE_cons (X_dyn (X_prj (cr := (cU cS)) (π := fun p => p.2.2.2.2) (X_var 2 (c5 cS cS cS cS (cU cS)) one rfl) (fun _ => rfl))) (AE_cons (X_dyn (X_prj (cr := (cU cS)) (π := fun p => p.2.2.2.2) (X_var 3 (c5 cS cS cS cS (cU cS)) other rfl) (fun _ => rfl))) (AE_nil))) (fun g => t_joined_weavings g.1 g.2.1)))) (by first | with_reducible rfl | (simp only [Out.bind_assoc, Out.ok_bind]; done) | rfl)) (fun (weaving : (List (List Nat))) => by exact J_guard (fun _ _ => trivial) (TJ_eq (T_or (T_not (T_tB (X_isinst (X_dyn (X_var 4 (cU cS) words rfl))))) (T_v (X_bin (o_ne (Fai.U Fai.S)) (X_var 4 (cU cS) words rfl) (X_B1 (cr := (cU cS)) b_tupL (X_ofL (N_lcR (t := fun (k : Int) => Out.ok true) (e := fun (k : Int) => (((ixD ((c5 cS cS cS cS (cU cS)) one) k).bind fun v2 => asS v2).bind fun v4 => ((ixD ((c5 cS cS cS cS (cU cS)) other) k).bind fun v3 => asS v3).bind fun v5 => catR v4 v5)) (by exact ⟨rfl, trivial⟩) (I_r1 (X_i 4)) (by exact fun x => G_n 12 rfl) (by exact fun x => .r (.r (.r (.r (.r (.r (.r (.r (.r (.r (.r (.r (.a (.nil)))))))))))))) (fun (k : Int) => TJ_eq (T_yes) (by first | with_reducible rfl | (simp only [Out.bind_assoc, Out.ok_bind]; done) | rfl)) (fun (k : Int) => NJ_eq (N_of (X_bin o_catS (X_dn dn_S (X_bin o_ixD (X_dyn (X_var 2 (c5 cS cS cS cS (cU cS)) one rfl)) (X_var 12 cI k rfl))) (X_dn dn_S (X_bin o_ixD (X_dyn (X_var 3 (c5 cS cS cS cS (cU cS)) other rfl)) (X_var 12 cI k rfl))))) (by first | with_reducible rfl | (simp only [Out.bind_assoc, Out.ok_bind]; done) | rfl)))))))) (by first | with_reducible rfl | (simp only [Out.bind_assoc, Out.ok_bind]; done) | rfl)) (J_eq (J_ret0 (fun _ _ => trivial) (N_of (X_b false)) (fun _ _ => rx_rt (rf_rt _ _))) (by first | with_reducible rfl | (simp only [Out.bind_assoc, Out.ok_bind]; done) | rfl)) (J_guard (fun _ _ => trivial) (TJ_eq (T_or (T_not (T_tB (X_isinst (X_dyn (X_var 5 (cU cS) weaving rfl))))) (T_v (X_bin (o_ne (Fai.U Fai.S)) (X_var 5 (cU cS) weaving rfl) (X_bin o_catU (X_prj (cr := (cU cS)) (π := fun p => p.2.2.2.2) (X_var 2 (c5 cS cS cS cS (cU cS)) one rfl) (fun _ => rfl)) (X_prj (cr := (cU cS)) (π := fun p => p.2.2.2.2) (X_var 3 (c5 cS cS cS cS (cU cS)) other rfl) (fun _ => rfl)))))) (by first | with_reducible rfl | (simp only [Out.bind_assoc, Out.ok_bind]; done) | rfl)) (J_eq (J_ret0 (fun _ _ => trivial) (N_of (X_b false)) (fun _ _ => rx_rt (rf_rt _ _))) (by first | with_reducible rfl | (simp only [Out.bind_assoc, Out.ok_bind]; done) | rfl)) (J_seq (J_eq (J_unpG (n := 4) (fun _ _ => trivial) (X_var 4 (cU cS) words rfl) (sqU cS) (unp4_pi cS) (fun p => Gs_cons (G_n 6 rfl) (Gs_cons (G_n 7 rfl) (Gs_cons (G_n 8 rfl) (Gs_cons (G_n 9 rfl) (Gs_nil)))))) (by first | with_reducible rfl | (simp only [Out.bind_assoc, Out.ok_bind]; done) | rfl)) (fun (x, y, z, t) => by exact J_guard (fun _ _ => trivial) (TJ_eq (T_or (T_v (X_bin o_neD (X_cl (AE_cons (X_var 4 (cU cS) words rfl) (AE_cons (X_var 5 (cU cS) weaving rfl) (AE_nil))) (fun g => t__law_judged g.1 g.2.1)) (X_dyn (X_tup (cr := (c1 cS)) (π := fun g => (g.1)) (n := 1) (AE_cons (X_s [119, 111, 118, 101, 110] (by decide +kernel)) (AE_nil)) (fun _ => rfl) (by decide) (fun _ => rfl))))) (T_v (X_bin o_neD (X_cl (AE_cons (X_dyn (X_var 6 cS x rfl)) (AE_cons (X_dyn (X_var 7 cS y rfl)) (AE_cons (X_dyn (X_var 8 cS z rfl)) (AE_cons (X_dyn (X_var 9 cS t rfl)) (AE_cons (X_dyn (X_var 5 (cU cS) weaving rfl)) (AE_nil)))))) (fun g => t_judged g.1 g.2.1 g.2.2.1 g.2.2.2.1 g.2.2.2.2.1)) (X_dyn (X_tup (cr := (c1 cS)) (π := fun g => (g.1)) (n := 1) (AE_cons (X_s [119, 111, 118, 101, 110] (by decide +kernel)) (AE_nil)) (fun _ => rfl) (by decide) (fun _ => rfl)))))) (by first | with_reducible rfl | (simp only [Out.bind_assoc, Out.ok_bind]; done) | rfl)) (J_eq (J_ret0 (fun _ _ => trivial) (N_of (X_b false)) (fun _ _ => rx_rt (rf_rt _ _))) (by first | with_reducible rfl | (simp only [Out.bind_assoc, Out.ok_bind]; done) | rfl)) (J_guard (fun _ _ => trivial) (TJ_eq (T_v (X_bin o_neD (X_dyn (X_cl (AE_cons (X_dyn (X_var 6 cS x rfl)) (AE_cons (X_dyn (X_var 7 cS y rfl)) (AE_cons (X_dyn (X_var 8 cS z rfl)) (AE_cons (X_dyn (X_var 5 (cU cS) weaving rfl)) (AE_cons (X_dyn (X_B1 (cr := cI) b_lenU (X_prj (cr := (cU cS)) (π := fun p => p.2.2.2.2) (X_var 2 (c5 cS cS cS cS (cU cS)) one rfl) (fun _ => rfl)))) (AE_nil)))))) (fun g => t_parts_at g.1 g.2.1 g.2.2.1 g.2.2.2.1 g.2.2.2.2.1))) (X_dyn (X_tup (cr := (c2 (c4 cS cS cS cS) (c4 cS cS cS cS))) (π := fun g => (g.1, g.2.1)) (n := 2) (AE_cons (X_slT (cr := (c4 cS cS cS cS)) (π := fun p => (p.1, p.2.1, p.2.2.1, p.2.2.2.1)) (X_var 2 (c5 cS cS cS cS (cU cS)) one rfl) (PJ_none) (PJ_some (X_i 4)) (fun _ => rfl)) (AE_cons (X_slT (cr := (c4 cS cS cS cS)) (π := fun p => (p.1, p.2.1, p.2.2.1, p.2.2.2.1)) (X_var 3 (c5 cS cS cS cS (cU cS)) other rfl) (PJ_none) (PJ_some (X_i 4)) (fun _ => rfl)) (AE_nil))) (fun _ => rfl) (by decide) (fun _ => rfl))))) (by first | with_reducible rfl | (simp only [Out.bind_assoc, Out.ok_bind]; done) | rfl)) (J_eq (J_ret0 (fun _ _ => trivial) (N_of (X_b false)) (fun _ _ => rx_rt (rf_rt _ _))) (by first | with_reducible rfl | (simp only [Out.bind_assoc, Out.ok_bind]; done) | rfl)) (J_seq (J_eq (J_setS (i := 10) (fun _ _ => trivial) rfl (N_of (X_cl (AE_cons (X_var 0 (cF cI) script rfl) (AE_cons (X_var 1 cI place rfl) (AE_cons (X_i 60) (AE_cons (X_bin o_add (X_B1 (cr := cI) b_lenU (X_var 5 (cU cS) weaving rfl)) (X_i 1)) (AE_nil))))) (fun g => t__law_draw g.1 g.2.1 g.2.2.1 g.2.2.2.1)))) (by first | with_reducible rfl | (simp only [Out.bind_assoc, Out.ok_bind]; done) | rfl)) (fun (at_ : Int) => by exact J_seq (J_eq (J_setS (i := 11) (fun _ _ => trivial) rfl (N_of (X_cl (AE_cons (X_dyn (X_var 6 cS x rfl)) (AE_cons (X_dyn (X_var 7 cS y rfl)) (AE_cons (X_dyn (X_var 8 cS z rfl)) (AE_cons (X_dyn (X_var 5 (cU cS) weaving rfl)) (AE_cons (X_dyn (X_var 10 cI at_ rfl)) (AE_nil)))))) (fun g => t_parts_at g.1 g.2.1 g.2.2.1 g.2.2.2.1 g.2.2.2.2.1)))) (by first | with_reducible rfl | (simp only [Out.bind_assoc, Out.ok_bind]; done) | rfl)) (fun (found : ((List (List Nat)) × (List (List Nat)))) => by exact J_guard (fun _ _ => trivial) (TJ_eq (T_or (T_not (T_tB (X_isinst (X_dyn (X_var 11 (c2 (cU cS) (cU cS)) found rfl))))) (T_v (X_bin (o_ne (Fai.t2 (Fai.U Fai.S) (Fai.U Fai.S))) (X_var 11 (c2 (cU cS) (cU cS)) found rfl) (X_cl (AE_cons (X_var 4 (cU cS) words rfl) (AE_cons (X_sl s_U (X_var 5 (cU cS) weaving rfl) (PJ_none) (PJ_some (X_var 10 cI at_ rfl))) (AE_nil))) (fun g => t__law_front g.1 g.2.1))))) (by first | with_reducible rfl | (simp only [Out.bind_assoc, Out.ok_bind]; done) | rfl)) (J_eq (J_ret0 (fun _ _ => trivial) (N_of (X_b false)) (fun _ _ => rx_rt (rf_rt _ _))) (by first | with_reducible rfl | (simp only [Out.bind_assoc, Out.ok_bind]; done) | rfl)) (J_guard (fun _ _ => trivial) (TJ_eq (T_or (T_v (X_bin o_neD (X_cl (AE_cons (X_prj (cr := (cU cS)) (π := fun p => p.1) (X_var 11 (c2 (cU cS) (cU cS)) found rfl) (fun _ => rfl)) (AE_cons (X_sl s_U (X_var 5 (cU cS) weaving rfl) (PJ_none) (PJ_some (X_var 10 cI at_ rfl))) (AE_nil))) (fun g => t__law_judged g.1 g.2.1)) (X_dyn (X_tup (cr := (c1 cS)) (π := fun g => (g.1)) (n := 1) (AE_cons (X_s [119, 111, 118, 101, 110] (by decide +kernel)) (AE_nil)) (fun _ => rfl) (by decide) (fun _ => rfl))))) (T_v (X_bin o_neD (X_cl (AE_cons (X_prj (cr := (cU cS)) (π := fun p => p.2) (X_var 11 (c2 (cU cS) (cU cS)) found rfl) (fun _ => rfl)) (AE_cons (X_sl s_U (X_var 5 (cU cS) weaving rfl) (PJ_some (X_var 10 cI at_ rfl)) (PJ_none)) (AE_nil))) (fun g => t__law_judged g.1 g.2.1)) (X_dyn (X_tup (cr := (c1 cS)) (π := fun g => (g.1)) (n := 1) (AE_cons (X_s [119, 111, 118, 101, 110] (by decide +kernel)) (AE_nil)) (fun _ => rfl) (by decide) (fun _ => rfl)))))) (by first | with_reducible rfl | (simp only [Out.bind_assoc, Out.ok_bind]; done) | rfl)) (J_eq (J_ret0 (fun _ _ => trivial) (N_of (X_b false)) (fun _ _ => rx_rt (rf_rt _ _))) (by first | with_reducible rfl | (simp only [Out.bind_assoc, Out.ok_bind]; done) | rfl)) (J_guard (fun _ _ => trivial) (TJ_eq (T_v (X_bin (o_ne (Fai.U Fai.S)) (X_cl (AE_cons (X_dyn (X_prj (cr := (cU cS)) (π := fun p => p.1) (X_var 11 (c2 (cU cS) (cU cS)) found rfl) (fun _ => rfl))) (AE_cons (X_dyn (X_prj (cr := (cU cS)) (π := fun p => p.2) (X_var 11 (c2 (cU cS) (cU cS)) found rfl) (fun _ => rfl))) (AE_nil))) (fun g => t_joined_quads g.1 g.2.1)) (X_var 4 (cU cS) words rfl))) (by first | with_reducible rfl | (simp only [Out.bind_assoc, Out.ok_bind]; done) | rfl)) (J_eq (J_ret0 (fun _ _ => trivial) (N_of (X_b false)) (fun _ _ => rx_rt (rf_rt _ _))) (by first | with_reducible rfl | (simp only [Out.bind_assoc, Out.ok_bind]; done) | rfl)) (J_eq (J_ret0 (fun _ _ => trivial) (N_of (X_cl (AE_cons (X_var 0 (cF cI) script rfl) (AE_cons (X_var 1 cI place rfl) (AE_cons (X_as (cr := (cU cS)) (k := fun g => [g.1, g.2.1, g.2.2.1, g.2.2.2]) (X_slT (cr := (c4 cS cS cS cS)) (π := fun p => (p.1, p.2.1, p.2.2.1, p.2.2.2.1)) (X_var 2 (c5 cS cS cS cS (cU cS)) one rfl) (PJ_none) (PJ_some (X_i 4)) (fun _ => rfl)) (fun _ => rfl)) (AE_cons (X_prj (cr := (cU cS)) (π := fun p => p.2.2.2.2) (X_var 2 (c5 cS cS cS cS (cU cS)) one rfl) (fun _ => rfl)) (AE_nil))))) (fun g => t__law_refusals g.1 g.2.1 g.2.2.1 g.2.2.2.1))) (fun _ _ => rf_rt _ _)) (by first | with_reducible rfl | (simp only [Out.bind_assoc, Out.ok_bind]; done) | rfl))))))))))))))))
theorem t_law (script : (List Int)) : Sim (m_law [(cF cI) script]) (P.law_6 script) cB := simP (Ps := [.vw ((cF cI) script), .any]) rfl rfl (by unfold P.law_6 b_law; exact J_jn (J_eq (J_for (s0 := ()) (b := fun (place : Int) (_ : Unit) => ((P.w_right script place).bind fun v1 => Out.ok ((!v1))).bind fun v2 => if v2 = true then Out.ok (Lp.out false) else Out.ok (Lp.nx ())) (Bs := fun (ix_ : Int) (st_ : Unit) => [.vw ((cF cI) script), .vw (cI ix_)]) (fun (st_ : Unit) => [.vw ((cF cI) script), .any]) (fun _ _ => trivial) (I_r1 (X_B2 b_max2 (X_i 2) (X_B2 b_min2 (X_B1 (cr := cI) b_lenF (X_var 0 (cF cI) script rfl)) (X_i 24)))) (.r (.r (.nil))) (fun x s => G_n 1 rfl) (fun (place : Int) (_ : Unit) => by exact J_last (J_guard (fun _ _ => trivial) (TJ_eq (T_not (T_tB (X_cl (AE_cons (X_var 0 (cF cI) script rfl) (AE_cons (X_var 1 cI place rfl) (AE_nil))) (fun g => t__law_right g.1 g.2.1)))) (by first | with_reducible rfl | (simp only [Out.bind_assoc, Out.ok_bind]; done) | rfl)) (J_eq (J_ret (k := fun a => (Lp.out a)) (fun _ _ => trivial) (N_of (X_b false)) (fun _ _ => rx_rt (rb_rt (rf_rt _ _)))) (by first | with_reducible rfl | (simp only [Out.bind_assoc, Out.ok_bind]; done) | rfl)) (J_nil (a := (Lp.nx ())) (fun _ h => rb_nx (LeS.er (.r (.a (.nil))) h)))))) (by first | with_reducible rfl | (simp only [Out.bind_assoc, Out.ok_bind]; done) | rfl)) (fun _ => by exact J_eq (J_ret0 (fun _ _ => trivial) (N_of (X_b true)) (fun _ _ => rf_rt _ _)) (by first | with_reducible rfl | (simp only [Out.bind_assoc, Out.ok_bind]; done) | rfl)))
end W_k67
open TL FL in
theorem W_k67.law_true : ∀ ns : List Int, ns.length ≤ 63 → W_k67.m_law [.fz (ns.map .int)] = .ok (.bl true) := fun ns hn => by
  have h := W_k67.t_law ns
  rw [TL.law67 ns hn] at h
  exact h
open PySem PySem.W PyProof.Rows
set_option maxHeartbeats 0 in
theorem PySem.Challenge.cw_fourthword_k67_whole_weavings_joined_and_holds : PySem.Challenge.rw_fourthword_k67_whole_weavings_joined_and.Holds := by
  w_on; o_law; k_head; (case hw => w_witness2)
  k_fill
  refine L2.walk_of (l := PySem.Challenge.rw_fourthword_k67_whole_weavings_joined_and) (n := 63) (k := 7) (x := "script") (CX := fun w => L2.CX PySem.Challenge.rw_fourthword_k67_whole_weavings_joined_and.prog w) (sp := fun w => FL.spL _) rfl (by decide) rfl ⟨rfl, by decide, by decide⟩ (fun w h Y => PySem.W.kIn_of Y) ?F (fun _ _ a ns hl _ hS => ⟨a, ns, rfl, hS, hl, fun _ => rfl⟩) (fun _ _ _ _ _ h => FL.noCX h)
  case F =>
    intro w mg fa h KX G hmg
    refine' W_k67.all_mk KX G hmg (FL.di_mk ?a_is_integer ?l_is_integer ?c_is_integer ?k_is_integer) (FL.di_mk ?a_is_within ?l_is_within ?c_is_within ?k_is_within) (FL.di_mk ?a_is_tuple ?l_is_tuple ?c_is_tuple ?k_is_tuple) (FL.di_mk ?a_is_word ?l_is_word ?c_is_word ?k_is_word) (FL.di_mk ?a_check_words ?l_check_words ?c_check_words ?k_check_words) (FL.di_mk ?a_is_weaving ?l_is_weaving ?c_is_weaving ?k_is_weaving) (FL.di_mk ?a_check_weaving ?l_check_weaving ?c_check_weaving ?k_check_weaving) (FL.di_mk ?a_raw_judged ?l_raw_judged ?c_raw_judged ?k_raw_judged) (FL.di_mk ?a_judged ?l_judged ?c_judged ?k_judged) (FL.di_mk ?a_read_off ?l_read_off ?c_read_off ?k_read_off) (FL.di_mk ?a_check_quad ?l_check_quad ?c_check_quad ?k_check_quad) (FL.di_mk ?a_joined_quads ?l_joined_quads ?c_joined_quads ?k_joined_quads) (FL.di_mk ?a_joined_weavings ?l_joined_weavings ?c_joined_weavings ?k_joined_weavings) (FL.di_mk ?a_quad_of ?l_quad_of ?c_quad_of ?k_quad_of) (FL.di_mk ?a_parts_at ?l_parts_at ?c_parts_at ?k_parts_at) (FL.di_mk ?a__law_cell ?l__law_cell ?c__law_cell ?k__law_cell) (FL.di_mk ?a__law_draw ?l__law_draw ?c__law_draw ?k__law_draw) (FL.di_mk ?a__law_letter ?l__law_letter ?c__law_letter ?k__law_letter) (FL.di_mk ?a__law_quad ?l__law_quad ?c__law_quad ?k__law_quad) (FL.di_mk ?a__law_judged ?l__law_judged ?c__law_judged ?k__law_judged) (FL.di_mk ?a__law_refused ?l__law_refused ?c__law_refused ?k__law_refused) (FL.di_mk ?a__law_front ?l__law_front ?c__law_front ?k__law_front) (FL.di_mk ?a__law_refusals ?l__law_refusals ?c__law_refusals ?k__law_refusals) (FL.di_mk ?a__law_right ?l__law_right ?c__law_right ?k__law_right) (FL.di_mk ?a_law ?l_law ?c_law ?k_law) (FL.xi_mk ?a_NoNumber ?q_NoNumber ?k_NoNumber ?b_NoNumber ?t_NoNumber) (FL.xi_mk ?a_NoQuad ?q_NoQuad ?k_NoQuad ?b_NoQuad ?t_NoQuad) (FL.xi_mk ?a_NoWeaving ?q_NoWeaving ?k_NoWeaving ?b_NoWeaving ?t_NoWeaving) (FL.xi_mk ?a_NoWord ?q_NoWord ?k_NoWord ?b_NoWord ?t_NoWord) (FL.xi_mk ?a_NotWoven ?q_NotWoven ?k_NotWoven ?b_NotWoven ?t_NotWoven) (FL.ei_mk ?p_NoNumber_NoNumber ?q_NoNumber_NoNumber ?r_NoNumber_NoNumber ?s_NoNumber_NoNumber ?t_NoNumber_NoNumber ?u_NoNumber_NoNumber) (FL.ei_mk ?p_NoQuad_NoNumber ?q_NoQuad_NoNumber ?r_NoQuad_NoNumber ?s_NoQuad_NoNumber ?t_NoQuad_NoNumber ?u_NoQuad_NoNumber) (FL.ei_mk ?p_NoWeaving_NoNumber ?q_NoWeaving_NoNumber ?r_NoWeaving_NoNumber ?s_NoWeaving_NoNumber ?t_NoWeaving_NoNumber ?u_NoWeaving_NoNumber) (FL.ei_mk ?p_NoWord_NoNumber ?q_NoWord_NoNumber ?r_NoWord_NoNumber ?s_NoWord_NoNumber ?t_NoWord_NoNumber ?u_NoWord_NoNumber) (FL.ei_mk ?p_NotWoven_NoNumber ?q_NotWoven_NoNumber ?r_NotWoven_NoNumber ?s_NotWoven_NoNumber ?t_NotWoven_NoNumber ?u_NotWoven_NoNumber) (FL.ei_mk ?p_NoNumber_NoQuad ?q_NoNumber_NoQuad ?r_NoNumber_NoQuad ?s_NoNumber_NoQuad ?t_NoNumber_NoQuad ?u_NoNumber_NoQuad) (FL.ei_mk ?p_NoQuad_NoQuad ?q_NoQuad_NoQuad ?r_NoQuad_NoQuad ?s_NoQuad_NoQuad ?t_NoQuad_NoQuad ?u_NoQuad_NoQuad) (FL.ei_mk ?p_NoWeaving_NoQuad ?q_NoWeaving_NoQuad ?r_NoWeaving_NoQuad ?s_NoWeaving_NoQuad ?t_NoWeaving_NoQuad ?u_NoWeaving_NoQuad) (FL.ei_mk ?p_NoWord_NoQuad ?q_NoWord_NoQuad ?r_NoWord_NoQuad ?s_NoWord_NoQuad ?t_NoWord_NoQuad ?u_NoWord_NoQuad) (FL.ei_mk ?p_NotWoven_NoQuad ?q_NotWoven_NoQuad ?r_NotWoven_NoQuad ?s_NotWoven_NoQuad ?t_NotWoven_NoQuad ?u_NotWoven_NoQuad) (FL.ei_mk ?p_NoNumber_NoWeaving ?q_NoNumber_NoWeaving ?r_NoNumber_NoWeaving ?s_NoNumber_NoWeaving ?t_NoNumber_NoWeaving ?u_NoNumber_NoWeaving) (FL.ei_mk ?p_NoQuad_NoWeaving ?q_NoQuad_NoWeaving ?r_NoQuad_NoWeaving ?s_NoQuad_NoWeaving ?t_NoQuad_NoWeaving ?u_NoQuad_NoWeaving) (FL.ei_mk ?p_NoWeaving_NoWeaving ?q_NoWeaving_NoWeaving ?r_NoWeaving_NoWeaving ?s_NoWeaving_NoWeaving ?t_NoWeaving_NoWeaving ?u_NoWeaving_NoWeaving) (FL.ei_mk ?p_NoWord_NoWeaving ?q_NoWord_NoWeaving ?r_NoWord_NoWeaving ?s_NoWord_NoWeaving ?t_NoWord_NoWeaving ?u_NoWord_NoWeaving) (FL.ei_mk ?p_NotWoven_NoWeaving ?q_NotWoven_NoWeaving ?r_NotWoven_NoWeaving ?s_NotWoven_NoWeaving ?t_NotWoven_NoWeaving ?u_NotWoven_NoWeaving) (FL.ei_mk ?p_NoNumber_NoWord ?q_NoNumber_NoWord ?r_NoNumber_NoWord ?s_NoNumber_NoWord ?t_NoNumber_NoWord ?u_NoNumber_NoWord) (FL.ei_mk ?p_NoQuad_NoWord ?q_NoQuad_NoWord ?r_NoQuad_NoWord ?s_NoQuad_NoWord ?t_NoQuad_NoWord ?u_NoQuad_NoWord) (FL.ei_mk ?p_NoWeaving_NoWord ?q_NoWeaving_NoWord ?r_NoWeaving_NoWord ?s_NoWeaving_NoWord ?t_NoWeaving_NoWord ?u_NoWeaving_NoWord) (FL.ei_mk ?p_NoWord_NoWord ?q_NoWord_NoWord ?r_NoWord_NoWord ?s_NoWord_NoWord ?t_NoWord_NoWord ?u_NoWord_NoWord) (FL.ei_mk ?p_NotWoven_NoWord ?q_NotWoven_NoWord ?r_NotWoven_NoWord ?s_NotWoven_NoWord ?t_NotWoven_NoWord ?u_NotWoven_NoWord) (FL.ei_mk ?p_NoNumber_NotWoven ?q_NoNumber_NotWoven ?r_NoNumber_NotWoven ?s_NoNumber_NotWoven ?t_NoNumber_NotWoven ?u_NoNumber_NotWoven) (FL.ei_mk ?p_NoQuad_NotWoven ?q_NoQuad_NotWoven ?r_NoQuad_NotWoven ?s_NoQuad_NotWoven ?t_NoQuad_NotWoven ?u_NoQuad_NotWoven) (FL.ei_mk ?p_NoWeaving_NotWoven ?q_NoWeaving_NotWoven ?r_NoWeaving_NotWoven ?s_NoWeaving_NotWoven ?t_NoWeaving_NotWoven ?u_NoWeaving_NotWoven) (FL.ei_mk ?p_NoWord_NotWoven ?q_NoWord_NotWoven ?r_NoWord_NotWoven ?s_NoWord_NotWoven ?t_NoWord_NotWoven ?u_NoWord_NotWoven) (FL.ei_mk ?p_NotWoven_NotWoven ?q_NotWoven_NotWoven ?r_NotWoven_NotWoven ?s_NotWoven_NotWoven ?t_NotWoven_NotWoven ?u_NotWoven_NotWoven) (FL.gi_str ?a_LETTERS) (FL.gi_tup4 ?a_MOVES ?l_MOVES) (FL.gi_str ?a_PLACES) ?z_all ?z_bool ?z_enumerate ?z_int ?z_isinstance ?z_len ?z_list ?z_max ?z_min ?z_range ?z_str ?z_tuple ?z_zip W_k67.law_true
    (case a_is_integer => k_is); (case l_is_integer => k_is); (case c_is_integer => k_is); (case k_is_integer => k_is); (case a_is_within => k_is); (case l_is_within => k_is)
    (case c_is_within => k_is); (case k_is_within => k_is); (case a_is_tuple => k_is); (case l_is_tuple => k_is); (case c_is_tuple => k_is); (case k_is_tuple => k_is)
    (case a_is_word => k_is); (case l_is_word => k_is); (case c_is_word => k_is); (case k_is_word => k_is); (case a_check_words => k_is); (case l_check_words => k_is)
    (case c_check_words => k_is); (case k_check_words => k_is); (case a_is_weaving => k_is); (case l_is_weaving => k_is); (case c_is_weaving => k_is); (case k_is_weaving => k_is)
    (case a_check_weaving => k_is); (case l_check_weaving => k_is); (case c_check_weaving => k_is); (case k_check_weaving => k_is); (case a_raw_judged => k_is); (case l_raw_judged => k_is)
    (case c_raw_judged => k_is); (case k_raw_judged => k_is); (case a_judged => k_is); (case l_judged => k_is); (case c_judged => k_is); (case k_judged => k_is)
    (case a_read_off => k_is); (case l_read_off => k_is); (case c_read_off => k_is); (case k_read_off => k_is); (case a_check_quad => k_is); (case l_check_quad => k_is)
    (case c_check_quad => k_is); (case k_check_quad => k_is); (case a_joined_quads => k_is); (case l_joined_quads => k_is); (case c_joined_quads => k_is); (case k_joined_quads => k_is)
    (case a_joined_weavings => k_is); (case l_joined_weavings => k_is); (case c_joined_weavings => k_is); (case k_joined_weavings => k_is); (case a_quad_of => k_is); (case l_quad_of => k_is)
    (case c_quad_of => k_is); (case k_quad_of => k_is); (case a_parts_at => k_is); (case l_parts_at => k_is); (case c_parts_at => k_is); (case k_parts_at => k_is)
    (case a__law_cell => k_is); (case l__law_cell => k_is); (case c__law_cell => k_is); (case k__law_cell => k_is); (case a__law_draw => k_is); (case l__law_draw => k_is)
    (case c__law_draw => k_is); (case k__law_draw => k_is); (case a__law_letter => k_is); (case l__law_letter => k_is); (case c__law_letter => k_is); (case k__law_letter => k_is)
    (case a__law_quad => k_is); (case l__law_quad => k_is); (case c__law_quad => k_is); (case k__law_quad => k_is); (case a__law_judged => k_is); (case l__law_judged => k_is)
    (case c__law_judged => k_is); (case k__law_judged => k_is); (case a__law_refused => k_is); (case l__law_refused => k_is); (case c__law_refused => k_is); (case k__law_refused => k_is)
    (case a__law_front => k_is); (case l__law_front => k_is); (case c__law_front => k_is); (case k__law_front => k_is); (case a__law_refusals => k_is); (case l__law_refusals => k_is)
    (case c__law_refusals => k_is); (case k__law_refusals => k_is); (case a__law_right => k_is); (case l__law_right => k_is); (case c__law_right => k_is); (case k__law_right => k_is)
    (case a_law => k_is); (case l_law => k_is); (case c_law => k_is); (case k_law => k_is); (case a_NoNumber => k_is); (case q_NoNumber => k_exc)
    (case k_NoNumber => k_is); (case b_NoNumber => k_is); (case t_NoNumber => k_is); (case a_NoQuad => k_is); (case q_NoQuad => k_exc); (case k_NoQuad => k_is)
    (case b_NoQuad => k_is); (case t_NoQuad => k_is); (case a_NoWeaving => k_is); (case q_NoWeaving => k_exc); (case k_NoWeaving => k_is); (case b_NoWeaving => k_is)
    (case t_NoWeaving => k_is); (case a_NoWord => k_is); (case q_NoWord => k_exc); (case k_NoWord => k_is); (case b_NoWord => k_is); (case t_NoWord => k_is)
    (case a_NotWoven => k_is); (case q_NotWoven => k_exc); (case k_NotWoven => k_is); (case b_NotWoven => k_is); (case t_NotWoven => k_is); (case p_NoNumber_NoNumber => k_is)
    (case q_NoNumber_NoNumber => k_is); (case r_NoNumber_NoNumber => k_is); (case s_NoNumber_NoNumber => k_is); (case t_NoNumber_NoNumber => k_is); (case u_NoNumber_NoNumber => k_is); (case p_NoQuad_NoNumber => k_is)
    (case q_NoQuad_NoNumber => k_is); (case r_NoQuad_NoNumber => k_is); (case s_NoQuad_NoNumber => k_is); (case t_NoQuad_NoNumber => k_is); (case u_NoQuad_NoNumber => k_is); (case p_NoWeaving_NoNumber => k_is)
    (case q_NoWeaving_NoNumber => k_is); (case r_NoWeaving_NoNumber => k_is); (case s_NoWeaving_NoNumber => k_is); (case t_NoWeaving_NoNumber => k_is); (case u_NoWeaving_NoNumber => k_is); (case p_NoWord_NoNumber => k_is)
    (case q_NoWord_NoNumber => k_is); (case r_NoWord_NoNumber => k_is); (case s_NoWord_NoNumber => k_is); (case t_NoWord_NoNumber => k_is); (case u_NoWord_NoNumber => k_is); (case p_NotWoven_NoNumber => k_is)
    (case q_NotWoven_NoNumber => k_is); (case r_NotWoven_NoNumber => k_is); (case s_NotWoven_NoNumber => k_is); (case t_NotWoven_NoNumber => k_is); (case u_NotWoven_NoNumber => k_is); (case p_NoNumber_NoQuad => k_is)
    (case q_NoNumber_NoQuad => k_is); (case r_NoNumber_NoQuad => k_is); (case s_NoNumber_NoQuad => k_is); (case t_NoNumber_NoQuad => k_is); (case u_NoNumber_NoQuad => k_is); (case p_NoQuad_NoQuad => k_is)
    (case q_NoQuad_NoQuad => k_is); (case r_NoQuad_NoQuad => k_is); (case s_NoQuad_NoQuad => k_is); (case t_NoQuad_NoQuad => k_is); (case u_NoQuad_NoQuad => k_is); (case p_NoWeaving_NoQuad => k_is)
    (case q_NoWeaving_NoQuad => k_is); (case r_NoWeaving_NoQuad => k_is); (case s_NoWeaving_NoQuad => k_is); (case t_NoWeaving_NoQuad => k_is); (case u_NoWeaving_NoQuad => k_is); (case p_NoWord_NoQuad => k_is)
    (case q_NoWord_NoQuad => k_is); (case r_NoWord_NoQuad => k_is); (case s_NoWord_NoQuad => k_is); (case t_NoWord_NoQuad => k_is); (case u_NoWord_NoQuad => k_is); (case p_NotWoven_NoQuad => k_is)
    (case q_NotWoven_NoQuad => k_is); (case r_NotWoven_NoQuad => k_is); (case s_NotWoven_NoQuad => k_is); (case t_NotWoven_NoQuad => k_is); (case u_NotWoven_NoQuad => k_is); (case p_NoNumber_NoWeaving => k_is)
    (case q_NoNumber_NoWeaving => k_is); (case r_NoNumber_NoWeaving => k_is); (case s_NoNumber_NoWeaving => k_is); (case t_NoNumber_NoWeaving => k_is); (case u_NoNumber_NoWeaving => k_is); (case p_NoQuad_NoWeaving => k_is)
    (case q_NoQuad_NoWeaving => k_is); (case r_NoQuad_NoWeaving => k_is); (case s_NoQuad_NoWeaving => k_is); (case t_NoQuad_NoWeaving => k_is); (case u_NoQuad_NoWeaving => k_is); (case p_NoWeaving_NoWeaving => k_is)
    (case q_NoWeaving_NoWeaving => k_is); (case r_NoWeaving_NoWeaving => k_is); (case s_NoWeaving_NoWeaving => k_is); (case t_NoWeaving_NoWeaving => k_is); (case u_NoWeaving_NoWeaving => k_is); (case p_NoWord_NoWeaving => k_is)
    (case q_NoWord_NoWeaving => k_is); (case r_NoWord_NoWeaving => k_is); (case s_NoWord_NoWeaving => k_is); (case t_NoWord_NoWeaving => k_is); (case u_NoWord_NoWeaving => k_is); (case p_NotWoven_NoWeaving => k_is)
    (case q_NotWoven_NoWeaving => k_is); (case r_NotWoven_NoWeaving => k_is); (case s_NotWoven_NoWeaving => k_is); (case t_NotWoven_NoWeaving => k_is); (case u_NotWoven_NoWeaving => k_is); (case p_NoNumber_NoWord => k_is)
    (case q_NoNumber_NoWord => k_is); (case r_NoNumber_NoWord => k_is); (case s_NoNumber_NoWord => k_is); (case t_NoNumber_NoWord => k_is); (case u_NoNumber_NoWord => k_is); (case p_NoQuad_NoWord => k_is)
    (case q_NoQuad_NoWord => k_is); (case r_NoQuad_NoWord => k_is); (case s_NoQuad_NoWord => k_is); (case t_NoQuad_NoWord => k_is); (case u_NoQuad_NoWord => k_is); (case p_NoWeaving_NoWord => k_is)
    (case q_NoWeaving_NoWord => k_is); (case r_NoWeaving_NoWord => k_is); (case s_NoWeaving_NoWord => k_is); (case t_NoWeaving_NoWord => k_is); (case u_NoWeaving_NoWord => k_is); (case p_NoWord_NoWord => k_is)
    (case q_NoWord_NoWord => k_is); (case r_NoWord_NoWord => k_is); (case s_NoWord_NoWord => k_is); (case t_NoWord_NoWord => k_is); (case u_NoWord_NoWord => k_is); (case p_NotWoven_NoWord => k_is)
    (case q_NotWoven_NoWord => k_is); (case r_NotWoven_NoWord => k_is); (case s_NotWoven_NoWord => k_is); (case t_NotWoven_NoWord => k_is); (case u_NotWoven_NoWord => k_is); (case p_NoNumber_NotWoven => k_is)
    (case q_NoNumber_NotWoven => k_is); (case r_NoNumber_NotWoven => k_is); (case s_NoNumber_NotWoven => k_is); (case t_NoNumber_NotWoven => k_is); (case u_NoNumber_NotWoven => k_is); (case p_NoQuad_NotWoven => k_is)
    (case q_NoQuad_NotWoven => k_is); (case r_NoQuad_NotWoven => k_is); (case s_NoQuad_NotWoven => k_is); (case t_NoQuad_NotWoven => k_is); (case u_NoQuad_NotWoven => k_is); (case p_NoWeaving_NotWoven => k_is)
    (case q_NoWeaving_NotWoven => k_is); (case r_NoWeaving_NotWoven => k_is); (case s_NoWeaving_NotWoven => k_is); (case t_NoWeaving_NotWoven => k_is); (case u_NoWeaving_NotWoven => k_is); (case p_NoWord_NotWoven => k_is)
    (case q_NoWord_NotWoven => k_is); (case r_NoWord_NotWoven => k_is); (case s_NoWord_NotWoven => k_is); (case t_NoWord_NotWoven => k_is); (case u_NoWord_NotWoven => k_is); (case p_NotWoven_NotWoven => k_is)
    (case q_NotWoven_NotWoven => k_is); (case r_NotWoven_NotWoven => k_is); (case s_NotWoven_NotWoven => k_is); (case t_NotWoven_NotWoven => k_is); (case u_NotWoven_NotWoven => k_is); (case a_LETTERS => k_is)
    (case a_MOVES => k_is); (case l_MOVES => k_is); (case a_PLACES => k_is); (case z_all => k_is); (case z_bool => k_is); (case z_enumerate => k_is)
    (case z_int => k_is); (case z_isinstance => k_is); (case z_len => k_is); (case z_list => k_is); (case z_max => k_is); (case z_min => k_is)
    (case z_range => k_is); (case z_str => k_is); (case z_tuple => k_is); (case z_zip => k_is)
