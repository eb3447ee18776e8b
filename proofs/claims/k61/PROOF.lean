import PyProof.Rows.All
import HandS.ForMost
import HandS.Exc
import HandS.ExcOwn
import HandS.WordsExc
import HandS.IsInst
import HandS.TupLe
import HandS.TupAny
import HandS.Style
import HandS.Wide
import HandS.Flow
import HandS.Conv
import HandS.Zip
import HandS.Rev
import HandS.RevRange
import HandS.CallSlots
import KE.GoesEnum
import KE.GoesZip
import KE.GoesMore
import HandS.Comp
import HandS.Deep
import HandS.Text
import KE.LtData
import KE.SortData
import PyProof.StrLawsIn
import HandS.Records
import HandS.SetKeys
import KE.KExcSuper
import KE.KSuper
import KE.KExcInit
import HandS.ExcField
import HandS.FStr
import HandS.ExcSuper
import HandS.SetBool
import PySem.Challenge.RW_readsback_k61_whole_short_or_covered
section
set_option Elab.async false
set_option linter.all false
set_option maxRecDepth 100000
namespace L2
open PySem PySem.Spec PyProof.Rows

abbrev Da := PyData

/-- what a piece of the program gives: a value, an exception (its class's number, its datum), or nothing that is told here -/
inductive Rv (α : Type) where
  | ok (a : α)
  | exc (c : Nat) (d : Da)
  | bad
namespace Rv
def bind {α β : Type} (x : Rv α) (f : α → Rv β) : Rv β := match x with
  | .ok a => f a
  | .exc c d => .exc c d
  | .bad => .bad
def ofO {α : Type} : Option α → Rv α
  | some a => .ok a
  | none => .bad
def nox {α : Type} : Rv α → Rv α
  | .ok a => .ok a
  | _ => .bad
end Rv

/-- what a name owns alone: a list, a dict, a list of lists -/
inductive OV where
  | lst (xs : List Da)
  | dk (kvs : List (PyData × PyData))
  | dt (kvs : List (PyData × PyData))
  | lol (xss : List (List Da))
/-- a slot: untold; a value that nothing changes; an object that it owns -/
inductive Sl where
  | un
  | val (d : Da)
  | own (o : OV)
abbrev Sls := List Sl

/-! ### heaps with some addresses hidden -/
section
open Classical
noncomputable def hid (O : Addr → Prop) (H : Hp) : Hp := fun a => if O a then none else H a
variable {O O' : Addr → Prop} {H H' : Hp} {a : Addr} {x : HO}
theorem hid_pos (h : O a) : hid O H a = none := by unfold hid; rw [if_pos h]
theorem hid_neg (h : ¬ O a) : hid O H a = H a := by unfold hid; rw [if_neg h]
theorem of_hid (h : hid O H a = some x) : ¬ O a ∧ H a = some x := by
  by_cases q : O a
  · rw [hid_pos q] at h; cases h
  · rw [hid_neg q] at h; exact ⟨q, h⟩
theorem hid_le : Same (hid O H) H := fun _ _ h => (of_hid h).2
theorem hid_same (s : Same H H') : Same (hid O H) (hid O H') := fun b o h => by
  obtain ⟨n, e⟩ := of_hid h
  rw [hid_neg n]; exact s b o e
theorem hid_anti (h : ∀ a, O' a → O a) : Same (hid O H) (hid O' H) := fun b o q => by
  obtain ⟨n, e⟩ := of_hid q
  rw [hid_neg fun z => n (h b z)]; exact e
theorem hid_upd (h : O a) : hid O (upd H a x) = hid O H := by
  funext b
  by_cases q : O b
  · rw [hid_pos q, hid_pos q]
  · rw [hid_neg q, hid_neg q, upd_ne]
    rintro rfl; exact q h
/-- a new object: hidden or not, what stood stands -/
theorem hid_new (h : H a = none) : Same (hid O H) (hid (fun b => O b ∨ b = a) (upd H a x)) := fun b o q => by
  obtain ⟨n, e⟩ := of_hid q
  have ne : b ≠ a := ne_of_none e h
  rw [hid_neg (fun z => z.elim n ne), upd_ne ne]; exact e
end
theorem same_new {H : Hp} {a : Addr} {x : HO} (h : H a = none) : Same H (upd H a x) := fun b o e => by
  rw [upd_ne (ne_of_none e h)]; exact e
theorem Same.seqT {K : PySem.W.Frag} {H H' : Hp} {a : Addr} {xs : List V} (e : Same H H') (h : SqT K H a xs) : SqT K H' a xs := by
  rcases h with (h | ⟨o, h⟩) | h
  · exact .inl (.inl (e _ _ h))
  · exact .inl (.inr ⟨o, e _ _ h⟩)
  · exact .inr h

/-! ### data in a heap -/
/-- a key as a datum -/
def kD : Key → Da
  | .inl i => .int i
  | .inr x => .str x
mutual
inductive Dq (K : PySem.W.Frag) (H : Hp) : V → PyData → Prop
  | non : Dq K H .non .none
  | bl (b : Bool) : Dq K H (.bl b) (.bool b)
  | int (i : Int) : Dq K H (.int i) (.int i)
  | str (x : Str) : Dq K H (.str x) (.str x)
  | lst {a : Addr} {xs : List V} {ds : List PyData} : SqL K H a xs → DqAll K H xs ds → Dq K H (.ref a) (.list ds)
  | tup {a : Addr} {xs : List V} {ds : List PyData} : SqT K H a xs → DqAll K H xs ds → Dq K H (.ref a) (.tuple ds)
  | dk {a : Addr} {kv : List (Key × V)} {kvs : List (PyData × PyData)} : Rd H a (.dK kv) → DqK K H kv kvs → Dq K H (.ref a) (.dict kvs)
  | dt {a : Addr} {kv : List (List Key × V)} {kvs : List (PyData × PyData)} : Rd H a (.dT kv) → DqT K H kv kvs → Dq K H (.ref a) (.dict kvs)
inductive DqAll (K : PySem.W.Frag) (H : Hp) : List V → List PyData → Prop
  | nil : DqAll K H [] []
  | cons {v : V} {vs : List V} {d : PyData} {ds : List PyData} : Dq K H v d → DqAll K H vs ds → DqAll K H (v :: vs) (d :: ds)
inductive DqK (K : PySem.W.Frag) (H : Hp) : List (Key × V) → List (PyData × PyData) → Prop
  | nil : DqK K H [] []
  | cons {k : Key} {v : V} {kv : List (Key × V)} {d : PyData} {kvs : List (PyData × PyData)} : Dq K H v d → DqK K H kv kvs → DqK K H ((k, v) :: kv) ((kD k, d) :: kvs)
inductive DqT (K : PySem.W.Frag) (H : Hp) : List (List Key × V) → List (PyData × PyData) → Prop
  | nil : DqT K H [] []
  | cons {k : List Key} {v : V} {kv : List (List Key × V)} {d : PyData} {kvs : List (PyData × PyData)} : Dq K H v d → DqT K H kv kvs → DqT K H ((k, v) :: kv) ((.tuple (k.map kD), d) :: kvs)
end
theorem Same.rd {H H' : Hp} {a : Addr} {u : HO} (e : Same H H') (h : Rd H a u) : Rd H' a u := by
  rcases h with h | ⟨o, h⟩
  · exact .inl (e _ _ h)
  · exact .inr ⟨o, e _ _ h⟩
theorem Rd.sq {K : PySem.W.Frag} {H : Hp} {a : Addr} {xs : List V} (h : Rd H a (.lst xs)) : SqL K H a xs := .inl h
theorem SqL.sq {K : PySem.W.Frag} {H : Hp} {a : Addr} {xs : List V} (h : SqL K H a xs) : SqL K H a xs := h
section
variable {K : PySem.W.Frag} {H H' : Hp}
mutual
theorem dp_mono (s : Same H H') : ∀ (d : PyData) (v : V), Dq K H v d → Dq K H' v d
  | .none, _, h => by cases h; exact .non
  | .bool b, _, h => by cases h; exact .bl b
  | .int i, _, h => by cases h; exact .int i
  | .str x, _, h => by cases h; exact .str x
  | .list ds, _, h => by
    cases h with
    | lst hs ha => exact .lst (s.seq hs) (dps_mono s ds _ ha)
  | .tuple ds, _, h => by
    cases h with
    | tup hs ha => exact .tup (s.seqT hs) (dps_mono s ds _ ha)
  | .dict kvs, _, h => by
    cases h with
    | dk hs ha => exact .dk (s.rd hs) (dpk_mono s kvs _ ha)
    | dt hs ha => exact .dt (s.rd hs) (dpt_mono s kvs _ ha)
theorem dps_mono (s : Same H H') : ∀ (ds : List PyData) (vs : List V), DqAll K H vs ds → DqAll K H' vs ds
  | [], _, h => by cases h; exact .nil
  | d :: ds, _, h => by
    cases h with
    | cons h1 h2 => exact .cons (dp_mono s d _ h1) (dps_mono s ds _ h2)
theorem dpk_mono (s : Same H H') : ∀ (ds : List (PyData × PyData)) (vs : List (Key × V)), DqK K H vs ds → DqK K H' vs ds
  | [], _, h => by cases h; exact .nil
  | (_, d) :: ds, _, h => by
    cases h with
    | cons h1 h2 => exact .cons (dp_mono s d _ h1) (dpk_mono s ds _ h2)
theorem dpt_mono (s : Same H H') : ∀ (ds : List (PyData × PyData)) (vs : List (List Key × V)), DqT K H vs ds → DqT K H' vs ds
  | [], _, h => by cases h; exact .nil
  | (_, d) :: ds, _, h => by
    cases h with
    | cons h1 h2 => exact .cons (dp_mono s d _ h1) (dpt_mono s ds _ h2)
end
mutual
/-- what == can look at -/
theorem dq_dp : ∀ (d : PyData) (v : V), d.canLay0 = true → Dq K H v d → Dp K H v d
  | .none, _, _, h => by cases h; exact .non
  | .bool b, _, _, h => by cases h; exact .bl b
  | .int i, _, _, h => by cases h; exact .int i
  | .str x, _, _, h => by cases h; exact .str x
  | .list ds, _, c, h => by
    cases h with
    | lst hs ha => exact .lst hs (dqs_dp ds _ (by simpa [PyData.canLay0] using c) ha)
  | .tuple ds, _, c, h => by
    cases h with
    | tup hs ha => exact .tup hs (dqs_dp ds _ (by simpa [PyData.canLay0] using c) ha)
  | .dict kvs, _, c, h => by simp [PyData.canLay0] at c
theorem dqs_dp : ∀ (ds : List PyData) (vs : List V), PyData.canLayAll0 ds = true → DqAll K H vs ds → DpAll K H vs ds
  | [], _, _, h => by cases h; exact .nil
  | d :: ds, _, c, h => by
    rw [PyData.canLayAll0, Bool.and_eq_true] at c
    cases h with
    | cons h1 h2 => exact .cons (dq_dp d _ c.1 h1) (dqs_dp ds _ c.2 h2)
end
theorem Dq.mono {v : V} {d : Da} (s : Same H H') (h : Dq K H v d) : Dq K H' v d := dp_mono s d v h
theorem DqAll.mono {vs : List V} {ds : List Da} (s : Same H H') (h : DqAll K H vs ds) : DqAll K H' vs ds := dps_mono s ds vs h
theorem DqK.mono {vs : List (Key × V)} {ds : List (PyData × PyData)} (s : Same H H') (h : DqK K H vs ds) : DqK K H' vs ds := dpk_mono s ds vs h
theorem DqT.mono {vs : List (List Key × V)} {ds : List (PyData × PyData)} (s : Same H H') (h : DqT K H vs ds) : DqT K H' vs ds := dpt_mono s ds vs h
theorem DqAll.length : ∀ {vs : List V} {ds : List Da}, DqAll K H vs ds → vs.length = ds.length
  | _, _, .nil => rfl
  | _, _, .cons _ t => congrArg (· + 1) (DqAll.length t)
theorem DqAll.get : ∀ {vs : List V} {ds : List Da} {i : Nat} {d : Da}, DqAll K H vs ds → ds[i]? = some d → ∃ v, vs[i]? = some v ∧ Dq K H v d
  | _, _, _, _, .nil, e => by simp at e
  | _, _, 0, _, .cons r _, e => by simp at e; subst e; exact ⟨_, rfl, r⟩
  | _, _, i + 1, _, .cons _ t, e => by
    obtain ⟨v, h1, h2⟩ := DqAll.get (i := i) t (by simpa using e)
    exact ⟨v, by simpa using h1, h2⟩
theorem DqAll.getV : ∀ {vs : List V} {ds : List Da} {i : Nat} {v : V}, DqAll K H vs ds → vs[i]? = some v → ∃ d, ds[i]? = some d ∧ Dq K H v d
  | _, _, _, _, .nil, e => by simp at e
  | _, _, 0, _, .cons r _, e => by simp at e; subst e; exact ⟨_, rfl, r⟩
  | _, _, i + 1, _, .cons _ t, e => by
    obtain ⟨v, h1, h2⟩ := DqAll.getV (i := i) t (by simpa using e)
    exact ⟨v, by simpa using h1, h2⟩
theorem DqAll.append : ∀ {vs ws : List V} {ds es : List Da}, DqAll K H vs ds → DqAll K H ws es → DqAll K H (vs ++ ws) (ds ++ es)
  | _, _, _, _, .nil, s => s
  | _, _, _, _, .cons r t, s => .cons r (DqAll.append t s)
theorem DqAll.set {v : V} {d : Da} (r : Dq K H v d) : ∀ {vs : List V} {ds : List Da} (i : Nat), DqAll K H vs ds → DqAll K H (vs.set i v) (ds.set i d)
  | _, _, _, .nil => .nil
  | _, _, 0, .cons _ t => .cons r t
  | _, _, i + 1, .cons q t => .cons q (DqAll.set r i t)
theorem DqAll.take : ∀ {vs : List V} {ds : List Da} (n : Nat), DqAll K H vs ds → DqAll K H (vs.take n) (ds.take n)
  | _, _, 0, _ => .nil
  | _, _, _ + 1, .nil => .nil
  | _, _, n + 1, .cons r t => .cons r (DqAll.take n t)
theorem DqAll.drop : ∀ {vs : List V} {ds : List Da} (n : Nat), DqAll K H vs ds → DqAll K H (vs.drop n) (ds.drop n)
  | _, _, 0, r => r
  | _, _, _ + 1, .nil => .nil
  | _, _, n + 1, .cons _ t => DqAll.drop n t
theorem DqAll.dropLast {vs : List V} {ds : List Da} (h : DqAll K H vs ds) : DqAll K H vs.dropLast ds.dropLast := by
  rw [List.dropLast_eq_take, List.dropLast_eq_take, h.length]
  exact h.take _
theorem DqAll.rev {vs : List V} {ds : List Da} (h : DqAll K H vs ds) : DqAll K H vs.reverse ds.reverse := by
  induction ds generalizing vs with
  | nil => cases h; exact .nil
  | cons d ds ih =>
    cases h with
    | cons r t =>
      rw [List.reverse_cons, List.reverse_cons]
      exact (ih t).append (.cons r .nil)
theorem DqAll.rep {vs : List V} {ds : List Da} (h : DqAll K H vs ds) : ∀ k : Nat, DqAll K H (List.replicate k vs).flatten (List.replicate k ds).flatten
  | 0 => .nil
  | k + 1 => by
    rw [List.replicate_succ, List.replicate_succ, List.flatten_cons, List.flatten_cons]
    exact h.append (DqAll.rep h k)
end

/-! ### slots -/
section
variable (K : PySem.W.Frag) (Hs H : Hp)
def LolAll : List Addr → List (List Da) → Prop
  | [], [] => True
  | p :: ps, xs :: xss => (∃ vs, H p = some (.lst vs) ∧ DqAll K Hs vs xs) ∧ LolAll ps xss
  | _, _ => False
def OwnAt : Option V → OV → List Addr → Prop
  | some (.ref p), .lst xs, F => F = [p] ∧ ∃ vs, H p = some (.lst vs) ∧ DqAll K Hs vs xs
  | some (.ref p), .dk kvs, F => F = [p] ∧ ∃ kv, H p = some (.dK kv) ∧ DqK K Hs kv kvs
  | some (.ref p), .dt kvs, F => F = [p] ∧ ∃ kv, H p = some (.dT kv) ∧ DqT K Hs kv kvs
  | some (.ref p), .lol xss, F => ∃ ps, F = p :: ps ∧ H p = some (.lst (ps.map V.ref)) ∧ LolAll K Hs H ps xss
  | _, _, _ => False
def SlOk : Option V → Sl → List Addr → Prop
  | _, .un, F => F = []
  | some v, .val d, F => Dq K Hs v d ∧ F = []
  | none, .val _, _ => False
  | v, .own o, F => OwnAt K Hs H v o F
def SlAll : St → Sls → List (List Addr) → Prop
  | [], [], [] => True
  | v :: σ, s :: ρ, F :: Fs => SlOk K Hs H v s F ∧ SlAll σ ρ Fs
  | _, _, _ => False
end
section
variable {K : PySem.W.Frag} {Hs Hs' H H' : Hp}
theorem LolAll.mono (s : Same Hs Hs') : ∀ {ps : List Addr} {xss : List (List Da)}, (∀ a ∈ ps, H' a = H a) → LolAll K Hs H ps xss → LolAll K Hs' H' ps xss
  | [], [], _, _ => trivial
  | p :: ps, xs :: xss, k, ⟨⟨vs, h1, h2⟩, h3⟩ => ⟨⟨vs, by rw [k p List.mem_cons_self]; exact h1, h2.mono s⟩, LolAll.mono s (fun a ha => k a (List.mem_cons_of_mem _ ha)) h3⟩
  | [], _ :: _, _, h => h.elim
  | _ :: _, [], _, h => h.elim
theorem OwnAt.mono (s : Same Hs Hs') : ∀ {v : Option V} {o : OV} {F : List Addr}, (∀ a ∈ F, H' a = H a) → OwnAt K Hs H v o F → OwnAt K Hs' H' v o F := by
  intro v o F k h
  cases v with
  | none => cases o <;> exact h.elim
  | some v =>
    cases v with
    | ref p =>
      cases o with
      | lst xs => obtain ⟨rfl, vs, h1, h2⟩ := h; exact ⟨rfl, vs, by rw [k p List.mem_cons_self]; exact h1, h2.mono s⟩
      | dk kvs => obtain ⟨rfl, vs, h1, h2⟩ := h; exact ⟨rfl, vs, by rw [k p List.mem_cons_self]; exact h1, h2.mono s⟩
      | dt kvs => obtain ⟨rfl, vs, h1, h2⟩ := h; exact ⟨rfl, vs, by rw [k p List.mem_cons_self]; exact h1, h2.mono s⟩
      | lol xss => obtain ⟨ps, rfl, h1, h2⟩ := h; exact ⟨ps, rfl, by rw [k p List.mem_cons_self]; exact h1, h2.mono s fun a ha => k a (List.mem_cons_of_mem _ ha)⟩
    | _ => cases o <;> exact h.elim
theorem SlOk.mono (s : Same Hs Hs') {v : Option V} {sl : Sl} {F : List Addr} (k : ∀ a ∈ F, H' a = H a) (h : SlOk K Hs H v sl F) : SlOk K Hs' H' v sl F := by
  cases sl with
  | un => cases v <;> exact h
  | val d => cases v with
    | none => exact h
    | some v => exact ⟨h.1.mono s, h.2⟩
  | own o =>
    have h' : OwnAt K Hs H v o F := by cases v <;> exact h
    have q := OwnAt.mono s k h'
    cases v <;> exact q
theorem SlAll.mono (s : Same Hs Hs') : ∀ {σ : St} {ρ : Sls} {Fs : List (List Addr)}, (∀ F ∈ Fs, ∀ a ∈ F, H' a = H a) → SlAll K Hs H σ ρ Fs → SlAll K Hs' H' σ ρ Fs
  | [], [], [], _, _ => trivial
  | v :: σ, sl :: ρ, F :: Fs, k, ⟨h1, h2⟩ => ⟨h1.mono s (k F List.mem_cons_self), SlAll.mono s (fun G hG => k G (List.mem_cons_of_mem _ hG)) h2⟩
  | [], [], _ :: _, _, h => h.elim
  | [], _ :: _, _, _, h => h.elim
  | _ :: _, [], _, _, h => h.elim
  | _ :: _, _ :: _, [], _, h => h.elim
theorem SlAll.get : ∀ {σ : St} {ρ : Sls} {Fs : List (List Addr)} {i : Nat} {s : Sl}, SlAll K Hs H σ ρ Fs → ρ[i]? = some s → ∃ v F, σ[i]? = some v ∧ Fs[i]? = some F ∧ SlOk K Hs H v s F
  | [], [], [], i, s, _, e => by simp at e
  | v :: σ, sl :: ρ, F :: Fs, 0, s, ⟨h1, _⟩, e => by simp at e; subst e; exact ⟨v, F, rfl, rfl, h1⟩
  | v :: σ, sl :: ρ, F :: Fs, i + 1, s, ⟨_, h2⟩, e => by
    obtain ⟨v', F', a, b, c⟩ := SlAll.get (i := i) h2 (by simpa using e)
    exact ⟨v', F', by simpa using a, by simpa using b, c⟩
  | [], [], _ :: _, _, _, h, _ => h.elim
  | [], _ :: _, _, _, _, h, _ => h.elim
  | _ :: _, [], _, _, _, h, _ => h.elim
  | _ :: _, _ :: _, [], _, _, h, _ => h.elim
theorem SlAll.set {v : Option V} {s : Sl} {F : List Addr} (q : SlOk K Hs H v s F) : ∀ {σ : St} {ρ : Sls} {Fs : List (List Addr)} (i : Nat), SlAll K Hs H σ ρ Fs → SlAll K Hs H (σ.set i v) (ρ.set i s) (Fs.set i F)
  | [], [], [], _, _ => trivial
  | _ :: _, _ :: _, _ :: _, 0, ⟨_, h2⟩ => ⟨q, h2⟩
  | _ :: _, _ :: _, _ :: _, i + 1, ⟨h1, h2⟩ => ⟨h1, SlAll.set q i h2⟩
  | [], [], _ :: _, _, h => h.elim
  | [], _ :: _, _, _, h => h.elim
  | _ :: _, [], _, _, h => h.elim
  | _ :: _, _ :: _, [], _, h => h.elim
theorem SlAll.lens : ∀ {σ : St} {ρ : Sls} {Fs : List (List Addr)}, SlAll K Hs H σ ρ Fs → σ.length = ρ.length ∧ Fs.length = ρ.length
  | [], [], [], _ => ⟨rfl, rfl⟩
  | _ :: _, _ :: _, _ :: _, ⟨_, h⟩ => by
    obtain ⟨a, b⟩ := SlAll.lens h
    exact ⟨congrArg (· + 1) a, congrArg (· + 1) b⟩
  | [], [], _ :: _, h => h.elim
  | [], _ :: _, _, h => h.elim
  | _ :: _, [], _, h => h.elim
  | _ :: _, _ :: _, [], h => h.elim
end

/-- the hidden addresses: those of the callers, those of this frame -/
def Ow (O₀ : Addr → Prop) (Fs : List (List Addr)) : Addr → Prop := fun a => O₀ a ∨ ∃ F ∈ Fs, a ∈ F

structure RS (K : PySem.W.Frag) (O₀ : Addr → Prop) (H₀ : Hp) (Fs : List (List Addr)) (H : Hp) (σ : St) (ρ : Sls) : Prop where
  same : Same H₀ H
  new : ∀ F ∈ Fs, ∀ a ∈ F, H₀ a = none
  o0 : ∀ a, O₀ a → H a ≠ none
  nO : ∀ F ∈ Fs, ∀ a ∈ F, ¬ O₀ a
  there : ∀ F ∈ Fs, ∀ a ∈ F, H a ≠ none
  nd : ∀ F ∈ Fs, F.Nodup
  dj : ∀ (i j : Nat) (F G : List Addr) (a : Addr), Fs[i]? = some F → Fs[j]? = some G → a ∈ F → a ∈ G → i = j
  sl : SlAll K (hid (Ow O₀ Fs) H) H σ ρ Fs

section
variable {K : PySem.W.Frag} {O₀ : Addr → Prop} {H₀ H H' : Hp} {Fs : List (List Addr)} {σ : St} {ρ : Sls}
theorem RS.mono (r : RS K O₀ H₀ Fs H σ ρ) (s : Same H H') : RS K O₀ H₀ Fs H' σ ρ where
  same := r.same.trans s
  new := r.new
  o0 := fun a h z => r.o0 a h (s.free z)
  nO := r.nO
  there := fun F hF a ha => by
    intro z
    exact r.there F hF a ha (s.free z)
  nd := r.nd
  dj := r.dj
  sl := r.sl.mono (hid_same s) fun F hF a ha => by
    cases e : H a with
    | none => exact absurd e (r.there F hF a ha)
    | some x => exact s a x e
end

/-! ### what an expression gives -/
abbrev Rel := (Addr → Prop) → Hp → Hp → V → Da → Prop
/-- borrowed: it may be a list that a name owns -/
def Br (K : PySem.W.Frag) (O : Addr → Prop) (H : Hp) (v : V) (d : Da) : Prop :=
  Dq K (hid O H) v d ∨ ∃ p vs xs, v = .ref p ∧ d = .list xs ∧ H p = some (.lst vs) ∧ DqAll K (hid O H) vs xs
def rE (K : PySem.W.Frag) : Rel := fun O H H' v d => Same H H' ∧ Dq K (hid O H') v d
def rB (K : PySem.W.Frag) : Rel := fun O H H' v d => Same H H' ∧ Br K O H' v d
/-- a new list -/
def rF (K : PySem.W.Frag) : Rel := fun O H H' v d => ∃ H1 p vs xs, Same H H1 ∧ H1 p = none ∧ H' = upd H1 p (.lst vs) ∧ v = .ref p ∧ d = .list xs ∧ DqAll K (hid O H1) vs xs
structure RelOk (Rl : Rel) : Prop where
  pre : ∀ {O H H1 H' v d}, Same H H1 → Rl O H1 H' v d → Rl O H H' v d
  same : ∀ {O H H' v d}, Rl O H H' v d → Same H H'
section
variable {K : PySem.W.Frag} {O : Addr → Prop} {H H' : Hp} {v : V} {d : Da}
theorem rE_ok : RelOk (rE K) := ⟨fun s h => ⟨s.trans h.1, h.2⟩, fun h => h.1⟩
theorem rB_ok : RelOk (rB K) := ⟨fun s h => ⟨s.trans h.1, h.2⟩, fun h => h.1⟩
theorem rF_ok : RelOk (rF K) := ⟨fun s ⟨H1, p, vs, xs, a, b⟩ => ⟨H1, p, vs, xs, s.trans a, b⟩, fun ⟨H1, p, vs, xs, a, b, c, _⟩ => c ▸ a.trans (same_new b)⟩
theorem rE_B (h : rE K O H H' v d) : rB K O H H' v d := ⟨h.1, .inl h.2⟩
theorem rF_E (ho : ∀ a, O a → H a ≠ none) (h : rF K O H H' v d) : rE K O H H' v d := by
  obtain ⟨H1, p, vs, xs, s1, n1, rfl, rfl, rfl, a⟩ := h
  have np : ¬ O p := fun z => ho p z (s1.free n1)
  refine ⟨s1.trans (same_new n1), .lst (.inl (.inl (by rw [hid_neg np, upd_same]))) (a.mono fun b o e => ?_)⟩
  obtain ⟨n, e⟩ := of_hid e
  rw [hid_neg n, upd_ne (ne_of_none e n1)]; exact e
theorem Br.dp (h : Br K O H v d) : Dq K H v d := by
  rcases h with h | ⟨p, vs, xs, rfl, rfl, h, a⟩
  · exact h.mono hid_le
  · exact .lst (.inl (.inl h)) (a.mono hid_le)
theorem Br.mono (s : Same H H') (h : Br K O H v d) : Br K O H' v d := by
  rcases h with h | ⟨p, vs, xs, rfl, rfl, h, a⟩
  · exact .inl (h.mono (hid_same s))
  · exact .inr ⟨p, vs, xs, rfl, rfl, s _ _ h, a.mono (hid_same s)⟩
theorem Br.list {xs : List Da} (h : Br K O H v (.list xs)) : ∃ p vs, v = .ref p ∧ SqL K H p vs ∧ DqAll K (hid O H) vs xs := by
  rcases h with h | ⟨p, vs, xs', rfl, e, h, a⟩
  · cases h with
    | lst hs ha => exact ⟨_, _, rfl, hid_le.seq hs, ha⟩
  · cases e
    exact ⟨p, vs, rfl, .inl (.inl h), a⟩
theorem Br.tuple {xs : List Da} (h : Br K O H v (.tuple xs)) : ∃ p vs, v = .ref p ∧ SqT K (hid O H) p vs ∧ DqAll K (hid O H) vs xs := by
  rcases h with h | ⟨p, vs, xs', rfl, e, h, a⟩
  · cases h with
    | tup hs ha => exact ⟨_, _, rfl, hs, ha⟩
  · cases e
theorem Br.int {i : Int} (h : Br K O H v (.int i)) : v = .int i := by
  rcases h with h | ⟨p, vs, xs', rfl, e, h, a⟩
  · cases h; rfl
  · cases e
theorem Br.bool {b : Bool} (h : Br K O H v (.bool b)) : v = .bl b := by
  rcases h with h | ⟨p, vs, xs', rfl, e, h, a⟩
  · cases h; rfl
  · cases e
theorem Br.str {x : Str} (h : Br K O H v (.str x)) : v = .str x := by
  rcases h with h | ⟨p, vs, xs', rfl, e, h, a⟩
  · cases h; rfl
  · cases e
theorem Br.non (h : Br K O H v .none) : v = .non := by
  rcases h with h | ⟨p, vs, xs', rfl, e, h, a⟩
  · cases h; rfl
  · cases e
end
/-- an exception's class and datum, as they lie -/
abbrev XI := Nat → Da → Value → Option Addr → Hp → Prop
section
variable (K : PySem.W.Frag) (I : XI)
def Post {α β : Type} (W : WX) (σ : St) (H : Hp) (Rl : Hp → β → α → Prop) (r : Rv α) (Q : β → Hp → Prop) : Prop := match r with
  | .ok a => ∀ b H', Rl H' b a → Q b H'
  | .exc c d => ∀ cls dx H', Same H H' → I c d cls dx H' → W cls dx σ H'
  | .bad => False
def tX (Rl : Rel) (W : WX) (f : Sls → Rv Da) : TE := fun σ H Q => ∃ O₀ H₀ Fs ρ, RS K O₀ H₀ Fs H σ ρ ∧ Post I W σ H (fun H' v d => Rl (Ow O₀ Fs) H H' v d) (f ρ) Q
abbrev tEv := tX K I (rE K)
abbrev tBw := tX K I (rB K)
abbrev tFr := tX K I (rF K)
def tT (W : WX) (f : Sls → Rv Bool) : TT := fun σ H Q => ∃ O₀ H₀ Fs ρ, RS K O₀ H₀ Fs H σ ρ ∧ Post I W σ H (fun H' b a => Same H H' ∧ b = a) (f ρ) Q
/-- arguments: values that nothing changes -/
def tAs (W : WX) (f : Sls → Rv (List Da)) : TA := fun σ H Q => ∃ O₀ H₀ Fs ρ, RS K O₀ H₀ Fs H σ ρ ∧ Post I W σ H (fun H' vs ds => Same H H' ∧ DqAll K (hid (Ow O₀ Fs) H') vs ds) (f ρ) Q
/-- .. borrowed -/
def BrAll (K : PySem.W.Frag) (O : Addr → Prop) (H : Hp) : List V → List Da → Prop
  | [], [] => True
  | v :: vs, d :: ds => Br K O H v d ∧ BrAll K O H vs ds
  | _, _ => False
def tBs (W : WX) (f : Sls → Rv (List Da)) : TA := fun σ H Q => ∃ O₀ H₀ Fs ρ, RS K O₀ H₀ Fs H σ ρ ∧ Post I W σ H (fun H' vs ds => Same H H' ∧ BrAll K (Ow O₀ Fs) H' vs ds) (f ρ) Q
end
theorem BrAll.mono {K : PySem.W.Frag} {O : Addr → Prop} {H H' : Hp} (s : Same H H') : ∀ {vs : List V} {ds : List Da}, BrAll K O H vs ds → BrAll K O H' vs ds
  | [], [], _ => trivial
  | _ :: _, _ :: _, ⟨a, b⟩ => ⟨a.mono s, BrAll.mono s b⟩
  | [], _ :: _, h => h.elim
  | _ :: _, [], h => h.elim
theorem Ow.there {K : PySem.W.Frag} {O₀ : Addr → Prop} {H₀ H : Hp} {Fs : List (List Addr)} {σ : St} {ρ : Sls} (r : RS K O₀ H₀ Fs H σ ρ) : ∀ a, Ow O₀ Fs a → H a ≠ none := by
  rintro a (h | ⟨F, hF, ha⟩)
  · exact r.o0 a h
  · exact r.there F hF a ha
section
variable {X : Cx} {I : XI} {W : WX} {e a b : Expr} {pos : Pos} {f g : Sls → Rv Da}
theorem pe_weak {t t' : TE} (h : PE X e t) (k : ∀ σ H Q, t' σ H Q → t σ H Q) : PE X e t' := ⟨fun pins s σ H Q J q => h.run pins s σ H Q J (k σ H Q q)⟩
theorem post_weak {α β : Type} {σ : St} {H : Hp} {Rl Rl' : Hp → β → α → Prop} {r : Rv α} {Q : β → Hp → Prop} (k : ∀ H' b a, Rl' H' b a → Rl H' b a) (p : Post I W σ H Rl r Q) : Post I W σ H Rl' r Q := by
  cases r with
  | ok a => exact fun b H' h => p b H' (k H' b a h)
  | exc c d => exact p
  | bad => exact p
/-- a value is a borrowed one -/
theorem b_e (h : PE X e (tEv X.K I W f)) : PE X e (tBw X.K I W f) := pe_weak h fun σ H Q ⟨O₀, H₀, Fs, ρ, r, p⟩ => ⟨O₀, H₀, Fs, ρ, r, post_weak (fun _ _ _ z => rE_B z) p⟩
/-- a new list is a value -/
theorem e_f (h : PE X e (tFr X.K I W f)) : PE X e (tEv X.K I W f) := pe_weak h fun σ H Q ⟨O₀, H₀, Fs, ρ, r, p⟩ => ⟨O₀, H₀, Fs, ρ, r, post_weak (fun _ _ _ z => rF_E (Ow.there r) z) p⟩
end
end L2
end

section
set_option Elab.async false
set_option linter.all false
set_option maxRecDepth 100000
namespace L2
open PySem PySem.Spec PyProof.Rows

/-! ### the meanings -/
def xV (i : Nat) : Sls → Rv Da := fun ρ => match ρ[i]? with
  | some (.val d) => .ok d
  | _ => .bad
def xB (i : Nat) : Sls → Rv Da := fun ρ => match ρ[i]? with
  | some (.val d) => .ok d
  | some (.own (.lst xs)) => .ok (.list xs)
  | _ => .bad
def xK (d : Da) : Sls → Rv Da := fun _ => .ok d
def x1 (p : Da → Option Da) (f : Sls → Rv Da) : Sls → Rv Da := fun ρ => (f ρ).bind fun x => Rv.ofO (p x)
def x2 (p : Da → Da → Option Da) (f g : Sls → Rv Da) : Sls → Rv Da := fun ρ => (f ρ).bind fun x => (g ρ).bind fun y => Rv.ofO (p x y)
def x3 (p : Da → Da → Da → Option Da) (f g h : Sls → Rv Da) : Sls → Rv Da := fun ρ => (f ρ).bind fun x => (g ρ).bind fun y => (h ρ).bind fun z => Rv.ofO (p x y z)
def xs0 : Sls → Rv (List Da) := fun _ => .ok []
def xsc (f : Sls → Rv Da) (g : Sls → Rv (List Da)) : Sls → Rv (List Da) := fun ρ => (f ρ).bind fun d => (g ρ).bind fun ds => .ok (d :: ds)
def mkTup (ds : List Da) : Rv Da := if ds.length < 1000 then .ok (.tuple ds) else .bad
def mkLst (ds : List Da) : Rv Da := if ds.length < 1000 then .ok (.list ds) else .bad
def xTup (f : Sls → Rv (List Da)) : Sls → Rv Da := fun ρ => (f ρ).bind mkTup
def xLst (f : Sls → Rv (List Da)) : Sls → Rv Da := fun ρ => (f ρ).bind mkLst
def asB : Da → Rv Bool
  | .bool b => .ok b
  | _ => .bad
/-- truth of a value -/
def truD : Da → Option Bool
  | .none => some false
  | .bool b => some b
  | .int i => some (i != 0)
  | .str x => if x.cps.toList.length ≤ 16777216 then some (!x.cps.toList.isEmpty) else none
  | .list xs => some (!xs.isEmpty)
  | .tuple xs => some (!xs.isEmpty)
  | .dict _ => none
def xAnd (f g : Sls → Rv Da) : Sls → Rv Da := fun ρ => (f ρ).bind fun x => (asB x).bind fun b => if b = true then g ρ else .ok (.bool false)
def xOr (f g : Sls → Rv Da) : Sls → Rv Da := fun ρ => (f ρ).bind fun x => (asB x).bind fun b => if b = true then .ok (.bool true) else g ρ
def xNot (f : Sls → Rv Da) : Sls → Rv Da := fun ρ => (f ρ).bind fun x => (asB x).bind fun b => .ok (.bool (!b))
def xIf (t : Sls → Rv Bool) (f g : Sls → Rv Da) : Sls → Rv Da := fun ρ => (t ρ).bind fun b => if b = true then f ρ else g ρ
/-- a op b op' c -/
def xCh (p q : Da → Da → Option Da) (f g h : Sls → Rv Da) : Sls → Rv Da := fun ρ => (f ρ).bind fun x => (g ρ).bind fun y => (Rv.ofO (p x y)).bind fun z => (asB z).bind fun b =>
  if b = true then (h ρ).bind fun w => Rv.ofO (q y w) else .ok (.bool false)
def zB (f : Sls → Rv Da) : Sls → Rv Bool := fun ρ => (f ρ).bind asB
def zTru (f : Sls → Rv Da) : Sls → Rv Bool := fun ρ => (f ρ).bind fun x => Rv.ofO (truD x)
def zAnd (f g : Sls → Rv Bool) : Sls → Rv Bool := fun ρ => (f ρ).bind fun b => if b = true then g ρ else .ok false
def zOr (f g : Sls → Rv Bool) : Sls → Rv Bool := fun ρ => (f ρ).bind fun b => if b = true then .ok true else g ρ
def zNot (f : Sls → Rv Bool) : Sls → Rv Bool := fun ρ => (f ρ).bind fun b => .ok (!b)
def zYes : Sls → Rv Bool := fun _ => .ok true
/-- a def's call -/
def xCall (m : List Da → Rv Da) (f : Sls → Rv (List Da)) : Sls → Rv Da := fun ρ => (f ρ).bind m

/-! ### putting readings together -/
section
variable {K : PySem.W.Frag} {I : XI} {W : WX} {σ : St} {H H1 : Hp}
theorem Post.first {α β γ δ : Type} {Rl1 : Hp → β → α → Prop} {Rl2 : Hp → δ → γ → Prop} {r : Rv α} {k : α → Rv γ} {Q1 : β → Hp → Prop} {Q2 : δ → Hp → Prop} (p : Post I W σ H Rl2 (r.bind k) Q2)
    (h : ∀ a, r = .ok a → Post I W σ H Rl2 (k a) Q2 → ∀ b H', Rl1 H' b a → Q1 b H') : Post I W σ H Rl1 r Q1 := by
  cases r with
  | ok a => exact h a rfl p
  | exc c d => exact p
  | bad => exact p
theorem Post.at {α β : Type} {Rl : Hp → β → α → Prop} {r : Rv α} {Q : β → Hp → Prop} (p : Post I W σ H Rl r Q) (s : Same H H1) : Post I W σ H1 Rl r Q := by
  cases r with
  | ok a => exact p
  | exc c d => exact fun cls dx H' s' h => p cls dx H' (s.trans s') h
  | bad => exact p
theorem Post.opt {α β : Type} {Rl : Hp → β → α → Prop} {r : Option α} {Q : β → Hp → Prop} (p : Post I W σ H Rl (Rv.ofO r) Q) : ∃ a, r = some a ∧ ∀ b H', Rl H' b a → Q b H' := by
  cases r with
  | some a => exact ⟨a, rfl, p⟩
  | none => exact p.elim
end

/-- what an operation by values must do to serve the pure p -/
def OpS (K : PySem.W.Frag) (Rl : Rel) (r : R2) (p : Da → Da → Option Da) : Prop := ∀ O H v u x y d (Q : VK), (∀ a, O a → H a ≠ none) → Br K O H v x → Br K O H u y → p x y = some d → (∀ w H', Rl O H H' w d → Q w H') → r v u H Q
def CallS1 (K : PySem.W.Frag) (Rl : Rel) (r : List V → Hp → VK → Prop) (p : Da → Option Da) : Prop := ∀ O H v x d (Q : VK), (∀ a, O a → H a ≠ none) → Br K O H v x → p x = some d → (∀ w H', Rl O H H' w d → Q w H') → r [v] H Q
def CallS2 (K : PySem.W.Frag) (Rl : Rel) (r : List V → Hp → VK → Prop) (p : Da → Da → Option Da) : Prop := ∀ O H v u x y d (Q : VK), (∀ a, O a → H a ≠ none) → Br K O H v x → Br K O H u y → p x y = some d → (∀ w H', Rl O H H' w d → Q w H') → r [v, u] H Q
def UnS (K : PySem.W.Frag) (Rl : Rel) (r : V → Hp → VK → Prop) (p : Da → Option Da) : Prop := ∀ O H v x d (Q : VK), (∀ a, O a → H a ≠ none) → Br K O H v x → p x = some d → (∀ w H', Rl O H H' w d → Q w H') → r v H Q
def MtS1 (K : PySem.W.Frag) (Rl : Rel) (T : String) (r : V → List V → Hp → VK → Prop) (p : Da → Da → Option Da) : Prop := ∀ O H v u x y d (Q : VK), (∀ a, O a → H a ≠ none) → Br K O H v x → Br K O H u y → p x y = some d →
  (∀ w H', Rl O H H' w d → Q w H') → r v [u] H Q
section
variable {X : Cx} {I : XI} {W : WX} {e a b c : Expr} {es : List Expr} {pos : Pos} {f g h : Sls → Rv Da} {fs : Sls → Rv (List Da)} {Rl : Rel} {p q : Da → Da → Option Da} {p1 : Da → Option Da}
theorem two {K : PySem.W.Frag} {r : R2} (ok : RelOk Rl) (hp : OpS K Rl r p) : ∀ σ H Q, tX K I Rl W (x2 p f g) σ H Q → tOp r (tBw K I W f) (tBw K I W g) σ H Q := by
  rintro σ H Q ⟨O₀, H₀, Fs, ρ, rs, po⟩
  refine ⟨O₀, H₀, Fs, ρ, rs, po.first fun x _ po v H1 ⟨s1, b1⟩ => ?_⟩
  refine ⟨O₀, H₀, Fs, ρ, rs.mono s1, (po.at s1).first fun y _ po u H2 ⟨s2, b2⟩ => ?_⟩
  obtain ⟨d, hd, po⟩ := po.opt
  exact hp _ _ v u x y d Q (Ow.there ((rs.mono s1).mono s2)) (b1.mono s2) b2 hd fun w H' z => po w H' (ok.pre (s1.trans s2) z)
/-! ### names, constants -/
theorem v_val (i : Nat) {x : Str} {pos : Pos} (hN : X.N[i]? = some x := by rfl) (hv : Vis X.env.scope x := by first | exact Or.inl rfl | exact Or.inr (Or.inl rfl) | exact Or.inr (Or.inr rfl)) (hd : (x == ("__debug__" : Str)) = false := by decide)
    (hcd : (x == ("__classdict__" : Str)) = false := by decide) : PE X (.Name x pos) (tEv X.K I W (xV i)) := pe_weak (pe_var hN hv hd hcd) fun σ H Q ⟨O₀, H₀, Fs, ρ, rs, po⟩ => by
  cases e : ρ[i]? with
  | none => unfold xV at po; rw [e] at po; exact po.elim
  | some sl =>
    cases sl with
    | un => unfold xV at po; rw [e] at po; exact po.elim
    | own o => unfold xV at po; rw [e] at po; exact po.elim
    | val d =>
      unfold xV at po; rw [e] at po
      obtain ⟨v, F, h1, _, h3⟩ := rs.sl.get e
      cases v with
      | none => exact h3.elim
      | some v => exact ⟨v, h1, po v H ⟨Same.refl _, h3.1⟩⟩
theorem v_bor (i : Nat) {x : Str} {pos : Pos} (hN : X.N[i]? = some x := by rfl) (hv : Vis X.env.scope x := by first | exact Or.inl rfl | exact Or.inr (Or.inl rfl) | exact Or.inr (Or.inr rfl)) (hd : (x == ("__debug__" : Str)) = false := by decide)
    (hcd : (x == ("__classdict__" : Str)) = false := by decide) : PE X (.Name x pos) (tBw X.K I W (xB i)) := pe_weak (pe_var hN hv hd hcd) fun σ H Q ⟨O₀, H₀, Fs, ρ, rs, po⟩ => by
  cases e : ρ[i]? with
  | none => unfold xB at po; rw [e] at po; exact po.elim
  | some sl =>
    cases sl with
    | un => unfold xB at po; rw [e] at po; exact po.elim
    | own o =>
      cases o with
      | lst xs =>
        unfold xB at po; rw [e] at po
        obtain ⟨v, F, h1, _, h3⟩ := rs.sl.get e
        cases v with
        | none => exact h3.elim
        | some v =>
          cases v with
          | ref p =>
            obtain ⟨_, vs, h4, h5⟩ := h3
            exact ⟨.ref p, h1, po _ H ⟨Same.refl _, .inr ⟨p, vs, xs, rfl, rfl, h4, h5⟩⟩⟩
          | _ => exact h3.elim
      | _ => unfold xB at po; rw [e] at po; exact po.elim
    | val d =>
      unfold xB at po; rw [e] at po
      obtain ⟨v, F, h1, _, h3⟩ := rs.sl.get e
      cases v with
      | none => exact h3.elim
      | some v => exact ⟨v, h1, po v H ⟨Same.refl _, .inl h3.1⟩⟩
theorem k_of {v : V} {d : Da} (h : PE X e (tC v)) (k : ∀ K H, Dq K H v d) : PE X e (tEv X.K I W (xK d)) := pe_weak h fun σ H Q ⟨O₀, H₀, Fs, ρ, rs, po⟩ => po v H ⟨Same.refl _, k _ _⟩
theorem k_int {i : Int} {j pos} : PE X (.Constant (.int i) j pos) (tEv X.K I W (xK (.int i))) := k_of pe_int fun _ _ => .int i
theorem k_str {x : Str} {j pos} : PE X (.Constant (.str x) j pos) (tEv X.K I W (xK (.str x))) := k_of pe_str fun _ _ => .str x
theorem k_bl {b : Bool} {j pos} : PE X (.Constant (.bool b) j pos) (tEv X.K I W (xK (.bool b))) := k_of pe_bl fun _ _ => .bl b
theorem k_non {j pos} : PE X (.Constant .none j pos) (tEv X.K I W (xK .none)) := k_of pe_non fun _ _ => .non
/-- a module's constant -/
theorem k_gint {x : Str} {i : Int} {t : Tok} {pos : Pos} (hm : X.mg x = some (.int i t)) (hg : Gl X x := by rfl) (hd : (x == ("__debug__" : Str)) = false := by decide) : PE X (.Name x pos) (tEv X.K I W (xK (.int i))) :=
  k_of (v := .int i) (pe_glob hg hm ⟨t, rfl⟩ hd) fun _ _ => .int i
theorem k_gstr {x : Str} {z : Str} {t : Tok} {pos : Pos} (hm : X.mg x = some (.str z t)) (hg : Gl X x := by rfl) (hd : (x == ("__debug__" : Str)) = false := by decide) : PE X (.Name x pos) (tEv X.K I W (xK (.str z))) :=
  k_of (v := .str z) (pe_glob hg hm ⟨t, rfl⟩ hd) fun _ _ => .str z

/-! ### operators -/
theorem o_bin {op : Operator} {r : R2} (ok : RelOk Rl) (ho : OpR X (binaryOp op) r) (hp : OpS X.K Rl r p) (ha : PE X a (tBw X.K I W f)) (hb : PE X b (tBw X.K I W g)) : PE X (.BinOp a op b pos) (tX X.K I Rl W (x2 p f g)) :=
  pe_weak (pe_op ho ha hb) (two ok hp)
theorem o_cmp {op : CmpOp} {r : R2} (ok : RelOk Rl) (ho : OpR X (compareOp op) r) (hp : OpS X.K Rl r p) (ha : PE X a (tBw X.K I W f)) (hb : PE X b (tBw X.K I W g)) (hm : behindInMarks op b = false := by rfl) :
    PE X (.Compare a [op] [b] pos) (tX X.K I Rl W (x2 p f g)) := pe_weak (pe_cmpR ho ha hb hm) (two ok hp)
theorem o_ix {r : R2} (ok : RelOk Rl) (hr : IxR X r) (hp : OpS X.K Rl r p) (ha : PE X a (tBw X.K I W f)) (hb : PE X b (tBw X.K I W g)) (hs : PlainIx b := by exact fun _ _ => rfl) : PE X (.Subscript a b pos) (tX X.K I Rl W (x2 p f g)) :=
  pe_weak (pe_ix hr ha hb hs) (two ok hp)
theorem o_un {op : UnaryOp} {r : V → Hp → VK → Prop} (ok : RelOk Rl) (ho : UnR X (unaryOp op) r) (hp : UnS X.K Rl r p1) (ha : PE X a (tBw X.K I W f)) : PE X (.UnaryOp op a pos) (tX X.K I Rl W (x1 p1 f)) :=
  pe_weak (pe_un ho ha) fun σ H Q ⟨O₀, H₀, Fs, ρ, rs, po⟩ => ⟨O₀, H₀, Fs, ρ, rs, po.first fun x _ po v H1 ⟨s1, b1⟩ => by
    obtain ⟨d, hd, po⟩ := po.opt
    exact hp _ _ v x d Q (Ow.there (rs.mono s1)) b1 hd fun w H' z => po w H' (ok.pre s1 z)⟩
/-! ### built-in calls -/
theorem arg_1 {r : List V → Hp → VK → Prop} {K : PySem.W.Frag} (ok : RelOk Rl) (hp : CallS1 K Rl r p1) : ∀ σ H Q, tX K I Rl W (x1 p1 f) σ H Q → tCB r (tCons (tBw K I W f) tNil) σ H Q := by
  rintro σ H Q ⟨O₀, H₀, Fs, ρ, rs, po⟩
  refine ⟨O₀, H₀, Fs, ρ, rs, po.first fun x _ po v H1 ⟨s1, b1⟩ => ?_⟩
  obtain ⟨d, hd, po⟩ := po.opt
  exact hp _ _ v x d Q (Ow.there (rs.mono s1)) b1 hd fun w H' z => po w H' (ok.pre s1 z)
theorem arg_2 {r : List V → Hp → VK → Prop} {K : PySem.W.Frag} (ok : RelOk Rl) (hp : CallS2 K Rl r p) : ∀ σ H Q, tX K I Rl W (x2 p f g) σ H Q → tCB r (tCons (tBw K I W f) (tCons (tBw K I W g) tNil)) σ H Q := by
  rintro σ H Q ⟨O₀, H₀, Fs, ρ, rs, po⟩
  refine ⟨O₀, H₀, Fs, ρ, rs, po.first fun x _ po v H1 ⟨s1, b1⟩ => ?_⟩
  refine ⟨O₀, H₀, Fs, ρ, rs.mono s1, (po.at s1).first fun y _ po u H2 ⟨s2, b2⟩ => ?_⟩
  obtain ⟨d, hd, po⟩ := po.opt
  exact hp _ _ v u x y d Q (Ow.there ((rs.mono s1).mono s2)) (b1.mono s2) b2 hd fun w H' z => po w H' (ok.pre (s1.trans s2) z)
theorem c_b1 {x : Str} {id : String} {r : List V → Hp → VK → Prop} {pp : Pos} (ok : RelOk Rl) (hc : CallR X (.builtin id) r) (hp : CallS1 X.K Rl r p1) (hm : X.mg x = none) (ha : PE X a (tBw X.K I W f)) (hv : bootBuiltins x = some (.builtin id)) (hg : Gl X x := by rfl)
    (hn : x ≠ "__name__" := by decide) (hdb : (x == ("__debug__" : Str)) = false := by decide) (he : starEach (a :: []) X.env = (false, eval a X.env) :: starEach [] X.env := by rfl) :
    PE X (.Call (.Name x pp) [a] [] pos) (tX X.K I Rl W (x1 p1 f)) := pe_weak (pe_callB hc hg hm hv (pa_cons ha pa_nil he) hn hdb he rfl) (arg_1 ok hp)
theorem c_t1 {x : Str} {T : String} {r : List V → Hp → VK → Prop} {pp : Pos} (ok : RelOk Rl) (hc : CallR X (.type T) r) (hp : CallS1 X.K Rl r p1) (hm : X.mg x = none) (ha : PE X a (tBw X.K I W f)) (hv : bootBuiltins x = some (.type T)) (hg : Gl X x := by rfl)
    (hn : x ≠ "__name__" := by decide) (hdb : (x == ("__debug__" : Str)) = false := by decide) (he : starEach (a :: []) X.env = (false, eval a X.env) :: starEach [] X.env := by rfl) :
    PE X (.Call (.Name x pp) [a] [] pos) (tX X.K I Rl W (x1 p1 f)) := pe_weak (pe_callTy hc hg hm hv (pa_cons ha pa_nil he) hn hdb he rfl) (arg_1 ok hp)
theorem c_b2 {x : Str} {id : String} {r : List V → Hp → VK → Prop} {pp : Pos} (ok : RelOk Rl) (hc : CallR X (.builtin id) r) (hp : CallS2 X.K Rl r p) (hm : X.mg x = none) (ha : PE X a (tBw X.K I W f)) (hb : PE X b (tBw X.K I W g)) (hv : bootBuiltins x = some (.builtin id)) (hg : Gl X x := by rfl)
    (hn : x ≠ "__name__" := by decide) (hdb : (x == ("__debug__" : Str)) = false := by decide) (he : starEach [a, b] X.env = (false, eval a X.env) :: starEach [b] X.env := by rfl) (he2 : starEach [b] X.env = (false, eval b X.env) :: starEach [] X.env := by rfl) :
    PE X (.Call (.Name x pp) [a, b] [] pos) (tX X.K I Rl W (x2 p f g)) := pe_weak (pe_callB hc hg hm hv (pa_cons ha (pa_cons hb pa_nil he2) he) hn hdb he (by rw [he2]; rfl)) (arg_2 ok hp)
/-! ### and, or, not, if -/
theorem b_of {d : Da} {b : Bool} (h : asB d = .ok b) : d = .bool b := by
  cases d <;> simp [asB] at h
  subst h; rfl
theorem Post.asb {K : PySem.W.Frag} {α β : Type} {σ : St} {H : Hp} {Rl : Hp → β → α → Prop} {d : Da} {k : Bool → Rv α} {Q : β → Hp → Prop} (po : Post I W σ H Rl ((asB d).bind k) Q) : ∃ b, d = .bool b ∧ Post I W σ H Rl (k b) Q := by
  cases d with
  | bool b => exact ⟨b, rfl, po⟩
  | _ => exact po.elim
theorem o_one {op : BoolOp} {t : TE} (h : PE X a t) : PE X (.BoolOp op [a] pos) t := pe_one h
theorem o_and {rest : List Expr} (ha : PE X a (tEv X.K I W f)) (hb : PE X (.BoolOp .And (b :: rest) pos) (tEv X.K I W g)) : PE X (.BoolOp .And (a :: b :: rest) pos) (tEv X.K I W (xAnd f g)) :=
  pe_weak (pe_and ha hb) fun σ H Q ⟨O₀, H₀, Fs, ρ, rs, po⟩ => ⟨O₀, H₀, Fs, ρ, rs, po.first fun x _ po v H1 ⟨s1, b1⟩ => by
    obtain ⟨c, rfl, po⟩ := po.asb (K := X.K)
    cases b1
    refine ⟨c, rfl, ?_⟩
    cases c with
    | true => exact ⟨O₀, H₀, Fs, ρ, rs.mono s1, post_weak (fun H' v d z => ⟨s1.trans z.1, z.2⟩) (po.at s1)⟩
    | false => exact po (.bl false) H1 ⟨s1, .bl false⟩⟩
theorem o_or {rest : List Expr} (ha : PE X a (tEv X.K I W f)) (hb : PE X (.BoolOp .Or (b :: rest) pos) (tEv X.K I W g)) : PE X (.BoolOp .Or (a :: b :: rest) pos) (tEv X.K I W (xOr f g)) :=
  pe_weak (pe_or ha hb) fun σ H Q ⟨O₀, H₀, Fs, ρ, rs, po⟩ => ⟨O₀, H₀, Fs, ρ, rs, po.first fun x _ po v H1 ⟨s1, b1⟩ => by
    obtain ⟨c, rfl, po⟩ := po.asb (K := X.K)
    cases b1
    refine ⟨c, rfl, ?_⟩
    cases c with
    | false => exact ⟨O₀, H₀, Fs, ρ, rs.mono s1, post_weak (fun H' v d z => ⟨s1.trans z.1, z.2⟩) (po.at s1)⟩
    | true => exact po (.bl true) H1 ⟨s1, .bl true⟩⟩
theorem o_not (ha : PE X a (tEv X.K I W f)) : PE X (.UnaryOp .Not a pos) (tEv X.K I W (xNot f)) :=
  pe_weak (pe_not ha) fun σ H Q ⟨O₀, H₀, Fs, ρ, rs, po⟩ => ⟨O₀, H₀, Fs, ρ, rs, po.first fun x _ po v H1 ⟨s1, b1⟩ => by
    obtain ⟨c, rfl, po⟩ := po.asb (K := X.K)
    cases b1
    exact ⟨c, rfl, po (.bl (!c)) H1 ⟨s1, .bl _⟩⟩⟩
theorem o_ife {t : Sls → Rv Bool} (hc : PT X c (tT X.K I W t)) (ha : PE X a (tX X.K I Rl W f)) (hb : PE X b (tX X.K I Rl W g)) (ok : RelOk Rl) : PE X (.IfExp c a b pos) (tX X.K I Rl W (xIf t f g)) :=
  pe_weak (pe_ifExp hc ha hb) fun σ H Q ⟨O₀, H₀, Fs, ρ, rs, po⟩ => ⟨O₀, H₀, Fs, ρ, rs, po.first fun k _ po v H1 ⟨s1, b1⟩ => by
    subst b1
    cases v with
    | true => exact ⟨O₀, H₀, Fs, ρ, rs.mono s1, post_weak (fun H' v d z => ok.pre s1 z) (po.at s1)⟩
    | false => exact ⟨O₀, H₀, Fs, ρ, rs.mono s1, post_weak (fun H' v d z => ok.pre s1 z) (po.at s1)⟩⟩
/-! ### tests -/
theorem pt_weak {e : Expr} {t t' : TT} (h : PT X e t) (k : ∀ σ H Q, t' σ H Q → t σ H Q) : PT X e t' := ⟨fun pins s σ H Q J q => h.run pins s σ H Q J (k σ H Q q)⟩
theorem pw_weak {e : Expr} {t t' : TT} (h : PW X e t) (k : ∀ σ H Q, t' σ H Q → t σ H Q) : PW X e t' := ⟨fun wh pins s σ H Q J q => h.run wh pins s σ H Q J (k σ H Q q)⟩
theorem z_cmp {op : CmpOp} {r : R2} (ho : OpR X (compareOp op) r) (hp : OpS X.K (rE X.K) r p) (ha : PE X a (tBw X.K I W f)) (hb : PE X b (tBw X.K I W g)) (hm : behindInMarks op b = false := by rfl) :
    PT X (.Compare a [op] [b] pos) (tT X.K I W (zB (x2 p f g))) := pt_weak (pt_cmpR ho ha hb hm) fun σ H Q ⟨O₀, H₀, Fs, ρ, rs, po⟩ => by
  refine two (Rl := rE X.K) (I := I) (W := W) rE_ok hp σ H _ ⟨O₀, H₀, Fs, ρ, rs, ?_⟩
  refine po.first fun d _ po v H1 ⟨s1, b1⟩ => ?_
  cases d with
  | bool k => cases b1; exact ⟨k, rfl, po k H1 ⟨s1, rfl⟩⟩
  | _ => exact po.elim
theorem z_val (ha : PE X e (tEv X.K I W f)) (he : ∀ whole, isTrue e X.env whole = (do let v ← whole; standAt e.pos; holding [v] (truthy v)) := by intro _; rfl) : PT X e (tT X.K I W (zB f)) :=
  pt_weak (pt_val ha he) fun σ H Q ⟨O₀, H₀, Fs, ρ, rs, po⟩ => ⟨O₀, H₀, Fs, ρ, rs, po.first fun d _ po v H1 ⟨s1, b1⟩ => by
    cases d with
    | bool k => cases b1; exact ⟨k, rfl, po k H1 ⟨s1, rfl⟩⟩
    | _ => exact po.elim⟩
theorem z_and1 {t : Sls → Rv Bool} (ha : PT X a (tT X.K I W t)) : PW X (.BoolOp .And [a] pos) (tT X.K I W t) := pw_and1 ha
theorem z_or1 {t : Sls → Rv Bool} (ha : PT X a (tT X.K I W t)) : PW X (.BoolOp .Or [a] pos) (tT X.K I W t) := pw_or1 ha
theorem z_and {rest : List Expr} {t u : Sls → Rv Bool} (ha : PT X a (tT X.K I W t)) (hb : PW X (.BoolOp .And (b :: rest) pos) (tT X.K I W u)) : PW X (.BoolOp .And (a :: b :: rest) pos) (tT X.K I W (zAnd t u)) :=
  pw_weak (pw_and ha hb) fun σ H Q ⟨O₀, H₀, Fs, ρ, rs, po⟩ => ⟨O₀, H₀, Fs, ρ, rs, po.first fun k _ po v H1 ⟨s1, b1⟩ => by
    subst b1
    cases v with
    | true => exact ⟨O₀, H₀, Fs, ρ, rs.mono s1, post_weak (fun H' v d z => ⟨s1.trans z.1, z.2⟩) (po.at s1)⟩
    | false => exact po false H1 ⟨s1, rfl⟩⟩
theorem z_or {rest : List Expr} {t u : Sls → Rv Bool} (ha : PT X a (tT X.K I W t)) (hb : PW X (.BoolOp .Or (b :: rest) pos) (tT X.K I W u)) : PW X (.BoolOp .Or (a :: b :: rest) pos) (tT X.K I W (zOr t u)) :=
  pw_weak (pw_or ha hb) fun σ H Q ⟨O₀, H₀, Fs, ρ, rs, po⟩ => ⟨O₀, H₀, Fs, ρ, rs, po.first fun k _ po v H1 ⟨s1, b1⟩ => by
    subst b1
    cases v with
    | false => exact ⟨O₀, H₀, Fs, ρ, rs.mono s1, post_weak (fun H' v d z => ⟨s1.trans z.1, z.2⟩) (po.at s1)⟩
    | true => exact po true H1 ⟨s1, rfl⟩⟩
theorem z_not {t : Sls → Rv Bool} (ha : PT X a (tT X.K I W t)) : PT X (.UnaryOp .Not a pos) (tT X.K I W (zNot t)) :=
  pt_weak (pt_not ha) fun σ H Q ⟨O₀, H₀, Fs, ρ, rs, po⟩ => ⟨O₀, H₀, Fs, ρ, rs, po.first fun k _ po v H1 ⟨s1, b1⟩ => by
    subst b1
    exact po (!v) H1 ⟨s1, rfl⟩⟩
theorem DqAll.emp {K : PySem.W.Frag} {H : Hp} {vs : List V} {xs : List Da} (h : DqAll K H vs xs) : xs.isEmpty = vs.isEmpty := by cases h <;> rfl
theorem tru_br {K : PySem.W.Frag} {O : Addr → Prop} {H : Hp} {v : V} {d : Da} {k : Bool} (h : Br K O H v d) (e : truD d = some k) : TruV K v H k := by
  cases d with
  | none => cases h.non; simp [truD] at e; subst e; rfl
  | bool b => cases h.bool; simp [truD] at e; subst e; rfl
  | int i => cases h.int; simp [truD] at e; subst e; rfl
  | str x =>
    cases h.str
    simp only [truD] at e
    split at e
    · rename_i hz
      cases e
      have e2 : x.length = x.cps.toList.length := rfl
      refine ⟨by rw [sizeLine_eq, e2]; exact hz, ?_⟩
      rw [e2]
      cases x.cps.toList with
      | nil => rfl
      | cons a r => simp; omega
    · cases e
  | list xs =>
    obtain ⟨p, vs, rfl, h1, h2⟩ := h.list
    simp only [truD, Option.some.injEq] at e
    subst e
    exact .inl ⟨vs, h1.sq, by rw [h2.emp]⟩
  | tuple xs =>
    obtain ⟨p, vs, rfl, h1, h2⟩ := h.tuple
    simp only [truD, Option.some.injEq] at e
    subst e
    exact .inr (.inl ⟨vs, hid_le.seqT h1, by rw [h2.emp]⟩)
  | dict _ => simp [truD] at e
theorem z_tru (ha : PE X a (tBw X.K I W f)) (he : ∀ whole, isTrue a X.env whole = (do let v ← whole; standAt a.pos; holding [v] (truthy v)) := by intro _; rfl) : PT X a (tT X.K I W (zTru f)) :=
  pt_weak (pt_truth ha he) fun σ H Q ⟨O₀, H₀, Fs, ρ, rs, po⟩ => ⟨O₀, H₀, Fs, ρ, rs, po.first fun d _ po v H1 ⟨s1, b1⟩ => by
    obtain ⟨k, hk, po⟩ := po.opt
    exact ⟨k, tru_br b1 hk, po k H1 ⟨s1, rfl⟩⟩⟩
/-! ### chains -/
theorem chain_w {K : PySem.W.Frag} {r r' : R2} (hp : OpS K (rE K) r p) (hq : OpS K (rE K) r' q) : ∀ σ H Q, tEv K I W (xCh p q f g h) σ H Q → tChain r r' (tBw K I W f) (tBw K I W g) (tBw K I W h) σ H Q := by
  rintro σ H Q ⟨O₀, H₀, Fs, ρ, rs, po⟩
  refine ⟨O₀, H₀, Fs, ρ, rs, po.first fun x _ po v H1 ⟨s1, b1⟩ => ?_⟩
  refine ⟨O₀, H₀, Fs, ρ, rs.mono s1, (po.at s1).first fun y _ po u H2 ⟨s2, b2⟩ => ?_⟩
  have rs2 := (rs.mono s1).mono s2
  have po := po.at s2
  cases hz : p x y with
  | none => rw [hz] at po; exact po.elim
  | some z =>
    rw [hz] at po
    refine hp _ _ v u x y z _ (Ow.there rs2) (b1.mono s2) b2 hz fun w H3 ⟨s3, b3⟩ => ?_
    obtain ⟨k, rfl, po⟩ := Post.asb (K := K) po
    cases b3
    refine ⟨k, rfl, ?_⟩
    cases k with
    | false => exact po (.bl false) H3 ⟨(s1.trans s2).trans s3, .bl false⟩
    | true =>
      have po : Post I W σ H2 (fun H' v d => rE K (Ow O₀ Fs) H H' v d) ((h ρ).bind fun w => Rv.ofO (q y w)) Q := po
      refine ⟨O₀, H₀, Fs, ρ, rs2.mono s3, (po.at s3).first fun w' _ po t H4 ⟨s4, b4⟩ => ?_⟩
      obtain ⟨d, hd, po⟩ := po.opt
      exact hq _ _ u t y w' d Q (Ow.there ((rs2.mono s3).mono s4)) ((b2.mono s3).mono s4) b4 hd fun w H' z => po w H' ⟨((s1.trans s2).trans (s3.trans s4)).trans z.1, z.2⟩
theorem o_ch {op op' : CmpOp} {r r' : R2} (ho : OpR X (compareOp op) r) (ho' : OpR X (compareOp op') r') (hp : OpS X.K (rE X.K) r p) (hq : OpS X.K (rE X.K) r' q) (ha : PE X a (tBw X.K I W f)) (hb : PE X b (tBw X.K I W g)) (hc : PE X c (tBw X.K I W h))
    (hm : lastMarks [op, op'] [b, c] = false := by with_unfolding_all rfl) : PE X (.Compare a [op, op'] [b, c] pos) (tEv X.K I W (xCh p q f g h)) := pe_weak (pe_chain ho ho' ha hb hc hm) (chain_w hp hq)
theorem z_ch {op op' : CmpOp} {r r' : R2} (ho : OpR X (compareOp op) r) (ho' : OpR X (compareOp op') r') (hp : OpS X.K (rE X.K) r p) (hq : OpS X.K (rE X.K) r' q) (ha : PE X a (tBw X.K I W f)) (hb : PE X b (tBw X.K I W g)) (hc : PE X c (tBw X.K I W h)) (hm : lastMarks [op, op'] [b, c] = false := by with_unfolding_all rfl) :
    PT X (.Compare a [op, op'] [b, c] pos) (tT X.K I W (zB (xCh p q f g h))) := pt_weak (pt_chain ho ho' ha hb hc hm) fun σ H Q ⟨O₀, H₀, Fs, ρ, rs, po⟩ => by
  refine chain_w (I := I) (W := W) hp hq σ H _ ⟨O₀, H₀, Fs, ρ, rs, ?_⟩
  refine po.first fun d _ po v H1 ⟨s1, b1⟩ => ?_
  cases d with
  | bool k => cases b1; exact ⟨k, rfl, po k H1 ⟨s1, rfl⟩⟩
  | _ => exact po.elim
/-! ### argument lists, displays, calls of defs -/
theorem as_nil : PA X [] (tAs X.K I W xs0) := ⟨fun pos pins s σ H Q J ⟨O₀, H₀, Fs, ρ, rs, po⟩ => pa_nil.run pos pins s σ H Q J (po [] H ⟨Same.refl _, .nil⟩)⟩
theorem pa_weak {es : List Expr} {t t' : TA} (h : PA X es t) (k : ∀ σ H Q, t' σ H Q → t σ H Q) : PA X es t' := ⟨fun pos pins s σ H Q J q => h.run pos pins s σ H Q J (k σ H Q q)⟩
theorem as_cons (ha : PE X e (tEv X.K I W f)) (hr : PA X es (tAs X.K I W fs)) (hs : starEach (e :: es) X.env = (false, eval e X.env) :: starEach es X.env := by rfl) : PA X (e :: es) (tAs X.K I W (xsc f fs)) :=
  pa_weak (pa_cons ha hr hs) fun σ H Q ⟨O₀, H₀, Fs, ρ, rs, po⟩ => ⟨O₀, H₀, Fs, ρ, rs, po.first fun d _ po v H1 ⟨s1, b1⟩ =>
    ⟨O₀, H₀, Fs, ρ, rs.mono s1, (po.at s1).first fun ds _ po vs H2 ⟨s2, b2⟩ => po (v :: vs) H2 ⟨s1.trans s2, .cons (b1.mono (hid_same s2)) b2⟩⟩⟩
theorem sz1000 {n : Nat} (h : n < 1000) : n ≤ sizeLine := by rw [sizeLine_eq]; omega
theorem o_tup {k : Nat} (ha : PA X es (tAs X.K I W fs)) : PE X (.Tuple es k pos) (tEv X.K I W (xTup fs)) :=
  pe_weak (pe_tup ha) fun σ H Q ⟨O₀, H₀, Fs, ρ, rs, po⟩ => ⟨O₀, H₀, Fs, ρ, rs, po.first fun ds _ po vs H1 ⟨s1, b1⟩ => by
    unfold mkTup at po
    by_cases hz : ds.length < 1000
    · rw [if_pos hz] at po
      refine ⟨by rw [b1.length]; exact sz1000 hz, fun p hp => po _ _ ⟨s1.trans (same_new hp), ?_⟩⟩
      have np : ¬ Ow O₀ Fs p := fun z => Ow.there (rs.mono s1) p z hp
      refine .tup (.inl (.inl (by rw [hid_neg np, upd_same]))) (b1.mono fun b o e => ?_)
      obtain ⟨n, e⟩ := of_hid e
      rw [hid_neg n, upd_ne (ne_of_none e hp)]; exact e
    · rw [if_neg hz] at po; exact po.elim⟩
theorem o_lst (ha : PA X es (tAs X.K I W fs)) : PE X (.List es pos) (tFr X.K I W (xLst fs)) :=
  pe_weak (pe_lst ha) fun σ H Q ⟨O₀, H₀, Fs, ρ, rs, po⟩ => ⟨O₀, H₀, Fs, ρ, rs, po.first fun ds _ po vs H1 ⟨s1, b1⟩ => by
    unfold mkLst at po
    by_cases hz : ds.length < 1000
    · rw [if_pos hz] at po
      exact ⟨by rw [b1.length]; exact sz1000 hz, fun p hp => po _ _ ⟨H1, p, vs, ds, s1, hp, rfl, rfl, rfl, b1⟩⟩
    · rw [if_neg hz] at po; exact po.elim⟩
def XsLen (fs : Sls → Rv (List Da)) (n : Nat) : Prop := ∀ ρ ds, fs ρ = .ok ds → ds.length = n
theorem xs0_len : XsLen xs0 0 := fun ρ ds h => by
  have e : [] = ds := by injection h
  subst e; rfl
theorem xsc_len {f : Sls → Rv Da} {fs : Sls → Rv (List Da)} {n : Nat} (h : XsLen fs n) : XsLen (xsc f fs) (n + 1) := fun ρ ds e => by
  unfold xsc at e
  cases hf : f ρ with
  | ok d =>
    rw [hf] at e
    cases hg : fs ρ with
    | ok es =>
      have e : Rv.bind (fs ρ) (fun ds => .ok (d :: ds)) = .ok ds := e
      rw [hg] at e
      have e : Rv.ok (d :: es) = Rv.ok ds := e
      injection e with e
      subst e
      exact congrArg (· + 1) (h ρ es hg)
    | exc c d' => have e : Rv.bind (fs ρ) (fun ds => .ok (d :: ds)) = .ok ds := e; rw [hg] at e; cases e
    | bad => have e : Rv.bind (fs ρ) (fun ds => .ok (d :: ds)) = .ok ds := e; rw [hg] at e; cases e
  | exc c d => rw [hf] at e; cases e
  | bad => rw [hf] at e; cases e
/-- a def's promise -/
def spM (K : PySem.W.Frag) (I : XI) (n : Nat) (m : List Da → Rv Da) : Sp := fun vs H Q E => ∃ (O₀ : Addr → Prop) (ds : List Da), (∀ a, O₀ a → H a ≠ none) ∧ DqAll K (hid O₀ H) vs ds ∧ ds.length = n ∧ match m ds with
  | .ok d => ∀ v H', Same H H' → Dq K (hid O₀ H') v d → Q v H'
  | .exc c d => ∀ cls dx H', Same H H' → I c d cls dx H' → E cls dx H'
  | .bad => False
theorem spM_len {K : PySem.W.Frag} {I : XI} {n : Nat} {m : List Da → Rv Da} {vs : List V} {H : Hp} {Q : VK} {E : XK} (h : spM K I n m vs H Q E) : vs.length = n := by
  obtain ⟨O₀, ds, _, h2, h3, _⟩ := h
  rw [h2.length, h3]
theorem o_call {x : Str} {p : Pos} {k n : Nat} {fa : Addr} {fd : FuncData} {ps : List Str} {m : List Da → Rv Da} (F : FnOk X.prog X.w X.K X.mg X.base (L2.CX X.prog X.w) k fa fd ps (spM X.K I n m)) (hr : Room k X.A) (hm : X.mg x = some (.ref fa)) (hk : PySem.W.keepIn X.K (.ref fa) = true)
    (hb : Binds X.K fd ps []) (hn : (e :: es).length = n) (tk : Takes X W) (ha : PA X (e :: es) (tAs X.K I W fs)) (hg : Gl X x := by rfl) (hl : XsLen fs n := by first | exact xs0_len | exact xsc_len xs0_len | exact xsc_len (xsc_len xs0_len) | exact xsc_len (xsc_len (xsc_len xs0_len)) | exact xsc_len (xsc_len (xsc_len (xsc_len xs0_len))) | exact xsc_len (xsc_len (xsc_len (xsc_len (xsc_len xs0_len)))) | exact xsc_len (xsc_len (xsc_len (xsc_len (xsc_len (xsc_len xs0_len)))))) (hdb : (x == ("__debug__" : Str)) = false := by decide)
    (he : starEach (e :: es) X.env = (false, eval e X.env) :: starEach es X.env := by rfl) (hpl : (backTo pos (starEach es X.env)).any (·.1) = false := by rfl) : PE X (.Call (.Name x p) (e :: es) [] pos) (tEv X.K I W (xCall m fs)) :=
  pe_weak (pe_callSD (E := fun σ => WE W σ) F hr hg hm hk hb .nil (fun σ => passAt tk σ) ha hdb he hpl) fun σ H Q ⟨O₀, H₀, Fs, ρ, rs, po⟩ => ⟨O₀, H₀, Fs, ρ, rs, po.first fun ds hds po vs H1 ⟨s1, b1⟩ => by
    rw [List.append_nil]
    refine ⟨Ow O₀ Fs, ds, Ow.there (rs.mono s1), b1, hl ρ ds hds, ?_⟩
    cases hm2 : m ds with
    | ok d => rw [hm2] at po; exact fun v H' s' h' => po v H' ⟨s1.trans s', h'⟩
    | exc c d => rw [hm2] at po; exact fun cls dx H' s' h' => po cls dx H' (s1.trans s') h'
    | bad => rw [hm2] at po; exact po.elim⟩
end
end L2
end

section
set_option Elab.async false
set_option linter.all false
set_option maxRecDepth 100000
namespace L2
open PySem PySem.Spec PyProof.Rows

inductive Out where
  | nx (ρ : Sls) | rt (d : Da) | bk (ρ : Sls) | ct (ρ : Sls) | exc (c : Nat) (d : Da) (ρ : Sls) | bad
/-- an expression's value handed on -/
def Rv.thn {α : Type} (x : Rv α) (ρ : Sls) (k : α → Out) : Out := match x with
  | .ok a => k a
  | .exc c d => .exc c d ρ
  | .bad => .bad
abbrev SS := Sls → Out
def frzSl : Sl → Sl
  | .own (.lst xs) => .val (.list xs)
  | .own (.dk kvs) => .val (.dict kvs)
  | .own (.dt kvs) => .val (.dict kvs)
  | .own (.lol xss) => .val (.list (xss.map .list))
  | s => s
def thaw : List Nat → Sls → Sls
  | [], ρ => ρ
  | i :: is, ρ => thaw is (ρ.set i (frzSl (ρ.getD i .un)))
def setVals : List Nat → List Da → Sls → Option Sls
  | [], [], ρ => some ρ
  | i :: is, d :: ds, ρ => setVals is ds (ρ.set i (.val d))
  | _, _, _ => none

def sNx : SS := fun ρ => .nx ρ
def sSeq (f g : SS) : SS := fun ρ => match f ρ with
  | .nx ρ' => g ρ'
  | o => o
def sSet (i : Nat) (f : Sls → Rv Da) : SS := fun ρ => (f ρ).thn ρ fun d => .nx (ρ.set i (.val d))
/-- a new list, owned -/
def sOwn (i : Nat) (f : Sls → Rv Da) : SS := fun ρ => (f ρ).thn ρ fun d => match d with
  | .list xs => .nx (ρ.set i (.own (.lst xs)))
  | _ => .bad
def sRet (f : Sls → Rv Da) : SS := fun ρ => (f ρ).thn ρ fun d => .rt d
def sRetN : SS := fun _ => .rt .none
def sDrop (f : Sls → Rv Da) : SS := fun ρ => (f ρ).thn ρ fun _ => .nx ρ
def sIf (t : Sls → Rv Bool) (f g : SS) : SS := fun ρ => (t ρ).thn ρ fun b => if b = true then f ρ else g ρ
def sBk : SS := fun ρ => .bk ρ
def sCt : SS := fun ρ => .ct ρ
def sFrz (is : List Nat) (f : SS) : SS := fun ρ => f (thaw is ρ)
def sAdd (p : Da → Da → Option Da) (i : Nat) (g : Sls → Rv Da) : SS := fun ρ => (xV i ρ).thn ρ fun x => (g ρ).thn ρ fun y => (Rv.ofO (p x y)).thn ρ fun z => .nx (ρ.set i (.val z))
/-- a, b = t -/
def sUnp (is : List Nat) (f : Sls → Rv Da) : SS := fun ρ => (f ρ).thn ρ fun d => match d with
  | .tuple ds => (Rv.ofO (setVals is ds ρ)).thn ρ fun ρ' => .nx ρ'
  | _ => .bad
/-- a, b = x, y -/
def sPar (i j : Nat) (f g : Sls → Rv Da) : SS := fun ρ => (f ρ).thn ρ fun x => (g ρ).thn ρ fun y => .nx ((ρ.set i (.val x)).set j (.val y))
def ownL : Da → Option Sl
  | .list xs => some (.own (.lst xs))
  | _ => none
/-- a, b = [], y -/
def sParL (i j : Nat) (f g : Sls → Rv Da) : SS := fun ρ => (f ρ).thn ρ fun x => (g ρ).thn ρ fun y => (Rv.ofO (ownL x)).thn ρ fun s => .nx ((ρ.set i s).set j (.val y))
def sParLL (i j : Nat) (f g : Sls → Rv Da) : SS := fun ρ => (f ρ).thn ρ fun x => (g ρ).thn ρ fun y => (Rv.ofO (ownL x)).thn ρ fun s => (Rv.ofO (ownL y)).thn ρ fun t => .nx ((ρ.set i s).set j t)
def sPar3 (i j l : Nat) (f g h : Sls → Rv Da) : SS := fun ρ => (f ρ).thn ρ fun x => (g ρ).thn ρ fun y => (h ρ).thn ρ fun z => .nx (((ρ.set i (.val x)).set j (.val y)).set l (.val z))
def lstAt (i : Nat) (ρ : Sls) : Option (List Da) := match ρ[i]? with
  | some (.own (.lst xs)) => some xs
  | _ => none
/-- x.append(e) -/
def sApp (i : Nat) (f : Sls → Rv Da) : SS := fun ρ => (Rv.ofO (lstAt i ρ)).thn ρ fun xs => (f ρ).thn ρ fun d => if xs.length < 16777216 then .nx (ρ.set i (.own (.lst (xs ++ [d])))) else .bad
/-- x[i] = e -/
def ixD (n : Nat) (d : Da) : Option Nat := match d with
  | .int i => HT_ixN n i
  | _ => none
where HT_ixN (n : Nat) (i : Int) : Option Nat := if 0 ≤ i then (if i < n then some i.toNat else none) else if -(n : Int) ≤ i then some (i + n).toNat else none
def sSetIx (i : Nat) (g f : Sls → Rv Da) : SS := fun ρ => (f ρ).thn ρ fun d => (Rv.ofO (lstAt i ρ)).thn ρ fun xs => (g ρ).thn ρ fun k => (Rv.ofO (ixD xs.length k)).thn ρ fun j => .nx (ρ.set i (.own (.lst (xs.set j d))))
/-- y = x.pop() -/
def sPop (j i : Nat) : SS := fun ρ => (Rv.ofO (lstAt i ρ)).thn ρ fun xs => (Rv.ofO (xs[xs.length - 1]?)).thn ρ fun d => .nx ((ρ.set i (.own (.lst xs.dropLast))).set j (.val d))
/-- x.append((y.pop(), e)) -/
def sAppPop (i j : Nat) (f : Sls → Rv Da) : SS := fun ρ => (Rv.ofO (lstAt i ρ)).thn ρ fun xs => (Rv.ofO (lstAt j ρ)).thn ρ fun ys => (Rv.ofO (ys[ys.length - 1]?)).thn ρ fun d =>
  (f (ρ.set j (.own (.lst ys.dropLast)))).thn ρ fun e => if xs.length < 16777216 ∧ i ≠ j then .nx ((ρ.set j (.own (.lst ys.dropLast))).set i (.own (.lst (xs ++ [.tuple [d, e]])))) else .bad
def forL (set : Da → Sls → Option Sls) (body : SS) : List Da → SS
  | [], ρ => .nx ρ
  | d :: ds, ρ => match set d ρ with
    | none => .bad
    | some ρ1 => match body ρ1 with
      | .nx ρ2 => forL set body ds ρ2
      | .ct ρ2 => forL set body ds ρ2
      | .bk ρ2 => .nx ρ2
      | o => o
def sFor (it : Sls → Rv (List Da)) (set : Da → Sls → Option Sls) (body : SS) : SS := fun ρ => (it ρ).thn ρ fun ds => forL set body ds ρ
def whL (t : Sls → Rv Bool) (body : SS) : Nat → SS
  | 0, _ => .bad
  | n + 1, ρ => (t ρ).thn ρ fun b => if b = true then (match body ρ with
      | .nx ρ2 => whL t body n ρ2
      | .ct ρ2 => whL t body n ρ2
      | .bk ρ2 => .nx ρ2
      | o => o) else .nx ρ
def setOne (i : Nat) : Da → Sls → Option Sls := fun d ρ => some (ρ.set i (.val d))
def setTup (is : List Nat) : Da → Sls → Option Sls := fun d ρ => match d with
  | .tuple ds => setVals is ds ρ
  | _ => none
/-- a comprehension's turns -/
def compL (set : Da → Sls → Option Sls) (tt : Sls → Rv Bool) (el : Sls → Rv Da) (ρ : Sls) : List Da → Rv (List Da)
  | [] => .ok []
  | d :: ds => match set d ρ with
    | none => .bad
    | some ρ1 => (tt ρ1).nox.bind fun b => if b = true then (el ρ1).nox.bind fun y => (compL set tt el ρ ds).bind fun ys => .ok (y :: ys) else compL set tt el ρ ds
def wipeR (ρ : Sls) : List Nat → Sls
  | [] => ρ
  | v :: vs => (wipeR ρ vs).set v .un
def capL (ds : List Da) : Rv Da := if ds.length ≤ 16777216 then .ok (.list ds) else .bad
def xComp (vs : List Nat) (it : Sls → Rv (List Da)) (set : Da → Sls → Option Sls) (tt : Sls → Rv Bool) (el : Sls → Rv Da) : Sls → Rv Da := fun ρ => (it ρ).bind fun ds => (compL set tt el (wipeR ρ vs) ds).bind capL
/-- two clauses -/
def compL2 (set : Da → Sls → Option Sls) (tt : Sls → Rv Bool) (it1 : Sls → Rv (List Da)) (set1 : Da → Sls → Option Sls) (tt1 : Sls → Rv Bool) (el : Sls → Rv Da) (ρ : Sls) : List Da → Rv (List Da)
  | [] => .ok []
  | d :: ds => match set d ρ with
    | none => .bad
    | some ρ1 => (tt ρ1).nox.bind fun b => if b = true then (it1 ρ1).nox.bind fun es => (compL set1 tt1 el ρ1 es).bind fun xs => (compL2 set tt it1 set1 tt1 el ρ ds).bind fun ys => .ok (xs ++ ys) else compL2 set tt it1 set1 tt1 el ρ ds
def xComp2 (vs : List Nat) (it : Sls → Rv (List Da)) (set : Da → Sls → Option Sls) (tt : Sls → Rv Bool) (it1 : Sls → Rv (List Da)) (set1 : Da → Sls → Option Sls) (tt1 : Sls → Rv Bool) (el : Sls → Rv Da) : Sls → Rv Da := fun ρ =>
  (it ρ).bind fun ds => (compL2 set tt it1 set1 tt1 el (wipeR ρ vs) ds).bind capL

/-! ### the slots' states, changed -/
section
variable {K : PySem.W.Frag} {O₀ : Addr → Prop} {H₀ H H' : Hp} {Fs : List (List Addr)} {σ : St} {ρ : Sls} {i : Nat}
theorem set_sub {α : Type} {Fs : List (List α)} {i j : Nat} {F : List α} {a : α} (e : (Fs.set i [])[j]? = some F) (ha : a ∈ F) : Fs[j]? = some F := by
  rw [List.getElem?_set] at e
  split at e
  · split at e
    · cases e; simp at ha
    · cases e
  · exact e
theorem mem_set_sub {α : Type} {Fs : List (List α)} {i : Nat} {F : List α} {a : α} (h : F ∈ Fs.set i []) (ha : a ∈ F) : F ∈ Fs := by
  obtain ⟨j, e⟩ := List.mem_iff_getElem?.mp h
  exact List.mem_iff_getElem?.mpr ⟨j, set_sub e ha⟩
theorem Ow_set (a : Addr) (h : Ow O₀ (Fs.set i []) a) : Ow O₀ Fs a := by
  rcases h with h | ⟨F, hF, ha⟩
  · exact .inl h
  · exact .inr ⟨F, mem_set_sub hF ha, ha⟩
/-- a name takes a value -/
theorem RS.setVal (r : RS K O₀ H₀ Fs H σ ρ) {v : V} {d : Da} (h : Dq K (hid (Ow O₀ Fs) H) v d) : RS K O₀ H₀ (Fs.set i []) H (σ.set i (some v)) (ρ.set i (.val d)) ∧ Same (hid (Ow O₀ Fs) H) (hid (Ow O₀ (Fs.set i [])) H) := by
  have sm : Same (hid (Ow O₀ Fs) H) (hid (Ow O₀ (Fs.set i [])) H) := hid_anti Ow_set
  refine ⟨⟨r.same, fun F hF a ha => r.new F (mem_set_sub hF ha) a ha, r.o0, fun F hF a ha => r.nO F (mem_set_sub hF ha) a ha, fun F hF a ha => r.there F (mem_set_sub hF ha) a ha, fun F hF => ?_, fun j k F G a e1 e2 h1 h2 => r.dj j k F G a (set_sub e1 h1) (set_sub e2 h2) h1 h2, ?_⟩, sm⟩
  · cases F with
    | nil => exact List.nodup_nil
    | cons a F' => exact r.nd _ (mem_set_sub hF List.mem_cons_self)
  · exact SlAll.set (v := some v) (s := .val d) (F := []) ⟨h.mono sm, rfl⟩ i (r.sl.mono sm fun _ _ _ _ => rfl)
/-- a name is forgotten -/
theorem RS.setUn (r : RS K O₀ H₀ Fs H σ ρ) (v : Option V) : RS K O₀ H₀ (Fs.set i []) H (σ.set i v) (ρ.set i .un) ∧ Same (hid (Ow O₀ Fs) H) (hid (Ow O₀ (Fs.set i [])) H) := by
  have sm : Same (hid (Ow O₀ Fs) H) (hid (Ow O₀ (Fs.set i [])) H) := hid_anti Ow_set
  refine ⟨⟨r.same, fun F hF a ha => r.new F (mem_set_sub hF ha) a ha, r.o0, fun F hF a ha => r.nO F (mem_set_sub hF ha) a ha, fun F hF a ha => r.there F (mem_set_sub hF ha) a ha, fun F hF => ?_, fun j k F G a e1 e2 h1 h2 => r.dj j k F G a (set_sub e1 h1) (set_sub e2 h2) h1 h2, ?_⟩, sm⟩
  · cases F with
    | nil => exact List.nodup_nil
    | cons a F' => exact r.nd _ (mem_set_sub hF List.mem_cons_self)
  · exact SlAll.set (v := v) (s := .un) (F := []) (by cases v <;> exact rfl) i (r.sl.mono sm fun _ _ _ _ => rfl)
/-- a name takes a new object of its own; F': its addresses, new since H; H' the heap with it -/
theorem RS.setOwn (r : RS K O₀ H₀ Fs H σ ρ) {F' : List Addr} {v : Option V} {o : OV} (hs : Same H H') (hn : ∀ a ∈ F', H a = none ∧ H' a ≠ none) (hnd : F'.Nodup)
    (h : OwnAt K (hid (fun a => Ow O₀ Fs a ∨ a ∈ F') H') H' v o F') : RS K O₀ H₀ (Fs.set i F') H' (σ.set i v) (ρ.set i (.own o)) ∧ Same (hid (Ow O₀ Fs) H) (hid (Ow O₀ (Fs.set i F')) H') := by
  have mem : ∀ {j F a}, (Fs.set i F')[j]? = some F → a ∈ F → (j = i ∧ F = F') ∨ (j ≠ i ∧ Fs[j]? = some F) := fun {j F a} e ha => by
    rw [List.getElem?_set] at e
    split at e
    · rename_i q
      split at e
      · cases e; exact .inl ⟨q.symm, rfl⟩
      · cases e
    · rename_i q
      exact .inr ⟨fun z => q z.symm, e⟩
  have memF : ∀ {F a}, F ∈ Fs.set i F' → a ∈ F → a ∈ F' ∨ F ∈ Fs := fun {F a} hF ha => by
    obtain ⟨j, e⟩ := List.mem_iff_getElem?.mp hF
    rcases mem e ha with ⟨_, rfl⟩ | ⟨_, e⟩
    · exact .inl ha
    · exact .inr (List.mem_iff_getElem?.mpr ⟨j, e⟩)
  have ow : ∀ a, Ow O₀ (Fs.set i F') a → Ow O₀ Fs a ∨ a ∈ F' := by
    rintro a (h | ⟨F, hF, ha⟩)
    · exact .inl (.inl h)
    · rcases memF hF ha with z | z
      · exact .inr z
      · exact .inl (.inr ⟨F, z, ha⟩)
  have nF : ∀ F ∈ Fs, ∀ a ∈ F, a ∉ F' := fun F hF a ha z => r.there F hF a ha (hn a z).1
  have sm1 : Same (hid (Ow O₀ Fs) H) (hid (fun a => Ow O₀ Fs a ∨ a ∈ F') H') := fun b o e => by
    obtain ⟨n, e⟩ := of_hid e
    have nb : b ∉ F' := fun z => by rw [(hn b z).1] at e; cases e
    rw [hid_neg (fun z => z.elim n nb)]
    exact hs b o e
  have sm2 : Same (hid (fun a => Ow O₀ Fs a ∨ a ∈ F') H') (hid (Ow O₀ (Fs.set i F')) H') := hid_anti ow
  refine ⟨⟨r.same.trans hs, fun F hF a ha => ?_, fun a h z => r.o0 a h (hs.free z), fun F hF a ha z => ?_, fun F hF a ha => ?_, fun F hF => ?_, fun j k F G a e1 e2 h1 h2 => ?_, ?_⟩, sm1.trans sm2⟩
  · rcases memF hF ha with z | z
    · exact r.same.free (hn a z).1
    · exact r.new F z a ha
  · rcases memF hF ha with q | q
    · exact r.o0 a z (hn a q).1
    · exact r.nO F q a ha z
  · rcases memF hF ha with z | z
    · exact (hn a z).2
    · exact fun q => r.there F z a ha (hs.free q)
  · obtain ⟨j, e⟩ := List.mem_iff_getElem?.mp hF
    cases F with
    | nil => exact List.nodup_nil
    | cons a F'' =>
      rcases mem e List.mem_cons_self with ⟨_, z⟩ | ⟨_, e⟩
      · rw [z]; exact hnd
      · exact r.nd _ (List.mem_iff_getElem?.mpr ⟨j, e⟩)
  · rcases mem e1 h1 with ⟨z1, q1⟩ | ⟨z1, q1⟩ <;> rcases mem e2 h2 with ⟨z2, q2⟩ | ⟨z2, q2⟩
    · rw [z1, z2]
    · exact absurd (q1 ▸ h1) (nF G (List.mem_iff_getElem?.mpr ⟨k, q2⟩) a h2)
    · exact absurd (q2 ▸ h2) (nF F (List.mem_iff_getElem?.mpr ⟨j, q1⟩) a h1)
    · exact r.dj j k F G a q1 q2 h1 h2
  · refine SlAll.set ?_ i (r.sl.mono (sm1.trans sm2) fun F hF a ha => ?_)
    · have q := OwnAt.mono (H' := H') sm2 (fun a _ => rfl) h
      cases v <;> exact q
    · cases e : H a with
      | none => exact absurd e (r.there F hF a ha)
      | some x => exact hs a x e
/-- .. a new list -/
theorem RS.setLst (r : RS K O₀ H₀ Fs H σ ρ) {H1 : Hp} {p : Addr} {vs : List V} {xs : List Da} (s1 : Same H H1) (hp : H1 p = none) (h : DqAll K (hid (Ow O₀ Fs) H1) vs xs) :
    RS K O₀ H₀ (Fs.set i [p]) (upd H1 p (.lst vs)) (σ.set i (some (.ref p))) (ρ.set i (.own (.lst xs))) ∧ Same (hid (Ow O₀ Fs) H) (hid (Ow O₀ (Fs.set i [p])) (upd H1 p (.lst vs))) := by
  refine r.setOwn (s1.trans (same_new hp)) (fun a ha => ?_) (by simp) ⟨rfl, vs, upd_same, h.mono fun b o e => ?_⟩
  · have e : a = p := by simpa using ha
    subst e
    exact ⟨s1.free hp, by rw [upd_same]; simp⟩
  · obtain ⟨n, e⟩ := of_hid e
    have nb : b ≠ p := ne_of_none e hp
    rw [hid_neg (fun z => z.elim n fun q => nb (by simpa using q)), upd_ne nb]; exact e
/-- the list that name i owns -/
theorem RS.lst (r : RS K O₀ H₀ Fs H σ ρ) {xs : List Da} (e : lstAt i ρ = some xs) : ∃ p vs, σ[i]? = some (some (.ref p)) ∧ Fs[i]? = some [p] ∧ H p = some (.lst vs) ∧ DqAll K (hid (Ow O₀ Fs) H) vs xs ∧ Ow O₀ Fs p := by
  unfold lstAt at e
  cases q : ρ[i]? with
  | none => rw [q] at e; cases e
  | some s =>
    rw [q] at e
    cases s with
    | un => cases e
    | val d => cases e
    | own o =>
      cases o with
      | lst ys =>
        cases e
        obtain ⟨v, F, h1, h2, h3⟩ := r.sl.get q
        cases v with
        | none => exact h3.elim
        | some v =>
          cases v with
          | ref p =>
            obtain ⟨rfl, vs, h4, h5⟩ := h3
            exact ⟨p, vs, h1, h2, h4, h5, .inr ⟨[p], List.mem_iff_getElem?.mpr ⟨i, h2⟩, by simp⟩⟩
          | _ => exact h3.elim
      | _ => cases e
/-- .. is changed -/
theorem RS.updLst (r : RS K O₀ H₀ Fs H σ ρ) {p : Addr} {vs : List V} {xs : List Da} (h1 : σ[i]? = some (some (.ref p))) (h2 : Fs[i]? = some [p]) (h : DqAll K (hid (Ow O₀ Fs) H) vs xs) :
    RS K O₀ H₀ Fs (upd H p (.lst vs)) σ (ρ.set i (.own (.lst xs))) ∧ hid (Ow O₀ Fs) (upd H p (.lst vs)) = hid (Ow O₀ Fs) H := by
  have hm : [p] ∈ Fs := List.mem_iff_getElem?.mpr ⟨i, h2⟩
  have ow : Ow O₀ Fs p := .inr ⟨[p], hm, by simp⟩
  have eh : hid (Ow O₀ Fs) (upd H p (.lst vs)) = hid (Ow O₀ Fs) H := hid_upd ow
  have hp0 : H₀ p = none := r.new [p] hm p (by simp)
  refine ⟨⟨fun b o e => ?_, r.new, fun a h z => ?_, r.nO, fun F hF a ha z => ?_, r.nd, r.dj, ?_⟩, eh⟩
  · rw [upd_ne (ne_of_none e hp0)]; exact r.same b o e
  · by_cases q : a = p
    · rw [q, upd_same] at z; cases z
    · rw [upd_ne q] at z; exact r.o0 a h z
  · by_cases q : a = p
    · rw [q, upd_same] at z; cases z
    · rw [upd_ne q] at z; exact r.there F hF a ha z
  · rw [eh]
    have key : ∀ (σ : St) (ρ : Sls) (Gs : List (List Addr)) (i : Nat), σ[i]? = some (some (.ref p)) → Gs[i]? = some [p] → (∀ j F, j ≠ i → Gs[j]? = some F → p ∉ F) → SlAll K (hid (Ow O₀ Fs) H) H σ ρ Gs → SlAll K (hid (Ow O₀ Fs) H) (upd H p (.lst vs)) σ (ρ.set i (.own (.lst xs))) Gs := by
      intro σ
      induction σ with
      | nil => intro ρ Gs i e; simp at e
      | cons v σ ih =>
        intro ρ Gs i e1 e2 e3 e4
        cases ρ with
        | nil => cases Gs <;> exact e4.elim
        | cons s ρ =>
          cases Gs with
          | nil => exact e4.elim
          | cons G Gs =>
            obtain ⟨q1, q2⟩ := e4
            cases i with
            | zero =>
              simp at e1 e2
              subst e1 e2
              refine ⟨⟨rfl, vs, upd_same, h⟩, q2.mono (Same.refl _) fun F hF a ha => ?_⟩
              obtain ⟨j, ej⟩ := List.mem_iff_getElem?.mp hF
              have np := e3 (j + 1) F (by omega) (by simpa using ej)
              exact upd_ne fun z => np (z ▸ ha)
            | succ i =>
              refine ⟨q1.mono (Same.refl _) fun a ha => ?_, ih ρ Gs i (by simpa using e1) (by simpa using e2) (fun j F hj ej => e3 (j + 1) F (by omega) (by simpa using ej)) q2⟩
              have np := e3 0 G (by omega) rfl
              exact upd_ne fun z => np (z ▸ ha)
    refine key σ ρ Fs i h1 h2 (fun j F hj ej hpF => ?_) r.sl
    exact hj (r.dj j i F [p] p ej h2 hpF (by simp))
end
end L2
end

section
set_option Elab.async false
set_option linter.all false
set_option maxRecDepth 100000
namespace L2
open PySem PySem.Spec PyProof.Rows

section
variable (K : PySem.W.Frag) (I : XI)
def SPo (W : WX) (O₀ : Addr → Prop) (H₀ : Hp) (Fs : List (List Addr)) (H : Hp) (o : Out) (D : Ends) : Prop := match o with
  | .nx ρ' => ∀ σ' H' Fs', RS K O₀ H₀ Fs' H' σ' ρ' → Same (hid (Ow O₀ Fs) H) (hid (Ow O₀ Fs') H') → D.nx σ' H'
  | .rt d => ∀ v H', Same H₀ H' → Dq K (hid O₀ H') v d → D.rt v H'
  | .bk ρ' => ∀ σ' H' Fs', RS K O₀ H₀ Fs' H' σ' ρ' → Same (hid (Ow O₀ Fs) H) (hid (Ow O₀ Fs') H') → D.bk σ' H'
  | .ct ρ' => ∀ σ' H' Fs', RS K O₀ H₀ Fs' H' σ' ρ' → Same (hid (Ow O₀ Fs) H) (hid (Ow O₀ Fs') H') → D.ct σ' H'
  | .exc c d ρ' => ∀ cls dx σ' H' Fs', RS K O₀ H₀ Fs' H' σ' ρ' → Same (hid (Ow O₀ Fs) H) (hid (Ow O₀ Fs') H') → I c d cls dx H' → W cls dx σ' H'
  | .bad => False
def tS (W : WX) (f : SS) : TS := fun D σ H => ∃ O₀ H₀ Fs ρ, RS K O₀ H₀ Fs H σ ρ ∧ SPo K I W O₀ H₀ Fs H (f ρ) D
end
section
variable {K : PySem.W.Frag} {I : XI} {W : WX} {O₀ : Addr → Prop} {H₀ H H' : Hp} {Fs Fs' : List (List Addr)} {D D' : Ends} {o : Out}
theorem SPo.shift (s : Same (hid (Ow O₀ Fs) H) (hid (Ow O₀ Fs') H')) (p : SPo K I W O₀ H₀ Fs H o D) : SPo K I W O₀ H₀ Fs' H' o D := by
  cases o with
  | nx ρ => exact fun σ' H2 G r z => p σ' H2 G r (s.trans z)
  | rt d => exact p
  | bk ρ => exact fun σ' H2 G r z => p σ' H2 G r (s.trans z)
  | ct ρ => exact fun σ' H2 G r z => p σ' H2 G r (s.trans z)
  | exc c d ρ => exact fun cls dx σ' H2 G r z => p cls dx σ' H2 G r (s.trans z)
  | bad => exact p
theorem SPo.thn {α β : Type} {σ : St} {ρ : Sls} {Rl : Hp → β → α → Prop} {x : Rv α} {k : α → Out} {Q : β → Hp → Prop} (r : RS K O₀ H₀ Fs H σ ρ) (p : SPo K I W O₀ H₀ Fs H (x.thn ρ k) D)
    (h : ∀ a, x = .ok a → SPo K I W O₀ H₀ Fs H (k a) D → ∀ b H', Rl H' b a → Q b H') : Post I W σ H Rl x Q := by
  cases x with
  | ok a => exact h a rfl p
  | exc c d => exact fun cls dx H' s z => p cls dx σ H' Fs (r.mono s) (hid_same s) z
  | bad => exact p
theorem SPo.opt {α : Type} {ρ : Sls} {x : Option α} {k : α → Out} (p : SPo K I W O₀ H₀ Fs H ((Rv.ofO x).thn ρ k) D) : ∃ a, x = some a ∧ SPo K I W O₀ H₀ Fs H (k a) D := by
  cases x with
  | some a => exact ⟨a, rfl, p⟩
  | none => exact p.elim
end
section
variable {X : Cx} {I : XI} {W : WX} {e a b c : Expr} {es : List Expr} {pos : Pos} {f g h : Sls → Rv Da} {st : Stmt} {rest : List Stmt} {u w : SS}
theorem ps_weak {t t' : TS} (h : PS X st t) (k : ∀ D σ H, t' D σ H → t D σ H) : PS X st t' := ⟨fun pins s σ H D J q => h.run pins s σ H D J (k D σ H q)⟩
theorem pss_weak {t t' : TS} (h : PSs X rest t) (k : ∀ D σ H, t' D σ H → t D σ H) : PSs X rest t' := ⟨fun pins s σ H D J q => h.run pins s σ H D J (k D σ H q)⟩
theorem s_nil : PSs X [] (tS X.K I W sNx) := pss_weak pss_nil fun D σ H ⟨O₀, H₀, Fs, ρ, r, p⟩ => p σ H Fs r (Same.refl _)
theorem s_one (h1 : PS X st (tS X.K I W u)) : PSs X [st] (tS X.K I W u) := pss_one h1
theorem s_cons (h1 : PS X st (tS X.K I W u)) (h2 : PSs X rest (tS X.K I W w)) : PSs X (st :: rest) (tS X.K I W (sSeq u w)) := pss_weak (pss_cons h1 h2) fun D σ H ⟨O₀, H₀, Fs, ρ, r, p⟩ => ⟨O₀, H₀, Fs, ρ, r, by
  unfold sSeq at p
  cases q : u ρ with
  | nx ρ' => rw [q] at p; exact fun σ' H' Fs' r' s' => ⟨O₀, H₀, Fs', ρ', r', p.shift s'⟩
  | rt d => rw [q] at p; exact p
  | bk ρ' => rw [q] at p; exact p
  | ct ρ' => rw [q] at p; exact p
  | exc c d ρ' => rw [q] at p; exact p
  | bad => rw [q] at p; exact p⟩
theorem s_pass : PS X (.Pass pos) (tS X.K I W sNx) := ps_weak ps_pass fun D σ H ⟨O₀, H₀, Fs, ρ, r, p⟩ => p σ H Fs r (Same.refl _)
theorem s_bk : PS X (.Break pos) (tS X.K I W sBk) := ps_weak ps_break fun D σ H ⟨O₀, H₀, Fs, ρ, r, p⟩ => p σ H Fs r (Same.refl _)
theorem s_ct : PS X (.Continue pos) (tS X.K I W sCt) := ps_weak ps_continue fun D σ H ⟨O₀, H₀, Fs, ρ, r, p⟩ => p σ H Fs r (Same.refl _)
theorem s_ret (he : PE X e (tEv X.K I W f)) : PS X (.Return (some e) pos) (tS X.K I W (sRet f)) := ps_weak (ps_ret he) fun D σ H ⟨O₀, H₀, Fs, ρ, r, p⟩ => ⟨O₀, H₀, Fs, ρ, r, SPo.thn r p fun d _ p v H' ⟨s, q⟩ =>
  p v H' (r.same.trans s) (q.mono (hid_anti fun a z => .inl z))⟩
theorem s_retN : PS X (.Return none pos) (tS X.K I W sRetN) := ps_weak ps_retN fun D σ H ⟨O₀, H₀, Fs, ρ, r, p⟩ => p .non H r.same .non
theorem s_doc {x : Str} {j : Nat} {pos' : Pos} : PS X (.Expr (.Constant (.str x) j pos) pos') (tS X.K I W sNx) := ps_weak ps_doc fun D σ H ⟨O₀, H₀, Fs, ρ, r, p⟩ => p σ H Fs r (Same.refl _)
theorem s_drop (he : PE X e (tEv X.K I W f)) (hs : swapsWith e none pos.line X.env = pure false := by rfl) : PS X (.Expr e pos) (tS X.K I W (sDrop f)) := ps_weak (ps_expr he hs) fun D σ H ⟨O₀, H₀, Fs, ρ, r, p⟩ => ⟨O₀, H₀, Fs, ρ, r, SPo.thn r p fun d _ p v H' ⟨s, q⟩ =>
  p σ H' Fs (r.mono s) (hid_same s)⟩
theorem s_set {i : Nat} {x : Str} {pos' : Pos} (hN : X.N.Nodup) (he : PE X e (tEv X.K I W f)) (hi : X.N[i]? = some x := by rfl) (hx : Loc X.env.scope x := by first | exact Or.inl rfl | exact Or.inr rfl) (hs : swapsWith e (some (.Name x pos')) pos.line X.env = pure false := by rfl)
    (hf : X.fn x = true ∨ X.env.scope.names.lookup x = some .local := by first | exact .inl rfl | exact .inr rfl) : PS X (.Assign [.Name x pos'] e pos) (tS X.K I W (sSet i f)) := ps_weak (ps_set hN hi hx he hs hf) fun D σ H ⟨O₀, H₀, Fs, ρ, r, p⟩ =>
  ⟨O₀, H₀, Fs, ρ, r, SPo.thn r p fun d _ p v H' ⟨s, q⟩ => by
    obtain ⟨r2, s2⟩ := (r.mono s).setVal (i := i) q
    exact p _ H' _ r2 ((hid_same s).trans s2)⟩
theorem s_own {i : Nat} {x : Str} {pos' : Pos} (hN : X.N.Nodup) (he : PE X e (tFr X.K I W f)) (hi : X.N[i]? = some x := by rfl) (hx : Loc X.env.scope x := by first | exact Or.inl rfl | exact Or.inr rfl) (hs : swapsWith e (some (.Name x pos')) pos.line X.env = pure false := by rfl)
    (hf : X.fn x = true ∨ X.env.scope.names.lookup x = some .local := by first | exact .inl rfl | exact .inr rfl) : PS X (.Assign [.Name x pos'] e pos) (tS X.K I W (sOwn i f)) := ps_weak (ps_set hN hi hx he hs hf) fun D σ H ⟨O₀, H₀, Fs, ρ, r, p⟩ =>
  ⟨O₀, H₀, Fs, ρ, r, SPo.thn r p fun d _ p v H' ⟨H1, p0, vs, xs, s1, hp, e1, e2, e3, q⟩ => by
    subst e1 e2 e3
    obtain ⟨r2, s2⟩ := r.setLst (i := i) s1 hp q
    exact p _ _ _ r2 s2⟩
theorem s_if {t : Sls → Rv Bool} {x y : List Stmt} (hc : PT X c (tT X.K I W t)) (ha : PSs X x (tS X.K I W u)) (hb : PSs X y (tS X.K I W w)) : PS X (.If c x y pos) (tS X.K I W (sIf t u w)) := ps_weak (ps_if hc ha hb) fun D σ H ⟨O₀, H₀, Fs, ρ, r, p⟩ =>
  ⟨O₀, H₀, Fs, ρ, r, SPo.thn r p fun k _ p v H' ⟨s, q⟩ => by
    subst q
    cases v with
    | true => exact ⟨O₀, H₀, Fs, ρ, r.mono s, SPo.shift (hid_same s) p⟩
    | false => exact ⟨O₀, H₀, Fs, ρ, r.mono s, SPo.shift (hid_same s) p⟩⟩
theorem s_aug {i : Nat} {x : Str} {pos' : Pos} {op : Operator} {r : R2} {p : Da → Da → Option Da} (hN : X.N.Nodup) (ho : OpR X (inplaceOp op) r) (hp : OpS X.K (rE X.K) r p) (he : PE X e (tBw X.K I W f)) (hi : X.N[i]? = some x := by rfl) (hx : Loc X.env.scope x := by first | exact Or.inl rfl | exact Or.inr rfl)
    (hf : X.fn x = true ∨ X.env.scope.names.lookup x = some .local := by first | exact .inl rfl | exact .inr rfl) : PS X (.AugAssign (.Name x pos') op e pos) (tS X.K I W (sAdd p i f)) :=
  ps_weak (ps_aug (ti := fun x y H Q => r x y H Q) hN hi hx he (fun pins s σ H x y v u Q J r1 r2 h => ho pins s σ H x y v u Q J r1 r2 h) hf) fun D σ H ⟨O₀, H₀, Fs, ρ, rs, po⟩ => by
    unfold sAdd at po
    cases e : ρ[i]? with
    | none => unfold xV at po; rw [e] at po; exact po.elim
    | some sl =>
      cases sl with
      | un => unfold xV at po; rw [e] at po; exact po.elim
      | own o => unfold xV at po; rw [e] at po; exact po.elim
      | val d =>
        unfold xV at po; rw [e] at po
        obtain ⟨v, F, h1, _, h3⟩ := rs.sl.get e
        cases v with
        | none => exact h3.elim
        | some v =>
          refine ⟨v, h1, O₀, H₀, Fs, ρ, rs, SPo.thn rs po fun y _ po y' H1 ⟨s1, b1⟩ => ?_⟩
          obtain ⟨z, hz, po⟩ := po.opt
          have rs1 := rs.mono s1
          refine hp _ _ v y' d y z _ (Ow.there rs1) (.inl (h3.1.mono (hid_same s1))) b1 hz fun w H2 ⟨s2, b2⟩ => ?_
          obtain ⟨r2, s3⟩ := (rs1.mono s2).setVal (i := i) b2
          exact po _ H2 _ r2 ((hid_same (s1.trans s2)).trans s3)
/-- frozen ahead of a statement -/
theorem RS.frz1 {K : PySem.W.Frag} {O₀ : Addr → Prop} {H₀ H : Hp} {Fs : List (List Addr)} {σ : St} {ρ : Sls} {i : Nat} (r : RS K O₀ H₀ Fs H σ ρ) : ∃ Gs, RS K O₀ H₀ Gs H σ (ρ.set i (frzSl (ρ.getD i .un))) ∧ Same (hid (Ow O₀ Fs) H) (hid (Ow O₀ Gs) H) := by
  cases e : ρ[i]? with
  | none =>
    have hl : ρ.length ≤ i := List.getElem?_eq_none_iff.mp e
    rw [List.set_eq_of_length_le hl]
    exact ⟨Fs, r, Same.refl _⟩
  | some s =>
    have hg : ρ.getD i .un = s := by rw [List.getD_eq_getElem?_getD, e]; rfl
    rw [hg]
    have same : ∀ s', s = s' → frzSl s = s → ∃ Gs, RS K O₀ H₀ Gs H σ (ρ.set i (frzSl s)) ∧ Same (hid (Ow O₀ Fs) H) (hid (Ow O₀ Gs) H) := fun s' _ h => by
      rw [h]
      have q : ρ.set i s = ρ := by
        refine List.ext_getElem? fun j => ?_
        rw [List.getElem?_set]
        split
        · rename_i q; subst q
          split
          · exact e.symm
          · rename_i z; exact absurd (List.getElem?_eq_some_iff.mp e).1 z
        · rfl
      rw [q]
      exact ⟨Fs, r, Same.refl _⟩
    obtain ⟨v, F, h1, h2, h3⟩ := r.sl.get e
    have hm : F ∈ Fs := List.mem_iff_getElem?.mpr ⟨i, h2⟩
    have np : ∀ a ∈ F, ¬ Ow O₀ (Fs.set i []) a := by
      rintro a ha (z | ⟨G, hG, haG⟩)
      · exact r.nO F hm a ha z
      · obtain ⟨j, ej⟩ := List.mem_iff_getElem?.mp hG
        have q := set_sub ej haG
        have hji := r.dj j i G F a q h2 haG ha
        subst hji
        have hlt : j < Fs.length := (List.getElem?_eq_some_iff.mp h2).1
        rw [List.getElem?_set_self hlt] at ej
        cases ej; simp at haG
    have sm : Same (hid (Ow O₀ Fs) H) (hid (Ow O₀ (Fs.set i [])) H) := hid_anti Ow_set
    have fin : ∀ w d, v = some w → Dq K (hid (Ow O₀ (Fs.set i [])) H) w d → RS K O₀ H₀ (Fs.set i []) H σ (ρ.set i (.val d)) := fun w d ev hd => by
      have q : σ.set i v = σ := by
        refine List.ext_getElem? fun j => ?_
        rw [List.getElem?_set]
        split
        · rename_i q; subst q
          split
          · exact h1.symm
          · rename_i z; exact absurd (List.getElem?_eq_some_iff.mp h1).1 z
        · rfl
      refine ⟨r.same, fun F hF a ha => r.new F (mem_set_sub hF ha) a ha, r.o0, fun F hF a ha => r.nO F (mem_set_sub hF ha) a ha, fun F hF a ha => r.there F (mem_set_sub hF ha) a ha, fun F hF => ?_, fun j k F G a e1 e2 h1 h2 => r.dj j k F G a (set_sub e1 h1) (set_sub e2 h2) h1 h2, ?_⟩
      · cases F with
        | nil => exact List.nodup_nil
        | cons a F' => exact r.nd _ (mem_set_sub hF List.mem_cons_self)
      · rw [← q, ev]
        exact SlAll.set (v := some w) (s := .val d) (F := []) ⟨hd, rfl⟩ i (r.sl.mono sm fun _ _ _ _ => rfl)
    cases s with
    | un => exact same _ rfl rfl
    | val d => exact same _ rfl rfl
    | own o =>
      cases v with
      | none => cases o <;> exact h3.elim
      | some w =>
        cases w with
        | ref p =>
          cases o with
          | lst xs =>
            obtain ⟨rfl, vs, h4, h5⟩ := h3
            exact ⟨_, fin _ _ rfl (.lst (.inl (.inl (by rw [hid_neg (np p (by simp))]; exact h4))) (h5.mono sm)), sm⟩
          | dk kvs =>
            obtain ⟨rfl, vs, h4, h5⟩ := h3
            exact ⟨_, fin _ _ rfl (.dk (.inl (by rw [hid_neg (np p (by simp))]; exact h4)) (h5.mono sm)), sm⟩
          | dt kvs =>
            obtain ⟨rfl, vs, h4, h5⟩ := h3
            exact ⟨_, fin _ _ rfl (.dt (.inl (by rw [hid_neg (np p (by simp))]; exact h4)) (h5.mono sm)), sm⟩
          | lol xss =>
            obtain ⟨ps, rfl, h4, h5⟩ := h3
            refine ⟨_, fin _ _ rfl (.lst (.inl (.inl (by rw [hid_neg (np p (by simp))]; exact h4))) ?_), sm⟩
            have key : ∀ (ps : List Addr) (xss : List (List Da)), (∀ a ∈ ps, ¬ Ow O₀ (Fs.set i []) a) → LolAll K (hid (Ow O₀ Fs) H) H ps xss → DqAll K (hid (Ow O₀ (Fs.set i [])) H) (ps.map V.ref) (xss.map .list) := by
              intro ps
              induction ps with
              | nil => intro xss _ h; cases xss with
                | nil => exact .nil
                | cons _ _ => exact h.elim
              | cons q ps ih =>
                intro xss k h
                cases xss with
                | nil => exact h.elim
                | cons xs xss =>
                  obtain ⟨⟨vs, g1, g2⟩, g3⟩ := h
                  exact .cons (.lst (.inl (.inl (by rw [hid_neg (k q (by simp))]; exact g1))) (g2.mono sm)) (ih xss (fun a ha => k a (List.mem_cons_of_mem _ ha)) g3)
            exact key ps xss (fun a ha => np a (List.mem_cons_of_mem _ ha)) h5
        | _ => cases o <;> exact h3.elim
theorem RS.thaw {K : PySem.W.Frag} {O₀ : Addr → Prop} {H₀ H : Hp} {σ : St} : ∀ (is : List Nat) {Fs : List (List Addr)} {ρ : Sls}, RS K O₀ H₀ Fs H σ ρ → ∃ Gs, RS K O₀ H₀ Gs H σ (thaw is ρ) ∧ Same (hid (Ow O₀ Fs) H) (hid (Ow O₀ Gs) H)
  | [], Fs, ρ, r => ⟨Fs, r, Same.refl _⟩
  | i :: is, Fs, ρ, r => by
    obtain ⟨G1, r1, s1⟩ := r.frz1 (i := i)
    obtain ⟨G2, r2, s2⟩ := RS.thaw is r1
    exact ⟨G2, r2, s1.trans s2⟩
theorem s_frz (is : List Nat) (h : PS X st (tS X.K I W u)) : PS X st (tS X.K I W (sFrz is u)) := ps_weak h fun D σ H ⟨O₀, H₀, Fs, ρ, r, p⟩ => by
  obtain ⟨Gs, r2, s2⟩ := r.thaw is
  exact ⟨O₀, H₀, Gs, _, r2, SPo.shift s2 p⟩
/-! ### targets of several names -/
theorem RS.setVals {K : PySem.W.Frag} {O₀ : Addr → Prop} {H₀ H : Hp} : ∀ {is : List Nat} {ds : List Da} {vs : List V} {Fs : List (List Addr)} {σ : St} {ρ ρ' : Sls}, RS K O₀ H₀ Fs H σ ρ → DqAll K (hid (Ow O₀ Fs) H) vs ds → setVals is ds ρ = some ρ' →
    ∃ Gs σ', is.length = vs.length ∧ σ' = (is.zip vs).foldl (fun σ p => σ.set p.1 (some p.2)) σ ∧ RS K O₀ H₀ Gs H σ' ρ' ∧ Same (hid (Ow O₀ Fs) H) (hid (Ow O₀ Gs) H)
  | [], [], _, Fs, σ, ρ, _, r, h, e => by
    cases h
    cases e
    exact ⟨Fs, σ, rfl, rfl, r, Same.refl _⟩
  | i :: is, d :: ds, _, Fs, σ, ρ, _, r, h, e => by
    cases h with
    | @cons v vs _ _ h1 h2 =>
      obtain ⟨r1, s1⟩ := r.setVal (i := i) h1
      obtain ⟨Gs, σ', l1, e1, r2, s2⟩ := RS.setVals r1 (h2.mono s1) e
      exact ⟨Gs, σ', congrArg (· + 1) l1, e1, r2, s1.trans s2⟩
  | [], _ :: _, _, _, _, _, _, _, _, e => by cases e
  | _ :: _, [], _, _, _, _, _, _, _, e => by cases e
/-- the names of a target, as slots -/
inductive PGn (X : Cx) : List Expr → List Nat → Prop where
  | nil : PGn X [] []
  | cons {x : Str} {p : Pos} {es : List Expr} {i : Nat} {is : List Nat} (hi : X.N[i]? = some x) (hx : Loc X.env.scope x) (hf : X.fn x = true ∨ X.env.scope.names.lookup x = some .local) (h : PGn X es is) : PGn X (.Name x p :: es) (i :: is)
theorem pgn_cons {x : Str} {p : Pos} {es : List Expr} {i : Nat} {is : List Nat} (h : PGn X es is) (hi : X.N[i]? = some x := by rfl) (hx : Loc X.env.scope x := by first | exact Or.inl rfl | exact Or.inr rfl) (hf : X.fn x = true ∨ X.env.scope.names.lookup x = some .local := by first | exact .inl rfl | exact .inr rfl) :
    PGn X (.Name x p :: es) (i :: is) := .cons hi hx hf h
def gNames : List Nat → TGs
  | [] => gNil
  | i :: is => gCons (gName i) (gNames is)
theorem pgn_pgs (hN : X.N.Nodup) : ∀ {es : List Expr} {is : List Nat}, PGn X es is → PGs X es (gNames is) ∧ (assignEach es X.env).length = is.length ∧ (assignEach es X.env).findIdx? (·.1) = none
  | _, _, .nil => ⟨pgs_nil, rfl, rfl⟩
  | _, _, .cons hi hx hf h => by
    obtain ⟨a, b, c⟩ := pgn_pgs hN h
    refine ⟨pgs_cons (pg_name hN hi hx hf) a rfl, ?_, ?_⟩
    · show (_ :: assignEach _ X.env).length = _
      rw [List.length_cons, b]; rfl
    · show (_ :: assignEach _ X.env).findIdx? _ = none
      rw [List.findIdx?_cons]
      simp [c]
theorem gNames_ok : ∀ {is : List Nat} {vs : List V} {σ : St} {H : Hp} {Q : St → Hp → Prop}, is.length = vs.length → Q ((is.zip vs).foldl (fun σ p => σ.set p.1 (some p.2)) σ) H → gNames is vs σ H Q
  | [], [], _, _, _, _, q => ⟨rfl, q⟩
  | i :: is, v :: vs, σ, H, Q, l, q => ⟨v, vs, rfl, gNames_ok (is := is) (vs := vs) (by simpa using l) q⟩
  | [], _ :: _, _, _, _, l, _ => by simp at l
  | _ :: _, [], _, _, _, l, _ => by simp at l
theorem s_unp {is : List Nat} {ts : List Expr} {k : Nat} {pt : Pos} (hN : X.N.Nodup) (hc : X.calm = true) (he : PE X e (tEv X.K I W f)) (hg : PGn X ts is) (hs : swapsWithSole [.Tuple ts k pt] e pos.line X.env = pure false := by rfl) (hw : swappedStores [.Tuple ts k pt] e X.env = pure none := by rfl) :
    PS X (.Assign [.Tuple ts k pt] e pos) (tS X.K I W (sUnp is f)) :=
  ps_weak (ps_asg he (pg_tup (n := is.length) hc (pgn_pgs hN hg).1 (pgn_pgs hN hg).2.1 (pgn_pgs hN hg).2.2) hs hw rfl) fun D σ H ⟨O₀, H₀, Fs, ρ, r, p⟩ => ⟨O₀, H₀, Fs, ρ, r, SPo.thn r p fun d _ p v H' ⟨s, q⟩ => by
    cases d with
    | tuple ds =>
      obtain ⟨ρ', hz, p⟩ := SPo.opt p
      cases q with
      | @tup a xs _ h1 h2 =>
        obtain ⟨Gs, σ', l, e1, r2, s2⟩ := RS.setVals (r.mono s) h2 hz
        refine ⟨a, xs, rfl, hid_le.seqT h1, l.symm, gNames_ok l ?_⟩
        rw [← e1]
        exact p σ' H' Gs r2 ((hid_same s).trans s2)
    | _ => exact p.elim⟩
end
end L2
end

section
set_option Elab.async false
set_option linter.all false
set_option maxRecDepth 100000
namespace PySem
open Sem (wp)
set_option maxHeartbeats 1000000 in
theorem meets_enumerate_newB1 {v : Value} {o : Obj} {H : Heap → Prop} (B : Begins v o H) :
    Meets (Builtin.«enumerate.__new__» ⟨[.type "enumerate", v], []⟩) (fun _ R s => H s.heap ∧
      R (.ok (.ret (.ref (s.heap.push o).objs.size))) { s with heap := (s.heap.push o).push { cls := .type "enumerate", data := .fields #[.none, .bool false, .ref s.heap.objs.size, rawInt 0, .none, .none] } }) :=
  .of_wp fun prog w A R s h => by
    obtain ⟨hp, g, d, tk, os⟩ := s; obtain ⟨h1, h⟩ := h
    have hsub := sub_enumerate
    have q1 : ∀ {A' : Around} {E : Value → Shared → Prop} {Q : Value → Shared → Prop}, Q (.ref hp.objs.size) ⟨hp.push o, g, d, tk, os⟩ → wpAny (model prog w) A' (pyIter v) Q E ⟨hp, g, d, tk, os⟩ :=
      fun q => B.iter prog w _ _ ⟨hp, g, d, tk, os⟩ _ h1 q
    wp_walk using q1
    refine wpAny_stack_any fun st => wpAny_pure ?_
    split
    · rename_i c _ _ _ _ _
      cases (c == Value.type "enumerate")
      · wp_walk using q1
        exact ⟨_, rfl, h⟩
      · wp_walk using q1
        exact ⟨_, rfl, h⟩
    · wp_walk using q1
      exact ⟨_, rfl, h⟩
theorem enum_begins1 {prog : Program} {w : World} {A : Around} {E : Value → Shared → Prop} {s : Shared} {v : Value} {o : Obj} {H : Heap → Prop} {Q : Value → Shared → Prop} (B : Begins v o H) (h1 : H s.heap)
    (h : ∀ h', IsEnum h' (s.heap.objs.size + 1) s.heap.objs.size 0 .none → h'.get? s.heap.objs.size = some o → h'.objs.size = s.heap.objs.size + 2 →
      (∀ b o, s.heap.get? b = some o → h'.get? b = some o) → Q (.ref (s.heap.objs.size + 1)) { s with heap := h' }) :
    wpAny (model prog w) A (call (.type "enumerate") [v]) Q E s := by
  refine callType_new F.called_enumerate (by decide) (F.typeCall_enumerate_1 _) (F.newCall_enumerate_1 _) (fun obj => F.args_object_init_2 obj _) F.entry_enumerate_new
    (meets_enumerate_newB1 B) ⟨h1, ?_⟩
  have hz : (s.heap.push o).objs.size = s.heap.objs.size + 1 := Heap.size_push ..
  show _ ∧ _
  rw [hz]
  have he : IsEnum ((s.heap.push o).push { cls := .type "enumerate", data := .fields #[.none, .bool false, .ref s.heap.objs.size, rawInt 0, .none, .none] }) (s.heap.objs.size + 1) s.heap.objs.size 0 .none := by
    have := Heap.get?_push_size (s.heap.push o) (o := { cls := .type "enumerate", data := .fields #[.none, .bool false, .ref s.heap.objs.size, rawInt 0, .none, .none] }) rfl
    rw [hz] at this; exact this
  refine ⟨⟨_, he, rfl⟩, h _ he (Heap.get?_push_of_some _ (Heap.get?_push_size _ B.free)) (by rw [Heap.size_push, hz]) fun b o x => Heap.get?_push_of_some _ (Heap.get?_push_of_some _ x)⟩
end PySem
namespace L2
open PySem PySem.Spec PyProof.Rows
/-! ### sources: a list, a tuple, a text -/
inductive Sr where
  | l (a : Addr) | t (a : Addr) | s (x : Str)
def Sr.val : Sr → V
  | .l a => .ref a
  | .t a => .ref a
  | .s x => .str x
/-- what is in it -/
def Sr.at (K : PySem.W.Frag) (H : Hp) : Sr → List V → Prop
  | .l a, xs => SqL K H a xs
  | .t a, xs => SqT K H a xs
  | .s x, xs => xs = x.cps.toList.map fun c => V.str ⟨#[c]⟩
def Sr.tn (it : Addr) (i : Nat) (h : Heap) : Sr → Prop
  | .l a => h.IsListIter it a i
  | .t a => h.IsTupleIter it a i
  | .s x => ∃ t, h.IsStrIter it (strIterType x) x t i
section
variable {X : Cx} {pins : List (Addr × Obj)} {σ : L2.St} {H : Hp} {s : Shared} {sr : Sr} {xs ys : List V} {it : Addr} {i : Nat}
theorem Sr.inj (I : Inv X pins σ H s) (h : sr.at X.K H xs) (h' : sr.at X.K H ys) : xs = ys := by
  cases sr with
  | l a => exact I.list_inj h h'
  | t a => exact I.tuple_inj h h'
  | s x => exact h.trans h'.symm
theorem Sr.tn_at {h h' : Heap} (st : sr.tn it i h) (k : ∀ o, h.get? it = some o → h'.get? it = some o) : sr.tn it i h' := by
  cases sr with
  | l a => exact st.at k
  | t a => exact st.at k
  | s x => obtain ⟨t, o, e, c, d⟩ := st; exact ⟨t, o, k o e, c, d⟩
theorem Sr.tn_obj {h : Heap} (st : sr.tn it i h) : ∃ o vs, h.get? it = some o ∧ o.data = .fields vs := by
  cases sr with
  | l a => obtain ⟨o, e, c, d⟩ := st; exact ⟨o, _, e, d⟩
  | t a => obtain ⟨o, e, c, d⟩ := st; exact ⟨o, _, e, d⟩
  | s x => obtain ⟨t, o, e, c, d⟩ := st; exact ⟨o, _, e, d⟩
structure Dr (P : Program) (w : World) (A : Around) (sr : Sr) (it : Addr) (i : Nat) (xs : List V) (h : Heap) (fp : List Addr) (Pv : Nat → Value → Prop) (St : Nat → Heap → Prop) : Prop where
  dr : Draws P w A it fp xs.length Pv St
  st : St i h
  mem : it ∈ fp
  val : ∀ j u, Pv j u → ∃ x, xs[j]? = some x ∧ RelV x u
  tn : ∀ j h, St j h → sr.tn it j h
  fps : ∀ b ∈ fp, b = it ∨ ∃ o it' n, h.get? b = some o ∧ o.data = .seq it' n
theorem Sr.draws (I : Inv X pins σ H s) (hq : sr.at X.K H xs) (hc : X.calm = true) (st : sr.tn it i s.heap) : ∃ fp Pv St, Dr X.prog X.w X.A.in1 sr it i xs s.heap fp Pv St := by
  have hh : X.A.in1.handled = none := I.ok.hd hc
  cases sr with
  | l a =>
    obtain ⟨its, rv, p, hz⟩ := I.list hq
    obtain ⟨o, n, ho, hcl, hdi, hd⟩ := id p
    obtain ⟨oi, hoi, hci, hdi'⟩ := id st
    have hne : a ≠ it := fun z => by rw [z, hoi] at ho; cases ho; rw [hdi'] at hd; cases hd
    have e1 : its.toArray.size = xs.length := by rw [List.size_toArray]; exact rv.length.symm
    have D := Draws.list (prog := X.prog) (w := X.w) hh it a hne its.toArray
    rw [e1] at D
    refine ⟨_, _, _, D, ⟨st, p.isList⟩, by simp, fun j u e => ?_, fun j h q => q.1, fun b hb => ?_⟩
    · have e2 : its[j]? = some u := by simpa using e
      cases q : xs[j]? with
      | none => rw [rv.none_of q] at e2; cases e2
      | some x =>
        obtain ⟨u', e3, r⟩ := rv.get q
        rw [e2] at e3; cases e3
        exact ⟨x, rfl, r⟩
    · have z : b = it ∨ b = a := by simpa using hb
      rcases z with z | z
      · exact .inl z
      · exact .inr ⟨o, _, n, by rw [z]; exact ho, hd⟩
  | t a =>
    obtain ⟨its, rv, p, hz⟩ := I.tuple hq
    obtain ⟨o, ho, hcl, n, hd⟩ := id p
    obtain ⟨oi, hoi, hci, hdi'⟩ := id st
    have hne : a ≠ it := fun z => by rw [z, hoi] at ho; cases ho; rw [hdi'] at hd; cases hd
    have e1 : its.toArray.size = xs.length := by rw [List.size_toArray]; exact rv.length.symm
    have D := Draws.tuple (prog := X.prog) (w := X.w) hh it a hne its.toArray
    rw [e1] at D
    refine ⟨_, _, _, D, ⟨st, p⟩, by simp, fun j u e => ?_, fun j h q => q.1, fun b hb => ?_⟩
    · have e2 : its[j]? = some u := by simpa using e
      cases q : xs[j]? with
      | none => rw [rv.none_of q] at e2; cases e2
      | some x =>
        obtain ⟨u', e3, r⟩ := rv.get q
        rw [e2] at e3; cases e3
        exact ⟨x, rfl, r⟩
    · have z : b = it ∨ b = a := by simpa using hb
      rcases z with z | z
      · exact .inl z
      · exact .inr ⟨o, _, n, by rw [z]; exact ho, hd⟩
  | s x =>
    have hq : xs = x.cps.toList.map fun c => V.str ⟨#[c]⟩ := hq
    subst hq
    obtain ⟨t, st⟩ := st
    have D := Draws.text (prog := X.prog) (w := X.w) hh it x t
    have e1 : x.cps.size = (x.cps.toList.map fun c => V.str ⟨#[c]⟩).length := by simp
    rw [e1] at D
    refine ⟨_, _, _, D, st, by simp, fun j u ⟨c, u', e, eu⟩ => ?_, fun j h q => ⟨t, q⟩, fun b hb => .inl (by simpa using hb)⟩
    subst eu
    refine ⟨.str ⟨#[c]⟩, ?_, ⟨u', rfl⟩⟩
    have e2 : x.cps.toList[j]? = some c := by simpa using e
    rw [List.getElem?_map, e2]
    rfl
end
/-! ### enumerate of a source -/
def ItE (K : PySem.W.Frag) (sr : Sr) : It :=
  ⟨fun i H => ∃ xs x, sr.at K H xs ∧ xs[i]? = some x,
    fun i H v H' => ∃ T x, v = .ref T ∧ H T = none ∧ H' = upd H T (.tup [.int (i : Nat), x]) ∧ ∀ xs, sr.at K H xs → xs[i]? = some x,
    fun i H => ∃ xs, sr.at K H xs ∧ xs.length = i⟩
theorem turn_enumA {P : Program} {w : World} {K : PySem.W.Frag} {elts : List Expr} {kk : Nat} {tpos : Pos} (sr : Sr) (e it : Addr) :
    Turn P w K (.Tuple elts kk tpos) (ItE K sr) [e, it] e (fun i h => (∃ old, IsEnum h e it ((i : Nat) : Int) old) ∧ sr.tn it i h ∧ e ≠ it) where
  mem := by simp
  obj := fun i h st b hb => by
    obtain ⟨⟨old, he⟩, ht, _⟩ := st
    obtain ⟨o, vs, ho, hd⟩ := Sr.tn_obj ht
    have e' : b = e ∨ b = it := by simpa using hb
    rcases e' with z | z
    · rw [z]; exact ⟨_, he, fun v q => nomatch q⟩
    · rw [z]; exact ⟨o, ho, fun v q => by rw [hd] at q; cases q⟩
  keep := fun i h h' st k => let ⟨⟨old, he⟩, hi, hne⟩ := st; ⟨⟨old, k e (by simp) _ he⟩, Sr.tn_at hi fun o q => k it (by simp) o q, hne⟩
  item := by
    intro X hP hw hK hc i pins s σ H E I hf st hg
    subst hP hw hK
    obtain ⟨⟨old, he⟩, hit, hne⟩ := st
    obtain ⟨xs, x, hq, hx⟩ := hg
    obtain ⟨fp, Pv, St, D⟩ := Sr.draws I hq hc hit
    have hef : e ∉ fp := fun z => by
      rcases D.fps e z with q | ⟨o, it', n, q, qd⟩
      · exact hne q
      · rw [show s.heap.get? e = some _ from he] at q; cases q; cases qd
    have hel : e < s.heap.objs.size := Heap.lt_size he
    have hil : it < s.heap.objs.size := by obtain ⟨o, _, q, _⟩ := Sr.tn_obj hit; exact Heap.lt_size q
    have hlt : i < xs.length := (List.getElem?_eq_some_iff.mp hx).1
    refine wpAny_pyNext_enum_itemC D.dr he D.st hlt hne hef fun u h' tk hP ho hs' hT hsz hk => ?_
    obtain ⟨x', hx', ru⟩ := D.val i u hP
    rw [hx] at hx'; cases hx'
    refine ⟨_, rfl, wpAny_letOwnedTupleGo_enum (s := { s with heap := h', toks := tk + 1 }) ho fun h'' he' sb => ?_⟩
    have hT2 : h''.get? s.heap.objs.size = some { cls := .type "tuple", data := .seq #[.int (i : Nat) tk, u] } := (sb.2 _ (Nat.ne_of_gt hel)).trans hT
    have new : ObjOk X.prog X.w (upd H s.heap.objs.size (.tup [.int (i : Nat), x])) h'' s.heap.objs.size (.tup [.int (i : Nat), x]) :=
      ⟨by show 2 ≤ sizeLine; decide, [.int (i : Nat) tk, u], .cons ⟨_, rfl⟩ (.cons ru .nil), ⟨_, hT2, rfl, _, rfl⟩⟩
    have I1 : Inv X pins σ (upd H s.heap.objs.size (.tup [.int (i : Nat), x])) { s with heap := h'', toks := tk + 1 } :=
      I.turnedNew (ch := [e, it]) (fun b ob hb q => (sb.2 b (fun z => hb (by simp [z]))).trans (hk b ob (fun z => hb (by simp [z])) (fun z => hb (by simp [z])) q)) hf (Nat.le_refl _) new
    refine ⟨.ref s.heap.objs.size, _, I1, rfl, ⟨_, x, rfl, I.hok.fresh (Nat.le_refl _), rfl, fun ys hy => by rw [Sr.inj I hy hq]; exact hx⟩, ⟨⟨u, ?_⟩, Sr.tn_at (D.tn _ _ hs') fun o q => (sb.2 it (Ne.symm hne)).trans q, hne⟩, fun b hb => ?_⟩
    · have e1 : ((i + 1 : Nat) : Int) = (i : Int) + 1 := by omega
      rw [e1]; exact he'
    · have hb' : b < s.heap.objs.size := by
        have e' : b = e ∨ b = it := by simpa using hb
        rcases e' with z | z
        · rw [z]; exact hel
        · rw [z]; exact hil
      rw [upd_ne (Nat.ne_of_lt hb')]
      exact (hf b hb).1
  done := by
    intro X hP hw hK hc i pins s σ H E I hf st hg
    subst hP hw hK
    obtain ⟨⟨old, he⟩, hit, hne⟩ := st
    obtain ⟨xs, hq, hx⟩ := hg
    subst hx
    obtain ⟨fp, Pv, St, D⟩ := Sr.draws I hq hc hit
    obtain ⟨f0, f1, f2, f3, f4, f5⟩ := hf it (by simp)
    exact wpAny_pyNext_enum_endD D.dr he D.st fun h' eb => ⟨rfl, I.turned (t' := s.toks) (fun b o hb q => eb b o hb q) f0 f1 f3 f4 f5⟩
  self := fun A i s Q E st h => let ⟨⟨_, he⟩, _⟩ := st; wpAny_pyIter_enum he h

/-! ### what is walked, by data -/
/-- J walks the data ds; B: the part of the heap that must stand for the walk, S: for the items -/
structure Yl (K : PySem.W.Frag) (B S : Hp) (J : It) (ds : List Da) : Prop where
  go : ∀ (i : Nat) (H : Hp), Same B H → i < ds.length → J.go i H
  stop : ∀ (i : Nat) (H : Hp), Same B H → i = ds.length → J.stop i H
  yld : ∀ (i : Nat) (H : Hp) (x : V) (H' : Hp), Same B H → J.yld i H x H' → ∀ d, ds[i]? = some d → Same H H' ∧ ∀ O, (∀ a, O a → H a ≠ none) → Same S (hid O H) → Dq K (hid O H') x d
theorem Yl.up {K : PySem.W.Frag} {B B' S S' : Hp} {J : It} {ds : List Da} (y : Yl K B S J ds) (s : Same B B') (s' : Same S S') : Yl K B' S' J ds :=
  ⟨fun i H h => y.go i H (s.trans h), fun i H h => y.stop i H (s.trans h), fun i H x H' h a d e => ⟨(y.yld i H x H' (s.trans h) a d e).1, fun O o q => (y.yld i H x H' (s.trans h) a d e).2 O o (s'.trans q)⟩⟩
/-- what a source holds, as data -/
def srD : Sr → Da → Option (List Da)
  | .l _, .list xs => some xs
  | .t _, .tuple xs => some xs
  | .s _, .str x => some (x.cps.toList.map fun c => .str ⟨#[c]⟩)
  | _, _ => none
def itD : Da → Option (List Da)
  | .list xs => some xs
  | .tuple xs => some xs
  | .str x => some (x.cps.toList.map fun c => .str ⟨#[c]⟩)
  | _ => none
/-- a datum's source -/
structure Src (K : PySem.W.Frag) (B S : Hp) (v : V) (ds : List Da) (sr : Sr) (xs : List V) : Prop where
  val : v = sr.val
  at' : sr.at K B xs
  all : DqAll K S xs ds
theorem Sr.at_mono {K : PySem.W.Frag} {H H' : Hp} {sr : Sr} {xs : List V} (s : Same H H') (h : sr.at K H xs) : sr.at K H' xs := by
  cases sr with
  | l a => exact s.seq h
  | t a => exact s.seqT h
  | s x => exact h
theorem strs_all {K : PySem.W.Frag} {H : Hp} : ∀ l : List Nat, DqAll K H (l.map fun c => V.str ⟨#[c]⟩) (l.map fun c => PyData.str ⟨#[c]⟩)
  | [] => .nil
  | c :: l => .cons (.str _) (strs_all l)
theorem src_br {K : PySem.W.Frag} {O : Addr → Prop} {H : Hp} {v : V} {d : Da} {ds : List Da} (h : Br K O H v d) (e : itD d = some ds) : ∃ sr xs, Src K H (hid O H) v ds sr xs := by
  cases d with
  | list xs =>
    cases e
    obtain ⟨p, vs, rfl, h1, h2⟩ := h.list
    exact ⟨.l p, vs, rfl, h1.sq, h2⟩
  | tuple xs =>
    cases e
    obtain ⟨p, vs, rfl, h1, h2⟩ := h.tuple
    exact ⟨.t p, vs, rfl, hid_le.seqT h1, h2⟩
  | str x =>
    cases e
    cases h.str
    exact ⟨.s x, _, rfl, rfl, strs_all _⟩
  | _ => cases e
theorem src_dq {K : PySem.W.Frag} {H : Hp} {v : V} {d : Da} {ds : List Da} (h : Dq K H v d) (e : itD d = some ds) : ∃ sr xs, Src K H H v ds sr xs := by
  cases h with
  | lst h1 h2 => cases e; exact ⟨.l _, _, rfl, h1.sq, h2⟩
  | tup h1 h2 => cases e; exact ⟨.t _, _, rfl, h1, h2⟩
  | str x => cases e; exact ⟨.s x, _, rfl, rfl, strs_all _⟩
  | _ => cases e
/-- a source walked by itself -/
def Sr.J (K : PySem.W.Frag) : Sr → It
  | .l a => Itl K a
  | .t a => Itt K a
  | .s x => Its x
section
variable {X : Cx} {I : XI} {W : WX} {f g : Sls → Rv Da}
theorem walk_src {K : PySem.W.Frag} {B S : Hp} {v : V} {ds : List Da} {sr : Sr} {xs : List V} (h : Src K B S v ds sr xs) : Yl K B S (sr.J K) ds := by
  have hl := h.all.length
  have key : ∀ (i : Nat) (x : V), xs[i]? = some x → ∀ d, ds[i]? = some d → Dq K S x d := fun i x e d ed => by
    obtain ⟨d', e1, q⟩ := h.all.getV e
    rw [ed] at e1; cases e1
    exact q
  cases sr with
  | l a =>
    have hq : SqL K B a xs := h.at'
    refine ⟨fun i H s hi => ⟨xs, xs[i]'(by omega), s.seq hq, by simp⟩, fun i H s hi => ⟨xs, s.seq hq, by omega⟩, fun i H x H' s y d ed => ?_⟩
    obtain ⟨rfl, y⟩ := y
    exact ⟨Same.refl _, fun O _ q => (key i x (y xs (s.seq hq)) d ed).mono q⟩
  | t a =>
    have hq : SqT K B a xs := h.at'
    refine ⟨fun i H s hi => ⟨xs, xs[i]'(by omega), s.seqT hq, by simp⟩, fun i H s hi => ⟨xs, s.seqT hq, by omega⟩, fun i H x H' s y d ed => ?_⟩
    obtain ⟨rfl, y⟩ := y
    exact ⟨Same.refl _, fun O _ q => (key i x (y xs (s.seqT hq)) d ed).mono q⟩
  | s x =>
    have hq : xs = x.cps.toList.map fun c => V.str ⟨#[c]⟩ := h.at'
    have hl2 : xs.length = x.cps.size := by rw [hq]; simp
    refine ⟨fun i H s hi => ?_, fun i H s hi => ?_, fun i H w H' s y d ed => ?_⟩
    · show i < x.cps.size
      omega
    · show x.cps.size ≤ i
      omega
    · obtain ⟨rfl, c, e1, e2⟩ := y
      refine ⟨Same.refl _, fun O _ q => (key i w ?_ d ed).mono q⟩
      have e3 : x.cps.toList[i]? = some c := by simpa using e1
      rw [hq, List.getElem?_map, e3, e2]
      rfl
theorem walk_enum {K : PySem.W.Frag} {B S : Hp} {v : V} {ds : List Da} {sr : Sr} {xs : List V} (h : Src K B S v ds sr xs) : Yl K B S (ItE K sr) (ds.zipIdx.map fun p => PyData.tuple [.int (p.2 : Nat), p.1]) := by
  have hl := h.all.length
  refine ⟨fun i H s hi => ?_, fun i H s hi => ?_, fun i H x H' s y d ed => ?_⟩
  · have hi' : i < xs.length := by simpa [hl] using hi
    exact ⟨xs, xs[i], Sr.at_mono s h.at', by simp⟩
  · exact ⟨xs, Sr.at_mono s h.at', by simpa [hl] using hi.symm⟩
  · obtain ⟨T, z, rfl, hT, rfl, hz⟩ := y
    refine ⟨same_new hT, fun O ho q => ?_⟩
    have hz := hz xs (Sr.at_mono s h.at')
    obtain ⟨d', e1, q1⟩ := h.all.getV hz
    have e2 : (ds.zipIdx.map fun p => PyData.tuple [.int (p.2 : Nat), p.1])[i]? = some (PyData.tuple [.int (i : Nat), d']) := by
      simp [e1]
    rw [e2] at ed
    cases ed
    have nT : ¬ O T := fun z => ho T z hT
    refine .tup (.inl (.inl (by rw [hid_neg nT, upd_same]))) (.cons (.int _) (.cons (q1.mono (q.trans fun b o e => ?_)) .nil))
    obtain ⟨n, e⟩ := of_hid e
    rw [hid_neg n, upd_ne (ne_of_none e hT)]; exact e
end
end L2
end

section
set_option Elab.async false
set_option linter.all false
set_option maxRecDepth 100000
namespace L2
open PySem PySem.Spec PyProof.Rows

section
variable (K : PySem.W.Frag) (I : XI)
/-- what a loop walks: it stands while what is stable stands -/
def tItF (W : WX) (f : Sls → Rv (List Da)) : TI := fun σ H R => ∃ O₀ H₀ Fs ρ, RS K O₀ H₀ Fs H σ ρ ∧ Post I W σ H (fun H' J ds => Same H H' ∧ Yl K (hid (Ow O₀ Fs) H') (hid (Ow O₀ Fs) H') J ds) (f ρ) R
/-- what a comprehension walks: it stands while all stands -/
def tItC (W : WX) (f : Sls → Rv (List Da)) : TI := fun σ H R => ∃ O₀ H₀ Fs ρ, RS K O₀ H₀ Fs H σ ρ ∧ Post I W σ H (fun H' J ds => Same H H' ∧ Yl K H' (hid (Ow O₀ Fs) H') J ds) (f ρ) R
end
def iSq (f : Sls → Rv Da) : Sls → Rv (List Da) := fun ρ => (f ρ).bind fun d => Rv.ofO (itD d)
def enumD (ds : List Da) : List Da := ds.zipIdx.map fun p => PyData.tuple [.int (p.2 : Nat), p.1]
def iEn (f : Sls → Rv Da) : Sls → Rv (List Da) := fun ρ => (f ρ).bind fun d => (Rv.ofO (itD d)).bind fun ds => .ok (enumD ds)
def rngD (lo hi : Int) : List Da := (List.range (hi - lo).toNat).map fun (k : Nat) => PyData.int (lo + (k : Int))
def rng1 : Da → Option (List Da)
  | .int j => if j.natAbs ≤ 4611686018427387903 then some (rngD 0 j) else none
  | _ => none
def rng2 : Da → Da → Option (List Da)
  | .int i, .int j => if i.natAbs ≤ 4611686018427387903 ∧ j.natAbs ≤ 4611686018427387903 then some (rngD i j) else none
  | _, _ => none
def iR1 (f : Sls → Rv Da) : Sls → Rv (List Da) := fun ρ => (f ρ).bind fun d => Rv.ofO (rng1 d)
def iR2 (f g : Sls → Rv Da) : Sls → Rv (List Da) := fun ρ => (f ρ).bind fun d => (g ρ).bind fun e => Rv.ofO (rng2 d e)
section
variable {X : Cx} {I : XI} {W : WX} {f g : Sls → Rv Da} {tg e a b : Expr} {pos : Pos}
theorem pi_weak {t t' : TI} (h : PI X tg e t) (k : ∀ σ H Q, t' σ H Q → t σ H Q) : PI X tg e t' := ⟨fun pins s σ H Q J q => h.run pins s σ H Q J (k σ H Q q)⟩
def iSrc (K : PySem.W.Frag) (te : TE) : TI := fun σ H R => te σ H fun v H1 => ∃ sr xs, v = Sr.val sr ∧ sr.at K H1 xs ∧ R (sr.J K) H1
/-- for .. in e, e a list, a tuple or a text -/
theorem pi_src {te : TE} (he : PE X e te) : PI X tg e (iSrc X.K te) := by
  refine ⟨fun pins s σ H R I h => ?_⟩
  refine thn (he.run pins s σ H _ I h) fun v s1 ⟨x, H1, I1, r1, sr, xs, ex, hq, q⟩ => ?_
  subst ex
  cases sr with
  | l a =>
    cases r1
    obtain ⟨its, rv, p, hz⟩ := I1.list hq
    refine wpAny_pyIter_list p.isList ?_
    refine ⟨s1.heap.objs.size, [s1.heap.objs.size], _, _, H1, rfl, I1.kept (t' := s1.toks) fun b o e => Heap.get?_push_of_some _ e, turn_list a _, ⟨_, Heap.get?_push_size _ rfl, rfl, rfl⟩, fun b hb => ?_, q⟩
    have e : b = s1.heap.objs.size := by simpa using hb
    subst e
    exact I1.fpOk (Nat.le_refl _) (I1.hok.fresh (Nat.le_refl _))
  | t a =>
    cases r1
    obtain ⟨its, rv, p, hz⟩ := I1.tuple hq
    refine wpAny_pyIter_tuple (show s1.heap.IsTuple a its.toArray from p) ?_
    refine ⟨s1.heap.objs.size, [s1.heap.objs.size], _, _, H1, rfl, I1.kept (t' := s1.toks) fun b o e => Heap.get?_push_of_some _ e, turn_tuple a _, ⟨_, Heap.get?_push_size _ rfl, rfl, rfl⟩, fun b hb => ?_, q⟩
    have e : b = s1.heap.objs.size := by simpa using hb
    subst e
    exact I1.fpOk (Nat.le_refl _) (I1.hok.fresh (Nat.le_refl _))
  | s x =>
    obtain ⟨t, rfl⟩ := r1
    cases ha : x.cps.all (· < 128)
    · exact wpAny_pyIter_wide ha (pi_one (tk := s1.toks) I1 _ (turn_str _ x t "str_iterator" (.inr rfl)) ⟨_, Heap.get?_push_size _ rfl, rfl, rfl⟩ q)
    · exact wpAny_pyIter_ascii ha (pi_one (tk := s1.toks) I1 _ (turn_str _ x t "str_ascii_iterator" (.inl rfl)) ⟨_, Heap.get?_push_size _ rfl, rfl, rfl⟩ q)
def iEnumA (K : PySem.W.Frag) (te : TE) : TI := fun σ H R => te σ H fun v H1 => ∃ sr xs, v = Sr.val sr ∧ sr.at K H1 xs ∧ R (ItE K sr) H1
theorem pi_enumA {te : TE} {p tpos : Pos} {elts : List Expr} {kk : Nat} (hm : X.mg "enumerate" = none) (he : PE X e te) (hg : Gl X "enumerate" := by rfl) (hs : starEach [e] X.env = (false, eval e X.env) :: starEach [] X.env := by rfl) :
    PI X (.Tuple elts kk tpos) (.Call (.Name "enumerate" p) [e] [] pos) (iEnumA X.K te) := by
  refine ⟨fun pins s σ H R I h => ?_⟩
  refine Call_ (ld_blt I hg hm boot_enumerate (PyProof.Rows.callWith_type1 (args_cons (thn (he.run pins s σ H _ I h) fun u s1 ⟨v, H1, I1, r1, q1⟩ => args_nil ?_) hs) hs rfl))
  obtain ⟨sr, xs, ev, hq, q⟩ := q1
  subst ev
  have fin : ∀ h', IsEnum h' (s1.heap.objs.size + 1) s1.heap.objs.size 0 .none → sr.tn s1.heap.objs.size 0 h' → (∀ b o, s1.heap.get? b = some o → h'.get? b = some o) →
      wpAny (model X.prog X.w) X.A (pyIter (.ref (s1.heap.objs.size + 1))) (PIE X pins σ (.Tuple elts kk tpos) R) X.xe { s1 with heap := h' } := fun h' he' ht hk => by
    refine wpAny_pyIter_enum he' ?_
    have I2 : Inv X pins σ H1 { s1 with heap := h' } := I1.kept (t' := s1.toks) hk
    refine ⟨s1.heap.objs.size + 1, [s1.heap.objs.size + 1, s1.heap.objs.size], _, _, H1, rfl, I2, turn_enumA sr (s1.heap.objs.size + 1) s1.heap.objs.size, ⟨⟨.none, he'⟩, ht, Nat.succ_ne_self _⟩, fun b hb => ?_, q⟩
    have e' : b = s1.heap.objs.size + 1 ∨ b = s1.heap.objs.size := by simpa using hb
    have hle : s1.heap.objs.size ≤ b := by
      rcases e' with z | z
      · rw [z]; exact Nat.le_add_right _ _
      · rw [z]; exact Nat.le_refl _
    exact I1.fpOk hle (I1.hok.fresh hle)
  cases sr with
  | l a =>
    cases r1
    obtain ⟨its, rv, p', hz⟩ := I1.list hq
    exact enum_begins1 (begins_list a its.toArray) p'.isList fun h' he' ho hsz hk => fin h' he' ⟨_, ho, rfl, rfl⟩ hk
  | t a =>
    cases r1
    obtain ⟨its, rv, p', hz⟩ := I1.tuple hq
    exact enum_begins1 (begins_tuple a its.toArray) p' fun h' he' ho hsz hk => fin h' he' ⟨_, ho, rfl, rfl⟩ hk
  | s x =>
    obtain ⟨t, rfl⟩ := r1
    exact enum_begins1 (begins_text x t) trivial fun h' he' ho hsz hk => fin h' he' ⟨t, _, ho, rfl, rfl⟩ hk
theorem Post.bopt {α β γ : Type} {σ : St} {H : Hp} {Rl : Hp → β → α → Prop} {r : Option γ} {k : γ → Rv α} {Q : β → Hp → Prop} (p : Post I W σ H Rl ((Rv.ofO r).bind k) Q) : ∃ c, r = some c ∧ Post I W σ H Rl (k c) Q := by
  cases r with
  | some c => exact ⟨c, rfl, p⟩
  | none => exact p.elim
theorem i_sqF (he : PE X e (tEv X.K I W f)) : PI X tg e (tItF X.K I W (iSq f)) := pi_weak (pi_src he) fun σ H R ⟨O₀, H₀, Fs, ρ, rs, po⟩ => ⟨O₀, H₀, Fs, ρ, rs, po.first fun d _ po v H1 ⟨s1, b1⟩ => by
  obtain ⟨ds, hd, po⟩ := po.opt
  obtain ⟨sr, xs, q⟩ := src_dq b1 hd
  exact ⟨sr, xs, q.val, Sr.at_mono hid_le q.at', po _ H1 ⟨s1, walk_src q⟩⟩⟩
theorem i_sqC (he : PE X e (tBw X.K I W f)) : PI X tg e (tItC X.K I W (iSq f)) := pi_weak (pi_src he) fun σ H R ⟨O₀, H₀, Fs, ρ, rs, po⟩ => ⟨O₀, H₀, Fs, ρ, rs, po.first fun d _ po v H1 ⟨s1, b1⟩ => by
  obtain ⟨ds, hd, po⟩ := po.opt
  obtain ⟨sr, xs, q⟩ := src_br b1 hd
  exact ⟨sr, xs, q.val, q.at', po _ H1 ⟨s1, walk_src q⟩⟩⟩
theorem i_enF {p tpos : Pos} {elts : List Expr} {kk : Nat} (hm : X.mg "enumerate" = none) (he : PE X e (tEv X.K I W f)) (hg : Gl X "enumerate" := by rfl) (hs : starEach [e] X.env = (false, eval e X.env) :: starEach [] X.env := by rfl) :
    PI X (.Tuple elts kk tpos) (.Call (.Name "enumerate" p) [e] [] pos) (tItF X.K I W (iEn f)) := pi_weak (pi_enumA hm he hg hs) fun σ H R ⟨O₀, H₀, Fs, ρ, rs, po⟩ => ⟨O₀, H₀, Fs, ρ, rs, po.first fun d _ po v H1 ⟨s1, b1⟩ => by
  obtain ⟨ds, hd, po⟩ := po.bopt
  obtain ⟨sr, xs, q⟩ := src_dq b1 hd
  exact ⟨sr, xs, q.val, Sr.at_mono hid_le q.at', po _ H1 ⟨s1, walk_enum q⟩⟩⟩
theorem i_enC {p tpos : Pos} {elts : List Expr} {kk : Nat} (hm : X.mg "enumerate" = none) (he : PE X e (tBw X.K I W f)) (hg : Gl X "enumerate" := by rfl) (hs : starEach [e] X.env = (false, eval e X.env) :: starEach [] X.env := by rfl) :
    PI X (.Tuple elts kk tpos) (.Call (.Name "enumerate" p) [e] [] pos) (tItC X.K I W (iEn f)) := pi_weak (pi_enumA hm he hg hs) fun σ H R ⟨O₀, H₀, Fs, ρ, rs, po⟩ => ⟨O₀, H₀, Fs, ρ, rs, po.first fun d _ po v H1 ⟨s1, b1⟩ => by
  obtain ⟨ds, hd, po⟩ := po.bopt
  obtain ⟨sr, xs, q⟩ := src_br b1 hd
  exact ⟨sr, xs, q.val, q.at', po _ H1 ⟨s1, walk_enum q⟩⟩⟩
theorem walk_rng {K : PySem.W.Frag} {B S : Hp} (lo hi : Int) : Yl K B S (Itr lo (hi - lo).toNat) (rngD lo hi) := by
  refine ⟨fun i H s h => ?_, fun i H s h => ?_, fun i H x H' s y d ed => ?_⟩
  · have : i < (hi - lo).toNat := by simpa [rngD] using h
    exact this
  · have : i = (hi - lo).toNat := by simpa [rngD] using h
    show (hi - lo).toNat ≤ i
    omega
  · obtain ⟨rfl, rfl⟩ := y
    refine ⟨Same.refl _, fun O _ q => ?_⟩
    unfold rngD at ed
    rw [List.getElem?_map] at ed
    cases z : (List.range (hi - lo).toNat)[i]? with
    | none => rw [z] at ed; cases ed
    | some k =>
      rw [z] at ed
      obtain ⟨h1, h2⟩ := List.getElem?_eq_some_iff.mp z
      rw [List.getElem_range] at h2
      subst h2
      cases ed
      exact .int _
theorem i_r1F {p : Pos} (hm : X.mg "range" = none) (he : PE X a (tBw X.K I W f)) (hg : Gl X "range" := by rfl) (hs : starEach [a] X.env = [(false, eval a X.env)] := by rfl) : PI X tg (.Call (.Name "range" p) [a] [] pos) (tItF X.K I W (iR1 f)) :=
  pi_weak (pi_range1 hg hm (pa_cons he pa_nil hs) hs) fun σ H R ⟨O₀, H₀, Fs, ρ, rs, po⟩ => ⟨O₀, H₀, Fs, ρ, rs, po.first fun d _ po v H1 ⟨s1, b1⟩ => by
  obtain ⟨ds, hd, po⟩ := po.opt
  cases d with
  | int j =>
    simp only [rng1] at hd
    split at hd
    · rename_i hj
      cases hd
      cases b1.int
      have q : Yl X.K (hid (Ow O₀ Fs) H1) (hid (Ow O₀ Fs) H1) (Itr 0 (j - 0).toNat) (rngD 0 j) := walk_rng 0 j
      rw [Int.sub_zero] at q
      have hj2 : -(2 ^ 62) ≤ j ∧ j < 2 ^ 62 := by omega
      exact ⟨j, rfl, hj2.1, hj2.2, po _ H1 ⟨s1, q⟩⟩
    · cases hd
  | _ => cases hd⟩
theorem i_r2F {p : Pos} (hm : X.mg "range" = none) (he : PE X a (tBw X.K I W f)) (hb : PE X b (tBw X.K I W g)) (hg : Gl X "range" := by rfl) (hs : starEach [a, b] X.env = [(false, eval a X.env), (false, eval b X.env)] := by rfl) (hs2 : starEach [b] X.env = [(false, eval b X.env)] := by rfl) :
    PI X tg (.Call (.Name "range" p) [a, b] [] pos) (tItF X.K I W (iR2 f g)) :=
  pi_weak (pi_range2 hg hm (pa_cons he (pa_cons hb pa_nil hs2) (by rw [hs, hs2])) hs hs2) fun σ H R ⟨O₀, H₀, Fs, ρ, rs, po⟩ => ⟨O₀, H₀, Fs, ρ, rs, po.first fun d _ po v H1 ⟨s1, b1⟩ =>
  ⟨O₀, H₀, Fs, ρ, rs.mono s1, (po.at s1).first fun e _ po w H2 ⟨s2, b2⟩ => by
    obtain ⟨ds, hd, po⟩ := po.opt
    cases d with
    | int i =>
      cases e with
      | int j =>
        simp only [rng2] at hd
        split at hd
        · rename_i hj
          cases hd
          cases b1.int
          cases b2.int
          have hj2 : (-(2 ^ 62) ≤ i ∧ i < 2 ^ 62) ∧ (-(2 ^ 62) ≤ j ∧ j < 2 ^ 62) := by omega
          exact ⟨i, j, rfl, ⟨hj2.1.1, hj2.1.2, hj2.2.1, hj2.2.2⟩, po _ H2 ⟨s1.trans s2, walk_rng i j⟩⟩
        · cases hd
      | _ => cases hd
    | _ => cases hd⟩⟩
/-- what a loop may walk, a comprehension may -/
theorem i_fc {h : Sls → Rv (List Da)} (hi : PI X tg e (tItF X.K I W h)) : PI X tg e (tItC X.K I W h) := pi_weak hi fun σ H R ⟨O₀, H₀, Fs, ρ, rs, po⟩ => ⟨O₀, H₀, Fs, ρ, rs, post_weak (fun H' J ds z => ⟨z.1, z.2.up hid_le (Same.refl _)⟩) po⟩

/-! ### for -/
/-- a target that takes data: its slots are is -/
structure TgOk (K : PySem.W.Frag) (is : List Nat) (gt : TG) (set : Da → Sls → Option Sls) : Prop where
  run : ∀ {O₀ H₀ Fs H σ ρ ρ' v d} {Q : St → Hp → Prop}, RS K O₀ H₀ Fs H σ ρ → Dq K (hid (Ow O₀ Fs) H) v d → set d ρ = some ρ' →
    (∀ σ' Gs, RS K O₀ H₀ Gs H σ' ρ' → Same (hid (Ow O₀ Fs) H) (hid (Ow O₀ Gs) H) → σ'.length = σ.length → (∀ j, j ∉ is → σ'[j]? = σ[j]?) → ((∀ j ∈ is, ∀ F, Fs[j]? = some F → F = []) → Gs = Fs) → Q σ' H) → gt v σ H Q
theorem set_nil_same {α : Type} {Fs : List (List α)} {i : Nat} (h : ∀ F, Fs[i]? = some F → F = []) : Fs.set i [] = Fs := by
  refine List.ext_getElem? fun j => ?_
  rw [List.getElem?_set]
  split
  · rename_i q; subst q
    split
    · rename_i hl
      have e := List.getElem?_eq_getElem hl
      rw [e, h _ e]
    · rename_i hl
      rw [List.getElem?_eq_none (by omega)]
  · rfl
theorem tg_one (i : Nat) {K : PySem.W.Frag} : TgOk K [i] (gName i) (setOne i) := ⟨fun r h e q => by
  cases e
  obtain ⟨r2, s2⟩ := r.setVal (i := i) h
  exact q _ _ r2 s2 (by simp) (fun j hj => List.getElem?_set_ne (fun z => hj (by simp [z]))) fun k => set_nil_same (k i (by simp))⟩
theorem fold_set : ∀ (is : List Nat) (vs : List V) (σ : St), ((is.zip vs).foldl (fun σ p => σ.set p.1 (some p.2)) σ).length = σ.length ∧ ∀ j, j ∉ is → ((is.zip vs).foldl (fun σ p => σ.set p.1 (some p.2)) σ)[j]? = σ[j]?
  | [], _, σ => ⟨rfl, fun _ _ => rfl⟩
  | _ :: _, [], σ => ⟨rfl, fun _ _ => rfl⟩
  | i :: is, v :: vs, σ => by
    obtain ⟨a, b⟩ := fold_set is vs (σ.set i (some v))
    refine ⟨by rw [List.zip_cons_cons, List.foldl_cons, a, List.length_set], fun j hj => ?_⟩
    rw [List.zip_cons_cons, List.foldl_cons, b j fun z => hj (List.mem_cons_of_mem _ z)]
    exact List.getElem?_set_ne fun z => hj (by simp [z])
theorem RS.setVals' {K : PySem.W.Frag} {O₀ : Addr → Prop} {H₀ H : Hp} : ∀ {is : List Nat} {ds : List Da} {vs : List V} {Fs : List (List Addr)} {σ : St} {ρ ρ' : Sls}, RS K O₀ H₀ Fs H σ ρ → DqAll K (hid (Ow O₀ Fs) H) vs ds → L2.setVals is ds ρ = some ρ' →
    ∃ Gs σ', is.length = vs.length ∧ σ' = (is.zip vs).foldl (fun σ p => σ.set p.1 (some p.2)) σ ∧ RS K O₀ H₀ Gs H σ' ρ' ∧ Same (hid (Ow O₀ Fs) H) (hid (Ow O₀ Gs) H) ∧ ((∀ j ∈ is, ∀ F, Fs[j]? = some F → F = []) → Gs = Fs)
  | [], [], _, Fs, σ, ρ, _, r, h, e => by
    cases h
    cases e
    exact ⟨Fs, σ, rfl, rfl, r, Same.refl _, fun _ => rfl⟩
  | i :: is, d :: ds, _, Fs, σ, ρ, _, r, h, e => by
    cases h with
    | @cons v vs _ _ h1 h2 =>
      obtain ⟨r1, s1⟩ := r.setVal (i := i) h1
      obtain ⟨Gs, σ', l1, e1, r2, s2, g⟩ := RS.setVals' r1 (h2.mono s1) e
      refine ⟨Gs, σ', congrArg (· + 1) l1, e1, r2, s1.trans s2, fun k => ?_⟩
      have z := set_nil_same (k i (by simp))
      rw [z] at g
      exact g fun j hj => k j (List.mem_cons_of_mem _ hj)
  | [], _ :: _, _, _, _, _, _, _, _, e => by cases e
  | _ :: _, [], _, _, _, _, _, _, _, e => by cases e
theorem tg_tup (is : List Nat) {K : PySem.W.Frag} : TgOk K is (gTup K is.length (gNames is)) (setTup is) := ⟨fun {O₀ H₀ Fs H σ ρ ρ' v d Q} r h e q => by
  cases h with
  | @tup a xs ds h1 h2 =>
    obtain ⟨Gs, σ', l, e1, r2, s2, g⟩ := RS.setVals' r h2 e
    refine ⟨a, xs, rfl, hid_le.seqT h1, l.symm, gNames_ok l ?_⟩
    obtain ⟨a1, a2⟩ := fold_set is xs σ
    rw [← e1] at a1 a2 ⊢
    exact q σ' Gs r2 s2 a1 a2 g
  | _ => cases e⟩
theorem s_for {is : List Nat} {iter : Expr} {body : List Stmt} {it : Sls → Rv (List Da)} {gt : TG} {set : Da → Sls → Option Sls} {u : SS} (hp : PassesOwn (model X.prog X.w) X.A X.env X.xe) (hc : X.calm = true) (hi : PI X tg iter (tItF X.K I W it)) (hg : PG X tg gt) (ok : TgOk X.K is gt set)
    (hb : PSs X body (tS X.K I W u)) (hs : ∀ x, foldedSetIterable iter X.env x = pure x := by intro _; rfl) : PS X (.For tg iter body [] pos) (tS X.K I W (sFor it set u)) :=
  ps_weak (ps_for hp hc hi hg hb hs) fun D σ H ⟨O₀, H₀, Fs, ρ, r, p⟩ => ⟨O₀, H₀, Fs, ρ, r, SPo.thn r p fun ds _ p J H1 ⟨s1, y⟩ => by
    have p := SPo.shift (hid_same s1) p
    have r1 := r.mono s1
    refine ⟨fun i m σ' H' => m = ds.length - i ∧ i ≤ ds.length ∧ ∃ Gs ρ', RS X.K O₀ H₀ Gs H' σ' ρ' ∧ Same (hid (Ow O₀ Fs) H1) (hid (Ow O₀ Gs) H') ∧ SPo X.K I W O₀ H₀ Gs H' (forL set u (ds.drop i) ρ') D,
      ⟨ds.length, by simp, Nat.zero_le _, Fs, ρ, r1, Same.refl _, p⟩, ?_⟩
    rintro i m σ' H' ⟨rfl, hi, Gs, ρ', r', s', p'⟩
    have sb : Same (hid (Ow O₀ Fs) H1) H' := s'.trans hid_le
    by_cases hlt : i < ds.length
    · refine .inr ⟨y.go i H' sb hlt, fun σ2 H2 => i + 1 ≤ ds.length ∧ ∃ Gs ρ', RS X.K O₀ H₀ Gs H2 σ2 ρ' ∧ Same (hid (Ow O₀ Fs) H1) (hid (Ow O₀ Gs) H2) ∧ SPo X.K I W O₀ H₀ Gs H2 (forL set u (ds.drop (i + 1)) ρ') D,
        fun σ2 H2 ⟨h1, h2⟩ => ⟨ds.length - (i + 1), by omega, rfl, h1, h2⟩, fun x H2 hy => ?_⟩
      obtain ⟨s2, q2⟩ := y.yld i H' x H2 sb hy ds[i] (List.getElem?_eq_getElem hlt)
      have q3 := q2 (Ow O₀ Gs) (Ow.there r') s'
      rw [List.drop_eq_getElem_cons hlt] at p'
      simp only [forL] at p'
      cases hz : set ds[i] ρ' with
      | none => rw [hz] at p'; exact p'.elim
      | some ρ2 =>
        rw [hz] at p'
        simp only at p'
        refine ok.run (r'.mono s2) q3 hz fun σ3 Gs3 r3 s3 _ _ _ => ⟨O₀, H₀, Gs3, ρ2, r3, ?_⟩
        have s4 : Same (hid (Ow O₀ Gs) H') (hid (Ow O₀ Gs3) H2) := (hid_same s2).trans s3
        have again : ∀ ρ3, SPo X.K I W O₀ H₀ Gs H' (forL set u (ds.drop (i + 1)) ρ3) D → ∀ σ5 H5 Fs5, RS X.K O₀ H₀ Fs5 H5 σ5 ρ3 → Same (hid (Ow O₀ Gs3) H2) (hid (Ow O₀ Fs5) H5) →
            (i + 1 ≤ ds.length ∧ ∃ Gs ρ', RS X.K O₀ H₀ Gs H5 σ5 ρ' ∧ Same (hid (Ow O₀ Fs) H1) (hid (Ow O₀ Gs) H5) ∧ SPo X.K I W O₀ H₀ Gs H5 (forL set u (ds.drop (i + 1)) ρ') D) := fun ρ3 p3 σ5 H5 Fs5 r5 s5 =>
          ⟨hlt, Fs5, ρ3, r5, s'.trans (s4.trans s5), p3.shift (s4.trans s5)⟩
        cases ho : u ρ2 with
        | nx ρ3 => rw [ho] at p'; exact again ρ3 p'
        | ct ρ3 => rw [ho] at p'; exact again ρ3 p'
        | bk ρ3 => rw [ho] at p'; exact fun σ5 H5 Fs5 r5 s5 => p' σ5 H5 Fs5 r5 (s4.trans s5)
        | rt d => rw [ho] at p'; exact p'
        | exc c d ρ3 => rw [ho] at p'; exact fun cls dx σ5 H5 Fs5 r5 s5 => p' cls dx σ5 H5 Fs5 r5 (s4.trans s5)
        | bad => rw [ho] at p'; exact p'
    · have e : i = ds.length := by omega
      rw [e, List.drop_length] at p'
      exact .inl ⟨y.stop i H' sb e, p' σ' H' Gs r' (Same.refl _)⟩⟩
theorem s_while {c : Expr} {body : List Stmt} {t : Sls → Rv Bool} {u : SS} (n : Nat) (hp : PassesOwn (model X.prog X.w) X.A X.env X.xe) (hc : PT X c (tT X.K I W t)) (hb : PSs X body (tS X.K I W u)) : PS X (.While c body [] pos) (tS X.K I W (whL t u n)) :=
  ps_weak (ps_while hp hc hb) fun D σ H ⟨O₀, H₀, Fs, ρ, r, p⟩ => by
    refine ⟨fun m σ' H' => ∃ Gs ρ', RS X.K O₀ H₀ Gs H' σ' ρ' ∧ SPo X.K I W O₀ H₀ Gs H' (whL t u m ρ') D, ⟨n, Fs, ρ, r, p⟩, ?_⟩
    rintro m σ' H' ⟨Gs, ρ', r', p'⟩
    cases m with
    | zero => exact p'.elim
    | succ m =>
      simp only [whL] at p'
      refine ⟨O₀, H₀, Gs, ρ', r', SPo.thn r' p' fun k _ p' v H1 ⟨s1, q1⟩ => ?_⟩
      subst q1
      have p' := p'.shift (hid_same s1)
      have r1 := r'.mono s1
      cases v with
      | false => exact p' σ' H1 Gs r1 (Same.refl _)
      | true =>
        simp only [if_true] at p'
        refine ⟨fun σ2 H2 => ∃ Gs ρ', RS X.K O₀ H₀ Gs H2 σ2 ρ' ∧ SPo X.K I W O₀ H₀ Gs H2 (whL t u m ρ') D, fun σ2 H2 h => ⟨m, Nat.lt_succ_self _, h⟩, O₀, H₀, Gs, ρ', r1, ?_⟩
        cases ho : u ρ' with
        | nx ρ3 => rw [ho] at p'; exact fun σ5 H5 Fs5 r5 s5 => ⟨Fs5, ρ3, r5, SPo.shift s5 p'⟩
        | ct ρ3 => rw [ho] at p'; exact fun σ5 H5 Fs5 r5 s5 => ⟨Fs5, ρ3, r5, SPo.shift s5 p'⟩
        | bk ρ3 => rw [ho] at p'; exact p'
        | rt d => rw [ho] at p'; exact p'
        | exc c d ρ3 => rw [ho] at p'; exact p'
        | bad => rw [ho] at p'; exact p'
end
end L2
end

section
set_option Elab.async false
set_option linter.all false
set_option maxRecDepth 100000
namespace L2
open PySem PySem.Spec PyProof.Rows
/-! ### comprehensions -/
theorem wipe_get (σ : St) : ∀ (vs : List Nat) (j : Nat), (wipe σ vs)[j]? = if j ∈ vs ∧ j < σ.length then some none else σ[j]?
  | [], j => by simp [wipe]
  | v :: vs, j => by
    unfold wipe
    rw [List.getElem?_set, wipe_get σ vs j, wipe_length]
    by_cases h : v = j
    · subst h
      simp
      split
      · rfl
      · rename_i h; rw [List.getElem?_eq_none (by omega)]
    · rw [if_neg h]
      have : (j ∈ v :: vs) ↔ j ∈ vs := by simp [Ne.symm h]
      simp only [this]
theorem wipe_eq {σ σ' : St} {vs : List Nat} (l : σ'.length = σ.length) (h : ∀ j, j ∉ vs → σ'[j]? = σ[j]?) : wipe σ' vs = wipe σ vs := by
  refine List.ext_getElem? fun j => ?_
  rw [wipe_get, wipe_get, l]
  by_cases hj : j ∈ vs
  · by_cases hl : j < σ.length
    · rw [if_pos ⟨hj, hl⟩, if_pos ⟨hj, hl⟩]
    · rw [if_neg fun z => hl z.2, if_neg fun z => hl z.2, List.getElem?_eq_none (by omega), List.getElem?_eq_none (by omega)]
  · rw [if_neg fun z => hj z.1, if_neg fun z => hj z.1, h j hj]
theorem wipe_wipe (σ : St) (vs : List Nat) : wipe (wipe σ vs) vs = wipe σ vs := wipe_eq (wipe_length _ _) fun j hj => by rw [wipe_get, if_neg fun z => hj z.1]
section
variable {K : PySem.W.Frag} {O₀ : Addr → Prop} {H₀ H H1 : Hp} {Fs : List (List Addr)} {σ : St} {ρ : Sls}
/-- a name is forgotten, what it owned stays hidden -/
theorem RS.hide1 (r : RS K O₀ H₀ Fs H σ ρ) (i : Nat) : ∃ O₁, RS K O₁ H₀ (Fs.set i []) H (σ.set i none) (ρ.set i .un) ∧ ∀ a, Ow O₁ (Fs.set i []) a ↔ Ow O₀ Fs a := by
  let O₁ : Addr → Prop := fun a => O₀ a ∨ ∃ F, Fs[i]? = some F ∧ a ∈ F
  have ow : ∀ a, Ow O₁ (Fs.set i []) a ↔ Ow O₀ Fs a := fun a => by
    constructor
    · rintro ((h | ⟨F, hF, ha⟩) | ⟨F, hF, ha⟩)
      · exact .inl h
      · exact .inr ⟨F, List.mem_iff_getElem?.mpr ⟨i, hF⟩, ha⟩
      · exact .inr ⟨F, mem_set_sub hF ha, ha⟩
    · rintro (h | ⟨F, hF, ha⟩)
      · exact .inl (.inl h)
      · obtain ⟨j, ej⟩ := List.mem_iff_getElem?.mp hF
        by_cases hj : j = i
        · subst hj; exact .inl (.inr ⟨F, ej, ha⟩)
        · refine .inr ⟨F, List.mem_iff_getElem?.mpr ⟨j, ?_⟩, ha⟩
          rw [List.getElem?_set_ne (Ne.symm hj)]; exact ej
  have eh : hid (Ow O₁ (Fs.set i [])) H = hid (Ow O₀ Fs) H := by
    have : Ow O₁ (Fs.set i []) = Ow O₀ Fs := funext fun a => propext (ow a)
    rw [this]
  refine ⟨O₁, ⟨r.same, fun F hF a ha => r.new F (mem_set_sub hF ha) a ha, fun a h => ?_, fun F hF a ha h => ?_, fun F hF a ha => r.there F (mem_set_sub hF ha) a ha, fun F hF => ?_, fun j k F G a e1 e2 h1 h2 => r.dj j k F G a (set_sub e1 h1) (set_sub e2 h2) h1 h2, ?_⟩, ow⟩
  · rcases h with h | ⟨F, hF, ha⟩
    · exact r.o0 a h
    · exact r.there F (List.mem_iff_getElem?.mpr ⟨i, hF⟩) a ha
  · rcases h with h | ⟨G, hG, haG⟩
    · exact r.nO F (mem_set_sub hF ha) a ha h
    · obtain ⟨j, ej⟩ := List.mem_iff_getElem?.mp hF
      have e := r.dj j i F G a (set_sub ej ha) hG ha haG
      subst e
      have hl : j < Fs.length := (List.getElem?_eq_some_iff.mp hG).1
      rw [List.getElem?_set_self hl] at ej
      cases ej; simp at ha
  · cases F with
    | nil => exact List.nodup_nil
    | cons a F' => exact r.nd _ (mem_set_sub hF List.mem_cons_self)
  · rw [eh]
    exact SlAll.set (v := none) (s := .un) (F := []) rfl i r.sl
theorem RS.wipe (r : RS K O₀ H₀ Fs H σ ρ) : ∀ vs : List Nat, ∃ O₁ Gs, RS K O₁ H₀ Gs H (wipe σ vs) (wipeR ρ vs) ∧ (∀ a, Ow O₁ Gs a ↔ Ow O₀ Fs a) ∧ ∀ j ∈ vs, ∀ F, Gs[j]? = some F → F = []
  | [] => ⟨O₀, Fs, r, fun _ => Iff.rfl, fun _ h => by simp at h⟩
  | v :: vs => by
    obtain ⟨O₁, Gs, r1, o1, n1⟩ := RS.wipe r vs
    obtain ⟨O₂, r2, o2⟩ := r1.hide1 v
    refine ⟨O₂, Gs.set v [], r2, fun a => (o2 a).trans (o1 a), fun j hj F e => ?_⟩
    rw [List.getElem?_set] at e
    split at e
    · split at e
      · cases e; rfl
      · cases e
    · rename_i h
      rcases List.mem_cons.mp hj with z | z
      · exact absurd z.symm h
      · exact n1 j z F e
/-- a further object is hidden -/
theorem RS.under {D : Addr} (r : RS K O₀ H₀ Fs H1 σ ρ) (s : Same H1 H) (h1 : H1 D = none) (h2 : H D ≠ none) : RS K (fun a => O₀ a ∨ a = D) (fun _ => none) Fs H σ ρ ∧ Same (hid (Ow O₀ Fs) H1) (hid (Ow (fun a => O₀ a ∨ a = D) Fs) H) := by
  have nD : ∀ F ∈ Fs, ∀ a ∈ F, a ≠ D := fun F hF a ha z => r.there F hF a ha (z ▸ h1)
  have sm : Same (hid (Ow O₀ Fs) H1) (hid (Ow (fun a => O₀ a ∨ a = D) Fs) H) := fun b o e => by
    obtain ⟨n, e⟩ := of_hid e
    rw [hid_neg]
    · exact s b o e
    · rintro ((z | z) | z)
      · exact n (.inl z)
      · rw [z, h1] at e; cases e
      · exact n (.inr z)
  refine ⟨⟨fun b o e => (by cases e), fun _ _ _ _ => rfl, fun a h z => ?_, fun F hF a ha h => ?_, fun F hF a ha z => r.there F hF a ha (s.free z), r.nd, r.dj, r.sl.mono sm fun F hF a ha => ?_⟩, sm⟩
  · rcases h with h | h
    · exact r.o0 a h (s.free z)
    · exact h2 (h ▸ z)
  · rcases h with h | h
    · exact r.nO F hF a ha h
    · exact nD F hF a ha h
  · cases e : H1 a with
    | none => exact absurd e (r.there F hF a ha)
    | some x => exact s a x e
end
theorem nox_ok {α β : Type} {x : Rv α} {k : α → Rv β} {b : β} (h : x.nox.bind k = .ok b) : ∃ a, x = .ok a ∧ k a = .ok b := by
  cases x with
  | ok a => exact ⟨a, rfl, h⟩
  | exc c d => cases h
  | bad => cases h
theorem bind_ok {α β : Type} {x : Rv α} {k : α → Rv β} {b : β} (h : x.bind k = .ok b) : ∃ a, x = .ok a ∧ k a = .ok b := by
  cases x with
  | ok a => exact ⟨a, rfl, h⟩
  | exc c d => cases h
  | bad => cases h
theorem capL_ok {ds : List Da} {d : Da} (h : capL ds = .ok d) : d = .list ds ∧ ds.length ≤ 16777216 := by
  unfold capL at h
  split at h
  · rename_i z; cases h; exact ⟨rfl, z⟩
  · cases h
theorem compL_noexc (set : Da → Sls → Option Sls) (tt : Sls → Rv Bool) (el : Sls → Rv Da) (ρ : Sls) : ∀ (ds : List Da) c d, compL set tt el ρ ds ≠ .exc c d
  | [], c, d => fun h => by cases h
  | x :: ds, c, d => fun h => by
    have ih := compL_noexc set tt el ρ ds c d
    simp only [compL] at h
    cases hs : set x ρ with
    | none => rw [hs] at h; cases h
    | some ρ1 =>
      rw [hs] at h
      simp only at h
      cases ht : tt ρ1 with
      | ok b =>
        rw [ht] at h
        cases b with
        | true =>
          simp only [Rv.nox, Rv.bind, if_true] at h
          cases he : el ρ1 with
          | ok y =>
            rw [he] at h
            simp only at h
            cases hr : compL set tt el ρ ds with
            | ok ys => rw [hr] at h; cases h
            | exc c' d' => rw [hr] at h; simp only at h; exact ih (hr.trans h)
            | bad => rw [hr] at h; cases h
          | exc c' d' => rw [he] at h; cases h
          | bad => rw [he] at h; cases h
        | false =>
          simp only [Rv.nox, Rv.bind, Bool.false_eq_true, if_false] at h
          exact ih h
      | exc c' d' => rw [ht] at h; cases h
      | bad => rw [ht] at h; cases h
section
variable {X : Cx} {I : XI} {W : WX} {el : Sls → Rv Da} {tt : Sls → Rv Bool} {it : Sls → Rv (List Da)} {set : Da → Sls → Option Sls} {gt : TG}
abbrev W0 : WX := fun _ _ _ _ => False
theorem zs_nil {X : Cx} : PTs X [] (tT X.K I W0 zYes) := ⟨fun pins s σ H Q J ⟨O₀, H₀, Fs, ρ, r, p⟩ => pts_nil.run pins s σ H Q J (p true H ⟨Same.refl _, rfl⟩)⟩
theorem zs_one {X : Cx} {c : Expr} (h : PT X c (tT X.K I W0 tt)) : PTs X [c] (tT X.K I W0 tt) := pts_one h
theorem comp_read {K : PySem.W.Frag} {vs : List Nat} {is : List Nat} (ok : TgOk K is gt set) (hiv : ∀ i ∈ is, i ∈ vs) : ∀ σ H Q, tFr K I W (xComp vs it set tt el) σ H Q → tLc (tItC K I W it) gt (tT K I W0 tt) (tEv K I W0 el) vs σ H Q := by
  rintro σ H Q ⟨O₀, H₀, Fs, ρ, r, p⟩
  refine ⟨O₀, H₀, Fs, ρ, r, p.first fun ds _ p J H1 ⟨s1, y⟩ => fun D hD => ?_⟩
  have r1 := r.mono s1
  obtain ⟨O₁, Gs, rw1, o1, n1⟩ := r1.wipe vs
  have eO : Ow O₁ Gs = Ow O₀ Fs := funext fun a => propext (o1 a)
  cases hc : compL set tt el (wipeR ρ vs) ds with
  | exc c d => exact absurd hc (compL_noexc _ _ _ _ _ c d)
  | bad => rw [hc] at p; exact p.elim
  | ok all =>
    rw [hc] at p
    have p : Post I W σ H (fun H' v d => rF K (Ow O₀ Fs) H H' v d) (capL all) Q := p
    cases hcap : capL all with
    | exc c d => unfold capL at hcap; split at hcap <;> cases hcap
    | bad => rw [hcap] at p; exact p.elim
    | ok dl =>
      rw [hcap] at p
      obtain ⟨rfl, hsz⟩ := capL_ok hcap
      have p : ∀ v H', rF K (Ow O₀ Fs) H H' v (.list all) → Q v H' := p
      -- the hidden ones with D
      have ow : ∀ a, Ow (fun a => O₁ a ∨ a = D) Gs a ↔ (Ow O₀ Fs a ∨ a = D) := fun a => by
        rw [← eO]
        constructor
        · rintro ((z | z) | z)
          · exact .inl (.inl z)
          · exact .inr z
          · exact .inl (.inr z)
        · rintro ((z | z) | z)
          · exact .inl (.inl z)
          · exact .inr z
          · exact .inl (.inr z)
      let O' : Addr → Prop := Ow (fun a => O₁ a ∨ a = D) Gs
      refine ⟨fun i m H' => m = ds.length - i ∧ i ≤ ds.length ∧ ∃ acc xs ys, H' D = some (.lst acc) ∧ DqAll K (hid O' H') acc xs ∧ Same H1 H' ∧ compL set tt el (wipeR ρ vs) (ds.drop i) = .ok ys ∧ xs ++ ys = all,
        ⟨ds.length, by simp, Nat.zero_le _, [], [], all, upd_same, .nil, same_new hD, hc, rfl⟩, ?_⟩
      rintro i m H' ⟨rfl, hi, acc, xs, ys, hHD, hacc, sH, hcomp, hall⟩
      obtain ⟨rb, sb⟩ := rw1.under (H := H') sH hD (by rw [hHD]; simp)
      by_cases hlt : i < ds.length
      · refine .inr ⟨y.go i H' sH hlt, fun H2 => i + 1 ≤ ds.length ∧ ∃ acc xs ys, H2 D = some (.lst acc) ∧ DqAll K (hid O' H2) acc xs ∧ Same H1 H2 ∧ compL set tt el (wipeR ρ vs) (ds.drop (i + 1)) = .ok ys ∧ xs ++ ys = all,
          fun H2 ⟨h1, h2⟩ => ⟨ds.length - (i + 1), by omega, rfl, h1, h2⟩, fun x H2 hy => ?_⟩
        obtain ⟨s2, q2⟩ := y.yld i H' x H2 sH hy ds[i] (List.getElem?_eq_getElem hlt)
        have q3 := q2 O' (Ow.there rb) (by rw [← eO]; exact sb)
        rw [List.drop_eq_getElem_cons hlt] at hcomp
        simp only [compL] at hcomp
        cases hz : set ds[i] (wipeR ρ vs) with
        | none => rw [hz] at hcomp; cases hcomp
        | some ρ2 =>
          rw [hz] at hcomp
          simp only at hcomp
          obtain ⟨bt, hbt, hcomp⟩ := nox_ok hcomp
          refine ok.run (rb.mono s2) q3 hz fun σ3 Gs3 r3 s3 l3 k3 g3 => ⟨?_, ?_⟩
          · rw [← wipe_wipe σ vs]
            exact wipe_eq l3 fun j hj => k3 j fun z => hj (hiv j z)
          · have eG : Gs3 = Gs := g3 fun j hj => n1 j (hiv j hj)
            subst eG
            refine ⟨_, _, _, ρ2, r3, ?_⟩
            rw [hbt]
            rintro b H3 ⟨sm3, rfl⟩
            have sH3 : Same H' H3 := s2.trans sm3
            cases b with
            | false =>
              simp only [Bool.false_eq_true, if_false] at hcomp ⊢
              exact ⟨hlt, acc, xs, ys, sH3 _ _ hHD, hacc.mono (hid_same sH3), sH.trans sH3, hcomp, hall⟩
            | true =>
              simp only [if_true] at hcomp ⊢
              obtain ⟨dy, hdy, hcomp⟩ := nox_ok hcomp
              obtain ⟨zs, hzs, hcomp⟩ := bind_ok hcomp
              have ecomp : dy :: zs = ys := by injection hcomp
              refine ⟨_, _, _, ρ2, r3.mono sm3, ?_⟩
              rw [hdy]
              rintro v H4 ⟨sm4, q4⟩
              have sH4 : Same H' H4 := sH3.trans sm4
              have hD4 := sH4 _ _ hHD
              have hD' : O' D := (ow D).mpr (.inr rfl)
              have la : acc.length < sizeLine := by
                rw [hacc.length, sizeLine_eq]
                have e1 : (xs ++ ys).length = all.length := by rw [hall]
                rw [List.length_append, ← ecomp, List.length_cons] at e1
                omega
              refine ⟨acc, hD4, la, hlt, acc ++ [v], xs ++ [dy], zs, upd_same, ?_, ?_, hzs, by rw [List.append_assoc]; rw [← hall, ← ecomp]; rfl⟩
              · rw [hid_upd hD']
                exact (hacc.mono (hid_same sH4)).append (.cons q4 .nil)
              · exact fun b o e => by
                  rw [upd_ne (ne_of_none e hD)]
                  exact sH4 _ _ (sH _ _ e)
      · have e : i = ds.length := by omega
        rw [e, List.drop_length] at hcomp
        have e2 : ([] : List Da) = ys := by
          have h : Rv.ok ([] : List Da) = .ok ys := hcomp
          injection h
        subst e2
        rw [List.append_nil] at hall
        subst hall
        refine .inl ⟨y.stop i H' sH e, p _ _ ⟨fun a => if a = D then none else H' a, D, acc, xs, s1.trans fun b o eb => ?_, if_pos rfl, ?_, rfl, rfl, hacc.mono fun b o eb => ?_⟩⟩
        · have nb : b ≠ D := ne_of_none eb hD
          rw [if_neg nb]; exact sH _ _ eb
        · funext a
          by_cases ha : a = D
          · subst ha; rw [upd_same, hHD]
          · rw [upd_ne ha, if_neg ha]
        · obtain ⟨n, eb⟩ := of_hid eb
          have nb : b ≠ D := fun z => n ((ow b).mpr (.inr z))
          rw [hid_neg fun z => n ((ow b).mpr (.inl z)), if_neg nb]; exact eb
theorem o_comp {elt tg iter : Expr} {ifs : List Expr} {scope : Scope} {own : List (Str × Nat)} {pos : Pos} {is : List Nat} (hc : X.calm = true) (hN : X.N.Nodup) (hi : PI X tg iter (tItC X.K I W it)) (okB : BlkOk X.N X.env.scope scope own) (ok : TgOk X.K is gt set) (hiv : ∀ i ∈ is, i ∈ own.map (·.2))
    (hg : ∀ (s : Shared) (H : Hp) (C : Addr) (cl : List (Str × Addr)) (fp : List Addr), PG (X.blk s H scope (compEnvC scope cl C X.env) fp) tg gt) (ht : ∀ (s : Shared) (H : Hp) (C : Addr) (cl : List (Str × Addr)) (fp : List Addr), PTs (X.blk s H scope (compEnvC scope cl C X.env) fp) ifs (tT X.K I W0 tt))
    (he : ∀ (s : Shared) (H : Hp) (C : Addr) (cl : List (Str × Addr)) (fp : List Addr), PE (X.blk s H scope (compEnvC scope cl C X.env) fp) elt (tEv X.K I W0 el)) (hs : ∀ x, foldedSetIterable iter X.env x = pure x := by intro _; rfl) :
    PE X (.ListComp elt [⟨tg, iter, ifs, 0⟩] scope pos) (tFr X.K I W (xComp (own.map (·.2)) it set tt el)) := pe_weak (pe_lc hc hN hi okB hg ht he hs) (comp_read ok hiv)
/-- name = [..] on one line -/
theorem s_setLc {u : SS} {i : Nat} {y : Str} {py : Pos} {elt tg iter : Expr} {ifs : List Expr} {scope : Scope} {own : List (Str × Nat)} {pos spos : Pos} {is : List Nat} (hc : X.calm = true) (hN : X.N.Nodup) (hyl : X.env.scope.names.lookup y = some .local)
    (hsw : swapsWith (.ListComp elt [⟨tg, iter, ifs, 0⟩] scope pos) (some (.Name y py)) spos.line X.env = pure true) (hi : PI X tg iter (tItC X.K I W it)) (okB : BlkOk X.N X.env.scope scope own) (ok : TgOk X.K is gt set) (hiv : ∀ i ∈ is, i ∈ own.map (·.2))
    (hg : ∀ (s : Shared) (H : Hp) (C : Addr) (cl : List (Str × Addr)) (fp : List Addr), PG (X.blk s H scope (compEnvC scope cl C X.env) fp) tg gt) (ht : ∀ (s : Shared) (H : Hp) (C : Addr) (cl : List (Str × Addr)) (fp : List Addr), PTs (X.blk s H scope (compEnvC scope cl C X.env) fp) ifs (tT X.K I W0 tt))
    (he : ∀ (s : Shared) (H : Hp) (C : Addr) (cl : List (Str × Addr)) (fp : List Addr), PE (X.blk s H scope (compEnvC scope cl C X.env) fp) elt (tEv X.K I W0 el))
    (hu : ∀ D σ H, tS X.K I W u D σ H → tFr X.K I W (xComp (own.map (·.2)) it set tt el) σ H fun x H1 => gName i x σ H1 D.nx) (hy : X.N[i]? = some y := by rfl) (hs : ∀ x, foldedSetIterable iter X.env x = pure x := by intro _; rfl) :
    PS X (.Assign [.Name y py] (.ListComp elt [⟨tg, iter, ifs, 0⟩] scope pos) spos) (tS X.K I W u) :=
  ps_weak (ps_setLc hc hN hy hyl hsw hi okB hg ht he hs) fun D σ H h => comp_read ok hiv σ H _ (hu D σ H h)
/-- its two ends -/
theorem u_set {i : Nat} {f : Sls → Rv Da} : ∀ (D : Ends) (σ : St) (H : Hp), tS X.K I W (sSet i f) D σ H → tFr X.K I W f σ H fun x H1 => gName i x σ H1 D.nx := fun D σ H ⟨O₀, H₀, Fs, ρ, r, p⟩ =>
  ⟨O₀, H₀, Fs, ρ, r, SPo.thn r p fun d _ p v H' z => by
    obtain ⟨s, q⟩ := rF_E (Ow.there r) z
    obtain ⟨r2, s2⟩ := (r.mono s).setVal (i := i) q
    exact p _ H' _ r2 ((hid_same s).trans s2)⟩
theorem u_own {i : Nat} {f : Sls → Rv Da} : ∀ (D : Ends) (σ : St) (H : Hp), tS X.K I W (sOwn i f) D σ H → tFr X.K I W f σ H fun x H1 => gName i x σ H1 D.nx := fun D σ H ⟨O₀, H₀, Fs, ρ, r, p⟩ =>
  ⟨O₀, H₀, Fs, ρ, r, SPo.thn r p fun d _ p v H' ⟨H1, p0, vs, xs, s1, hp, e1, e2, e3, q⟩ => by
    subst e1 e2 e3
    obtain ⟨r2, s2⟩ := r.setLst (i := i) s1 hp q
    exact p _ _ _ r2 s2⟩
end
end L2
end

section
set_option Elab.async false
set_option linter.all false
set_option maxRecDepth 100000
namespace L2
open PySem PySem.Spec PyProof.Rows
/-! ### pure operations -/
abbrev mkS (l : List Nat) : Da := .str ⟨⟨l⟩⟩
def pAdd : Da → Da → Option Da
  | .int i, .int j => some (.int (i + j))
  | .str x, .str y => if x.cps.toList.length + y.cps.toList.length ≤ 16777216 then some (mkS (x.cps.toList ++ y.cps.toList)) else none
  | .list xs, .list ys => if xs.length + ys.length ≤ 16777216 then some (.list (xs ++ ys)) else none
  | .tuple xs, .tuple ys => if xs.length + ys.length ≤ 16777216 then some (.tuple (xs ++ ys)) else none
  | _, _ => none
def pAddL : Da → Da → Option Da
  | .list xs, .list ys => if xs.length + ys.length ≤ 16777216 then some (.list (xs ++ ys)) else none
  | _, _ => none
def pSub : Da → Da → Option Da
  | .int i, .int j => some (.int (i - j))
  | _, _ => none
def okMul (i j : Int) : Bool := decide (i.natAbs < 18446744073709551616 ∨ j.natAbs < 18446744073709551616) || decide (i.natAbs.log2 + j.natAbs.log2 < 1000000)
def pMul : Da → Da → Option Da
  | .int i, .int j => if okMul i j = true then some (.int (i * j)) else none
  | _, _ => none
def okDiv (j : Int) : Bool := decide (0 < j) && (decide (j < 1073741824) || decide (j.natAbs.log2 < 9000))
def pDiv : Da → Da → Option Da
  | .int i, .int j => if okDiv j = true then some (.int (i / j)) else none
  | _, _ => none
def pMod : Da → Da → Option Da
  | .int i, .int j => if 0 < j then some (.int (i % j)) else none
  | _, _ => none
def pPow : Da → Da → Option Da
  | .int i, .int j => if (0 ≤ j ∧ j ≤ 1000000) ∧ i.natAbs < 2 ^ 64 then some (.int (i ^ j.toNat)) else none
  | _, _ => none
def pNeg : Da → Option Da
  | .int i => some (.int (-i))
  | _ => none
/-- data whose == needs no look within -/
def scalD : Da → Da → Bool
  | .none, .none => true | .none, .int _ => true | .int _, .none => true | .none, .bool _ => true | .bool _, .none => true | .none, .str _ => true | .str _, .none => true
  | .int _, .int _ => true | .bool _, .bool _ => true | .str _, .str _ => true
  | .int _, .str _ => true | .str _, .int _ => true | .bool _, .str _ => true | .str _, .bool _ => true
  | _, _ => false
def eqD (x y : Da) : Option Bool := if scalD x y = true then some (PyData.eqv x y) else if SeqAt.shaped x = true ∧ SeqAt.shaped y = true then some (PyData.eqv x y) else none
def pEq (x y : Da) : Option Da := (eqD x y).map .bool
def pNe (x y : Da) : Option Da := (eqD x y).map fun b => .bool (!b)
def ltD : Da → Da → Option Bool
  | .int i, .int j => some (decide (i < j))
  | .str x, .str y => some (decide (x.cps.toList < y.cps.toList))
  | _, _ => none
def leD : Da → Da → Option Bool
  | .int i, .int j => some (decide (i ≤ j))
  | .str x, .str y => some (!decide (y.cps.toList < x.cps.toList))
  | _, _ => none
def pLt (x y : Da) : Option Da := (ltD x y).map .bool
def pLe (x y : Da) : Option Da := (leD x y).map .bool
def pGt (x y : Da) : Option Da := (ltD y x).map .bool
def pGe (x y : Da) : Option Da := (leD y x).map .bool
def isD : Da → Da → Option Bool
  | .none, .none => some true
  | _, .none => some false
  | .bool a, .bool b => some (a == b)
  | _, _ => none
def pIs (x y : Da) : Option Da := (isD x y).map .bool
def pIsNot (x y : Da) : Option Da := (isD x y).map fun b => .bool (!b)
/-- sub is a part of text -/
def isInL (sub text : List Nat) : Bool := (List.range (text.length + 1 - sub.length)).any fun i => (text.drop i).take sub.length == sub
def inD : Da → Da → Option Bool
  | .str x, .str y => some (isInL x.cps.toList y.cps.toList)
  | d, .list ds => if SeqAt.shaped d = true ∧ SeqAt.shaped (.list ds) = true then some (ds.any fun z => PyData.eqv z d) else none
  | d, .tuple ds => if SeqAt.shaped d = true ∧ SeqAt.shaped (.tuple ds) = true then some (ds.any fun z => PyData.eqv z d) else none
  | _, _ => none
def pIn (x y : Da) : Option Da := (inD x y).map .bool
def pNotIn (x y : Da) : Option Da := (inD x y).map fun b => .bool (!b)
def ixP (n : Nat) (i : Int) : Option Nat := if 0 ≤ i then (if i < n then some i.toNat else none) else if -(n : Int) ≤ i then some (i + n).toNat else none
def pIx : Da → Da → Option Da
  | .list xs, .int i => (ixP xs.length i).bind fun j => xs[j]?
  | .tuple xs, .int i => (ixP xs.length i).bind fun j => xs[j]?
  | .str x, .int i => if x.cps.toList.length ≤ 16777216 then (ixP x.cps.toList.length i).bind fun j => (x.cps.toList[j]?).map fun c => .str ⟨#[c]⟩ else none
  | _, _ => none
def pLen : Da → Option Da
  | .list xs => some (.int (xs.length : Int))
  | .tuple xs => some (.int (xs.length : Int))
  | .str x => if x.cps.toList.length ≤ 16777216 then some (.int (x.cps.toList.length : Int)) else none
  | _ => none
def pTup : Da → Option Da
  | .list xs => some (.tuple xs)
  | .tuple xs => some (.tuple xs)
  | _ => none
def pLst : Da → Option Da
  | .list xs => some (.list xs)
  | .tuple xs => some (.list xs)
  | _ => none
def pInt : Da → Option Da
  | .int i => some (.int i)
  | .bool b => some (.int (if b then 1 else 0))
  | _ => none
inductive Tc where | int | str | bool | list | tuple | none
def Tc.nm : Tc → String
  | .int => "int" | .str => "str" | .bool => "bool" | .list => "list" | .tuple => "tuple" | .none => "NoneType"
def Tc.has : Tc → Da → Bool
  | .int, .int _ => true | .int, .bool _ => true | .str, .str _ => true | .bool, .bool _ => true | .list, .list _ => true | .tuple, .tuple _ => true | .none, .none => true
  | _, _ => false
def bools : List Da → Option (List Bool)
  | [] => some []
  | .bool b :: r => (bools r).map (b :: ·)
  | _ => none
def pAll : Da → Option Da
  | .list ds => (bools ds).map fun bs => .bool (bs.all id)
  | _ => none
def pAny : Da → Option Da
  | .list ds => (bools ds).map fun bs => .bool (bs.any id)
  | _ => none
def intsD : List Da → Option (List Int)
  | [] => some []
  | .int b :: r => (intsD r).map (b :: ·)
  | _ => none
def pSum : Da → Option Da
  | .list ds => (intsD ds).map fun ns => .int ns.sum
  | _ => none
def pStarts : Da → Da → Option Da
  | .str x, .str y => some (.bool (x.cps.toList.take y.cps.toList.length == y.cps.toList))
  | _, _ => none
def pLIndex : Da → Da → Option Da
  | .list ds, d => if SeqAt.shaped d = true ∧ SeqAt.shaped (.list ds) = true then (ds.findIdx? fun z => PyData.eqv z d).map fun (j : Nat) => .int (j : Int) else none
  | _, _ => none
def dataLeB (x y : Da) : Bool := !PySem.W.dataLt y x
def alikeAll2 : List Da → Bool
  | [] => true
  | d :: ds => ds.all (fun e => PySem.W.alike d e) && alikeAll2 ds

section
variable {K : PySem.W.Frag} {O : Addr → Prop} {H : Hp} {v : V} {d : Da}
theorem hidNew {O : Addr → Prop} {H : Hp} {p : Addr} {x : HO} (ho : ∀ a, O a → H a ≠ none) (hp : H p = none) : ¬ O p ∧ Same (hid O H) (hid O (upd H p x)) := by
  have np : ¬ O p := fun z => ho p z hp
  refine ⟨np, fun b o e => ?_⟩
  obtain ⟨n, e⟩ := of_hid e
  rw [hid_neg n, upd_ne (ne_of_none e hp)]; exact e
theorem str_app (x y : Str) : (⟨⟨x.cps.toList ++ y.cps.toList⟩⟩ : Str) = x ++ y := by
  obtain ⟨⟨a⟩⟩ := x
  obtain ⟨⟨b⟩⟩ := y
  show (⟨⟨a ++ b⟩⟩ : Str) = ⟨⟨a⟩ ++ ⟨b⟩⟩
  congr 1
  exact (List.append_toArray a b).symm ▸ rfl
end
section
variable {X : Cx}
/-! list + list, for any list that is to be read -/
def rCatQ (K : PySem.W.Frag) : R2 := fun x y H Q => ∃ l b xs zs, x = .ref l ∧ y = .ref b ∧ SqL K H l xs ∧ SqL K H b zs ∧ xs.length + zs.length ≤ sizeLine ∧ ∀ p, H p = none → Q (.ref p) (upd H p (.lst (xs ++ zs)))
theorem add_anyL (l : Addr) (items : Array Value) (n : Nat) (b : Addr) (items2 : Array Value) (n2 : Nat) (u v : Array (Option Value)) (hc0 : items.size + items2.size ≤ sizeLine) :
    Meets (Builtin.«list.__add__» ⟨[.ref l, .ref b], []⟩) (fun _ R s => s.heap.get? l = some { cls := .type "list", dict := none, data := .seq items n, slots := u } ∧ s.heap.get? b = some { cls := .type "list", dict := none, data := .seq items2 n2, slots := v } ∧
      R (.ok (.ret (Value.ref s.heap.objs.size))) { s with heap := s.heap.push { cls := Value.type "list", data := Data.seq (items ++ items2) }, toks := s.toks }) :=
  .of_wp fun prog w A R s h => by
    obtain ⟨hp, g, d, tk, os⟩ := s
    obtain ⟨hl, hb, h⟩ := h
    have f1 := PySem.AutoSeq1.idx_int
    have f2 := PySem.AutoSeq1.sub_tuple_tuple
    have f3 := PySem.AutoSeq1.sub_list_list
    have f4 := PySem.AutoSeq1.sub_tuple_list
    have f5 := PySem.AutoSeq1.sub_list_tuple
    wp_walk using PySem.AutoSeq1.wpAny_loadPart' hl, PySem.AutoSeq1.wpAny_loadPart' hb
    exact ⟨_, rfl, h⟩
theorem op_catQ : OpR X (binaryOp .Add) (rCatQ X.K) := by
  intro pins s σ H x y v u Q I rx ry h
  obtain ⟨l, b, xs, zs, rfl, rfl, hH, hB, hz, q⟩ := h
  cases rx
  cases ry
  obtain ⟨its, r, ⟨⟨c1, d1, t1, s1⟩, n, e, hc, hd, ht⟩, z⟩ := I.list hH
  obtain ⟨its2, r2, ⟨⟨c2, d2, t2, s2⟩, n2, e2, hc2, hd2, ht2⟩, z2⟩ := I.list hB
  simp only at hc hd ht hc2 hd2 ht2
  subst hc hd ht hc2 hd2 ht2
  have hl := r.length
  have hl2 := r2.length
  refine concat_meets ⟨_, e, rfl⟩ ⟨_, e2, rfl⟩ noFill_list_add seq_list_add F.slot_list_add F.entry_list_add (F.args_list_add_2 _ _) (add_anyL l its.toArray n b its2.toArray n2 s1 s2 (by rw [List.size_toArray, List.size_toArray]; omega)) ⟨e, e2, ?_⟩
  have ea : its.toArray ++ its2.toArray = (its ++ its2).toArray := by simp
  rw [ea]
  exact ⟨.ref _, _, I.lnew (t' := s.toks) (r.append r2) (by rw [List.length_append]; omega), rfl, q _ I.fresh⟩
abbrev rAddI : R2 := rI0 fun i j => .int (i + j)
abbrev rAddS : R2 := fun x y H Q => ∃ i j, x = .str i ∧ y = .str j ∧ i.length + j.length ≤ sizeLine ∧ Q (.str (i ++ j)) H
def rAddAll (K : PySem.W.Frag) : R2 := fun x y H Q => rAddI x y H Q ∨ (fun x y H Q => rAddS x y H Q ∨ (fun x y H Q => rCatQ K x y H Q ∨ rCatA K x y H Q) x y H Q) x y H Q
theorem op_addAll : OpR X (binaryOp .Add) (rAddAll X.K) := op_add.or (op_add_str.or (op_catQ.or op_catA))
theorem sz16 {n : Nat} (h : n ≤ 16777216) : n ≤ sizeLine := by rw [sizeLine_eq]; exact h
theorem tup_new {K : PySem.W.Frag} {O : Addr → Prop} {H : Hp} {p : Addr} {vs : List V} {ds : List Da} (ho : ∀ a, O a → H a ≠ none) (hp : H p = none) (h : DqAll K (hid O H) vs ds) : rE K O H (upd H p (.tup vs)) (.ref p) (.tuple ds) := by
  obtain ⟨np, s⟩ := hidNew (x := .tup vs) ho hp
  exact ⟨same_new hp, .tup (.inl (.inl (by rw [hid_neg np, upd_same]))) (h.mono s)⟩
theorem s_add : OpS X.K (rE X.K) (rAddAll X.K) pAdd := by
  intro O H v u x y d Q ho hx hy e k
  cases x with
  | int i =>
    cases y with
    | int j => cases e; cases hx.int; cases hy.int; exact .inl ⟨i, j, rfl, rfl, k _ H ⟨Same.refl _, .int _⟩⟩
    | _ => cases e
  | str a =>
    cases y with
    | str b =>
      simp only [pAdd] at e
      split at e
      · rename_i hz
        cases e; cases hx.str; cases hy.str
        refine .inr (.inl ⟨a, b, rfl, rfl, sz16 hz, k _ H ⟨Same.refl _, ?_⟩⟩)
        rw [← str_app]; exact .str _
      · cases e
    | _ => cases e
  | list xs =>
    cases y with
    | list ys =>
      simp only [pAdd] at e
      split at e
      · rename_i hz
        cases e
        obtain ⟨p, vs, rfl, h1, h2⟩ := hx.list
        obtain ⟨q, ws, rfl, h3, h4⟩ := hy.list
        refine .inr (.inr (.inl ⟨p, q, vs, ws, rfl, rfl, h1, h3, by rw [h2.length, h4.length]; exact sz16 hz, fun l hl => k _ _ ?_⟩))
        exact rF_E ho ⟨H, l, _, _, Same.refl _, hl, rfl, rfl, rfl, h2.append h4⟩
      · cases e
    | _ => cases e
  | tuple xs =>
    cases y with
    | tuple ys =>
      simp only [pAdd] at e
      split at e
      · rename_i hz
        cases e
        obtain ⟨p, vs, rfl, h1, h2⟩ := hx.tuple
        obtain ⟨q, ws, rfl, h3, h4⟩ := hy.tuple
        refine .inr (.inr (.inr ⟨p, q, vs, ws, rfl, rfl, hid_le.seqT h1, hid_le.seqT h3, by rw [h2.length, h4.length]; exact sz16 hz, fun e => ?_, fun _ e => ?_, fun _ _ l hl => k _ _ (tup_new ho hl (h2.append h4))⟩))
        · subst e
          cases h2
          exact k _ H ⟨Same.refl _, .tup h3 h4⟩
        · subst e
          cases h4
          rw [List.append_nil] at k
          exact k _ H ⟨Same.refl _, .tup h1 h2⟩
      · cases e
    | _ => cases e
  | _ => cases y <;> cases e
theorem s_addL : OpS X.K (rF X.K) (rAddAll X.K) pAddL := by
  intro O H v u x y d Q ho hx hy e k
  cases x with
  | list xs =>
    cases y with
    | list ys =>
      simp only [pAddL] at e
      split at e
      · rename_i hz
        cases e
        obtain ⟨p, vs, rfl, h1, h2⟩ := hx.list
        obtain ⟨q, ws, rfl, h3, h4⟩ := hy.list
        exact .inr (.inr (.inl ⟨p, q, vs, ws, rfl, rfl, h1, h3, by rw [h2.length, h4.length]; exact sz16 hz, fun l hl => k _ _ ⟨H, l, _, _, Same.refl _, hl, rfl, rfl, rfl, h2.append h4⟩⟩))
      · cases e
    | _ => cases e
  | _ => cases y <;> cases e
theorem s_sub : OpS X.K (rE X.K) (rI0 fun i j => .int (i - j)) pSub := by
  intro O H v u x y d Q ho hx hy e k
  cases x with
  | int i =>
    cases y with
    | int j => cases e; cases hx.int; cases hy.int; exact ⟨i, j, rfl, rfl, k _ H ⟨Same.refl _, .int _⟩⟩
    | _ => cases e
  | _ => cases y <;> cases e
def rMulAll : R2 := fun x y H Q => (rI CMul fun i j => .int (i * j)) x y H Q ∨ (rI CMulW fun i j => .int (i * j)) x y H Q
theorem op_mulAll : OpR X (binaryOp .Mult) rMulAll := op_mul.or op_mulW
theorem s_mul : OpS X.K (rE X.K) rMulAll pMul := by
  intro O H v u x y d Q ho hx hy e k
  cases x with
  | int i =>
    cases y with
    | int j =>
      simp only [pMul] at e
      split at e
      · rename_i hz
        cases e; cases hx.int; cases hy.int
        have q := k _ H ⟨Same.refl _, .int (i * j)⟩
        unfold okMul at hz
        rw [Bool.or_eq_true] at hz
        rcases hz with z | z
        · have z2 : i.natAbs < 18446744073709551616 ∨ j.natAbs < 18446744073709551616 := of_decide_eq_true z
          exact .inl ⟨i, j, rfl, rfl, (by omega : (-(2 ^ 64) < i ∧ i < 2 ^ 64) ∨ (-(2 ^ 64) < j ∧ j < 2 ^ 64)), q⟩
        · exact .inr ⟨i, j, rfl, rfl, (of_decide_eq_true z : i.natAbs.log2 + j.natAbs.log2 < 1000000), q⟩
      · cases e
    | _ => cases e
  | _ => cases y <;> cases e
def rDivAll : R2 := fun x y H Q => (rI CDiv fun i j => .int (i / j)) x y H Q ∨ (rI CDivW fun i j => .int (i / j)) x y H Q
theorem op_divAll : OpR X (binaryOp .FloorDiv) rDivAll := op_fdiv.or op_fdivW
theorem s_div : OpS X.K (rE X.K) rDivAll pDiv := by
  intro O H v u x y d Q ho hx hy e k
  cases x with
  | int i =>
    cases y with
    | int j =>
      simp only [pDiv] at e
      split at e
      · rename_i hz
        cases e; cases hx.int; cases hy.int
        have q := k _ H ⟨Same.refl _, .int (i / j)⟩
        unfold okDiv at hz
        rw [Bool.and_eq_true, Bool.or_eq_true] at hz
        obtain ⟨h0, z | z⟩ := hz
        · exact .inl ⟨i, j, rfl, rfl, ⟨of_decide_eq_true h0, of_decide_eq_true z⟩, q⟩
        · exact .inr ⟨i, j, rfl, rfl, ⟨of_decide_eq_true h0, of_decide_eq_true z⟩, q⟩
      · cases e
    | _ => cases e
  | _ => cases y <;> cases e
theorem s_mod : OpS X.K (rE X.K) (rI (fun _ j => 0 < j) fun i j => .int (i % j)) pMod := by
  intro O H v u x y d Q ho hx hy e k
  cases x with
  | int i =>
    cases y with
    | int j =>
      simp only [pMod] at e
      split at e
      · rename_i hz
        cases e; cases hx.int; cases hy.int
        exact ⟨i, j, rfl, rfl, hz, k _ H ⟨Same.refl _, .int _⟩⟩
      · cases e
    | _ => cases e
  | _ => cases y <;> cases e
theorem s_pow : OpS X.K (rE X.K) (rI CPow fun i j => .int (i ^ j.toNat)) pPow := by
  intro O H v u x y d Q ho hx hy e k
  cases x with
  | int i =>
    cases y with
    | int j =>
      simp only [pPow] at e
      split at e
      · rename_i hz
        cases e; cases hx.int; cases hy.int
        exact ⟨i, j, rfl, rfl, ⟨hz.1.1, hz.1.2, hz.2⟩, k _ H ⟨Same.refl _, .int _⟩⟩
      · cases e
    | _ => cases e
  | _ => cases y <;> cases e
theorem s_neg : UnS X.K (rE X.K) (rU fun i => .int (-i)) pNeg := by
  intro O H v x d Q ho hx e k
  cases x with
  | int i => cases e; cases hx.int; exact ⟨i, rfl, k _ H ⟨Same.refl _, .int _⟩⟩
  | _ => cases e
/-! comparisons -/
def rEqAll (K : PySem.W.Frag) : R2 := fun x y H Q => rEq x y H Q ∨ rEqD K x y H Q
def rNeAll (K : PySem.W.Frag) : R2 := fun x y H Q => rNe x y H Q ∨ rNeD K x y H Q
theorem op_eqAll (hu : X.A.units + 64 < cLine) : OpR X (compareOp .Eq) (rEqAll X.K) := op_eq.or (op_eqD hu)
theorem op_neAll (hu : X.A.units + 64 < cLine) : OpR X (compareOp .NotEq) (rNeAll X.K) := op_ne.or (op_neD hu)
theorem shaped_lay {d : Da} (h : SeqAt.shaped d = true) : d.canLay0 = true := SeqAt.canLay_of_shaped h
theorem Br.dpS {K : PySem.W.Frag} {O : Addr → Prop} {H : Hp} {v : V} {d : Da} (h : Br K O H v d) (s : SeqAt.shaped d = true) : Dp K H v d := dq_dp d v (shaped_lay s) h.dp
theorem scal_br {K : PySem.W.Frag} {O : Addr → Prop} {H : Hp} {v u : V} {x y : Da} (hx : Br K O H v x) (hy : Br K O H u y) (h : scalD x y = true) : scal v u = true ∧ PyData.eqv x y = decide (v = u) := by
  cases x <;> cases y <;> simp [scalD] at h <;>
    first
      | (cases hx.non; cases hy.non; refine ⟨rfl, ?_⟩; simp [PyData.eqv])
      | (cases hx.non; cases hy.int; refine ⟨rfl, ?_⟩; simp [PyData.eqv])
      | (cases hx.non; cases hy.bool; refine ⟨rfl, ?_⟩; simp [PyData.eqv])
      | (cases hx.non; cases hy.str; refine ⟨rfl, ?_⟩; simp [PyData.eqv])
      | (cases hx.int; cases hy.non; refine ⟨rfl, ?_⟩; simp [PyData.eqv])
      | (cases hx.int; cases hy.int; refine ⟨rfl, ?_⟩; simp [PyData.eqv, Bool.beq_eq_decide_eq])
      | (cases hx.int; cases hy.str; refine ⟨rfl, ?_⟩; simp [PyData.eqv])
      | (cases hx.bool; cases hy.non; refine ⟨rfl, ?_⟩; simp [PyData.eqv])
      | (cases hx.bool; cases hy.bool; refine ⟨rfl, ?_⟩; simp [PyData.eqv, Bool.beq_eq_decide_eq])
      | (cases hx.bool; cases hy.str; refine ⟨rfl, ?_⟩; simp [PyData.eqv])
      | (cases hx.str; cases hy.non; refine ⟨rfl, ?_⟩; simp [PyData.eqv])
      | (cases hx.str; cases hy.int; refine ⟨rfl, ?_⟩; simp [PyData.eqv])
      | (cases hx.str; cases hy.bool; refine ⟨rfl, ?_⟩; simp [PyData.eqv])
      | (cases hx.str; cases hy.str; refine ⟨rfl, ?_⟩; simp only [PyData.eqv, dec_str])
theorem s_eq : OpS X.K (rE X.K) (rEqAll X.K) pEq := by
  intro O H v u x y d Q ho hx hy e k
  unfold pEq eqD at e
  split at e
  · rename_i h
    cases e
    obtain ⟨a, b⟩ := scal_br hx hy h
    refine .inl ⟨a, ?_⟩
    rw [← b]
    exact k _ H ⟨Same.refl _, .bl _⟩
  · split at e
    · rename_i h
      cases e
      exact .inr ⟨x, y, hx.dpS h.1, hy.dpS h.2, h.1, h.2, k _ H ⟨Same.refl _, .bl _⟩⟩
    · cases e
theorem s_ne : OpS X.K (rE X.K) (rNeAll X.K) pNe := by
  intro O H v u x y d Q ho hx hy e k
  unfold pNe eqD at e
  split at e
  · rename_i h
    cases e
    obtain ⟨a, b⟩ := scal_br hx hy h
    refine .inl ⟨a, ?_⟩
    rw [← b]
    exact k _ H ⟨Same.refl _, .bl _⟩
  · split at e
    · rename_i h
      cases e
      exact .inr ⟨x, y, hx.dpS h.1, hy.dpS h.2, h.1, h.2, k _ H ⟨Same.refl _, .bl _⟩⟩
    · cases e
abbrev rIB (g : Int → Int → Bool) : R2 := rI0 fun i j => .bl (g i j)
abbrev rSB (g : Str → Str → Bool) : R2 := fun x y H Q => ∃ i j, x = .str i ∧ y = .str j ∧ Q (.bl (g i j)) H
def rISB (g : Int → Int → Bool) (h : Str → Str → Bool) : R2 := fun x y H Q => rIB g x y H Q ∨ rSB h x y H Q
theorem op_ltA : OpR X (compareOp .Lt) (rISB (fun i j => decide (i < j)) fun i j => decide (i.cps.toList < j.cps.toList)) := op_lt.or op_lt_str
theorem op_leA : OpR X (compareOp .LtE) (rISB (fun i j => decide (i ≤ j)) fun i j => !decide (j.cps.toList < i.cps.toList)) := op_le.or op_le_str
theorem op_gtA : OpR X (compareOp .Gt) (rISB (fun i j => decide (j < i)) fun i j => decide (j.cps.toList < i.cps.toList)) := op_gt.or op_gt_str
theorem op_geA : OpR X (compareOp .GtE) (rISB (fun i j => decide (j ≤ i)) fun i j => !decide (i.cps.toList < j.cps.toList)) := op_ge.or op_ge_str
theorem s_isb {g : Int → Int → Bool} {h : Str → Str → Bool} {p : Da → Da → Option Da} (p1 : ∀ i j, p (.int i) (.int j) = some (.bool (g i j))) (p2 : ∀ i j, p (.str i) (.str j) = some (.bool (h i j)))
    (p3 : ∀ x y d, p x y = some d → (∃ i j, x = .int i ∧ y = .int j) ∨ ∃ i j, x = .str i ∧ y = .str j) : OpS X.K (rE X.K) (rISB g h) p := by
  intro O H v u x y d Q ho hx hy e k
  rcases p3 x y d e with ⟨i, j, rfl, rfl⟩ | ⟨i, j, rfl, rfl⟩
  · rw [p1] at e; cases e; cases hx.int; cases hy.int; exact .inl ⟨i, j, rfl, rfl, k _ H ⟨Same.refl _, .bl _⟩⟩
  · rw [p2] at e; cases e; cases hx.str; cases hy.str; exact .inr ⟨i, j, rfl, rfl, k _ H ⟨Same.refl _, .bl _⟩⟩
theorem s_lt : OpS X.K (rE X.K) (rISB (fun i j => decide (i < j)) fun i j => decide (i.cps.toList < j.cps.toList)) pLt := s_isb (fun _ _ => rfl) (fun _ _ => rfl) fun x y d e => by
  cases x <;> cases y <;> first | (exact .inl ⟨_, _, rfl, rfl⟩) | (exact .inr ⟨_, _, rfl, rfl⟩) | cases e
theorem s_le : OpS X.K (rE X.K) (rISB (fun i j => decide (i ≤ j)) fun i j => !decide (j.cps.toList < i.cps.toList)) pLe := s_isb (fun _ _ => rfl) (fun _ _ => rfl) fun x y d e => by
  cases x <;> cases y <;> first | (exact .inl ⟨_, _, rfl, rfl⟩) | (exact .inr ⟨_, _, rfl, rfl⟩) | cases e
theorem s_gt : OpS X.K (rE X.K) (rISB (fun i j => decide (j < i)) fun i j => decide (j.cps.toList < i.cps.toList)) pGt := s_isb (fun _ _ => rfl) (fun _ _ => rfl) fun x y d e => by
  cases x <;> cases y <;> first | (exact .inl ⟨_, _, rfl, rfl⟩) | (exact .inr ⟨_, _, rfl, rfl⟩) | cases e
theorem s_ge : OpS X.K (rE X.K) (rISB (fun i j => decide (j ≤ i)) fun i j => !decide (i.cps.toList < j.cps.toList)) pGe := s_isb (fun _ _ => rfl) (fun _ _ => rfl) fun x y d e => by
  cases x <;> cases y <;> first | (exact .inl ⟨_, _, rfl, rfl⟩) | (exact .inr ⟨_, _, rfl, rfl⟩) | cases e
/-! is -/
abbrev rIsNo : R2 := fun x y H Q => y = .non ∧ Q (.bl (decide (x = .non))) H
abbrev rNotNo : R2 := fun x y H Q => y = .non ∧ Q (.bl (!decide (x = .non))) H
def rIsA : R2 := fun x y H Q => rIsNo x y H Q ∨ rIsB x y H Q
def rNotA : R2 := fun x y H Q => rNotNo x y H Q ∨ rNotB x y H Q
theorem op_isA : OpR X (compareOp .Is) rIsA := op_isN.or op_isBl
theorem op_notA : OpR X (compareOp .IsNot) rNotA := op_notN.or op_notBl
theorem isD_br {K : PySem.W.Frag} {O : Addr → Prop} {H : Hp} {v u : V} {x y : Da} {b : Bool} (hx : Br K O H v x) (hy : Br K O H u y) (h : isD x y = some b) : (u = .non ∧ b = decide (v = .non)) ∨ ∃ c d, v = .bl c ∧ u = .bl d ∧ b = decide (c = d) := by
  cases y with
  | none =>
    left
    refine ⟨hy.non, ?_⟩
    cases x with
    | none => cases h; cases hx.non; rfl
    | int i => cases h; cases hx.int; rfl
    | bool i => cases h; cases hx.bool; rfl
    | str i => cases h; cases hx.str; rfl
    | list xs => cases h; obtain ⟨p, vs, rfl, _⟩ := hx.list; rfl
    | tuple xs => cases h; obtain ⟨p, vs, rfl, _⟩ := hx.tuple; rfl
    | dict kvs =>
      cases h
      rcases hx with hx | ⟨p, vs, xs, _, e, _⟩
      · cases hx <;> rfl
      · cases e
  | bool b =>
    cases x with
    | bool a => cases h; cases hx.bool; cases hy.bool; exact .inr ⟨a, b, rfl, rfl, Bool.beq_eq_decide_eq a b⟩
    | _ => cases h
  | _ => cases x <;> cases h
theorem s_is : OpS X.K (rE X.K) rIsA pIs := by
  intro O H v u x y d Q ho hx hy e k
  unfold pIs at e
  cases h : isD x y with
  | none => rw [h] at e; cases e
  | some b =>
    rw [h] at e; cases e
    have q := k _ H ⟨Same.refl _, .bl b⟩
    rcases isD_br hx hy h with ⟨h1, h2⟩ | ⟨a, c, h1, h2, h3⟩
    · exact .inl ⟨h1, h2 ▸ q⟩
    · exact .inr ⟨a, c, h1, h2, h3 ▸ q⟩
theorem s_isnot : OpS X.K (rE X.K) rNotA pIsNot := by
  intro O H v u x y d Q ho hx hy e k
  unfold pIsNot at e
  cases h : isD x y with
  | none => rw [h] at e; cases e
  | some b =>
    rw [h] at e; cases e
    have q := k _ H ⟨Same.refl _, .bl (!b)⟩
    rcases isD_br hx hy h with ⟨h1, h2⟩ | ⟨a, c, h1, h2, h3⟩
    · exact .inl ⟨h1, h2 ▸ q⟩
    · exact .inr ⟨a, c, h1, h2, h3 ▸ q⟩
end
end L2
end

section
set_option Elab.async false
set_option linter.all false
set_option maxRecDepth 100000
namespace L2
open PySem PySem.Spec PyProof.Rows
theorem subAt_iff (x y : Str) (i : Nat) : Builtin.Str.subAt x y i = ((x.cps.toList.drop i).take y.cps.toList.length == y.cps.toList) := by
  obtain ⟨⟨a⟩⟩ := x
  obtain ⟨⟨b⟩⟩ := y
  unfold Builtin.Str.subAt
  show (Array.extract ⟨a⟩ i (i + b.length) == (⟨b⟩ : Array Nat)) = ((a.drop i).take b.length == b)
  have e : Array.extract (⟨a⟩ : Array Nat) i (i + b.length) = ⟨(a.drop i).take b.length⟩ := by
    rw [List.extract_toArray]
    simp [List.extract]
  rw [e]
  rw [Bool.eq_iff_iff]
  simp
theorem isIn_eq (x y : Str) : (!(Builtin.Str.occurrences x y 0 x.length 1).isEmpty) = isInL y.cps.toList x.cps.toList := by
  rw [Bool.eq_iff_iff, StrLaws.found_iff]
  unfold isInL
  rw [List.any_eq_true]
  have hx : x.length = x.cps.toList.length := rfl
  have hy : y.length = y.cps.toList.length := rfl
  constructor
  · rintro ⟨i, h1, h2⟩
    refine ⟨i, List.mem_range.mpr (by omega), ?_⟩
    rw [← subAt_iff]; exact h2
  · rintro ⟨i, h1, h2⟩
    have h1 := List.mem_range.mp h1
    refine ⟨i, by omega, ?_⟩
    rw [subAt_iff]; exact h2
section
variable {X : Cx}
/-! in -/
abbrev rInS : R2 := fun x y H Q => ∃ i j, x = .str i ∧ y = .str j ∧ Q (.bl (!(Builtin.Str.occurrences j i 0 j.length 1).isEmpty)) H
abbrev rNinS : R2 := fun x y H Q => ∃ i j, x = .str i ∧ y = .str j ∧ Q (.bl (!(!(Builtin.Str.occurrences j i 0 j.length 1).isEmpty))) H
def rInT (K : PySem.W.Frag) : R2 := fun x y H Q => ∃ d ds, Dp K H x d ∧ Dp K H y (.tuple ds) ∧ SeqAt.shaped d = true ∧ SeqAt.shaped (.tuple ds) = true ∧ Q (.bl (ds.any fun z => PyData.eqv z d)) H
def rNinT (K : PySem.W.Frag) : R2 := fun x y H Q => ∃ d ds, Dp K H x d ∧ Dp K H y (.tuple ds) ∧ SeqAt.shaped d = true ∧ SeqAt.shaped (.tuple ds) = true ∧ Q (.bl (!ds.any fun z => PyData.eqv z d)) H
theorem op_inT (hu : X.A.units + 65 < cLine) : OpR X (compareOp .In) (rInT X.K) := by
  intro pins s σ H x y v u Q I rx ry h
  obtain ⟨d, ds, hd, he, sd, se, q⟩ := h
  obtain ⟨as, r1⟩ := Dp.reads I d x v hd rx
  obtain ⟨bs, r2⟩ := Dp.reads I (.tuple ds) y u he ry
  exact SeqAt.in_tuple_reads r2 r1 (SeqAt.canLay_of_shaped se) (SeqAt.canLay_of_shaped sd) (room_in_shaped sd hu) ⟨.bl _, H, I, rfl, q⟩
theorem op_ninT (hu : X.A.units + 65 < cLine) : OpR X (compareOp .NotIn) (rNinT X.K) := by
  intro pins s σ H x y v u Q I rx ry h
  obtain ⟨d, ds, hd, he, sd, se, q⟩ := h
  obtain ⟨as, r1⟩ := Dp.reads I d x v hd rx
  obtain ⟨bs, r2⟩ := Dp.reads I (.tuple ds) y u he ry
  exact SeqAt.notIn_tuple_reads r2 r1 (SeqAt.canLay_of_shaped se) (SeqAt.canLay_of_shaped sd) (room_in_shaped sd hu) ⟨.bl _, H, I, rfl, q⟩
def rInA (K : PySem.W.Frag) : R2 := fun x y H Q => rInS x y H Q ∨ (fun x y H Q => rInD K x y H Q ∨ rInT K x y H Q) x y H Q
def rNinA (K : PySem.W.Frag) : R2 := fun x y H Q => rNinS x y H Q ∨ (fun x y H Q => rNotInD K x y H Q ∨ rNinT K x y H Q) x y H Q
theorem op_inA (hu : X.A.units + 65 < cLine) : OpR X (compareOp .In) (rInA X.K) := op_in_str.or ((op_inD hu).or (op_inT hu))
theorem op_ninA (hu : X.A.units + 65 < cLine) : OpR X (compareOp .NotIn) (rNinA X.K) := op_notin_str.or ((op_notInD hu).or (op_ninT hu))
theorem s_in : OpS X.K (rE X.K) (rInA X.K) pIn := by
  intro O H v u x y d Q ho hx hy e k
  unfold pIn at e
  cases h : inD x y with
  | none => rw [h] at e; cases e
  | some b =>
    rw [h] at e; cases e
    have q := k _ H ⟨Same.refl _, .bl b⟩
    cases y with
    | str z =>
      cases x with
      | str a => cases h; cases hx.str; cases hy.str; exact .inl ⟨a, z, rfl, rfl, by rw [isIn_eq]; exact q⟩
      | _ => cases h
    | list ds =>
      have h : (if SeqAt.shaped x = true ∧ SeqAt.shaped (.list ds) = true then some (ds.any fun z => PyData.eqv z x) else none) = some b := by cases x <;> exact h
      split at h
      · rename_i hs
        cases h
        exact .inr (.inl ⟨x, ds, hx.dpS hs.1, hy.dpS hs.2, hs.1, hs.2, q⟩)
      · cases h
    | tuple ds =>
      have h : (if SeqAt.shaped x = true ∧ SeqAt.shaped (.tuple ds) = true then some (ds.any fun z => PyData.eqv z x) else none) = some b := by cases x <;> exact h
      split at h
      · rename_i hs
        cases h
        exact .inr (.inr ⟨x, ds, hx.dpS hs.1, hy.dpS hs.2, hs.1, hs.2, q⟩)
      · cases h
    | _ => cases x <;> cases h
theorem s_nin : OpS X.K (rE X.K) (rNinA X.K) pNotIn := by
  intro O H v u x y d Q ho hx hy e k
  unfold pNotIn at e
  cases h : inD x y with
  | none => rw [h] at e; cases e
  | some b =>
    rw [h] at e; cases e
    have q := k _ H ⟨Same.refl _, .bl (!b)⟩
    cases y with
    | str z =>
      cases x with
      | str a => cases h; cases hx.str; cases hy.str; exact .inl ⟨a, z, rfl, rfl, by rw [isIn_eq]; exact q⟩
      | _ => cases h
    | list ds =>
      have h : (if SeqAt.shaped x = true ∧ SeqAt.shaped (.list ds) = true then some (ds.any fun z => PyData.eqv z x) else none) = some b := by cases x <;> exact h
      split at h
      · rename_i hs
        cases h
        exact .inr (.inl ⟨x, ds, hx.dpS hs.1, hy.dpS hs.2, hs.1, hs.2, q⟩)
      · cases h
    | tuple ds =>
      have h : (if SeqAt.shaped x = true ∧ SeqAt.shaped (.tuple ds) = true then some (ds.any fun z => PyData.eqv z x) else none) = some b := by cases x <;> exact h
      split at h
      · rename_i hs
        cases h
        exact .inr (.inr ⟨x, ds, hx.dpS hs.1, hy.dpS hs.2, hs.1, hs.2, q⟩)
      · cases h
    | _ => cases x <;> cases h
/-! items -/
theorem atI_of {α : Type} {xs : List α} {i : Int} {z : α} (h : ((ixP xs.length i).bind fun j => xs[j]?) = some z) : atI xs i = some z := h
theorem s_ix : OpS X.K (rE X.K) (rIx X.K) pIx := by
  intro O H v u x y d Q ho hx hy e k
  cases y with
  | int i =>
    cases hy.int
    cases x with
    | list xs =>
      obtain ⟨p, vs, rfl, h1, h2⟩ := hx.list
      simp only [pIx] at e
      cases hj : ixP xs.length i with
      | none => rw [hj] at e; cases e
      | some j =>
        rw [hj] at e
        obtain ⟨w, hw, q⟩ := h2.get e
        exact .inl ⟨p, vs, i, w, rfl, rfl, h1.sq, atI_of (by rw [h2.length, hj]; exact hw), k _ H ⟨Same.refl _, q⟩⟩
    | tuple xs =>
      obtain ⟨p, vs, rfl, h1, h2⟩ := hx.tuple
      simp only [pIx] at e
      cases hj : ixP xs.length i with
      | none => rw [hj] at e; cases e
      | some j =>
        rw [hj] at e
        obtain ⟨w, hw, q⟩ := h2.get e
        exact .inr (.inl ⟨p, vs, i, w, rfl, rfl, hid_le.seqT h1, atI_of (by rw [h2.length, hj]; exact hw), k _ H ⟨Same.refl _, q⟩⟩)
    | str z =>
      cases hx.str
      simp only [pIx] at e
      split at e
      · rename_i hz
        cases hj : ixP z.cps.toList.length i with
        | none => rw [hj] at e; cases e
        | some j =>
          rw [hj] at e
          simp only [Option.bind_some] at e
          cases hc : z.cps.toList[j]? with
          | none => rw [hc] at e; cases e
          | some c =>
            rw [hc] at e
            cases e
            exact .inr (.inr ⟨z, i, c, rfl, rfl, sz16 hz, atI_of (by rw [hj]; exact hc), k _ H ⟨Same.refl _, .str _⟩⟩)
      · cases e
    | _ => cases e
  | _ => cases x <;> cases e
/-! slices -/
def cutL {α : Type} (xs : List α) (lo hi : Option Int) : List α := (xs.drop (HT.sIx xs.length 0 lo)).take (HT.sIx xs.length xs.length hi - HT.sIx xs.length 0 lo)
def pCut (lo hi : Option Int) : Da → Option Da
  | .str x => if x.cps.toList.length ≤ 16777216 then some (mkS (cutL x.cps.toList lo hi)) else none
  | .tuple xs => some (.tuple (cutL xs lo hi))
  | .list xs => some (.list (cutL xs lo hi))
  | _ => none
def pCutL (lo hi : Option Int) : Da → Option Da
  | .list xs => some (.list (cutL xs lo hi))
  | _ => none
theorem DqAll.cut {K : PySem.W.Frag} {H : Hp} {vs : List V} {ds : List Da} (h : DqAll K H vs ds) (lo hi : Option Int) : DqAll K H (cutV vs lo hi) (cutL ds lo hi) := by
  unfold cutV cutL
  rw [h.length]
  exact (h.drop _).take _
end
/-- an optional bound -/
abbrev XO := Sls → Rv (Option Int)
def oNo : XO := fun _ => .ok none
def oAt (f : Sls → Rv Da) : XO := fun ρ => (f ρ).bind fun d => match d with
  | .int i => .ok (some i)
  | _ => .bad
def xCut (p : Option Int → Option Int → Da → Option Da) (f : Sls → Rv Da) (lo hi : XO) : Sls → Rv Da := fun ρ => (f ρ).bind fun x => (lo ρ).bind fun l => (hi ρ).bind fun h => Rv.ofO (p l h x)
section
variable {X : Cx} {I : XI} {W : WX} {f g : Sls → Rv Da} {e : Expr} {lo hi : Option Expr} {pos p2 : Pos} {l h : XO}
def tO (K : PySem.W.Frag) (I : XI) (W : WX) (f : XO) : TO := fun σ H Q => ∃ O₀ H₀ Fs ρ, RS K O₀ H₀ Fs H σ ρ ∧ Post I W σ H (fun H' b a => Same H H' ∧ b = a) (f ρ) Q
theorem po_weak {e : Option Expr} {t t' : TO} (h : PO X e t) (k : ∀ σ H Q, t' σ H Q → t σ H Q) : PO X e t' := ⟨fun pins s σ H Q J q => h.run pins s σ H Q J (k σ H Q q)⟩
theorem b_no : PO X none (tO X.K I W oNo) := po_weak po_none fun σ H Q ⟨O₀, H₀, Fs, ρ, r, p⟩ => p none H ⟨Same.refl _, rfl⟩
theorem b_at (he : PE X e (tEv X.K I W f)) : PO X (some e) (tO X.K I W (oAt f)) := po_weak (po_some he) fun σ H Q ⟨O₀, H₀, Fs, ρ, r, p⟩ => ⟨O₀, H₀, Fs, ρ, r, p.first fun d _ p v H' ⟨s, q⟩ => by
  cases d with
  | int i => cases q; exact ⟨i, rfl, p (some i) H' ⟨s, rfl⟩⟩
  | _ => exact p.elim⟩
def rSlAll (K : PySem.W.Frag) : V → Option Int → Option Int → Hp → VK → Prop := fun x lo hi H Q => rSlS x lo hi H Q ∨ (fun x lo hi H Q => rSlA K x lo hi H Q ∨ rSlL K x lo hi H Q) x lo hi H Q
theorem sl_all : SlR X (rSlAll X.K) := sl_str.or (sl_tupA.or sl_list)
theorem cutS_eq (z : Str) (lo hi : Option Int) : cutS z lo hi = ⟨⟨cutL z.cps.toList lo hi⟩⟩ := by
  unfold cutS cutL
  rfl
theorem s_cut {K : PySem.W.Frag} {O : Addr → Prop} {H : Hp} {v : V} {x d : Da} {lo hi : Option Int} {Q : VK} (ho : ∀ a, O a → H a ≠ none) (hx : Br K O H v x) (e : pCut lo hi x = some d) (k : ∀ w H', rE K O H H' w d → Q w H') : rSlAll K v lo hi H Q := by
  cases x with
  | str z =>
    cases hx.str
    simp only [pCut] at e
    split at e
    · rename_i hz
      cases e
      exact .inl ⟨z, rfl, sz16 hz, k _ H ⟨Same.refl _, by rw [cutS_eq]; exact .str _⟩⟩
    · cases e
  | tuple xs =>
    obtain ⟨p, vs, rfl, h1, h2⟩ := hx.tuple
    cases e
    have hc := h2.cut lo hi
    refine .inr (.inl ⟨p, vs, rfl, hid_le.seqT h1, fun z => ?_, fun _ q hq => k _ _ (tup_new ho hq hc)⟩)
    refine k _ H ⟨Same.refl _, ?_⟩
    have e1 : cutV vs lo hi = vs := by
      unfold cutV
      rw [z.1, z.2, List.drop_zero, Nat.sub_zero, List.take_length]
    rw [e1] at hc
    exact .tup h1 hc
  | list xs =>
    obtain ⟨p, vs, rfl, h1, h2⟩ := hx.list
    cases e
    exact .inr (.inr ⟨p, vs, rfl, h1.sq, fun q hq => k _ _ (rF_E ho ⟨H, q, _, _, Same.refl _, hq, rfl, rfl, rfl, h2.cut lo hi⟩)⟩)
  | _ => cases e
theorem s_cutL {K : PySem.W.Frag} {O : Addr → Prop} {H : Hp} {v : V} {x d : Da} {lo hi : Option Int} {Q : VK} (ho : ∀ a, O a → H a ≠ none) (hx : Br K O H v x) (e : pCutL lo hi x = some d) (k : ∀ w H', rF K O H H' w d → Q w H') : rSlAll K v lo hi H Q := by
  cases x with
  | list xs =>
    obtain ⟨p, vs, rfl, h1, h2⟩ := hx.list
    cases e
    exact .inr (.inr ⟨p, vs, rfl, h1.sq, fun q hq => k _ _ ⟨H, q, _, _, Same.refl _, hq, rfl, rfl, rfl, h2.cut lo hi⟩⟩)
  | _ => cases e
theorem o_slG {Rl : Rel} {p : Option Int → Option Int → Da → Option Da} (ok : RelOk Rl) (hp : ∀ {O H v x d lo hi Q}, (∀ a, O a → H a ≠ none) → Br X.K O H v x → p lo hi x = some d → (∀ w H', Rl O H H' w d → Q w H') → rSlAll X.K v lo hi H Q)
    (he : PE X e (tBw X.K I W f)) (hl : PO X lo (tO X.K I W l)) (hh : PO X hi (tO X.K I W h)) : PE X (.Subscript e (.Slice lo hi none p2) pos) (tX X.K I Rl W (xCut p f l h)) :=
  pe_weak (pe_slice sl_all he hl hh) fun σ H Q ⟨O₀, H₀, Fs, ρ, r, po⟩ => ⟨O₀, H₀, Fs, ρ, r, po.first fun x _ po v H1 ⟨s1, b1⟩ => ⟨O₀, H₀, Fs, ρ, r.mono s1, (po.at s1).first fun a _ po i H2 ⟨s2, e2⟩ =>
    ⟨O₀, H₀, Fs, ρ, (r.mono s1).mono s2, (po.at s2).first fun b _ po j H3 ⟨s3, e3⟩ => by
      subst e2 e3
      obtain ⟨d, hd, po⟩ := po.opt
      exact hp (Ow.there (((r.mono s1).mono s2).mono s3)) ((b1.mono s2).mono s3) hd fun w H' z => po w H' (ok.pre ((s1.trans s2).trans s3) z)⟩⟩⟩
theorem o_sl (he : PE X e (tBw X.K I W f)) (hl : PO X lo (tO X.K I W l)) (hh : PO X hi (tO X.K I W h)) : PE X (.Subscript e (.Slice lo hi none p2) pos) (tEv X.K I W (xCut pCut f l h)) := o_slG rE_ok (fun a b c d => s_cut a b c d) he hl hh
theorem o_slL (he : PE X e (tBw X.K I W f)) (hl : PO X lo (tO X.K I W l)) (hh : PO X hi (tO X.K I W h)) : PE X (.Subscript e (.Slice lo hi none p2) pos) (tFr X.K I W (xCut pCutL f l h)) := o_slG rF_ok (fun a b c d => s_cutL a b c d) he hl hh
end
section
variable {X : Cx}
/-! built-ins -/
abbrev rLenQ (K : PySem.W.Frag) : List V → Hp → VK → Prop := fun xs H Q => ∃ p ys, xs = [.ref p] ∧ (SqL K H p ys ∨ SqT K H p ys) ∧ Q (.int ys.length) H
abbrev rLenT : List V → Hp → VK → Prop := fun xs H Q => ∃ z, xs = [.str z] ∧ z.length ≤ sizeLine ∧ Q (.int z.length) H
def rLenA (K : PySem.W.Frag) : List V → Hp → VK → Prop := fun xs H Q => rLenQ K xs H Q ∨ rLenT xs H Q
theorem call_lenA : CallR X (.builtin "len") (rLenA X.K) := call_len_seq.or call_len_str
theorem s_len : CallS1 X.K (rE X.K) (rLenA X.K) pLen := by
  intro O H v x d Q ho hx e k
  cases x with
  | list xs =>
    cases e
    obtain ⟨p, vs, rfl, h1, h2⟩ := hx.list
    exact .inl ⟨p, vs, rfl, .inl h1.sq, by rw [h2.length]; exact k _ H ⟨Same.refl _, .int _⟩⟩
  | tuple xs =>
    cases e
    obtain ⟨p, vs, rfl, h1, h2⟩ := hx.tuple
    exact .inl ⟨p, vs, rfl, .inr (hid_le.seqT h1), by rw [h2.length]; exact k _ H ⟨Same.refl _, .int _⟩⟩
  | str z =>
    cases hx.str
    simp only [pLen] at e
    split at e
    · rename_i hz
      cases e
      exact .inr ⟨z, rfl, sz16 hz, k _ H ⟨Same.refl _, .int _⟩⟩
    · cases e
  | _ => cases e
abbrev rTupOf (K : PySem.W.Frag) : List V → Hp → VK → Prop := fun xs H Q => ∃ p ys, xs = [.ref p] ∧ ((SqL K H p ys ∧ ∀ l, H l = none → Q (.ref l) (upd H l (.tup ys))) ∨ (SqT K H p ys ∧ Q (.ref p) H))
theorem s_tup : CallS1 X.K (rE X.K) (rTupOf X.K) pTup := by
  intro O H v x d Q ho hx e k
  cases x with
  | list xs =>
    cases e
    obtain ⟨p, vs, rfl, h1, h2⟩ := hx.list
    exact ⟨p, vs, rfl, .inl ⟨h1.sq, fun l hl => k _ _ (tup_new ho hl h2)⟩⟩
  | tuple xs =>
    cases e
    obtain ⟨p, vs, rfl, h1, h2⟩ := hx.tuple
    exact ⟨p, vs, rfl, .inr ⟨hid_le.seqT h1, k _ H ⟨Same.refl _, .tup h1 h2⟩⟩⟩
  | _ => cases e
abbrev rLstOf (K : PySem.W.Frag) : List V → Hp → VK → Prop := fun xs H Q => ∃ p ys, xs = [.ref p] ∧ (SqL K H p ys ∨ SqT K H p ys) ∧ ∀ l, H l = none → Q (.ref l) (upd H l (.lst ys))
theorem s_lst : CallS1 X.K (rF X.K) (rLstOf X.K) pLst := by
  intro O H v x d Q ho hx e k
  cases x with
  | list xs =>
    cases e
    obtain ⟨p, vs, rfl, h1, h2⟩ := hx.list
    exact ⟨p, vs, rfl, .inl h1.sq, fun l hl => k _ _ ⟨H, l, _, _, Same.refl _, hl, rfl, rfl, rfl, h2⟩⟩
  | tuple xs =>
    cases e
    obtain ⟨p, vs, rfl, h1, h2⟩ := hx.tuple
    exact ⟨p, vs, rfl, .inr (hid_le.seqT h1), fun l hl => k _ _ ⟨H, l, _, _, Same.refl _, hl, rfl, rfl, rfl, h2⟩⟩
  | _ => cases e
abbrev rInt1 : List V → Hp → VK → Prop := fun xs H Q => (∃ i, xs = [.int i] ∧ Q (.int i) H) ∨ ∃ k, xs = [.bl k] ∧ Q (.int (if k then 1 else 0)) H
theorem s_int : CallS1 X.K (rE X.K) rInt1 pInt := by
  intro O H v x d Q ho hx e k
  cases x with
  | int i => cases e; cases hx.int; exact .inl ⟨i, rfl, k _ H ⟨Same.refl _, .int _⟩⟩
  | bool b => cases e; cases hx.bool; exact .inr ⟨b, rfl, k _ H ⟨Same.refl _, .int _⟩⟩
  | _ => cases e
theorem bools_vs {K : PySem.W.Frag} {H : Hp} : ∀ {ds : List Da} {vs : List V} {bs : List Bool}, DqAll K H vs ds → bools ds = some bs → vs = bs.map V.bl
  | [], _, bs, h, e => by cases h; cases e; rfl
  | d :: ds, _, bs, h, e => by
    cases h with
    | cons h1 h2 =>
      cases d with
      | bool b =>
        simp only [bools] at e
        cases q : bools ds with
        | none => rw [q] at e; cases e
        | some cs =>
          rw [q] at e
          cases e
          cases h1
          rw [bools_vs h2 q]
          rfl
      | _ => cases e
theorem intsD_vs {K : PySem.W.Frag} {H : Hp} : ∀ {ds : List Da} {vs : List V} {bs : List Int}, DqAll K H vs ds → intsD ds = some bs → vs = bs.map V.int
  | [], _, bs, h, e => by cases h; cases e; rfl
  | d :: ds, _, bs, h, e => by
    cases h with
    | cons h1 h2 =>
      cases d with
      | int b =>
        simp only [intsD] at e
        cases q : intsD ds with
        | none => rw [q] at e; cases e
        | some cs =>
          rw [q] at e
          cases e
          cases h1
          rw [intsD_vs h2 q]
          rfl
      | _ => cases e
theorem s_all : CallS1 X.K (rE X.K) (rAll X.K) pAll := by
  intro O H v x d Q ho hx e k
  cases x with
  | list xs =>
    obtain ⟨p, vs, rfl, h1, h2⟩ := hx.list
    simp only [pAll] at e
    cases q : bools xs with
    | none => rw [q] at e; cases e
    | some bs =>
      rw [q] at e; cases e
      exact ⟨p, bs, rfl, by rw [← bools_vs h2 q]; exact h1.sq, k _ H ⟨Same.refl _, .bl _⟩⟩
  | _ => cases e
theorem s_any : CallS1 X.K (rE X.K) (rAny X.K) pAny := by
  intro O H v x d Q ho hx e k
  cases x with
  | list xs =>
    obtain ⟨p, vs, rfl, h1, h2⟩ := hx.list
    simp only [pAny] at e
    cases q : bools xs with
    | none => rw [q] at e; cases e
    | some bs =>
      rw [q] at e; cases e
      exact ⟨p, bs, rfl, by rw [← bools_vs h2 q]; exact h1.sq, k _ H ⟨Same.refl _, .bl _⟩⟩
  | _ => cases e
theorem s_sum : CallS1 X.K (rE X.K) (rSum X.K) pSum := by
  intro O H v x d Q ho hx e k
  cases x with
  | list xs =>
    obtain ⟨p, vs, rfl, h1, h2⟩ := hx.list
    simp only [pSum] at e
    cases q : intsD xs with
    | none => rw [q] at e; cases e
    | some bs =>
      rw [q] at e; cases e
      exact ⟨p, bs, rfl, by rw [← intsD_vs h2 q]; exact h1.sq, k _ H ⟨Same.refl _, .int _⟩⟩
  | _ => cases e
/-! isinstance -/
def notDict : Da → Bool
  | .dict _ => false
  | _ => true
theorem kb_all (t : String) (r : Tc → Bool) (h : (kitB t "int" = some (r .int) ∧ kitB t "str" = some (r .str) ∧ kitB t "bool" = some (r .bool)) ∧ kitB t "list" = some (r .list) ∧ kitB t "tuple" = some (r .tuple) ∧ kitB t "NoneType" = some (r .none)) : ∀ T : Tc, kitB t T.nm = some (r T) := fun T => by
  obtain ⟨⟨a, b, c⟩, d, e, f⟩ := h
  cases T
  · exact a
  · exact b
  · exact c
  · exact d
  · exact e
  · exact f
def tcIs (u : Tc) (t : Tc) : Bool := match u, t with
  | .int, .int => true | .bool, .int => true | .bool, .bool => true | .str, .str => true | .list, .list => true | .tuple, .tuple => true | .none, .none => true
  | _, _ => false
theorem kb_u (u : Tc) : ∀ T : Tc, kitB u.nm T.nm = some (tcIs u T) := by
  intro T
  cases u <;> cases T <;> decide +kernel
theorem ty_br {K : PySem.W.Frag} {O : Addr → Prop} {H : Hp} {v : V} {x : Da} (hx : Br K O H v x) (hd : notDict x = true) : ∃ t, TyX K H v (.type t) ∧ ∀ T : Tc, kitB t T.nm = some (T.has x) := by
  cases x with
  | none => cases hx.non; exact ⟨_, .base .non, fun T => (kb_u .none T).trans (by cases T <;> rfl)⟩
  | bool b => cases hx.bool; exact ⟨_, .base (.bl b), fun T => (kb_u .bool T).trans (by cases T <;> rfl)⟩
  | int b => cases hx.int; exact ⟨_, .base (.int b), fun T => (kb_u .int T).trans (by cases T <;> rfl)⟩
  | str b => cases hx.str; exact ⟨_, .base (.str b), fun T => (kb_u .str T).trans (by cases T <;> rfl)⟩
  | list xs =>
    obtain ⟨p, vs, rfl, h1, h2⟩ := hx.list
    refine ⟨"list", ?_, fun T => (kb_u .list T).trans (by cases T <;> rfl)⟩
    rcases h1 with (h1 | ⟨o, h1⟩) | ⟨o, its, n, h1, h2, _⟩
    · exact .base (.lst h1)
    · exact .base (.frz h1)
    · exact .kList h1 h2
  | tuple xs =>
    obtain ⟨p, vs, rfl, h1, h2⟩ := hx.tuple
    have h1 := hid_le.seqT h1
    refine ⟨"tuple", ?_, fun T => (kb_u .tuple T).trans (by cases T <;> rfl)⟩
    rcases h1 with (h1 | ⟨o, h1⟩) | ⟨o, its, n, h1, h2, _⟩
    · exact .base (.tup h1)
    · exact .fTuple h1
    · exact .kTuple h1 h2
  | dict kvs => cases hd
end
end L2
end

section
set_option Elab.async false
set_option linter.all false
set_option maxRecDepth 100000
namespace L2
open PySem PySem.Spec PyProof.Rows
/-! isinstance -/
def pIsi (t : Tc) (d : Da) : Option Da := if notDict d = true then some (.bool (t.has d)) else none
def pIsiT (ts : List Tc) (d : Da) : Option Da := if notDict d = true then some (.bool (ts.any fun t => t.has d)) else none
section
variable {X : Cx} {I : XI} {W : WX} {a b : Expr} {f g : Sls → Rv Da} {pos : Pos}
theorem o_isi {p pt : Pos} (T : Tc) {x : Str} (hx : bootBuiltins x = some (.type T.nm)) (hm : X.mg "isinstance" = none) (hmx : X.mg x = none) (ha : PE X a (tBw X.K I W f)) (hg : Gl X "isinstance" := by rfl) (hgx : Gl X x := by rfl)
    (hn : x ≠ "__name__" := by decide) (hd : (x == ("__debug__" : Str)) = false := by decide)
    (he : starEach [a, .Name x pt] X.env = (false, eval a X.env) :: starEach [.Name x pt] X.env := by rfl) (he2 : starEach [.Name x pt] X.env = (false, eval (.Name x pt) X.env) :: starEach [] X.env := by rfl) :
    PE X (.Call (.Name "isinstance" p) [a, .Name x pt] [] pos) (tEv X.K I W (x1 (pIsi T) f)) :=
  pe_weak (pe_callB call_isi hg hm (by decide +kernel) (pa_cons ha (pa_cons (pe_bltn (v := .ty T.nm) hgx hmx hx rfl hn hd) pa_nil he2) he) (by decide) (by decide) he (by rw [he2]; rfl)) fun σ H Q ⟨O₀, H₀, Fs, ρ, rs, po⟩ =>
    ⟨O₀, H₀, Fs, ρ, rs, po.first fun x _ po v H1 ⟨s1, b1⟩ => by
      obtain ⟨d, hd, po⟩ := po.opt
      unfold pIsi at hd
      split at hd
      · rename_i nd
        cases hd
        obtain ⟨t, ht, hk⟩ := ty_br b1 nd
        exact ⟨v, .ty T.nm, .type t, .type T.nm, T.has x, rfl, .ty _, ht, hk T, po _ _ ⟨s1, .bl _⟩⟩
      · cases hd⟩
/-- the tuple of types -/
inductive TyNs (X : Cx) : List Expr → List Tc → Prop where
  | nil : TyNs X [] []
  | cons {x : Str} {p : Pos} {es : List Expr} {T : Tc} {Ts : List Tc} (hx : bootBuiltins x = some (.type T.nm)) (hmx : X.mg x = none) (hgx : Gl X x) (hn : x ≠ "__name__") (hd : (x == ("__debug__" : Str)) = false) (h : TyNs X es Ts) : TyNs X (.Name x p :: es) (T :: Ts)
theorem tyn_nil : TyNs X [] [] := .nil
theorem tyn_cons {x : Str} {p : Pos} {es : List Expr} (T : Tc) {Ts : List Tc} (hx : bootBuiltins x = some (.type T.nm)) (hmx : X.mg x = none) (h : TyNs X es Ts) (hgx : Gl X x := by rfl) (hn : x ≠ "__name__" := by decide) (hd : (x == ("__debug__" : Str)) = false := by decide) : TyNs X (.Name x p :: es) (T :: Ts) := .cons hx hmx hgx hn hd h
theorem tyn_pa : ∀ {es : List Expr} {Ts : List Tc}, TyNs X es Ts → PA X es (fun _ H Q => Q (Ts.map fun T => .ty T.nm) H)
  | _, _, .nil => pa_nil
  | _, _, .cons hx hmx hgx hn hd h => pa_weak (pa_cons (pe_bltn (v := .ty _) hgx hmx hx rfl hn hd) (tyn_pa h) rfl) fun σ H Q q => q
theorem clsV_all : ∀ Ts : List Tc, Paired ClsV (Ts.map fun T => V.ty T.nm) (Ts.map fun T => Value.type T.nm)
  | [] => .nil
  | T :: Ts => .cons (.ty _) (clsV_all Ts)
theorem kit_any {K : PySem.W.Frag} {t : String} {r : Tc → Bool} (h : ∀ T : Tc, kitB t T.nm = some (r T)) : ∀ Ts : List Tc, PySem.W.kitAny K (.type t) (Ts.map fun T => Value.type T.nm) = some (Ts.any r)
  | [] => kitAny_nil
  | T :: Ts => kitAny_cons (kit_ty (h T)) (fun e => by rw [kit_any h Ts, List.any_cons, e]; rfl) (fun e => by rw [List.any_cons, e]; rfl)
theorem o_isiT {p pt : Pos} {es : List Expr} {kk : Nat} (Ts : List Tc) (hm : X.mg "isinstance" = none) (ha : PE X a (tBw X.K I W f)) (ht : TyNs X es Ts) (hz : Ts.length ≤ 16777216 := by decide) (hg : Gl X "isinstance" := by rfl)
    (he : starEach [a, .Tuple es kk pt] X.env = (false, eval a X.env) :: starEach [.Tuple es kk pt] X.env := by rfl) (he2 : starEach [.Tuple es kk pt] X.env = (false, eval (.Tuple es kk pt) X.env) :: starEach [] X.env := by rfl) :
    PE X (.Call (.Name "isinstance" p) [a, .Tuple es kk pt] [] pos) (tEv X.K I W (x1 (pIsiT Ts) f)) :=
  pe_weak (pe_callB call_isiT hg hm (by decide +kernel) (pa_cons ha (pa_cons (pe_tup (tyn_pa ht)) pa_nil he2) he) (by decide) (by decide) he (by rw [he2]; rfl)) fun σ H Q ⟨O₀, H₀, Fs, ρ, rs, po⟩ =>
    ⟨O₀, H₀, Fs, ρ, rs, po.first fun x _ po v H1 ⟨s1, b1⟩ => by
      refine ⟨by rw [List.length_map]; exact sz16 hz, fun q hq => ?_⟩
      obtain ⟨d, hd, po⟩ := po.opt
      unfold pIsiT at hd
      split at hd
      · rename_i nd
        cases hd
        obtain ⟨t, ht, hk⟩ := ty_br (b1.mono (same_new (x := .tup (Ts.map fun T => V.ty T.nm)) hq)) nd
        exact ⟨v, q, _, .type t, _, Ts.any fun T => T.has x, rfl, upd_same, clsV_all Ts, ht, kit_any hk Ts, po _ _ ⟨s1.trans (same_new hq), .bl _⟩⟩
      · cases hd⟩
end
/-! sorted -/
def srtOk (ds : List Da) : Bool := (ds.all fun d => match d with | .tuple (_ :: _) => true | _ => false) || (ds.all fun d => match d with | .none => false | .tuple _ => false | _ => true)
def alikeSq (ds : List Da) : Bool := ds.all fun d => ds.all fun e => PySem.W.alike d e
def canSort (ds : List Da) : Bool := (alikeSq ds && srtOk ds) && ds.all SeqAt.shaped
def pSorted : Da → Option Da
  | .list ds => if canSort ds = true then some (.list (ds.mergeSort dataLeB)) else none
  | _ => none
theorem srt_ok {ds : List Da} (h : srtOk ds = true) : PySem.W.Sortable ds := by
  unfold srtOk at h
  rcases Bool.or_eq_true_iff.mp h with h | h
  · refine .inl fun d hd => ?_
    have q := List.all_eq_true.mp h d hd
    cases d with
    | tuple xs => cases xs with
      | nil => cases q
      | cons x r => exact ⟨x, r, rfl⟩
    | _ => cases q
  · refine .inr fun d hd => ?_
    have q := List.all_eq_true.mp h d hd
    cases d with
    | none => cases q
    | tuple xs => cases q
    | _ => exact ⟨(fun z => by cases z), (fun xs z => by cases z)⟩
theorem alike_ok {ds : List Da} (h : alikeSq ds = true) : PySem.W.AllAlike ds := fun d hd e he => List.all_eq_true.mp (List.all_eq_true.mp h d hd) e he
theorem zip_each {s : Shared} : ∀ {xs : List V} {ds : List Da} {us : List Value}, xs.length = ds.length → Vals xs us → PySem.W.EachIs (fun v (b : V × Da) => RelV b.1 v) us (xs.zip ds)
  | [], [], _, _, .nil => .nil
  | x :: xs, d :: ds, _, hl, .cons r t => .cons r (zip_each (s := s) (by simpa using hl) t)
  | [], _ :: _, _, hl, _ => by simp at hl
  | _ :: _, [], _, hl, _ => by simp at hl
theorem zip_reads {h : Heap} : ∀ {xs : List V} {ds : List Da} {us : List Value} {as : List Addr}, xs.length = ds.length → ReadsAll h us ds as → PySem.W.EachIs (fun v (b : V × Da) => ∃ as, Reads h v b.2 as) us (xs.zip ds)
  | [], [], _, _, _, r => by cases r; exact .nil
  | x :: xs, d :: ds, _, _, hl, r => by
    cases r with
    | cons h1 h2 => exact .cons ⟨_, h1⟩ (zip_reads (by simpa using hl) h2)
  | [], _ :: _, _, _, hl, _ => by simp at hl
  | _ :: _, [], _, _, hl, _ => by simp at hl
theorem each_vals : ∀ {us : List Value} {L : List (V × Da)}, PySem.W.EachIs (fun v (b : V × Da) => RelV b.1 v) us L → Vals (L.map (·.1)) us
  | _, _, .nil => .nil
  | _, _, .cons r t => .cons r (each_vals t)
theorem zip_snd {α β : Type} : ∀ {xs : List α} {ds : List β}, xs.length = ds.length → (xs.zip ds).map (·.2) = ds
  | [], [], _ => rfl
  | x :: xs, d :: ds, h => congrArg (d :: ·) (zip_snd (by simpa using h))
  | [], _ :: _, h => by simp at h
  | _ :: _, [], h => by simp at h
theorem dq_zip {K : PySem.W.Frag} {H : Hp} : ∀ {xs : List V} {ds : List Da}, DqAll K H xs ds → ∀ p ∈ xs.zip ds, Dq K H p.1 p.2
  | _, _, .nil, _, h => by simp at h
  | _, _, .cons r t, p, h => by
    rcases List.mem_cons.mp h with rfl | h
    · exact r
    · exact dq_zip t p h
theorem dq_unzip {K : PySem.W.Frag} {H : Hp} : ∀ {L : List (V × Da)}, (∀ p ∈ L, Dq K H p.1 p.2) → DqAll K H (L.map (·.1)) (L.map (·.2))
  | [], _ => .nil
  | p :: L, h => .cons (h p List.mem_cons_self) (dq_unzip fun q hq => h q (List.mem_cons_of_mem _ hq))
def srtV (xs : List V) (ds : List Da) : List V := ((xs.zip ds).mergeSort (PySem.W.dataLe false Prod.snd)).map (·.1)
theorem srt_data {K : PySem.W.Frag} {H : Hp} {xs : List V} {ds : List Da} (h : DqAll K H xs ds) : DqAll K H (srtV xs ds) (ds.mergeSort dataLeB) := by
  have e : ds.mergeSort dataLeB = ((xs.zip ds).mergeSort (PySem.W.dataLe false Prod.snd)).map (·.2) := by
    rw [List.map_mergeSort (s := dataLeB) (fun a _ b _ => by rw [PySem.W.dataLe_eq]; rfl), zip_snd h.length]
  rw [e]
  exact dq_unzip fun p hp => dq_zip h p ((List.mergeSort_perm _ _).mem_iff.mp hp)
section
variable {X : Cx}
def rSrtD (K : PySem.W.Frag) : List V → Hp → VK → Prop := fun vs H Q => ∃ (a : Addr) (xs : List V) (ds : List Da), vs = [V.ref a] ∧ SqL K H a xs ∧ DpAll K H xs ds ∧ canSort ds = true ∧ xs.length = ds.length ∧ ∀ p, H p = none → Q (.ref p) (upd H p (.lst (srtV xs ds)))
theorem cr_srtD (hu : X.A.units + 80 < cLine) : CallR X (.builtin "sorted") (rSrtD X.K) := by
  intro pins s σ H vs us Q I r h
  obtain ⟨a, xs, ds, rfl, hs, hd, hc, hl, q⟩ := h
  obtain ⟨its, rv, hI, hz⟩ := I.list hs
  rw [Vals.ref1 r]
  unfold canSort at hc
  obtain ⟨hc, hsh⟩ := Bool.and_eq_true_iff.mp hc
  obtain ⟨hal, hso⟩ := Bool.and_eq_true_iff.mp hc
  obtain ⟨as, h4⟩ := Dp.readsAll I ds _ its hd rv
  have em : (xs.zip ds).map (fun p => p.2) = ds := zip_snd hl
  have len : (xs.zip ds).length = xs.length := by rw [List.length_zip, hl, Nat.min_self]
  refine PySem.W.sorted_data (enc := Prod.snd) (bs := xs.zip ds) (R := fun v b => RelV b.1 v) hI.isList (zip_each (s := s) hl rv) (zip_reads hl h4) (by rw [em]; exact alike_ok hal) (by rw [em]; exact srt_ok hso) (by rw [len]; exact hz) (fun b hb => ?_) fun out h1 h2 => ?_
  · have hm : b.2 ∈ ds := (List.of_mem_zip hb).2
    have := SeqAt.depth_of_shaped (List.all_eq_true.mp hsh _ hm)
    omega
  · have hv : Vals (srtV xs ds) out := each_vals h2
    obtain ⟨ep, he'⟩ := PyProof.Rows.sortedAll_at s.heap its out.toArray
    have hlen : (srtV xs ds).length ≤ sizeLine := by
      rw [hv.length, h1, len]; exact hz
    exact ⟨.ref _, upd H (s.heap.objs.size + 1) (.lst (srtV xs ds)), I.laid (t' := s.toks) (fun _ _ => PyProof.Rows.sortedAll_old) (Nat.le_succ _) ⟨hlen, out, ep, hv, he'⟩, rfl, q _ (I.hok.fresh (Nat.le_succ _))⟩
theorem canLay_all : ∀ {ds : List Da}, ds.all SeqAt.shaped = true → PyData.canLayAll0 ds = true
  | [], _ => by simp [PyData.canLayAll0]
  | d :: ds, h => by
    rw [List.all_cons, Bool.and_eq_true] at h
    rw [PyData.canLayAll0, SeqAt.canLay_of_shaped h.1, canLay_all h.2]
    rfl
theorem s_sorted : CallS1 X.K (rF X.K) (rSrtD X.K) pSorted := by
  intro O H v x d Q ho hx e k
  cases x with
  | list xs =>
    simp only [pSorted] at e
    split at e
    · rename_i hc
      cases e
      obtain ⟨p, vs, rfl, h1, h2⟩ := hx.list
      have hsh : xs.all SeqAt.shaped = true := by
        unfold canSort at hc
        exact (Bool.and_eq_true_iff.mp hc).2
      exact ⟨p, vs, xs, rfl, h1.sq, dqs_dp xs vs (canLay_all hsh) (h2.mono hid_le), hc, h2.length, fun q hq => k _ _ ⟨H, q, _, _, Same.refl _, hq, rfl, rfl, rfl, srt_data h2⟩⟩
    · cases e
  | _ => cases e
end
/-! methods -/
def asStr : Da → Option Str
  | .str x => some x
  | _ => none
def xM1 {α : Type} (pre : Da → Option α) (p : α → Da → Option Da) (f g : Sls → Rv Da) : Sls → Rv Da := fun ρ => (f ρ).bind fun x => (Rv.ofO (pre x)).bind fun a => (g ρ).bind fun y => Rv.ofO (p a y)
def mStarts (x : Str) : Da → Option Da
  | .str y => some (.bool (x.cps.toList.take y.cps.toList.length == y.cps.toList))
  | _ => none
theorem asStr_ok {d : Da} {x : Str} (h : asStr d = some x) : d = .str x := by
  cases d <;> simp [asStr] at h
  subst h; rfl
section
variable {X : Cx} {I : XI} {W : WX} {a b o e : Expr} {f g : Sls → Rv Da} {pos : Pos}
abbrev rStarts : V → List V → Hp → VK → Prop := fun x xs H Q => ∃ a b, x = .str a ∧ xs = [.str b] ∧ Q (.bl (Txt.startswith a b)) H
theorem starts_eq (x y : Str) : Txt.startswith x y = (x.cps.toList.take y.cps.toList.length == y.cps.toList) := by
  unfold Txt.startswith
  rw [subAt_iff, List.drop_zero]
  have hx : x.length = x.cps.toList.length := rfl
  have hy : y.length = y.cps.toList.length := rfl
  rw [hx, hy, Nat.zero_add]
  by_cases h : y.cps.toList.length ≤ x.cps.toList.length
  · rw [decide_eq_true h, Bool.true_and]
  · rw [decide_eq_false h, Bool.false_and]
    symm
    rw [beq_eq_false_iff_ne]
    intro z
    have := congrArg List.length z
    rw [List.length_take] at this
    omega
theorem o_starts {apos cpos : Pos} (ho : PE X o (tBw X.K I W f)) (he : PE X e (tBw X.K I W g)) (hbase : attributeBase o "startswith" X.env (eval o X.env) = eval o X.env := by rfl)
    (hfew : ((backTo cpos (starEach [e] X.env)).all (fun x => !x.1) && (backToKw cpos (keywordEach [] X.env)).all (fun x => x.1.isSome) && decide (([e] : List Expr).length + ([] : List Keyword).length + (if ([] : List Keyword).isEmpty then 0 else 1) < 30)) = true := by rfl)
    (hline : (apos.endLine == cpos.line) = true := by rfl) (hs : starEach [e] X.env = (false, eval e X.env) :: starEach [] X.env := by rfl) (hplain : (backTo cpos (starEach [] X.env)).any (·.1) = false := by rfl) :
    PE X (.Call (.Attribute o "startswith" apos) [e] [] cpos) (tEv X.K I W (xM1 asStr mStarts f g)) :=
  pe_weak (pe_bm F.plainAttrs_str F.slot_str_startswith F.type_str_startswith mt_startswith ho (pa_cons he pa_nil hs) hbase hfew hline hs hplain) fun σ H Q ⟨O₀, H₀, Fs, ρ, rs, po⟩ => ⟨O₀, H₀, Fs, ρ, rs, po.first fun x _ po v H1 ⟨s1, b1⟩ => by
    obtain ⟨z, hz, po2⟩ := po.bopt
    clear po
    cases asStr_ok hz
    cases b1.str
    refine ⟨rfl, O₀, H₀, Fs, ρ, rs.mono s1, (po2.at s1).first fun y _ po u H2 ⟨s2, b2⟩ => ?_⟩
    obtain ⟨d, hd, po⟩ := po.opt
    cases y with
    | str w =>
      cases b2.str
      cases hd
      exact ⟨z, w, rfl, rfl, by rw [starts_eq]; exact po _ _ ⟨s1.trans s2, .bl _⟩⟩
    | _ => cases hd⟩

/-! list.index -/
def asList : Da → Option (List Da)
  | .list x => some x
  | _ => none
def mIndex (ds : List Da) (d : Da) : Option Da := if SeqAt.shaped d = true ∧ SeqAt.shaped (.list ds) = true then (ds.findIdx? fun z => PyData.eqv z d).map fun (j : Nat) => .int (j : Int) else none
theorem asList_ok {d : Da} {x : List Da} (h : asList d = some x) : d = .list x := by
  cases d <;> simp [asList] at h
  subst h; rfl
theorem findIdx_ok {ds : List Da} {f : Da → Bool} {j : Nat} (h : ds.findIdx? f = some j) : ∃ z, ds[j]? = some z ∧ f z = true ∧ ∀ (m : Nat) (z' : Da), m < j → ds[m]? = some z' → f z' = false := by
  rw [List.findIdx?_eq_some_iff_getElem] at h
  obtain ⟨hl, h1, h2⟩ := h
  refine ⟨ds[j], List.getElem?_eq_getElem hl, h1, fun m z' hm hz => ?_⟩
  have q := h2 m hm
  have hml : m < ds.length := by omega
  rw [List.getElem?_eq_getElem hml] at hz
  cases hz
  simpa using q
theorem o_lindex {apos cpos : Pos} (hu : X.A.units + 65 < cLine) (ho : PE X o (tBw X.K I W f)) (he : PE X e (tBw X.K I W g)) (hbase : attributeBase o "index" X.env (eval o X.env) = eval o X.env := by rfl)
    (hfew : ((backTo cpos (starEach [e] X.env)).all (fun x => !x.1) && (backToKw cpos (keywordEach [] X.env)).all (fun x => x.1.isSome) && decide (([e] : List Expr).length + ([] : List Keyword).length + (if ([] : List Keyword).isEmpty then 0 else 1) < 30)) = true := by rfl)
    (hline : (apos.endLine == cpos.line) = true := by rfl) (hs : starEach [e] X.env = (false, eval e X.env) :: starEach [] X.env := by rfl) (hplain : (backTo cpos (starEach [] X.env)).any (·.1) = false := by rfl) :
    PE X (.Call (.Attribute o "index" apos) [e] [] cpos) (tEv X.K I W (xM1 asList mIndex f g)) :=
  pe_weak (pe_bm F.plainAttrs_list F.slot_list_index F.type_list_index (mt_indexD hu) ho (pa_cons he pa_nil hs) hbase hfew hline hs hplain) fun σ H Q ⟨O₀, H₀, Fs, ρ, rs, po⟩ => ⟨O₀, H₀, Fs, ρ, rs, po.first fun x _ po v H1 ⟨s1, b1⟩ => by
    obtain ⟨xs, hz, po2⟩ := po.bopt
    clear po
    cases asList_ok hz
    obtain ⟨p, vs, rfl, h1, h2⟩ := b1.list
    refine ⟨.inl ⟨rfl, vs, h1.sq⟩, O₀, H₀, Fs, ρ, rs.mono s1, (po2.at s1).first fun y _ po u H2 ⟨s2, b2⟩ => ?_⟩
    obtain ⟨d, hd, po⟩ := po.opt
    unfold mIndex at hd
    split at hd
    · rename_i hs
      cases hi : xs.findIdx? fun z => PyData.eqv z y with
      | none => rw [hi] at hd; cases hd
      | some j =>
        rw [hi] at hd
        cases hd
        obtain ⟨z, h3, h4, h5⟩ := findIdx_ok hi
        exact ⟨p, u, y, xs, j, z, rfl, rfl, (b1.mono s2).dpS hs.2, b2.dpS hs.1, hs.2, hs.1, h3, h4, h5, po _ _ ⟨s1.trans s2, .int _⟩⟩
    · cases hd⟩
/-! statements on an owned list -/
theorem SPo.thn2 {K : PySem.W.Frag} {O₀ : Addr → Prop} {H₀ H : Hp} {Fs : List (List Addr)} {D : Ends} {α : Type} {r : Option α} {ρ : Sls} {k : α → Out} (p : SPo K I W O₀ H₀ Fs H ((Rv.ofO r).thn ρ k) D) : ∃ a, r = some a ∧ SPo K I W O₀ H₀ Fs H (k a) D := SPo.opt p
theorem s_app {i : Nat} {x : Str} {px apos cpos pos : Pos} (he : PE X e (tEv X.K I W f)) (hi : X.N[i]? = some x := by rfl) (hv : Vis X.env.scope x := by first | exact Or.inl rfl | exact Or.inr (Or.inl rfl) | exact Or.inr (Or.inr rfl)) (hd : (x == ("__debug__" : Str)) = false := by decide)
    (hcd : (x == ("__classdict__" : Str)) = false := by decide) (hsw : swapsWith (.Call (.Attribute (.Name x px) "append" apos) [e] [] cpos) none pos.line X.env = pure false := by rfl)
    (hbase : attributeBase (.Name x px) "append" X.env (eval (.Name x px) X.env) = eval (.Name x px) X.env := by rfl)
    (hfew : ((backTo cpos (starEach [e] X.env)).all (fun x => !x.1) && (backToKw cpos (keywordEach [] X.env)).all (fun x => x.1.isSome) && decide (([e] : List Expr).length + ([] : List Keyword).length + (if ([] : List Keyword).isEmpty then 0 else 1) < 30)) = true := by rfl)
    (hline : (apos.endLine == cpos.line) = true := by rfl) (hs : starEach [e] X.env = (false, eval e X.env) :: starEach [] X.env := by rfl) (hplain : (backTo cpos (starEach [] X.env)).any (·.1) = false := by rfl) :
    PS X (.Expr (.Call (.Attribute (.Name x px) "append" apos) [e] [] cpos) pos) (tS X.K I W (sApp i f)) :=
  ps_weak (ps_expr (pe_bm F.plainAttrs_list F.slot_list_append F.type_list_append mt_append (pe_var hi hv hd hcd) (pa_cons he pa_nil hs) hbase hfew hline hs hplain) hsw) fun D σ H ⟨O₀, H₀, Fs, ρ, r, p⟩ => by
    unfold sApp at p
    obtain ⟨xs, hx, p2⟩ := p.opt
    clear p
    obtain ⟨l, vs, h1, h2, h3, h4, h5⟩ := r.lst hx
    refine ⟨.ref l, h1, .inl ⟨rfl, vs, .inl (.inl h3)⟩, O₀, H₀, Fs, ρ, r, SPo.thn r p2 fun d _ p v H1 ⟨s1, b1⟩ => ?_⟩
    split at p
    · rename_i hz
      have r1 := r.mono s1
      obtain ⟨r2, e2⟩ := r1.updLst (vs := vs ++ [v]) (xs := xs ++ [d]) h1 h2 ((h4.mono (hid_same s1)).append (.cons b1 .nil))
      refine ⟨l, vs, v, rfl, rfl, s1 _ _ h3, by rw [h4.length, sizeLine_eq]; exact hz, p _ _ _ r2 ?_⟩
      rw [e2]
      exact hid_same s1
    · exact p.elim
end
end L2
end

section
set_option Elab.async false
set_option linter.all false
set_option maxRecDepth 100000
namespace L2
open PySem PySem.Spec PyProof.Rows
/-- a def by its body -/
def mOf (N : Nat) (u : SS) (ds : List Da) : Rv Da := match u (ds.map .val ++ List.replicate (N - ds.length) .un) with
  | .nx _ => .ok .none
  | .rt d => .ok d
  | .exc c d _ => .exc c d
  | _ => .bad
theorem nils_mem {n : Nat} {F : List Addr} {a : Addr} (h : F ∈ List.replicate n ([] : List Addr)) (ha : a ∈ F) : False := by
  rw [List.eq_of_mem_replicate h] at ha
  simp at ha
theorem Ow_nils {O₀ : Addr → Prop} {n : Nat} {a : Addr} (h : Ow O₀ (List.replicate n []) a) : O₀ a := by
  rcases h with h | ⟨F, hF, ha⟩
  · exact h
  · exact (nils_mem hF ha).elim
theorem sl_uns {K : PySem.W.Frag} {Hs H : Hp} : ∀ n : Nat, SlAll K Hs H (List.replicate n none) (List.replicate n .un) (List.replicate n [])
  | 0 => trivial
  | n + 1 => ⟨rfl, sl_uns n⟩
theorem sl_start {K : PySem.W.Frag} {Hs H : Hp} (n : Nat) : ∀ {vs : List V} {ds : List Da}, DqAll K Hs vs ds → SlAll K Hs H (vs.map some ++ List.replicate n none) (ds.map .val ++ List.replicate n .un) (List.replicate (ds.length + n) [])
  | _, _, .nil => by
    have q := sl_uns (K := K) (Hs := Hs) (H := H) n
    simpa using q
  | v :: vs, d :: ds, .cons r t => by
    have e : (d :: ds).length + n = (ds.length + n) + 1 := by rw [List.length_cons]; omega
    rw [e, List.replicate_succ]
    exact ⟨⟨r, rfl⟩, sl_start n t⟩
theorem rs_start {K : PySem.W.Frag} {O₀ : Addr → Prop} {H : Hp} {vs : List V} {ds : List Da} {n : Nat} (ho : ∀ a, O₀ a → H a ≠ none) (h : DqAll K (hid O₀ H) vs ds) :
    RS K O₀ H (List.replicate (ds.length + n) []) H (vs.map some ++ List.replicate n none) (ds.map .val ++ List.replicate n .un) where
  same := Same.refl _
  new := fun F hF a ha => (nils_mem hF ha).elim
  o0 := ho
  nO := fun F hF a ha => (nils_mem hF ha).elim
  there := fun F hF a ha => (nils_mem hF ha).elim
  nd := fun F hF => by rw [List.eq_of_mem_replicate hF]; exact List.nodup_nil
  dj := fun i j F G a e1 e2 h1 h2 => (nils_mem (List.mem_of_getElem? e1) h1).elim
  sl := sl_start n (h.mono (hid_anti fun a z => Ow_nils z))
section
variable {P : Program} {w : World} {K : PySem.W.Frag} {mg : Str → Option Value} {base : Heap} {I : XI}
/-- the context of a body -/
abbrev bodyX (P : Program) (w : World) (K : PySem.W.Frag) (mg : Str → Option Value) (base : Heap) (N : List Str) (qual : Str) (st : Stmt) (f : Addr) (cdv : Value) (A : Around) (outer : List Env) (s : Shared) (H : Hp) (E : XK) : Cx :=
  cxOf (L2.CX P w) P w K mg base N qual (defScope st) f cdv A outer s H E
abbrev WT (E : XK) : WX := fun cls d _ H => E cls d H
theorem fn_body {x qual : Str} {st : Stmt} {f : Addr} {fd : FuncData} {N ps : List Str} {k n : Nat} {u : SS} (F : Fun K x qual st f fd) (S : FnScope N ps (defScope st)) (hn : ps.length = n) (hN : N.length = n + (N.length - n))
    (hb : ∀ (cdv : Value) (A : Around) (outer : List Env) (s : Shared) (H : Hp) (E : XK), Room k (bodyX P w K mg base N qual st f cdv A outer s H E).A → PSs (bodyX P w K mg base N qual st f cdv A outer s H E) (defBody st) (tS K I (WT E) u)) :
    FnOk P w K mg base (L2.CX P w) (k + 1) f fd ps (spM K I n (mOf N.length u)) := by
  refine F.okX S (fun vs H Q E h => (spM_len h).trans hn.symm) fun cdv A outer s H vs Q E hr h => ⟨_, hb cdv A outer s H E hr, ?_⟩
  obtain ⟨O₀, ds, ho, hd, hl, hm⟩ := h
  have hvl : vs.length = ds.length := hd.length
  have r := rs_start (n := N.length - ds.length) ho hd
  have e1 : start N vs = vs.map some ++ List.replicate (N.length - ds.length) none := by
    unfold start
    rw [hvl]
  rw [e1]
  refine ⟨O₀, H, _, _, r, ?_⟩
  unfold mOf at hm
  cases hu : u (ds.map .val ++ List.replicate (N.length - ds.length) .un) with
  | nx ρ => rw [hu] at hm; exact fun σ' H' Fs' r' s' => hm .non H' r'.same .non
  | rt d => rw [hu] at hm; exact fun v H' s' q => hm v H' s' q
  | bk ρ => rw [hu] at hm; exact hm.elim
  | ct ρ => rw [hu] at hm; exact hm.elim
  | exc c d ρ => rw [hu] at hm; exact fun cls dx σ' H' Fs' r' s' i => hm cls dx H' r'.same i
  | bad => rw [hu] at hm; exact hm.elim
end
end L2
end

section
set_option Elab.async false
set_option linter.all false
set_option maxRecDepth 100000
namespace L2
open PySem PySem.Spec PyProof.Rows
theorem hu64 {k : Nat} {A : Around} (hr : Room k A) : A.units + 64 < cLine := by have := hr.un; omega
theorem hu65 {k : Nat} {A : Around} (hr : Room k A) : A.units + 65 < cLine := by have := hr.un; omega
theorem hu80 {k : Nat} {A : Around} (hr : Room k A) : A.units + 80 < cLine := by have := hr.un; omega
section
variable {P : Program} {w : World} {K : PySem.W.Frag} {mg : Str → Option Value} {base : Heap} {I : XI}
theorem fn_bad {x qual : Str} {st : Stmt} {f : Addr} {fd : FuncData} {N ps : List Str} {k n : Nat} (F : Fun K x qual st f fd) (S : FnScope N ps (defScope st)) (hn : ps.length = n) : FnOk P w K mg base (L2.CX P w) k f fd ps (spM K I n fun _ => .bad) :=
  ⟨fun vs H Q E h => (spM_len h).trans hn.symm, fun A outer s H args us vs Q E hr e0 hb r h => by
    obtain ⟨_, _, _, _, _, z⟩ := h
    exact z.elim⟩
end
section
variable {X : Cx} {I : XI} {W : WX} {a b : Expr} {f g : Sls → Rv Da} {pos : Pos}
theorem pgn_nil : PGn X [] [] := .nil
theorem pg_names {is : List Nat} {ts : List Expr} {k : Nat} (hc : X.calm = true) (hN : X.N.Nodup) (hg : PGn X ts is) : PG X (.Tuple ts k pos) (gTup X.K is.length (gNames is)) := pg_tup hc (pgn_pgs hN hg).1 (pgn_pgs hN hg).2.1 (pgn_pgs hN hg).2.2
end
section
variable {X : Cx} {I : XI} {W : WX} {pos : Pos}
theorem o_call0 {x : Str} {p : Pos} {k : Nat} {fa : Addr} {fd : FuncData} {ps : List Str} {m : List Da → Rv Da} (F : FnOk X.prog X.w X.K X.mg X.base (L2.CX X.prog X.w) k fa fd ps (spM X.K I 0 m)) (hr : Room k X.A) (hm : X.mg x = some (.ref fa)) (hk : PySem.W.keepIn X.K (.ref fa) = true)
    (hb : Binds X.K fd ps []) (tk : Takes X W) (hg : Gl X x := by rfl) (hdb : (x == ("__debug__" : Str)) = false := by decide) : PE X (.Call (.Name x p) [] [] pos) (tEv X.K I W (xCall m xs0)) := by
  refine ⟨fun pins s σ H Q J h => ?_⟩
  refine wpAny_Call_Name_kw (ld_glob J hg hm ?_ hdb)
  refine PySem.W.callWith_K0 J.kIn hk (run_fnS (E := fun σ => WE W σ) (us := []) (vs := []) F hr hb (passAt tk σ) J .nil ?_)
  obtain ⟨O₀, H₀, Fs, ρ, rs, po⟩ := h
  have po : Post I W σ H (fun H' v d => rE X.K (Ow O₀ Fs) H H' v d) (m []) Q := po
  refine ⟨Ow O₀ Fs, [], Ow.there rs, .nil, rfl, ?_⟩
  cases hm2 : m [] with
  | ok d => rw [hm2] at po; exact fun v H' s' h' => po v H' ⟨s', h'⟩
  | exc c d => rw [hm2] at po; exact fun cls dx H' s' h' => po cls dx H' s' h'
  | bad => rw [hm2] at po; exact po.elim
end
/-! exceptions -/
def sRaiseV (c : Nat) (f : Sls → Rv Da) : SS := fun ρ => (f ρ).thn ρ fun d => match d with
  | .int i => if 0 ≤ i ∧ i < 1000 then .exc c (.int i) ρ else .bad
  | _ => .bad
def sRaise0 (c : Nat) : SS := fun ρ => .exc c .none ρ
def sTryAt (i : Nat) (u : SS) (k : Int) : SS := fun ρ => match u ρ with
  | .exc 0 (.int j) ρ' => if i < ρ'.length then .rt (.bool (j == k)) else .bad
  | .exc _ _ _ => .bad
  | o => o
/-- the classes' addresses: BadValue, TooMany, a third -/
def xiOf (CB CT CX : Addr) : XI := fun c d cls dx H => match c with
  | 0 => ∃ (xd : Addr) (i : Int), d = .int i ∧ cls = .ref CB ∧ dx = some xd ∧ H xd = some (.xd [(("at" : Str), .int i)])
  | 1 => d = .none ∧ cls = .ref CT ∧ dx = none
  | 2 => d = .none ∧ cls = .ref CX ∧ dx = none
  | _ => False
end L2
end

section
set_option Elab.async false
set_option linter.all false
set_option maxRecDepth 100000
set_option maxHeartbeats 4000000
/-! BadValue(at): an own class over an own class over Exception, whose __init__ calls super().__init__(f'..') -/
namespace Bv
open PySem PySem.W PySem.Calls PyProof.Rows
/-- the text of __init__ -/
def ini (a1 a2 : Str) (p0 p1 p2 p3 p4 q1 q2 q3 q4 q5 r1 r2 r3 r4 : Pos) (j1 j2 : Nat) : List Stmt :=
  [.Expr (.Call (.Attribute (.Call (.Name "super" p0) [] [] p1) "__init__" p2) [.JoinedStr [.Constant (.str a1) j1 q1, .FormattedValue (.Name "at" q2) (-1) none q3, .Constant (.str a2) j2 q4] q5] [] p3) p4,
   .Assign [.Attribute (.Name "self" r1) "at" r2] (.Name "at" r3) r4]
def inA (u1 u2 : Pos) : Arguments := { posonlyargs := [], args := [{ arg := "self", annotation := none, pos := u1 }, { arg := "at", annotation := none, pos := u2 }], vararg := none, kwonlyargs := [], kw_defaults := [], kwarg := none, defaults := [] }
def inS : Scope := { kind := .function, names := [(Str.ofString "self", .local), (Str.ofString "at", .local), (Str.ofString "__class__", .free), (Str.ofString "super", .globalImplicit)], isGenerator := false, isCoroutine := false, more := [] }
abbrev excL : List Value := [.type "Exception", .type "BaseException", .type "object"]
/-- the call's arm -/
def Plain (a1 a2 : Str) (p0 p1 p2 p3 q1 q2 q3 q4 q5 : Pos) (j1 j2 : Nat) : Prop := ∃ pl : Sem Bool, ∀ env : Env, eval (.Call (.Attribute (.Call (.Name "super" p0) [] [] p1) "__init__" p2) [.JoinedStr [.Constant (.str a1) j1 q1, .FormattedValue (.Name "at" q2) (-1) none q3, .Constant (.str a2) j2 q4] q5] [] p3) env = (do
  let ov ← attributeBase (.Call (.Name "super" p0) [] [] p1) "__init__" env (eval (.Call (.Name "super" p0) [] [] p1) env)
  standAt p2.atName
  let (f, first) ← holding [ov] (getMethod ov "__init__" pl)
  callWith p3 f first (backTo p3 (starEach [.JoinedStr [.Constant (.str a1) j1 q1, .FormattedValue (.Name "at" q2) (-1) none q3, .Constant (.str a2) j2 q4] q5] env)) [])
structure Txt (prog : Program) (K : Frag) (mg : Str → Option Value) (C fI : Addr) : Prop where
  gC : mg "BadValue" = some (.ref C)
  gS : mg "super" = none
  i1 : excInitIn K C excL "Exception.__new__" = true
  ov : excOver K C excL = true
  sa : findIn K (.ref C) "__setattr__" = some (some (.builtin "object.__setattr__"))
  tk : takerIn K C "at" = some none
  xf : L2.xfB K C = true
  no : findIn K (.ref C) "at" = some none
  iC : findIn K (.ref C) "__init__" = some (some (.ref fI))
  tC : typeIn K (.ref fI) = some (.type "function")
  kC : keepIn K (.ref C) = true
  ty : typeIn K (.ref C) = some (.type "type")
  te : exmOne K (.ref C) (.ref C) = some true
  su : ks_superIn K C C "__init__" = some (some (.builtin "Exception.__init__"))
  op : nsIn K cStatics "thirdparty.any" = some none
  hs : mroIn K C (.ref C) = some true
  hB : subIn K (.ref C) (.type "Exception") = some true
  fn : ∃ (oc ccl cl : Value) (od cdd cld : Option Addr) (doc pm ct : Value) (an : Option Addr) (cda cc : Addr) (osl ccs csl : Array (Option Value)) (vs : Array Value) (file : Str) (tf : Tok) (a1 a2 : Str) (u1 u2 p0 p1 p2 p3 p4 q1 q2 q3 q4 q5 r1 r2 r3 r4 : Pos) (j1 j2 : Nat) (cdD : ClassData),
    K.lookup fI = some ⟨oc, od, .func (ksFn "__init__" "BadValue.__init__" (inA u1 u2) (ini a1 a2 p0 p1 p2 p3 p4 q1 q2 q3 q4 q5 r1 r2 r3 r4 j1 j2) inS .none .none doc pm an (.ref cda) ct cc), osl⟩ ∧ codeIn K (.ref cda) "BadValue.__init__" = true ∧
    (a1.length ≤ 1000 ∧ a2.length ≤ 1000) ∧ K.lookup cda = some ⟨ccl, cdd, .fields vs, ccs⟩ ∧ vs[2]? = some (.str file tf) ∧ ((prog.main.file : Str) == file) = true ∧ K.lookup cc = some ⟨cl, cld, .cell (some (.ref C)), csl⟩ ∧ clsIn K C = some cdD ∧ Plain a1 a2 p0 p1 p2 p3 q1 q2 q3 q4 q5 j1 j2
  top : (prog.main.scope.names.lookup ("super" : Str)).isSome = false
section
variable {prog : Program} {w : World} {A : Around} {E : Value → Shared → Prop} {R : Result → Shared → Prop} {s : Shared} {K : Frag} {mg : Str → Option Value} {C fI : Addr} {base : Heap}
/-- super() in __init__ -/
theorem sup (M : L2.Mod K mg base) {h₀ : Heap} {L : Addr} {m : Str → Option Value} {news : List (Addr × Obj)} {body : List Stmt} {q : Str} {scope : Scope} {p0 p1 : Pos} {attr : Str} {whole : Sem Value} {fd : FuncData} {ar : Arg} {vs : Array Value} {file : Str} {tf : Tok} {oc ccl cl : Value} {od cdd cld : Option Addr} {osl ccs csl : Array (Option Value)} {cdD : ClassData} {x f cda cc : Addr} {ox : Obj} {odx : Option Obj} {Q : Value → Shared → Prop}
    (F : Fr h₀ L s.heap m) (kb : ∀ b o, base.get? b = some o → s.heap.get? b = some o) (N : News h₀ L s.heap news) (hf : K.lookup f = some ⟨oc, od, .func fd, osl⟩) (hp : (fd.params.posonlyargs ++ fd.params.args).head? = some ar) (hv : m ar.arg = some (.ref x)) (I : InstAt s.heap x ox C odx)
    (hcode : K.lookup cda = some ⟨ccl, cdd, .fields vs, ccs⟩) (hvs : vs[2]? = some (.str file tf)) (hfile : ((prog.main.file : Str) == file) = true) (hcell : K.lookup cc = some ⟨cl, cld, .cell (some (.ref C)), csl⟩) (hD : clsIn K C = some cdD) (hsub : mroIn K C (.ref C) = some true) (hsuper : mg "super" = none)
    (hat : (attr == ("__class__" : Str)) = false) (hks : scope.names.lookup ("super" : Str) = some .globalImplicit) (hkc : scope.names.lookup ("__class__" : Str) = some .free) (hka : scope.names.lookup ar.arg = some .local) (hk : scope.kind = .function) (htop : (prog.main.scope.names.lookup ("super" : Str)).isSome = false)
    (h : ∀ h', Fr h₀ L h' m → News h₀ L h' ((s.heap.objs.size, ks_superObj C x C) :: news) → (∀ b o, base.get? b = some o → h'.get? b = some o) → (∀ p ∈ news, p.1 < s.heap.objs.size) → Q (.ref s.heap.objs.size) { s with heap := h' }) :
    _root_.PySem.wpAt (model prog w) A (.func body (ksEnv q scope L f (.ref cda) cc)) (attributeBase (.Call (.Name "super" p0) [] [] p1) attr (ksEnv q scope L f (.ref cda) cc) whole) Q E s := by
  have X : K.In s.heap := M.kin.keeps kb
  obtain ⟨mb, hmb, hbt⟩ := M.blt
  obtain ⟨oD, hD1, hD2⟩ : ∃ oD, s.heap.get? C = some oD ∧ oD.data = .cls cdD := by
    unfold clsIn at hD
    split at hD
    · rename_i ho
      cases hD
      exact ⟨_, X _ _ ho, rfl⟩
    · cases hD
  obtain ⟨hh, g, d, t, os⟩ := s
  refine ks_wpAt_super_base (env := ksEnv q scope L f (.ref cda) cc) hks hkc hat rfl (X _ _ hf) rfl hp rfl (X _ _ hcode) rfl hvs hfile htop ?_
  refine ks_loadName_global hk hks (loadGlobal_builtin (env := ksEnv q scope L f (.ref cda) cc) (M.glob.keeps kb) hsuper (hmb.keeps kb) ((hbt _ (by decide +kernel)).trans (by first | boot_by_name | rfl | kernel_rfl)) ⟨rfl, ?_⟩)
  refine wpAny_loadName_free hk hkc rfl ⟨_, X _ _ hcell, rfl⟩ (wpAny_loadName_local hk hka F.ns hv (ks_wpAny_isType_cls hD1 hD2 ⟨rfl, ?_⟩))
  refine ks_wpAny_call_super hD1 hD2 I.at_ I.cls (fun c e => ?_) (looks_mroIn X hsub) fun h' e k => ?_
  · have z := I.no
    unfold notCls at z
    rw [e] at z
    cases z
  · obtain ⟨F', N', l'⟩ := ks_newsPush (s := ⟨hh, g, d, t, os⟩) F N rfl e k
    exact h _ F' N' (fun b o z => k b o (kb b o z)) l'
theorem app_len (a b : Str) : (a ++ b).length = a.length + b.length := by
  obtain ⟨a⟩ := a
  obtain ⟨b⟩ := b
  show (a ++ b).size = a.size + b.size
  exact Array.size_append
theorem short_all : ∀ n : Fin 1000, (PySem.Str.length (toString (n.val : Int))) ≤ 640 := by decide +kernel
theorem int_short {i : Int} (h : 0 ≤ i ∧ i < 1000) : i.natAbs.log2 < 1920 ∧ PySem.Str.length (toString i) ≤ 640 := by
  have hn : i = ((⟨i.toNat, by omega⟩ : Fin 1000).val : Int) := by show i = (i.toNat : Int); omega
  have h2 : i.natAbs.log2 ≤ i.natAbs := Nat.log2_le_self _
  refine ⟨by omega, ?_⟩
  rw [hn]
  exact short_all _
theorem ini_ok (T : Txt prog K mg C fI) (M : L2.Mod K mg base) {x t0 : Addr} {i : Int} {tk : Tok} (kb : ∀ b o, base.get? b = some o → s.heap.get? b = some o) (hbx : base.get? x = none) (hx : s.heap.get? x = some (excObj C t0 none .none)) (hroom : A.depth < recursionLimit) (hi : 0 ≤ i ∧ i < 1000)
    (hq : ∀ h' tk' dx t1 k n, (∀ b o, b ≠ x → s.heap.get? b = some o → h'.get? b = some o) → s.heap.objs.size ≤ dx → dx ≠ x → h'.get? x = some (excObj C t1 (some dx) .none) → h'.get? dx = some (dictOf [⟨PyData.keyHash w.params "at", .str "at" k, .int i tk⟩] n) →
      R (.ok (.ret .none)) { s with heap := h', toks := tk' }) : codeAny (model prog w) A (.call (.ref fI) ⟨[.ref x, .int i tk], []⟩) R s := by
  obtain ⟨oc, ccl, cl, od, cdd, cld, doc, pm, ct, an, cda, cc, osl, ccs, csl, vs, file, tf, a1, a2, u1, u2, p0, p1, p2, p3, p4, q1, q2, q3, q4, q5, r1, r2, r3, r4, j1, j2, cdD, ho, hcd, hal, hcode, hvs, hfile, hcell, hD, pl, hpl⟩ := T.fn
  have X : K.In s.heap := M.kin.keeps kb
  refine ks_codeAny_call_defAt (args := ⟨[.ref x, .int i tk], []⟩) (binds := [("self", .ref x), ("at", .int i tk)]) hroom (X _ _ ho) rfl (M.nolimit.keeps kb) (codeRec_of X hcd) rfl (BindsTo.of_eq (by first | rfl | with_unfolding_all rfl)) (show ∀ y ∈ inS.names, y.2 ≠ .cell by decide) (fun y hy => ?_) fun h₀ hns hk => ?_
  · rcases List.mem_cons.mp hy with rfl | hy
    · rfl
    · rcases List.mem_cons.mp hy with rfl | hy
      · rfl
      · cases hy
  have kG : ∀ b o, b ≠ x → s.heap.get? b = some o → (hideAll s.heap [x]).get? b = some o := fun b o ne e => hideAll_get [x] e (by simpa using ne)
  have bx : ∀ b o, base.get? b = some o → b ≠ x := fun b o e z => by rw [z, hbx] at e; cases e
  have XG : K.In (hideAll s.heap [x]) := M.kin.keeps fun b o e => kG b o (bx b o e) (kb b o e)
  have F0 : Fr (hideAll s.heap [x]) s.heap.objs.size h₀ _ := ⟨hns, fun b o e => hk b o (of_hideAll _ e), Nat.le_of_eq (hideAll_size _ _)⟩
  have N0 : News (hideAll s.heap [x]) s.heap.objs.size h₀ [(x, excObj C t0 none .none)] := fun p hp => by
    have e : p = (x, excObj C t0 none .none) := by simpa using hp
    subst e
    exact ⟨hk _ _ hx, Nat.ne_of_lt (Heap.lt_size hx), hideAll_none [x] (by simp)⟩
  have hL : s.heap.objs.size < h₀.objs.size := hns.lt
  refine ks_wpAt_execs_cons (ks_wpAt_Expr_any (ks_wpAt_MethodCall (pl := pl) (sup M F0 (fun b o e => hk b o (kb b o e)) N0 ho rfl (by first | rfl | kernel_rfl) (InstAt.of_exc0 (t := t0) (c2 := .none) N0 (List.mem_singleton.mpr rfl)) hcode hvs hfile hcell hD T.hs T.gS (by decide) rfl rfl rfl rfl T.top fun h1 F1 N1 kb1 l1 => ?_) (hpl _)))
  refine kxs_method kxs_Exception F1 XG N1 (List.mem_cons_self) (InstAt.of_exc0 (t := t0) (c2 := .none) N1 (by simp)) T.op T.su T.hB (by decide) fun u h2 F2 N2 l2 => ?_
  refine kxs_callWith1 N2 List.mem_cons_self ?_ rfl rfl
  have ev : ∀ (c1 c2 c3 : Expr) (env : Env), evalEach [c1, c2, c3] env = [eval c1 env, eval c2 env, eval c3 env] := fun _ _ _ _ => by first | rfl | simp [evalEach]
  refine Calls.spliced_cons (wpAny_JoinedStr (pos := q5) ?_)
  rw [ev]
  have z0 : (Str.empty ++ a1).length ≤ 1000 := by rw [app_len]; exact (by simpa [Str.length, Str.empty] using hal.1)
  have z1 : (Str.empty ++ a1 ++ Str.ofString (toString i)).length ≤ 2000 := by rw [app_len]; have := (int_short hi).2; omega
  have z2 : (Str.empty ++ a1 ++ Str.ofString (toString i) ++ a2).length ≤ 3000 := by rw [app_len]; have := hal.2; omega
  refine Calls.Constant_str ⟨a1, _, rfl, by rw [sizeLine_eq]; omega, ?_⟩
  refine wpAny_FormattedValue_plain (PySem.ESX.ldL F2.ns (v := .int i tk) (by first | rfl | kernel_rfl) (wpAny_formatField_int (int_short hi).1 ⟨_, _, rfl, by rw [sizeLine_eq]; omega, ?_⟩))
  refine Calls.Constant_str ⟨a2, _, rfl, by rw [sizeLine_eq]; omega, by rw [sizeLine_eq]; omega, ?_⟩
  refine Calls.spliced_nil ⟨kxs_at N2 List.mem_cons_self, ?_⟩
  have nu : u ≠ x := fun z => absurd (l2 (x, excObj C t0 none .none) (by simp)) (by rw [z]; exact Nat.lt_irrefl _)
  have no : h₀.objs.size ≠ x := fun z => absurd (l1 (x, excObj C t0 none .none) (by simp)) (by show ¬ x < h₀.objs.size; rw [z]; exact Nat.lt_irrefl _)
  refine kxs_call F2 XG N2 PySem.F.excBase_Exception T.i1 List.mem_cons_self (.tail nu (.tail no (.head fun p hp => by cases hp))) (by show 1 ≤ sizeLine; rw [sizeLine_eq]; omega) fun t1 h3 F3 N3 l3 => ?_
  refine wpAt_of_wpAny (wpAny_execs_cons (plainObj_wpAny_Assign_Attribute (PySem.ESX.ldL F3.ns (v := .int i tk) (by first | rfl | kernel_rfl) (PySem.ESX.ldL F3.ns (v := .ref x) (by first | rfl | kernel_rfl) ?_))))
  have hh : hasDictIn K C = true := (L2.xfB_ok T.xf).hdC
  have nt : t1 ≠ x := fun z => absurd (l3 (x, excObj C t0 none .none) (by simp)) (by rw [z]; exact Nat.lt_irrefl _)
  refine set_exc0 PySem.F.store_Exception F3 XG N3 (by simp) T.sa T.ov T.tk hh rfl (.tail nt (.tail nu (.tail no (.head fun p hp => by cases hp)))) (by show 1 ≤ 1000; decide) fun dx h4 F4 N4 l4 => ?_
  have ld := l4 (h₀.objs.size, ks_superObj C x C) (by simp)
  have ld : h₀.objs.size < dx := ld
  refine wpAny_execs_nil (hq h4 _ dx t1 _ _ (fun b o ne e => F4.keep b o (kG b o ne e)) (by omega) (fun z => absurd (l4 (x, excObj C t1 none .none) (by simp)) (by rw [z]; exact Nat.lt_irrefl _)) (N4 (x, excObj C t1 (some dx) .none) (by simp)).1 (N4 _ List.mem_cons_self).1)
end
end Bv
end

section
set_option Elab.async false
set_option linter.all false
set_option maxRecDepth 100000
set_option maxHeartbeats 4000000
namespace Bv
open PySem PySem.W PySem.Calls PyProof.Rows
section
variable {prog : Program} {w : World} {A : Around} {E : Value → Shared → Prop} {R : Result → Shared → Prop} {s : Shared} {K : Frag} {mg : Str → Option Value} {C fI : Addr} {base : Heap}
/-- a made one -/
structure Made (w : World) (h h' : Heap) (e C d : Addr) (i : Int) (tk : Tok) : Prop where
  keep : ∀ b o, h.get? b = some o → h'.get? b = some o
  new : h.objs.size ≤ e
  obj : ∃ oe vs, h'.get? e = some oe ∧ oe.cls = .ref C ∧ oe.dict = some d ∧ oe.data = .fields vs ∧ vs[1]? = some .none
  big : h.objs.size ≤ d
  ne : d ≠ e
  at_ : ∃ k n, h'.get? d = some (dictOf [⟨PyData.keyHash w.params "at", .str "at" k, .int i tk⟩] n)
theorem made (T : Txt prog K mg C fI) (M : L2.Mod K mg base) (kb : ∀ b o, base.get? b = some o → s.heap.get? b = some o) (hbs : base.objs.size ≤ s.heap.objs.size) {i : Int} {tk : Tok} (hroom : A.depth + 1 < recursionLimit) (hi : 0 ≤ i ∧ i < 1000)
    (hq : ∀ h' tk' e d, Made w s.heap h' e C d i tk → R (.ok (.ret (.ref e))) { s with heap := h', toks := tk' }) : codeAny (model prog w) A (.call (.ref C) ⟨[.int i tk], []⟩) R s := by
  have X : K.In s.heap := M.kin.keeps kb
  obtain ⟨nm, N, qn, bs, bm, hdct, sn, sub, ab, col, dd, k0, k1, k2, k3, k5, hC, hT⟩ := excInit_of X T.i1
  obtain ⟨hp, g, dr, tk0, os⟩ := s
  have k : ∀ b o, hp.get? b = some o → ((hp.push (kdv_tup [.int i tk])).push (HandSPX.excO C hp.objs.size)).get? b = some o := fun b o e => Heap.get?_push_of_some _ (Heap.get?_push_of_some _ e)
  have hget : ((hp.push (kdv_tup [.int i tk])).push (HandSPX.excO C hp.objs.size)).get? (hp.objs.size + 1) = some (HandSPX.excO C hp.objs.size) := by heap_get
  have hbx : base.get? (hp.objs.size + 1) = none := by
    cases e : base.get? (hp.objs.size + 1) with
    | none => rfl
    | some o =>
      exact absurd (Nat.lt_of_lt_of_le (Nat.lt_of_succ_lt (Heap.lt_size e)) hbs) (Nat.lt_irrefl _)
  refine HandSPX.call_own PySem.F.excBase_Exception hT hC (looks_findIn X T.iC) (fun self => bind_fn X self T.tC) (by show 1 ≤ sizeLine; rw [sizeLine_eq]; omega) ?_
  refine ini_ok (s := ⟨(hp.push (kdv_tup [.int i tk])).push (HandSPX.excO C hp.objs.size), g, dr, tk0, os⟩) T M (fun b o e => k b o (kb b o e)) hbx hget ?_ hi fun h' tk' dx t1 kk n k' dn dne hx hd => ?_
  · show A.depth + 1 < recursionLimit
    exact hroom
  · have old : ∀ b o, hp.get? b = some o → h'.get? b = some o := fun b o e => k' b o (Nat.ne_of_lt (Nat.lt_succ_of_lt (Heap.lt_size e))) (k b o e)
    have z : hp.objs.size + 1 + 1 ≤ dx := by
      have q : ((hp.push (kdv_tup [.int i tk])).push (HandSPX.excO C hp.objs.size)).objs.size ≤ dx := dn
      rw [Heap.size_push, Heap.size_push] at q; exact q
    exact ⟨rfl, hq h' tk' (hp.objs.size + 1) dx ⟨old, Nat.le_succ _, ⟨_, _, hx, rfl, rfl, rfl, rfl⟩, Nat.le_trans (Nat.le_trans (Nat.le_succ _) (Nat.le_succ _)) z, dne, ⟨kk, n, hd⟩⟩⟩
end
end Bv
namespace L2
open PySem PySem.Spec PyProof.Rows
theorem relO_at {i : Int} {tk : Tok} (f : Str) : RelO (List.lookup f [(("at" : Str), V.int i)]) (if f = "at" then some (Value.int i tk) else none) := by
  by_cases hw : f = "at"
  · subst hw
    rw [if_pos rfl]
    have q : List.lookup ("at" : Str) [(("at" : Str), V.int i)] = some (V.int i) := by simp [List.lookup]
    rw [q]
    exact ⟨tk, rfl⟩
  · rw [if_neg hw]
    have qw : (f == ("at" : Str)) = false := by simpa using hw
    have q2 : List.lookup f [(("at" : Str), V.int i)] = none := by simp [List.lookup, qw]
    rw [q2]
    trivial
theorem ns1_one {h : Heap} {d : Addr} {hs : Int} {k : Tok} {v : Value} {n : Nat} (e : h.get? d = some (PySem.W.dictOf [⟨hs, .str "at" k, v⟩] n)) : h.Ns1 d (fun y => if y = "at" then some v else none) := by
  refine ⟨_, _, _, e, rfl, fun x hx => ?_, ?_, fun y => ?_⟩
  · have : x = ⟨hs, .str "at" k, v⟩ := by simpa using hx
    subst this
    exact ⟨_, _, rfl⟩
  · unfold UniqKeys
    simp
  · by_cases hy : y = "at"
    · subst hy
      show _ = if ("at" : Str) = "at" then some v else none
      rw [if_pos rfl]
      simp [nsFind, findBy, Value.isStr]
    · show _ = if y = "at" then some v else none
      rw [if_neg hy]
      have : (("at" : Str) == y) = false := by simpa using fun z => hy z.symm
      simp [nsFind, findBy, Value.isStr, this]
section
variable {X : Cx} {I : XI} {W : WX} {C fI : Addr}
def tMkBv (C : Addr) (ta : TA) : St → Hp → XK → Prop := fun σ H Q => ta σ H fun vs H1 => ∃ i : Int, vs = [.int i] ∧ (0 ≤ i ∧ i < 1000) ∧ ∀ d, H1 d = none → Q (.ref C) (some d) (upd H1 d (.xd [(("at" : Str), .int i)]))
theorem pmk_bv {a : Expr} {ta : TA} {p pos : Pos} {k : Nat} (T : Bv.Txt X.prog X.K X.mg C fI) (hr : Room k X.A) (ha : PA X [a] ta) (hg : Gl X "BadValue" := by rfl)
    (he : starEach (a :: []) X.env = (false, eval a X.env) :: starEach [] X.env := by rfl) (hpl : (backTo pos (starEach [] X.env)).any (·.1) = false := by rfl) :
    PMk X (.Call (.Name "BadValue" p) [a] [] pos) (tMkBv C ta) := by
  intro pins s σ H Q I h
  refine wpAny_Call_Name_kw (ld_glob I hg T.gC ?_)
  refine PySem.W.callWith_K (h₀ := X.base) I.ok.mod.kin T.kC (thn (ha.run pos pins s σ H _ I h) fun us s1 hh => ?_) he hpl
  obtain ⟨vs, H1, I1, r1, i, ev, hi, q1⟩ := hh
  subst ev
  refine ⟨I1.kIn, ?_⟩
  cases r1 with
  | cons rv rn =>
    rename_i v' us'
    cases rn
    obtain ⟨tk, rfl⟩ := (show ∃ t, v' = Value.int i t from rv)
    show wpAny _ _ (call (.ref C) [Value.int i tk]) _ _ _
    have hbs : X.base.objs.size ≤ s1.heap.objs.size := by
      obtain ⟨m, hn, _⟩ := I1.loc
      exact Nat.le_trans I1.ok.bsz (Nat.le_trans I1.ok.above (Nat.le_of_lt hn.lt))
    have kb := I1.bk
    obtain ⟨hp, g, dr, tk0, os⟩ := s1
    refine wpAny_call (Bv.made T I1.mod kb hbs (by have := hr.dp; omega) hi fun h' tk' e d M => ?_)
    show MkP X pins σ Q (.ref e) ⟨h', g, dr, tk', os⟩
    obtain ⟨oe, fv, hoe, hc, hd, hdat, h1⟩ := M.obj
    obtain ⟨kk, n, hat⟩ := M.at_
    have hns := ns1_one hat
    obtain ⟨G', g1, g2⟩ := restrict h' fun b => decide (b ≠ e)
    have gk : ∀ b, b ≠ e → G'.get? b = h'.get? b := fun b hb => g1 b (decide_eq_true hb)
    have ge : G'.get? e = none := g2 e (by simp)
    have old : ∀ b o, hp.get? b = some o → G'.get? b = some o := fun b o q => (gk b (Nat.ne_of_lt (Nat.lt_of_lt_of_le (Heap.lt_size q) M.new))).trans (M.keep b o q)
    have ob : ObjOk X.prog X.w (upd H1 d (.xd [(("at" : Str), .int i)])) G' d (.xd [(("at" : Str), .int i)]) :=
      ⟨_, hns.at (fun o q => (gk d M.ne).trans q), fun f => relO_at f⟩
    have J : Inv X pins σ (upd H1 d (.xd [(("at" : Str), .int i)])) ⟨G', g, dr, tk', os⟩ := I1.laid (t' := tk') old M.big ob
    refine ⟨e, oe, fv, ⟨G', g, dr, tk', os⟩, _, .ref C, some d, rfl, J, fun b o q => ?_, ge, hoe, ⟨hc, hd⟩, hdat, h1, ?_, rfl, I1.bare, raises_own (xfB_ok T.xf).exC T.ty, q1 d (I1.hok.fresh M.big)⟩
    · by_cases hb : b = e
      · have q' : G'.get? b = some o := q
        rw [hb, ge] at q'; cases q'
      · exact (gk b hb).symm.trans q
    · rw [upd_ne (Ne.symm M.ne)]
      exact I1.hok.fresh M.new

theorem s_raiseV {a : Expr} {f : Sls → Rv Da} {CT CX : Addr} {p pos pos2 : Pos} {k : Nat} (hc : X.calm = true) (T : Bv.Txt X.prog X.K X.mg C fI) (hr : Room k X.A) (tk : Takes X W) (ha : PE X a (tEv X.K (xiOf C CT CX) W f)) (hg : Gl X "BadValue" := by rfl)
    (he : starEach (a :: []) X.env = (false, eval a X.env) :: starEach [] X.env := by rfl) (hpl : (backTo pos (starEach [] X.env)).any (·.1) = false := by rfl) :
    PS X (.Raise (some (.Call (.Name "BadValue" p) [a] [] pos)) none pos2) (tS X.K (xiOf C CT CX) W (sRaiseV 0 f)) :=
  ps_weak (ps_raise hc tk (pmk_bv T hr (pa_cons ha pa_nil he) hg he hpl)) fun D σ H ⟨O₀, H₀, Fs, ρ, r, po⟩ => ⟨O₀, H₀, Fs, ρ, r, SPo.thn r po fun d _ po v H1 ⟨s1, b1⟩ => by
    cases d with
    | int i =>
      cases b1
      simp only at po
      split at po
      · rename_i hi
        refine ⟨i, rfl, hi, fun xd hx => ?_⟩
        have s2 : Same H (upd H1 xd (.xd [(("at" : Str), .int i)])) := s1.trans (same_new hx)
        exact po _ _ σ _ Fs (r.mono s2) (hid_same s2) ⟨xd, i, rfl, rfl, rfl, upd_same⟩
      · exact po.elim
    | _ => exact po.elim⟩
/-- a class without own __init__, made with a text -/
structure X0Txt (K : PySem.W.Frag) (mg : Str → Option Value) (x : Str) (C : Addr) : Prop where
  gC : mg x = some (.ref C)
  ex : PySem.W.excIn K C Bv.excL "Exception.__new__" = true
  kC : PySem.W.keepIn K (.ref C) = true
  exC : PySem.W.subIn K (.ref C) (.type "BaseException") = some true
  ty : PySem.W.typeIn K (.ref C) = some (.type "type")
  te : PySem.W.exmOne K (.ref C) (.ref C) = some true
theorem s_raise0 {x m : Str} {j : Nat} {CB CX : Addr} {p p2 pos pos2 : Pos} (hc : X.calm = true) (T : X0Txt X.K X.mg x C) (tk : Takes X W) (hg : Gl X x := by rfl) (hdb : (x == ("__debug__" : Str)) = false := by decide) :
    PS X (.Raise (some (.Call (.Name x p) [.Constant (.str m) j p2] [] pos)) none pos2) (tS X.K (xiOf CB C CX) W (sRaise0 1)) :=
  ps_weak (ps_raise hc tk (pmk_own PySem.F.excBase_Exception T.ex T.gC T.kC (raises_own T.exC T.ty) hg hdb)) fun D σ H ⟨O₀, H₀, Fs, ρ, r, po⟩ => po (.ref C) none σ H Fs r (Same.refl _) ⟨rfl, rfl, rfl⟩
theorem s_tryAt {i : Nat} {k2 : Int} {u : SS} {n : Str} {body : List Stmt} {CT CX : Addr} {np pos pos' p1 p2 p3 p4 p5 : Pos} {j : Nat} (T : Bv.Txt X.prog X.K X.mg C fI) (tk : Takes X W) (hN : X.N.Nodup)
    (hb : ∀ (W' : WX) (pn : List (Addr × Obj)) (xe : Value → Shared → Prop), Takes (X.tr pn xe) W' → PassesOwn (model X.prog X.w) X.A X.env xe → PSs (X.tr pn xe) body (tS X.K (xiOf C CT CX) W' u))
    (hs : X.stack = X.env :: X.outer := by rfl) (hf : X.env.frame = some X.env.locals := by rfl) (hi : X.N[i]? = some n := by rfl) (hln : X.env.kindOf n = some .local := by rfl) (hgl : Gl X "BadValue" := by rfl)
    (hv : Vis X.env.scope n := by first | exact Or.inl rfl | exact Or.inr (Or.inl rfl) | exact Or.inr (Or.inr rfl)) (hd : (n == ("__debug__" : Str)) = false := by decide) (hcd : (n == ("__classdict__" : Str)) = false := by decide)
    (hab : attributeBase (.Name n p1) "at" X.env (eval (.Name n p1) X.env) = eval (.Name n p1) X.env := by rfl) :
    PS X (.Try body [.ExceptHandler (some (.Name "BadValue" np)) (some n) [.Return (some (.Compare (.Attribute (.Name n p1) "at" p2) [.Eq] [.Constant (.int k2) j p3] p4)) p5] pos'] [] [] pos) (tS X.K (xiOf C CT CX) W (sTryAt i u k2)) :=
  ps_weak (ps_try_as (i := i) (tb := fun W' => tS X.K (xiOf C CT CX) W' u) (ts := fun a cls d => tRet (tOp rEq (tXf a cls d C "at" (tVar i)) (tC (.int k2)))) (Wout := W) hs hf hN hi hln ⟨hgl, by decide, Or.inl T.gC⟩ tk hb
    (fun a oe cls d pn hz hf => pss_one (ps_ret (pe_cmpR op_eq (pe_xf (xfB_ok T.xf) T.no hz hf (pe_var hi hv hd hcd) hab) pe_int rfl)))) fun D σ H ⟨O₀, H₀, Fs, ρ, r, po⟩ => ⟨O₀, H₀, Fs, ρ, r, by
    unfold sTryAt at po
    cases q : u ρ with
    | nx ρ' => rw [q] at po; exact po
    | rt d => rw [q] at po; exact po
    | bk ρ' => rw [q] at po; exact po
    | ct ρ' => rw [q] at po; exact po
    | bad => rw [q] at po; exact po
    | exc c d ρ' =>
      rw [q] at po
      cases c with
      | succ c => cases d <;> exact po.elim
      | zero =>
        cases d with
        | int k =>
          simp only at po
          split at po
          · rename_i hl
            intro cls dx σ' H' Fs' r' s' I0
            obtain ⟨xd, i0, e1, rfl, rfl, hx⟩ := I0
            cases e1
            refine ⟨true, T.te, fun _ a na => ?_, fun z => Bool.noConfusion z⟩
            have hl2 : i < σ'.length := by rw [r'.sl.lens.1]; exact hl
            refine ⟨.ref a, List.getElem?_set_self hl2, rfl, rfl, xd, [(("at" : Str), .int k)], .int k, rfl, hx, by simp [List.lookup], rfl, ?_⟩
            have e2 : decide (V.int k = V.int k2) = (k == k2) := dec_int
            rw [e2]
            exact po (.bl (k == k2)) H' r'.same (.bl _)
          · exact po.elim
        | _ => exact po.elim⟩
end
end L2
end

section
set_option Elab.async false
set_option linter.all false
set_option maxRecDepth 100000
set_option maxHeartbeats 4000000
/-! set comprehensions over any kind of members -/
namespace L2
open PySem PySem.Spec PyProof.Rows
abbrev newSetO (w : World) : Obj := { cls := .type "set", dict := none, data := .set #[] 0 (.fresh 0 0 (!w.params.followText "set-order")) }
/-- a kind of sets: the set at D that was made by adding l -/
structure SKit (SO : Program → World → Addr → List Da → HO) (good : List Da → Prop) : Prop where
  new : ∀ (P : Program) (w : World) (H : Hp) (h : Heap), ObjOk P w H (h.push (newSetO w)) h.objs.size (SO P w h.objs.size [])
  add : ∀ {X : Cx} {pins : List (Addr × Obj)} {σ : St} {H Hs : Hp} {s : Shared} {E : Value → Shared → Prop} {D : Addr} {l : List Da} {d : Da} {v : V} {u : Value} {Q : Value → Shared → Prop}, Inv X pins σ H s → H D = some (SO X.prog X.w D l) → Same Hs H → Dq X.K Hs v d → RelV v u → good (l ++ [d]) →
    (∀ s', Inv X pins σ (upd H D (SO X.prog X.w D (l ++ [d]))) s' → Q .none s') → wpAny (model X.prog X.w) X.A (call (.builtin "set.add") [.ref D, u]) Q E s
  pre : ∀ l m, good (l ++ m) → good l
section
variable {X : Cx} {I : XI} {W : WX} {it : Sls → Rv (List Da)} {set : Da → Sls → Option Sls} {tt : Sls → Rv Bool} {el : Sls → Rv Da} {gt : TG} {SO : Program → World → Addr → List Da → HO} {good : List Da → Prop}
/-- a set, new at D -/
def rSt (SO : Program → World → Addr → List Da → HO) (P : Program) (w : World) (K : PySem.W.Frag) (O : Addr → Prop) (H H' : Hp) (v : V) (l : List Da) : Prop := ∃ (Hb : Hp) (D : Addr), Same H Hb ∧ Hb D = none ∧ H' = upd Hb D (SO P w D l) ∧ v = .ref D
def xSet (good : List Da → Prop) [DecidablePred good] (vs : List Nat) (it : Sls → Rv (List Da)) (set : Da → Sls → Option Sls) (tt : Sls → Rv Bool) (el : Sls → Rv Da) : Sls → Rv (List Da) := fun ρ => (it ρ).bind fun ds => (compL set tt el (wipeR ρ vs) ds).bind fun l => if good l then .ok l else .bad
def tSt (SO : Program → World → Addr → List Da → HO) (P : Program) (w : World) (K : PySem.W.Frag) (I : XI) (W : WX) (f : Sls → Rv (List Da)) : TE := fun σ H Q => ∃ O₀ H₀ Fs ρ, RS K O₀ H₀ Fs H σ ρ ∧ Post I W σ H (fun H' v l => rSt SO P w K (Ow O₀ Fs) H H' v l) (f ρ) Q
theorem set_walk (kit : SKit SO good) [DecidablePred good] {pins : List (Addr × Obj)} {s : Shared} {σ : St} {H : Hp} {Q : VK} {elt tg iter : Expr} {ifs : List Expr} {scope : Scope} {own : List (Str × Nat)} {pos pos' : Pos} {is : List Nat} {use : Option (Value → Sem Unit)} {Qf : Value → Shared → Prop}
    (calm : X.calm = true) (nd : X.N.Nodup) (J0 : Inv X pins σ H s) (hi : PI X tg iter (tItC X.K I W it)) (okB : BlkOk X.N X.env.scope scope own) (ok : TgOk X.K is gt set) (hiv : ∀ i ∈ is, i ∈ own.map (·.2))
    (hg : ∀ (s : Shared) (H : Hp) (C : Addr) (cl : List (Str × Addr)) (fp : List Addr), PG (X.blk s H scope (compEnvC scope cl C X.env) fp) tg gt) (ht : ∀ (s : Shared) (H : Hp) (C : Addr) (cl : List (Str × Addr)) (fp : List Addr), PTs (X.blk s H scope (compEnvC scope cl C X.env) fp) ifs (tT X.K I W0 tt))
    (he : ∀ (s : Shared) (H : Hp) (C : Addr) (cl : List (Str × Addr)) (fp : List Addr), PE (X.blk s H scope (compEnvC scope cl C X.env) fp) elt (tEv X.K I W0 el)) (hs : ∀ x, foldedSetIterable iter X.env x = pure x)
    (h : tSt SO X.prog X.w X.K I W (xSet good (own.map (·.2)) it set tt el) σ H Q)
    (out : ∀ D C s' m H', Inv X pins σ H' s' → Q (.ref D) H' → s'.heap.Ns C m → FpOk X pins H' C → compPost (model X.prog X.w) X.A X.xe use Qf (.ref D) C (.ok .next) s') :
    wpAny (model X.prog X.w) X.A (comprehension (.SetComp elt [⟨tg, iter, ifs, 0⟩] scope pos) scope X.env pos' (newSet (.type "set")) false (eval iter X.env) use) Qf X.xe s := by
  obtain ⟨O₀, H₀, Fs, ρ, r, po⟩ := h
  have cells : ∀ y ∈ scope.names, y.2 = .free → ∃ c, X.env.cells.lookup y.1 = some c := fun y hy e => (okB.free y hy e).elim (fun k => J0.ok.has _ (.inl k)) fun k => J0.ok.has _ (.inr k)
  have src : tItC X.K I W it σ H fun J H1 => ∃ ds, it ρ = .ok ds ∧ Same H H1 ∧ Yl X.K H1 (hid (Ow O₀ Fs) H1) J ds ∧ Post I W σ H (fun H' v l => rSt SO X.prog X.w X.K (Ow O₀ Fs) H H' v l) ((compL set tt el (wipeR ρ (own.map (·.2))) ds).bind fun l => if good l then .ok l else .bad) Q :=
    ⟨O₀, H₀, Fs, ρ, r, po.first fun ds e po J H1 ⟨s1, y⟩ => ⟨ds, e, s1, y, po⟩⟩
  refine wpAny_comprehension_free (use := use) rfl hs (closure_ok cells) okB.kind (fun y hy e => by rw [okB.uniq y hy, e]) (thn (hi.run pins s σ H _ J0 src) fun xv s1 hx => thn hx fun itv s2 h2 => ?_)
  obtain ⟨itA, fp, tn, J, H1, e, J2, T, st2, f2, ds, hds, sH1, y, po⟩ := h2
  subst e
  -- what the turns give
  have r1 := r.mono sH1
  obtain ⟨O₁, Gs, rwp, o1, n1⟩ := r1.wipe (own.map (·.2))
  have eO : Ow O₁ Gs = Ow O₀ Fs := funext fun a => propext (o1 a)
  cases hall : compL set tt el (wipeR ρ (own.map (·.2))) ds with
  | exc c d => exact absurd hall (compL_noexc _ _ _ _ _ c d)
  | bad => rw [hall] at po; exact po.elim
  | ok all =>
    rw [hall] at po
    by_cases hgd : good all
    · have po : ∀ v H', rSt SO X.prog X.w X.K (Ow O₀ Fs) H H' v all → Q v H' := by
        have z : Post I W σ H (fun H' v l => rSt SO X.prog X.w X.K (Ow O₀ Fs) H H' v l) (if good all then .ok all else .bad) Q := po
        rw [if_pos hgd] at z
        exact z
      refine PpSet.newSet_ok (newEnv_comp ?_)
      generalize eD : s2.heap.objs.size = D
      have nD : H1 D = none := J2.hok.fresh (Nat.le_of_eq eD)
      generalize e3 : ({ s2 with heap := s2.heap.push (newSetO X.w) } : Shared) = s3
      have h3 : s3.heap = s2.heap.push (newSetO X.w) := by rw [← e3]
      have J3 : Inv X pins σ (upd H1 D (SO X.prog X.w D [])) s3 := by
        rw [← e3]
        refine J2.laid (t' := s2.toks) (fun b o e => Heap.get?_push_of_some _ e) (Nat.le_of_eq eD) ?_
        rw [← eD]
        exact kit.new _ _ _ _
      have sz : ∀ b ∈ fp, b < s2.heap.objs.size := fun b hb => let ⟨o, e, _⟩ := T.obj _ _ st2 b hb; Heap.lt_size e
      have f3 : ∀ b ∈ fp, FpOk X pins (upd H1 D (SO X.prog X.w D [])) b ∧ b < s3.heap.objs.size := fun b hb =>
        ⟨⟨by rw [upd_ne (by rw [← eD]; exact Nat.ne_of_lt (sz b hb))]; exact (f2 b hb).1, (f2 b hb).2⟩, by rw [h3, Heap.size_push]; exact Nat.lt_succ_of_lt (sz b hb)⟩
      have J4 := block_start J3 okB nd f3
      have pg := hg s3 (upd H1 D (SO X.prog X.w D [])) s3.heap.objs.size (cellsFrom (s3.heap.objs.size + 1) scope.names (cloFrom X.env.cells scope.names [])) fp
      have pt := ht s3 (upd H1 D (SO X.prog X.w D [])) s3.heap.objs.size (cellsFrom (s3.heap.objs.size + 1) scope.names (cloFrom X.env.cells scope.names [])) fp
      have pe := he s3 (upd H1 D (SO X.prog X.w D [])) s3.heap.objs.size (cellsFrom (s3.heap.objs.size + 1) scope.names (cloFrom X.env.cells scope.names [])) fp
      show codeAny _ _ (.compStart (.SetComp elt [⟨tg, iter, ifs, 0⟩] scope pos) 0 (.ref itA) (.ref D) (compEnvC scope (cellsFrom (s3.heap.objs.size + 1) scope.names (cloFrom X.env.cells scope.names [])) s3.heap.objs.size X.env)) (compPost (model X.prog X.w) X.A X.xe use Qf (.ref D) s3.heap.objs.size) { s3 with heap := pushCells (s3.heap.push { cls := .type "dict", data := .dict #[] }) scope.names }
      have nfp : ∀ b ∈ fp, (upd H1 D (SO X.prog X.w D [])) b = none := fun b hb => (f3 b hb).1.1
      generalize hce : compEnvC scope (cellsFrom (s3.heap.objs.size + 1) scope.names (cloFrom X.env.cells scope.names [])) s3.heap.objs.size X.env = ce at J4 pg pt pe ⊢
      have cL : ce.locals = s3.heap.objs.size := by subst hce; rfl
      have eH3 : (upd H1 D (SO X.prog X.w D [])) D = some (SO X.prog X.w D []) := upd_same
      have sH3 : Same H1 (upd H1 D (SO X.prog X.w D [])) := same_new nD
      generalize upd H1 D (SO X.prog X.w D []) = H3 at J3 J4 pg pt pe nfp f3 eH3 sH3
      generalize e4 : ({ s3 with heap := pushCells (s3.heap.push { cls := .type "dict", data := .dict #[] }) scope.names } : Shared) = s4 at J4 ⊢
      have st4 : tn 0 s4.heap := T.keep _ _ _ st2 fun b _ o e => by
        rw [← e4]
        exact pushCells_keeps _ _ _ _ (Heap.get?_push_of_some _ (by rw [h3]; exact Heap.get?_push_of_some _ e))
      have stat : ∀ {σ' : St} {H' : Hp} {s' : Shared}, Inv (X.blk s3 H3 scope ce fp) [] σ' H' s' → (∀ b ∈ fp, H' b = none) → ∀ b ∈ fp, FpOk (X.blk s3 H3 scope ce fp) [] H' b := fun {σ' H' s'} J' hn b hb =>
        ⟨hn b hb, (J'.ok.exf b hb).1, J'.ok.exfs b hb, .inl hb, fun x c e => (J'.ok.exf b hb).2 x c e, fun p hp => by cases hp⟩
      have ow : ∀ a, Ow (fun a => O₁ a ∨ a = D) Gs a ↔ (Ow O₀ Fs a ∨ a = D) := fun a => by
        rw [← eO]
        constructor
        · rintro ((z | z) | z)
          · exact .inl (.inl z)
          · exact .inr z
          · exact .inl (.inr z)
        · rintro ((z | z) | z)
          · exact .inl (.inl z)
          · exact .inr z
          · exact .inl (.inr z)
      have turns : codeAny (model X.prog X.w) X.A (.compLoop (.SetComp elt [⟨tg, iter, ifs, 0⟩] scope pos) 0 (.ref itA) (.ref D) ce) (compPost (model X.prog X.w) X.A X.xe use Qf (.ref D) s3.heap.objs.size) s4 := by
        refine PpSet.compLoopS_any (fun n s' => ∃ i H', n = ds.length - i ∧ i ≤ ds.length ∧ Inv (X.blk s3 H3 scope ce fp) [] (wipe σ (own.map (·.2))) H' s' ∧ tn i s'.heap ∧ (∀ b ∈ fp, H' b = none) ∧ Same H1 H' ∧
          ∃ l ys, H' D = some (SO X.prog X.w D l) ∧ compL set tt el (wipeR ρ (own.map (·.2))) (ds.drop i) = .ok ys ∧ l ++ ys = all) ?_ ds.length ⟨0, H3, rfl, Nat.zero_le _, J4, st4, nfp, sH3, [], all, eH3, hall, rfl⟩
        rintro n s5 ⟨i, H5, rfl, hle5, J5, st5, n5, sH5, l, ys, hD5, hys, hl⟩
        by_cases hlt : i < ds.length
        · have ti := T.item (X.blk s3 H3 scope ce fp) rfl rfl rfl calm i [] s5 _ H5 (fun _ _ => False) J5 (stat J5 n5) st5 (y.go i H5 sH5 hlt)
          refine thnF ti fun rr s6 ⟨u, hr, h6⟩ => ?_
          subst hr
          refine thnF h6 fun _ s7 ⟨x, H7, J7, r7, y7, st7, n7⟩ => ?_
          obtain ⟨s57, q57⟩ := y.yld i H5 x H7 sH5 y7 ds[i] (List.getElem?_eq_getElem hlt)
          obtain ⟨rb, sb⟩ := rwp.under (H := H5) sH5 nD (by rw [hD5]; simp)
          have q3 := q57 (Ow (fun a => O₁ a ∨ a = D) Gs) (Ow.there rb) (by rw [← eO]; exact sb)
          rw [List.drop_eq_getElem_cons hlt] at hys
          simp only [compL] at hys
          cases hz : set ds[i] (wipeR ρ (own.map (·.2))) with
          | none => rw [hz] at hys; cases hys
          | some ρ2 =>
            rw [hz] at hys
            simp only at hys
            obtain ⟨bt, hbt, hys⟩ := nox_ok hys
            have J7' := J7.pinned (stat J7 n7) (T.obj _ _ st7)
            have step : gt x (wipe σ (own.map (·.2))) H7 fun σ8 H8 => wipe σ8 (own.map (·.2)) = wipe σ (own.map (·.2)) ∧ H8 = H7 ∧ RS X.K (fun a => O₁ a ∨ a = D) (fun _ => none) Gs H7 σ8 ρ2 := by
              refine ok.run (rb.mono s57) q3 hz fun σ3 Gs3 r3 s3 l3 k3 g3 => ⟨?_, rfl, ?_⟩
              · rw [← wipe_wipe σ (own.map (·.2))]
                exact wipe_eq l3 fun j hj => k3 j fun z => hj (hiv j z)
              · have eG : Gs3 = Gs := g3 fun j hj => n1 j (hiv j hj)
                rw [← eG]; exact r3
            refine thnF (pg.run _ s7 _ H7 x u _ J7' r7 step) fun _ s8 ⟨σ8, H8, J8, hw8, eH8, r8⟩ => ?_
            subst eH8
            have test : tT X.K I W0 tt σ8 H8 fun b H9 => b = bt ∧ Same H8 H9 := ⟨_, _, _, ρ2, r8, by rw [hbt]; rintro b H9 ⟨a, c⟩; exact ⟨c, a⟩⟩
            refine thnF (pt.run _ s8 σ8 H8 _ J8 test) fun b s9 ⟨H9, J9, eb, s89⟩ => ?_
            subst eb
            have fin : ∀ {s' : Shared} {H' : Hp}, Inv (X.blk s3 H3 scope ce fp) ([] ++ pinsAt fp s7.heap) σ8 H' s' → Same H1 H' → (∃ l ys, H' D = some (SO X.prog X.w D l) ∧ compL set tt el (wipeR ρ (own.map (·.2))) (ds.drop (i + 1)) = .ok ys ∧ l ++ ys = all) →
                ∃ m, m < ds.length - i ∧ ∃ i H', m = ds.length - i ∧ i ≤ ds.length ∧ Inv (X.blk s3 H3 scope ce fp) [] (wipe σ (own.map (·.2))) H' s' ∧ tn i s'.heap ∧ (∀ b ∈ fp, H' b = none) ∧ Same H1 H' ∧
                  ∃ l ys, H' D = some (SO X.prog X.w D l) ∧ compL set tt el (wipeR ρ (own.map (·.2))) (ds.drop i) = .ok ys ∧ l ++ ys = all := fun {s' H'} J' sm z => by
              have pin' : ∀ b ∈ fp, ∀ o, s7.heap.get? b = some o → s'.heap.get? b = some o ∧ H' b = none := fun b hb o e =>
                let z := J'.pin (b, o) (List.mem_append_right _ (List.mem_append_right _ (mem_pinsAt hb e)))
                ⟨z.1, z.2.1⟩
              refine ⟨ds.length - (i + 1), by omega, i + 1, H', rfl, hlt, (J'.unpinned (pins := [])).weak (by rw [← hw8, wipe_length]) (fun j v e => ?_), T.keep _ _ _ st7 fun b hb o e => (pin' b hb o e).1, fun b hb => ?_, sm, z⟩
              · rw [← hw8] at e
                exact (wipe_some e).1
              · obtain ⟨o, e, _⟩ := T.obj _ _ st7 b hb
                exact (pin' b hb o e).2
            have s59 : Same H5 H9 := s57.trans s89
            cases b with
            | false =>
              simp only [Bool.false_eq_true, if_false] at hys ⊢
              exact fin J9 (sH5.trans s59) ⟨l, ys, s59 _ _ hD5, hys, hl⟩
            | true =>
              simp only [if_true] at hys ⊢
              obtain ⟨dy, hdy, hys⟩ := nox_ok hys
              obtain ⟨zs, hzs, hys⟩ := bind_ok hys
              have ecomp : dy :: zs = ys := by injection hys
              have elm : tEv X.K I W0 el σ8 H9 fun v H10 => Same H9 H10 ∧ Dq X.K (hid (Ow (fun a => O₁ a ∨ a = D) Gs) H10) v dy := ⟨_, _, _, ρ2, r8.mono s89, by rw [hdy]; exact fun v H10 z => z⟩
              refine thnF (pe.run _ s9 σ8 H9 _ J9 elm) fun z s10 ⟨yv, H10, J10, r10, s910, q10⟩ => ?_
              have s510 : Same H5 H10 := s59.trans s910
              have hgl : good (l ++ [dy]) := kit.pre _ zs (by rw [List.append_assoc]; show good (l ++ dy :: zs); rw [ecomp, hl]; exact hgd)
              refine kit.add (X := X.blk s3 H3 scope ce fp) J10 (s510 _ _ hD5) hid_le q10 r10 hgl fun s11 J11 => fin J11 (fun b o e => ?_) ⟨l ++ [dy], zs, upd_same, hzs, by rw [List.append_assoc, ← hl, ← ecomp]; rfl⟩
              rw [upd_ne (ne_of_none e nD)]
              exact s510 _ _ (sH5 _ _ e)
        · have ei : i = ds.length := by omega
          have td := T.done (X.blk s3 H3 scope ce fp) rfl rfl rfl calm i [] s5 _ H5 (fun _ _ => False) J5 (stat J5 n5) st5 (y.stop i H5 sH5 ei)
          refine thnF td fun rr s6 ⟨hr, J6⟩ => ?_
          subst hr
          have J7 : Inv X pins σ H5 s6 := J3.call' (ch := fp) J6.os J6.base J6.hok J6.bare fun b hb => ⟨(f3 b hb).1.2.2.2.1, (f3 b hb).1.2.1, (f3 b hb).1.2.2.2.2.1, (f3 b hb).1.2.2.2.2.2⟩
          have nC : H5 s3.heap.objs.size = none := by
            have z : H5 ce.locals = none := J6.free
            rw [cL] at z
            exact z
          obtain ⟨m, hn, _⟩ := J6.loc
          have hn : s6.heap.Ns ce.locals m := hn
          rw [cL] at hn
          rw [ei, List.drop_length] at hys
          have e2 : ([] : List Da) = ys := by
            have h : Rv.ok ([] : List Da) = .ok ys := hys
            injection h
          rw [← e2, List.append_nil] at hl
          subst hl
          refine out D s3.heap.objs.size s6 m H5 J7 (po _ _ ⟨fun a => if a = D then none else H5 a, D, sH1.trans fun b o eb => ?_, if_pos rfl, ?_, rfl⟩) hn (J3.fpOk (Nat.le_refl _) nC)
          · rw [if_neg (ne_of_none eb nD)]
            exact sH5 _ _ eb
          · funext a
            by_cases ha : a = D
            · rw [ha, upd_same, hD5]
            · rw [upd_ne ha, if_neg ha]
      exact PpSet.codeAny_compStart_set turns (T.self X.A 0 _ _ _ st4 turns)
    · have z : Post I W σ H (fun H' v l => rSt SO X.prog X.w X.K (Ow O₀ Fs) H H' v l) (if good all then .ok all else .bad) Q := po
      rw [if_neg hgd] at z
      exact z.elim
end
end L2
end

section
set_option Elab.async false
set_option linter.all false
set_option maxRecDepth 100000
namespace L2
open PySem PySem.Spec PyProof.Rows
/-! ints and texts as members -/
theorem snoc_ind {α : Type} {P : List α → Prop} (h0 : P []) (h1 : ∀ l a, P l → P (l ++ [a])) (l : List α) : P l := by
  have q : ∀ l : List α, P l.reverse := fun l => by
    induction l with
    | nil => exact h0
    | cons a l ih => rw [List.reverse_cons]; exact h1 _ _ ih
  have z := q l.reverse
  rwa [List.reverse_reverse] at z
def keyD : Da → Option Key
  | .int i => some (.inl i)
  | .str x => some (.inr x)
  | _ => none
def ksOf (l : List Da) : List Key := l.filterMap keyD
def hasK (ks : List Key) (k : Key) : Bool := ks.any fun j => decide (k = j)
def seenK (ks : List Key) : List Key := ks.foldl (fun acc k => if hasK acc k = true then acc else k :: acc) []
def goodK (l : List Da) : Prop := l.length ≤ 1000 ∧ (l.all fun d => (keyD d).isSome) = true
instance : DecidablePred goodK := fun l => by unfold goodK; infer_instance
def cntK (l : List Da) : Nat := (seenK (ksOf l)).length
def SOK (P : Program) (w : World) (D : Addr) (l : List Da) : HO := SetK P w D (hasK (ksOf l)) (cntK l)
theorem hasK_app (ks : List Key) (k j : Key) : hasK (ks ++ [k]) j = (hasK ks j || decide (j = k)) := by
  unfold hasK; rw [List.any_append]; simp
theorem seen_step (ks : List Key) (k : Key) : seenK (ks ++ [k]) = if hasK (seenK ks) k = true then seenK ks else k :: seenK ks := by
  unfold seenK; rw [List.foldl_append]; rfl
theorem hasK_iff {ks : List Key} {k : Key} : hasK ks k = true ↔ k ∈ ks := by
  unfold hasK
  rw [List.any_eq_true]
  exact ⟨fun ⟨x, h1, h2⟩ => (of_decide_eq_true h2) ▸ h1, fun h => ⟨k, h, decide_eq_true rfl⟩⟩
theorem seen_has (l : List Key) : ∀ k, hasK (seenK l) k = hasK l k := by
  induction l using snoc_ind with
  | h0 => intro k; rfl
  | h1 ks x ih =>
    intro k
    rw [seen_step, hasK_app]
    split
    · rename_i h
      rw [ih]
      by_cases e : k = x
      · subst e
        rw [← ih, h]; rfl
      · rw [decide_eq_false e, Bool.or_false]
    · show (decide (k = x) || hasK (seenK ks) k) = _
      rw [ih, Bool.or_comm]
theorem ksOf_app {l : List Da} {d : Da} {k : Key} (h : keyD d = some k) : ksOf (l ++ [d]) = ksOf l ++ [k] := by
  unfold ksOf
  rw [List.filterMap_append]
  simp [h]
theorem seen_le (l : List Key) : (seenK l).length ≤ l.length := by
  induction l using snoc_ind with
  | h0 => exact Nat.le_refl _
  | h1 ks x ih =>
    rw [seen_step, List.length_append, List.length_singleton]
    split
    · omega
    · rw [List.length_cons]; omega
theorem cnt_le (l : List Da) : cntK l ≤ l.length := Nat.le_trans (seen_le _) (List.length_filterMap_le _ _)
theorem dq_key {K : PySem.W.Frag} {H : Hp} {v : V} {d : Da} {k : Key} (h : Dq K H v d) (e : keyD d = some k) : v = kV k := by
  cases d with
  | int i => cases e; cases h; rfl
  | str x => cases e; cases h; rfl
  | _ => cases e
theorem kitK : SKit SOK goodK where
  new := fun P w H h => setK_new ⟨_, #[], 0, _, Heap.get?_push_size _ rfl, ⟨rfl, rfl, rfl⟩, rfl, (fun e he => by simp at he), (fun k => by simp [hasK, ksOf]), (by decide), (by rfl), rfl⟩
  pre := fun l m h => by
    obtain ⟨h1, h2⟩ := h
    rw [List.length_append] at h1
    rw [List.all_append, Bool.and_eq_true] at h2
    exact ⟨by omega, h2.1⟩
  add := fun {X pins σ H Hs s E D l d v u Q} I hD sm hd rv g q => by
    obtain ⟨g1, g2⟩ := g
    rw [List.all_append, Bool.and_eq_true] at g2
    have g3 : (keyD d).isSome = true := by simpa using g2.2
    obtain ⟨k, hk⟩ := Option.isSome_iff_exists.mp g3
    cases dq_key hd hk
    rw [List.length_append, List.length_singleton] at g1
    have room : cntK l + 1 < scanBound := by
      have := cnt_le l
      have e : 2000 < scanBound := by decide
      omega
    refine call_set_add (kV_is rv) (key_scan rv) (setK_get I hD) room fun h' sb new => ?_
    have he : ∃ u, h'.get? D = some u := let ⟨o, _, _, _, ho, _⟩ := new; ⟨o, ho⟩
    have e1 : (fun j => hasK (ksOf l) j || decide (j = k)) = hasK (ksOf (l ++ [d])) := funext fun j => by rw [ksOf_app hk, hasK_app]
    have e2 : (if hasK (ksOf l) k = true then cntK l else cntK l + 1) = cntK (l ++ [d]) := by
      unfold cntK
      rw [ksOf_app hk, seen_step, seen_has]
      split <;> rfl
    rw [e1, e2] at new
    exact q _ (I.write (e := D) (t' := s.toks + 1) (by rw [hD]; trivial) (.inl rfl) (fun b u hb hu => (sb.2 b hb).trans hu) he (setK_new new))
section
variable {X : Cx} {I : XI} {W : WX} {it : Sls → Rv (List Da)} {set : Da → Sls → Option Sls} {tt : Sls → Rv Bool} {el : Sls → Rv Da} {gt : TG} {SO : Program → World → Addr → List Da → HO} {good : List Da → Prop}
theorem o_set (kit : SKit SO good) [DecidablePred good] {elt tg iter : Expr} {ifs : List Expr} {scope : Scope} {own : List (Str × Nat)} {pos : Pos} {is : List Nat} (hc : X.calm = true) (hN : X.N.Nodup) (hi : PI X tg iter (tItC X.K I W it)) (okB : BlkOk X.N X.env.scope scope own) (ok : TgOk X.K is gt set) (hiv : ∀ i ∈ is, i ∈ own.map (·.2))
    (hg : ∀ (s : Shared) (H : Hp) (C : Addr) (cl : List (Str × Addr)) (fp : List Addr), PG (X.blk s H scope (compEnvC scope cl C X.env) fp) tg gt) (ht : ∀ (s : Shared) (H : Hp) (C : Addr) (cl : List (Str × Addr)) (fp : List Addr), PTs (X.blk s H scope (compEnvC scope cl C X.env) fp) ifs (tT X.K I W0 tt))
    (he : ∀ (s : Shared) (H : Hp) (C : Addr) (cl : List (Str × Addr)) (fp : List Addr), PE (X.blk s H scope (compEnvC scope cl C X.env) fp) elt (tEv X.K I W0 el)) (hs : ∀ x, foldedSetIterable iter X.env x = pure x) :
    PE X (.SetComp elt [⟨tg, iter, ifs, 0⟩] scope pos) (tSt SO X.prog X.w X.K I W (xSet good (own.map (·.2)) it set tt el)) := by
  refine ⟨fun pins s σ H Q J h => ?_⟩
  rw [PpSet.eval_SetComp]
  refine set_walk kit hc hN J hi okB ok hiv hg ht he hs h fun D C s' m H' J' q hn f => ⟨m, hn, fun h'' sb => ?_⟩
  obtain ⟨f0, f1, f2, f3, f4, f5⟩ := f
  exact ⟨.ref D, H', J'.turned (t' := s'.toks) (fun b o hb e => (sb.2 b hb).trans e) f0 f1 f3 f4 f5, rfl, q⟩
def xSLen (good : List Da → Prop) [DecidablePred good] (cnt : List Da → Nat) (vs : List Nat) (it : Sls → Rv (List Da)) (set : Da → Sls → Option Sls) (tt : Sls → Rv Bool) (el : Sls → Rv Da) : Sls → Rv Da := fun ρ => (xSet good vs it set tt el ρ).bind fun l => .ok (.int (cnt l : Nat))
abbrev rLenK (P : Program) (w : World) : List V → Hp → VK → Prop := fun xs H Q => ∃ D l, xs = [.ref D] ∧ H D = some (SOK P w D l) ∧ Q (.int (cntK l : Nat)) H
theorem call_lenK : CallR X (.builtin "len") (rLenK X.prog X.w) := by
  intro pins s σ H xs us Q J r h
  obtain ⟨D, l, rfl, hD, q⟩ := h
  obtain ⟨u, rfl, ru⟩ := vals1 r
  obtain rfl : u = Value.ref D := ru
  obtain ⟨o, es, ep, t, ho, hx, hd, _, _, hb, hf, hn⟩ := setK_get J hD
  refine call_len_set ho hx hd hf ?_ ?_
  · have : scanBound < 2 ^ 63 := by decide
    omega
  · rw [hn]
    exact ⟨.int (cntK l : Nat), H, J.tok _, ⟨_, rfl⟩, q⟩
theorem o_setLen {elt tg iter : Expr} {ifs : List Expr} {scope : Scope} {own : List (Str × Nat)} {pos pos2 p : Pos} {is : List Nat} (hc : X.calm = true) (hm : X.mg "len" = none) (hN : X.N.Nodup) (hi : PI X tg iter (tItC X.K I W it)) (okB : BlkOk X.N X.env.scope scope own) (ok : TgOk X.K is gt set) (hiv : ∀ i ∈ is, i ∈ own.map (·.2))
    (hg : ∀ (s : Shared) (H : Hp) (C : Addr) (cl : List (Str × Addr)) (fp : List Addr), PG (X.blk s H scope (compEnvC scope cl C X.env) fp) tg gt) (ht : ∀ (s : Shared) (H : Hp) (C : Addr) (cl : List (Str × Addr)) (fp : List Addr), PTs (X.blk s H scope (compEnvC scope cl C X.env) fp) ifs (tT X.K I W0 tt))
    (he : ∀ (s : Shared) (H : Hp) (C : Addr) (cl : List (Str × Addr)) (fp : List Addr), PE (X.blk s H scope (compEnvC scope cl C X.env) fp) elt (tEv X.K I W0 el)) (hs : ∀ x, foldedSetIterable iter X.env x = pure x := by intro _; rfl) (hgl : Gl X "len" := by rfl)
    (hst : starEach [.SetComp elt [⟨tg, iter, ifs, 0⟩] scope pos] X.env = (false, eval (.SetComp elt [⟨tg, iter, ifs, 0⟩] scope pos) X.env) :: starEach [] X.env := by rfl) :
    PE X (.Call (.Name "len" p) [.SetComp elt [⟨tg, iter, ifs, 0⟩] scope pos] [] pos2) (tEv X.K I W (xSLen goodK cntK (own.map (·.2)) it set tt el)) :=
  pe_weak (pe_callB call_lenK hgl hm (by decide +kernel) (pa_cons (o_set kitK hc hN hi okB ok hiv hg ht he hs) pa_nil hst) (by decide) (by decide) hst rfl) fun σ H Q ⟨O₀, H₀, Fs, ρ, r, po⟩ =>
    ⟨O₀, H₀, Fs, ρ, r, po.first fun l _ po v H1 ⟨Hb, D, s1, nD, e1, e2⟩ => by
      subst e1 e2
      exact ⟨D, l, rfl, upd_same, po _ _ ⟨s1.trans (same_new nD), .int _⟩⟩⟩
end
end L2
end

section
set_option Elab.async false
set_option linter.all false
set_option maxRecDepth 100000
namespace L2
open PySem PySem.Spec PyProof.Rows
theorem ints_dq {K : PySem.W.Frag} {H : Hp} : ∀ ns : List Int, DqAll K H (ns.map V.int) (ns.map PyData.int)
  | [] => .nil
  | n :: ns => .cons (.int n) (ints_dq ns)
/-- what is asked of a law -/
def spT (K : PySem.W.Frag) : Sp := fun vs H Q _ => ∃ (a : Addr) (ns : List Int), vs = [.ref a] ∧ SqL K H a (ns.map V.int) ∧ ∀ H', Q (.bl true) H'
theorem spT_of {K : PySem.W.Frag} {I : XI} {m : List Da → Rv Da} (hm : ∀ ns : List Int, m [.list (ns.map .int)] = .ok (.bool true)) : ∀ vs H Q E, spT K vs H Q E → spM K I 1 m vs H Q E := by
  rintro vs H Q E ⟨a, ns, rfl, hS, q⟩
  refine ⟨fun _ => False, [.list (ns.map .int)], fun _ z => z.elim, .cons (.lst ((show Same H (hid (fun _ => False) H) from fun b o e => by rw [hid_neg fun z => z]; exact e).seq hS) (ints_dq ns)) .nil, rfl, ?_⟩
  rw [hm ns]
  intro v H' _ hv
  cases hv
  exact q H'
/-- the end: the law's function gives True at every script -/
theorem walk_ofM {l : PySem.W.OpenLaw} {n k : Nat} {q : Program} {loose : List Str} {XP : (Str → Option Value) → Heap → Prop} {YP : World → Heap → Prop} {d : DefRec} {K : Params → PySem.W.Frag} {x : Str}
    (hn : l.most = some n) (hn2 : n ≤ sizeLine) (hdf : d.params.defaults = []) (hr : Room k callerA) (hY : ∀ (w : World) (h : Heap), YP w h → (K w.params).In h)
    (F : ∀ (w : World) (mg : Str → Option Value) (fa : Addr) (h : Heap), (K w.params).In h → h.Ns mainGlobals mg → mg d.name = some (.ref fa) →
      ∃ fd : FuncData, (∀ (s : Shared) (u : Value), BindsTo s fd ⟨[u], []⟩ [(x, u)]) ∧
        ∀ base : Heap, (K w.params).In base → base.Ns mainGlobals mg → FnOk l.prog w (K w.params) mg base (L2.CX l.prog w) k fa fd [x] (spT (K w.params))) :
    PySem.W.WalkO q loose XP YP l.row.toRowW d [] (fun f vs => PySem.call f vs) :=
  walk_of (K := K) (CX := fun w => L2.CX l.prog w) (sp := fun w => spT (K w.params)) hn hn2 hdf hr hY F
    (fun w H a ns _ _ hS => ⟨a, ns, rfl, hS, fun _ => rfl⟩)
    fun w H s e s' h => by
      obtain ⟨_, _, _, _, _, _, _, _, _, _, _, _, z⟩ := h
      exact z.elim
end L2
end

section
set_option Elab.async false
set_option linter.all false
set_option maxRecDepth 100000
namespace L2
open PySem
/-! plain reckoning with the functions -/
@[simp] theorem rb_ok {α β : Type} (a : α) (f : α → Rv β) : Rv.bind (.ok a) f = f a := id rfl
@[simp] theorem rb_exc {α β : Type} (c : Nat) (d : Da) (f : α → Rv β) : Rv.bind (.exc c d) f = .exc c d := id rfl
@[simp] theorem rb_bad {α β : Type} (f : α → Rv β) : Rv.bind .bad f = .bad := id rfl
@[simp] theorem rt_ok {α : Type} (a : α) (ρ : Sls) (f : α → Out) : Rv.thn (.ok a) ρ f = f a := id rfl
@[simp] theorem rt_exc {α : Type} (c : Nat) (d : Da) (ρ : Sls) (f : α → Out) : Rv.thn (.exc c d) ρ f = .exc c d ρ := id rfl
@[simp] theorem ro_some {α : Type} (a : α) : Rv.ofO (some a) = .ok a := id rfl
@[simp] theorem asB_b (b : Bool) : asB (.bool b) = .ok b := id rfl
@[simp] theorem nox_ok' {α : Type} (a : α) : Rv.nox (.ok a) = .ok a := id rfl
@[simp] def xV_u1 := @xV.eq_1
@[simp] def xB_u1 := @xB.eq_1
@[simp] def xK_u1 := @xK.eq_1
@[simp] def x1_u1 := @x1.eq_1
@[simp] def x2_u1 := @x2.eq_1
@[simp] def x3_u1 := @x3.eq_1
@[simp] def xs0_u1 := @xs0.eq_1
@[simp] def xsc_u1 := @xsc.eq_1
@[simp] def xAnd_u1 := @xAnd.eq_1
@[simp] def xOr_u1 := @xOr.eq_1
@[simp] def xNot_u1 := @xNot.eq_1
@[simp] def xIf_u1 := @xIf.eq_1
@[simp] def xCh_u1 := @xCh.eq_1
@[simp] def zB_u1 := @zB.eq_1
@[simp] def zTru_u1 := @zTru.eq_1
@[simp] def zAnd_u1 := @zAnd.eq_1
@[simp] def zOr_u1 := @zOr.eq_1
@[simp] def zNot_u1 := @zNot.eq_1
@[simp] def xCall_u1 := @xCall.eq_1
@[simp] def xM1_u1 := @xM1.eq_1
@[simp] def oNo_u1 := @oNo.eq_1
@[simp] def oAt_u1 := @oAt.eq_1
@[simp] def xCut_u1 := @xCut.eq_1
@[simp] def sNx_u1 := @sNx.eq_1
@[simp] def sSeq_u1 := @sSeq.eq_1
@[simp] def sSet_u1 := @sSet.eq_1
@[simp] def sOwn_u1 := @sOwn.eq_1
@[simp] def sRet_u1 := @sRet.eq_1
@[simp] def sRetN_u1 := @sRetN.eq_1
@[simp] def sDrop_u1 := @sDrop.eq_1
@[simp] def sIf_u1 := @sIf.eq_1
@[simp] def sBk_u1 := @sBk.eq_1
@[simp] def sCt_u1 := @sCt.eq_1
@[simp] def sFrz_u1 := @sFrz.eq_1
@[simp] def thaw_u1 := @thaw.eq_1
@[simp] def thaw_u2 := @thaw.eq_2
@[simp] def frzSl_u1 := @frzSl.eq_1
@[simp] def frzSl_u2 := @frzSl.eq_2
@[simp] def frzSl_u3 := @frzSl.eq_3
@[simp] def frzSl_u4 := @frzSl.eq_4
@[simp] def frzSl_u5 := @frzSl.eq_5
@[simp] def sApp_u1 := @sApp.eq_1
@[simp] def lstAt_u1 := @lstAt.eq_1
@[simp] def sFor_u1 := @sFor.eq_1
@[simp] def iSq_u1 := @iSq.eq_1
@[simp] def iEn_u1 := @iEn.eq_1
@[simp] def iR1_u1 := @iR1.eq_1
@[simp] def iR2_u1 := @iR2.eq_1
@[simp] def mOf_u1 := @mOf.eq_1
@[simp] def xTup_u1 := @xTup.eq_1
@[simp] def xLst_u1 := @xLst.eq_1
@[simp] def mkTup_u1 := @mkTup.eq_1
@[simp] def mkLst_u1 := @mkLst.eq_1
@[simp] def asStr_u1 := @asStr.eq_1
@[simp] def asStr_u2 := @asStr.eq_2
@[simp] def asList_u1 := @asList.eq_1
@[simp] def asList_u2 := @asList.eq_2
/-- a comprehension whose tests and items are plain -/
theorem compL_ok {set : Da → Sls → Option Sls} {tt : Sls → Rv Bool} {el : Sls → Rv Da} {ρ : Sls} (p : Da → Bool) (f : Da → Da) : ∀ {ds : List Da}, (∀ d ∈ ds, ∃ ρ1, set d ρ = some ρ1 ∧ tt ρ1 = .ok (p d) ∧ (p d = true → el ρ1 = .ok (f d))) → compL set tt el ρ ds = .ok ((ds.filter p).map f)
  | [], _ => rfl
  | d :: ds, h => by
    obtain ⟨ρ1, h1, h2, h3⟩ := h d List.mem_cons_self
    have ih := compL_ok p f (ds := ds) fun e he => h e (List.mem_cons_of_mem _ he)
    simp only [compL, h1, h2, nox_ok', rb_ok, ih]
    cases hp : p d with
    | true => simp [h3 hp, hp]
    | false => simp [hp]
theorem compL_map {set : Da → Sls → Option Sls} {el : Sls → Rv Da} {ρ : Sls} (f : Da → Da) {ds : List Da} (h : ∀ d ∈ ds, ∃ ρ1, set d ρ = some ρ1 ∧ el ρ1 = .ok (f d)) : compL set zYes el ρ ds = .ok (ds.map f) := by
  have q := compL_ok (set := set) (tt := zYes) (el := el) (ρ := ρ) (fun _ => true) f (ds := ds) fun d hd => by
    obtain ⟨ρ1, h1, h2⟩ := h d hd
    exact ⟨ρ1, h1, rfl, fun _ => h2⟩
  rw [q, List.filter_eq_self.mpr fun _ _ => rfl]
/-- a loop that is never left: the slots by the items behind it -/
theorem forL_nx {set : Da → Sls → Option Sls} {body : SS} (g : Da → Sls → Sls) : ∀ {ds : List Da} {ρ : Sls} (Iv : Sls → Prop), Iv ρ → (∀ d ∈ ds, ∀ ρ, Iv ρ → ∃ ρ1 ρ2, set d ρ = some ρ1 ∧ body ρ1 = .nx ρ2 ∧ g d ρ = ρ2 ∧ Iv ρ2) → forL set body ds ρ = .nx (ds.foldl (fun ρ d => g d ρ) ρ)
  | [], ρ, Iv, _, _ => rfl
  | d :: ds, ρ, Iv, h0, h => by
    obtain ⟨ρ1, ρ2, h1, h2, h3, h4⟩ := h d List.mem_cons_self ρ h0
    simp only [forL, h1, h2]
    rw [forL_nx g Iv h4 fun e he => h e (List.mem_cons_of_mem _ he)]
    rw [List.foldl_cons, h3]
/-- by an invariant over what was passed -/
theorem forL_inv {set : Da → Sls → Option Sls} {body : SS} (Iv : List Da → Sls → Prop) : ∀ {ds done : List Da} {ρ : Sls}, Iv done ρ → (∀ pre d post, done ++ ds = pre ++ d :: post → ∀ ρ, Iv pre ρ → ∃ ρ1 ρ2, set d ρ = some ρ1 ∧ (body ρ1 = .nx ρ2 ∨ body ρ1 = .ct ρ2) ∧ Iv (pre ++ [d]) ρ2) → ∃ ρ', forL set body ds ρ = .nx ρ' ∧ Iv (done ++ ds) ρ'
  | [], done, ρ, h0, _ => ⟨ρ, rfl, by rw [List.append_nil]; exact h0⟩
  | d :: ds, done, ρ, h0, h => by
    obtain ⟨ρ1, ρ2, h1, h2, h3⟩ := h done d ds rfl ρ h0
    obtain ⟨ρ', h4, h5⟩ := forL_inv Iv (ds := ds) (done := done ++ [d]) h3 fun pre e post he => h pre e post (by rw [← he]; simp)
    refine ⟨ρ', ?_, by simpa using h5⟩
    rcases h2 with h2 | h2 <;> simp only [forL, h1, h2] <;> exact h4
/-- a search loop: the first item at which the body returns -/
theorem forL_find {set : Da → Sls → Option Sls} {body : SS} {ρ0 : Sls} (p : Da → Bool) (r : Da → Da) (Iv : Sls → Prop) : ∀ {ds : List Da} {ρ : Sls}, Iv ρ → (∀ d ∈ ds, ∀ ρ, Iv ρ → ∃ ρ1, set d ρ = some ρ1 ∧ if p d = true then body ρ1 = .rt (r d) else ∃ ρ2, body ρ1 = .nx ρ2 ∧ Iv ρ2) →
    match ds.find? p with
    | some d => forL set body ds ρ = .rt (r d)
    | none => ∃ ρ', forL set body ds ρ = .nx ρ' ∧ Iv ρ'
  | [], ρ, h0, _ => ⟨ρ, rfl, h0⟩
  | d :: ds, ρ, h0, h => by
    obtain ⟨ρ1, h1, h2⟩ := h d List.mem_cons_self ρ h0
    cases hp : p d with
    | true =>
      rw [hp, if_pos rfl] at h2
      rw [List.find?_cons_of_pos hp]
      simp only [forL, h1, h2]
    | false =>
      rw [hp, if_neg Bool.false_ne_true] at h2
      obtain ⟨ρ2, h2, h3⟩ := h2
      rw [List.find?_cons_of_neg (by simp [hp])]
      have ih := forL_find (ρ0 := ρ0) p r Iv (ds := ds) h3 fun e he => h e (List.mem_cons_of_mem _ he)
      simp only [forL, h1, h2]
      exact ih
/-! texts and lists of texts as data -/
abbrev W1 := List Nat
abbrev sLs (ws : List W1) : List Da := ws.map mkS
theorem bools_map (bs : List Bool) : bools (bs.map .bool) = some bs := by
  induction bs with
  | nil => rfl
  | cons b bs ih => simp [bools, ih]
theorem pAll_map (bs : List Bool) : pAll (.list (bs.map .bool)) = some (.bool (bs.all id)) := by simp [pAll, bools_map]
theorem pAny_map (bs : List Bool) : pAny (.list (bs.map .bool)) = some (.bool (bs.any id)) := by simp [pAny, bools_map]
theorem eqv_str (a b : W1) : PyData.eqv (mkS a) (mkS b) = decide (a = b) := by
  rw [Bool.eq_iff_iff]
  simp [PyData.eqv]
def okW (w : W1) : Prop := ∀ c ∈ w, c < 0x110000
theorem strOk_of {w : W1} (h : okW w) : PyData.strOk ⟨⟨w⟩⟩ = true := by
  unfold PyData.strOk
  rw [Array.all_eq_true']
  intro c hc
  exact decide_eq_true (h c (Array.mem_toList_iff.mpr hc))
theorem layStrs {ws : List W1} (h : ∀ w ∈ ws, okW w) : PyData.canLayAll0 (sLs ws) = true := by
  induction ws with
  | nil => simp [PyData.canLayAll0]
  | cons w ws ih => simp [PyData.canLayAll0, PyData.canLay0, strOk_of (h w List.mem_cons_self), ih fun v hv => h v (List.mem_cons_of_mem _ hv)]
theorem depStrs (ws : List W1) : PyData.depthAll (sLs ws) = 0 := by
  induction ws with
  | nil => simp [PyData.depthAll]
  | cons w ws ih => simp [PyData.depthAll, PyData.depth, ih]
theorem shStr {w : W1} (h : okW w) : SeqAt.shaped (mkS w) = true := by
  have e : (mkS w).canLay0 = true := by rw [PyData.canLay0]; exact strOk_of h
  have e2 : (mkS w).depth = 0 := by rw [PyData.depth]
  unfold SeqAt.shaped
  rw [e, e2]
  rfl
theorem shL {ds : List Da} (h1 : PyData.canLayAll0 ds = true) (h2 : PyData.depthAll ds = 0) : SeqAt.shaped (.list ds) = true := by
  have e : (PyData.list ds).canLay0 = true := by rw [PyData.canLay0]; exact h1
  have e2 : (PyData.list ds).depth ≤ 64 := by rw [PyData.depth, h2]; decide
  unfold SeqAt.shaped
  rw [e, decide_eq_true e2]
  rfl
theorem shT {ds : List Da} (h1 : PyData.canLayAll0 ds = true) (h2 : PyData.depthAll ds = 0) : SeqAt.shaped (.tuple ds) = true := by
  have e : (PyData.tuple ds).canLay0 = true := by rw [PyData.canLay0]; exact h1
  have e2 : (PyData.tuple ds).depth ≤ 64 := by rw [PyData.depth, h2]; decide
  unfold SeqAt.shaped
  rw [e, decide_eq_true e2]
  rfl
theorem shLStr {ws : List W1} (h : ∀ w ∈ ws, okW w) : SeqAt.shaped (.list (sLs ws)) = true := shL (layStrs h) (depStrs ws)
theorem shTStr {ws : List W1} (h : ∀ w ∈ ws, okW w) : SeqAt.shaped (.tuple (sLs ws)) = true := shT (layStrs h) (depStrs ws)
theorem any_eqv (w : W1) (ws : List W1) : ((sLs ws).any fun z => PyData.eqv z (mkS w)) = decide (w ∈ ws) := by
  induction ws with
  | nil => rfl
  | cons v ws ih =>
    show (PyData.eqv (mkS v) (mkS w) || (sLs ws).any fun z => PyData.eqv z (mkS w)) = _
    rw [ih, eqv_str, Bool.eq_iff_iff, Bool.or_eq_true, decide_eq_true_iff, decide_eq_true_iff, decide_eq_true_iff, List.mem_cons, eq_comm]
theorem layInts (ns : List Int) : PyData.canLayAll0 (ns.map .int) = true := by
  induction ns with
  | nil => simp [PyData.canLayAll0]
  | cons w ws ih => simp [PyData.canLayAll0, PyData.canLay0, ih]
theorem depInts (ns : List Int) : PyData.depthAll (ns.map .int) = 0 := by
  induction ns with
  | nil => simp [PyData.depthAll]
  | cons w ws ih => simp [PyData.depthAll, PyData.depth, ih]
theorem shLInt (ns : List Int) : SeqAt.shaped (.list (ns.map .int)) = true := shL (layInts ns) (depInts ns)
theorem layBools (ns : List Bool) : PyData.canLayAll0 (ns.map .bool) = true := by
  induction ns with
  | nil => simp [PyData.canLayAll0]
  | cons w ws ih => simp [PyData.canLayAll0, PyData.canLay0, ih]
theorem depBools (ns : List Bool) : PyData.depthAll (ns.map .bool) = 0 := by
  induction ns with
  | nil => simp [PyData.depthAll]
  | cons w ws ih => simp [PyData.depthAll, PyData.depth, ih]
theorem shLBool (ns : List Bool) : SeqAt.shaped (.list (ns.map .bool)) = true := shL (layBools ns) (depBools ns)
/-! the operations at texts, numbers -/
theorem pEq_str (a b : W1) : pEq (mkS a) (mkS b) = some (.bool (decide (a = b))) := by simp [pEq, eqD, scalD, eqv_str]
theorem pNe_str (a b : W1) : pNe (mkS a) (mkS b) = some (.bool (!decide (a = b))) := by simp [pNe, eqD, scalD, eqv_str]
theorem pEq_int (a b : Int) : pEq (.int a) (.int b) = some (.bool (decide (a = b))) := by
  simp [pEq, eqD, scalD, PyData.eqv]
  rw [Bool.eq_iff_iff]; simp
theorem pNe_int (a b : Int) : pNe (.int a) (.int b) = some (.bool (!decide (a = b))) := by
  simp [pNe, eqD, scalD, PyData.eqv]
  rw [Bool.eq_iff_iff]; simp
theorem pNe_bool (a b : Bool) : pNe (.bool a) (.bool b) = some (.bool (!decide (a = b))) := by
  cases a <;> cases b <;> rfl
theorem ix_nat {α : Type} (xs : List α) (k : Nat) (h : k < xs.length) : ((ixP xs.length (k : Int)).bind fun j => xs[j]?) = xs[k]? := by
  unfold ixP
  rw [if_pos (by omega), if_pos (by omega)]
  simp
theorem pIx_tup (xs : List Da) (k : Nat) (d : Da) (h : xs[k]? = some d) : pIx (.tuple xs) (.int k) = some d := by
  have hl : k < xs.length := (List.getElem?_eq_some_iff.mp h).1
  show ((ixP xs.length (k : Int)).bind fun j => xs[j]?) = _
  rw [ix_nat xs k hl, h]
theorem pIx_lst (xs : List Da) (k : Nat) (d : Da) (h : xs[k]? = some d) : pIx (.list xs) (.int k) = some d := pIx_tup xs k d h
theorem take_min {α : Type} (w : List α) (n : Nat) : w.take (min n w.length) = w.take n := by
  by_cases h : n ≤ w.length
  · rw [Nat.min_eq_left h]
  · rw [Nat.min_eq_right (by omega), List.take_length, List.take_of_length_le (by omega)]
theorem cut_to {α : Type} (w : List α) (n : Nat) : cutL w none (some (n : Int)) = w.take n := by
  unfold cutL
  rw [HT.sIx_none, HT.sIx_nat, List.drop_zero, Nat.sub_zero, take_min]
theorem cut_at {α : Type} (w : List α) (i j : Nat) : cutL w (some (i : Int)) (some (j : Int)) = (w.drop i).take (j - i) := by
  unfold cutL
  rw [HT.sIx_nat, HT.sIx_nat]
  by_cases h : i ≤ w.length
  · rw [Nat.min_eq_left h]
    by_cases g : j ≤ w.length
    · rw [Nat.min_eq_left g]
    · rw [Nat.min_eq_right (a := j) (by omega), List.take_of_length_le (by rw [List.length_drop]; omega), List.take_of_length_le (by rw [List.length_drop]; omega)]
  · rw [Nat.min_eq_right (a := i) (by omega), List.drop_length, List.drop_eq_nil_of_le (show w.length ≤ i by omega)]
    simp
theorem cut_from {α : Type} (w : List α) (i : Nat) : cutL w (some (i : Int)) none = w.drop i := by
  unfold cutL
  rw [HT.sIx_nat, HT.sIx_none]
  by_cases h : i ≤ w.length
  · rw [Nat.min_eq_left h, List.take_of_length_le (by rw [List.length_drop]; omega)]
  · rw [Nat.min_eq_right (by omega), List.drop_length, List.drop_eq_nil_of_le (by omega)]
    simp
def shortW (w : W1) : Prop := w.length ≤ 16777216
theorem pCut_str (lo hi : Option Int) {w : W1} (h : shortW w) : pCut lo hi (mkS w) = some (mkS (cutL w lo hi)) := by
  show (if w.length ≤ 16777216 then some (mkS (cutL w lo hi)) else none) = _
  exact if_pos h
theorem pLen_str {w : W1} (h : shortW w) : pLen (mkS w) = some (.int (w.length : Nat)) := by
  show (if w.length ≤ 16777216 then some (PyData.int (w.length : Nat)) else none) = _
  exact if_pos h
theorem pAdd_str {a b : W1} (h : a.length + b.length ≤ 16777216) : pAdd (mkS a) (mkS b) = some (mkS (a ++ b)) := by
  show (if a.length + b.length ≤ 16777216 then some (mkS (a ++ b)) else none) = _
  rw [if_pos h]
theorem pIn_str (a b : W1) : pIn (mkS a) (mkS b) = some (.bool (isInL a b)) := rfl
theorem pNotIn_str (a b : W1) : pNotIn (mkS a) (mkS b) = some (.bool (!isInL a b)) := rfl
abbrev nats (n : Nat) : List Da := (List.range n).map fun (k : Nat) => PyData.int (k : Int)
theorem rng1_nat {n : Nat} (h : n ≤ 16777216) : rng1 (.int (n : Nat)) = some (nats n) := by
  unfold rng1
  have c : (n : Int).natAbs ≤ 4611686018427387903 := by omega
  simp only [c, if_true]
  unfold rngD
  simp
/-- range(1, n + 1) -/
abbrev nats1 (n : Nat) : List Da := (List.range n).map fun (k : Nat) => PyData.int ((k + 1 : Nat) : Int)
theorem rng2_1 {n : Nat} (h : n ≤ 16777216) : rng2 (.int 1) (.int ((n : Int) + 1)) = some (nats1 n) := by
  unfold rng2
  have c : (1 : Int).natAbs ≤ 4611686018427387903 := by omega
  have c2 : ((n : Int) + 1).natAbs ≤ 4611686018427387903 := by omega
  simp only [c, c2, and_self, if_true]
  unfold rngD
  have e : ((n : Int) + 1 - 1).toNat = n := by omega
  rw [e]
  congr 1
  refine List.map_congr_left fun k _ => ?_
  congr 1
  push_cast
  omega
@[simp] theorem truD_b (b : Bool) : truD (.bool b) = some b := id rfl
@[simp] theorem itD_l (l : List Da) : itD (.list l) = some l := id rfl
@[simp] theorem itD_t (l : List Da) : itD (.tuple l) = some l := id rfl
@[simp] theorem pTup_l (l : List Da) : pTup (.list l) = some (.tuple l) := id rfl
@[simp] theorem pTup_t (l : List Da) : pTup (.tuple l) = some (.tuple l) := id rfl
@[simp] theorem pLst_t (l : List Da) : pLst (.tuple l) = some (.list l) := id rfl
@[simp] theorem pLen_t (l : List Da) : pLen (.tuple l) = some (.int (l.length : Nat)) := id rfl
@[simp] theorem pLen_l (l : List Da) : pLen (.list l) = some (.int (l.length : Nat)) := id rfl
theorem xComp_map {vs : List Nat} {it : Sls → Rv (List Da)} {set : Da → Sls → Option Sls} {el : Sls → Rv Da} {ρ : Sls} {ds : List Da} (f : Da → Da) (h1 : it ρ = .ok ds) (h2 : ds.length ≤ 1000) (h3 : ∀ d ∈ ds, ∃ ρ1, set d (wipeR ρ vs) = some ρ1 ∧ el ρ1 = .ok (f d)) :
    xComp vs it set zYes el ρ = .ok (.list (ds.map f)) := by
  unfold xComp
  rw [h1, rb_ok, compL_map f h3, rb_ok]
  unfold capL
  rw [if_pos (by rw [List.length_map]; omega)]
theorem xComp_fil {vs : List Nat} {it : Sls → Rv (List Da)} {set : Da → Sls → Option Sls} {tt : Sls → Rv Bool} {el : Sls → Rv Da} {ρ : Sls} {ds : List Da} (p : Da → Bool) (f : Da → Da) (h1 : it ρ = .ok ds) (h2 : ds.length ≤ 1000)
    (h3 : ∀ d ∈ ds, ∃ ρ1, set d (wipeR ρ vs) = some ρ1 ∧ tt ρ1 = .ok (p d) ∧ (p d = true → el ρ1 = .ok (f d))) : xComp vs it set tt el ρ = .ok (.list ((ds.filter p).map f)) := by
  unfold xComp
  rw [h1, rb_ok, compL_ok p f h3, rb_ok]
  unfold capL
  rw [if_pos (by rw [List.length_map]; exact Nat.le_trans (List.length_filter_le _ _) (by omega))]
theorem xSLen_map {good : List Da → Prop} [DecidablePred good] {cnt : List Da → Nat} {vs : List Nat} {it : Sls → Rv (List Da)} {set : Da → Sls → Option Sls} {el : Sls → Rv Da} {ρ : Sls} {ds : List Da} (f : Da → Da) (h1 : it ρ = .ok ds) (h2 : good (ds.map f))
    (h3 : ∀ d ∈ ds, ∃ ρ1, set d (wipeR ρ vs) = some ρ1 ∧ el ρ1 = .ok (f d)) : xSLen good cnt vs it set zYes el ρ = .ok (.int (cnt (ds.map f) : Nat)) := by
  unfold xSLen xSet
  rw [h1, rb_ok, compL_map f h3, rb_ok, if_pos h2, rb_ok]
@[simp] def setOne_u1 := @setOne.eq_1
@[simp] def wipeR_u1 := @wipeR.eq_1
@[simp] def wipeR_u2 := @wipeR.eq_2
theorem pAll_f {α : Type} (l : List α) (p : α → Bool) : pAll (.list (l.map fun x => PyData.bool (p x))) = some (.bool (l.all p)) := by
  have e : (l.map fun x => PyData.bool (p x)) = (l.map p).map .bool := by simp
  rw [e, pAll_map]
  simp
theorem pAny_f {α : Type} (l : List α) (p : α → Bool) : pAny (.list (l.map fun x => PyData.bool (p x))) = some (.bool (l.any p)) := by
  have e : (l.map fun x => PyData.bool (p x)) = (l.map p).map .bool := by simp
  rw [e, pAny_map]
  simp
theorem pAll_true {ds : List Da} (h : ∀ d ∈ ds, d = .bool true) : pAll (.list ds) = some (.bool true) := by
  have e : ds = ds.map fun _ => PyData.bool ((fun _ => true) ()) := by
    conv => lhs; rw [← List.map_id ds]
    exact List.map_congr_left fun d hd => h d hd
  rw [e, pAll_f ds fun _ => true]
  simp
/-- a list without twins has as many members as items -/
theorem seen_nodup : ∀ l : List Key, l.Nodup → (seenK l).length = l.length := fun l => by
  induction l using snoc_ind with
  | h0 => intro _; rfl
  | h1 ks x ih =>
    intro h
    rw [seen_step]
    have hx : x ∉ ks := fun z => (List.nodup_append.mp h).2.2 x z x List.mem_cons_self rfl
    have e : hasK (seenK ks) x = false := by
      rw [seen_has]
      cases q : hasK ks x with
      | false => rfl
      | true => exact absurd (hasK_iff.mp q) hx
    rw [e, if_neg Bool.false_ne_true, List.length_cons, ih (List.nodup_append.mp h).1, List.length_append]
    rfl
theorem ks_strs (ws : List W1) : ksOf (sLs ws) = ws.map fun w => (.inr ⟨⟨w⟩⟩ : Key) := by
  unfold ksOf
  induction ws with
  | nil => rfl
  | cons w ws ih =>
    have e : keyD (mkS w) = some (.inr ⟨⟨w⟩⟩) := rfl
    show List.filterMap keyD (mkS w :: sLs ws) = _
    rw [List.filterMap_cons, e, ih]
    rfl
theorem cnt_strs {ws : List W1} (h : ws.Nodup) : cntK (sLs ws) = ws.length := by
  unfold cntK
  rw [ks_strs, seen_nodup, List.length_map]
  refine List.Pairwise.map _ (fun a b hab e => hab ?_) h
  have e := Sum.inr.inj e
  cases e; rfl
theorem good_strs {ws : List W1} (h : ws.length ≤ 1000) : goodK (sLs ws) := ⟨by simpa using h, by simp [keyD]⟩
/-- a text begins another -/
def begins (t w : W1) : Bool := w.take t.length == t
/-- the others: all but the k-th -/
def others (ws : List W1) (k : Nat) : List W1 := (ws.zipIdx.filter fun p => !decide (p.2 = k)).map (·.1)
theorem enum_map (ws : List W1) : enumD (sLs ws) = ws.zipIdx.map fun p => PyData.tuple [.int (p.2 : Nat), mkS p.1] := by
  unfold enumD
  rw [List.zipIdx_map, List.map_map]
  rfl
theorem mStarts_str (a b : W1) : mStarts ⟨⟨a⟩⟩ (mkS b) = some (.bool (begins b a)) := rfl
theorem any_other (ws : List W1) (k : Nat) (p : W1 → Bool) : (others ws k).any p = true ↔ ∃ j w, ws[j]? = some w ∧ j ≠ k ∧ p w = true := by
  unfold others
  rw [List.any_eq_true]
  constructor
  · rintro ⟨w, hw, hp⟩
    obtain ⟨⟨w', j⟩, hm, rfl⟩ := List.mem_map.mp hw
    obtain ⟨h1, h2⟩ := List.mem_filter.mp hm
    have h3 := List.mem_zipIdx_iff_getElem?.mp h1
    exact ⟨j, w', h3, by simpa using h2, hp⟩
  · rintro ⟨j, w, h1, h2, h3⟩
    exact ⟨w, List.mem_map.mpr ⟨(w, j), List.mem_filter.mpr ⟨List.mem_zipIdx_iff_getElem?.mpr h1, by simpa using h2⟩, rfl⟩, h3⟩
@[simp] theorem pAdd_ii (a b : Int) : pAdd (.int a) (.int b) = some (.int (a + b)) := by simp only [pAdd]
@[simp] theorem pSub_ii (a b : Int) : pSub (.int a) (.int b) = some (.int (a - b)) := by simp only [pSub]
@[simp] theorem pLt_ii (a b : Int) : pLt (.int a) (.int b) = some (.bool (decide (a < b))) := by simp only [pLt, ltD, Option.map_some]
@[simp] theorem pLe_ii (a b : Int) : pLe (.int a) (.int b) = some (.bool (decide (a ≤ b))) := by simp only [pLe, leD, Option.map_some]
@[simp] theorem pGt_ii (a b : Int) : pGt (.int a) (.int b) = some (.bool (decide (b < a))) := by simp only [pGt, ltD, Option.map_some]
@[simp] theorem pGe_ii (a b : Int) : pGe (.int a) (.int b) = some (.bool (decide (b ≤ a))) := by simp only [pGe, leD, Option.map_some]
@[simp] theorem pInt_i (a : Int) : pInt (.int a) = some (.int a) := id rfl
theorem pMod_ii (a : Int) {b : Int} (h : 0 < b) : pMod (.int a) (.int b) = some (.int (a % b)) := if_pos h
theorem pDiv_ii (a : Int) {b : Int} (h : okDiv b = true) : pDiv (.int a) (.int b) = some (.int (a / b)) := if_pos h
theorem pMul_ii {a b : Int} (h : okMul a b = true) : pMul (.int a) (.int b) = some (.int (a * b)) := if_pos h
theorem pPow_ii {a b : Int} (h : (0 ≤ b ∧ b ≤ 1000000) ∧ a.natAbs < 2 ^ 64) : pPow (.int a) (.int b) = some (.int (a ^ b.toNat)) := if_pos h
theorem pAdd_ll {a b : List Da} (h : a.length + b.length ≤ 16777216) : pAdd (.list a) (.list b) = some (.list (a ++ b)) := if_pos h
theorem pAdd_tt {a b : List Da} (h : a.length + b.length ≤ 16777216) : pAdd (.tuple a) (.tuple b) = some (.tuple (a ++ b)) := if_pos h
end L2
end

section
set_option Elab.async false
set_option linter.all false
set_option maxRecDepth 100000
namespace k61
open L2 PySem
def u_is_int : SS := sRet (xAnd (x1 (pIsi .int) (xB 0)) (xNot (x1 (pIsi .bool) (xB 0))))
def m_is_int : List Da → Rv Da := mOf 1 u_is_int
def u_is_between : SS := sRet (xAnd (xCall m_is_int (xsc (xV 0) (xs0))) (xCh pLe pLe (xB 1) (xB 0) (xB 2)))
def m_is_between : List Da → Rv Da := mOf 3 u_is_between
def u_is_row : SS := sRet (x1 (pIsiT [.list, .tuple]) (xB 0))
def m_is_row : List Da → Rv Da := mOf 1 u_is_row
def u_is_row_of : SS := sRet (xAnd (xCall m_is_row (xsc (xV 0) (xs0))) (xCh pLe pLe (xB 1) (x1 pLen (xB 0)) (xB 2)))
def m_is_row_of : List Da → Rv Da := mOf 3 u_is_row_of
def u_has_only : SS := sRet (x1 pAll (xComp [2] (iSq (xB 0)) (setOne 2) (zYes) (x2 pIn (xB 2) (xB 1))))
def m_has_only : List Da → Rv Da := mOf 3 u_has_only
def u_is_letters : SS := sRet (xAnd (x1 (pIsi .str) (xB 0)) (xCall m_has_only (xsc (xV 0) (xsc (xK (.str "abcdefghijklmnopqrstuvwxyz")) (xs0)))))
def m_is_letters : List Da → Rv Da := mOf 1 u_is_letters
def u_is_letters_of : SS := sRet (xAnd (xCall m_is_letters (xsc (xV 0) (xs0))) (xCh pLe pLe (xB 1) (x1 pLen (xB 0)) (xB 2)))
def m_is_letters_of : List Da → Rv Da := mOf 3 u_is_letters_of
def u_want_int : SS := sIf (zNot (zTru (xCall m_is_between (xsc (xV 0) (xsc (xV 1) (xsc (xV 2) (xs0))))))) (sRaiseV 0 (xV 3)) (sNx)
def m_want_int : List Da → Rv Da := mOf 4 u_want_int
def u_is_word : SS := sRet (xCall m_is_letters_of (xsc (xV 0) (xsc (xK (.int 1)) (xsc (xK (.int 6)) (xs0)))))
def m_is_word : List Da → Rv Da := mOf 1 u_is_word
def u_is_list : SS := sSeq (sIf (zOr (zNot (zTru (xCall m_is_row_of (xsc (xV 0) (xsc (xK (.int 1)) (xsc (xK (.int 8)) (xs0))))))) (zNot (zTru (x1 pAll (xComp [1] (iSq (xB 0)) (setOne 1) (zYes) (xCall m_is_word (xsc (xV 1) (xs0)))))))) (sRet (xK (.bool false))) (sNx)) (sRet (x2 pEq (xSLen goodK cntK [1] (iSq (xB 0)) (setOne 1) (zYes) (xV 1)) (x1 pLen (xB 0))))
def m_is_list : List Da → Rv Da := mOf 2 u_is_list
def u_want_list : SS := sSeq (sIf (zNot (zTru (xCall m_is_list (xsc (xV 0) (xs0))))) (sRaiseV 0 (xV 1)) (sNx)) (sRet (x1 pTup (xB 0)))
def m_want_list : List Da → Rv Da := mOf 2 u_want_list
def u_begun : SS := sSeq (sSet 0 (xCall m_want_list (xsc (xV 0) (xsc (xK (.int 1)) (xs0))))) (sSeq (sFor (iR1 (x1 pLen (xB 0))) (setOne 1) (sFor (iR1 (x1 pLen (xB 0))) (setOne 2) (sIf (zAnd (zB (x2 pNe (xB 1) (xB 2))) (zTru (xM1 asStr mStarts (x2 pIx (xB 0) (xB 2)) (x2 pIx (xB 0) (xB 1))))) (sRet (xTup (xsc (xV 1) (xsc (xV 2) (xs0))))) (sNx)))) (sRet (xK .none)))
def m_begun : List Da → Rv Da := mOf 3 u_begun
def u_want_word : SS := sSeq (sSet 0 (xCall m_want_list (xsc (xV 0) (xsc (xK (.int 1)) (xs0))))) (sSeq (sDrop (xCall m_want_int (xsc (xV 1) (xsc (xK (.int 0)) (xsc (x2 pSub (x1 pLen (xB 0)) (xK (.int 1))) (xsc (xK (.int 2)) (xs0))))))) (sRet (xV 0)))
def m_want_word : List Da → Rv Da := mOf 2 u_want_word
def u_other_words : SS := sRet (xComp [2, 3] (iEn (xB 0)) (setTup [2, 3]) (zB (x2 pNe (xB 2) (xB 1))) (xV 3))
def m_other_words : List Da → Rv Da := mOf 4 u_other_words
def u_first_number : SS := sSeq (sIf (zB (x2 pNotIn (xK (.bool true)) (xB 0))) (sRet (xK .none)) (sNx)) (sRet (xM1 asList mIndex (xB 0) (xK (.bool true))))
def m_first_number : List Da → Rv Da := mOf 1 u_first_number
def u_fits_short : SS := sSeq (sIf (zOr (zNot (zTru (xCall m_is_letters_of (xsc (xV 2) (xsc (xK (.int 1)) (xsc (xK (.int 6)) (xs0))))))) (zNot (zTru (xM1 asStr mStarts (x2 pIx (xB 0) (xB 1)) (xB 2))))) (sRet (xK (.bool false))) (sNx)) (sRet (xNot (x1 pAny (xComp [3] (iSq (xCall m_other_words (xsc (xV 0) (xsc (xV 1) (xs0))))) (setOne 3) (zYes) (xM1 asStr mStarts (xB 3) (xB 2))))))
def m_fits_short : List Da → Rv Da := mOf 4 u_fits_short
def u_shortest_form : SS := sSeq (sSet 2 (x2 pIx (xB 0) (xB 1))) (sSeq (sFor (iR2 (xK (.int 1)) (x2 pAdd (x1 pLen (xB 2)) (xK (.int 1)))) (setOne 3) (sIf (zTru (xCall m_fits_short (xsc (xV 0) (xsc (xV 1) (xsc (xCut pCut (xB 2) (oNo) (oAt (xV 3))) (xs0)))))) (sRet (xCut pCut (xB 2) (oNo) (oAt (xV 3)))) (sNx))) (sRet (xK .none)))
def m_shortest_form : List Da → Rv Da := mOf 4 u_shortest_form
def u_short_form : SS := sSeq (sSet 0 (xCall m_want_word (xsc (xV 0) (xsc (xV 1) (xs0))))) (sRet (xCall m_shortest_form (xsc (xV 0) (xsc (xV 1) (xs0)))))
def m_short_form : List Da → Rv Da := mOf 2 u_short_form
def u_short_forms : SS := sSeq (sSet 0 (xCall m_want_list (xsc (xV 0) (xsc (xK (.int 1)) (xs0))))) (sRet (x1 pTup (xComp [1] (iR1 (x1 pLen (xB 0))) (setOne 1) (zYes) (xCall m_shortest_form (xsc (xV 0) (xsc (xV 1) (xs0)))))))
def m_short_forms : List Da → Rv Da := mOf 2 u_short_forms
def u_is_short : SS := sSeq (sSet 0 (xCall m_want_word (xsc (xV 0) (xsc (xV 1) (xs0))))) (sRet (xCall m_fits_short (xsc (xV 0) (xsc (xV 1) (xsc (xV 2) (xs0))))))
def m_is_short : List Da → Rv Da := mOf 3 u_is_short
def u_cover_of : SS := sSeq (sSet 0 (xCall m_want_word (xsc (xV 0) (xsc (xV 1) (xs0))))) (sRet (xCall m_first_number (xsc (xComp [2, 3] (iEn (xB 0)) (setTup [2, 3]) (zYes) (xAnd (x2 pNe (xB 2) (xB 1)) (xM1 asStr mStarts (xB 3) (x2 pIx (xB 0) (xB 1))))) (xs0))))
def m_cover_of : List Da → Rv Da := mOf 4 u_cover_of
def u_fits_mark : SS := sSeq (sIf (zOr (zNot (zTru (xCall m_is_letters_of (xsc (xV 2) (xsc (xK (.int 1)) (xsc (xK (.int 6)) (xs0))))))) (zB (x2 pNotIn (xB 2) (x2 pIx (xB 0) (xB 1))))) (sRet (xK (.bool false))) (sNx)) (sRet (xNot (x1 pAny (xComp [3] (iSq (xCall m_other_words (xsc (xV 0) (xsc (xV 1) (xs0))))) (setOne 3) (zYes) (x2 pIn (xB 2) (xB 3))))))
def m_fits_mark : List Da → Rv Da := mOf 4 u_fits_mark
def u_first_mark : SS := sSeq (sSet 2 (x2 pIx (xB 0) (xB 1))) (sSeq (sFor (iR2 (xK (.int 1)) (x2 pAdd (x1 pLen (xB 2)) (xK (.int 1)))) (setOne 3) (sSeq (sSet 4 (x1 pSorted (xComp [6] (iR1 (x2 pAdd (x2 pSub (x1 pLen (xB 2)) (xB 3)) (xK (.int 1)))) (setOne 6) (zYes) (xCut pCut (xB 2) (oAt (xV 6)) (oAt (x2 pAdd (xB 6) (xB 3))))))) (sFor (iSq (xV 4)) (setOne 5) (sIf (zTru (xCall m_fits_mark (xsc (xV 0) (xsc (xV 1) (xsc (xV 5) (xs0)))))) (sRet (xV 5)) (sNx))))) (sRet (xK .none)))
def m_first_mark : List Da → Rv Da := mOf 7 u_first_mark
def u_mark_of : SS := sSeq (sSet 0 (xCall m_want_word (xsc (xV 0) (xsc (xV 1) (xs0))))) (sRet (xCall m_first_mark (xsc (xV 0) (xsc (xV 1) (xs0)))))
def m_mark_of : List Da → Rv Da := mOf 2 u_mark_of
def u_marks : SS := sSeq (sSet 0 (xCall m_want_list (xsc (xV 0) (xsc (xK (.int 1)) (xs0))))) (sRet (x1 pTup (xComp [1] (iR1 (x1 pLen (xB 0))) (setOne 1) (zYes) (xCall m_first_mark (xsc (xV 0) (xsc (xV 1) (xs0)))))))
def m_marks : List Da → Rv Da := mOf 2 u_marks
def u_holder_of : SS := sSeq (sSet 0 (xCall m_want_word (xsc (xV 0) (xsc (xV 1) (xs0))))) (sRet (xCall m_first_number (xsc (xComp [2, 3] (iEn (xB 0)) (setTup [2, 3]) (zYes) (xAnd (x2 pNe (xB 2) (xB 1)) (x2 pIn (x2 pIx (xB 0) (xB 1)) (xB 3)))) (xs0))))
def m_holder_of : List Da → Rv Da := mOf 4 u_holder_of
def u_is_mark : SS := sSeq (sSet 0 (xCall m_want_word (xsc (xV 0) (xsc (xV 1) (xs0))))) (sRet (xCall m_fits_mark (xsc (xV 0) (xsc (xV 1) (xsc (xV 2) (xs0))))))
def m_is_mark : List Da → Rv Da := mOf 3 u_is_mark
def u__law_limit : SS := sSeq (sSet 0 (xK (.int 1))) (sSeq (sFor (iR1 (xK (.int 9))) (setOne 1) (sSet 0 (x2 pMul (xB 0) (x2 pPow (xK (.int 10)) (xK (.int 64)))))) (sRet (xV 0)))
def m__law_limit : List Da → Rv Da := mOf 2 u__law_limit
def u__law_cell : SS := sSeq (sIf (zB (x2 pLt (xB 1) (x1 pLen (xB 0)))) (sRet (x2 pMod (x1 pInt (x2 pIx (xB 0) (xB 1))) (xCall m__law_limit xs0))) (sNx)) (sRet (xK (.int 0)))
def m__law_cell : List Da → Rv Da := mOf 2 u__law_cell
def u__law_numbers : SS := sSeq (sSet 3 (xCall m__law_cell (xsc (xV 0) (xsc (xV 1) (xs0))))) (sSeq (sSet 4 (x2 pMod (x1 pInt (xB 3)) (xK (.int 2147483647)))) (sSeq (sOwn 5 (xLst (xs0))) (sSeq (sSet 6 (xV 3)) (sSeq (sFor (iR1 (xB 2)) (setOne 7) (sIf (zAnd (zB (x2 pGe (xB 3) (x2 pPow (xK (.int 10)) (xK (.int 18))))) (zB (x2 pGt (xB 6) (xK (.int 0))))) (sSeq (sApp 5 (x2 pMod (x1 pInt (xB 6)) (x2 pPow (xK (.int 10)) (xK (.int 9))))) (sSet 6 (x2 pDiv (xB 6) (x2 pPow (xK (.int 10)) (xK (.int 9)))))) (sSeq (sSet 8 (x2 pMod (x1 pInt (x2 pAdd (x2 pAdd (x2 pMul (xB 4) (xK (.int 48271))) (x2 pMul (x2 pAdd (xB 7) (xK (.int 1))) (xK (.int 69621)))) (xB 1))) (xK (.int 2147483647)))) (sApp 5 (x2 pMod (x2 pMod (x1 pInt (x2 pAdd (x2 pMul (xB 8) (xK (.int 16807))) (x2 pMul (x2 pAdd (xB 7) (xK (.int 3))) (xK (.int 40692))))) (xK (.int 2147483399))) (x2 pPow (xK (.int 10)) (xK (.int 9)))))))) (sFrz [5] (sRet (xV 5)))))))
def m__law_numbers : List Da → Rv Da := mOf 9 u__law_numbers
def m__law_same : Nat → List Da → Rv Da
  | 0 => fun _ => .bad
  | n + 1 => mOf 3 (sSeq (sIf (zOr (zTru (x1 (pIsi .tuple) (xB 1))) (zTru (x1 (pIsi .tuple) (xB 0)))) (sSeq (sIf (zOr (zNot (zTru (x1 (pIsi .tuple) (xB 0)))) (zOr (zNot (zTru (x1 (pIsi .tuple) (xB 1)))) (zB (x2 pNe (x1 pLen (xB 0)) (x1 pLen (xB 1)))))) (sRet (xK (.bool false))) (sNx)) (sSeq (sFor (iR1 (x1 pLen (xB 1))) (setOne 2) (sIf (zNot (zTru (xCall (m__law_same n) (xsc (x2 pIx (xB 0) (xB 2)) (xsc (x2 pIx (xB 1) (xB 2)) (xs0)))))) (sRet (xK (.bool false))) (sNx))) (sRet (xK (.bool true))))) (sNx)) (sSeq (sIf (zOr (zB (x2 pIs (xB 0) (xK .none))) (zB (x2 pIs (xB 1) (xK .none)))) (sRet (xAnd (x2 pIs (xB 0) (xK .none)) (x2 pIs (xB 1) (xK .none)))) (sNx)) (sSeq (sIf (zOr (zB (x2 pNe (x1 (pIsi .bool) (xB 0)) (x1 (pIsi .bool) (xB 1)))) (zB (x2 pNe (x1 (pIsi .str) (xB 0)) (x1 (pIsi .str) (xB 1))))) (sRet (xK (.bool false))) (sNx)) (sRet (xAnd (x1 (pIsiT [.int, .str]) (xB 0)) (xAnd (x1 (pIsiT [.int, .str]) (xB 1)) (x2 pEq (xB 0) (xB 1))))))))
def u__law_word : SS := sSeq (sSet 2 (xK (.str ""))) (sSeq (sSet 3 (x1 pInt (x2 pDiv (xB 0) (xK (.int 6))))) (sSeq (sFor (iR1 (x2 pAdd (xK (.int 1)) (x2 pMod (x1 pInt (xB 0)) (x2 pIx (xLst (xsc (xK (.int 3)) (xsc (xK (.int 2)) (xsc (xK (.int 4)) (xs0))))) (x2 pMod (x1 pInt (x2 pDiv (xB 0) (xK (.int 3)))) (xK (.int 3))))))) (setOne 4) (sSeq (sSet 2 (x2 pAdd (xB 2) (x2 pIx (xK (.str "abc")) (x2 pMod (x1 pInt (xB 3)) (xB 1))))) (sSet 3 (x2 pDiv (xB 3) (xB 1))))) (sRet (xV 2))))
def m__law_word : List Da → Rv Da := mOf 5 u__law_word
def u__law_list : SS := sSeq (sSet 1 (x2 pIx (xLst (xsc (xK (.int 2)) (xsc (xK (.int 2)) (xsc (xK (.int 3)) (xsc (xK (.int 1)) (xs0)))))) (x2 pMod (x1 pInt (x2 pIx (xB 0) (xK (.int 0)))) (xK (.int 4))))) (sSeq (sOwn 2 (xLst (xs0))) (sSeq (sFor (iR1 (x2 pAdd (xK (.int 1)) (x2 pMod (x1 pInt (x2 pDiv (x2 pIx (xB 0) (xK (.int 0))) (xK (.int 4)))) (xK (.int 6))))) (setOne 3) (sSeq (sSet 4 (xCall m__law_word (xsc (x2 pIx (xB 0) (x2 pAdd (xK (.int 1)) (xB 3))) (xsc (xV 1) (xs0))))) (sSeq (sIf (zAnd (zB (x2 pEq (x2 pMod (x1 pInt (x2 pDiv (x2 pIx (xB 0) (xK (.int 0))) (xK (.int 24)))) (xK (.int 3))) (xK (.int 0)))) (zB (x2 pNe (xB 2) (xLst (xs0))))) (sSet 4 (xCut pCut (x2 pAdd (x2 pIx (xB 2) (x2 pMod (x1 pInt (x2 pDiv (x2 pIx (xB 0) (x2 pAdd (xK (.int 1)) (xB 3))) (xK (.int 50)))) (x1 pLen (xB 2)))) (xB 4)) (oNo) (oAt (xK (.int 6))))) (sNx)) (sIf (zB (x2 pNotIn (xB 4) (xB 2))) (sApp 2 (xV 4)) (sNx))))) (sRet (x1 pTup (xB 2)))))
def m__law_list : List Da → Rv Da := mOf 5 u__law_list
def u__law_begins : SS := sRet (x2 pEq (xCut pCut (xB 1) (oNo) (oAt (x1 pLen (xB 0)))) (xB 0))
def m__law_begins : List Da → Rv Da := mOf 2 u__law_begins
def u__law_holds : SS := sRet (x2 pNe (xComp [2] (iR1 (x1 pLen (xB 0))) (setOne 2) (zB (x2 pEq (xCut pCut (xB 0) (oAt (xV 2)) (oAt (x2 pAdd (xB 2) (x1 pLen (xB 1))))) (xB 1))) (xV 2)) (xLst (xs0)))
def m__law_holds : List Da → Rv Da := mOf 3 u__law_holds
def u__law_is_short : SS := sSeq (sIf (zOr (zB (x2 pEq (xB 2) (xK (.str "")))) (zNot (zTru (xCall m__law_begins (xsc (xV 2) (xsc (x2 pIx (xB 0) (xB 1)) (xs0))))))) (sRet (xK (.bool false))) (sNx)) (sRet (x2 pEq (xComp [3] (iR1 (x1 pLen (xB 0))) (setOne 3) (zAnd (zB (x2 pNe (xB 3) (xB 1))) (zTru (xCall m__law_begins (xsc (xV 2) (xsc (x2 pIx (xB 0) (xB 3)) (xs0)))))) (xV 3)) (xLst (xs0))))
def m__law_is_short : List Da → Rv Da := mOf 4 u__law_is_short
def u__law_is_mark : SS := sSeq (sIf (zOr (zB (x2 pEq (xB 2) (xK (.str "")))) (zNot (zTru (xCall m__law_holds (xsc (x2 pIx (xB 0) (xB 1)) (xsc (xV 2) (xs0))))))) (sRet (xK (.bool false))) (sNx)) (sRet (x2 pEq (xComp [3] (iR1 (x1 pLen (xB 0))) (setOne 3) (zAnd (zB (x2 pNe (xB 3) (xB 1))) (zTru (xCall m__law_holds (xsc (x2 pIx (xB 0) (xB 3)) (xsc (xV 2) (xs0)))))) (xV 3)) (xLst (xs0))))
def m__law_is_mark : List Da → Rv Da := mOf 4 u__law_is_mark
def u__law_parts : SS := sSeq (sSet 1 (xLst (xs0))) (sSeq (sFor (iR2 (xK (.int 1)) (x2 pAdd (x1 pLen (xB 0)) (xK (.int 1)))) (setOne 2) (sSet 1 (x2 pAdd (xB 1) (x1 pSorted (xComp [3] (iR1 (x2 pAdd (x2 pSub (x1 pLen (xB 0)) (xB 2)) (xK (.int 1)))) (setOne 3) (zYes) (xCut pCut (xB 0) (oAt (xV 3)) (oAt (x2 pAdd (xB 3) (xB 2))))))))) (sRet (xV 1)))
def m__law_parts : List Da → Rv Da := mOf 4 u__law_parts
def u__law_word_of : SS := sSeq (sSet 3 (xComp [9] (iR2 (xK (.int 1)) (x2 pAdd (x1 pLen (x2 pIx (xB 0) (xB 1))) (xK (.int 1)))) (setOne 9) (zTru (xCall m__law_is_short (xsc (xV 0) (xsc (xV 1) (xsc (xCut pCut (x2 pIx (xB 0) (xB 1)) (oNo) (oAt (xV 9))) (xs0)))))) (xCut pCut (x2 pIx (xB 0) (xB 1)) (oNo) (oAt (xV 9))))) (sSeq (sSet 4 (xComp [10] (iR1 (x1 pLen (xB 0))) (setOne 10) (zAnd (zB (x2 pNe (xB 10) (xB 1))) (zTru (xCall m__law_begins (xsc (x2 pIx (xB 0) (xB 1)) (xsc (x2 pIx (xB 0) (xB 10)) (xs0)))))) (xV 10))) (sSeq (sSet 5 (xComp [11] (iSq (xCall m__law_parts (xsc (x2 pIx (xB 0) (xB 1)) (xs0)))) (setOne 11) (zTru (xCall m__law_is_mark (xsc (xV 0) (xsc (xV 1) (xsc (xV 11) (xs0)))))) (xV 11))) (sSeq (sSet 6 (xComp [10] (iR1 (x1 pLen (xB 0))) (setOne 10) (zAnd (zB (x2 pNe (xB 10) (xB 1))) (zTru (xCall m__law_holds (xsc (x2 pIx (xB 0) (xB 10)) (xsc (x2 pIx (xB 0) (xB 1)) (xs0)))))) (xV 10))) (sSeq (sIf (zOr (zB (x2 pNe (xCall m_short_form (xsc (xV 0) (xsc (xV 1) (xs0)))) (x2 pIx (x2 pAdd (xB 3) (xLst (xsc (xK .none) (xs0)))) (xK (.int 0))))) (zOr (zNot (zTru (xCall (m__law_same 6) (xsc (xCall m_cover_of (xsc (xV 0) (xsc (xV 1) (xs0)))) (xsc (x2 pIx (x2 pAdd (xB 4) (xLst (xsc (xK .none) (xs0)))) (xK (.int 0))) (xs0)))))) (zB (x2 pNe (x2 pEq (xB 3) (xLst (xs0))) (x2 pNe (xB 4) (xLst (xs0))))))) (sRet (xK (.bool false))) (sNx)) (sSeq (sIf (zOr (zB (x2 pNe (xCall m_mark_of (xsc (xV 0) (xsc (xV 1) (xs0)))) (x2 pIx (x2 pAdd (xB 5) (xLst (xsc (xK .none) (xs0)))) (xK (.int 0))))) (zOr (zNot (zTru (xCall (m__law_same 6) (xsc (xCall m_holder_of (xsc (x1 pLst (xB 0)) (xsc (xV 1) (xs0)))) (xsc (x2 pIx (x2 pAdd (xB 6) (xLst (xsc (xK .none) (xs0)))) (xK (.int 0))) (xs0)))))) (zB (x2 pNe (x2 pEq (xB 5) (xLst (xs0))) (x2 pNe (xB 6) (xLst (xs0))))))) (sRet (xK (.bool false))) (sNx)) (sSeq (sSet 7 (xComp [12] (iSq (xB 2)) (setOne 12) (zYes) (xCall m__law_word (xsc (xV 12) (xsc (xK (.int 3)) (xs0)))))) (sSeq (sFor (iSq (x2 pAdd (x2 pAdd (xCall m__law_parts (xsc (x2 pIx (xB 0) (xB 1)) (xs0))) (xB 7)) (xLst (xsc (xK (.str "")) (xsc (x2 pAdd (x2 pIx (xB 0) (xB 1)) (xK (.str "a"))) (xs0)))))) (setOne 8) (sIf (zOr (zNot (zTru (xCall (m__law_same 6) (xsc (xCall m_is_short (xsc (xV 0) (xsc (xV 1) (xsc (xV 8) (xs0))))) (xsc (xCall m__law_is_short (xsc (xV 0) (xsc (xV 1) (xsc (xV 8) (xs0))))) (xs0)))))) (zNot (zTru (xCall (m__law_same 6) (xsc (xCall m_is_mark (xsc (xV 0) (xsc (xV 1) (xsc (xV 8) (xs0))))) (xsc (xCall m__law_is_mark (xsc (xV 0) (xsc (xV 1) (xsc (xV 8) (xs0))))) (xs0))))))) (sRet (xK (.bool false))) (sNx))) (sRet (xAnd (x2 pIs (xCall m_is_short (xsc (xV 0) (xsc (xV 1) (xsc (xK .none) (xs0))))) (xK (.bool false))) (x2 pIs (xCall m_is_mark (xsc (xV 0) (xsc (xV 1) (xsc (xK (.int 7)) (xs0))))) (xK (.bool false))))))))))))
def m__law_word_of : List Da → Rv Da := mOf 13 u__law_word_of
def u_law : SS := sSeq (sSet 1 (xCall m__law_list (xsc (xCall m__law_numbers (xsc (xV 0) (xsc (xK (.int 0)) (xsc (xK (.int 8)) (xs0))))) (xs0)))) (sSeq (sSet 2 (xCall m__law_numbers (xsc (xV 0) (xsc (xK (.int 1)) (xsc (xK (.int 4)) (xs0)))))) (sSeq (sFor (iR1 (x1 pLen (xB 1))) (setOne 3) (sIf (zNot (zTru (xCall m__law_word_of (xsc (xV 1) (xsc (xV 3) (xsc (xV 2) (xs0))))))) (sRet (xK (.bool false))) (sNx))) (sSeq (sSet 4 (x1 pTup (xComp [3] (iR1 (x1 pLen (xB 1))) (setOne 3) (zYes) (xCall m_short_form (xsc (xV 1) (xsc (xV 3) (xs0))))))) (sSeq (sIf (zOr (zNot (zTru (xCall (m__law_same 6) (xsc (xCall m_short_forms (xsc (x1 pLst (xB 1)) (xs0))) (xsc (xV 4) (xs0)))))) (zNot (zTru (xCall (m__law_same 6) (xsc (xCall m_marks (xsc (xV 1) (xs0))) (xsc (x1 pTup (xComp [3] (iR1 (x1 pLen (xB 1))) (setOne 3) (zYes) (xCall m_mark_of (xsc (xV 1) (xsc (xV 3) (xs0)))))) (xs0))))))) (sRet (xK (.bool false))) (sNx)) (sSeq (sIf (zAnd (zB (x2 pNotIn (xK .none) (xB 4))) (zB (x2 pIsNot (xCall m_begun (xsc (xV 4) (xs0))) (xK .none)))) (sRet (xK (.bool false))) (sNx)) (sSeq (sTryAt 5 (sDrop (xCall m_short_form (xsc (xV 1) (xsc (x1 pLen (xB 1)) (xs0))))) 2) (sRet (xK (.bool false)))))))))
def m_law : List Da → Rv Da := mOf 6 u_law
end k61
end

section
set_option linter.all false
set_option maxRecDepth 100000
namespace k61
open L2 PySem
/-- letters alone -/
def Lt (w : W1) : Prop := w.length ≤ 50 ∧ ∀ c ∈ w, 97 ≤ c ∧ c < 123
def Wd (w : W1) : Prop := Lt w ∧ 1 ≤ w.length ∧ w.length ≤ 6
def abc : W1 := [97, 98, 99, 100, 101, 102, 103, 104, 105, 106, 107, 108, 109, 110, 111, 112, 113, 114, 115, 116, 117, 118, 119, 120, 121, 122]
theorem abc_eq : PyData.str "abcdefghijklmnopqrstuvwxyz" = mkS abc := by rfl
theorem in_abc : ∀ c : Fin 26, isInL [97 + c.val] abc = true := by decide +kernel
theorem in_abc' {c : Nat} (h : 97 ≤ c ∧ c < 123) : isInL [c] abc = true := by
  have := in_abc ⟨c - 97, by omega⟩
  have e : 97 + (c - 97) = c := by omega
  simpa [e] using this
theorem Lt.ok {w : W1} (h : Lt w) : okW w := fun c hc => by have := (h.2 c hc).2; omega
theorem Lt.sh {w : W1} (h : Lt w) : shortW w := by have := h.1; unfold shortW; omega
theorem cap_ok {ds : List Da} (h : ds.length ≤ 1000) : capL ds = .ok (.list ds) := by unfold capL; rw [if_pos (by omega)]
theorem mIsInt (i : Int) : m_is_int [.int i] = .ok (.bool true) := by simp [m_is_int, u_is_int, pIsi, notDict, Tc.has]
theorem mIsBetween (i lo hi : Int) : m_is_between [.int i, .int lo, .int hi] = .ok (.bool (decide (lo ≤ i) && decide (i ≤ hi))) := by
  by_cases h1 : lo ≤ i <;> simp [m_is_between, u_is_between, mIsInt, pLe, leD, h1]
theorem mHasOnly {w : W1} (h : Lt w) : m_has_only [mkS w, mkS abc] = .ok (.bool true) := by
  simp [m_has_only, u_has_only]
  rw [xComp_map (ds := w.map fun c => PyData.str ⟨#[c]⟩) (fun _ => PyData.bool true) rfl (by have := h.1; simp; omega)]
  · rw [rb_ok, pAll_true (by simp)]
    rfl
  · intro d hd
    obtain ⟨c, hc, rfl⟩ := List.mem_map.mp hd
    refine ⟨_, rfl, ?_⟩
    simp
    show Rv.ofO (pIn (mkS [c]) (mkS abc)) = _
    rw [pIn_str, in_abc' (h.2 c hc)]; rfl
theorem mIsLetters {w : W1} (h : Lt w) : m_is_letters [mkS w] = .ok (.bool true) := by
  simp [m_is_letters, u_is_letters, pIsi, notDict, Tc.has, abc_eq, mHasOnly h]
theorem mIsLettersOf {w : W1} (h : Lt w) (lo hi : Int) : m_is_letters_of [mkS w, .int lo, .int hi] = .ok (.bool (decide (lo ≤ (w.length : Int)) && decide ((w.length : Int) ≤ hi))) := by
  by_cases h1 : lo ≤ (w.length : Int) <;> simp [m_is_letters_of, u_is_letters_of, mIsLetters h, pLen_str h.sh, pLe, leD, h1]
theorem mIsLettersOfN (lo hi : Int) : m_is_letters_of [.none, .int lo, .int hi] = .ok (.bool false) := by simp [m_is_letters_of, u_is_letters_of, m_is_letters, u_is_letters, pIsi, notDict, Tc.has]
theorem mIsLettersOfI (i lo hi : Int) : m_is_letters_of [.int i, .int lo, .int hi] = .ok (.bool false) := by simp [m_is_letters_of, u_is_letters_of, m_is_letters, u_is_letters, pIsi, notDict, Tc.has]
theorem mIsWord {w : W1} (h : Wd w) : m_is_word [mkS w] = .ok (.bool true) := by
  have h1 : (1 : Int) ≤ (w.length : Int) := by have := h.2.1; omega
  have h2 : (w.length : Int) ≤ 6 := by have := h.2.2; omega
  simp [m_is_word, u_is_word, mIsLettersOf h.1, h1, h2]
theorem mIsRow (ds : List Da) : m_is_row [.tuple ds] = .ok (.bool true) := by simp [m_is_row, u_is_row, pIsiT, notDict, Tc.has]
theorem mIsRowL (ds : List Da) : m_is_row [.list ds] = .ok (.bool true) := by simp [m_is_row, u_is_row, pIsiT, notDict, Tc.has]
theorem mIsRowOf (ds : List Da) (lo hi : Int) : m_is_row_of [.tuple ds, .int lo, .int hi] = .ok (.bool (decide (lo ≤ (ds.length : Int)) && decide ((ds.length : Int) ≤ hi))) := by
  by_cases h1 : lo ≤ (ds.length : Int) <;> simp [m_is_row_of, u_is_row_of, mIsRow, pLe, leD, h1]
theorem mIsRowOfL (ds : List Da) (lo hi : Int) : m_is_row_of [.list ds, .int lo, .int hi] = .ok (.bool (decide (lo ≤ (ds.length : Int)) && decide ((ds.length : Int) ≤ hi))) := by
  by_cases h1 : lo ≤ (ds.length : Int) <;> simp [m_is_row_of, u_is_row_of, mIsRowL, pLe, leD, h1]
structure V (ws : List W1) : Prop where
  pos : 1 ≤ ws.length
  le : ws.length ≤ 8
  wd : ∀ w ∈ ws, Wd w
  nd : ws.Nodup
section
variable {ws : List W1} (v : V ws)
include v
theorem V.okS : ∀ w ∈ ws, okW w := fun w hw => (v.wd w hw).1.ok
theorem mIsList : m_is_list [.tuple (sLs ws)] = .ok (.bool true) := by
  have h1 : (1 : Int) ≤ ((sLs ws).length : Int) := by have := v.pos; simp; omega
  have h2 : ((sLs ws).length : Int) ≤ 8 := by have := v.le; simp; omega
  simp only [m_is_list, u_is_list, mOf, sSeq, sIf, sRet, zOr, zNot, zTru, xCall, xsc, xs0, xV, xB, xK, x1, List.map_cons, List.map_nil, List.length_cons, List.length_nil, List.cons_append, List.nil_append, List.getElem?_cons_zero, rb_ok]
  rw [mIsRowOf]
  simp only [h1, h2, decide_true, Bool.and_self, rb_ok, truD_b, ro_some, Bool.not_true]
  rw [xComp_map (ds := sLs ws) (fun _ => PyData.bool true) (by simp) (by have := v.le; simp; omega)]
  · simp only [rb_ok]
    rw [pAll_true (by simp)]
    simp
    rw [xSLen_map (ds := sLs ws) id (by simp) (by rw [List.map_id]; exact good_strs (by have := v.le; omega)) (by
      intro d _
      exact ⟨_, rfl, by simp⟩)]
    rw [List.map_id, cnt_strs v.nd]
    simp [pEq_int]
  · intro d hd
    obtain ⟨w, hw, rfl⟩ := List.mem_map.mp hd
    refine ⟨_, rfl, ?_⟩
    simp [mIsWord (v.wd w hw)]
theorem mIsListL : m_is_list [.list (sLs ws)] = .ok (.bool true) := by
  have h1 : (1 : Int) ≤ ((sLs ws).length : Int) := by have := v.pos; simp; omega
  have h2 : ((sLs ws).length : Int) ≤ 8 := by have := v.le; simp; omega
  simp only [m_is_list, u_is_list, mOf, sSeq, sIf, sRet, zOr, zNot, zTru, xCall, xsc, xs0, xV, xB, xK, x1, List.map_cons, List.map_nil, List.length_cons, List.length_nil, List.cons_append, List.nil_append, List.getElem?_cons_zero, rb_ok]
  rw [mIsRowOfL]
  simp only [h1, h2, decide_true, Bool.and_self, rb_ok, truD_b, ro_some, Bool.not_true]
  rw [xComp_map (ds := sLs ws) (fun _ => PyData.bool true) (by simp) (by have := v.le; simp; omega)]
  · simp only [rb_ok]
    rw [pAll_true (by simp)]
    simp
    rw [xSLen_map (ds := sLs ws) id (by simp) (by rw [List.map_id]; exact good_strs (by have := v.le; omega)) (by
      intro d _
      exact ⟨_, rfl, by simp⟩)]
    rw [List.map_id, cnt_strs v.nd]
    simp [pEq_int]
  · intro d hd
    obtain ⟨w, hw, rfl⟩ := List.mem_map.mp hd
    refine ⟨_, rfl, ?_⟩
    simp [mIsWord (v.wd w hw)]
/-- a row of the words: a tuple or a list -/
def Row (ws : List W1) (r : Da) : Prop := r = .tuple (sLs ws) ∨ r = .list (sLs ws)
theorem mWantList {r : Da} (h : Row ws r) (a : Int) : m_want_list [r, .int a] = .ok (.tuple (sLs ws)) := by
  rcases h with rfl | rfl <;> simp [m_want_list, u_want_list, mIsList v, mIsListL v]
omit v in
theorem mWantInt {i lo hi : Int} (a : Int) (h : lo ≤ i ∧ i ≤ hi) : m_want_int [.int i, .int lo, .int hi, .int a] = .ok .none := by
  simp [m_want_int, u_want_int, mIsBetween, h.1, h.2]
omit v in
theorem mWantIntX {i lo hi a : Int} (ha : 0 ≤ a ∧ a < 1000) (h : ¬ (lo ≤ i ∧ i ≤ hi)) : m_want_int [.int i, .int lo, .int hi, .int a] = .exc 0 (.int a) := by
  have e : (decide (lo ≤ i) && decide (i ≤ hi)) = false := by
    cases q : (decide (lo ≤ i) && decide (i ≤ hi)) with
    | false => rfl
    | true => simp at q; exact absurd q h
  simp [m_want_int, u_want_int, mIsBetween, e, sRaiseV, ha]
theorem mWantWord {r : Da} (h : Row ws r) {k : Nat} (hk : k < ws.length) : m_want_word [r, .int k] = .ok (.tuple (sLs ws)) := by
  simp [m_want_word, u_want_word, mWantList v h]
  rw [mWantInt 2 (by omega)]
  simp
theorem mWantWordX {r : Da} (h : Row ws r) : m_want_word [r, .int ws.length] = .exc 0 (.int 2) := by
  simp [m_want_word, u_want_word, mWantList v h]
  rw [mWantIntX (by omega) (by omega)]
  simp
def isOth (k : Nat) : Da → Bool
  | .tuple [.int j, _] => !decide (j = (k : Int))
  | _ => false
def snd2 : Da → Da
  | .tuple [_, w] => w
  | d => d
omit v in
theorem oth_eq (ws : List W1) (k : Nat) : ((enumD (sLs ws)).filter (isOth k)).map snd2 = sLs (others ws k) := by
  rw [enum_map, List.filter_map, List.map_map]
  unfold others sLs
  rw [List.map_map]
  have e : (isOth k ∘ fun p : W1 × Nat => PyData.tuple [.int (p.2 : Nat), mkS p.1]) = fun p => !decide (p.2 = k) := by
    funext p
    show (!decide ((p.2 : Int) = (k : Int))) = _
    congr 1
    rw [Bool.eq_iff_iff, decide_eq_true_iff, decide_eq_true_iff]
    omega
  rw [e]
  rfl
theorem mOther (k : Nat) : m_other_words [.tuple (sLs ws), .int k] = .ok (.list (sLs (others ws k))) := by
  simp [m_other_words, u_other_words]
  rw [xComp_fil (ds := enumD (sLs ws)) (isOth k) snd2 (by simp) (by have := v.le; simp [enum_map]; omega)]
  · rw [rt_ok, oth_eq]
  · intro d hd
    rw [enum_map] at hd
    obtain ⟨⟨w, j⟩, hj, rfl⟩ := List.mem_map.mp hd
    refine ⟨_, rfl, ?_, fun _ => ?_⟩
    · simp [setVals, pNe_int, isOth]
    · simp [setVals, snd2]
omit v in
theorem at_strs {k : Nat} {w : W1} (h : ws[k]? = some w) : (sLs ws)[k]? = some (mkS w) := by
  rw [List.getElem?_map, h]; rfl
omit v in
theorem pIxW {k : Nat} {w : W1} (h : ws[k]? = some w) : pIx (.tuple (sLs ws)) (.int k) = some (mkS w) := pIx_tup _ k _ (at_strs h)
/-- fits_short -/
def fS (ws : List W1) (k : Nat) (t : W1) : Bool := (decide (1 ≤ t.length) && decide (t.length ≤ 6)) && (begins t (ws.getD k []) && !(others ws k).any (begins t))
theorem oth_le (k : Nat) : (others ws k).length ≤ 8 := by
  unfold others
  rw [List.length_map]
  refine Nat.le_trans (List.length_filter_le _ _) ?_
  rw [List.length_zipIdx]
  exact v.le
theorem oth_mem {k : Nat} {w : W1} (h : w ∈ others ws k) : w ∈ ws := by
  unfold others at h
  obtain ⟨⟨w', j⟩, hm, rfl⟩ := List.mem_map.mp h
  exact List.mem_of_getElem? (List.mem_zipIdx_iff_getElem?.mp (List.mem_filter.mp hm).1)
theorem getD_eq {k : Nat} {w : W1} (h : ws[k]? = some w) : ws.getD k [] = w := by rw [List.getD_eq_getElem?_getD, h]; rfl
theorem mFitsShort {k : Nat} {w t : W1} (h : ws[k]? = some w) (ht : Lt t) : m_fits_short [.tuple (sLs ws), .int k, mkS t] = .ok (.bool (fS ws k t)) := by
  have e1 : decide ((1 : Int) ≤ (t.length : Int)) = decide (1 ≤ t.length) := by rw [Bool.eq_iff_iff, decide_eq_true_iff, decide_eq_true_iff]; omega
  have e2 : decide ((t.length : Int) ≤ 6) = decide (t.length ≤ 6) := by rw [Bool.eq_iff_iff, decide_eq_true_iff, decide_eq_true_iff]; omega
  unfold fS
  rw [getD_eq v h]
  simp only [m_fits_short, u_fits_short, mOf, sSeq, sIf, sRet, zOr, zNot, zTru, xCall, xsc, xs0, xV, xB, xK, x1, x2, xM1, xNot, List.map_cons, List.map_nil, List.length_cons, List.length_nil, List.cons_append, List.nil_append, List.getElem?_cons_zero, List.getElem?_cons_succ, rb_ok, mIsLettersOf ht, pIxW h, mStarts_str, mOther v, asStr, ro_some, truD_b, e1, e2]
  cases hA : (decide (1 ≤ t.length) && decide (t.length ≤ 6)) with
  | false => simp
  | true =>
    cases hB : begins t w with
    | false => simp [hB]
    | true =>
      simp [hB]
      rw [xComp_map (ds := sLs (others ws k)) (fun d => match d with | .str x => PyData.bool (begins t x.cps.toList) | d => d) (by simp [mOther v]) (by have := oth_le v k; simp; omega)]
      · simp only [rb_ok, List.map_map]
        have e3 : ((fun d => match d with | PyData.str x => PyData.bool (begins t x.cps.toList) | d => d) ∘ mkS) = fun x => PyData.bool (begins t x) := rfl
        rw [e3, pAny_f]
        simp
      · intro d hd
        obtain ⟨x, hx, rfl⟩ := List.mem_map.mp hd
        refine ⟨_, rfl, ?_⟩
        simp [mStarts_str]
/-- the pieces from the front -/
def pres (w : W1) : List W1 := (List.range w.length).map fun n => w.take (n + 1)
def toN : Da → Nat
  | .int i => i.toNat
  | _ => 0
omit v in
theorem Lt.take {w : W1} (h : Lt w) (n : Nat) : Lt (w.take n) := ⟨by rw [List.length_take]; have := h.1; omega, fun c hc => h.2 c (List.mem_of_mem_take hc)⟩
theorem mShortest {k : Nat} {w : W1} (h : ws[k]? = some w) : m_shortest_form [.tuple (sLs ws), .int k] = .ok (match (pres w).find? (fS ws k) with | some t => mkS t | none => .none) := by
  have hw := v.wd w (List.mem_of_getElem? h)
  simp only [m_shortest_form, u_shortest_form, mOf, sSeq, sSet, sRet, sFor, iR2, xK, x1, x2, xB, List.map_cons, List.map_nil, List.length_cons, List.length_nil, List.cons_append, List.nil_append, List.getElem?_cons_zero, List.getElem?_cons_succ, List.set_cons_succ, List.set_cons_zero, List.replicate, Nat.reduceSub, Nat.reduceAdd, rb_ok, rt_ok, ro_some, pIxW h, pLen_str hw.1.sh, pAdd_ii]
  rw [rng2_1 (by have := hw.2.2; omega)]
  simp only [ro_some, rt_ok]
  have key := forL_find (set := setOne 3) (body := sIf (zTru (xCall m_fits_short (xsc (xV 0) (xsc (xV 1) (xsc (xCut pCut (xB 2) oNo (oAt (xV 3))) xs0))))) (sRet (xCut pCut (xB 2) oNo (oAt (xV 3)))) sNx) (ρ0 := [])
    (fun d => fS ws k (w.take (toN d))) (fun d => mkS (w.take (toN d))) (fun ρ => ∃ x, ρ = [.val (.tuple (sLs ws)), .val (.int k), .val (mkS w), x]) (ds := nats1 w.length) (ρ := [.val (.tuple (sLs ws)), .val (.int k), .val (mkS w), .un]) ⟨_, rfl⟩ (by
      intro d hd ρ hρ
      obtain ⟨x, rfl⟩ := hρ
      obtain ⟨n, hn, rfl⟩ := List.mem_map.mp hd
      refine ⟨_, rfl, ?_⟩
      have e : toN (.int ((n + 1 : Nat) : Int)) = n + 1 := rfl
      have c : pCut none (some ((n + 1 : Nat) : Int)) (mkS w) = some (mkS (w.take (n + 1))) := by rw [pCut_str _ _ hw.1.sh, cut_to]
      rw [e]
      have m := mFitsShort v h (hw.1.take (n + 1))
      simp only [sIf, zTru, xCall, xsc, xs0, xV, xB, xCut, oNo, oAt, sRet, sNx, List.set_cons_succ, List.set_cons_zero, List.getElem?_cons_zero, List.getElem?_cons_succ, rb_ok, rt_ok, ro_some, c, m, truD_b]
      cases hq : fS ws k (w.take (n + 1)) with
      | true => simp only [if_true, rt_ok]
      | false => simp only [Bool.false_eq_true, if_false]; exact ⟨_, rfl, _, rfl⟩)
  have e2 : (nats1 w.length).find? (fun d => fS ws k (w.take (toN d))) = ((List.range w.length).find? fun n => fS ws k (w.take (n + 1))).map fun n => PyData.int ((n + 1 : Nat) : Int) := by
    unfold nats1
    rw [List.find?_map]
    rfl
  have e3 : (pres w).find? (fS ws k) = ((List.range w.length).find? fun n => fS ws k (w.take (n + 1))).map fun n => w.take (n + 1) := by
    unfold pres
    rw [List.find?_map]
    rfl
  rw [e2] at key
  rw [e3]
  cases hf : (List.range w.length).find? fun n => fS ws k (w.take (n + 1)) with
  | some n =>
    rw [hf] at key
    have key : forL _ _ _ _ = Out.rt (mkS (w.take (n + 1))) := key
    rw [key]
    rfl
  | none =>
    rw [hf] at key
    obtain ⟨ρ', key, _⟩ := key
    rw [key]
    rfl
theorem mShortForm {r : Da} (hr : Row ws r) {k : Nat} {w : W1} (h : ws[k]? = some w) : m_short_form [r, .int k] = .ok (match (pres w).find? (fS ws k) with | some t => mkS t | none => .none) := by
  have hk : k < ws.length := (List.getElem?_eq_some_iff.mp h).1
  simp [m_short_form, u_short_form, mWantWord v hr hk, mShortest v h]
theorem mShortFormX {r : Da} (hr : Row ws r) : m_short_form [r, .int ws.length] = .exc 0 (.int 2) := by
  simp [m_short_form, u_short_form, mWantWordX v hr]
theorem mIsShort {r : Da} (hr : Row ws r) {k : Nat} {w t : W1} (h : ws[k]? = some w) (ht : Lt t) : m_is_short [r, .int k, mkS t] = .ok (.bool (fS ws k t)) := by
  have hk : k < ws.length := (List.getElem?_eq_some_iff.mp h).1
  simp [m_is_short, u_is_short, mWantWord v hr hk, mFitsShort v h ht]
end
end k61
end

section
set_option linter.all false
set_option maxRecDepth 100000
namespace k61
open L2 PySem
theorem findIdx_b (bs : List Bool) : (bs.map PyData.bool).findIdx? (fun z => PyData.eqv z (.bool true)) = bs.findIdx? id := by
  rw [List.findIdx?_map]
  congr 1
  funext b
  cases b <;> simp [PyData.eqv]
theorem any_b (bs : List Bool) : ((bs.map PyData.bool).any fun z => PyData.eqv z (.bool true)) = bs.any id := by
  rw [List.any_map]
  congr 1
  funext b
  cases b <;> simp [PyData.eqv]
theorem shB (b : Bool) : SeqAt.shaped (.bool b) = true := by cases b <;> decide
theorem mFirst (bs : List Bool) : m_first_number [.list (bs.map .bool)] = .ok (match bs.findIdx? id with | some j => .int (j : Nat) | none => .none) := by
  have e1 : pNotIn (.bool true) (.list (bs.map .bool)) = some (.bool (!bs.any id)) := by
    show (inD (.bool true) (.list (bs.map .bool))).map _ = _
    have : inD (.bool true) (.list (bs.map .bool)) = some (bs.any id) := by
      show (if SeqAt.shaped (.bool true) = true ∧ SeqAt.shaped (.list (bs.map .bool)) = true then some (((bs.map PyData.bool).any fun z => PyData.eqv z (.bool true))) else none) = _
      rw [if_pos ⟨shB true, shLBool bs⟩, any_b]
    rw [this]; rfl
  have e2 : mIndex (bs.map .bool) (.bool true) = (bs.findIdx? id).map fun (j : Nat) => PyData.int (j : Int) := by
    show (if SeqAt.shaped (.bool true) = true ∧ SeqAt.shaped (.list (bs.map .bool)) = true then ((bs.map PyData.bool).findIdx? fun z => PyData.eqv z (.bool true)).map fun (j : Nat) => PyData.int (j : Int) else none) = _
    rw [if_pos ⟨shB true, shLBool bs⟩, findIdx_b]
  simp only [m_first_number, u_first_number, mOf, sSeq, sIf, sRet, sNx, zB, x2, xM1, asList, xK, xB, List.map_cons, List.map_nil, List.length_cons, List.length_nil, List.cons_append, List.nil_append, List.getElem?_cons_zero, rb_ok, rt_ok, ro_some, asB_b, e1, e2]
  cases h : bs.findIdx? id with
  | none =>
    have : bs.any id = false := by
      rw [List.findIdx?_eq_none_iff] at h
      rw [List.any_eq_false]
      intro x hx
      simpa using h x hx
    rw [this]
    rfl
  | some j =>
    have : bs.any id = true := by
      rw [List.findIdx?_eq_some_iff_getElem] at h
      obtain ⟨hl, h1, _⟩ := h
      exact List.any_eq_true.mpr ⟨bs[j], List.getElem_mem hl, h1⟩
    rw [this]
    simp [e2, h]
/-- the first place other than k at which p holds -/
def firstO (ws : List W1) (k : Nat) (p : W1 → Bool) : Option Nat := (ws.zipIdx.map fun q => !decide (q.2 = k) && p q.1).findIdx? id
def optN : Option Nat → Da
  | some j => .int (j : Nat)
  | none => .none
section
variable {ws : List W1} (v : V ws)
include v
theorem covG {k : Nat} {w : W1} (h : ws[k]? = some w) (p : W1 → Bool) {el : Sls → Rv Da} (hel : ∀ (j : Nat) (x : W1), el [.val (.tuple (sLs ws)), .val (.int k), .val (.int (j : Nat)), .val (mkS x)] = .ok (.bool (!decide (j = k) && p x))) :
    xCall m_first_number (xsc (xComp [2, 3] (iEn (xB 0)) (setTup [2, 3]) zYes el) xs0) [.val (.tuple (sLs ws)), .val (.int k), .un, .un] = .ok (optN (firstO ws k p)) := by
  have e : xComp [2, 3] (iEn (xB 0)) (setTup [2, 3]) zYes el [.val (.tuple (sLs ws)), .val (.int k), .un, .un] = .ok (.list ((ws.zipIdx.map fun q => !decide (q.2 = k) && p q.1).map .bool)) := by
    rw [xComp_map (ds := enumD (sLs ws)) (fun d => match d with | .tuple [.int j, .str x] => PyData.bool (!decide (j.toNat = k) && p x.cps.toList) | d => d) (by simp) (by have := v.le; simp [enum_map]; omega)]
    · rw [enum_map, List.map_map, List.map_map]
      rfl
    · intro d hd
      rw [enum_map] at hd
      obtain ⟨⟨x, j⟩, hj, rfl⟩ := List.mem_map.mp hd
      exact ⟨_, rfl, hel j x⟩
  simp only [xCall, xsc, xs0, e, rb_ok]
  rw [mFirst]
  rfl
theorem mCover {r : Da} (hr : Row ws r) {k : Nat} {w : W1} (h : ws[k]? = some w) : m_cover_of [r, .int k] = .ok (optN (firstO ws k (begins w))) := by
  have hk : k < ws.length := (List.getElem?_eq_some_iff.mp h).1
  simp only [m_cover_of, u_cover_of, mOf, sSeq, sSet, List.map_cons, List.map_nil, List.length_cons, List.length_nil, List.cons_append, List.nil_append, List.replicate, Nat.reduceSub, Nat.reduceAdd]
  have e1 : xCall m_want_word (xsc (xV 0) (xsc (xV 1) xs0)) [.val r, .val (.int k), .un, .un] = .ok (.tuple (sLs ws)) := by simp [mWantWord v hr hk]
  rw [e1]
  simp only [rt_ok, List.set_cons_zero, sRet]
  rw [covG v h (begins w) (fun j x => by
    have e2 : decide ((j : Int) = (k : Int)) = decide (j = k) := by rw [Bool.eq_iff_iff, decide_eq_true_iff, decide_eq_true_iff]; omega
    simp only [xAnd, x2, xM1, asStr, xB, List.getElem?_cons_zero, List.getElem?_cons_succ, rb_ok, ro_some, pNe_int, asB_b, e2, pIxW h, mStarts_str]
    cases decide (j = k) <;> simp)]
  rfl
theorem mHolder {r : Da} (hr : Row ws r) {k : Nat} {w : W1} (h : ws[k]? = some w) : m_holder_of [r, .int k] = .ok (optN (firstO ws k (isInL w))) := by
  have hk : k < ws.length := (List.getElem?_eq_some_iff.mp h).1
  simp only [m_holder_of, u_holder_of, mOf, sSeq, sSet, List.map_cons, List.map_nil, List.length_cons, List.length_nil, List.cons_append, List.nil_append, List.replicate, Nat.reduceSub, Nat.reduceAdd]
  have e1 : xCall m_want_word (xsc (xV 0) (xsc (xV 1) xs0)) [.val r, .val (.int k), .un, .un] = .ok (.tuple (sLs ws)) := by simp [mWantWord v hr hk]
  rw [e1]
  simp only [rt_ok, List.set_cons_zero, sRet]
  rw [covG v h (isInL w) (fun j x => by
    have e2 : decide ((j : Int) = (k : Int)) = decide (j = k) := by rw [Bool.eq_iff_iff, decide_eq_true_iff, decide_eq_true_iff]; omega
    simp only [xAnd, x2, xB, List.getElem?_cons_zero, List.getElem?_cons_succ, rb_ok, ro_some, pNe_int, asB_b, e2, pIxW h, pIn_str]
    cases decide (j = k) <;> simp)]
  rfl
/-- fits_mark -/
def fM (ws : List W1) (k : Nat) (t : W1) : Bool := (decide (1 ≤ t.length) && decide (t.length ≤ 6)) && (isInL t (ws.getD k []) && !(others ws k).any (isInL t))
theorem mFitsMark {k : Nat} {w t : W1} (h : ws[k]? = some w) (ht : Lt t) : m_fits_mark [.tuple (sLs ws), .int k, mkS t] = .ok (.bool (fM ws k t)) := by
  have e1 : decide ((1 : Int) ≤ (t.length : Int)) = decide (1 ≤ t.length) := by rw [Bool.eq_iff_iff, decide_eq_true_iff, decide_eq_true_iff]; omega
  have e2 : decide ((t.length : Int) ≤ 6) = decide (t.length ≤ 6) := by rw [Bool.eq_iff_iff, decide_eq_true_iff, decide_eq_true_iff]; omega
  unfold fM
  rw [getD_eq v h]
  simp only [m_fits_mark, u_fits_mark, mOf, sSeq, sIf, sRet, zOr, zNot, zTru, zB, xCall, xsc, xs0, xV, xB, xK, x1, x2, xNot, List.map_cons, List.map_nil, List.length_cons, List.length_nil, List.cons_append, List.nil_append, List.getElem?_cons_zero, List.getElem?_cons_succ, rb_ok, mIsLettersOf ht, pIxW h, pNotIn_str, mOther v, ro_some, truD_b, asB_b, e1, e2]
  cases hA : (decide (1 ≤ t.length) && decide (t.length ≤ 6)) with
  | false => simp
  | true =>
    cases hB : isInL t w with
    | false => simp [hB]
    | true =>
      simp [hB]
      rw [xComp_map (ds := sLs (others ws k)) (fun d => match d with | .str x => PyData.bool (isInL t x.cps.toList) | d => d) (by simp [mOther v]) (by have := oth_le v k; simp; omega)]
      · simp only [rb_ok, List.map_map]
        have e3 : ((fun d => match d with | PyData.str x => PyData.bool (isInL t x.cps.toList) | d => d) ∘ mkS) = fun x => PyData.bool (isInL t x) := rfl
        rw [e3, pAny_f]
        simp
      · intro d hd
        obtain ⟨x, hx, rfl⟩ := List.mem_map.mp hd
        refine ⟨_, rfl, ?_⟩
        simp [pIn_str]
end
/-- the pieces of size n, sorted -/
def piecesOf (w : W1) (n : Nat) : List W1 := (List.range (w.length + 1 - n)).map fun i => (w.drop i).take n
def sortW (l : List W1) : List W1 := l.mergeSort fun a b => dataLeB (mkS a) (mkS b)
theorem sort_strs (l : List W1) : (sLs l).mergeSort dataLeB = sLs (sortW l) := by
  unfold sortW
  exact (List.map_mergeSort (r := fun a b => dataLeB (mkS a) (mkS b)) (s := dataLeB) (f := mkS) (l := l) (fun a _ b _ => rfl)).symm
theorem canSort_strs {l : List W1} (h : ∀ w ∈ l, okW w) : canSort (sLs l) = true := by
  unfold canSort
  have h1 : alikeSq (sLs l) = true := by
    unfold alikeSq
    rw [List.all_eq_true]
    intro d hd
    obtain ⟨a, _, rfl⟩ := List.mem_map.mp hd
    rw [List.all_eq_true]
    intro e he
    obtain ⟨b, _, rfl⟩ := List.mem_map.mp he
    simp [PySem.W.alike]
  have h2 : srtOk (sLs l) = true := by
    unfold srtOk
    rw [Bool.or_eq_true]
    right
    rw [List.all_eq_true]
    intro d hd
    obtain ⟨a, _, rfl⟩ := List.mem_map.mp hd
    rfl
  have h3 : (sLs l).all SeqAt.shaped = true := by
    rw [List.all_eq_true]
    intro d hd
    obtain ⟨a, ha, rfl⟩ := List.mem_map.mp hd
    exact shStr (h a ha)
  rw [h1, h2, h3]
  rfl
theorem pSorted_strs {l : List W1} (h : ∀ w ∈ l, okW w) : pSorted (.list (sLs l)) = some (.list (sLs (sortW l))) := by
  show (if canSort (sLs l) = true then some (PyData.list ((sLs l).mergeSort dataLeB)) else none) = _
  rw [if_pos (canSort_strs h), sort_strs]
theorem sortW_mem {l : List W1} {w : W1} : w ∈ sortW l ↔ w ∈ l := (List.mergeSort_perm _ _).mem_iff
theorem Lt.sub {w : W1} (h : Lt w) (i n : Nat) : Lt ((w.drop i).take n) := ⟨by rw [List.length_take, List.length_drop]; have := h.1; omega, fun c hc => h.2 c (List.mem_of_mem_drop (List.mem_of_mem_take hc))⟩
theorem pieces_lt {w t : W1} {n : Nat} (h : Lt w) (ht : t ∈ piecesOf w n) : Lt t := by
  obtain ⟨i, _, rfl⟩ := List.mem_map.mp ht
  exact h.sub i n
/-- all the pieces: by size, each size sorted -/
def allP (w : W1) : List W1 := (List.range w.length).flatMap fun n => sortW (piecesOf w (n + 1))
theorem allP_lt {w t : W1} (h : Lt w) (ht : t ∈ allP w) : Lt t := by
  obtain ⟨n, _, hn⟩ := List.mem_flatMap.mp ht
  exact pieces_lt h (sortW_mem.mp hn)
/-- the comprehension of pieces, in both texts -/
theorem pieces_comp {w : W1} (hw : Lt w) {n : Nat} (h1 : 1 ≤ n) (h2 : n ≤ w.length) {vs : List Nat} {it : Sls → Rv (List Da)} {set : Da → Sls → Option Sls} {el : Sls → Rv Da} {ρ : Sls} (hi : it ρ = Rv.ofO (rng1 (.int ((w.length : Int) - (n : Int) + 1))))
    (he : ∀ i : Nat, ∃ ρ1, set (.int (i : Nat)) (wipeR ρ vs) = some ρ1 ∧ el ρ1 = .ok (mkS ((w.drop i).take n))) : x1 pSorted (xComp vs it set zYes el) ρ = .ok (.list (sLs (sortW (piecesOf w n)))) := by
  have e0 : ((w.length : Int) - (n : Int) + 1) = ((w.length + 1 - n : Nat) : Int) := by omega
  have hl := hw.1
  rw [e0, rng1_nat (by omega)] at hi
  show (xComp vs it set zYes el ρ).bind _ = _
  rw [xComp_map (ds := nats (w.length + 1 - n)) (fun d => mkS ((w.drop (toN d)).take n)) hi (by simp; omega)]
  · have e : (nats (w.length + 1 - n)).map (fun d => mkS ((w.drop (toN d)).take n)) = sLs (piecesOf w n) := by
      unfold nats piecesOf sLs
      rw [List.map_map, List.map_map]
      rfl
    rw [e, rb_ok, pSorted_strs fun t ht => (pieces_lt hw ht).ok]
    rfl
  · intro d hd
    obtain ⟨i, _, rfl⟩ := List.mem_map.mp hd
    exact he i
theorem find_flat {α β : Type} (f : α → List β) (p : β → Bool) : ∀ l : List α, (l.flatMap f).find? p = (match l.find? (fun a => (f a).any p) with | some a => (f a).find? p | none => none)
  | [] => rfl
  | a :: l => by
    rw [List.flatMap_cons, List.find?_append, find_flat f p l]
    cases h : (f a).any p with
    | true =>
      rw [List.find?_cons_of_pos (by exact h)]
      obtain ⟨x, hx, hp⟩ := List.any_eq_true.mp h
      cases q : (f a).find? p with
      | none =>
        rw [List.find?_eq_none] at q
        exact absurd hp (q x hx)
      | some y => simp [q]
    | false =>
      rw [List.find?_cons_of_neg (by rw [h]; exact Bool.false_ne_true)]
      have q : (f a).find? p = none := by
        rw [List.find?_eq_none]
        intro x hx hp
        have := List.any_eq_true.mpr ⟨x, hx, hp⟩
        rw [h] at this; cases this
      rw [q]
      rfl
def optS : Option W1 → Da
  | some t => mkS t
  | none => .none
section
variable {ws : List W1} (v : V ws)
include v
omit v in
theorem lt_int {n : Nat} : toN (.int ((n + 1 : Nat) : Int)) = n + 1 := rfl
/-- the inner loop's body; the outer's -/
def bIn : SS := sIf (zTru (xCall m_fits_mark (xsc (xV 0) (xsc (xV 1) (xsc (xV 5) xs0))))) (sRet (xV 5)) sNx
def pcs : Sls → Rv Da := x1 pSorted (xComp [6] (iR1 (x2 pAdd (x2 pSub (x1 pLen (xB 2)) (xB 3)) (xK (.int 1)))) (setOne 6) zYes (xCut pCut (xB 2) (oAt (xV 6)) (oAt (x2 pAdd (xB 6) (xB 3)))))
def bOut : SS := sSeq (sSet 4 pcs) (sFor (iSq (xV 4)) (setOne 5) bIn)
omit v in
theorem u_fm : u_first_mark = sSeq (sSet 2 (x2 pIx (xB 0) (xB 1))) (sSeq (sFor (iR2 (xK (.int 1)) (x2 pAdd (x1 pLen (xB 2)) (xK (.int 1)))) (setOne 3) bOut) (sRet (xK .none))) := rfl
theorem inner {k : Nat} {w : W1} (h : ws[k]? = some w) {a b c : Sl} {l : List W1} (hl : ∀ t ∈ l, Lt t) : match l.find? (fM ws k) with
    | some t => forL (setOne 5) bIn (sLs l) [.val (.tuple (sLs ws)), .val (.int k), .val (mkS w), a, b, c, .un] = .rt (mkS t)
    | none => ∃ x, forL (setOne 5) bIn (sLs l) [.val (.tuple (sLs ws)), .val (.int k), .val (mkS w), a, b, c, .un] = .nx [.val (.tuple (sLs ws)), .val (.int k), .val (mkS w), a, b, x, .un] := by
  have key := forL_find (set := setOne 5) (body := bIn) (ρ0 := []) (fun d => match d with | .str x => fM ws k x.cps.toList | _ => false) id (fun ρ => ∃ x, ρ = [.val (.tuple (sLs ws)), .val (.int k), .val (mkS w), a, b, x, .un]) (ds := sLs l)
    (ρ := [.val (.tuple (sLs ws)), .val (.int k), .val (mkS w), a, b, c, .un]) ⟨_, rfl⟩ (by
      intro d hd ρ hρ
      obtain ⟨x, rfl⟩ := hρ
      obtain ⟨t, ht, rfl⟩ := List.mem_map.mp hd
      refine ⟨_, rfl, ?_⟩
      have m := mFitsMark v h (hl t ht)
      simp only [bIn, sIf, zTru, xCall, xsc, xs0, xV, sRet, sNx, List.set_cons_succ, List.set_cons_zero, List.getElem?_cons_zero, List.getElem?_cons_succ, rb_ok, rt_ok, ro_some, m, truD_b]
      cases hq : fM ws k t with
      | true => simp only [if_true, rt_ok]; rfl
      | false => simp only [Bool.false_eq_true, if_false]; exact ⟨_, rfl, _, rfl⟩)
  have e2 : (sLs l).find? (fun d => match d with | .str x => fM ws k x.cps.toList | _ => false) = (l.find? (fM ws k)).map mkS := by
    unfold sLs
    rw [List.find?_map]
    rfl
  rw [e2] at key
  cases hf : l.find? (fM ws k) with
  | some t => rw [hf] at key; exact key
  | none =>
    rw [hf] at key
    obtain ⟨ρ', key, x, rfl⟩ := key
    exact ⟨x, key⟩
theorem mFirstMark {k : Nat} {w : W1} (h : ws[k]? = some w) : m_first_mark [.tuple (sLs ws), .int k] = .ok (optS ((allP w).find? (fM ws k))) := by
  have hw := v.wd w (List.mem_of_getElem? h)
  have hl := hw.2.2
  have key := forL_find (set := setOne 3) (body := bOut) (ρ0 := []) (fun d => (sortW (piecesOf w (toN d))).any (fM ws k)) (fun d => optS ((sortW (piecesOf w (toN d))).find? (fM ws k)))
    (fun ρ => ∃ a b c, ρ = [.val (.tuple (sLs ws)), .val (.int k), .val (mkS w), a, b, c, .un]) (ds := nats1 w.length) (ρ := [.val (.tuple (sLs ws)), .val (.int k), .val (mkS w), .un, .un, .un, .un]) ⟨_, _, _, rfl⟩ (by
      intro d hd ρ hρ
      obtain ⟨a, b, c, rfl⟩ := hρ
      obtain ⟨n, hn, rfl⟩ := List.mem_map.mp hd
      have hn := List.mem_range.mp hn
      refine ⟨_, rfl, ?_⟩
      rw [lt_int]
      have hp : pcs [.val (.tuple (sLs ws)), .val (.int k), .val (mkS w), .val (.int ((n + 1 : Nat) : Int)), b, c, .un] = .ok (.list (sLs (sortW (piecesOf w (n + 1))))) := by
        refine pieces_comp hw.1 (by omega) (by omega) ?_ fun i => ⟨_, rfl, ?_⟩
        · simp only [iR1, x2, x1, xB, xK, List.getElem?_cons_zero, List.getElem?_cons_succ, rb_ok, ro_some, pLen_str hw.1.sh, pSub_ii, pAdd_ii]
        · have e9 : ((i : Int) + ((n + 1 : Nat) : Int)) = ((i + (n + 1) : Nat) : Int) := by omega
          simp only [wipeR, xCut, oAt, xV, xB, x2, List.set_cons_succ, List.set_cons_zero, List.getElem?_cons_zero, List.getElem?_cons_succ, rb_ok, ro_some, pAdd_ii]
          rw [e9, pCut_str _ _ hw.1.sh, cut_at, Nat.add_sub_cancel_left]
          rfl
      have q := inner v h (a := .val (.int ((n + 1 : Nat) : Int))) (b := .val (.list (sLs (sortW (piecesOf w (n + 1)))))) (c := c) (l := sortW (piecesOf w (n + 1))) fun t ht => pieces_lt hw.1 (sortW_mem.mp ht)
      have st : ∀ (o : Out), forL (setOne 5) bIn (sLs (sortW (piecesOf w (n + 1)))) [.val (.tuple (sLs ws)), .val (.int k), .val (mkS w), .val (.int ((n + 1 : Nat) : Int)), .val (.list (sLs (sortW (piecesOf w (n + 1))))), c, .un] = o →
          bOut [.val (.tuple (sLs ws)), .val (.int k), .val (mkS w), .val (.int ((n + 1 : Nat) : Int)), b, c, .un] = o := fun o ho => by
        simp only [bOut, sSeq, sSet, hp, rt_ok, List.set_cons_succ, List.set_cons_zero, sFor, iSq, xV, List.getElem?_cons_zero, List.getElem?_cons_succ, rb_ok, itD_l, ro_some]
        exact ho
      cases hf : (sortW (piecesOf w (n + 1))).find? (fM ws k) with
      | some t =>
        rw [hf] at q
        have ha : (sortW (piecesOf w (n + 1))).any (fM ws k) = true := List.any_eq_true.mpr ⟨t, List.mem_of_find?_eq_some hf, List.find?_some hf⟩
        rw [ha, if_pos rfl]
        exact st _ q
      | none =>
        rw [hf] at q
        obtain ⟨x, q⟩ := q
        have ha : (sortW (piecesOf w (n + 1))).any (fM ws k) = false := by
          rw [List.any_eq_false]
          exact fun t ht => List.find?_eq_none.mp hf t ht
        rw [ha, if_neg Bool.false_ne_true]
        exact ⟨_, st _ q, _, _, _, rfl⟩)
  have e2 : (nats1 w.length).find? (fun d => (sortW (piecesOf w (toN d))).any (fM ws k)) = ((List.range w.length).find? fun n => (sortW (piecesOf w (n + 1))).any (fM ws k)).map fun n => PyData.int ((n + 1 : Nat) : Int) := by
    unfold nats1
    rw [List.find?_map]
    rfl
  unfold allP
  rw [find_flat]
  rw [e2] at key
  unfold m_first_mark
  rw [u_fm]
  simp only [mOf, sSeq, sSet, sRet, sFor, iR2, xK, x1, x2, xB, List.map_cons, List.map_nil, List.length_cons, List.length_nil, List.cons_append, List.nil_append, List.getElem?_cons_zero, List.getElem?_cons_succ, List.set_cons_succ, List.set_cons_zero, List.replicate, Nat.reduceSub, Nat.reduceAdd, rb_ok, rt_ok, ro_some, pIxW h, pLen_str hw.1.sh, pAdd_ii]
  rw [rng2_1 (by omega)]
  simp only [ro_some, rt_ok]
  cases hf : (List.range w.length).find? fun n => (sortW (piecesOf w (n + 1))).any (fM ws k) with
  | some n =>
    rw [hf] at key
    have key : forL _ _ _ _ = Out.rt (optS ((sortW (piecesOf w (n + 1))).find? (fM ws k))) := key
    rw [key]
  | none =>
    rw [hf] at key
    obtain ⟨ρ', key, _⟩ := key
    rw [key]
    rfl
theorem mMarkOf {r : Da} (hr : Row ws r) {k : Nat} {w : W1} (h : ws[k]? = some w) : m_mark_of [r, .int k] = .ok (optS ((allP w).find? (fM ws k))) := by
  have hk : k < ws.length := (List.getElem?_eq_some_iff.mp h).1
  simp [m_mark_of, u_mark_of, mWantWord v hr hk, mFirstMark v h]
theorem mIsMark {r : Da} (hr : Row ws r) {k : Nat} {w t : W1} (h : ws[k]? = some w) (ht : Lt t) : m_is_mark [r, .int k, mkS t] = .ok (.bool (fM ws k t)) := by
  have hk : k < ws.length := (List.getElem?_eq_some_iff.mp h).1
  simp [m_is_mark, u_is_mark, mWantWord v hr hk, mFitsMark v h ht]
end
end k61
end

section
set_option linter.all false
set_option maxRecDepth 100000
namespace k61
open L2 PySem
theorem eqv_nil (ds : List Da) : PyData.eqv (.list ds) (.list []) = ds.isEmpty := by
  cases ds <;> simp [PyData.eqv, PyData.eqvAll]
theorem pNe_nil {ds : List Da} (h : SeqAt.shaped (.list ds) = true) : pNe (.list ds) (.list []) = some (.bool (!ds.isEmpty)) := by
  have s0 : SeqAt.shaped (.list []) = true := by decide
  show (eqD (.list ds) (.list [])).map _ = _
  have : eqD (.list ds) (.list []) = some (PyData.eqv (.list ds) (.list [])) := by
    unfold eqD
    rw [if_neg (by simp [scalD]), if_pos ⟨h, s0⟩]
  rw [this, eqv_nil]; rfl
theorem pEq_nil {ds : List Da} (h : SeqAt.shaped (.list ds) = true) : pEq (.list ds) (.list []) = some (.bool ds.isEmpty) := by
  have s0 : SeqAt.shaped (.list []) = true := by decide
  show (eqD (.list ds) (.list [])).map _ = _
  have : eqD (.list ds) (.list []) = some (PyData.eqv (.list ds) (.list [])) := by
    unfold eqD
    rw [if_neg (by simp [scalD]), if_pos ⟨h, s0⟩]
  rw [this, eqv_nil]; rfl
theorem xs0_ok (ρ : Sls) : xs0 ρ = .ok [] := id rfl
theorem xLst_nil (ρ : Sls) : xLst xs0 ρ = .ok (.list []) := id rfl
theorem dq (a b : W1) : decide (a = b) = (a == b) := by rw [Bool.eq_iff_iff]; simp
theorem mBegins {t w : W1} (hw : shortW w) (ht : shortW t) : m__law_begins [mkS t, mkS w] = .ok (.bool (begins t w)) := by
  simp only [m__law_begins, u__law_begins, mOf, sRet, x1, x2, xB, xCut, oNo, oAt, List.map_cons, List.map_nil, List.length_cons, List.length_nil, List.cons_append, List.nil_append, List.getElem?_cons_zero, List.getElem?_cons_succ, rb_ok, ro_some, pLen_str ht, pCut_str _ _ hw, cut_to, pEq_str, dq]
  rfl
/-- the places at which w holds t -/
def places (w t : W1) : List Nat := (List.range w.length).filter fun i => (w.drop i).take t.length == t
def natD (l : List Nat) : List Da := l.map fun (i : Nat) => PyData.int (i : Int)
theorem shNat (l : List Nat) : SeqAt.shaped (.list (natD l)) = true := by
  have e : natD l = (l.map fun (i : Nat) => (i : Int)).map .int := by simp [natD]
  rw [e]; exact shLInt _
theorem pNe_nat (l : List Nat) : pNe (.list (natD l)) (.list []) = some (.bool (!l.isEmpty)) := by
  rw [pNe_nil (shNat l)]
  cases l <;> rfl
theorem pEq_nat (l : List Nat) : pEq (.list (natD l)) (.list []) = some (.bool l.isEmpty) := by
  rw [pEq_nil (shNat l)]
  cases l <;> rfl
theorem mHolds {t w : W1} (hw : Lt w) (ht : Lt t) : m__law_holds [mkS w, mkS t] = .ok (.bool (!(places w t).isEmpty)) := by
  have hl := hw.1
  simp only [m__law_holds, u__law_holds, mOf, sRet, x2, List.map_cons, List.map_nil, List.length_cons, List.length_nil, List.cons_append, List.nil_append, List.replicate, Nat.reduceSub, Nat.reduceAdd]
  rw [xComp_fil (ds := nats w.length) (fun d => (w.drop (toN d)).take t.length == t) id]
  · have e : ((nats w.length).filter (fun d => (w.drop (toN d)).take t.length == t)).map id = natD (places w t) := by
      unfold nats natD places
      rw [List.map_id, List.filter_map]
      rfl
    rw [e]
    have e5 : xLst xs0 [.val (mkS w), .val (mkS t), .un] = .ok (.list []) := rfl
    simp only [rb_ok, e5, pNe_nat, ro_some, rt_ok]
  · simp only [iR1, x1, xB, List.getElem?_cons_zero, rb_ok, pLen_str hw.sh, ro_some]
    rw [rng1_nat (by omega)]
    rfl
  · simp; omega
  · intro d hd
    obtain ⟨i, _, rfl⟩ := List.mem_map.mp hd
    refine ⟨_, rfl, ?_, fun _ => rfl⟩
    have e9 : ((i : Int) + (t.length : Int)) = ((i + t.length : Nat) : Int) := by omega
    simp only [wipeR, setOne, zB, x1, x2, xCut, oAt, xV, xB, List.set_cons_succ, List.set_cons_zero, List.getElem?_cons_zero, List.getElem?_cons_succ, rb_ok, ro_some, pLen_str ht.sh, pAdd_ii]
    rw [e9, pCut_str _ _ hw.sh, cut_at, Nat.add_sub_cancel_left]
    simp only [ro_some, rb_ok, pEq_str, asB_b, dq]
    rfl
/-- the others' numbers at which p holds -/
def othN (ws : List W1) (k : Nat) (p : W1 → Bool) : List Nat := (List.range ws.length).filter fun j => !decide (j = k) && p (ws.getD j [])
theorem othN_comp {ws : List W1} {k : Nat} (p : W1 → Bool) {vs : List Nat} {it : Sls → Rv (List Da)} {set : Da → Sls → Option Sls} {tt : Sls → Rv Bool} {el : Sls → Rv Da} {ρ : Sls} (hl : ws.length ≤ 8) (hi : it ρ = Rv.ofO (rng1 (.int (ws.length : Nat))))
    (he : ∀ (j : Nat) (x : W1), ws[j]? = some x → ∃ ρ1, set (.int (j : Nat)) (wipeR ρ vs) = some ρ1 ∧ tt ρ1 = .ok (!decide (j = k) && p x) ∧ el ρ1 = .ok (.int (j : Nat))) : xComp vs it set tt el ρ = .ok (.list (natD (othN ws k p))) := by
  rw [rng1_nat (by omega)] at hi
  rw [xComp_fil (ds := nats ws.length) (fun d => !decide (toN d = k) && p (ws.getD (toN d) [])) id hi (by simp; omega)]
  · congr 2
    unfold nats natD othN
    rw [List.map_id, List.filter_map]
    rfl
  · intro d hd
    obtain ⟨j, hj, rfl⟩ := List.mem_map.mp hd
    have hj := List.mem_range.mp hj
    have hx : ws[j]? = some ws[j] := List.getElem?_eq_getElem hj
    obtain ⟨ρ1, h1, h2, h3⟩ := he j _ hx
    have e : ws.getD j [] = ws[j] := by rw [List.getD_eq_getElem?_getD, hx]; rfl
    refine ⟨ρ1, h1, ?_, fun _ => h3⟩
    rw [h2]
    show _ = Rv.ok (!decide (j = k) && p (ws.getD j []))
    rw [e]
theorem dec_nat (j k : Nat) : decide ((j : Int) = (k : Int)) = decide (j = k) := by rw [Bool.eq_iff_iff, decide_eq_true_iff, decide_eq_true_iff]; omega
theorem str_nil : PyData.str "" = mkS [] := rfl
theorem iR1_row {ws : List W1} (ρ : Sls) (h : ρ[0]? = some (.val (.tuple (sLs ws)))) : iR1 (x1 pLen (xB 0)) ρ = Rv.ofO (rng1 (.int (ws.length : Nat))) := by
  have e : xB 0 ρ = .ok (.tuple (sLs ws)) := by unfold xB; rw [h]
  have e2 : x1 pLen (xB 0) ρ = .ok (.int (ws.length : Nat)) := by
    unfold x1
    rw [e, rb_ok, pLen_t, List.length_map, ro_some]
  unfold iR1
  rw [e2, rb_ok]
section
variable {ws : List W1} (v : V ws)
include v
def lS (ws : List W1) (k : Nat) (t : W1) : Bool := (!decide (t = []) && begins t (ws.getD k [])) && (othN ws k (begins t)).isEmpty
def lM (ws : List W1) (k : Nat) (t : W1) : Bool := (!decide (t = []) && !(places (ws.getD k []) t).isEmpty) && (othN ws k fun w => !(places w t).isEmpty).isEmpty
theorem mLS {k : Nat} {w t : W1} (h : ws[k]? = some w) (ht : Lt t) : m__law_is_short [.tuple (sLs ws), .int k, mkS t] = .ok (.bool (lS ws k t)) := by
  have hw := v.wd w (List.mem_of_getElem? h)
  have hl := v.le
  unfold lS
  rw [getD_eq v h]
  simp only [m__law_is_short, u__law_is_short, mOf, sSeq, sIf, sRet, sNx, zOr, zB, zNot, zTru, x2, xB, xK, xCall, xsc, xs0_ok, xLst_nil, xV, List.map_cons, List.map_nil, List.length_cons, List.length_nil, List.cons_append, List.nil_append, List.getElem?_cons_zero, List.getElem?_cons_succ, List.replicate, Nat.reduceSub, Nat.reduceAdd, rb_ok, ro_some, str_nil, pEq_str, asB_b, pIxW h, mBegins hw.1.sh ht.sh, truD_b]
  by_cases h0 : t = []
  · simp [h0]
  · cases hb : begins t w with
    | false => simp [h0]
    | true =>
      simp only [h0, decide_false, Bool.false_eq_true, if_false, Bool.not_true, Bool.not_false, Bool.true_and, rt_ok, rb_ok]
      rw [othN_comp (k := k) (begins t) hl]
      · simp only [rb_ok, xLst_nil, pEq_nat, ro_some, rt_ok]
      · exact iR1_row _ rfl
      · intro j x hx
        have hx2 := v.wd x (List.mem_of_getElem? hx)
        refine ⟨_, rfl, ?_, by simp⟩
        simp only [wipeR, setOne, zAnd, zB, zTru, x2, xCall, xsc, xs0, xV, xB, List.set_cons_succ, List.set_cons_zero, List.getElem?_cons_zero, List.getElem?_cons_succ, rb_ok, ro_some, pNe_int, asB_b, dec_nat, pIxW hx, mBegins hx2.1.sh ht.sh, truD_b]
        cases decide (j = k) <;> simp
theorem mLM {k : Nat} {w t : W1} (h : ws[k]? = some w) (ht : Lt t) : m__law_is_mark [.tuple (sLs ws), .int k, mkS t] = .ok (.bool (lM ws k t)) := by
  have hw := v.wd w (List.mem_of_getElem? h)
  have hl := v.le
  unfold lM
  rw [getD_eq v h]
  simp only [m__law_is_mark, u__law_is_mark, mOf, sSeq, sIf, sRet, sNx, zOr, zB, zNot, zTru, x2, xB, xK, xCall, xsc, xs0_ok, xLst_nil, xV, List.map_cons, List.map_nil, List.length_cons, List.length_nil, List.cons_append, List.nil_append, List.getElem?_cons_zero, List.getElem?_cons_succ, List.replicate, Nat.reduceSub, Nat.reduceAdd, rb_ok, ro_some, str_nil, pEq_str, asB_b, pIxW h, mHolds hw.1 ht, truD_b]
  by_cases h0 : t = []
  · simp [h0]
  · cases hb : !(places w t).isEmpty with
    | false => simp [h0]
    | true =>
      simp only [h0, decide_false, Bool.false_eq_true, if_false, Bool.not_true, Bool.not_false, Bool.true_and, rt_ok, rb_ok]
      rw [othN_comp (k := k) (fun w => !(places w t).isEmpty) hl]
      · simp only [rb_ok, xLst_nil, pEq_nat, ro_some, rt_ok]
      · exact iR1_row _ rfl
      · intro j x hx
        have hx2 := v.wd x (List.mem_of_getElem? hx)
        refine ⟨_, rfl, ?_, by simp⟩
        simp only [wipeR, setOne, zAnd, zB, zTru, x2, xCall, xsc, xs0, xV, xB, List.set_cons_succ, List.set_cons_zero, List.getElem?_cons_zero, List.getElem?_cons_succ, rb_ok, ro_some, pNe_int, asB_b, dec_nat, pIxW hx, mHolds hx2.1 ht, truD_b]
        cases decide (j = k) <;> simp
end
end k61
end

section
set_option linter.all false
set_option maxRecDepth 100000
namespace k61
open L2 PySem
/-! the two readings agree -/
section
variable {ws : List W1} (v : V ws)
include v
omit v in
theorem oth_iff {k : Nat} {p : W1 → Bool} : (othN ws k p).isEmpty = !(others ws k).any p := by
  rw [Bool.eq_iff_iff, List.isEmpty_iff, Bool.not_eq_true', ← Bool.not_eq_true, any_other]
  unfold othN
  rw [List.filter_eq_nil_iff]
  constructor
  · rintro h ⟨j, w, h1, h2, h3⟩
    have hl := (List.getElem?_eq_some_iff.mp h1).1
    refine h j (List.mem_range.mpr hl) ?_
    rw [List.getD_eq_getElem?_getD, h1]
    simp [h2, h3]
  · intro h j hj q
    have hl := List.mem_range.mp hj
    rw [Bool.and_eq_true] at q
    refine h ⟨j, ws[j], List.getElem?_eq_getElem hl, by simpa using q.1, ?_⟩
    have e : ws.getD j [] = ws[j] := by rw [List.getD_eq_getElem?_getD, List.getElem?_eq_getElem hl]; rfl
    rw [← e]; exact q.2
omit v in
theorem begins_len {t w : W1} (h : begins t w = true) : t.length ≤ w.length := by
  have h : w.take t.length = t := by simpa [begins] using h
  have := congrArg List.length h
  rw [List.length_take] at this
  omega
omit v in
theorem isInL_iff (t w : W1) : isInL t w = true ↔ ∃ i, i + t.length ≤ w.length ∧ (w.drop i).take t.length = t := by
  unfold isInL
  rw [List.any_eq_true]
  constructor
  · rintro ⟨i, hi, h⟩
    have hi := List.mem_range.mp hi
    have h : (w.drop i).take t.length = t := by simpa using h
    have := congrArg List.length h
    rw [List.length_take, List.length_drop] at this
    by_cases h0 : t.length = 0
    · have : t = [] := List.length_eq_zero_iff.mp h0
      subst this
      exact ⟨0, by simp, by simp⟩
    · exact ⟨i, by omega, h⟩
  · rintro ⟨i, hi, h⟩
    exact ⟨i, List.mem_range.mpr (by omega), by simpa using h⟩
omit v in
theorem isInL_len {t w : W1} (h : isInL t w = true) : t.length ≤ w.length := by
  obtain ⟨i, h1, _⟩ := (isInL_iff t w).mp h
  omega
omit v in
theorem places_in {t : W1} (h0 : t ≠ []) (w : W1) : (!(places w t).isEmpty) = isInL t w := by
  have hp : 0 < t.length := List.length_pos_iff.mpr h0
  rw [Bool.eq_iff_iff, isInL_iff, Bool.not_eq_true', ← Bool.not_eq_true, List.isEmpty_iff]
  unfold places
  rw [List.filter_eq_nil_iff]
  constructor
  · intro h
    apply Classical.byContradiction
    intro z
    apply h
    intro i hi q
    have q : (w.drop i).take t.length = t := by simpa using q
    refine z ⟨i, ?_, q⟩
    have := congrArg List.length q
    rw [List.length_take, List.length_drop] at this
    omega
  · rintro ⟨i, h1, h2⟩ z
    exact z i (List.mem_range.mpr (by omega)) (by simpa using h2)
theorem fS_lS {k : Nat} {w t : W1} (h : ws[k]? = some w) : fS ws k t = lS ws k t := by
  have hw := v.wd w (List.mem_of_getElem? h)
  unfold fS lS
  rw [oth_iff, getD_eq v h]
  cases hb : begins t w with
  | false => simp
  | true =>
    have := begins_len hb
    have h6 : t.length ≤ 6 := by have := hw.2.2; omega
    have e : decide (1 ≤ t.length) = !decide (t = []) := by
      cases t with
      | nil => rfl
      | cons a r => simp
    rw [e, decide_eq_true h6]
    simp
theorem fM_lM {k : Nat} {w t : W1} (h : ws[k]? = some w) : fM ws k t = lM ws k t := by
  have hw := v.wd w (List.mem_of_getElem? h)
  unfold fM lM
  rw [oth_iff, getD_eq v h]
  by_cases h0 : t = []
  · subst h0; rfl
  · have e1 : (fun w => !(places w t).isEmpty) = isInL t := funext fun w => places_in h0 w
    rw [e1, places_in h0 w]
    cases hb : isInL t w with
    | false => simp
    | true =>
      have := isInL_len hb
      have h6 : t.length ≤ 6 := by have := hw.2.2; omega
      have e : decide (1 ≤ t.length) = !decide (t = []) := by
        cases t with
        | nil => rfl
        | cons a r => simp
      rw [e, decide_eq_true h6]
      simp
/-! short forms and covers -/
omit v in
theorem begins_self (w : W1) : begins w w = true := by simp [begins]
omit v in
theorem begins_trans {a b c : W1} (h1 : begins a b = true) (h2 : begins b c = true) : begins a c = true := by
  have l1 := begins_len h1
  have h1 : b.take a.length = a := by simpa [begins] using h1
  have h2 : c.take b.length = b := by simpa [begins] using h2
  have : c.take a.length = a := by
    conv => rhs; rw [← h1, ← h2]
    rw [List.take_take, Nat.min_eq_left l1]
  simpa [begins] using this
omit v in
theorem isInL_self (w : W1) : isInL w w = true := (isInL_iff w w).mpr ⟨0, by simp, by simp⟩
omit v in
theorem isInL_trans {a b c : W1} (h1 : isInL a b = true) (h2 : isInL b c = true) : isInL a c = true := by
  obtain ⟨i, l1, e1⟩ := (isInL_iff a b).mp h1
  obtain ⟨j, l2, e2⟩ := (isInL_iff b c).mp h2
  refine (isInL_iff a c).mpr ⟨j + i, by omega, ?_⟩
  have e3 : ((c.drop j).take b.length).drop i = b.drop i := by rw [e2]
  rw [List.drop_take, List.drop_drop] at e3
  have e4 : (((c.drop (j + i)).take (b.length - i))).take a.length = a := by rw [e3, e1]
  rw [List.take_take, Nat.min_eq_left (by omega)] at e4
  exact e4
theorem pres_begins {w t : W1} (h : t ∈ pres w) : begins t w = true := by
  obtain ⟨n, hn, rfl⟩ := List.mem_map.mp h
  have hn := List.mem_range.mp hn
  have : (w.take (n + 1)).length = n + 1 := by rw [List.length_take]; omega
  simp [begins, this]
theorem full_pre {w : W1} (h : 1 ≤ w.length) : w ∈ pres w := by
  refine List.mem_map.mpr ⟨w.length - 1, List.mem_range.mpr (by omega), ?_⟩
  rw [Nat.sub_add_cancel h, List.take_length]
theorem allP_in {w t : W1} (h : t ∈ allP w) : isInL t w = true := by
  obtain ⟨n, hn, ht⟩ := List.mem_flatMap.mp h
  obtain ⟨i, hi, rfl⟩ := List.mem_map.mp (sortW_mem.mp ht)
  have hn := List.mem_range.mp hn
  have hi := List.mem_range.mp hi
  have e : ((w.drop i).take (n + 1)).length = n + 1 := by rw [List.length_take, List.length_drop]; omega
  refine (isInL_iff _ _).mpr ⟨i, by rw [e]; omega, by rw [e]⟩
theorem full_all {w : W1} (h : 1 ≤ w.length) : w ∈ allP w := by
  refine List.mem_flatMap.mpr ⟨w.length - 1, List.mem_range.mpr (by omega), sortW_mem.mpr (List.mem_map.mpr ⟨0, List.mem_range.mpr (by omega), ?_⟩)⟩
  rw [Nat.sub_add_cancel h, List.drop_zero, List.take_length]
/-- no short form just where another word begins with it -/
theorem short_cover {k : Nat} {w : W1} (h : ws[k]? = some w) : ((pres w).filter (lS ws k)).isEmpty = !(othN ws k (begins w)).isEmpty := by
  have hw := v.wd w (List.mem_of_getElem? h)
  have e : (pres w).filter (lS ws k) = (pres w).filter (fS ws k) := by
    congr 1
    funext t
    rw [fS_lS v h]
  rw [e, oth_iff, Bool.not_not, Bool.eq_iff_iff, List.isEmpty_iff, List.filter_eq_nil_iff, any_other]
  constructor
  · intro z
    have q := z w (full_pre v hw.2.1)
    unfold fS at q
    rw [getD_eq v h, begins_self, decide_eq_true hw.2.1, decide_eq_true hw.2.2] at q
    have q2 : (others ws k).any (begins w) = true := by simpa using q
    exact (any_other _ _ _).mp q2
  · rintro ⟨j, x, h1, h2, h3⟩ t ht q
    unfold fS at q
    have q2 : (others ws k).any (begins t) = true := (any_other _ _ _).mpr ⟨j, x, h1, h2, begins_trans (pres_begins v ht) h3⟩
    rw [q2] at q
    simp at q
theorem mark_holder {k : Nat} {w : W1} (h : ws[k]? = some w) : ((allP w).filter (lM ws k)).isEmpty = !(othN ws k (isInL w)).isEmpty := by
  have hw := v.wd w (List.mem_of_getElem? h)
  have e : (allP w).filter (lM ws k) = (allP w).filter (fM ws k) := by
    congr 1
    funext t
    rw [fM_lM v h]
  rw [e, oth_iff, Bool.not_not, Bool.eq_iff_iff, List.isEmpty_iff, List.filter_eq_nil_iff, any_other]
  constructor
  · intro z
    have q := z w (full_all v hw.2.1)
    unfold fM at q
    rw [getD_eq v h, isInL_self, decide_eq_true hw.2.1, decide_eq_true hw.2.2] at q
    have q2 : (others ws k).any (isInL w) = true := by simpa using q
    exact (any_other _ _ _).mp q2
  · rintro ⟨j, x, h1, h2, h3⟩ t ht q
    unfold fM at q
    have q2 : (others ws k).any (isInL t) = true := (any_other _ _ _).mpr ⟨j, x, h1, h2, isInL_trans (allP_in v ht) h3⟩
    rw [q2] at q
    simp at q
/-- the first place other than k, both ways -/
theorem first_eq (k : Nat) (p : W1 → Bool) : firstO ws k p = (othN ws k p).head? := by
  unfold firstO othN
  rw [List.head?_filter]
  have e : ws.zipIdx.map (fun q => !decide (q.2 = k) && p q.1) = (List.range ws.length).map fun j => !decide (j = k) && p (ws.getD j []) := by
    apply List.ext_getElem?
    intro i
    rw [List.getElem?_map, List.getElem?_map, List.getElem?_zipIdx]
    by_cases hi : i < ws.length
    · have e0 : ws.getD i [] = ws[i] := by rw [List.getD_eq_getElem?_getD, List.getElem?_eq_getElem hi]; rfl
      rw [List.getElem?_eq_getElem hi, List.getElem?_range hi]
      simp only [Option.map_some, Nat.zero_add, e0]
    · rw [List.getElem?_eq_none (by omega), List.getElem?_eq_none (by rw [List.length_range]; omega)]
      rfl
  rw [e, List.findIdx?_map]
  generalize (fun j => !decide (j = k) && p (ws.getD j [])) = q
  show List.findIdx? (id ∘ q) _ = _
  have key : ∀ n, List.findIdx? q (List.range n) = List.find? q (List.range n) := fun n => by
    cases h : List.find? q (List.range n) with
    | none =>
      rw [List.findIdx?_eq_none_iff]
      intro x hx
      have := List.find?_eq_none.mp h x hx
      simpa using this
    | some j =>
      rw [List.find?_range_eq_some] at h
      rw [List.findIdx?_eq_some_iff_getElem]
      obtain ⟨h1, h2, h3⟩ := h
      have h2 := List.mem_range.mp h2
      refine ⟨by simpa using h2, by simpa using h1, fun i hi => ?_⟩
      have := h3 i hi
      simpa using this
  exact key _
end
end k61
end

section
set_option linter.all false
set_option maxRecDepth 100000
namespace k61
open L2 PySem
/-! the law's own functions -/
def bPart : SS := sSet 1 (x2 pAdd (xB 1) (x1 pSorted (xComp [3] (iR1 (x2 pAdd (x2 pSub (x1 pLen (xB 0)) (xB 2)) (xK (.int 1)))) (setOne 3) zYes (xCut pCut (xB 0) (oAt (xV 3)) (oAt (x2 pAdd (xB 3) (xB 2)))))))
theorem u_lp : u__law_parts = sSeq (sSet 1 (xLst xs0)) (sSeq (sFor (iR2 (xK (.int 1)) (x2 pAdd (x1 pLen (xB 0)) (xK (.int 1)))) (setOne 2) bPart) (sRet (xV 1))) := rfl
theorem sortW_len (l : List W1) : (sortW l).length = l.length := (List.mergeSort_perm _ _).length_eq
theorem piecesOf_len (w : W1) (n : Nat) : (piecesOf w n).length = w.length + 1 - n := by simp [piecesOf]
/-- the pieces of the first n sizes -/
def allTo (w : W1) (n : Nat) : List W1 := (List.range n).flatMap fun n => sortW (piecesOf w (n + 1))
theorem allTo_succ (w : W1) (n : Nat) : allTo w (n + 1) = allTo w n ++ sortW (piecesOf w (n + 1)) := by
  unfold allTo
  rw [List.range_succ, List.flatMap_append]
  simp
theorem allTo_len (w : W1) : ∀ n, (allTo w n).length ≤ n * (w.length + 1)
  | 0 => by simp [allTo]
  | n + 1 => by
    have ih := allTo_len w n
    rw [allTo_succ, List.length_append, sortW_len, piecesOf_len, Nat.succ_mul]
    omega
theorem mParts {w : W1} (hw : Wd w) : m__law_parts [mkS w] = .ok (.list (sLs (allP w))) := by
  have hl := hw.2.2
  have key := forL_inv (set := setOne 2) (body := bPart) (fun done ρ => ∃ x, ρ = [.val (mkS w), .val (.list (sLs (allTo w done.length))), x, .un]) (ds := nats1 w.length) (done := []) (ρ := [.val (mkS w), .val (.list []), .un, .un]) ⟨_, rfl⟩ (by
      rintro pre d post he ρ ⟨x, rfl⟩
      rw [List.nil_append] at he
      have hpl : pre.length < w.length := by
        have := congrArg List.length he
        rw [List.length_append, List.length_cons, List.length_map, List.length_range] at this
        omega
      have hd : d = .int ((pre.length + 1 : Nat) : Int) := by
        have e1 : (nats1 w.length)[pre.length]? = some d := by rw [he]; simp
        unfold nats1 at e1
        rw [List.getElem?_map, List.getElem?_range hpl] at e1
        exact (Option.some.inj e1).symm
      subst hd
      have hp : x1 pSorted (xComp [3] (iR1 (x2 pAdd (x2 pSub (x1 pLen (xB 0)) (xB 2)) (xK (.int 1)))) (setOne 3) zYes (xCut pCut (xB 0) (oAt (xV 3)) (oAt (x2 pAdd (xB 3) (xB 2)))))
          [.val (mkS w), .val (.list (sLs (allTo w pre.length))), .val (.int ((pre.length + 1 : Nat) : Int)), .un] = .ok (.list (sLs (sortW (piecesOf w (pre.length + 1))))) := by
        refine pieces_comp hw.1 (by omega) (by omega) ?_ fun i => ⟨_, rfl, ?_⟩
        · simp only [iR1, x2, x1, xB, xK, List.getElem?_cons_zero, List.getElem?_cons_succ, rb_ok, ro_some, pLen_str hw.1.sh, pSub_ii, pAdd_ii]
        · have e9 : ((i : Int) + ((pre.length + 1 : Nat) : Int)) = ((i + (pre.length + 1) : Nat) : Int) := by omega
          simp only [wipeR, xCut, oAt, xV, xB, x2, List.set_cons_succ, List.set_cons_zero, List.getElem?_cons_zero, List.getElem?_cons_succ, rb_ok, ro_some, pAdd_ii]
          rw [e9, pCut_str _ _ hw.1.sh, cut_at, Nat.add_sub_cancel_left]
          rfl
      refine ⟨_, [.val (mkS w), .val (.list (sLs (allTo w (pre.length + 1)))), .val (.int ((pre.length + 1 : Nat) : Int)), .un], rfl, .inl ?_, _, by simp; rfl⟩
      have e8 : bPart [.val (mkS w), .val (.list (sLs (allTo w pre.length))), .val (.int ((pre.length + 1 : Nat) : Int)), .un] = .nx [.val (mkS w), .val (.list (sLs (allTo w (pre.length + 1)))), .val (.int ((pre.length + 1 : Nat) : Int)), .un] := by
        have e7 : x2 pAdd (xB 1) (x1 pSorted (xComp [3] (iR1 (x2 pAdd (x2 pSub (x1 pLen (xB 0)) (xB 2)) (xK (.int 1)))) (setOne 3) zYes (xCut pCut (xB 0) (oAt (xV 3)) (oAt (x2 pAdd (xB 3) (xB 2))))))
            [.val (mkS w), .val (.list (sLs (allTo w pre.length))), .val (.int ((pre.length + 1 : Nat) : Int)), .un] = .ok (.list (sLs (allTo w (pre.length + 1)))) := by
          show (Rv.bind (.ok (.list (sLs (allTo w pre.length)))) fun x => Rv.bind (x1 pSorted _ _) fun y => Rv.ofO (pAdd x y)) = _
          rw [rb_ok, hp, rb_ok, pAdd_ll (by
            have h1 := allTo_len w pre.length
            have h2 : pre.length * (w.length + 1) ≤ 6 * 7 := Nat.mul_le_mul (by omega) (by omega)
            simp only [List.length_map, sortW_len, piecesOf_len]
            omega), ro_some, allTo_succ]
          simp
        unfold bPart sSet
        rw [e7, rt_ok]
        rfl
      exact e8)
  obtain ⟨ρ', key, x, hx⟩ := key
  unfold m__law_parts
  rw [u_lp]
  simp only [mOf, sSeq, sSet, sRet, sFor, iR2, xK, x1, x2, xB, xV, xLst_nil, List.map_cons, List.map_nil, List.length_cons, List.length_nil, List.cons_append, List.nil_append, List.getElem?_cons_zero, List.getElem?_cons_succ, List.set_cons_succ, List.set_cons_zero, List.replicate, Nat.reduceSub, Nat.reduceAdd, rb_ok, rt_ok, ro_some, pLen_str hw.1.sh, pAdd_ii]
  rw [rng2_1 (by omega)]
  simp only [ro_some, rt_ok]
  rw [key]
  have e : ([] ++ nats1 w.length).length = w.length := by simp
  rw [e] at hx
  rw [hx]
  rfl
end k61
end

section
set_option linter.all false
set_option maxRecDepth 100000
namespace k61
open L2 PySem
theorem mLimit : ∃ L : Int, 0 < L ∧ m__law_limit [] = .ok (.int L) := ⟨10 ^ 576, by decide +kernel, by kernel_rfl⟩
theorem mCell (ns : List Int) (p : Nat) : ∃ c : Int, 0 ≤ c ∧ m__law_cell [.list (ns.map .int), .int (p : Nat)] = .ok (.int c) := by
  obtain ⟨L, hL, e⟩ := mLimit
  simp only [m__law_cell, u__law_cell, mOf, sSeq, sIf, sRet, sNx, zB, x2, x1, xB, xK, xCall, xs0_ok, List.map_cons, List.map_nil, List.length_cons, List.length_nil, List.cons_append, List.nil_append, List.getElem?_cons_zero, List.getElem?_cons_succ, rb_ok, ro_some, pLen_l, pLt_ii, asB_b, rt_ok, e]
  by_cases h : (p : Int) < ((ns.map PyData.int).length : Nat)
  · have hp : p < ns.length := by rw [List.length_map] at h; omega
    rw [pIx_lst _ p (.int ns[p]) (by rw [List.getElem?_map, List.getElem?_eq_getElem hp]; rfl)]
    simp only [decide_eq_true h, if_true, rb_ok, ro_some, pInt_i, pMod_ii _ hL, rt_ok]
    exact ⟨_, Int.emod_nonneg _ (by omega), rfl⟩
  · simp only [decide_eq_false h, Bool.false_eq_true, if_false]
    exact ⟨0, by omega, rfl⟩
theorem p18 : pPow (.int 10) (.int 18) = some (.int 1000000000000000000) := by
  rw [pPow_ii (by decide)]; rfl
theorem p9 : pPow (.int 10) (.int 9) = some (.int 1000000000) := by
  rw [pPow_ii (by decide)]; rfl
theorem mulR (a : Int) {b : Int} (h : b.natAbs < 18446744073709551616) : pMul (.int a) (.int b) = some (.int (a * b)) := by
  refine pMul_ii ?_
  unfold okMul
  rw [decide_eq_true (Or.inr h)]
  rfl
theorem divR (a : Int) : pDiv (.int a) (.int 1000000000) = some (.int (a / 1000000000)) := pDiv_ii _ (by decide)
def nBody : SS := sIf (zAnd (zB (x2 pGe (xB 3) (x2 pPow (xK (.int 10)) (xK (.int 18))))) (zB (x2 pGt (xB 6) (xK (.int 0))))) (sSeq (sApp 5 (x2 pMod (x1 pInt (xB 6)) (x2 pPow (xK (.int 10)) (xK (.int 9))))) (sSet 6 (x2 pDiv (xB 6) (x2 pPow (xK (.int 10)) (xK (.int 9)))))) (sSeq (sSet 8 (x2 pMod (x1 pInt (x2 pAdd (x2 pAdd (x2 pMul (xB 4) (xK (.int 48271))) (x2 pMul (x2 pAdd (xB 7) (xK (.int 1))) (xK (.int 69621)))) (xB 1))) (xK (.int 2147483647)))) (sApp 5 (x2 pMod (x2 pMod (x1 pInt (x2 pAdd (x2 pMul (xB 8) (xK (.int 16807))) (x2 pMul (x2 pAdd (xB 7) (xK (.int 3))) (xK (.int 40692))))) (xK (.int 2147483399))) (x2 pPow (xK (.int 10)) (xK (.int 9))))))
theorem u_num : u__law_numbers = sSeq (sSet 3 (xCall m__law_cell (xsc (xV 0) (xsc (xV 1) xs0)))) (sSeq (sSet 4 (x2 pMod (x1 pInt (xB 3)) (xK (.int 2147483647)))) (sSeq (sOwn 5 (xLst xs0)) (sSeq (sSet 6 (xV 3)) (sSeq (sFor (iR1 (xB 2)) (setOne 7) nBody) (sFrz [5] (sRet (xV 5))))))) := rfl
theorem mNumbers (ns : List Int) (p many : Nat) (hm : many ≤ 100) : ∃ xs : List Int, xs.length = many ∧ (∀ x ∈ xs, 0 ≤ x) ∧ m__law_numbers [.list (ns.map .int), .int (p : Nat), .int (many : Nat)] = .ok (.list (xs.map .int)) := by
  obtain ⟨c, hc, ec⟩ := mCell ns p
  have key := forL_inv (set := setOne 7) (body := nBody) (fun done ρ => ∃ (xs : List Int) (r : Int) (a b : Sl), xs.length = done.length ∧ (∀ x ∈ xs, 0 ≤ x) ∧
      ρ = [.val (.list (ns.map .int)), .val (.int (p : Nat)), .val (.int (many : Nat)), .val (.int c), .val (.int (c % 2147483647)), .own (.lst (xs.map .int)), .val (.int r), a, b])
    (ds := nats many) (done := []) (ρ := [.val (.list (ns.map .int)), .val (.int (p : Nat)), .val (.int (many : Nat)), .val (.int c), .val (.int (c % 2147483647)), .own (.lst []), .val (.int c), .un, .un]) ⟨[], c, .un, .un, rfl, by simp, rfl⟩ (by
      rintro pre d post he ρ ⟨xs, r, a, b, hxl, hx, rfl⟩
      rw [List.nil_append] at he
      have hpl : pre.length < many := by
        have := congrArg List.length he
        rw [List.length_append, List.length_cons, List.length_map, List.length_range] at this
        omega
      obtain ⟨i, hi, rfl⟩ := List.mem_map.mp (show d ∈ nats many by rw [he]; simp)
      have hsz : (xs.map PyData.int).length < 16777216 := by rw [List.length_map]; omega
      refine ⟨_, if 1000000000000000000 ≤ c ∧ 0 < r then [.val (.list (ns.map .int)), .val (.int (p : Nat)), .val (.int (many : Nat)), .val (.int c), .val (.int (c % 2147483647)), .own (.lst ((xs ++ [r % 1000000000]).map .int)), .val (.int (r / 1000000000)), .val (.int (i : Nat)), b]
        else [.val (.list (ns.map .int)), .val (.int (p : Nat)), .val (.int (many : Nat)), .val (.int c), .val (.int (c % 2147483647)), .own (.lst ((xs ++ [(((c % 2147483647 * 48271 + ((i : Int) + 1) * 69621 + p) % 2147483647) * 16807 + ((i : Int) + 3) * 40692) % 2147483399 % 1000000000]).map .int)), .val (.int r), .val (.int (i : Nat)), .val (.int ((c % 2147483647 * 48271 + ((i : Int) + 1) * 69621 + p) % 2147483647))], rfl, .inl ?_, ?_⟩
      · by_cases h1 : 1000000000000000000 ≤ c
        · by_cases h2 : 0 < r
          · rw [if_pos ⟨h1, h2⟩]
            simp only [nBody, sIf, sSeq, sSet, sApp, lstAt, zAnd, zB, x2, x1, xB, xK, List.set_cons_succ, List.set_cons_zero, List.getElem?_cons_zero, List.getElem?_cons_succ, rb_ok, ro_some, rt_ok, asB_b, p18, p9, pGe_ii, pGt_ii, pInt_i, pMod_ii _ (show (0 : Int) < 1000000000 by decide), divR, decide_eq_true h1, decide_eq_true h2, if_true, hsz]
            simp
          · rw [if_neg fun z => h2 z.2]
            simp only [nBody, sIf, sSeq, sSet, sApp, lstAt, zAnd, zB, x2, x1, xB, xK, List.set_cons_succ, List.set_cons_zero, List.getElem?_cons_zero, List.getElem?_cons_succ, rb_ok, ro_some, rt_ok, asB_b, p18, p9, pGe_ii, pGt_ii, pInt_i, pAdd_ii, mulR _ (show (48271 : Int).natAbs < 18446744073709551616 by decide), mulR _ (show (69621 : Int).natAbs < 18446744073709551616 by decide), mulR _ (show (16807 : Int).natAbs < 18446744073709551616 by decide), mulR _ (show (40692 : Int).natAbs < 18446744073709551616 by decide), pMod_ii _ (show (0 : Int) < 1000000000 by decide), pMod_ii _ (show (0 : Int) < 2147483647 by decide), pMod_ii _ (show (0 : Int) < 2147483399 by decide), decide_eq_true h1, decide_eq_false h2, if_true, Bool.false_eq_true, if_false, hsz]
            simp
        · rw [if_neg fun z => h1 z.1]
          simp only [nBody, sIf, sSeq, sSet, sApp, lstAt, zAnd, zB, x2, x1, xB, xK, List.set_cons_succ, List.set_cons_zero, List.getElem?_cons_zero, List.getElem?_cons_succ, rb_ok, ro_some, rt_ok, asB_b, p18, p9, pGe_ii, pGt_ii, pInt_i, pAdd_ii, mulR _ (show (48271 : Int).natAbs < 18446744073709551616 by decide), mulR _ (show (69621 : Int).natAbs < 18446744073709551616 by decide), mulR _ (show (16807 : Int).natAbs < 18446744073709551616 by decide), mulR _ (show (40692 : Int).natAbs < 18446744073709551616 by decide), pMod_ii _ (show (0 : Int) < 1000000000 by decide), pMod_ii _ (show (0 : Int) < 2147483647 by decide), pMod_ii _ (show (0 : Int) < 2147483399 by decide), decide_eq_false h1, Bool.false_eq_true, if_true, if_false, hsz]
          simp
      · split
        · refine ⟨_, _, _, _, ?_, ?_, rfl⟩
          · simp [hxl]
          · intro x hx'
            rcases List.mem_append.mp hx' with h | h
            · exact hx x h
            · rw [List.mem_singleton.mp h]; exact Int.emod_nonneg _ (by omega)
        · refine ⟨_, _, _, _, ?_, ?_, rfl⟩
          · simp [hxl]
          · intro x hx'
            rcases List.mem_append.mp hx' with h | h
            · exact hx x h
            · rw [List.mem_singleton.mp h]; exact Int.emod_nonneg _ (by omega))
  obtain ⟨ρ', key, xs, r, a, b, h1, h2, rfl⟩ := key
  refine ⟨xs, by rw [h1]; simp, h2, ?_⟩
  unfold m__law_numbers
  rw [u_num]
  simp only [mOf, sSeq, sSet, sOwn, sRet, sFor, sFrz, thaw, frzSl, iR1, xK, x1, x2, xB, xV, xCall, xsc, xs0_ok, xLst_nil, List.map_cons, List.map_nil, List.length_cons, List.length_nil, List.cons_append, List.nil_append, List.getElem?_cons_zero, List.getElem?_cons_succ, List.set_cons_succ, List.set_cons_zero, List.replicate, Nat.reduceSub, Nat.reduceAdd, rb_ok, rt_ok, ro_some, ec, pInt_i, pMod_ii _ (show (0 : Int) < 2147483647 by decide)]
  rw [rng1_nat (by omega)]
  simp only [ro_some, rt_ok]
  rw [key]
  simp
end k61
end

section
set_option linter.all false
set_option maxRecDepth 100000
namespace k61
open L2 PySem
theorem abcAt {j : Int} (h : 0 ≤ j ∧ j < 3) : ∃ c : Nat, (97 ≤ c ∧ c < 123) ∧ pIx (.str "abc") (.int j) = some (mkS [c]) := by
  have : j = 0 ∨ j = 1 ∨ j = 2 := by omega
  rcases this with rfl | rfl | rfl
  · exact ⟨97, by decide, rfl⟩
  · exact ⟨98, by decide, rfl⟩
  · exact ⟨99, by decide, rfl⟩
theorem ix324 {j : Int} (h : 0 ≤ j ∧ j < 3) : ∃ m : Int, (1 ≤ m ∧ m ≤ 4) ∧ pIx (.list [.int 3, .int 2, .int 4]) (.int j) = some (.int m) := by
  have : j = 0 ∨ j = 1 ∨ j = 2 := by omega
  rcases this with rfl | rfl | rfl
  · exact ⟨3, by decide, rfl⟩
  · exact ⟨2, by decide, rfl⟩
  · exact ⟨4, by decide, rfl⟩
def wBody : SS := sSeq (sSet 2 (x2 pAdd (xB 2) (x2 pIx (xK (.str "abc")) (x2 pMod (x1 pInt (xB 3)) (xB 1))))) (sSet 3 (x2 pDiv (xB 3) (xB 1)))
def wCnt : Sls → Rv Da := x2 pAdd (xK (.int 1)) (x2 pMod (x1 pInt (xB 0)) (x2 pIx (xLst (xsc (xK (.int 3)) (xsc (xK (.int 2)) (xsc (xK (.int 4)) xs0)))) (x2 pMod (x1 pInt (x2 pDiv (xB 0) (xK (.int 3)))) (xK (.int 3)))))
theorem u_word : u__law_word = sSeq (sSet 2 (xK (.str ""))) (sSeq (sSet 3 (x1 pInt (x2 pDiv (xB 0) (xK (.int 6))))) (sSeq (sFor (iR1 wCnt) (setOne 4) wBody) (sRet (xV 2)))) := rfl
theorem wCnt_ok {n : Int} (h : 0 ≤ n) {a b c d : Sl} : ∃ m : Nat, (1 ≤ m ∧ m ≤ 4) ∧ wCnt [.val (.int n), a, b, c, d] = .ok (.int (m : Nat)) := by
  have hj : 0 ≤ n / 3 % 3 ∧ n / 3 % 3 < 3 := ⟨Int.emod_nonneg _ (by decide), Int.emod_lt_of_pos _ (by decide)⟩
  obtain ⟨m, hm, e⟩ := ix324 hj
  have h1 : 0 ≤ n % m := Int.emod_nonneg _ (by omega)
  have h2 : n % m < m := Int.emod_lt_of_pos _ (by omega)
  have e1 : xLst (xsc (xK (.int 3)) (xsc (xK (.int 2)) (xsc (xK (.int 4)) xs0))) [.val (.int n), a, b, c, d] = .ok (.list [.int 3, .int 2, .int 4]) := rfl
  refine ⟨(1 + n % m).toNat, by omega, ?_⟩
  simp only [wCnt, x2, x1, xK, xB, List.getElem?_cons_zero, rb_ok, ro_some, pInt_i, e1, pDiv_ii _ (show okDiv 3 = true by decide), pMod_ii _ (show (0 : Int) < 3 by decide), e, pMod_ii _ (show 0 < m by omega), pAdd_ii]
  congr 2
  omega
/-- small words -/
def Sm (w : W1) : Prop := (∀ c ∈ w, 97 ≤ c ∧ c < 123)
theorem mWord {n l : Int} (hn : 0 ≤ n) (hl : l = 1 ∨ l = 2 ∨ l = 3) : ∃ w : W1, (1 ≤ w.length ∧ w.length ≤ 4) ∧ Sm w ∧ m__law_word [.int n, .int l] = .ok (mkS w) := by
  have hd : okDiv l = true := by rcases hl with rfl | rfl | rfl <;> decide
  have hl0 : 0 < l := by omega
  obtain ⟨m, hm, hcnt⟩ := wCnt_ok hn (a := .val (.int l)) (b := .val (mkS [])) (c := .val (.int (n / 6))) (d := .un)
  have key := forL_inv (set := setOne 4) (body := wBody) (fun done ρ => ∃ (w : W1) (r : Int) (a : Sl), w.length = done.length ∧ Sm w ∧ ρ = [.val (.int n), .val (.int l), .val (mkS w), .val (.int r), a])
    (ds := nats m) (done := []) (ρ := [.val (.int n), .val (.int l), .val (mkS []), .val (.int (n / 6)), .un]) ⟨[], _, _, rfl, by intro c hc; simp at hc, rfl⟩ (by
      rintro pre d post he ρ ⟨w, r, a, h1, h2, rfl⟩
      rw [List.nil_append] at he
      have hpl : pre.length < m := by
        have := congrArg List.length he
        rw [List.length_append, List.length_cons, List.length_map, List.length_range] at this
        omega
      obtain ⟨c, hc, ec⟩ := abcAt (j := r % l) ⟨Int.emod_nonneg _ (by omega), by have := Int.emod_lt_of_pos r hl0; omega⟩
      refine ⟨_, [.val (.int n), .val (.int l), .val (mkS (w ++ [c])), .val (.int (r / l)), .val d], rfl, .inl ?_, w ++ [c], r / l, .val d, by simp [h1], ?_, rfl⟩
      · simp only [wBody, sSeq, sSet, x2, x1, xK, xB, List.set_cons_succ, List.set_cons_zero, List.getElem?_cons_zero, List.getElem?_cons_succ, rb_ok, rt_ok, ro_some, pInt_i, pMod_ii _ hl0, ec, pAdd_str (show w.length + [c].length ≤ 16777216 by simp; omega), pDiv_ii _ hd]
      · intro x hx
        rcases List.mem_append.mp hx with h | h
        · exact h2 x h
        · rw [List.mem_singleton.mp h]; exact hc)
  obtain ⟨ρ', key, w, r, a, h1, h2, rfl⟩ := key
  refine ⟨w, by rw [h1]; simp; omega, h2, ?_⟩
  unfold m__law_word
  rw [u_word]
  simp only [mOf, sSeq, sSet, sRet, sFor, iR1, xK, x1, x2, xB, xV, str_nil, List.map_cons, List.map_nil, List.length_cons, List.length_nil, List.cons_append, List.nil_append, List.getElem?_cons_zero, List.getElem?_cons_succ, List.set_cons_succ, List.set_cons_zero, List.replicate, Nat.reduceSub, Nat.reduceAdd, rb_ok, rt_ok, ro_some, pInt_i, pDiv_ii _ (show okDiv 6 = true by decide), hcnt]
  rw [rng1_nat (by omega)]
  simp only [ro_some, rt_ok]
  rw [key]
  simp
end k61
end

section
set_option linter.all false
set_option maxRecDepth 100000
namespace k61
open L2 PySem
theorem ix2231 {j : Int} (h : 0 ≤ j ∧ j < 4) : ∃ m : Int, (m = 1 ∨ m = 2 ∨ m = 3) ∧ pIx (.list [.int 2, .int 2, .int 3, .int 1]) (.int j) = some (.int m) := by
  have : j = 0 ∨ j = 1 ∨ j = 2 ∨ j = 3 := by omega
  rcases this with rfl | rfl | rfl | rfl
  · exact ⟨2, by decide, rfl⟩
  · exact ⟨2, by decide, rfl⟩
  · exact ⟨3, by decide, rfl⟩
  · exact ⟨1, by decide, rfl⟩
structure W6 (w : W1) : Prop where
  sm : Sm w
  pos : 1 ≤ w.length
  le : w.length ≤ 6
theorem W6.wd {w : W1} (h : W6 w) : Wd w := ⟨⟨by have := h.le; omega, h.sm⟩, h.pos, h.le⟩
theorem pNotIn_strs {w : W1} {ws : List W1} (h : okW w) (hs : ∀ x ∈ ws, okW x) : pNotIn (mkS w) (.list (sLs ws)) = some (.bool (!decide (w ∈ ws))) := by
  have e : inD (mkS w) (.list (sLs ws)) = some (decide (w ∈ ws)) := by
    show (if SeqAt.shaped (mkS w) = true ∧ SeqAt.shaped (.list (sLs ws)) = true then some ((sLs ws).any fun z => PyData.eqv z (mkS w)) else none) = _
    rw [if_pos ⟨shStr h, shLStr hs⟩, any_eqv]
  unfold pNotIn
  rw [e]
  rfl
def lBody : SS := sSeq (sSet 4 (xCall m__law_word (xsc (x2 pIx (xB 0) (x2 pAdd (xK (.int 1)) (xB 3))) (xsc (xV 1) xs0)))) (sSeq (sIf (zAnd (zB (x2 pEq (x2 pMod (x1 pInt (x2 pDiv (x2 pIx (xB 0) (xK (.int 0))) (xK (.int 24)))) (xK (.int 3))) (xK (.int 0)))) (zB (x2 pNe (xB 2) (xLst xs0)))) (sSet 4 (xCut pCut (x2 pAdd (x2 pIx (xB 2) (x2 pMod (x1 pInt (x2 pDiv (x2 pIx (xB 0) (x2 pAdd (xK (.int 1)) (xB 3))) (xK (.int 50)))) (x1 pLen (xB 2)))) (xB 4)) oNo (oAt (xK (.int 6))))) sNx) (sIf (zB (x2 pNotIn (xB 4) (xB 2))) (sApp 2 (xV 4)) sNx))
def lLet : Sls → Rv Da := x2 pIx (xLst (xsc (xK (.int 2)) (xsc (xK (.int 2)) (xsc (xK (.int 3)) (xsc (xK (.int 1)) xs0))))) (x2 pMod (x1 pInt (x2 pIx (xB 0) (xK (.int 0)))) (xK (.int 4)))
def lCnt : Sls → Rv Da := x2 pAdd (xK (.int 1)) (x2 pMod (x1 pInt (x2 pDiv (x2 pIx (xB 0) (xK (.int 0))) (xK (.int 4)))) (xK (.int 6)))
theorem u_list : u__law_list = sSeq (sSet 1 lLet) (sSeq (sOwn 2 (xLst xs0)) (sSeq (sFor (iR1 lCnt) (setOne 3) lBody) (sRet (x1 pTup (xB 2))))) := rfl
theorem ixI {xs : List Int} {i : Nat} (h : i < xs.length) : pIx (.list (xs.map .int)) (.int (i : Nat)) = some (.int xs[i]) := pIx_lst _ i _ (by rw [List.getElem?_map, List.getElem?_eq_getElem h]; rfl)
structure G (ws : List W1) (n : Nat) : Prop where
  le : ws.length ≤ n
  pos : 1 ≤ n → 1 ≤ ws.length
  w6 : ∀ w ∈ ws, W6 w
  nd : ws.Nodup
theorem G.okS {ws : List W1} {n : Nat} (g : G ws n) : ∀ w ∈ ws, okW w := fun w hw => (g.w6 w hw).wd.1.ok
/-- the last step: the word is put to the others if it is new -/
theorem lEnd {ws : List W1} {n : Nat} (g : G ws n) (hn : n < 100) {w : W1} (hw : W6 w) {a b c : Sl} : ∃ ws', G ws' (n + 1) ∧ sIf (zB (x2 pNotIn (xB 4) (xB 2))) (sApp 2 (xV 4)) sNx [a, b, .own (.lst (sLs ws)), c, .val (mkS w)] = .nx [a, b, .own (.lst (sLs ws')), c, .val (mkS w)] := by
  have hl := g.le
  by_cases h : w ∈ ws
  · refine ⟨ws, ⟨by omega, fun _ => ?_, g.w6, g.nd⟩, ?_⟩
    · exact List.length_pos_of_mem h
    · simp only [sIf, sNx, zB, x2, xB, List.getElem?_cons_zero, List.getElem?_cons_succ, rb_ok, ro_some, rt_ok, asB_b, pNotIn_strs hw.wd.1.ok g.okS, decide_eq_true h, Bool.not_true, Bool.false_eq_true, if_false]
  · refine ⟨ws ++ [w], ⟨by simp; omega, fun _ => by simp, fun x hx => ?_, ?_⟩, ?_⟩
    · rcases List.mem_append.mp hx with z | z
      · exact g.w6 x z
      · rw [List.mem_singleton.mp z]; exact hw
    · rw [List.nodup_append]
      refine ⟨g.nd, by simp, fun x hx y hy e => ?_⟩
      rw [List.mem_singleton.mp hy] at e
      exact h (e ▸ hx)
    · have hs : (sLs ws).length < 16777216 := by rw [List.length_map]; omega
      simp only [sIf, sApp, lstAt, zB, x2, xB, xV, List.set_cons_succ, List.set_cons_zero, List.getElem?_cons_zero, List.getElem?_cons_succ, rb_ok, ro_some, rt_ok, asB_b, pNotIn_strs hw.wd.1.ok g.okS, decide_eq_false h, Bool.not_false, if_true, hs]
      simp
theorem mList {xs : List Int} (hl : 7 ≤ xs.length) (hx : ∀ x ∈ xs, 0 ≤ x) : ∃ ws, V ws ∧ m__law_list [.list (xs.map .int)] = .ok (.tuple (sLs ws)) := by
  have x0 : 0 ≤ xs[0] := hx _ (List.getElem_mem _)
  have i0 := ixI (xs := xs) (i := 0) (by omega)
  have i0 : pIx (.list (xs.map .int)) (.int 0) = some (.int xs[0]) := i0
  obtain ⟨l, hlet, el⟩ := ix2231 (j := xs[0] % 4) ⟨Int.emod_nonneg _ (by decide), Int.emod_lt_of_pos _ (by decide)⟩
  have hc0 : 0 ≤ xs[0] / 4 % 6 := Int.emod_nonneg _ (by decide)
  have hc1 : xs[0] / 4 % 6 < 6 := Int.emod_lt_of_pos _ (by decide)
  obtain ⟨m, hm⟩ : ∃ m : Nat, (m : Int) = 1 + xs[0] / 4 % 6 := ⟨(1 + xs[0] / 4 % 6).toNat, by omega⟩
  have key := forL_inv (set := setOne 3) (body := lBody) (fun done ρ => ∃ (ws : List W1) (a b : Sl), G ws done.length ∧ ρ = [.val (.list (xs.map .int)), .val (.int l), .own (.lst (sLs ws)), a, b])
    (ds := nats m) (done := []) (ρ := [.val (.list (xs.map .int)), .val (.int l), .own (.lst []), .un, .un]) ⟨[], _, _, ⟨Nat.le_refl _, fun z => absurd z (by decide), by simp, by simp⟩, rfl⟩ (by
      rintro pre d post he ρ ⟨ws, a, b, g, rfl⟩
      rw [List.nil_append] at he
      have hpl : pre.length < m := by
        have := congrArg List.length he
        rw [List.length_append, List.length_cons, List.length_map, List.length_range] at this
        omega
      have hd : d = .int (pre.length : Nat) := by
        have e1 : (nats m)[pre.length]? = some d := by rw [he]; simp
        unfold nats at e1
        rw [List.getElem?_map, List.getElem?_range hpl] at e1
        exact (Option.some.inj e1).symm
      subst hd
      have hi : 1 + pre.length < xs.length := by omega
      have xi : 0 ≤ xs[1 + pre.length] := hx _ (List.getElem_mem _)
      have ii : pIx (.list (xs.map .int)) (.int (1 + (pre.length : Int))) = some (.int xs[1 + pre.length]) := by
        have e : (1 + (pre.length : Int)) = ((1 + pre.length : Nat) : Int) := by omega
        rw [e]; exact ixI hi
      obtain ⟨w, hwl, hws, ew⟩ := mWord xi hlet
      have hw6 : W6 w := ⟨hws, hwl.1, by omega⟩
      by_cases hc : xs[0] / 24 % 3 = 0 ∧ ws ≠ []
      · have hwp : 0 < ws.length := List.length_pos_iff.mpr hc.2
        have hj0 : 0 ≤ xs[1 + pre.length] / 50 % (ws.length : Int) := Int.emod_nonneg _ (by omega)
        have hj1 : xs[1 + pre.length] / 50 % (ws.length : Int) < ws.length := Int.emod_lt_of_pos _ (by omega)
        obtain ⟨j, hj⟩ : ∃ j : Nat, (j : Int) = xs[1 + pre.length] / 50 % (ws.length : Int) := ⟨(xs[1 + pre.length] / 50 % (ws.length : Int)).toNat, by omega⟩
        have hjl : j < ws.length := by omega
        have ij : pIx (.list (sLs ws)) (.int (xs[1 + pre.length] / 50 % (ws.length : Int))) = some (mkS ws[j]) := by
          rw [← hj]
          exact pIx_lst _ j _ (by rw [List.getElem?_map, List.getElem?_eq_getElem hjl]; rfl)
        have gj := g.w6 _ (List.getElem_mem hjl)
        have hn6 : W6 ((ws[j] ++ w).take 6) := by
          refine ⟨fun c hc => ?_, ?_, ?_⟩
          · rcases List.mem_append.mp (List.mem_of_mem_take hc) with z | z
            · exact gj.sm c z
            · exact hws c z
          · rw [List.length_take, List.length_append]; have := gj.pos; omega
          · rw [List.length_take]; omega
        obtain ⟨ws', g', e'⟩ := lEnd g (by have := hm; omega) hn6 (a := .val (.list (xs.map .int))) (b := .val (.int l)) (c := .val (.int (pre.length : Nat)))
        have hs : shortW (ws[j] ++ w) := by unfold shortW; rw [List.length_append]; have := gj.le; have := hw6.le; omega
        refine ⟨_, _, rfl, .inl (?_ : _ = Out.nx [.val (.list (xs.map .int)), .val (.int l), .own (.lst (sLs ws')), .val (.int (pre.length : Nat)), .val (mkS ((ws[j] ++ w).take 6))]), ws', _, _, by simpa using g', rfl⟩
        rw [← e']
        have c6 : pCut none (some 6) (mkS (ws[j] ++ w)) = some (mkS ((ws[j] ++ w).take 6)) := by
          rw [pCut_str _ _ hs]
          have := cut_to (ws[j] ++ w) 6
          rw [← this]; rfl
        have hne : (sLs ws).isEmpty = false := by cases ws with
          | nil => exact absurd rfl hc.2
          | cons _ _ => rfl
        simp only [lBody, sSeq, sSet, sIf, sNx, zAnd, zB, x2, x1, xK, xB, xV, xCall, xsc, xs0_ok, xLst_nil, xCut, oNo, oAt, List.set_cons_succ, List.set_cons_zero, List.getElem?_cons_zero, List.getElem?_cons_succ, rb_ok, rt_ok, ro_some, asB_b, pInt_i, pAdd_ii, ii, ew, i0, pDiv_ii _ (show okDiv 24 = true by decide), pDiv_ii _ (show okDiv 50 = true by decide), pMod_ii _ (show (0 : Int) < 3 by decide), pEq_int, decide_eq_true hc.1, if_true, pNe_nil (shLStr g.okS), hne, Bool.not_false, pLen_l, List.length_map, pMod_ii _ (show (0 : Int) < (ws.length : Int) by omega), ij, pAdd_str (show ws[j].length + w.length ≤ 16777216 by have := gj.le; have := hw6.le; omega), c6]
      · obtain ⟨ws', g', e'⟩ := lEnd g (by have := hm; omega) hw6 (a := .val (.list (xs.map .int))) (b := .val (.int l)) (c := .val (.int (pre.length : Nat)))
        refine ⟨_, _, rfl, .inl (?_ : _ = Out.nx [.val (.list (xs.map .int)), .val (.int l), .own (.lst (sLs ws')), .val (.int (pre.length : Nat)), .val (mkS w)]), ws', _, _, by simpa using g', rfl⟩
        rw [← e']
        by_cases h1 : xs[0] / 24 % 3 = 0
        · have h2 : ws = [] := Classical.byContradiction fun z => hc ⟨h1, z⟩
          subst h2
          have en : pNe (.list []) (.list []) = some (.bool false) := by rw [pNe_nil (by decide)]; rfl
          simp only [lBody, sSeq, sSet, sIf, sNx, zAnd, zB, x2, x1, xK, xB, xV, xCall, xsc, xs0_ok, xLst_nil, List.set_cons_succ, List.set_cons_zero, List.getElem?_cons_zero, List.getElem?_cons_succ, rb_ok, rt_ok, ro_some, asB_b, pInt_i, pAdd_ii, ii, ew, i0, pDiv_ii _ (show okDiv 24 = true by decide), pMod_ii _ (show (0 : Int) < 3 by decide), pEq_int, decide_eq_true h1, if_true, List.map_nil, en, Bool.false_eq_true, if_false]
        · simp only [lBody, sSeq, sSet, sIf, sNx, zAnd, zB, x2, x1, xK, xB, xV, xCall, xsc, xs0_ok, xLst_nil, List.set_cons_succ, List.set_cons_zero, List.getElem?_cons_zero, List.getElem?_cons_succ, rb_ok, rt_ok, ro_some, asB_b, pInt_i, pAdd_ii, ii, ew, i0, pDiv_ii _ (show okDiv 24 = true by decide), pMod_ii _ (show (0 : Int) < 3 by decide), pEq_int, decide_eq_false h1, Bool.false_eq_true, if_false])
  obtain ⟨ρ', key, ws, a, b, g, rfl⟩ := key
  have e : ([] ++ nats m).length = m := by simp
  rw [e] at g
  refine ⟨ws, ⟨g.pos (by omega), by have := g.le; omega, fun w hw => (g.w6 w hw).wd, g.nd⟩, ?_⟩
  have e1 : xLst (xsc (xK (.int 2)) (xsc (xK (.int 2)) (xsc (xK (.int 3)) (xsc (xK (.int 1)) xs0)))) [.val (.list (xs.map .int)), .un, .un, .un, .un] = .ok (.list [.int 2, .int 2, .int 3, .int 1]) := rfl
  unfold m__law_list
  rw [u_list]
  simp only [mOf, sSeq, sSet, sOwn, sRet, sFor, iR1, lLet, lCnt, xK, x1, x2, xB, xLst_nil, List.map_cons, List.map_nil, List.length_cons, List.length_nil, List.cons_append, List.nil_append, List.getElem?_cons_zero, List.getElem?_cons_succ, List.set_cons_succ, List.set_cons_zero, List.replicate, Nat.reduceSub, Nat.reduceAdd, rb_ok, rt_ok, ro_some, pInt_i, i0, pMod_ii _ (show (0 : Int) < 4 by decide), pMod_ii _ (show (0 : Int) < 6 by decide), pDiv_ii _ (show okDiv 4 = true by decide), pAdd_ii, e1, el]
  have hm2 : (1 : Int) + xs[0] / 4 % 6 = ((m : Nat) : Int) := by omega
  rw [hm2, rng1_nat (by omega)]
  simp only [ro_some, rt_ok]
  rw [key]
  simp
end k61
end

section
set_option linter.all false
set_option maxRecDepth 100000
namespace k61
open L2 PySem
/-- what _law_same meets -/
def Sc : Da → Prop
  | .none => True
  | .bool _ => True
  | .int _ => True
  | .str _ => True
  | _ => False
theorem pEq_refl_s (x : Str) : pEq (.str x) (.str x) = some (.bool true) := by
  obtain ⟨⟨x⟩⟩ := x
  rw [pEq_str]; simp
theorem sameS (n : Nat) {d : Da} (h : Sc d) : m__law_same (n + 1) [d, d] = .ok (.bool true) := by
  cases d with
  | none => simp [m__law_same, pIsi, notDict, Tc.has, pIs, isD]
  | bool b =>
    cases b <;> simp [m__law_same, pIsi, pIsiT, notDict, Tc.has, pIs, isD, pNe_bool] <;> simp [pEq, eqD, scalD, PyData.eqv]
  | int i => simp [m__law_same, pIsi, pIsiT, notDict, Tc.has, pIs, isD, pNe_bool, pEq_int]
  | str x => simp [m__law_same, pIsi, pIsiT, notDict, Tc.has, pIs, isD, pNe_bool, pEq_refl_s]
  | _ => exact h.elim
theorem pNe_int_r (i : Int) : pNe (.int i) (.int i) = some (.bool false) := by rw [pNe_int]; simp
def smBody (n : Nat) : SS := sIf (zNot (zTru (xCall (m__law_same n) (xsc (x2 pIx (xB 0) (xB 2)) (xsc (x2 pIx (xB 1) (xB 2)) xs0))))) (sRet (xK (.bool false))) sNx
theorem sameT (n : Nat) {ds : List Da} (hl : ds.length ≤ 1000) (h : ∀ d ∈ ds, Sc d) : m__law_same (n + 2) [.tuple ds, .tuple ds] = .ok (.bool true) := by
  have key := forL_inv (set := setOne 2) (body := smBody (n + 1)) (fun done ρ => ∃ a, ρ = [.val (.tuple ds), .val (.tuple ds), a]) (ds := nats ds.length) (done := []) (ρ := [.val (.tuple ds), .val (.tuple ds), .un]) ⟨_, rfl⟩ (by
    rintro pre d post he ρ ⟨a, rfl⟩
    rw [List.nil_append] at he
    obtain ⟨i, hi, rfl⟩ := List.mem_map.mp (show d ∈ nats ds.length by rw [he]; simp)
    have hi := List.mem_range.mp hi
    have e := pIx_tup ds i ds[i] (List.getElem?_eq_getElem hi)
    refine ⟨_, [.val (.tuple ds), .val (.tuple ds), .val (.int (i : Nat))], rfl, .inl ?_, .val (.int (i : Nat)), rfl⟩
    · simp only [smBody, sIf, sNx, zNot, zTru, x2, xB, xCall, xsc, xs0_ok, List.set_cons_succ, List.set_cons_zero, List.getElem?_cons_zero, List.getElem?_cons_succ, rb_ok, ro_some, e, sameS n (h _ (List.getElem_mem hi)), truD_b, Bool.not_true, rt_ok, Bool.false_eq_true, if_false])
  obtain ⟨ρ', key, a, rfl⟩ := key
  have e1 : rng1 (.int (ds.length : Nat)) = some (nats ds.length) := rng1_nat (by omega)
  have e2 : forL (setOne 2) (smBody (n + 1)) (nats ds.length) [.val (.tuple ds), .val (.tuple ds), .un] = .nx [.val (.tuple ds), .val (.tuple ds), a] := key
  unfold smBody at e2
  unfold m__law_same
  generalize m__law_same (n + 1) = q at e2 ⊢
  simp only [mOf, sSeq, sIf, sRet, sNx, sFor, iR1, zOr, zNot, zTru, zB, x1, x2, xB, xK, List.map_cons, List.map_nil, List.length_cons, List.length_nil, List.cons_append, List.nil_append, List.getElem?_cons_zero, List.getElem?_cons_succ, List.replicate, Nat.reduceSub, Nat.reduceAdd, rb_ok, rt_ok, ro_some, pIsi, notDict, Tc.has, truD_b, if_true, Bool.not_true, Bool.false_eq_true, if_false, pLen_t, pNe_int_r, asB_b, e1, ite_true, e2]
end k61
end

section
set_option linter.all false
set_option maxRecDepth 100000
namespace k61
open L2 PySem
theorem valS (S : List W1) : pIx (.list (sLs S ++ [.none])) (.int 0) = some (optS S.head?) := by
  cases S with
  | nil => rfl
  | cons a r => exact pIx_lst _ 0 _ rfl
theorem valN (N : List Nat) : pIx (.list (natD N ++ [.none])) (.int 0) = some (optN N.head?) := by
  cases N with
  | nil => rfl
  | cons a r => exact pIx_lst _ 0 _ rfl
theorem optN_sc (o : Option Nat) : Sc (optN o) := by cases o <;> trivial
theorem optS_sc (o : Option W1) : Sc (optS o) := by cases o <;> trivial
theorem pNe_optS (o : Option W1) : pNe (optS o) (optS o) = some (.bool false) := by
  cases o with
  | none => rfl
  | some t => show pNe (mkS t) (mkS t) = _; rw [pNe_str]; simp
def xw : Sls → Rv Da := x2 pIx (xB 0) (xB 1)
section
variable {ws : List W1} (v : V ws)
include v
/-- the drawn words -/
def drw (d : Da) : Da := match m__law_word [d, .int 3] with
  | .ok r => r
  | _ => .none
omit v in
theorem drw_ok {x : Int} (h : 0 ≤ x) : ∃ t : W1, Lt t ∧ m__law_word [.int x, .int 3] = .ok (mkS t) ∧ drw (.int x) = mkS t := by
  obtain ⟨t, h1, h2, e⟩ := mWord (n := x) (l := 3) h (by omega)
  refine ⟨t, ⟨by omega, h2⟩, e, ?_⟩
  unfold drw
  rw [e]
theorem shorts_comp {k : Nat} {w : W1} (h : ws[k]? = some w) {ρ : Sls} (h0 : xw ρ = .ok (mkS w)) (hρ : ∀ d, xw ((wipeR ρ [9]).set 9 d) = .ok (mkS w) ∧ xV 0 ((wipeR ρ [9]).set 9 d) = .ok (.tuple (sLs ws)) ∧ xV 1 ((wipeR ρ [9]).set 9 d) = .ok (.int (k : Nat)) ∧ xV 9 ((wipeR ρ [9]).set 9 (.val (.int 0))) = .ok (.int 0) ∧ ∀ i, xV 9 ((wipeR ρ [9]).set 9 (.val i)) = .ok i) :
    xComp [9] (iR2 (xK (.int 1)) (x2 pAdd (x1 pLen (x2 pIx (xB 0) (xB 1))) (xK (.int 1)))) (setOne 9) (zTru (xCall m__law_is_short (xsc (xV 0) (xsc (xV 1) (xsc (xCut pCut (x2 pIx (xB 0) (xB 1)) oNo (oAt (xV 9))) xs0))))) (xCut pCut (x2 pIx (xB 0) (xB 1)) oNo (oAt (xV 9))) ρ
      = .ok (.list (sLs ((pres w).filter (lS ws k)))) := by
  have hw := v.wd w (List.mem_of_getElem? h)
  have hl := hw.2.2
  have i1 : iR2 (xK (.int 1)) (x2 pAdd (x1 pLen xw) (xK (.int 1))) ρ = .ok (nats1 w.length) := by
    simp only [iR2, x2, x1, xK, rb_ok, h0, pLen_str hw.1.sh, ro_some, pAdd_ii]
    rw [rng2_1 (by omega)]
    rfl
  refine (xComp_fil (ds := nats1 w.length) (fun d => lS ws k (w.take (toN d))) (fun d => mkS (w.take (toN d))) i1 (by simp; omega) fun d hd => ?_).trans ?_
  · obtain ⟨n, hn, rfl⟩ := List.mem_map.mp hd
    obtain ⟨a1, a2, a3, _, a5⟩ := hρ (.val (.int ((n + 1 : Nat) : Int)))
    have cut : xCut pCut xw oNo (oAt (xV 9)) ((wipeR ρ [9]).set 9 (.val (.int ((n + 1 : Nat) : Int)))) = .ok (mkS (w.take (n + 1))) := by
      simp only [xCut, oNo, oAt, a1, a5, rb_ok]
      rw [pCut_str _ _ hw.1.sh, cut_to]
      rfl
    refine ⟨_, rfl, ?_, fun _ => cut⟩
    have m := mLS v h (hw.1.take (n + 1))
    have cut2 : xCut pCut (x2 pIx (xB 0) (xB 1)) oNo (oAt (xV 9)) ((wipeR ρ [9]).set 9 (.val (.int ((n + 1 : Nat) : Int)))) = .ok (mkS (w.take (n + 1))) := cut
    simp only [zTru, xCall, xsc, xs0_ok, a2, a3, cut2, rb_ok, m, truD_b, ro_some]
    rfl
  · congr 2
    unfold nats1 pres sLs
    rw [List.filter_map, List.filter_map, List.map_map, List.map_map]
    rfl
end
end k61
end

section
set_option linter.all false
set_option maxRecDepth 100000
namespace k61
open L2 PySem
def c1 : Sls → Rv Da := xComp [9] (iR2 (xK (.int 1)) (x2 pAdd (x1 pLen (x2 pIx (xB 0) (xB 1))) (xK (.int 1)))) (setOne 9) (zTru (xCall m__law_is_short (xsc (xV 0) (xsc (xV 1) (xsc (xCut pCut (x2 pIx (xB 0) (xB 1)) oNo (oAt (xV 9))) xs0))))) (xCut pCut (x2 pIx (xB 0) (xB 1)) oNo (oAt (xV 9)))
def c2 : Sls → Rv Da := xComp [10] (iR1 (x1 pLen (xB 0))) (setOne 10) (zAnd (zB (x2 pNe (xB 10) (xB 1))) (zTru (xCall m__law_begins (xsc (x2 pIx (xB 0) (xB 1)) (xsc (x2 pIx (xB 0) (xB 10)) xs0))))) (xV 10)
def c3 : Sls → Rv Da := xComp [11] (iSq (xCall m__law_parts (xsc (x2 pIx (xB 0) (xB 1)) xs0))) (setOne 11) (zTru (xCall m__law_is_mark (xsc (xV 0) (xsc (xV 1) (xsc (xV 11) xs0))))) (xV 11)
def c4 : Sls → Rv Da := xComp [10] (iR1 (x1 pLen (xB 0))) (setOne 10) (zAnd (zB (x2 pNe (xB 10) (xB 1))) (zTru (xCall m__law_holds (xsc (x2 pIx (xB 0) (xB 10)) (xsc (x2 pIx (xB 0) (xB 1)) xs0))))) (xV 10)
def g1 : Sls → Rv Bool := zOr (zB (x2 pNe (xCall m_short_form (xsc (xV 0) (xsc (xV 1) xs0))) (x2 pIx (x2 pAdd (xB 3) (xLst (xsc (xK .none) xs0))) (xK (.int 0))))) (zOr (zNot (zTru (xCall (m__law_same 6) (xsc (xCall m_cover_of (xsc (xV 0) (xsc (xV 1) xs0))) (xsc (x2 pIx (x2 pAdd (xB 4) (xLst (xsc (xK .none) xs0))) (xK (.int 0))) xs0))))) (zB (x2 pNe (x2 pEq (xB 3) (xLst xs0)) (x2 pNe (xB 4) (xLst xs0)))))
def g2 : Sls → Rv Bool := zOr (zB (x2 pNe (xCall m_mark_of (xsc (xV 0) (xsc (xV 1) xs0))) (x2 pIx (x2 pAdd (xB 5) (xLst (xsc (xK .none) xs0))) (xK (.int 0))))) (zOr (zNot (zTru (xCall (m__law_same 6) (xsc (xCall m_holder_of (xsc (x1 pLst (xB 0)) (xsc (xV 1) xs0))) (xsc (x2 pIx (x2 pAdd (xB 6) (xLst (xsc (xK .none) xs0))) (xK (.int 0))) xs0))))) (zB (x2 pNe (x2 pEq (xB 5) (xLst xs0)) (x2 pNe (xB 6) (xLst xs0)))))
def c7 : Sls → Rv Da := xComp [12] (iSq (xB 2)) (setOne 12) zYes (xCall m__law_word (xsc (xV 12) (xsc (xK (.int 3)) xs0)))
def i8 : Sls → Rv (List Da) := iSq (x2 pAdd (x2 pAdd (xCall m__law_parts (xsc (x2 pIx (xB 0) (xB 1)) xs0)) (xB 7)) (xLst (xsc (xK (.str "")) (xsc (x2 pAdd (x2 pIx (xB 0) (xB 1)) (xK (.str "a"))) xs0))))
def b8 : SS := sIf (zOr (zNot (zTru (xCall (m__law_same 6) (xsc (xCall m_is_short (xsc (xV 0) (xsc (xV 1) (xsc (xV 8) xs0)))) (xsc (xCall m__law_is_short (xsc (xV 0) (xsc (xV 1) (xsc (xV 8) xs0)))) xs0))))) (zNot (zTru (xCall (m__law_same 6) (xsc (xCall m_is_mark (xsc (xV 0) (xsc (xV 1) (xsc (xV 8) xs0)))) (xsc (xCall m__law_is_mark (xsc (xV 0) (xsc (xV 1) (xsc (xV 8) xs0)))) xs0)))))) (sRet (xK (.bool false))) sNx
def r9 : Sls → Rv Da := xAnd (x2 pIs (xCall m_is_short (xsc (xV 0) (xsc (xV 1) (xsc (xK .none) xs0)))) (xK (.bool false))) (x2 pIs (xCall m_is_mark (xsc (xV 0) (xsc (xV 1) (xsc (xK (.int 7)) xs0)))) (xK (.bool false)))
theorem u_wo : u__law_word_of = sSeq (sSet 3 c1) (sSeq (sSet 4 c2) (sSeq (sSet 5 c3) (sSeq (sSet 6 c4) (sSeq (sIf g1 (sRet (xK (.bool false))) sNx) (sSeq (sIf g2 (sRet (xK (.bool false))) sNx) (sSeq (sSet 7 c7) (sSeq (sFor i8 (setOne 8) b8) (sRet r9)))))))) := rfl
theorem pLst_ok (l : List Da) : pLst (.tuple l) = some (.list l) := id rfl
section
variable {ws : List W1} (v : V ws) {k : Nat} {w : W1} (h : ws[k]? = some w) {N : Da}
include v h
abbrev T0 (ws : List W1) : Sl := .val (.tuple (sLs ws))
theorem e_c1 : c1 [T0 ws, .val (.int (k : Nat)), .val N, .un, .un, .un, .un, .un, .un, .un, .un, .un, .un] = .ok (.list (sLs ((pres w).filter (lS ws k)))) := by
  have x : ∀ (r : List Sl), xw (T0 ws :: .val (.int (k : Nat)) :: r) = .ok (mkS w) := fun r => by simp only [xw, x2, xB, List.getElem?_cons_zero, List.getElem?_cons_succ, rb_ok, pIxW h, ro_some]
  refine shorts_comp v h (x _) fun d => ⟨x _, rfl, rfl, rfl, fun i => rfl⟩
theorem e_c2 (a : Sl) : c2 [T0 ws, .val (.int (k : Nat)), .val N, a, .un, .un, .un, .un, .un, .un, .un, .un, .un] = .ok (.list (natD (othN ws k (begins w)))) := by
  have hw := v.wd w (List.mem_of_getElem? h)
  refine othN_comp (begins w) v.le (iR1_row _ rfl) fun j x hx => ⟨_, rfl, ?_, rfl⟩
  have hx2 := v.wd x (List.mem_of_getElem? hx)
  simp only [wipeR, zAnd, zB, zTru, x2, xCall, xsc, xs0_ok, xB, List.set_cons_succ, List.set_cons_zero, List.getElem?_cons_zero, List.getElem?_cons_succ, rb_ok, ro_some, pNe_int, asB_b, dec_nat, pIxW hx, pIxW h, mBegins hx2.1.sh hw.1.sh, truD_b]
  cases decide (j = k) <;> simp
theorem e_c4 (a b c : Sl) : c4 [T0 ws, .val (.int (k : Nat)), .val N, a, b, c, .un, .un, .un, .un, .un, .un, .un] = .ok (.list (natD (othN ws k (isInL w)))) := by
  have hw := v.wd w (List.mem_of_getElem? h)
  have hne : w ≠ [] := fun z => by have := hw.2.1; rw [z] at this; simp at this
  refine othN_comp (isInL w) v.le (iR1_row _ rfl) fun j x hx => ⟨_, rfl, ?_, rfl⟩
  have hx2 := v.wd x (List.mem_of_getElem? hx)
  simp only [wipeR, zAnd, zB, zTru, x2, xCall, xsc, xs0_ok, xB, List.set_cons_succ, List.set_cons_zero, List.getElem?_cons_zero, List.getElem?_cons_succ, rb_ok, ro_some, pNe_int, asB_b, dec_nat, pIxW hx, pIxW h, mHolds hx2.1 hw.1, truD_b, places_in hne]
  cases decide (j = k) <;> simp
theorem allP_len : (allP w).length ≤ 42 := by
  have hw := v.wd w (List.mem_of_getElem? h)
  have h1 := allTo_len w w.length
  have h2 : w.length * (w.length + 1) ≤ 6 * 7 := Nat.mul_le_mul hw.2.2 (by have := hw.2.2; omega)
  exact Nat.le_trans h1 h2
theorem e_c3 (a b : Sl) : c3 [T0 ws, .val (.int (k : Nat)), .val N, a, b, .un, .un, .un, .un, .un, .un, .un, .un] = .ok (.list (sLs ((allP w).filter (lM ws k)))) := by
  have hw := v.wd w (List.mem_of_getElem? h)
  have i1 : iSq (xCall m__law_parts (xsc (x2 pIx (xB 0) (xB 1)) xs0)) [T0 ws, .val (.int (k : Nat)), .val N, a, b, .un, .un, .un, .un, .un, .un, .un, .un] = .ok (sLs (allP w)) := by
    simp only [iSq, xCall, xsc, xs0_ok, x2, xB, List.getElem?_cons_zero, List.getElem?_cons_succ, rb_ok, pIxW h, ro_some, mParts hw, itD_l]
  refine (xComp_fil (ds := sLs (allP w)) (fun d => match d with | .str x => lM ws k x.cps.toList | _ => false) id i1 (by have := allP_len v h; simp; omega) fun d hd => ?_).trans ?_
  · obtain ⟨t, ht, rfl⟩ := List.mem_map.mp hd
    refine ⟨_, rfl, ?_, fun _ => rfl⟩
    have m := mLM v h (allP_lt hw.1 ht)
    simp only [wipeR, zTru, xCall, xsc, xs0_ok, xV, List.set_cons_succ, List.set_cons_zero, List.getElem?_cons_zero, List.getElem?_cons_succ, rb_ok, m, truD_b, ro_some]
  · rw [List.map_id]
    unfold sLs
    rw [List.filter_map]
    rfl
end
end k61
end

section
set_option linter.all false
set_option maxRecDepth 100000
namespace k61
open L2 PySem
theorem addN (S : List Da) (h : S.length ≤ 1000) : pAdd (.list S) (.list [.none]) = some (.list (S ++ [.none])) := pAdd_ll (by simp; omega)
theorem fil_len {α : Type} (p : α → Bool) (l : List α) : (l.filter p).length ≤ l.length := List.length_filter_le _ _
theorem lNone (ρ : Sls) : xLst (xsc (xK .none) xs0) ρ = .ok (.list [.none]) := id rfl
section
variable {ws : List W1} (v : V ws) {k : Nat} {w : W1} (h : ws[k]? = some w)
include v h
theorem mShortForm' {r : Da} (hr : Row ws r) : m_short_form [r, .int k] = .ok (optS ((pres w).find? (fS ws k))) := by
  rw [mShortForm v hr h]
  cases (pres w).find? (fS ws k) <;> rfl
theorem e_g1 (N a b : Sl) : g1 [T0 ws, .val (.int (k : Nat)), N, .val (.list (sLs ((pres w).filter (lS ws k)))), .val (.list (natD (othN ws k (begins w)))), a, b, .un, .un, .un, .un, .un, .un] = .ok false := by
  have hw := v.wd w (List.mem_of_getElem? h)
  have hl := v.le
  have hR : Row ws (.tuple (sLs ws)) := .inl rfl
  have s1 : optS ((pres w).find? (fS ws k)) = optS ((pres w).filter (lS ws k)).head? := by
    have e : (pres w).filter (lS ws k) = (pres w).filter (fS ws k) := by congr 1; funext t; rw [fS_lS v h]
    rw [e, List.head?_filter]
  have l1 : (sLs ((pres w).filter (lS ws k))).length ≤ 1000 := by
    have h1 := fil_len (lS ws k) (pres w)
    have h2 : (pres w).length = w.length := by simp [pres]
    have h3 := hw.2.2
    rw [List.length_map]; omega
  have l2 : (natD (othN ws k (begins w))).length ≤ 1000 := by
    have h1 := fil_len (fun j => !decide (j = k) && begins w (ws.getD j [])) (List.range ws.length)
    rw [List.length_range] at h1
    unfold natD othN
    rw [List.length_map]; omega
  have okS : ∀ t ∈ (pres w).filter (lS ws k), okW t := fun t ht => by
    obtain ⟨n, _, rfl⟩ := List.mem_map.mp (List.mem_filter.mp ht).1
    exact (hw.1.take _).ok
  simp only [g1, zOr, zB, zNot, zTru, x2, xB, xV, xK, xCall, xsc, xs0_ok, lNone, xLst_nil, List.getElem?_cons_zero, List.getElem?_cons_succ, rb_ok, ro_some, mShortForm' v h hR, s1, addN _ l1, addN _ l2, valS, valN, pNe_optS, asB_b, mCover v hR h, first_eq v, sameS 5 (optN_sc _), truD_b, Bool.not_true, Bool.false_eq_true, if_false, pEq_nil (shLStr okS), pNe_nat, pNe_bool]
  have e1 : (sLs ((pres w).filter (lS ws k))).isEmpty = ((pres w).filter (lS ws k)).isEmpty := by cases (pres w).filter (lS ws k) <;> rfl
  rw [e1, short_cover v h]
  simp
theorem e_g2 (N a b : Sl) : g2 [T0 ws, .val (.int (k : Nat)), N, a, b, .val (.list (sLs ((allP w).filter (lM ws k)))), .val (.list (natD (othN ws k (isInL w)))), .un, .un, .un, .un, .un, .un] = .ok false := by
  have hw := v.wd w (List.mem_of_getElem? h)
  have hl := v.le
  have hR : Row ws (.tuple (sLs ws)) := .inl rfl
  have hR2 : Row ws (.list (sLs ws)) := .inr rfl
  have s1 : optS ((allP w).find? (fM ws k)) = optS ((allP w).filter (lM ws k)).head? := by
    have e : (allP w).filter (lM ws k) = (allP w).filter (fM ws k) := by congr 1; funext t; rw [fM_lM v h]
    rw [e, List.head?_filter]
  have l1 : (sLs ((allP w).filter (lM ws k))).length ≤ 1000 := by
    have h1 := fil_len (lM ws k) (allP w)
    have h2 := allP_len v h
    rw [List.length_map]; omega
  have l2 : (natD (othN ws k (isInL w))).length ≤ 1000 := by
    have h1 := fil_len (fun j => !decide (j = k) && isInL w (ws.getD j [])) (List.range ws.length)
    rw [List.length_range] at h1
    unfold natD othN
    rw [List.length_map]; omega
  have okS : ∀ t ∈ (allP w).filter (lM ws k), okW t := fun t ht => (allP_lt hw.1 (List.mem_filter.mp ht).1).ok
  simp only [g2, zOr, zB, zNot, zTru, x1, x2, xB, xV, xK, xCall, xsc, xs0_ok, lNone, xLst_nil, List.getElem?_cons_zero, List.getElem?_cons_succ, rb_ok, ro_some, mMarkOf v hR h, s1, addN _ l1, addN _ l2, valS, valN, pNe_optS, asB_b, pLst_ok, mHolder v hR2 h, first_eq v, sameS 5 (optN_sc _), truD_b, Bool.not_true, Bool.false_eq_true, if_false, pEq_nil (shLStr okS), pNe_nat, pNe_bool]
  have e1 : (sLs ((allP w).filter (lM ws k))).isEmpty = ((allP w).filter (lM ws k)).isEmpty := by cases (allP w).filter (lM ws k) <;> rfl
  rw [e1, mark_holder v h]
  simp
end
section
variable {ws : List W1} (v : V ws)
include v
theorem e_c7 {k : Da} {xs : List Int} (hx : ∀ x ∈ xs, 0 ≤ x) (hl : xs.length ≤ 100) (a b c d : Sl) : c7 [T0 ws, .val k, .val (.list (xs.map .int)), a, b, c, d, .un, .un, .un, .un, .un, .un] = .ok (.list ((xs.map .int).map drw)) := by
  have i1 : iSq (xB 2) [T0 ws, .val k, .val (.list (xs.map .int)), a, b, c, d, .un, .un, .un, .un, .un, .un] = .ok (xs.map .int) := by simp only [iSq, xB, List.getElem?_cons_zero, List.getElem?_cons_succ, rb_ok, itD_l, ro_some]
  refine xComp_map drw i1 (by simp; omega) fun d hd => ?_
  obtain ⟨x, hx', rfl⟩ := List.mem_map.mp hd
  obtain ⟨t, _, e, e2⟩ := drw_ok (hx x hx')
  refine ⟨_, rfl, ?_⟩
  simp only [wipeR, xCall, xsc, xs0_ok, xV, xK, List.set_cons_succ, List.set_cons_zero, List.getElem?_cons_zero, List.getElem?_cons_succ, rb_ok, e, e2]
end
end k61
end

section
set_option linter.all false
set_option maxRecDepth 100000
namespace k61
open L2 PySem
theorem a_eq : PyData.str "a" = mkS [97] := rfl
/-- the texts that are tried -/
def txts (w : W1) (ts : List Da) : List Da := sLs (allP w) ++ ts ++ [mkS [], mkS (w ++ [97])]
section
variable {ws : List W1} (v : V ws) {k : Nat} {w : W1} (h : ws[k]? = some w)
include v h
theorem e_i8 {ts : List Da} (hl : ts.length ≤ 100) (N a b c d : Sl) : i8 [T0 ws, .val (.int (k : Nat)), N, a, b, c, d, .val (.list ts), .un, .un, .un, .un, .un] = .ok (txts w ts) := by
  have hw := v.wd w (List.mem_of_getElem? h)
  have hp := allP_len v h
  have a1 : pAdd (.list (sLs (allP w))) (.list ts) = some (.list (sLs (allP w) ++ ts)) := pAdd_ll (by rw [List.length_map]; omega)
  have a2 : pAdd (.list (sLs (allP w) ++ ts)) (.list [mkS [], mkS (w ++ [97])]) = some (.list (sLs (allP w) ++ ts ++ [mkS [], mkS (w ++ [97])])) := pAdd_ll (by rw [List.length_append, List.length_map]; simp; omega)
  have a3 : pAdd (mkS w) (mkS [97]) = some (mkS (w ++ [97])) := pAdd_str (by have := hw.2.2; simp; omega)
  have l2 : ∀ ρ : Sls, x2 pIx (xB 0) (xB 1) ρ = .ok (mkS w) → xLst (xsc (xK (.str "")) (xsc (x2 pAdd (x2 pIx (xB 0) (xB 1)) (xK (.str "a"))) xs0)) ρ = .ok (.list [mkS [], mkS (w ++ [97])]) := fun ρ e => by
    have e1 : x2 pAdd (x2 pIx (xB 0) (xB 1)) (xK (.str "a")) ρ = .ok (mkS (w ++ [97])) := by
      show Rv.bind (x2 pIx (xB 0) (xB 1) ρ) _ = _
      rw [e, rb_ok]
      simp only [xK, rb_ok, a_eq, a3, ro_some]
    simp only [xLst, xsc, xs0_ok, e1, rb_ok, xK, str_nil]
    rfl
  have e0 : x2 pIx (xB 0) (xB 1) [T0 ws, .val (.int (k : Nat)), N, a, b, c, d, .val (.list ts), .un, .un, .un, .un, .un] = .ok (mkS w) := by simp only [x2, xB, List.getElem?_cons_zero, List.getElem?_cons_succ, rb_ok, pIxW h, ro_some]
  have e2 : x2 pAdd (xCall m__law_parts (xsc (x2 pIx (xB 0) (xB 1)) xs0)) (xB 7) [T0 ws, .val (.int (k : Nat)), N, a, b, c, d, .val (.list ts), .un, .un, .un, .un, .un] = .ok (.list (sLs (allP w) ++ ts)) := by
    simp only [x2, xCall, xsc, xs0_ok, xB, List.getElem?_cons_zero, List.getElem?_cons_succ, rb_ok, pIxW h, ro_some, mParts hw, a1]
  show Rv.bind (Rv.bind (x2 pAdd (xCall m__law_parts (xsc (x2 pIx (xB 0) (xB 1)) xs0)) (xB 7) [T0 ws, .val (.int (k : Nat)), N, a, b, c, d, .val (.list ts), .un, .un, .un, .un, .un]) fun x => Rv.bind (xLst (xsc (xK (.str "")) (xsc (x2 pAdd (x2 pIx (xB 0) (xB 1)) (xK (.str "a"))) xs0)) _) fun y => Rv.ofO (pAdd x y)) _ = _
  rw [e2, rb_ok, l2 _ e0, rb_ok, a2, ro_some, rb_ok, itD_l]
  rfl
theorem e_b8 {t : W1} (ht : Lt t) (N a b c d e : Sl) : b8 [T0 ws, .val (.int (k : Nat)), N, a, b, c, d, e, .val (mkS t), .un, .un, .un, .un] = .nx [T0 ws, .val (.int (k : Nat)), N, a, b, c, d, e, .val (mkS t), .un, .un, .un, .un] := by
  have hR : Row ws (.tuple (sLs ws)) := .inl rfl
  simp only [b8, sIf, sNx, zOr, zNot, zTru, xV, xCall, xsc, xs0_ok, List.getElem?_cons_zero, List.getElem?_cons_succ, rb_ok, mIsShort v hR h ht, mLS v h ht, fS_lS v h, mIsMark v hR h ht, mLM v h ht, fM_lM v h, sameS 5 (show Sc (.bool _) from trivial), truD_b, ro_some, Bool.not_true, Bool.false_eq_true, if_false, rt_ok]
theorem e_r9 (N a b c d e f : Sl) : r9 [T0 ws, .val (.int (k : Nat)), N, a, b, c, d, e, f, .un, .un, .un, .un] = .ok (.bool true) := by
  have hk : k < ws.length := (List.getElem?_eq_some_iff.mp h).1
  have hR : Row ws (.tuple (sLs ws)) := .inl rfl
  have e1 : m_is_short [.tuple (sLs ws), .int (k : Nat), .none] = .ok (.bool false) := by
    simp [m_is_short, u_is_short, mWantWord v hR hk, m_fits_short, u_fits_short, mIsLettersOfN]
  have e2 : m_is_mark [.tuple (sLs ws), .int (k : Nat), .int 7] = .ok (.bool false) := by
    simp [m_is_mark, u_is_mark, mWantWord v hR hk, m_fits_mark, u_fits_mark, mIsLettersOfI]
  have p1 : pIs (.bool false) (.bool false) = some (.bool true) := rfl
  simp only [r9, xAnd, x2, xV, xK, xCall, xsc, xs0_ok, List.getElem?_cons_zero, List.getElem?_cons_succ, rb_ok, e1, e2, p1, ro_some, asB_b, if_true]
theorem mWordOf {xs : List Int} (hx : ∀ x ∈ xs, 0 ≤ x) (hl : xs.length ≤ 100) : m__law_word_of [.tuple (sLs ws), .int (k : Nat), .list (xs.map .int)] = .ok (.bool true) := by
  have hw := v.wd w (List.mem_of_getElem? h)
  have st : ([.tuple (sLs ws), .int (k : Nat), .list (xs.map .int)] : List Da).map Sl.val ++ List.replicate (13 - ([.tuple (sLs ws), .int (k : Nat), .list (xs.map .int)] : List Da).length) .un = [T0 ws, .val (.int (k : Nat)), .val (.list (xs.map .int)), .un, .un, .un, .un, .un, .un, .un, .un, .un, .un] := rfl
  unfold m__law_word_of mOf
  rw [st, u_wo]
  have tl : ((xs.map PyData.int).map drw).length ≤ 100 := by simpa using hl
  have all : ∀ d ∈ txts w ((xs.map .int).map drw), ∃ t, Lt t ∧ d = mkS t := fun d hd => by
    unfold txts at hd
    rcases List.mem_append.mp hd with hd | hd
    · rcases List.mem_append.mp hd with hd | hd
      · obtain ⟨t, ht, rfl⟩ := List.mem_map.mp hd
        exact ⟨t, allP_lt hw.1 ht, rfl⟩
      · obtain ⟨y, hy, rfl⟩ := List.mem_map.mp hd
        obtain ⟨x, hx', rfl⟩ := List.mem_map.mp hy
        obtain ⟨t, h1, _, h3⟩ := drw_ok (hx x hx')
        exact ⟨t, h1, h3⟩
    · rcases List.mem_cons.mp hd with rfl | hd
      · exact ⟨[], ⟨by simp, by intro c hc; simp at hc⟩, rfl⟩
      · rcases List.mem_cons.mp hd with rfl | hd
        · refine ⟨w ++ [97], ⟨by have := hw.2.2; simp; omega, fun c hc => ?_⟩, rfl⟩
          rcases List.mem_append.mp hc with z | z
          · exact hw.1.2 c z
          · rw [List.mem_singleton.mp z]; decide
        · cases hd
  simp only [sSeq, sSet, e_c1 v h, rt_ok, List.set_cons_succ, List.set_cons_zero, e_c2 v h, e_c3 v h, e_c4 v h, sIf, e_g1 v h, e_g2 v h, Bool.false_eq_true, if_false, sNx, e_c7 v hx hl, sFor, e_i8 v h tl]
  have key := forL_inv (set := setOne 8) (body := b8) (fun done ρ => ∃ a, ρ = [T0 ws, .val (.int (k : Nat)), .val (.list (xs.map .int)), .val (.list (sLs ((pres w).filter (lS ws k)))), .val (.list (natD (othN ws k (begins w)))), .val (.list (sLs ((allP w).filter (lM ws k)))), .val (.list (natD (othN ws k (isInL w)))), .val (.list ((xs.map .int).map drw)), a, .un, .un, .un, .un])
    (ds := txts w ((xs.map .int).map drw)) (done := []) (ρ := [T0 ws, .val (.int (k : Nat)), .val (.list (xs.map .int)), .val (.list (sLs ((pres w).filter (lS ws k)))), .val (.list (natD (othN ws k (begins w)))), .val (.list (sLs ((allP w).filter (lM ws k)))), .val (.list (natD (othN ws k (isInL w)))), .val (.list ((xs.map .int).map drw)), .un, .un, .un, .un, .un]) ⟨_, rfl⟩ (by
      rintro pre d post he ρ ⟨a, rfl⟩
      rw [List.nil_append] at he
      obtain ⟨t, ht, rfl⟩ := all d (by rw [he]; simp)
      exact ⟨_, _, rfl, .inl (e_b8 v h ht _ _ _ _ _ _), _, rfl⟩)
  obtain ⟨ρ', key, a, rfl⟩ := key
  rw [key]
  simp only [sRet, e_r9 v h, rt_ok]
end
end k61
end

section
set_option linter.all false
set_option maxRecDepth 100000
namespace k61
open L2 PySem
theorem lay_all {ds : List Da} (h : ∀ d ∈ ds, d.canLay0 = true ∧ d.depth = 0) : PyData.canLayAll0 ds = true ∧ PyData.depthAll ds = 0 := by
  induction ds with
  | nil => exact ⟨by rw [PyData.canLayAll0], by rw [PyData.depthAll]⟩
  | cons d ds ih =>
    obtain ⟨i1, i2⟩ := ih fun e he => h e (List.mem_cons_of_mem _ he)
    obtain ⟨h1, h2⟩ := h d List.mem_cons_self
    exact ⟨by rw [PyData.canLayAll0, h1, i1]; rfl, by rw [PyData.depthAll, h2, i2]; rfl⟩
section
variable {ws : List W1} (v : V ws)
include v
/-- the short forms, the marks, as data -/
def shD (ws : List W1) (k : Nat) : Da := optS ((pres (ws.getD k [])).find? (fS ws k))
def mkD (ws : List W1) (k : Nat) : Da := optS ((allP (ws.getD k [])).find? (fM ws k))
def shL' (ws : List W1) : List Da := (List.range ws.length).map (shD ws)
def mkL (ws : List W1) : List Da := (List.range ws.length).map (mkD ws)
theorem at_k {k : Nat} (hk : k < ws.length) : ws[k]? = some ws[k] ∧ ws.getD k [] = ws[k] := ⟨List.getElem?_eq_getElem hk, getD_eq v (List.getElem?_eq_getElem hk)⟩
theorem sf {r : Da} (hr : Row ws r) {k : Nat} (hk : k < ws.length) : m_short_form [r, .int (k : Nat)] = .ok (shD ws k) := by
  obtain ⟨h, e⟩ := at_k v hk
  rw [mShortForm' v h hr, shD, e]
theorem mo {r : Da} (hr : Row ws r) {k : Nat} (hk : k < ws.length) : m_mark_of [r, .int (k : Nat)] = .ok (mkD ws k) := by
  obtain ⟨h, e⟩ := at_k v hk
  rw [mMarkOf v hr h, mkD, e]
theorem sf1 {k : Nat} (hk : k < ws.length) : m_shortest_form [.tuple (sLs ws), .int (k : Nat)] = .ok (shD ws k) := by
  obtain ⟨h, e⟩ := at_k v hk
  rw [mShortest v h, shD, e]
  cases (pres ws[k]).find? (fS ws k) <;> rfl
theorem mo1 {k : Nat} (hk : k < ws.length) : m_first_mark [.tuple (sLs ws), .int (k : Nat)] = .ok (mkD ws k) := by
  obtain ⟨h, e⟩ := at_k v hk
  rw [mFirstMark v h, mkD, e]
theorem rowComp {vs : List Nat} {it : Sls → Rv (List Da)} {set : Da → Sls → Option Sls} {el : Sls → Rv Da} {ρ : Sls} (f : Nat → Da) (hi : it ρ = Rv.ofO (rng1 (.int (ws.length : Nat)))) (he : ∀ k, k < ws.length → ∃ ρ1, set (.int (k : Nat)) (wipeR ρ vs) = some ρ1 ∧ el ρ1 = .ok (f k)) :
    xComp vs it set zYes el ρ = .ok (.list ((List.range ws.length).map f)) := by
  have hl := v.le
  rw [rng1_nat (by omega)] at hi
  rw [xComp_map (ds := nats ws.length) (fun d => f (toN d)) hi (by simp; omega)]
  · unfold nats
    rw [List.map_map]
    rfl
  · intro d hd
    obtain ⟨k, hk, rfl⟩ := List.mem_map.mp hd
    exact he k (List.mem_range.mp hk)
theorem mShortForms {r : Da} (hr : Row ws r) : m_short_forms [r] = .ok (.tuple (shL' ws)) := by
  have e1 : xCall m_want_list (xsc (xV 0) (xsc (xK (.int 1)) xs0)) [.val r, .un] = .ok (.tuple (sLs ws)) := by simp [mWantList v hr]
  have e2 : x1 pTup (xComp [1] (iR1 (x1 pLen (xB 0))) (setOne 1) zYes (xCall m_shortest_form (xsc (xV 0) (xsc (xV 1) xs0)))) [.val (.tuple (sLs ws)), .un] = .ok (.tuple (shL' ws)) := by
    show Rv.bind (xComp _ _ _ _ _ _) _ = _
    rw [rowComp v (shD ws) (iR1_row _ rfl) fun k hk => ⟨_, rfl, by simp [sf1 v hk]⟩, rb_ok]
    rfl
  simp only [m_short_forms, u_short_forms, mOf, sSeq, sSet, sRet, List.map_cons, List.map_nil, List.length_cons, List.length_nil, List.cons_append, List.nil_append, List.replicate, Nat.reduceSub, Nat.reduceAdd, e1, rt_ok, List.set_cons_zero, e2]
theorem mMarks {r : Da} (hr : Row ws r) : m_marks [r] = .ok (.tuple (mkL ws)) := by
  have e1 : xCall m_want_list (xsc (xV 0) (xsc (xK (.int 1)) xs0)) [.val r, .un] = .ok (.tuple (sLs ws)) := by simp [mWantList v hr]
  have e2 : x1 pTup (xComp [1] (iR1 (x1 pLen (xB 0))) (setOne 1) zYes (xCall m_first_mark (xsc (xV 0) (xsc (xV 1) xs0)))) [.val (.tuple (sLs ws)), .un] = .ok (.tuple (mkL ws)) := by
    show Rv.bind (xComp _ _ _ _ _ _) _ = _
    rw [rowComp v (mkD ws) (iR1_row _ rfl) fun k hk => ⟨_, rfl, by simp [mo1 v hk]⟩, rb_ok]
    rfl
  simp only [m_marks, u_marks, mOf, sSeq, sSet, sRet, List.map_cons, List.map_nil, List.length_cons, List.length_nil, List.cons_append, List.nil_append, List.replicate, Nat.reduceSub, Nat.reduceAdd, e1, rt_ok, List.set_cons_zero, e2]
def bgIn : SS := sIf (zAnd (zB (x2 pNe (xB 1) (xB 2))) (zTru (xM1 asStr mStarts (x2 pIx (xB 0) (xB 2)) (x2 pIx (xB 0) (xB 1))))) (sRet (xTup (xsc (xV 1) (xsc (xV 2) xs0)))) sNx
omit v in
theorem u_bg : u_begun = sSeq (sSet 0 (xCall m_want_list (xsc (xV 0) (xsc (xK (.int 1)) xs0)))) (sSeq (sFor (iR1 (x1 pLen (xB 0))) (setOne 1) (sFor (iR1 (x1 pLen (xB 0))) (setOne 2) bgIn)) (sRet (xK .none))) := rfl
/-- no word begins another: begun tells None -/
theorem mBegun (hb : ∀ (i j : Nat), i ≠ j → ∀ a b : W1, ws[i]? = some a → ws[j]? = some b → begins a b = false) : m_begun [.tuple (sLs ws)] = .ok .none := by
  have hl := v.le
  have e1 : xCall m_want_list (xsc (xV 0) (xsc (xK (.int 1)) xs0)) [.val (.tuple (sLs ws)), .un, .un] = .ok (.tuple (sLs ws)) := by simp [mWantList v (.inl rfl)]
  have rg : ∀ a b : Sl, iR1 (x1 pLen (xB 0)) [T0 ws, a, b] = .ok (nats ws.length) := fun a b => by
    rw [iR1_row _ rfl, rng1_nat (by omega)]; rfl
  have inn : ∀ (i : Nat), i < ws.length → ∀ b : Sl, ∃ c, sFor (iR1 (x1 pLen (xB 0))) (setOne 2) bgIn [T0 ws, .val (.int (i : Nat)), b] = .nx [T0 ws, .val (.int (i : Nat)), c] := fun i hi b => by
    have key := forL_inv (set := setOne 2) (body := bgIn) (fun done ρ => ∃ c, ρ = [T0 ws, .val (.int (i : Nat)), c]) (ds := nats ws.length) (done := []) (ρ := [T0 ws, .val (.int (i : Nat)), b]) ⟨_, rfl⟩ (by
      rintro pre d post he ρ ⟨c, rfl⟩
      rw [List.nil_append] at he
      obtain ⟨j, hj, rfl⟩ := List.mem_map.mp (show d ∈ nats ws.length by rw [he]; simp)
      have hj := List.mem_range.mp hj
      obtain ⟨hi', _⟩ := at_k v hi
      obtain ⟨hj', _⟩ := at_k v hj
      refine ⟨_, [T0 ws, .val (.int (i : Nat)), .val (.int (j : Nat))], rfl, .inl ?_, _, rfl⟩
      simp only [bgIn, sIf, sNx, zAnd, zB, zTru, x2, xM1, asStr, xB, List.set_cons_succ, List.set_cons_zero, List.getElem?_cons_zero, List.getElem?_cons_succ, rb_ok, ro_some, pNe_int, asB_b, dec_nat, pIxW hi', pIxW hj', mStarts_str, truD_b]
      by_cases hij : i = j
      · simp [hij]
      · rw [hb i j hij _ _ hi' hj']
        simp [hij])
    obtain ⟨ρ', key, c, rfl⟩ := key
    refine ⟨c, ?_⟩
    unfold sFor
    rw [rg, rt_ok]
    exact key
  have key := forL_inv (set := setOne 1) (body := sFor (iR1 (x1 pLen (xB 0))) (setOne 2) bgIn) (fun done ρ => ∃ a b, ρ = [T0 ws, a, b]) (ds := nats ws.length) (done := []) (ρ := [T0 ws, .un, .un]) ⟨_, _, rfl⟩ (by
    rintro pre d post he ρ ⟨a, b, rfl⟩
    rw [List.nil_append] at he
    obtain ⟨j, hj, rfl⟩ := List.mem_map.mp (show d ∈ nats ws.length by rw [he]; simp)
    obtain ⟨c, hc⟩ := inn j (List.mem_range.mp hj) b
    exact ⟨_, _, rfl, .inl hc, _, _, rfl⟩)
  obtain ⟨ρ', key, a, b, rfl⟩ := key
  unfold m_begun
  rw [u_bg]
  have e2 : sFor (iR1 (x1 pLen (xB 0))) (setOne 1) (sFor (iR1 (x1 pLen (xB 0))) (setOne 2) bgIn) [T0 ws, .un, .un] = .nx [T0 ws, a, b] := by
    show Rv.thn (iR1 (x1 pLen (xB 0)) [T0 ws, .un, .un]) _ _ = _
    rw [rg, rt_ok]
    exact key
  simp only [mOf, sSeq, sSet, sRet, List.map_cons, List.map_nil, List.length_cons, List.length_nil, List.cons_append, List.nil_append, List.replicate, Nat.reduceSub, Nat.reduceAdd, e1, rt_ok, List.set_cons_zero, e2, xK]
end
end k61
end

section
set_option linter.all false
set_option maxRecDepth 100000
namespace k61
open L2 PySem
theorem optS_lay {o : Option W1} (h : ∀ t, o = some t → okW t) : (optS o).canLay0 = true ∧ (optS o).depth = 0 := by
  cases o with
  | none => exact ⟨by rw [optS, PyData.canLay0], by rw [optS, PyData.depth]⟩
  | some t => exact ⟨by rw [optS, PyData.canLay0]; exact strOk_of (h t rfl), by rw [optS, PyData.depth]⟩
theorem eqv_none (o : Option W1) : PyData.eqv (optS o) .none = o.isNone := by cases o <;> simp [optS, PyData.eqv]
section
variable {ws : List W1} (v : V ws)
include v
theorem sh_ok {k : Nat} (hk : k < ws.length) : ∀ t, (pres (ws.getD k [])).find? (fS ws k) = some t → Wd t ∧ begins t ws[k] = true ∧ fS ws k t = true := fun t ht => by
  obtain ⟨h, e⟩ := at_k v hk
  rw [e] at ht
  have hw := v.wd _ (List.mem_of_getElem? h)
  have hm := List.mem_of_find?_eq_some ht
  have hf := List.find?_some ht
  have hb := pres_begins v hm
  obtain ⟨n, hn, rfl⟩ := List.mem_map.mp hm
  have hn := List.mem_range.mp hn
  have h6 := hw.2.2
  exact ⟨⟨hw.1.take _, by rw [List.length_take]; omega, by rw [List.length_take]; omega⟩, hb, hf⟩
theorem shapedShorts : SeqAt.shaped (.tuple (shL' ws)) = true := by
  have q := lay_all (ds := shL' ws) fun d hd => by
    obtain ⟨k, hk, rfl⟩ := List.mem_map.mp hd
    exact optS_lay fun t ht => (sh_ok v (List.mem_range.mp hk) t ht).1.1.ok
  exact shT q.1 q.2
theorem notNone : pNotIn .none (.tuple (shL' ws)) = some (.bool (!(shL' ws).any fun d => PyData.eqv d .none)) := by
  have e : inD .none (.tuple (shL' ws)) = some ((shL' ws).any fun d => PyData.eqv d .none) := by
    show (if SeqAt.shaped .none = true ∧ SeqAt.shaped (.tuple (shL' ws)) = true then some ((shL' ws).any fun z => PyData.eqv z .none) else none) = _
    rw [if_pos ⟨by decide, shapedShorts v⟩]
  unfold pNotIn
  rw [e]
  rfl
/-- where every word has a short form, the short forms begin none of each other -/
theorem begunShorts (h : ((shL' ws).any fun d => PyData.eqv d .none) = false) : m_begun [.tuple (shL' ws)] = .ok .none := by
  have ex : ∀ k, k < ws.length → ∃ t, (pres (ws.getD k [])).find? (fS ws k) = some t := fun k hk => by
    have q := List.any_eq_false.mp h (shD ws k) (List.mem_map.mpr ⟨k, List.mem_range.mpr hk, rfl⟩)
    unfold shD at q
    rw [eqv_none] at q
    cases e : (pres (ws.getD k [])).find? (fS ws k) with
    | some t => exact ⟨t, rfl⟩
    | none => rw [e] at q; exact absurd rfl q
  let g : Nat → W1 := fun k => ((pres (ws.getD k [])).find? (fS ws k)).getD []
  have gs : ∀ k, k < ws.length → (pres (ws.getD k [])).find? (fS ws k) = some (g k) := fun k hk => by
    obtain ⟨t, e⟩ := ex k hk
    show _ = some (((pres (ws.getD k [])).find? (fS ws k)).getD [])
    rw [e]; rfl
  let S := (List.range ws.length).map g
  have eS : shL' ws = sLs S := by
    show (List.range ws.length).map (shD ws) = ((List.range ws.length).map g).map mkS
    rw [List.map_map]
    refine List.map_congr_left fun k hk => ?_
    show optS _ = mkS (g k)
    rw [gs k (List.mem_range.mp hk)]
    rfl
  have atS : ∀ (i : Nat) (a : W1), S[i]? = some a → i < ws.length ∧ a = g i := fun i a ha => by
    have hl : i < S.length := (List.getElem?_eq_some_iff.mp ha).1
    have hl2 : i < ws.length := by simpa [S] using hl
    refine ⟨hl2, ?_⟩
    have e : S[i]? = some (g i) := by
      show ((List.range ws.length).map g)[i]? = _
      rw [List.getElem?_map, List.getElem?_range hl2]; rfl
    rw [e] at ha
    exact (Option.some.inj ha).symm
  have no : ∀ (i j : Nat), i ≠ j → ∀ a b : W1, S[i]? = some a → S[j]? = some b → begins a b = false := fun i j hij a b ha hb => by
    obtain ⟨hi, rfl⟩ := atS i a ha
    obtain ⟨hj, rfl⟩ := atS j b hb
    cases q : begins (g i) (g j) with
    | false => rfl
    | true =>
      obtain ⟨_, _, f1⟩ := sh_ok v hi _ (gs i hi)
      obtain ⟨_, b2, _⟩ := sh_ok v hj _ (gs j hj)
      have q2 : (others ws i).any (begins (g i)) = true := (any_other _ _ _).mpr ⟨j, ws[j], (at_k v hj).1, fun z => hij z.symm, begins_trans q b2⟩
      unfold fS at f1
      rw [q2] at f1
      simp at f1
  have vS : V S := by
    have hlen : S.length = ws.length := by simp [S]
    refine ⟨by rw [hlen]; exact v.pos, by rw [hlen]; exact v.le, fun w hw => ?_, ?_⟩
    · obtain ⟨k, hk, rfl⟩ := List.mem_map.mp hw
      have hk := List.mem_range.mp hk
      exact (sh_ok v hk _ (gs k hk)).1
    · refine List.pairwise_iff_getElem.mpr fun i j hi hj hij e => ?_
      have hi' : i < ws.length := by rw [hlen] at hi; exact hi
      have hj' : j < ws.length := by rw [hlen] at hj; exact hj
      have n := no i j (by omega) _ _ (List.getElem?_eq_getElem hi) (List.getElem?_eq_getElem hj)
      rw [e, begins_self] at n
      cases n
  rw [eS]
  exact mBegun vS no
end
def k1 : SS := sFor (iR1 (x1 pLen (xB 1))) (setOne 3) (sIf (zNot (zTru (xCall m__law_word_of (xsc (xV 1) (xsc (xV 3) (xsc (xV 2) xs0)))))) (sRet (xK (.bool false))) sNx)
def k2 : Sls → Rv Da := x1 pTup (xComp [3] (iR1 (x1 pLen (xB 1))) (setOne 3) zYes (xCall m_short_form (xsc (xV 1) (xsc (xV 3) xs0))))
def k3 : Sls → Rv Bool := zOr (zNot (zTru (xCall (m__law_same 6) (xsc (xCall m_short_forms (xsc (x1 pLst (xB 1)) xs0)) (xsc (xV 4) xs0))))) (zNot (zTru (xCall (m__law_same 6) (xsc (xCall m_marks (xsc (xV 1) xs0)) (xsc (x1 pTup (xComp [3] (iR1 (x1 pLen (xB 1))) (setOne 3) zYes (xCall m_mark_of (xsc (xV 1) (xsc (xV 3) xs0))))) xs0)))))
def k4 : Sls → Rv Bool := zAnd (zB (x2 pNotIn (xK .none) (xB 4))) (zB (x2 pIsNot (xCall m_begun (xsc (xV 4) xs0)) (xK .none)))
theorem u_lw : u_law = sSeq (sSet 1 (xCall m__law_list (xsc (xCall m__law_numbers (xsc (xV 0) (xsc (xK (.int 0)) (xsc (xK (.int 8)) xs0)))) xs0))) (sSeq (sSet 2 (xCall m__law_numbers (xsc (xV 0) (xsc (xK (.int 1)) (xsc (xK (.int 4)) xs0))))) (sSeq k1 (sSeq (sSet 4 k2) (sSeq (sIf k3 (sRet (xK (.bool false))) sNx) (sSeq (sIf k4 (sRet (xK (.bool false))) sNx) (sSeq (sTryAt 5 (sDrop (xCall m_short_form (xsc (xV 1) (xsc (x1 pLen (xB 1)) xs0)))) 2) (sRet (xK (.bool false))))))))) := rfl
theorem iR1_row1 {ws : List W1} (ρ : Sls) (h : ρ[1]? = some (.val (.tuple (sLs ws)))) : iR1 (x1 pLen (xB 1)) ρ = Rv.ofO (rng1 (.int (ws.length : Nat))) := by
  have e : xB 1 ρ = .ok (.tuple (sLs ws)) := by unfold xB; rw [h]
  have e2 : x1 pLen (xB 1) ρ = .ok (.int (ws.length : Nat)) := by
    unfold x1
    rw [e, rb_ok, pLen_t, List.length_map, ro_some]
  unfold iR1
  rw [e2, rb_ok]
theorem xsc_ok {f : Sls → Rv Da} {g : Sls → Rv (List Da)} {ρ : Sls} {d : Da} {ds : List Da} (h1 : f ρ = .ok d) (h2 : g ρ = .ok ds) : xsc f g ρ = .ok (d :: ds) := by
  simp only [xsc, h1, h2, rb_ok]
theorem law_true : ∀ ns : List Int, m_law [.list (ns.map .int)] = .ok (.bool true) := by
  intro ns
  obtain ⟨xs, xl, xp, ex⟩ := mNumbers ns 0 8 (by omega)
  obtain ⟨ys, yl, yp, ey⟩ := mNumbers ns 1 4 (by omega)
  obtain ⟨ws, v, el⟩ := mList (xs := xs) (by omega) xp
  have hl := v.le
  have hR : Row ws (.tuple (sLs ws)) := .inl rfl
  have hR2 : Row ws (.list (sLs ws)) := .inr rfl
  have st : ([.list (ns.map .int)] : List Da).map Sl.val ++ List.replicate (6 - ([.list (ns.map .int)] : List Da).length) .un = [.val (.list (ns.map .int)), .un, .un, .un, .un, .un] := rfl
  have s1 : xCall m__law_list (xsc (xCall m__law_numbers (xsc (xV 0) (xsc (xK (.int 0)) (xsc (xK (.int 8)) xs0)))) xs0) [.val (.list (ns.map .int)), .un, .un, .un, .un, .un] = .ok (.tuple (sLs ws)) := by
    have ex' : m__law_numbers [.list (ns.map .int), .int 0, .int 8] = .ok (.list (xs.map .int)) := ex
    simp only [xCall, xsc, xs0_ok, xV, xK, List.getElem?_cons_zero, rb_ok, ex', el]
  have s2 : xCall m__law_numbers (xsc (xV 0) (xsc (xK (.int 1)) (xsc (xK (.int 4)) xs0))) [.val (.list (ns.map .int)), T0 ws, .un, .un, .un, .un] = .ok (.list (ys.map .int)) := by
    have ey' : m__law_numbers [.list (ns.map .int), .int 1, .int 4] = .ok (.list (ys.map .int)) := ey
    simp only [xCall, xsc, xs0_ok, xV, xK, List.getElem?_cons_zero, rb_ok, ey']
  have s3 : ∃ a, k1 [.val (.list (ns.map .int)), T0 ws, .val (.list (ys.map .int)), .un, .un, .un] = .nx [.val (.list (ns.map .int)), T0 ws, .val (.list (ys.map .int)), a, .un, .un] := by
    have key := forL_inv (set := setOne 3) (body := sIf (zNot (zTru (xCall m__law_word_of (xsc (xV 1) (xsc (xV 3) (xsc (xV 2) xs0)))))) (sRet (xK (.bool false))) sNx) (fun done ρ => ∃ a, ρ = [.val (.list (ns.map .int)), T0 ws, .val (.list (ys.map .int)), a, .un, .un]) (ds := nats ws.length) (done := []) (ρ := [.val (.list (ns.map .int)), T0 ws, .val (.list (ys.map .int)), .un, .un, .un]) ⟨_, rfl⟩ (by
      rintro pre d post he ρ ⟨a, rfl⟩
      rw [List.nil_append] at he
      obtain ⟨j, hj, rfl⟩ := List.mem_map.mp (show d ∈ nats ws.length by rw [he]; simp)
      have m := mWordOf v (at_k v (List.mem_range.mp hj)).1 yp (by omega)
      refine ⟨_, [.val (.list (ns.map .int)), T0 ws, .val (.list (ys.map .int)), .val (.int (j : Nat)), .un, .un], rfl, .inl ?_, _, rfl⟩
      simp only [sIf, sNx, zNot, zTru, xCall, xsc, xs0_ok, xV, List.set_cons_succ, List.set_cons_zero, List.getElem?_cons_zero, List.getElem?_cons_succ, rb_ok, m, truD_b, ro_some, Bool.not_true, rt_ok, Bool.false_eq_true, if_false])
    obtain ⟨ρ', key, a, rfl⟩ := key
    refine ⟨a, ?_⟩
    unfold k1 sFor
    rw [iR1_row1 _ rfl, rng1_nat (by omega), ro_some, rt_ok]
    exact key
  obtain ⟨a3, s3⟩ := s3
  have s4 : k2 [.val (.list (ns.map .int)), T0 ws, .val (.list (ys.map .int)), a3, .un, .un] = .ok (.tuple (shL' ws)) := by
    show Rv.bind (xComp _ _ _ _ _ _) _ = _
    rw [rowComp v (shD ws) (iR1_row1 _ rfl) fun k hk => ⟨_, rfl, by simp [sf v hR hk]⟩, rb_ok]
    rfl
  have s5 : k3 [.val (.list (ns.map .int)), T0 ws, .val (.list (ys.map .int)), a3, .val (.tuple (shL' ws)), .un] = .ok false := by
    have m5 : x1 pTup (xComp [3] (iR1 (x1 pLen (xB 1))) (setOne 3) zYes (xCall m_mark_of (xsc (xV 1) (xsc (xV 3) xs0)))) [.val (.list (ns.map .int)), T0 ws, .val (.list (ys.map .int)), a3, .val (.tuple (shL' ws)), .un] = .ok (.tuple (mkL ws)) := by
      show Rv.bind (xComp _ _ _ _ _ _) _ = _
      rw [rowComp v (mkD ws) (iR1_row1 _ rfl) fun k hk => ⟨_, rfl, by simp [mo v hR hk]⟩, rb_ok]
      rfl
    have c1 : ∀ d ∈ shL' ws, Sc d := fun d hd => by obtain ⟨k, _, rfl⟩ := List.mem_map.mp hd; exact optS_sc _
    have c2 : ∀ d ∈ mkL ws, Sc d := fun d hd => by obtain ⟨k, _, rfl⟩ := List.mem_map.mp hd; exact optS_sc _
    have l1 : (shL' ws).length ≤ 1000 := by simp [shL']; omega
    have l2 : (mkL ws).length ≤ 1000 := by simp [mkL]; omega
    have t1 := sameT 4 l1 c1
    have t2 := sameT 4 l2 c2
    have e7 : xCall m_marks (xsc (xV 1) xs0) [.val (.list (ns.map .int)), T0 ws, .val (.list (ys.map .int)), a3, .val (.tuple (shL' ws)), .un] = .ok (.tuple (mkL ws)) := by
      simp only [xCall, xsc, xs0_ok, xV, List.getElem?_cons_zero, List.getElem?_cons_succ, rb_ok, mMarks v hR]
    have e8 : xCall m_short_forms (xsc (x1 pLst (xB 1)) xs0) [.val (.list (ns.map .int)), T0 ws, .val (.list (ys.map .int)), a3, .val (.tuple (shL' ws)), .un] = .ok (.tuple (shL' ws)) := by
      simp only [xCall, xsc, xs0_ok, x1, xB, List.getElem?_cons_zero, List.getElem?_cons_succ, rb_ok, pLst_ok, ro_some, mShortForms v hR2]
    have e9 : ∀ (f : Sls → Rv (List Da)) (ρ : Sls) (l : List Da), f ρ = .ok l → xCall (m__law_same 6) f ρ = m__law_same 6 l := fun f ρ l e => by unfold xCall; rw [e, rb_ok]
    have f1 : zNot (zTru (xCall (m__law_same 6) (xsc (xCall m_short_forms (xsc (x1 pLst (xB 1)) xs0)) (xsc (xV 4) xs0)))) [.val (.list (ns.map .int)), T0 ws, .val (.list (ys.map .int)), a3, .val (.tuple (shL' ws)), .un] = .ok false := by
      unfold zNot zTru
      rw [e9 _ _ [.tuple (shL' ws), .tuple (shL' ws)] (xsc_ok e8 (xsc_ok rfl rfl)), t1]
      rfl
    have f2 : zNot (zTru (xCall (m__law_same 6) (xsc (xCall m_marks (xsc (xV 1) xs0)) (xsc (x1 pTup (xComp [3] (iR1 (x1 pLen (xB 1))) (setOne 3) zYes (xCall m_mark_of (xsc (xV 1) (xsc (xV 3) xs0))))) xs0)))) [.val (.list (ns.map .int)), T0 ws, .val (.list (ys.map .int)), a3, .val (.tuple (shL' ws)), .un] = .ok false := by
      unfold zNot zTru
      rw [e9 _ _ [.tuple (mkL ws), .tuple (mkL ws)] (xsc_ok e7 (xsc_ok m5 rfl)), t2]
      rfl
    unfold k3 zOr
    rw [f1, rb_ok, if_neg Bool.false_ne_true, f2]
  have s6 : k4 [.val (.list (ns.map .int)), T0 ws, .val (.list (ys.map .int)), a3, .val (.tuple (shL' ws)), .un] = .ok false := by
    simp only [k4, zAnd, zB, x2, xK, xB, xV, xCall, xsc, xs0_ok, List.getElem?_cons_zero, List.getElem?_cons_succ, rb_ok, ro_some, notNone v, asB_b]
    cases hn : (shL' ws).any fun d => PyData.eqv d .none with
    | true => simp
    | false =>
      rw [begunShorts v hn]
      rfl
  have s7 : sTryAt 5 (sDrop (xCall m_short_form (xsc (xV 1) (xsc (x1 pLen (xB 1)) xs0)))) 2 [.val (.list (ns.map .int)), T0 ws, .val (.list (ys.map .int)), a3, .val (.tuple (shL' ws)), .un] = .rt (.bool true) := by
    have e : sDrop (xCall m_short_form (xsc (xV 1) (xsc (x1 pLen (xB 1)) xs0))) [.val (.list (ns.map .int)), T0 ws, .val (.list (ys.map .int)), a3, .val (.tuple (shL' ws)), .un] = .exc 0 (.int 2) [.val (.list (ns.map .int)), T0 ws, .val (.list (ys.map .int)), a3, .val (.tuple (shL' ws)), .un] := by
      have x := mShortFormX v hR
      simp only [sDrop, xCall, xsc, xs0_ok, x1, xB, xV, List.getElem?_cons_zero, List.getElem?_cons_succ, rb_ok, pLen_t, List.length_map, ro_some, x, rt_exc]
    unfold sTryAt
    rw [e]
    rfl
  unfold m_law mOf
  rw [st, u_lw]
  simp only [sSeq, sSet, s1, rt_ok, List.set_cons_succ, List.set_cons_zero, s2, s3, s4, sIf, s5, s6, Bool.false_eq_true, if_false, sNx, s7]
end k61
end

section
set_option Elab.async false
set_option linter.all false
set_option maxRecDepth 100000
set_option maxHeartbeats 4000000
namespace k61
open PySem PySem.Spec PyProof.Rows L2
def st_is_int : Stmt := PySem.Challenge.pw_readsback_k61_whole_short_or_covered.main.body.getD 5 (.Pass ⟨0, 0, 0, 0⟩)
def st_is_between : Stmt := PySem.Challenge.pw_readsback_k61_whole_short_or_covered.main.body.getD 6 (.Pass ⟨0, 0, 0, 0⟩)
def st_is_row : Stmt := PySem.Challenge.pw_readsback_k61_whole_short_or_covered.main.body.getD 7 (.Pass ⟨0, 0, 0, 0⟩)
def st_is_row_of : Stmt := PySem.Challenge.pw_readsback_k61_whole_short_or_covered.main.body.getD 8 (.Pass ⟨0, 0, 0, 0⟩)
def st_has_only : Stmt := PySem.Challenge.pw_readsback_k61_whole_short_or_covered.main.body.getD 9 (.Pass ⟨0, 0, 0, 0⟩)
def st_is_letters : Stmt := PySem.Challenge.pw_readsback_k61_whole_short_or_covered.main.body.getD 10 (.Pass ⟨0, 0, 0, 0⟩)
def st_is_letters_of : Stmt := PySem.Challenge.pw_readsback_k61_whole_short_or_covered.main.body.getD 11 (.Pass ⟨0, 0, 0, 0⟩)
def st_want_int : Stmt := PySem.Challenge.pw_readsback_k61_whole_short_or_covered.main.body.getD 12 (.Pass ⟨0, 0, 0, 0⟩)
def st_is_word : Stmt := PySem.Challenge.pw_readsback_k61_whole_short_or_covered.main.body.getD 14 (.Pass ⟨0, 0, 0, 0⟩)
def st_is_list : Stmt := PySem.Challenge.pw_readsback_k61_whole_short_or_covered.main.body.getD 15 (.Pass ⟨0, 0, 0, 0⟩)
def st_want_list : Stmt := PySem.Challenge.pw_readsback_k61_whole_short_or_covered.main.body.getD 16 (.Pass ⟨0, 0, 0, 0⟩)
def st_begun : Stmt := PySem.Challenge.pw_readsback_k61_whole_short_or_covered.main.body.getD 17 (.Pass ⟨0, 0, 0, 0⟩)
def st_want_word : Stmt := PySem.Challenge.pw_readsback_k61_whole_short_or_covered.main.body.getD 19 (.Pass ⟨0, 0, 0, 0⟩)
def st_other_words : Stmt := PySem.Challenge.pw_readsback_k61_whole_short_or_covered.main.body.getD 20 (.Pass ⟨0, 0, 0, 0⟩)
def st_first_number : Stmt := PySem.Challenge.pw_readsback_k61_whole_short_or_covered.main.body.getD 21 (.Pass ⟨0, 0, 0, 0⟩)
def st_fits_short : Stmt := PySem.Challenge.pw_readsback_k61_whole_short_or_covered.main.body.getD 22 (.Pass ⟨0, 0, 0, 0⟩)
def st_shortest_form : Stmt := PySem.Challenge.pw_readsback_k61_whole_short_or_covered.main.body.getD 23 (.Pass ⟨0, 0, 0, 0⟩)
def st_short_form : Stmt := PySem.Challenge.pw_readsback_k61_whole_short_or_covered.main.body.getD 24 (.Pass ⟨0, 0, 0, 0⟩)
def st_short_forms : Stmt := PySem.Challenge.pw_readsback_k61_whole_short_or_covered.main.body.getD 25 (.Pass ⟨0, 0, 0, 0⟩)
def st_is_short : Stmt := PySem.Challenge.pw_readsback_k61_whole_short_or_covered.main.body.getD 26 (.Pass ⟨0, 0, 0, 0⟩)
def st_cover_of : Stmt := PySem.Challenge.pw_readsback_k61_whole_short_or_covered.main.body.getD 27 (.Pass ⟨0, 0, 0, 0⟩)
def st_fits_mark : Stmt := PySem.Challenge.pw_readsback_k61_whole_short_or_covered.main.body.getD 28 (.Pass ⟨0, 0, 0, 0⟩)
def st_first_mark : Stmt := PySem.Challenge.pw_readsback_k61_whole_short_or_covered.main.body.getD 29 (.Pass ⟨0, 0, 0, 0⟩)
def st_mark_of : Stmt := PySem.Challenge.pw_readsback_k61_whole_short_or_covered.main.body.getD 30 (.Pass ⟨0, 0, 0, 0⟩)
def st_marks : Stmt := PySem.Challenge.pw_readsback_k61_whole_short_or_covered.main.body.getD 31 (.Pass ⟨0, 0, 0, 0⟩)
def st_holder_of : Stmt := PySem.Challenge.pw_readsback_k61_whole_short_or_covered.main.body.getD 32 (.Pass ⟨0, 0, 0, 0⟩)
def st_is_mark : Stmt := PySem.Challenge.pw_readsback_k61_whole_short_or_covered.main.body.getD 33 (.Pass ⟨0, 0, 0, 0⟩)
def st__law_limit : Stmt := PySem.Challenge.pw_readsback_k61_whole_short_or_covered.main.body.getD 35 (.Pass ⟨0, 0, 0, 0⟩)
def st__law_cell : Stmt := PySem.Challenge.pw_readsback_k61_whole_short_or_covered.main.body.getD 36 (.Pass ⟨0, 0, 0, 0⟩)
def st__law_numbers : Stmt := PySem.Challenge.pw_readsback_k61_whole_short_or_covered.main.body.getD 37 (.Pass ⟨0, 0, 0, 0⟩)
def st__law_same : Stmt := PySem.Challenge.pw_readsback_k61_whole_short_or_covered.main.body.getD 38 (.Pass ⟨0, 0, 0, 0⟩)
def st__law_word : Stmt := PySem.Challenge.pw_readsback_k61_whole_short_or_covered.main.body.getD 41 (.Pass ⟨0, 0, 0, 0⟩)
def st__law_list : Stmt := PySem.Challenge.pw_readsback_k61_whole_short_or_covered.main.body.getD 42 (.Pass ⟨0, 0, 0, 0⟩)
def st__law_begins : Stmt := PySem.Challenge.pw_readsback_k61_whole_short_or_covered.main.body.getD 43 (.Pass ⟨0, 0, 0, 0⟩)
def st__law_holds : Stmt := PySem.Challenge.pw_readsback_k61_whole_short_or_covered.main.body.getD 44 (.Pass ⟨0, 0, 0, 0⟩)
def st__law_is_short : Stmt := PySem.Challenge.pw_readsback_k61_whole_short_or_covered.main.body.getD 45 (.Pass ⟨0, 0, 0, 0⟩)
def st__law_is_mark : Stmt := PySem.Challenge.pw_readsback_k61_whole_short_or_covered.main.body.getD 46 (.Pass ⟨0, 0, 0, 0⟩)
def st__law_parts : Stmt := PySem.Challenge.pw_readsback_k61_whole_short_or_covered.main.body.getD 47 (.Pass ⟨0, 0, 0, 0⟩)
def st__law_word_of : Stmt := PySem.Challenge.pw_readsback_k61_whole_short_or_covered.main.body.getD 48 (.Pass ⟨0, 0, 0, 0⟩)
def st_law : Stmt := PySem.Challenge.pw_readsback_k61_whole_short_or_covered.main.body.getD 49 (.Pass ⟨0, 0, 0, 0⟩)
def st_init : Stmt := inClass (PySem.Challenge.pw_readsback_k61_whole_short_or_covered.main.body.getD 2 (.Pass ⟨0, 0, 0, 0⟩)) 0
structure Tx (P : Program) (w : World) (K : PySem.W.Frag) (mg : Str → Option Value) (f : Nat → Addr) (fd : Nat → FuncData) : Prop where
  g_is_int : mg "is_int" = some (.ref (f 0))
  F_is_int : Fun K "is_int" "is_int" st_is_int (f 0) (fd 0)
  g_is_between : mg "is_between" = some (.ref (f 1))
  F_is_between : Fun K "is_between" "is_between" st_is_between (f 1) (fd 1)
  g_is_row : mg "is_row" = some (.ref (f 2))
  F_is_row : Fun K "is_row" "is_row" st_is_row (f 2) (fd 2)
  g_is_row_of : mg "is_row_of" = some (.ref (f 3))
  F_is_row_of : Fun K "is_row_of" "is_row_of" st_is_row_of (f 3) (fd 3)
  g_has_only : mg "has_only" = some (.ref (f 4))
  F_has_only : Fun K "has_only" "has_only" st_has_only (f 4) (fd 4)
  g_is_letters : mg "is_letters" = some (.ref (f 5))
  F_is_letters : Fun K "is_letters" "is_letters" st_is_letters (f 5) (fd 5)
  g_is_letters_of : mg "is_letters_of" = some (.ref (f 6))
  F_is_letters_of : Fun K "is_letters_of" "is_letters_of" st_is_letters_of (f 6) (fd 6)
  g_want_int : mg "want_int" = some (.ref (f 7))
  F_want_int : Fun K "want_int" "want_int" st_want_int (f 7) (fd 7)
  g_is_word : mg "is_word" = some (.ref (f 8))
  F_is_word : Fun K "is_word" "is_word" st_is_word (f 8) (fd 8)
  g_is_list : mg "is_list" = some (.ref (f 9))
  F_is_list : Fun K "is_list" "is_list" st_is_list (f 9) (fd 9)
  g_want_list : mg "want_list" = some (.ref (f 10))
  F_want_list : Fun K "want_list" "want_list" st_want_list (f 10) (fd 10)
  g_begun : mg "begun" = some (.ref (f 11))
  F_begun : Fun K "begun" "begun" st_begun (f 11) (fd 11)
  g_want_word : mg "want_word" = some (.ref (f 12))
  F_want_word : Fun K "want_word" "want_word" st_want_word (f 12) (fd 12)
  g_other_words : mg "other_words" = some (.ref (f 13))
  F_other_words : Fun K "other_words" "other_words" st_other_words (f 13) (fd 13)
  g_first_number : mg "first_number" = some (.ref (f 14))
  F_first_number : Fun K "first_number" "first_number" st_first_number (f 14) (fd 14)
  g_fits_short : mg "fits_short" = some (.ref (f 15))
  F_fits_short : Fun K "fits_short" "fits_short" st_fits_short (f 15) (fd 15)
  g_shortest_form : mg "shortest_form" = some (.ref (f 16))
  F_shortest_form : Fun K "shortest_form" "shortest_form" st_shortest_form (f 16) (fd 16)
  g_short_form : mg "short_form" = some (.ref (f 17))
  F_short_form : Fun K "short_form" "short_form" st_short_form (f 17) (fd 17)
  g_short_forms : mg "short_forms" = some (.ref (f 18))
  F_short_forms : Fun K "short_forms" "short_forms" st_short_forms (f 18) (fd 18)
  g_is_short : mg "is_short" = some (.ref (f 19))
  F_is_short : Fun K "is_short" "is_short" st_is_short (f 19) (fd 19)
  g_cover_of : mg "cover_of" = some (.ref (f 20))
  F_cover_of : Fun K "cover_of" "cover_of" st_cover_of (f 20) (fd 20)
  g_fits_mark : mg "fits_mark" = some (.ref (f 21))
  F_fits_mark : Fun K "fits_mark" "fits_mark" st_fits_mark (f 21) (fd 21)
  g_first_mark : mg "first_mark" = some (.ref (f 22))
  F_first_mark : Fun K "first_mark" "first_mark" st_first_mark (f 22) (fd 22)
  g_mark_of : mg "mark_of" = some (.ref (f 23))
  F_mark_of : Fun K "mark_of" "mark_of" st_mark_of (f 23) (fd 23)
  g_marks : mg "marks" = some (.ref (f 24))
  F_marks : Fun K "marks" "marks" st_marks (f 24) (fd 24)
  g_holder_of : mg "holder_of" = some (.ref (f 25))
  F_holder_of : Fun K "holder_of" "holder_of" st_holder_of (f 25) (fd 25)
  g_is_mark : mg "is_mark" = some (.ref (f 26))
  F_is_mark : Fun K "is_mark" "is_mark" st_is_mark (f 26) (fd 26)
  g__law_limit : mg "_law_limit" = some (.ref (f 27))
  F__law_limit : Fun K "_law_limit" "_law_limit" st__law_limit (f 27) (fd 27)
  g__law_cell : mg "_law_cell" = some (.ref (f 28))
  F__law_cell : Fun K "_law_cell" "_law_cell" st__law_cell (f 28) (fd 28)
  g__law_numbers : mg "_law_numbers" = some (.ref (f 29))
  F__law_numbers : Fun K "_law_numbers" "_law_numbers" st__law_numbers (f 29) (fd 29)
  g__law_same : mg "_law_same" = some (.ref (f 30))
  F__law_same : Fun K "_law_same" "_law_same" st__law_same (f 30) (fd 30)
  g__law_word : mg "_law_word" = some (.ref (f 31))
  F__law_word : Fun K "_law_word" "_law_word" st__law_word (f 31) (fd 31)
  g__law_list : mg "_law_list" = some (.ref (f 32))
  F__law_list : Fun K "_law_list" "_law_list" st__law_list (f 32) (fd 32)
  g__law_begins : mg "_law_begins" = some (.ref (f 33))
  F__law_begins : Fun K "_law_begins" "_law_begins" st__law_begins (f 33) (fd 33)
  g__law_holds : mg "_law_holds" = some (.ref (f 34))
  F__law_holds : Fun K "_law_holds" "_law_holds" st__law_holds (f 34) (fd 34)
  g__law_is_short : mg "_law_is_short" = some (.ref (f 35))
  F__law_is_short : Fun K "_law_is_short" "_law_is_short" st__law_is_short (f 35) (fd 35)
  g__law_is_mark : mg "_law_is_mark" = some (.ref (f 36))
  F__law_is_mark : Fun K "_law_is_mark" "_law_is_mark" st__law_is_mark (f 36) (fd 36)
  g__law_parts : mg "_law_parts" = some (.ref (f 37))
  F__law_parts : Fun K "_law_parts" "_law_parts" st__law_parts (f 37) (fd 37)
  g__law_word_of : mg "_law_word_of" = some (.ref (f 38))
  F__law_word_of : Fun K "_law_word_of" "_law_word_of" st__law_word_of (f 38) (fd 38)
  g_law : mg "law" = some (.ref (f 39))
  F_law : Fun K "law" "law" st_law (f 39) (fd 39)
  n_all : mg "all" = none
  n_any : mg "any" = none
  n_bool : mg "bool" = none
  n_enumerate : mg "enumerate" = none
  n_int : mg "int" = none
  n_isinstance : mg "isinstance" = none
  n_len : mg "len" = none
  n_list : mg "list" = none
  n_range : mg "range" = none
  n_sorted : mg "sorted" = none
  n_str : mg "str" = none
  n_tuple : mg "tuple" = none
  c_LETTERS : ∃ t, mg "LETTERS" = some (.str "abcdefghijklmnopqrstuvwxyz" t)
  bv : Bv.Txt P K mg (f 40) (f 41)
abbrev XX (K : PySem.W.Frag) (f : Nat → Addr) : XI := xiOf (f 40) (f 42) (f 43)
section
variable {P : Program} {w : World} {K : PySem.W.Frag} {mg : Str → Option Value} {base : Heap} {f : Nat → Addr} {fd : Nat → FuncData}
theorem b_is_int (T : Tx P w K mg f fd) : Binds K (fd 0) ["value"] [] := T.F_is_int.binds (ps := ["value"]) fun _ _ _ _ _ _ us hl => match us, hl with | [_], _ => rfl
theorem sc_is_int : FnScope ["value"] ["value"] (defScope st_is_int) := ⟨rfl, rfl, rfl, by decide +kernel, rfl, by decide +kernel, by decide +kernel⟩
theorem ok_is_int (T : Tx P w K mg f fd) : FnOk P w K mg base (L2.CX P w) 2 (f 0) (fd 0) ["value"] (spM K (XX K f) 1 m_is_int) :=
  fn_body (k := 1) T.F_is_int sc_is_int rfl rfl fun cdv A outer s H E hr => by
    exact ((s_one (s_ret (o_and (o_isi .int (by decide +kernel) T.n_isinstance T.n_int (v_bor 0)) (o_one (o_not (o_isi .bool (by decide +kernel) T.n_isinstance T.n_bool (v_bor 0))))))))
theorem b_is_between (T : Tx P w K mg f fd) : Binds K (fd 1) ["value", "low", "high"] [] := T.F_is_between.binds (ps := ["value", "low", "high"]) fun _ _ _ _ _ _ us hl => match us, hl with | [_, _, _], _ => rfl
theorem sc_is_between : FnScope ["value", "low", "high"] ["value", "low", "high"] (defScope st_is_between) := ⟨rfl, rfl, rfl, by decide +kernel, rfl, by decide +kernel, by decide +kernel⟩
theorem ok_is_between (T : Tx P w K mg f fd) : FnOk P w K mg base (L2.CX P w) 3 (f 1) (fd 1) ["value", "low", "high"] (spM K (XX K f) 3 m_is_between) :=
  fn_body (k := 2) T.F_is_between sc_is_between rfl rfl fun cdv A outer s H E hr => by
    exact ((s_one (s_ret (o_and (o_call (ok_is_int T) (hr.mono (by decide : 2 ≤ 2)) T.g_is_int T.F_is_int.kp (b_is_int T) rfl (takes_of rfl rfl rfl rfl) (as_cons (v_val 0) as_nil)) (o_one (o_ch op_leA op_leA s_le s_le (v_bor 1) (v_bor 0) (v_bor 2)))))))
theorem b_is_row (T : Tx P w K mg f fd) : Binds K (fd 2) ["value"] [] := T.F_is_row.binds (ps := ["value"]) fun _ _ _ _ _ _ us hl => match us, hl with | [_], _ => rfl
theorem sc_is_row : FnScope ["value"] ["value"] (defScope st_is_row) := ⟨rfl, rfl, rfl, by decide +kernel, rfl, by decide +kernel, by decide +kernel⟩
theorem ok_is_row (T : Tx P w K mg f fd) : FnOk P w K mg base (L2.CX P w) 2 (f 2) (fd 2) ["value"] (spM K (XX K f) 1 m_is_row) :=
  fn_body (k := 1) T.F_is_row sc_is_row rfl rfl fun cdv A outer s H E hr => by
    exact ((s_one (s_ret (o_isiT [.list, .tuple] T.n_isinstance (v_bor 0) (tyn_cons .list (by decide +kernel) T.n_list (tyn_cons .tuple (by decide +kernel) T.n_tuple tyn_nil))))))
theorem b_is_row_of (T : Tx P w K mg f fd) : Binds K (fd 3) ["value", "low", "high"] [] := T.F_is_row_of.binds (ps := ["value", "low", "high"]) fun _ _ _ _ _ _ us hl => match us, hl with | [_, _, _], _ => rfl
theorem sc_is_row_of : FnScope ["value", "low", "high"] ["value", "low", "high"] (defScope st_is_row_of) := ⟨rfl, rfl, rfl, by decide +kernel, rfl, by decide +kernel, by decide +kernel⟩
theorem ok_is_row_of (T : Tx P w K mg f fd) : FnOk P w K mg base (L2.CX P w) 3 (f 3) (fd 3) ["value", "low", "high"] (spM K (XX K f) 3 m_is_row_of) :=
  fn_body (k := 2) T.F_is_row_of sc_is_row_of rfl rfl fun cdv A outer s H E hr => by
    exact ((s_one (s_ret (o_and (o_call (ok_is_row T) (hr.mono (by decide : 2 ≤ 2)) T.g_is_row T.F_is_row.kp (b_is_row T) rfl (takes_of rfl rfl rfl rfl) (as_cons (v_val 0) as_nil)) (o_one (o_ch op_leA op_leA s_le s_le (v_bor 1) (b_e (c_b1 rE_ok call_lenA s_len T.n_len (v_bor 0) (by decide +kernel))) (v_bor 2)))))))
theorem b_has_only (T : Tx P w K mg f fd) : Binds K (fd 4) ["text", "letters"] [] := T.F_has_only.binds (ps := ["text", "letters"]) fun _ _ _ _ _ _ us hl => match us, hl with | [_, _], _ => rfl
theorem sc_has_only : FnScope ["text", "letters", "sign"] ["text", "letters"] (defScope st_has_only) := ⟨rfl, rfl, rfl, by decide +kernel, rfl, by decide +kernel, by decide +kernel⟩
theorem ok_has_only (T : Tx P w K mg f fd) : FnOk P w K mg base (L2.CX P w) 2 (f 4) (fd 4) ["text", "letters"] (spM K (XX K f) 2 m_has_only) :=
  fn_body (k := 1) T.F_has_only sc_has_only rfl rfl fun cdv A outer s H E hr => by
    exact ((s_one (s_ret (c_b1 rE_ok (cr_all rfl) s_all T.n_all (b_e (e_f (o_comp rfl sc_has_only.nd (i_sqC (v_bor 0)) (blkOk_by (own := [("sign", 2)]) (by kernel_rfl)) (tg_one 2) (by decide) (fun s H C cl fp => (pg_name (i := 2) sc_has_only.nd rfl (by first | exact .inl rfl | exact .inr rfl) (by first | exact .inl rfl | exact .inr rfl))) (fun s H C cl fp => zs_nil) (fun s H C cl fp => (o_cmp rE_ok (op_inA (hu65 hr)) s_in (v_bor 2) (v_bor 1)))))) (by decide +kernel)))))
theorem b_is_letters (T : Tx P w K mg f fd) : Binds K (fd 5) ["value"] [] := T.F_is_letters.binds (ps := ["value"]) fun _ _ _ _ _ _ us hl => match us, hl with | [_], _ => rfl
theorem sc_is_letters : FnScope ["value"] ["value"] (defScope st_is_letters) := ⟨rfl, rfl, rfl, by decide +kernel, rfl, by decide +kernel, by decide +kernel⟩
theorem ok_is_letters (T : Tx P w K mg f fd) : FnOk P w K mg base (L2.CX P w) 3 (f 5) (fd 5) ["value"] (spM K (XX K f) 1 m_is_letters) :=
  fn_body (k := 2) T.F_is_letters sc_is_letters rfl rfl fun cdv A outer s H E hr => by
    exact ((s_one (s_ret (o_and (o_isi .str (by decide +kernel) T.n_isinstance T.n_str (v_bor 0)) (o_one (o_call (ok_has_only T) (hr.mono (by decide : 2 ≤ 2)) T.g_has_only T.F_has_only.kp (b_has_only T) rfl (takes_of rfl rfl rfl rfl) (as_cons (v_val 0) (as_cons (k_gstr T.c_LETTERS.choose_spec) as_nil))))))))
theorem b_is_letters_of (T : Tx P w K mg f fd) : Binds K (fd 6) ["value", "low", "high"] [] := T.F_is_letters_of.binds (ps := ["value", "low", "high"]) fun _ _ _ _ _ _ us hl => match us, hl with | [_, _, _], _ => rfl
theorem sc_is_letters_of : FnScope ["value", "low", "high"] ["value", "low", "high"] (defScope st_is_letters_of) := ⟨rfl, rfl, rfl, by decide +kernel, rfl, by decide +kernel, by decide +kernel⟩
theorem ok_is_letters_of (T : Tx P w K mg f fd) : FnOk P w K mg base (L2.CX P w) 4 (f 6) (fd 6) ["value", "low", "high"] (spM K (XX K f) 3 m_is_letters_of) :=
  fn_body (k := 3) T.F_is_letters_of sc_is_letters_of rfl rfl fun cdv A outer s H E hr => by
    exact ((s_one (s_ret (o_and (o_call (ok_is_letters T) (hr.mono (by decide : 3 ≤ 3)) T.g_is_letters T.F_is_letters.kp (b_is_letters T) rfl (takes_of rfl rfl rfl rfl) (as_cons (v_val 0) as_nil)) (o_one (o_ch op_leA op_leA s_le s_le (v_bor 1) (b_e (c_b1 rE_ok call_lenA s_len T.n_len (v_bor 0) (by decide +kernel))) (v_bor 2)))))))
theorem b_want_int (T : Tx P w K mg f fd) : Binds K (fd 7) ["value", "low", "high", "at"] [] := T.F_want_int.binds (ps := ["value", "low", "high", "at"]) fun _ _ _ _ _ _ us hl => match us, hl with | [_, _, _, _], _ => rfl
theorem sc_want_int : FnScope ["value", "low", "high", "at"] ["value", "low", "high", "at"] (defScope st_want_int) := ⟨rfl, rfl, rfl, by decide +kernel, rfl, by decide +kernel, by decide +kernel⟩
theorem ok_want_int (T : Tx P w K mg f fd) : FnOk P w K mg base (L2.CX P w) 4 (f 7) (fd 7) ["value", "low", "high", "at"] (spM K (XX K f) 4 m_want_int) :=
  fn_body (k := 3) T.F_want_int sc_want_int rfl rfl fun cdv A outer s H E hr => by
    exact ((s_one (s_if (z_not (z_tru (b_e (o_call (ok_is_between T) (hr.mono (by decide : 3 ≤ 3)) T.g_is_between T.F_is_between.kp (b_is_between T) rfl (takes_of rfl rfl rfl rfl) (as_cons (v_val 0) (as_cons (v_val 1) (as_cons (v_val 2) as_nil))))))) (s_one (s_raiseV rfl T.bv hr (takes_of rfl rfl rfl rfl) (v_val 3))) s_nil)))
theorem b_is_word (T : Tx P w K mg f fd) : Binds K (fd 8) ["value"] [] := T.F_is_word.binds (ps := ["value"]) fun _ _ _ _ _ _ us hl => match us, hl with | [_], _ => rfl
theorem sc_is_word : FnScope ["value"] ["value"] (defScope st_is_word) := ⟨rfl, rfl, rfl, by decide +kernel, rfl, by decide +kernel, by decide +kernel⟩
theorem ok_is_word (T : Tx P w K mg f fd) : FnOk P w K mg base (L2.CX P w) 5 (f 8) (fd 8) ["value"] (spM K (XX K f) 1 m_is_word) :=
  fn_body (k := 4) T.F_is_word sc_is_word rfl rfl fun cdv A outer s H E hr => by
    exact ((s_one (s_ret (o_call (ok_is_letters_of T) (hr.mono (by decide : 4 ≤ 4)) T.g_is_letters_of T.F_is_letters_of.kp (b_is_letters_of T) rfl (takes_of rfl rfl rfl rfl) (as_cons (v_val 0) (as_cons k_int (as_cons k_int as_nil)))))))
theorem b_is_list (T : Tx P w K mg f fd) : Binds K (fd 9) ["value"] [] := T.F_is_list.binds (ps := ["value"]) fun _ _ _ _ _ _ us hl => match us, hl with | [_], _ => rfl
theorem sc_is_list : FnScope ["value", "word"] ["value"] (defScope st_is_list) := ⟨rfl, rfl, rfl, by decide +kernel, rfl, by decide +kernel, by decide +kernel⟩
theorem ok_is_list (T : Tx P w K mg f fd) : FnOk P w K mg base (L2.CX P w) 6 (f 9) (fd 9) ["value"] (spM K (XX K f) 1 m_is_list) :=
  fn_body (k := 5) T.F_is_list sc_is_list rfl rfl fun cdv A outer s H E hr => by
    exact ((s_cons (s_if (PW.pt (z_or (z_not (z_tru (b_e (o_call (ok_is_row_of T) (hr.mono (by decide : 3 ≤ 5)) T.g_is_row_of T.F_is_row_of.kp (b_is_row_of T) rfl (takes_of rfl rfl rfl rfl) (as_cons (v_val 0) (as_cons k_int (as_cons k_int as_nil))))))) (z_or1 (z_not (z_tru (b_e (c_b1 rE_ok (cr_all rfl) s_all T.n_all (b_e (e_f (o_comp rfl sc_is_list.nd (i_sqC (v_bor 0)) (blkOk_by (own := [("word", 1)]) (by kernel_rfl)) (tg_one 1) (by decide) (fun s H C cl fp => (pg_name (i := 1) sc_is_list.nd rfl (by first | exact .inl rfl | exact .inr rfl) (by first | exact .inl rfl | exact .inr rfl))) (fun s H C cl fp => zs_nil) (fun s H C cl fp => (o_call (ok_is_word T) (hr.mono (by decide : 5 ≤ 5)) T.g_is_word T.F_is_word.kp (b_is_word T) rfl takes0 (as_cons (v_val 1) as_nil)))))) (by decide +kernel)))))))) (s_one (s_ret k_bl)) s_nil) (s_one (s_ret (o_cmp rE_ok (op_eqAll (hu64 hr)) s_eq (b_e (o_setLen rfl T.n_len sc_is_list.nd (i_sqC (v_bor 0)) (blkOk_by (own := [("word", 1)]) (by kernel_rfl)) (tg_one 1) (by decide) (fun s H C cl fp => (pg_name (i := 1) sc_is_list.nd rfl (by first | exact .inl rfl | exact .inr rfl) (by first | exact .inl rfl | exact .inr rfl))) (fun s H C cl fp => zs_nil) (fun s H C cl fp => (v_val 1)))) (b_e (c_b1 rE_ok call_lenA s_len T.n_len (v_bor 0) (by decide +kernel))))))))
theorem b_want_list (T : Tx P w K mg f fd) : Binds K (fd 10) ["value", "at"] [] := T.F_want_list.binds (ps := ["value", "at"]) fun _ _ _ _ _ _ us hl => match us, hl with | [_, _], _ => rfl
theorem sc_want_list : FnScope ["value", "at"] ["value", "at"] (defScope st_want_list) := ⟨rfl, rfl, rfl, by decide +kernel, rfl, by decide +kernel, by decide +kernel⟩
theorem ok_want_list (T : Tx P w K mg f fd) : FnOk P w K mg base (L2.CX P w) 7 (f 10) (fd 10) ["value", "at"] (spM K (XX K f) 2 m_want_list) :=
  fn_body (k := 6) T.F_want_list sc_want_list rfl rfl fun cdv A outer s H E hr => by
    exact ((s_cons (s_if (z_not (z_tru (b_e (o_call (ok_is_list T) (hr.mono (by decide : 6 ≤ 6)) T.g_is_list T.F_is_list.kp (b_is_list T) rfl (takes_of rfl rfl rfl rfl) (as_cons (v_val 0) as_nil))))) (s_one (s_raiseV rfl T.bv hr (takes_of rfl rfl rfl rfl) (v_val 1))) s_nil) (s_one (s_ret (c_t1 rE_ok call_tuple_of s_tup T.n_tuple (v_bor 0) (by decide +kernel))))))
theorem b_begun (T : Tx P w K mg f fd) : Binds K (fd 11) ["words"] [] := T.F_begun.binds (ps := ["words"]) fun _ _ _ _ _ _ us hl => match us, hl with | [_], _ => rfl
theorem sc_begun : FnScope ["words", "one", "other"] ["words"] (defScope st_begun) := ⟨rfl, rfl, rfl, by decide +kernel, rfl, by decide +kernel, by decide +kernel⟩
theorem ok_begun (T : Tx P w K mg f fd) : FnOk P w K mg base (L2.CX P w) 8 (f 11) (fd 11) ["words"] (spM K (XX K f) 1 m_begun) :=
  fn_body (k := 7) T.F_begun sc_begun rfl rfl fun cdv A outer s H E hr => by
    exact ((s_cons (s_set (i := 0) sc_begun.nd (o_call (ok_want_list T) (hr.mono (by decide : 7 ≤ 7)) T.g_want_list T.F_want_list.kp (b_want_list T) rfl (takes_of rfl rfl rfl rfl) (as_cons (v_val 0) (as_cons k_int as_nil)))) (s_cons (s_for (passes_of rfl) rfl (i_r1F T.n_range (b_e (c_b1 rE_ok call_lenA s_len T.n_len (v_bor 0) (by decide +kernel)))) (pg_name (i := 1) sc_begun.nd rfl (by first | exact .inl rfl | exact .inr rfl) (by first | exact .inl rfl | exact .inr rfl)) (tg_one 1) (s_one (s_for (passes_of rfl) rfl (i_r1F T.n_range (b_e (c_b1 rE_ok call_lenA s_len T.n_len (v_bor 0) (by decide +kernel)))) (pg_name (i := 2) sc_begun.nd rfl (by first | exact .inl rfl | exact .inr rfl) (by first | exact .inl rfl | exact .inr rfl)) (tg_one 2) (s_one (s_if (PW.pt (z_and (z_cmp (op_neAll (hu64 hr)) s_ne (v_bor 1) (v_bor 2)) (z_and1 (z_tru (b_e (o_starts (b_e (o_ix rE_ok ix_seq s_ix (v_bor 0) (v_bor 2))) (b_e (o_ix rE_ok ix_seq s_ix (v_bor 0) (v_bor 1))))))))) (s_one (s_ret (o_tup (as_cons (v_val 1) (as_cons (v_val 2) as_nil))))) s_nil))))) (s_one (s_ret k_non)))))
theorem b_want_word (T : Tx P w K mg f fd) : Binds K (fd 12) ["words", "number"] [] := T.F_want_word.binds (ps := ["words", "number"]) fun _ _ _ _ _ _ us hl => match us, hl with | [_, _], _ => rfl
theorem sc_want_word : FnScope ["words", "number"] ["words", "number"] (defScope st_want_word) := ⟨rfl, rfl, rfl, by decide +kernel, rfl, by decide +kernel, by decide +kernel⟩
theorem ok_want_word (T : Tx P w K mg f fd) : FnOk P w K mg base (L2.CX P w) 8 (f 12) (fd 12) ["words", "number"] (spM K (XX K f) 2 m_want_word) :=
  fn_body (k := 7) T.F_want_word sc_want_word rfl rfl fun cdv A outer s H E hr => by
    exact ((s_cons (s_set (i := 0) sc_want_word.nd (o_call (ok_want_list T) (hr.mono (by decide : 7 ≤ 7)) T.g_want_list T.F_want_list.kp (b_want_list T) rfl (takes_of rfl rfl rfl rfl) (as_cons (v_val 0) (as_cons k_int as_nil)))) (s_cons (s_drop (o_call (ok_want_int T) (hr.mono (by decide : 4 ≤ 7)) T.g_want_int T.F_want_int.kp (b_want_int T) rfl (takes_of rfl rfl rfl rfl) (as_cons (v_val 1) (as_cons k_int (as_cons (o_bin rE_ok op_sub s_sub (b_e (c_b1 rE_ok call_lenA s_len T.n_len (v_bor 0) (by decide +kernel))) (b_e k_int)) (as_cons k_int as_nil)))))) (s_one (s_ret (v_val 0))))))
theorem b_other_words (T : Tx P w K mg f fd) : Binds K (fd 13) ["words", "number"] [] := T.F_other_words.binds (ps := ["words", "number"]) fun _ _ _ _ _ _ us hl => match us, hl with | [_, _], _ => rfl
theorem sc_other_words : FnScope ["words", "number", "k", "word"] ["words", "number"] (defScope st_other_words) := ⟨rfl, rfl, rfl, by decide +kernel, rfl, by decide +kernel, by decide +kernel⟩
theorem ok_other_words (T : Tx P w K mg f fd) : FnOk P w K mg base (L2.CX P w) 2 (f 13) (fd 13) ["words", "number"] (spM K (XX K f) 2 m_other_words) :=
  fn_body (k := 1) T.F_other_words sc_other_words rfl rfl fun cdv A outer s H E hr => by
    exact ((s_one (s_ret (e_f (o_comp rfl sc_other_words.nd (i_enC T.n_enumerate (v_bor 0)) (blkOk_by (own := [("k", 2), ("word", 3)]) (by kernel_rfl)) (tg_tup [2, 3]) (by decide) (fun s H C cl fp => (pg_names (is := [2, 3]) rfl sc_other_words.nd (pgn_cons (i := 2) (pgn_cons (i := 3) pgn_nil)))) (fun s H C cl fp => (zs_one (z_cmp (op_neAll (hu64 hr)) s_ne (v_bor 2) (v_bor 1)))) (fun s H C cl fp => (v_val 3)))))))
theorem b_first_number (T : Tx P w K mg f fd) : Binds K (fd 14) ["rows"] [] := T.F_first_number.binds (ps := ["rows"]) fun _ _ _ _ _ _ us hl => match us, hl with | [_], _ => rfl
theorem sc_first_number : FnScope ["rows"] ["rows"] (defScope st_first_number) := ⟨rfl, rfl, rfl, by decide +kernel, rfl, by decide +kernel, by decide +kernel⟩
theorem ok_first_number (T : Tx P w K mg f fd) : FnOk P w K mg base (L2.CX P w) 2 (f 14) (fd 14) ["rows"] (spM K (XX K f) 1 m_first_number) :=
  fn_body (k := 1) T.F_first_number sc_first_number rfl rfl fun cdv A outer s H E hr => by
    exact ((s_cons (s_if (z_cmp (op_ninA (hu65 hr)) s_nin (b_e k_bl) (v_bor 0)) (s_one (s_ret k_non)) s_nil) (s_one (s_ret (o_lindex (hu65 hr) (v_bor 0) (b_e k_bl))))))
theorem b_fits_short (T : Tx P w K mg f fd) : Binds K (fd 15) ["words", "number", "text"] [] := T.F_fits_short.binds (ps := ["words", "number", "text"]) fun _ _ _ _ _ _ us hl => match us, hl with | [_, _, _], _ => rfl
theorem sc_fits_short : FnScope ["words", "number", "text", "word"] ["words", "number", "text"] (defScope st_fits_short) := ⟨rfl, rfl, rfl, by decide +kernel, rfl, by decide +kernel, by decide +kernel⟩
theorem ok_fits_short (T : Tx P w K mg f fd) : FnOk P w K mg base (L2.CX P w) 5 (f 15) (fd 15) ["words", "number", "text"] (spM K (XX K f) 3 m_fits_short) :=
  fn_body (k := 4) T.F_fits_short sc_fits_short rfl rfl fun cdv A outer s H E hr => by
    exact ((s_cons (s_if (PW.pt (z_or (z_not (z_tru (b_e (o_call (ok_is_letters_of T) (hr.mono (by decide : 4 ≤ 4)) T.g_is_letters_of T.F_is_letters_of.kp (b_is_letters_of T) rfl (takes_of rfl rfl rfl rfl) (as_cons (v_val 2) (as_cons k_int (as_cons k_int as_nil))))))) (z_or1 (z_not (z_tru (b_e (o_starts (b_e (o_ix rE_ok ix_seq s_ix (v_bor 0) (v_bor 1))) (v_bor 2)))))))) (s_one (s_ret k_bl)) s_nil) (s_one (s_ret (o_not (c_b1 rE_ok (cr_any rfl) s_any T.n_any (b_e (e_f (o_comp rfl sc_fits_short.nd (i_sqC (b_e (o_call (ok_other_words T) (hr.mono (by decide : 2 ≤ 4)) T.g_other_words T.F_other_words.kp (b_other_words T) rfl (takes_of rfl rfl rfl rfl) (as_cons (v_val 0) (as_cons (v_val 1) as_nil))))) (blkOk_by (own := [("word", 3)]) (by kernel_rfl)) (tg_one 3) (by decide) (fun s H C cl fp => (pg_name (i := 3) sc_fits_short.nd rfl (by first | exact .inl rfl | exact .inr rfl) (by first | exact .inl rfl | exact .inr rfl))) (fun s H C cl fp => zs_nil) (fun s H C cl fp => (o_starts (v_bor 3) (v_bor 2)))))) (by decide +kernel)))))))
theorem b_shortest_form (T : Tx P w K mg f fd) : Binds K (fd 16) ["words", "number"] [] := T.F_shortest_form.binds (ps := ["words", "number"]) fun _ _ _ _ _ _ us hl => match us, hl with | [_, _], _ => rfl
theorem sc_shortest_form : FnScope ["words", "number", "word", "many"] ["words", "number"] (defScope st_shortest_form) := ⟨rfl, rfl, rfl, by decide +kernel, rfl, by decide +kernel, by decide +kernel⟩
theorem ok_shortest_form (T : Tx P w K mg f fd) : FnOk P w K mg base (L2.CX P w) 6 (f 16) (fd 16) ["words", "number"] (spM K (XX K f) 2 m_shortest_form) :=
  fn_body (k := 5) T.F_shortest_form sc_shortest_form rfl rfl fun cdv A outer s H E hr => by
    exact ((s_cons (s_set (i := 2) sc_shortest_form.nd (o_ix rE_ok ix_seq s_ix (v_bor 0) (v_bor 1))) (s_cons (s_for (passes_of rfl) rfl (i_r2F T.n_range (b_e k_int) (b_e (o_bin rE_ok op_addAll s_add (b_e (c_b1 rE_ok call_lenA s_len T.n_len (v_bor 2) (by decide +kernel))) (b_e k_int)))) (pg_name (i := 3) sc_shortest_form.nd rfl (by first | exact .inl rfl | exact .inr rfl) (by first | exact .inl rfl | exact .inr rfl)) (tg_one 3) (s_one (s_if (z_tru (b_e (o_call (ok_fits_short T) (hr.mono (by decide : 5 ≤ 5)) T.g_fits_short T.F_fits_short.kp (b_fits_short T) rfl (takes_of rfl rfl rfl rfl) (as_cons (v_val 0) (as_cons (v_val 1) (as_cons (o_sl (v_bor 2) b_no (b_at (v_val 3))) as_nil)))))) (s_one (s_ret (o_sl (v_bor 2) b_no (b_at (v_val 3))))) s_nil))) (s_one (s_ret k_non)))))
theorem b_short_form (T : Tx P w K mg f fd) : Binds K (fd 17) ["words", "number"] [] := T.F_short_form.binds (ps := ["words", "number"]) fun _ _ _ _ _ _ us hl => match us, hl with | [_, _], _ => rfl
theorem sc_short_form : FnScope ["words", "number"] ["words", "number"] (defScope st_short_form) := ⟨rfl, rfl, rfl, by decide +kernel, rfl, by decide +kernel, by decide +kernel⟩
theorem ok_short_form (T : Tx P w K mg f fd) : FnOk P w K mg base (L2.CX P w) 9 (f 17) (fd 17) ["words", "number"] (spM K (XX K f) 2 m_short_form) :=
  fn_body (k := 8) T.F_short_form sc_short_form rfl rfl fun cdv A outer s H E hr => by
    exact ((s_cons (s_set (i := 0) sc_short_form.nd (o_call (ok_want_word T) (hr.mono (by decide : 8 ≤ 8)) T.g_want_word T.F_want_word.kp (b_want_word T) rfl (takes_of rfl rfl rfl rfl) (as_cons (v_val 0) (as_cons (v_val 1) as_nil)))) (s_one (s_ret (o_call (ok_shortest_form T) (hr.mono (by decide : 6 ≤ 8)) T.g_shortest_form T.F_shortest_form.kp (b_shortest_form T) rfl (takes_of rfl rfl rfl rfl) (as_cons (v_val 0) (as_cons (v_val 1) as_nil)))))))
theorem b_short_forms (T : Tx P w K mg f fd) : Binds K (fd 18) ["words"] [] := T.F_short_forms.binds (ps := ["words"]) fun _ _ _ _ _ _ us hl => match us, hl with | [_], _ => rfl
theorem sc_short_forms : FnScope ["words", "number"] ["words"] (defScope st_short_forms) := ⟨rfl, rfl, rfl, by decide +kernel, rfl, by decide +kernel, by decide +kernel⟩
theorem ok_short_forms (T : Tx P w K mg f fd) : FnOk P w K mg base (L2.CX P w) 8 (f 18) (fd 18) ["words"] (spM K (XX K f) 1 m_short_forms) :=
  fn_body (k := 7) T.F_short_forms sc_short_forms rfl rfl fun cdv A outer s H E hr => by
    exact ((s_cons (s_set (i := 0) sc_short_forms.nd (o_call (ok_want_list T) (hr.mono (by decide : 7 ≤ 7)) T.g_want_list T.F_want_list.kp (b_want_list T) rfl (takes_of rfl rfl rfl rfl) (as_cons (v_val 0) (as_cons k_int as_nil)))) (s_one (s_ret (c_t1 rE_ok call_tuple_of s_tup T.n_tuple (b_e (e_f (o_comp rfl sc_short_forms.nd (i_fc (i_r1F T.n_range (b_e (c_b1 rE_ok call_lenA s_len T.n_len (v_bor 0) (by decide +kernel))))) (blkOk_by (own := [("number", 1)]) (by kernel_rfl)) (tg_one 1) (by decide) (fun s H C cl fp => (pg_name (i := 1) sc_short_forms.nd rfl (by first | exact .inl rfl | exact .inr rfl) (by first | exact .inl rfl | exact .inr rfl))) (fun s H C cl fp => zs_nil) (fun s H C cl fp => (o_call (ok_shortest_form T) (hr.mono (by decide : 6 ≤ 7)) T.g_shortest_form T.F_shortest_form.kp (b_shortest_form T) rfl takes0 (as_cons (v_val 0) (as_cons (v_val 1) as_nil))))))) (by decide +kernel))))))
theorem b_is_short (T : Tx P w K mg f fd) : Binds K (fd 19) ["words", "number", "text"] [] := T.F_is_short.binds (ps := ["words", "number", "text"]) fun _ _ _ _ _ _ us hl => match us, hl with | [_, _, _], _ => rfl
theorem sc_is_short : FnScope ["words", "number", "text"] ["words", "number", "text"] (defScope st_is_short) := ⟨rfl, rfl, rfl, by decide +kernel, rfl, by decide +kernel, by decide +kernel⟩
theorem ok_is_short (T : Tx P w K mg f fd) : FnOk P w K mg base (L2.CX P w) 9 (f 19) (fd 19) ["words", "number", "text"] (spM K (XX K f) 3 m_is_short) :=
  fn_body (k := 8) T.F_is_short sc_is_short rfl rfl fun cdv A outer s H E hr => by
    exact ((s_cons (s_set (i := 0) sc_is_short.nd (o_call (ok_want_word T) (hr.mono (by decide : 8 ≤ 8)) T.g_want_word T.F_want_word.kp (b_want_word T) rfl (takes_of rfl rfl rfl rfl) (as_cons (v_val 0) (as_cons (v_val 1) as_nil)))) (s_one (s_ret (o_call (ok_fits_short T) (hr.mono (by decide : 5 ≤ 8)) T.g_fits_short T.F_fits_short.kp (b_fits_short T) rfl (takes_of rfl rfl rfl rfl) (as_cons (v_val 0) (as_cons (v_val 1) (as_cons (v_val 2) as_nil))))))))
theorem b_cover_of (T : Tx P w K mg f fd) : Binds K (fd 20) ["words", "number"] [] := T.F_cover_of.binds (ps := ["words", "number"]) fun _ _ _ _ _ _ us hl => match us, hl with | [_, _], _ => rfl
theorem sc_cover_of : FnScope ["words", "number", "k", "word"] ["words", "number"] (defScope st_cover_of) := ⟨rfl, rfl, rfl, by decide +kernel, rfl, by decide +kernel, by decide +kernel⟩
theorem ok_cover_of (T : Tx P w K mg f fd) : FnOk P w K mg base (L2.CX P w) 9 (f 20) (fd 20) ["words", "number"] (spM K (XX K f) 2 m_cover_of) :=
  fn_body (k := 8) T.F_cover_of sc_cover_of rfl rfl fun cdv A outer s H E hr => by
    exact ((s_cons (s_set (i := 0) sc_cover_of.nd (o_call (ok_want_word T) (hr.mono (by decide : 8 ≤ 8)) T.g_want_word T.F_want_word.kp (b_want_word T) rfl (takes_of rfl rfl rfl rfl) (as_cons (v_val 0) (as_cons (v_val 1) as_nil)))) (s_one (s_ret (o_call (ok_first_number T) (hr.mono (by decide : 2 ≤ 8)) T.g_first_number T.F_first_number.kp (b_first_number T) rfl (takes_of rfl rfl rfl rfl) (as_cons (e_f (o_comp rfl sc_cover_of.nd (i_enC T.n_enumerate (v_bor 0)) (blkOk_by (own := [("k", 2), ("word", 3)]) (by kernel_rfl)) (tg_tup [2, 3]) (by decide) (fun s H C cl fp => (pg_names (is := [2, 3]) rfl sc_cover_of.nd (pgn_cons (i := 2) (pgn_cons (i := 3) pgn_nil)))) (fun s H C cl fp => zs_nil) (fun s H C cl fp => (o_and (o_cmp rE_ok (op_neAll (hu64 hr)) s_ne (v_bor 2) (v_bor 1)) (o_one (o_starts (v_bor 3) (b_e (o_ix rE_ok ix_seq s_ix (v_bor 0) (v_bor 1))))))))) as_nil))))))
theorem b_fits_mark (T : Tx P w K mg f fd) : Binds K (fd 21) ["words", "number", "text"] [] := T.F_fits_mark.binds (ps := ["words", "number", "text"]) fun _ _ _ _ _ _ us hl => match us, hl with | [_, _, _], _ => rfl
theorem sc_fits_mark : FnScope ["words", "number", "text", "word"] ["words", "number", "text"] (defScope st_fits_mark) := ⟨rfl, rfl, rfl, by decide +kernel, rfl, by decide +kernel, by decide +kernel⟩
theorem ok_fits_mark (T : Tx P w K mg f fd) : FnOk P w K mg base (L2.CX P w) 5 (f 21) (fd 21) ["words", "number", "text"] (spM K (XX K f) 3 m_fits_mark) :=
  fn_body (k := 4) T.F_fits_mark sc_fits_mark rfl rfl fun cdv A outer s H E hr => by
    exact ((s_cons (s_if (PW.pt (z_or (z_not (z_tru (b_e (o_call (ok_is_letters_of T) (hr.mono (by decide : 4 ≤ 4)) T.g_is_letters_of T.F_is_letters_of.kp (b_is_letters_of T) rfl (takes_of rfl rfl rfl rfl) (as_cons (v_val 2) (as_cons k_int (as_cons k_int as_nil))))))) (z_or1 (z_cmp (op_ninA (hu65 hr)) s_nin (v_bor 2) (b_e (o_ix rE_ok ix_seq s_ix (v_bor 0) (v_bor 1))))))) (s_one (s_ret k_bl)) s_nil) (s_one (s_ret (o_not (c_b1 rE_ok (cr_any rfl) s_any T.n_any (b_e (e_f (o_comp rfl sc_fits_mark.nd (i_sqC (b_e (o_call (ok_other_words T) (hr.mono (by decide : 2 ≤ 4)) T.g_other_words T.F_other_words.kp (b_other_words T) rfl (takes_of rfl rfl rfl rfl) (as_cons (v_val 0) (as_cons (v_val 1) as_nil))))) (blkOk_by (own := [("word", 3)]) (by kernel_rfl)) (tg_one 3) (by decide) (fun s H C cl fp => (pg_name (i := 3) sc_fits_mark.nd rfl (by first | exact .inl rfl | exact .inr rfl) (by first | exact .inl rfl | exact .inr rfl))) (fun s H C cl fp => zs_nil) (fun s H C cl fp => (o_cmp rE_ok (op_inA (hu65 hr)) s_in (v_bor 2) (v_bor 3)))))) (by decide +kernel)))))))
theorem b_first_mark (T : Tx P w K mg f fd) : Binds K (fd 22) ["words", "number"] [] := T.F_first_mark.binds (ps := ["words", "number"]) fun _ _ _ _ _ _ us hl => match us, hl with | [_, _], _ => rfl
theorem sc_first_mark : FnScope ["words", "number", "word", "many", "found", "text", "k"] ["words", "number"] (defScope st_first_mark) := ⟨rfl, rfl, rfl, by decide +kernel, rfl, by decide +kernel, by decide +kernel⟩
theorem ok_first_mark (T : Tx P w K mg f fd) : FnOk P w K mg base (L2.CX P w) 6 (f 22) (fd 22) ["words", "number"] (spM K (XX K f) 2 m_first_mark) :=
  fn_body (k := 5) T.F_first_mark sc_first_mark rfl rfl fun cdv A outer s H E hr => by
    exact ((s_cons (s_set (i := 2) sc_first_mark.nd (o_ix rE_ok ix_seq s_ix (v_bor 0) (v_bor 1))) (s_cons (s_for (passes_of rfl) rfl (i_r2F T.n_range (b_e k_int) (b_e (o_bin rE_ok op_addAll s_add (b_e (c_b1 rE_ok call_lenA s_len T.n_len (v_bor 2) (by decide +kernel))) (b_e k_int)))) (pg_name (i := 3) sc_first_mark.nd rfl (by first | exact .inl rfl | exact .inr rfl) (by first | exact .inl rfl | exact .inr rfl)) (tg_one 3) (s_cons (s_set (i := 4) sc_first_mark.nd (e_f (c_b1 rF_ok (cr_srtD (hu80 hr)) s_sorted T.n_sorted (b_e (e_f (o_comp rfl sc_first_mark.nd (i_fc (i_r1F T.n_range (b_e (o_bin rE_ok op_addAll s_add (b_e (o_bin rE_ok op_sub s_sub (b_e (c_b1 rE_ok call_lenA s_len T.n_len (v_bor 2) (by decide +kernel))) (v_bor 3))) (b_e k_int))))) (blkOk_by (own := [("k", 6)]) (by kernel_rfl)) (tg_one 6) (by decide) (fun s H C cl fp => (pg_name (i := 6) sc_first_mark.nd rfl (by first | exact .inl rfl | exact .inr rfl) (by first | exact .inl rfl | exact .inr rfl))) (fun s H C cl fp => zs_nil) (fun s H C cl fp => (o_sl (v_bor 2) (b_at (v_val 6)) (b_at (o_bin rE_ok op_addAll s_add (v_bor 6) (v_bor 3)))))))) (by decide +kernel)))) (s_one (s_for (passes_of rfl) rfl (i_sqF (v_val 4)) (pg_name (i := 5) sc_first_mark.nd rfl (by first | exact .inl rfl | exact .inr rfl) (by first | exact .inl rfl | exact .inr rfl)) (tg_one 5) (s_one (s_if (z_tru (b_e (o_call (ok_fits_mark T) (hr.mono (by decide : 5 ≤ 5)) T.g_fits_mark T.F_fits_mark.kp (b_fits_mark T) rfl (takes_of rfl rfl rfl rfl) (as_cons (v_val 0) (as_cons (v_val 1) (as_cons (v_val 5) as_nil)))))) (s_one (s_ret (v_val 5))) s_nil)))))) (s_one (s_ret k_non)))))
theorem b_mark_of (T : Tx P w K mg f fd) : Binds K (fd 23) ["words", "number"] [] := T.F_mark_of.binds (ps := ["words", "number"]) fun _ _ _ _ _ _ us hl => match us, hl with | [_, _], _ => rfl
theorem sc_mark_of : FnScope ["words", "number"] ["words", "number"] (defScope st_mark_of) := ⟨rfl, rfl, rfl, by decide +kernel, rfl, by decide +kernel, by decide +kernel⟩
theorem ok_mark_of (T : Tx P w K mg f fd) : FnOk P w K mg base (L2.CX P w) 9 (f 23) (fd 23) ["words", "number"] (spM K (XX K f) 2 m_mark_of) :=
  fn_body (k := 8) T.F_mark_of sc_mark_of rfl rfl fun cdv A outer s H E hr => by
    exact ((s_cons (s_set (i := 0) sc_mark_of.nd (o_call (ok_want_word T) (hr.mono (by decide : 8 ≤ 8)) T.g_want_word T.F_want_word.kp (b_want_word T) rfl (takes_of rfl rfl rfl rfl) (as_cons (v_val 0) (as_cons (v_val 1) as_nil)))) (s_one (s_ret (o_call (ok_first_mark T) (hr.mono (by decide : 6 ≤ 8)) T.g_first_mark T.F_first_mark.kp (b_first_mark T) rfl (takes_of rfl rfl rfl rfl) (as_cons (v_val 0) (as_cons (v_val 1) as_nil)))))))
theorem b_marks (T : Tx P w K mg f fd) : Binds K (fd 24) ["words"] [] := T.F_marks.binds (ps := ["words"]) fun _ _ _ _ _ _ us hl => match us, hl with | [_], _ => rfl
theorem sc_marks : FnScope ["words", "number"] ["words"] (defScope st_marks) := ⟨rfl, rfl, rfl, by decide +kernel, rfl, by decide +kernel, by decide +kernel⟩
theorem ok_marks (T : Tx P w K mg f fd) : FnOk P w K mg base (L2.CX P w) 8 (f 24) (fd 24) ["words"] (spM K (XX K f) 1 m_marks) :=
  fn_body (k := 7) T.F_marks sc_marks rfl rfl fun cdv A outer s H E hr => by
    exact ((s_cons (s_set (i := 0) sc_marks.nd (o_call (ok_want_list T) (hr.mono (by decide : 7 ≤ 7)) T.g_want_list T.F_want_list.kp (b_want_list T) rfl (takes_of rfl rfl rfl rfl) (as_cons (v_val 0) (as_cons k_int as_nil)))) (s_one (s_ret (c_t1 rE_ok call_tuple_of s_tup T.n_tuple (b_e (e_f (o_comp rfl sc_marks.nd (i_fc (i_r1F T.n_range (b_e (c_b1 rE_ok call_lenA s_len T.n_len (v_bor 0) (by decide +kernel))))) (blkOk_by (own := [("number", 1)]) (by kernel_rfl)) (tg_one 1) (by decide) (fun s H C cl fp => (pg_name (i := 1) sc_marks.nd rfl (by first | exact .inl rfl | exact .inr rfl) (by first | exact .inl rfl | exact .inr rfl))) (fun s H C cl fp => zs_nil) (fun s H C cl fp => (o_call (ok_first_mark T) (hr.mono (by decide : 6 ≤ 7)) T.g_first_mark T.F_first_mark.kp (b_first_mark T) rfl takes0 (as_cons (v_val 0) (as_cons (v_val 1) as_nil))))))) (by decide +kernel))))))
theorem b_holder_of (T : Tx P w K mg f fd) : Binds K (fd 25) ["words", "number"] [] := T.F_holder_of.binds (ps := ["words", "number"]) fun _ _ _ _ _ _ us hl => match us, hl with | [_, _], _ => rfl
theorem sc_holder_of : FnScope ["words", "number", "k", "word"] ["words", "number"] (defScope st_holder_of) := ⟨rfl, rfl, rfl, by decide +kernel, rfl, by decide +kernel, by decide +kernel⟩
theorem ok_holder_of (T : Tx P w K mg f fd) : FnOk P w K mg base (L2.CX P w) 9 (f 25) (fd 25) ["words", "number"] (spM K (XX K f) 2 m_holder_of) :=
  fn_body (k := 8) T.F_holder_of sc_holder_of rfl rfl fun cdv A outer s H E hr => by
    exact ((s_cons (s_set (i := 0) sc_holder_of.nd (o_call (ok_want_word T) (hr.mono (by decide : 8 ≤ 8)) T.g_want_word T.F_want_word.kp (b_want_word T) rfl (takes_of rfl rfl rfl rfl) (as_cons (v_val 0) (as_cons (v_val 1) as_nil)))) (s_one (s_ret (o_call (ok_first_number T) (hr.mono (by decide : 2 ≤ 8)) T.g_first_number T.F_first_number.kp (b_first_number T) rfl (takes_of rfl rfl rfl rfl) (as_cons (e_f (o_comp rfl sc_holder_of.nd (i_enC T.n_enumerate (v_bor 0)) (blkOk_by (own := [("k", 2), ("word", 3)]) (by kernel_rfl)) (tg_tup [2, 3]) (by decide) (fun s H C cl fp => (pg_names (is := [2, 3]) rfl sc_holder_of.nd (pgn_cons (i := 2) (pgn_cons (i := 3) pgn_nil)))) (fun s H C cl fp => zs_nil) (fun s H C cl fp => (o_and (o_cmp rE_ok (op_neAll (hu64 hr)) s_ne (v_bor 2) (v_bor 1)) (o_one (o_cmp rE_ok (op_inA (hu65 hr)) s_in (b_e (o_ix rE_ok ix_seq s_ix (v_bor 0) (v_bor 1))) (v_bor 3))))))) as_nil))))))
theorem b_is_mark (T : Tx P w K mg f fd) : Binds K (fd 26) ["words", "number", "text"] [] := T.F_is_mark.binds (ps := ["words", "number", "text"]) fun _ _ _ _ _ _ us hl => match us, hl with | [_, _, _], _ => rfl
theorem sc_is_mark : FnScope ["words", "number", "text"] ["words", "number", "text"] (defScope st_is_mark) := ⟨rfl, rfl, rfl, by decide +kernel, rfl, by decide +kernel, by decide +kernel⟩
theorem ok_is_mark (T : Tx P w K mg f fd) : FnOk P w K mg base (L2.CX P w) 9 (f 26) (fd 26) ["words", "number", "text"] (spM K (XX K f) 3 m_is_mark) :=
  fn_body (k := 8) T.F_is_mark sc_is_mark rfl rfl fun cdv A outer s H E hr => by
    exact ((s_cons (s_set (i := 0) sc_is_mark.nd (o_call (ok_want_word T) (hr.mono (by decide : 8 ≤ 8)) T.g_want_word T.F_want_word.kp (b_want_word T) rfl (takes_of rfl rfl rfl rfl) (as_cons (v_val 0) (as_cons (v_val 1) as_nil)))) (s_one (s_ret (o_call (ok_fits_mark T) (hr.mono (by decide : 5 ≤ 8)) T.g_fits_mark T.F_fits_mark.kp (b_fits_mark T) rfl (takes_of rfl rfl rfl rfl) (as_cons (v_val 0) (as_cons (v_val 1) (as_cons (v_val 2) as_nil))))))))
theorem b__law_limit (T : Tx P w K mg f fd) : Binds K (fd 27) [] [] := T.F__law_limit.binds (ps := []) fun _ _ _ _ _ _ us hl => match us, hl with | [], _ => rfl
theorem sc__law_limit : FnScope ["result", "k"] [] (defScope st__law_limit) := ⟨rfl, rfl, rfl, by decide +kernel, rfl, by decide +kernel, by decide +kernel⟩
theorem ok__law_limit (T : Tx P w K mg f fd) : FnOk P w K mg base (L2.CX P w) 2 (f 27) (fd 27) [] (spM K (XX K f) 0 m__law_limit) :=
  fn_body (k := 1) T.F__law_limit sc__law_limit rfl rfl fun cdv A outer s H E hr => by
    exact ((s_cons (s_set (i := 0) sc__law_limit.nd k_int) (s_cons (s_for (passes_of rfl) rfl (i_r1F T.n_range (b_e k_int)) (pg_name (i := 1) sc__law_limit.nd rfl (by first | exact .inl rfl | exact .inr rfl) (by first | exact .inl rfl | exact .inr rfl)) (tg_one 1) (s_one (s_set (i := 0) sc__law_limit.nd (o_bin rE_ok op_mulAll s_mul (v_bor 0) (b_e (o_bin rE_ok op_pow s_pow (b_e k_int) (b_e k_int))))))) (s_one (s_ret (v_val 0))))))
theorem b__law_cell (T : Tx P w K mg f fd) : Binds K (fd 28) ["script", "place"] [] := T.F__law_cell.binds (ps := ["script", "place"]) fun _ _ _ _ _ _ us hl => match us, hl with | [_, _], _ => rfl
theorem sc__law_cell : FnScope ["script", "place"] ["script", "place"] (defScope st__law_cell) := ⟨rfl, rfl, rfl, by decide +kernel, rfl, by decide +kernel, by decide +kernel⟩
theorem ok__law_cell (T : Tx P w K mg f fd) : FnOk P w K mg base (L2.CX P w) 3 (f 28) (fd 28) ["script", "place"] (spM K (XX K f) 2 m__law_cell) :=
  fn_body (k := 2) T.F__law_cell sc__law_cell rfl rfl fun cdv A outer s H E hr => by
    exact ((s_cons (s_if (z_cmp op_ltA s_lt (v_bor 1) (b_e (c_b1 rE_ok call_lenA s_len T.n_len (v_bor 0) (by decide +kernel)))) (s_one (s_ret (o_bin rE_ok op_mod s_mod (b_e (c_t1 rE_ok call_int1 s_int T.n_int (b_e (o_ix rE_ok ix_seq s_ix (v_bor 0) (v_bor 1))) (by decide +kernel))) (b_e (o_call0 (ok__law_limit T) (hr.mono (by decide : 2 ≤ 2)) T.g__law_limit T.F__law_limit.kp (b__law_limit T) (takes_of rfl rfl rfl rfl)))))) s_nil) (s_one (s_ret k_int))))
theorem b__law_numbers (T : Tx P w K mg f fd) : Binds K (fd 29) ["script", "place", "many"] [] := T.F__law_numbers.binds (ps := ["script", "place", "many"]) fun _ _ _ _ _ _ us hl => match us, hl with | [_, _, _], _ => rfl
theorem sc__law_numbers : FnScope ["script", "place", "many", "cell", "small", "numbers", "rest", "k", "twice"] ["script", "place", "many"] (defScope st__law_numbers) := ⟨rfl, rfl, rfl, by decide +kernel, rfl, by decide +kernel, by decide +kernel⟩
theorem ok__law_numbers (T : Tx P w K mg f fd) : FnOk P w K mg base (L2.CX P w) 4 (f 29) (fd 29) ["script", "place", "many"] (spM K (XX K f) 3 m__law_numbers) :=
  fn_body (k := 3) T.F__law_numbers sc__law_numbers rfl rfl fun cdv A outer s H E hr => by
    exact ((s_cons (s_set (i := 3) sc__law_numbers.nd (o_call (ok__law_cell T) (hr.mono (by decide : 3 ≤ 3)) T.g__law_cell T.F__law_cell.kp (b__law_cell T) rfl (takes_of rfl rfl rfl rfl) (as_cons (v_val 0) (as_cons (v_val 1) as_nil)))) (s_cons (s_set (i := 4) sc__law_numbers.nd (o_bin rE_ok op_mod s_mod (b_e (c_t1 rE_ok call_int1 s_int T.n_int (v_bor 3) (by decide +kernel))) (b_e k_int))) (s_cons (s_own (i := 5) sc__law_numbers.nd (o_lst as_nil)) (s_cons (s_set (i := 6) sc__law_numbers.nd (v_val 3)) (s_cons (s_for (passes_of rfl) rfl (i_r1F T.n_range (v_bor 2)) (pg_name (i := 7) sc__law_numbers.nd rfl (by first | exact .inl rfl | exact .inr rfl) (by first | exact .inl rfl | exact .inr rfl)) (tg_one 7) (s_one (s_if (PW.pt (z_and (z_cmp op_geA s_ge (v_bor 3) (b_e (o_bin rE_ok op_pow s_pow (b_e k_int) (b_e k_int)))) (z_and1 (z_cmp op_gtA s_gt (v_bor 6) (b_e k_int))))) (s_cons (s_app (i := 5) (o_bin rE_ok op_mod s_mod (b_e (c_t1 rE_ok call_int1 s_int T.n_int (v_bor 6) (by decide +kernel))) (b_e (o_bin rE_ok op_pow s_pow (b_e k_int) (b_e k_int))))) (s_one (s_set (i := 6) sc__law_numbers.nd (o_bin rE_ok op_divAll s_div (v_bor 6) (b_e (o_bin rE_ok op_pow s_pow (b_e k_int) (b_e k_int))))))) (s_cons (s_set (i := 8) sc__law_numbers.nd (o_bin rE_ok op_mod s_mod (b_e (c_t1 rE_ok call_int1 s_int T.n_int (b_e (o_bin rE_ok op_addAll s_add (b_e (o_bin rE_ok op_addAll s_add (b_e (o_bin rE_ok op_mulAll s_mul (v_bor 4) (b_e k_int))) (b_e (o_bin rE_ok op_mulAll s_mul (b_e (o_bin rE_ok op_addAll s_add (v_bor 7) (b_e k_int))) (b_e k_int))))) (v_bor 1))) (by decide +kernel))) (b_e k_int))) (s_one (s_app (i := 5) (o_bin rE_ok op_mod s_mod (b_e (o_bin rE_ok op_mod s_mod (b_e (c_t1 rE_ok call_int1 s_int T.n_int (b_e (o_bin rE_ok op_addAll s_add (b_e (o_bin rE_ok op_mulAll s_mul (v_bor 8) (b_e k_int))) (b_e (o_bin rE_ok op_mulAll s_mul (b_e (o_bin rE_ok op_addAll s_add (v_bor 7) (b_e k_int))) (b_e k_int))))) (by decide +kernel))) (b_e k_int))) (b_e (o_bin rE_ok op_pow s_pow (b_e k_int) (b_e k_int)))))))))) (s_one (s_frz [5] (s_ret (v_val 5))))))))))
theorem b__law_same (T : Tx P w K mg f fd) : Binds K (fd 30) ["one", "other"] [] := T.F__law_same.binds (ps := ["one", "other"]) fun _ _ _ _ _ _ us hl => match us, hl with | [_, _], _ => rfl
theorem sc__law_same : FnScope ["one", "other", "k"] ["one", "other"] (defScope st__law_same) := ⟨rfl, rfl, rfl, by decide +kernel, rfl, by decide +kernel, by decide +kernel⟩
theorem ok__law_same (T : Tx P w K mg f fd) : ∀ n : Nat, FnOk P w K mg base (L2.CX P w) (2 + n) (f 30) (fd 30) ["one", "other"] (spM K (XX K f) 2 (m__law_same n))
  | 0 => fn_bad T.F__law_same sc__law_same rfl
  | n + 1 => fn_body (k := 2 + n) T.F__law_same sc__law_same rfl rfl fun cdv A outer s H E hr => by
    have F_self := ok__law_same T n
    exact ((s_cons (s_if (PW.pt (z_or (z_tru (b_e (o_isi .tuple (by decide +kernel) T.n_isinstance T.n_tuple (v_bor 1)))) (z_or1 (z_tru (b_e (o_isi .tuple (by decide +kernel) T.n_isinstance T.n_tuple (v_bor 0))))))) (s_cons (s_if (PW.pt (z_or (z_not (z_tru (b_e (o_isi .tuple (by decide +kernel) T.n_isinstance T.n_tuple (v_bor 0))))) (z_or (z_not (z_tru (b_e (o_isi .tuple (by decide +kernel) T.n_isinstance T.n_tuple (v_bor 1))))) (z_or1 (z_cmp (op_neAll (hu64 hr)) s_ne (b_e (c_b1 rE_ok call_lenA s_len T.n_len (v_bor 0) (by decide +kernel))) (b_e (c_b1 rE_ok call_lenA s_len T.n_len (v_bor 1) (by decide +kernel)))))))) (s_one (s_ret k_bl)) s_nil) (s_cons (s_for (passes_of rfl) rfl (i_r1F T.n_range (b_e (c_b1 rE_ok call_lenA s_len T.n_len (v_bor 1) (by decide +kernel)))) (pg_name (i := 2) sc__law_same.nd rfl (by first | exact .inl rfl | exact .inr rfl) (by first | exact .inl rfl | exact .inr rfl)) (tg_one 2) (s_one (s_if (z_not (z_tru (b_e (o_call F_self hr T.g__law_same T.F__law_same.kp (b__law_same T) rfl (takes_of rfl rfl rfl rfl) (as_cons (o_ix rE_ok ix_seq s_ix (v_bor 0) (v_bor 2)) (as_cons (o_ix rE_ok ix_seq s_ix (v_bor 1) (v_bor 2)) as_nil)))))) (s_one (s_ret k_bl)) s_nil))) (s_one (s_ret k_bl)))) s_nil) (s_cons (s_if (PW.pt (z_or (z_cmp op_isA s_is (v_bor 0) (b_e k_non)) (z_or1 (z_cmp op_isA s_is (v_bor 1) (b_e k_non))))) (s_one (s_ret (o_and (o_cmp rE_ok op_isA s_is (v_bor 0) (b_e k_non)) (o_one (o_cmp rE_ok op_isA s_is (v_bor 1) (b_e k_non)))))) s_nil) (s_cons (s_if (PW.pt (z_or (z_cmp (op_neAll (hu64 hr)) s_ne (b_e (o_isi .bool (by decide +kernel) T.n_isinstance T.n_bool (v_bor 0))) (b_e (o_isi .bool (by decide +kernel) T.n_isinstance T.n_bool (v_bor 1)))) (z_or1 (z_cmp (op_neAll (hu64 hr)) s_ne (b_e (o_isi .str (by decide +kernel) T.n_isinstance T.n_str (v_bor 0))) (b_e (o_isi .str (by decide +kernel) T.n_isinstance T.n_str (v_bor 1))))))) (s_one (s_ret k_bl)) s_nil) (s_one (s_ret (o_and (o_isiT [.int, .str] T.n_isinstance (v_bor 0) (tyn_cons .int (by decide +kernel) T.n_int (tyn_cons .str (by decide +kernel) T.n_str tyn_nil))) (o_and (o_isiT [.int, .str] T.n_isinstance (v_bor 1) (tyn_cons .int (by decide +kernel) T.n_int (tyn_cons .str (by decide +kernel) T.n_str tyn_nil))) (o_one (o_cmp rE_ok (op_eqAll (hu64 hr)) s_eq (v_bor 0) (v_bor 1)))))))))))
theorem b__law_word (T : Tx P w K mg f fd) : Binds K (fd 31) ["number", "letters"] [] := T.F__law_word.binds (ps := ["number", "letters"]) fun _ _ _ _ _ _ us hl => match us, hl with | [_, _], _ => rfl
theorem sc__law_word : FnScope ["number", "letters", "text", "rest", "k"] ["number", "letters"] (defScope st__law_word) := ⟨rfl, rfl, rfl, by decide +kernel, rfl, by decide +kernel, by decide +kernel⟩
theorem ok__law_word (T : Tx P w K mg f fd) : FnOk P w K mg base (L2.CX P w) 2 (f 31) (fd 31) ["number", "letters"] (spM K (XX K f) 2 m__law_word) :=
  fn_body (k := 1) T.F__law_word sc__law_word rfl rfl fun cdv A outer s H E hr => by
    exact ((s_cons (s_set (i := 2) sc__law_word.nd k_str) (s_cons (s_set (i := 3) sc__law_word.nd (c_t1 rE_ok call_int1 s_int T.n_int (b_e (o_bin rE_ok op_divAll s_div (v_bor 0) (b_e k_int))) (by decide +kernel))) (s_cons (s_for (passes_of rfl) rfl (i_r1F T.n_range (b_e (o_bin rE_ok op_addAll s_add (b_e k_int) (b_e (o_bin rE_ok op_mod s_mod (b_e (c_t1 rE_ok call_int1 s_int T.n_int (v_bor 0) (by decide +kernel))) (b_e (o_ix rE_ok ix_seq s_ix (b_e (e_f (o_lst (as_cons k_int (as_cons k_int (as_cons k_int as_nil)))))) (b_e (o_bin rE_ok op_mod s_mod (b_e (c_t1 rE_ok call_int1 s_int T.n_int (b_e (o_bin rE_ok op_divAll s_div (v_bor 0) (b_e k_int))) (by decide +kernel))) (b_e k_int)))))))))) (pg_name (i := 4) sc__law_word.nd rfl (by first | exact .inl rfl | exact .inr rfl) (by first | exact .inl rfl | exact .inr rfl)) (tg_one 4) (s_cons (s_set (i := 2) sc__law_word.nd (o_bin rE_ok op_addAll s_add (v_bor 2) (b_e (o_ix rE_ok ix_seq s_ix (b_e k_str) (b_e (o_bin rE_ok op_mod s_mod (b_e (c_t1 rE_ok call_int1 s_int T.n_int (v_bor 3) (by decide +kernel))) (v_bor 1))))))) (s_one (s_set (i := 3) sc__law_word.nd (o_bin rE_ok op_divAll s_div (v_bor 3) (v_bor 1)))))) (s_one (s_ret (v_val 2)))))))
theorem b__law_list (T : Tx P w K mg f fd) : Binds K (fd 32) ["numbers"] [] := T.F__law_list.binds (ps := ["numbers"]) fun _ _ _ _ _ _ us hl => match us, hl with | [_], _ => rfl
theorem sc__law_list : FnScope ["numbers", "letters", "words", "k", "word"] ["numbers"] (defScope st__law_list) := ⟨rfl, rfl, rfl, by decide +kernel, rfl, by decide +kernel, by decide +kernel⟩
theorem ok__law_list (T : Tx P w K mg f fd) : FnOk P w K mg base (L2.CX P w) 3 (f 32) (fd 32) ["numbers"] (spM K (XX K f) 1 m__law_list) :=
  fn_body (k := 2) T.F__law_list sc__law_list rfl rfl fun cdv A outer s H E hr => by
    exact ((s_cons (s_set (i := 1) sc__law_list.nd (o_ix rE_ok ix_seq s_ix (b_e (e_f (o_lst (as_cons k_int (as_cons k_int (as_cons k_int (as_cons k_int as_nil))))))) (b_e (o_bin rE_ok op_mod s_mod (b_e (c_t1 rE_ok call_int1 s_int T.n_int (b_e (o_ix rE_ok ix_seq s_ix (v_bor 0) (b_e k_int))) (by decide +kernel))) (b_e k_int))))) (s_cons (s_own (i := 2) sc__law_list.nd (o_lst as_nil)) (s_cons (s_for (passes_of rfl) rfl (i_r1F T.n_range (b_e (o_bin rE_ok op_addAll s_add (b_e k_int) (b_e (o_bin rE_ok op_mod s_mod (b_e (c_t1 rE_ok call_int1 s_int T.n_int (b_e (o_bin rE_ok op_divAll s_div (b_e (o_ix rE_ok ix_seq s_ix (v_bor 0) (b_e k_int))) (b_e k_int))) (by decide +kernel))) (b_e k_int)))))) (pg_name (i := 3) sc__law_list.nd rfl (by first | exact .inl rfl | exact .inr rfl) (by first | exact .inl rfl | exact .inr rfl)) (tg_one 3) (s_cons (s_set (i := 4) sc__law_list.nd (o_call (ok__law_word T) (hr.mono (by decide : 2 ≤ 2)) T.g__law_word T.F__law_word.kp (b__law_word T) rfl (takes_of rfl rfl rfl rfl) (as_cons (o_ix rE_ok ix_seq s_ix (v_bor 0) (b_e (o_bin rE_ok op_addAll s_add (b_e k_int) (v_bor 3)))) (as_cons (v_val 1) as_nil)))) (s_cons (s_if (PW.pt (z_and (z_cmp (op_eqAll (hu64 hr)) s_eq (b_e (o_bin rE_ok op_mod s_mod (b_e (c_t1 rE_ok call_int1 s_int T.n_int (b_e (o_bin rE_ok op_divAll s_div (b_e (o_ix rE_ok ix_seq s_ix (v_bor 0) (b_e k_int))) (b_e k_int))) (by decide +kernel))) (b_e k_int))) (b_e k_int)) (z_and1 (z_cmp (op_neAll (hu64 hr)) s_ne (v_bor 2) (b_e (e_f (o_lst as_nil))))))) (s_one (s_set (i := 4) sc__law_list.nd (o_sl (b_e (o_bin rE_ok op_addAll s_add (b_e (o_ix rE_ok ix_seq s_ix (v_bor 2) (b_e (o_bin rE_ok op_mod s_mod (b_e (c_t1 rE_ok call_int1 s_int T.n_int (b_e (o_bin rE_ok op_divAll s_div (b_e (o_ix rE_ok ix_seq s_ix (v_bor 0) (b_e (o_bin rE_ok op_addAll s_add (b_e k_int) (v_bor 3))))) (b_e k_int))) (by decide +kernel))) (b_e (c_b1 rE_ok call_lenA s_len T.n_len (v_bor 2) (by decide +kernel))))))) (v_bor 4))) b_no (b_at k_int)))) s_nil) (s_one (s_if (z_cmp (op_ninA (hu65 hr)) s_nin (v_bor 4) (v_bor 2)) (s_one (s_app (i := 2) (v_val 4))) s_nil))))) (s_one (s_ret (c_t1 rE_ok call_tuple_of s_tup T.n_tuple (v_bor 2) (by decide +kernel))))))))
theorem b__law_begins (T : Tx P w K mg f fd) : Binds K (fd 33) ["one", "other"] [] := T.F__law_begins.binds (ps := ["one", "other"]) fun _ _ _ _ _ _ us hl => match us, hl with | [_, _], _ => rfl
theorem sc__law_begins : FnScope ["one", "other"] ["one", "other"] (defScope st__law_begins) := ⟨rfl, rfl, rfl, by decide +kernel, rfl, by decide +kernel, by decide +kernel⟩
theorem ok__law_begins (T : Tx P w K mg f fd) : FnOk P w K mg base (L2.CX P w) 2 (f 33) (fd 33) ["one", "other"] (spM K (XX K f) 2 m__law_begins) :=
  fn_body (k := 1) T.F__law_begins sc__law_begins rfl rfl fun cdv A outer s H E hr => by
    exact ((s_one (s_ret (o_cmp rE_ok (op_eqAll (hu64 hr)) s_eq (b_e (o_sl (v_bor 1) b_no (b_at (c_b1 rE_ok call_lenA s_len T.n_len (v_bor 0) (by decide +kernel))))) (v_bor 0)))))
theorem b__law_holds (T : Tx P w K mg f fd) : Binds K (fd 34) ["word", "text"] [] := T.F__law_holds.binds (ps := ["word", "text"]) fun _ _ _ _ _ _ us hl => match us, hl with | [_, _], _ => rfl
theorem sc__law_holds : FnScope ["word", "text", "k"] ["word", "text"] (defScope st__law_holds) := ⟨rfl, rfl, rfl, by decide +kernel, rfl, by decide +kernel, by decide +kernel⟩
theorem ok__law_holds (T : Tx P w K mg f fd) : FnOk P w K mg base (L2.CX P w) 2 (f 34) (fd 34) ["word", "text"] (spM K (XX K f) 2 m__law_holds) :=
  fn_body (k := 1) T.F__law_holds sc__law_holds rfl rfl fun cdv A outer s H E hr => by
    exact ((s_one (s_ret (o_cmp rE_ok (op_neAll (hu64 hr)) s_ne (b_e (e_f (o_comp rfl sc__law_holds.nd (i_fc (i_r1F T.n_range (b_e (c_b1 rE_ok call_lenA s_len T.n_len (v_bor 0) (by decide +kernel))))) (blkOk_by (own := [("k", 2)]) (by kernel_rfl)) (tg_one 2) (by decide) (fun s H C cl fp => (pg_name (i := 2) sc__law_holds.nd rfl (by first | exact .inl rfl | exact .inr rfl) (by first | exact .inl rfl | exact .inr rfl))) (fun s H C cl fp => (zs_one (z_cmp (op_eqAll (hu64 hr)) s_eq (b_e (o_sl (v_bor 0) (b_at (v_val 2)) (b_at (o_bin rE_ok op_addAll s_add (v_bor 2) (b_e (c_b1 rE_ok call_lenA s_len T.n_len (v_bor 1) (by decide +kernel))))))) (v_bor 1)))) (fun s H C cl fp => (v_val 2))))) (b_e (e_f (o_lst as_nil)))))))
theorem b__law_is_short (T : Tx P w K mg f fd) : Binds K (fd 35) ["words", "k", "text"] [] := T.F__law_is_short.binds (ps := ["words", "k", "text"]) fun _ _ _ _ _ _ us hl => match us, hl with | [_, _, _], _ => rfl
theorem sc__law_is_short : FnScope ["words", "k", "text", "j"] ["words", "k", "text"] (defScope st__law_is_short) := ⟨rfl, rfl, rfl, by decide +kernel, rfl, by decide +kernel, by decide +kernel⟩
theorem ok__law_is_short (T : Tx P w K mg f fd) : FnOk P w K mg base (L2.CX P w) 3 (f 35) (fd 35) ["words", "k", "text"] (spM K (XX K f) 3 m__law_is_short) :=
  fn_body (k := 2) T.F__law_is_short sc__law_is_short rfl rfl fun cdv A outer s H E hr => by
    exact ((s_cons (s_if (PW.pt (z_or (z_cmp (op_eqAll (hu64 hr)) s_eq (v_bor 2) (b_e k_str)) (z_or1 (z_not (z_tru (b_e (o_call (ok__law_begins T) (hr.mono (by decide : 2 ≤ 2)) T.g__law_begins T.F__law_begins.kp (b__law_begins T) rfl (takes_of rfl rfl rfl rfl) (as_cons (v_val 2) (as_cons (o_ix rE_ok ix_seq s_ix (v_bor 0) (v_bor 1)) as_nil))))))))) (s_one (s_ret k_bl)) s_nil) (s_one (s_ret (o_cmp rE_ok (op_eqAll (hu64 hr)) s_eq (b_e (e_f (o_comp rfl sc__law_is_short.nd (i_fc (i_r1F T.n_range (b_e (c_b1 rE_ok call_lenA s_len T.n_len (v_bor 0) (by decide +kernel))))) (blkOk_by (own := [("j", 3)]) (by kernel_rfl)) (tg_one 3) (by decide) (fun s H C cl fp => (pg_name (i := 3) sc__law_is_short.nd rfl (by first | exact .inl rfl | exact .inr rfl) (by first | exact .inl rfl | exact .inr rfl))) (fun s H C cl fp => (zs_one (PW.pt (z_and (z_cmp (op_neAll (hu64 hr)) s_ne (v_bor 3) (v_bor 1)) (z_and1 (z_tru (b_e (o_call (ok__law_begins T) (hr.mono (by decide : 2 ≤ 2)) T.g__law_begins T.F__law_begins.kp (b__law_begins T) rfl takes0 (as_cons (v_val 2) (as_cons (o_ix rE_ok ix_seq s_ix (v_bor 0) (v_bor 3)) as_nil)))))))))) (fun s H C cl fp => (v_val 3))))) (b_e (e_f (o_lst as_nil))))))))
theorem b__law_is_mark (T : Tx P w K mg f fd) : Binds K (fd 36) ["words", "k", "text"] [] := T.F__law_is_mark.binds (ps := ["words", "k", "text"]) fun _ _ _ _ _ _ us hl => match us, hl with | [_, _, _], _ => rfl
theorem sc__law_is_mark : FnScope ["words", "k", "text", "j"] ["words", "k", "text"] (defScope st__law_is_mark) := ⟨rfl, rfl, rfl, by decide +kernel, rfl, by decide +kernel, by decide +kernel⟩
theorem ok__law_is_mark (T : Tx P w K mg f fd) : FnOk P w K mg base (L2.CX P w) 3 (f 36) (fd 36) ["words", "k", "text"] (spM K (XX K f) 3 m__law_is_mark) :=
  fn_body (k := 2) T.F__law_is_mark sc__law_is_mark rfl rfl fun cdv A outer s H E hr => by
    exact ((s_cons (s_if (PW.pt (z_or (z_cmp (op_eqAll (hu64 hr)) s_eq (v_bor 2) (b_e k_str)) (z_or1 (z_not (z_tru (b_e (o_call (ok__law_holds T) (hr.mono (by decide : 2 ≤ 2)) T.g__law_holds T.F__law_holds.kp (b__law_holds T) rfl (takes_of rfl rfl rfl rfl) (as_cons (o_ix rE_ok ix_seq s_ix (v_bor 0) (v_bor 1)) (as_cons (v_val 2) as_nil))))))))) (s_one (s_ret k_bl)) s_nil) (s_one (s_ret (o_cmp rE_ok (op_eqAll (hu64 hr)) s_eq (b_e (e_f (o_comp rfl sc__law_is_mark.nd (i_fc (i_r1F T.n_range (b_e (c_b1 rE_ok call_lenA s_len T.n_len (v_bor 0) (by decide +kernel))))) (blkOk_by (own := [("j", 3)]) (by kernel_rfl)) (tg_one 3) (by decide) (fun s H C cl fp => (pg_name (i := 3) sc__law_is_mark.nd rfl (by first | exact .inl rfl | exact .inr rfl) (by first | exact .inl rfl | exact .inr rfl))) (fun s H C cl fp => (zs_one (PW.pt (z_and (z_cmp (op_neAll (hu64 hr)) s_ne (v_bor 3) (v_bor 1)) (z_and1 (z_tru (b_e (o_call (ok__law_holds T) (hr.mono (by decide : 2 ≤ 2)) T.g__law_holds T.F__law_holds.kp (b__law_holds T) rfl takes0 (as_cons (o_ix rE_ok ix_seq s_ix (v_bor 0) (v_bor 3)) (as_cons (v_val 2) as_nil)))))))))) (fun s H C cl fp => (v_val 3))))) (b_e (e_f (o_lst as_nil))))))))
theorem b__law_parts (T : Tx P w K mg f fd) : Binds K (fd 37) ["word"] [] := T.F__law_parts.binds (ps := ["word"]) fun _ _ _ _ _ _ us hl => match us, hl with | [_], _ => rfl
theorem sc__law_parts : FnScope ["word", "found", "size", "k"] ["word"] (defScope st__law_parts) := ⟨rfl, rfl, rfl, by decide +kernel, rfl, by decide +kernel, by decide +kernel⟩
theorem ok__law_parts (T : Tx P w K mg f fd) : FnOk P w K mg base (L2.CX P w) 2 (f 37) (fd 37) ["word"] (spM K (XX K f) 1 m__law_parts) :=
  fn_body (k := 1) T.F__law_parts sc__law_parts rfl rfl fun cdv A outer s H E hr => by
    exact ((s_cons (s_set (i := 1) sc__law_parts.nd (e_f (o_lst as_nil))) (s_cons (s_for (passes_of rfl) rfl (i_r2F T.n_range (b_e k_int) (b_e (o_bin rE_ok op_addAll s_add (b_e (c_b1 rE_ok call_lenA s_len T.n_len (v_bor 0) (by decide +kernel))) (b_e k_int)))) (pg_name (i := 2) sc__law_parts.nd rfl (by first | exact .inl rfl | exact .inr rfl) (by first | exact .inl rfl | exact .inr rfl)) (tg_one 2) (s_one (s_set (i := 1) sc__law_parts.nd (o_bin rE_ok op_addAll s_add (v_bor 1) (b_e (e_f (c_b1 rF_ok (cr_srtD (hu80 hr)) s_sorted T.n_sorted (b_e (e_f (o_comp rfl sc__law_parts.nd (i_fc (i_r1F T.n_range (b_e (o_bin rE_ok op_addAll s_add (b_e (o_bin rE_ok op_sub s_sub (b_e (c_b1 rE_ok call_lenA s_len T.n_len (v_bor 0) (by decide +kernel))) (v_bor 2))) (b_e k_int))))) (blkOk_by (own := [("k", 3)]) (by kernel_rfl)) (tg_one 3) (by decide) (fun s H C cl fp => (pg_name (i := 3) sc__law_parts.nd rfl (by first | exact .inl rfl | exact .inr rfl) (by first | exact .inl rfl | exact .inr rfl))) (fun s H C cl fp => zs_nil) (fun s H C cl fp => (o_sl (v_bor 0) (b_at (v_val 3)) (b_at (o_bin rE_ok op_addAll s_add (v_bor 3) (v_bor 2)))))))) (by decide +kernel)))))))) (s_one (s_ret (v_val 1))))))
theorem b__law_word_of (T : Tx P w K mg f fd) : Binds K (fd 38) ["words", "k", "numbers"] [] := T.F__law_word_of.binds (ps := ["words", "k", "numbers"]) fun _ _ _ _ _ _ us hl => match us, hl with | [_, _, _], _ => rfl
theorem sc__law_word_of : FnScope ["words", "k", "numbers", "shorts", "covers", "found", "holders", "drawn", "text", "n", "j", "part", "number"] ["words", "k", "numbers"] (defScope st__law_word_of) := ⟨rfl, rfl, rfl, by decide +kernel, rfl, by decide +kernel, by decide +kernel⟩
theorem ok__law_word_of (T : Tx P w K mg f fd) : FnOk P w K mg base (L2.CX P w) 10 (f 38) (fd 38) ["words", "k", "numbers"] (spM K (XX K f) 3 m__law_word_of) :=
  fn_body (k := 9) T.F__law_word_of sc__law_word_of rfl rfl fun cdv A outer s H E hr => by
    exact ((s_cons (s_setLc (i := 3) rfl sc__law_word_of.nd rfl rfl (i_fc (i_r2F T.n_range (b_e k_int) (b_e (o_bin rE_ok op_addAll s_add (b_e (c_b1 rE_ok call_lenA s_len T.n_len (b_e (o_ix rE_ok ix_seq s_ix (v_bor 0) (v_bor 1))) (by decide +kernel))) (b_e k_int))))) (blkOk_by (own := [("n", 9)]) (by kernel_rfl)) (tg_one 9) (by decide) (fun s H C cl fp => (pg_name (i := 9) sc__law_word_of.nd rfl (by first | exact .inl rfl | exact .inr rfl) (by first | exact .inl rfl | exact .inr rfl))) (fun s H C cl fp => (zs_one (z_tru (b_e (o_call (ok__law_is_short T) (hr.mono (by decide : 3 ≤ 9)) T.g__law_is_short T.F__law_is_short.kp (b__law_is_short T) rfl takes0 (as_cons (v_val 0) (as_cons (v_val 1) (as_cons (o_sl (b_e (o_ix rE_ok ix_seq s_ix (v_bor 0) (v_bor 1))) b_no (b_at (v_val 9))) as_nil)))))))) (fun s H C cl fp => (o_sl (b_e (o_ix rE_ok ix_seq s_ix (v_bor 0) (v_bor 1))) b_no (b_at (v_val 9)))) u_set) (s_cons (s_setLc (i := 4) rfl sc__law_word_of.nd rfl rfl (i_fc (i_r1F T.n_range (b_e (c_b1 rE_ok call_lenA s_len T.n_len (v_bor 0) (by decide +kernel))))) (blkOk_by (own := [("j", 10)]) (by kernel_rfl)) (tg_one 10) (by decide) (fun s H C cl fp => (pg_name (i := 10) sc__law_word_of.nd rfl (by first | exact .inl rfl | exact .inr rfl) (by first | exact .inl rfl | exact .inr rfl))) (fun s H C cl fp => (zs_one (PW.pt (z_and (z_cmp (op_neAll (hu64 hr)) s_ne (v_bor 10) (v_bor 1)) (z_and1 (z_tru (b_e (o_call (ok__law_begins T) (hr.mono (by decide : 2 ≤ 9)) T.g__law_begins T.F__law_begins.kp (b__law_begins T) rfl takes0 (as_cons (o_ix rE_ok ix_seq s_ix (v_bor 0) (v_bor 1)) (as_cons (o_ix rE_ok ix_seq s_ix (v_bor 0) (v_bor 10)) as_nil)))))))))) (fun s H C cl fp => (v_val 10)) u_set) (s_cons (s_setLc (i := 5) rfl sc__law_word_of.nd rfl rfl (i_sqC (b_e (o_call (ok__law_parts T) (hr.mono (by decide : 2 ≤ 9)) T.g__law_parts T.F__law_parts.kp (b__law_parts T) rfl (takes_of rfl rfl rfl rfl) (as_cons (o_ix rE_ok ix_seq s_ix (v_bor 0) (v_bor 1)) as_nil)))) (blkOk_by (own := [("part", 11)]) (by kernel_rfl)) (tg_one 11) (by decide) (fun s H C cl fp => (pg_name (i := 11) sc__law_word_of.nd rfl (by first | exact .inl rfl | exact .inr rfl) (by first | exact .inl rfl | exact .inr rfl))) (fun s H C cl fp => (zs_one (z_tru (b_e (o_call (ok__law_is_mark T) (hr.mono (by decide : 3 ≤ 9)) T.g__law_is_mark T.F__law_is_mark.kp (b__law_is_mark T) rfl takes0 (as_cons (v_val 0) (as_cons (v_val 1) (as_cons (v_val 11) as_nil)))))))) (fun s H C cl fp => (v_val 11)) u_set) (s_cons (s_setLc (i := 6) rfl sc__law_word_of.nd rfl rfl (i_fc (i_r1F T.n_range (b_e (c_b1 rE_ok call_lenA s_len T.n_len (v_bor 0) (by decide +kernel))))) (blkOk_by (own := [("j", 10)]) (by kernel_rfl)) (tg_one 10) (by decide) (fun s H C cl fp => (pg_name (i := 10) sc__law_word_of.nd rfl (by first | exact .inl rfl | exact .inr rfl) (by first | exact .inl rfl | exact .inr rfl))) (fun s H C cl fp => (zs_one (PW.pt (z_and (z_cmp (op_neAll (hu64 hr)) s_ne (v_bor 10) (v_bor 1)) (z_and1 (z_tru (b_e (o_call (ok__law_holds T) (hr.mono (by decide : 2 ≤ 9)) T.g__law_holds T.F__law_holds.kp (b__law_holds T) rfl takes0 (as_cons (o_ix rE_ok ix_seq s_ix (v_bor 0) (v_bor 10)) (as_cons (o_ix rE_ok ix_seq s_ix (v_bor 0) (v_bor 1)) as_nil)))))))))) (fun s H C cl fp => (v_val 10)) u_set) (s_cons (s_if (PW.pt (z_or (z_cmp (op_neAll (hu64 hr)) s_ne (b_e (o_call (ok_short_form T) (hr.mono (by decide : 9 ≤ 9)) T.g_short_form T.F_short_form.kp (b_short_form T) rfl (takes_of rfl rfl rfl rfl) (as_cons (v_val 0) (as_cons (v_val 1) as_nil)))) (b_e (o_ix rE_ok ix_seq s_ix (b_e (o_bin rE_ok op_addAll s_add (v_bor 3) (b_e (e_f (o_lst (as_cons k_non as_nil)))))) (b_e k_int)))) (z_or (z_not (z_tru (b_e (o_call (ok__law_same T 6) (hr.mono (by decide : 2 + 6 ≤ 9)) T.g__law_same T.F__law_same.kp (b__law_same T) rfl (takes_of rfl rfl rfl rfl) (as_cons (o_call (ok_cover_of T) (hr.mono (by decide : 9 ≤ 9)) T.g_cover_of T.F_cover_of.kp (b_cover_of T) rfl (takes_of rfl rfl rfl rfl) (as_cons (v_val 0) (as_cons (v_val 1) as_nil))) (as_cons (o_ix rE_ok ix_seq s_ix (b_e (o_bin rE_ok op_addAll s_add (v_bor 4) (b_e (e_f (o_lst (as_cons k_non as_nil)))))) (b_e k_int)) as_nil)))))) (z_or1 (z_cmp (op_neAll (hu64 hr)) s_ne (b_e (o_cmp rE_ok (op_eqAll (hu64 hr)) s_eq (v_bor 3) (b_e (e_f (o_lst as_nil))))) (b_e (o_cmp rE_ok (op_neAll (hu64 hr)) s_ne (v_bor 4) (b_e (e_f (o_lst as_nil)))))))))) (s_one (s_ret k_bl)) s_nil) (s_cons (s_if (PW.pt (z_or (z_cmp (op_neAll (hu64 hr)) s_ne (b_e (o_call (ok_mark_of T) (hr.mono (by decide : 9 ≤ 9)) T.g_mark_of T.F_mark_of.kp (b_mark_of T) rfl (takes_of rfl rfl rfl rfl) (as_cons (v_val 0) (as_cons (v_val 1) as_nil)))) (b_e (o_ix rE_ok ix_seq s_ix (b_e (o_bin rE_ok op_addAll s_add (v_bor 5) (b_e (e_f (o_lst (as_cons k_non as_nil)))))) (b_e k_int)))) (z_or (z_not (z_tru (b_e (o_call (ok__law_same T 6) (hr.mono (by decide : 2 + 6 ≤ 9)) T.g__law_same T.F__law_same.kp (b__law_same T) rfl (takes_of rfl rfl rfl rfl) (as_cons (o_call (ok_holder_of T) (hr.mono (by decide : 9 ≤ 9)) T.g_holder_of T.F_holder_of.kp (b_holder_of T) rfl (takes_of rfl rfl rfl rfl) (as_cons (e_f (c_t1 rF_ok call_list_of s_lst T.n_list (v_bor 0) (by decide +kernel))) (as_cons (v_val 1) as_nil))) (as_cons (o_ix rE_ok ix_seq s_ix (b_e (o_bin rE_ok op_addAll s_add (v_bor 6) (b_e (e_f (o_lst (as_cons k_non as_nil)))))) (b_e k_int)) as_nil)))))) (z_or1 (z_cmp (op_neAll (hu64 hr)) s_ne (b_e (o_cmp rE_ok (op_eqAll (hu64 hr)) s_eq (v_bor 5) (b_e (e_f (o_lst as_nil))))) (b_e (o_cmp rE_ok (op_neAll (hu64 hr)) s_ne (v_bor 6) (b_e (e_f (o_lst as_nil)))))))))) (s_one (s_ret k_bl)) s_nil) (s_cons (s_setLc (i := 7) rfl sc__law_word_of.nd rfl rfl (i_sqC (v_bor 2)) (blkOk_by (own := [("number", 12)]) (by kernel_rfl)) (tg_one 12) (by decide) (fun s H C cl fp => (pg_name (i := 12) sc__law_word_of.nd rfl (by first | exact .inl rfl | exact .inr rfl) (by first | exact .inl rfl | exact .inr rfl))) (fun s H C cl fp => zs_nil) (fun s H C cl fp => (o_call (ok__law_word T) (hr.mono (by decide : 2 ≤ 9)) T.g__law_word T.F__law_word.kp (b__law_word T) rfl takes0 (as_cons (v_val 12) (as_cons k_int as_nil)))) u_set) (s_cons (s_for (passes_of rfl) rfl (i_sqF (o_bin rE_ok op_addAll s_add (b_e (o_bin rE_ok op_addAll s_add (b_e (o_call (ok__law_parts T) (hr.mono (by decide : 2 ≤ 9)) T.g__law_parts T.F__law_parts.kp (b__law_parts T) rfl (takes_of rfl rfl rfl rfl) (as_cons (o_ix rE_ok ix_seq s_ix (v_bor 0) (v_bor 1)) as_nil))) (v_bor 7))) (b_e (e_f (o_lst (as_cons k_str (as_cons (o_bin rE_ok op_addAll s_add (b_e (o_ix rE_ok ix_seq s_ix (v_bor 0) (v_bor 1))) (b_e k_str)) as_nil))))))) (pg_name (i := 8) sc__law_word_of.nd rfl (by first | exact .inl rfl | exact .inr rfl) (by first | exact .inl rfl | exact .inr rfl)) (tg_one 8) (s_one (s_if (PW.pt (z_or (z_not (z_tru (b_e (o_call (ok__law_same T 6) (hr.mono (by decide : 2 + 6 ≤ 9)) T.g__law_same T.F__law_same.kp (b__law_same T) rfl (takes_of rfl rfl rfl rfl) (as_cons (o_call (ok_is_short T) (hr.mono (by decide : 9 ≤ 9)) T.g_is_short T.F_is_short.kp (b_is_short T) rfl (takes_of rfl rfl rfl rfl) (as_cons (v_val 0) (as_cons (v_val 1) (as_cons (v_val 8) as_nil)))) (as_cons (o_call (ok__law_is_short T) (hr.mono (by decide : 3 ≤ 9)) T.g__law_is_short T.F__law_is_short.kp (b__law_is_short T) rfl (takes_of rfl rfl rfl rfl) (as_cons (v_val 0) (as_cons (v_val 1) (as_cons (v_val 8) as_nil)))) as_nil)))))) (z_or1 (z_not (z_tru (b_e (o_call (ok__law_same T 6) (hr.mono (by decide : 2 + 6 ≤ 9)) T.g__law_same T.F__law_same.kp (b__law_same T) rfl (takes_of rfl rfl rfl rfl) (as_cons (o_call (ok_is_mark T) (hr.mono (by decide : 9 ≤ 9)) T.g_is_mark T.F_is_mark.kp (b_is_mark T) rfl (takes_of rfl rfl rfl rfl) (as_cons (v_val 0) (as_cons (v_val 1) (as_cons (v_val 8) as_nil)))) (as_cons (o_call (ok__law_is_mark T) (hr.mono (by decide : 3 ≤ 9)) T.g__law_is_mark T.F__law_is_mark.kp (b__law_is_mark T) rfl (takes_of rfl rfl rfl rfl) (as_cons (v_val 0) (as_cons (v_val 1) (as_cons (v_val 8) as_nil)))) as_nil))))))))) (s_one (s_ret k_bl)) s_nil))) (s_one (s_ret (o_and (o_cmp rE_ok op_isA s_is (b_e (o_call (ok_is_short T) (hr.mono (by decide : 9 ≤ 9)) T.g_is_short T.F_is_short.kp (b_is_short T) rfl (takes_of rfl rfl rfl rfl) (as_cons (v_val 0) (as_cons (v_val 1) (as_cons k_non as_nil))))) (b_e k_bl)) (o_one (o_cmp rE_ok op_isA s_is (b_e (o_call (ok_is_mark T) (hr.mono (by decide : 9 ≤ 9)) T.g_is_mark T.F_is_mark.kp (b_is_mark T) rfl (takes_of rfl rfl rfl rfl) (as_cons (v_val 0) (as_cons (v_val 1) (as_cons k_int as_nil))))) (b_e k_bl)))))))))))))))
theorem b_law (T : Tx P w K mg f fd) : Binds K (fd 39) ["script"] [] := T.F_law.binds (ps := ["script"]) fun _ _ _ _ _ _ us hl => match us, hl with | [_], _ => rfl
theorem sc_law : FnScope ["script", "words", "numbers", "k", "shorts", "e"] ["script"] (defScope st_law) := ⟨rfl, rfl, rfl, by decide +kernel, rfl, by decide +kernel, by decide +kernel⟩
theorem ok_law (T : Tx P w K mg f fd) : FnOk P w K mg base (L2.CX P w) 11 (f 39) (fd 39) ["script"] (spM K (XX K f) 1 m_law) :=
  fn_body (k := 10) T.F_law sc_law rfl rfl fun cdv A outer s H E hr => by
    exact ((s_cons (s_set (i := 1) sc_law.nd (o_call (ok__law_list T) (hr.mono (by decide : 3 ≤ 10)) T.g__law_list T.F__law_list.kp (b__law_list T) rfl (takes_of rfl rfl rfl rfl) (as_cons (o_call (ok__law_numbers T) (hr.mono (by decide : 4 ≤ 10)) T.g__law_numbers T.F__law_numbers.kp (b__law_numbers T) rfl (takes_of rfl rfl rfl rfl) (as_cons (v_val 0) (as_cons k_int (as_cons k_int as_nil)))) as_nil))) (s_cons (s_set (i := 2) sc_law.nd (o_call (ok__law_numbers T) (hr.mono (by decide : 4 ≤ 10)) T.g__law_numbers T.F__law_numbers.kp (b__law_numbers T) rfl (takes_of rfl rfl rfl rfl) (as_cons (v_val 0) (as_cons k_int (as_cons k_int as_nil))))) (s_cons (s_for (passes_of rfl) rfl (i_r1F T.n_range (b_e (c_b1 rE_ok call_lenA s_len T.n_len (v_bor 1) (by decide +kernel)))) (pg_name (i := 3) sc_law.nd rfl (by first | exact .inl rfl | exact .inr rfl) (by first | exact .inl rfl | exact .inr rfl)) (tg_one 3) (s_one (s_if (z_not (z_tru (b_e (o_call (ok__law_word_of T) (hr.mono (by decide : 10 ≤ 10)) T.g__law_word_of T.F__law_word_of.kp (b__law_word_of T) rfl (takes_of rfl rfl rfl rfl) (as_cons (v_val 1) (as_cons (v_val 3) (as_cons (v_val 2) as_nil))))))) (s_one (s_ret k_bl)) s_nil))) (s_cons (s_set (i := 4) sc_law.nd (c_t1 rE_ok call_tuple_of s_tup T.n_tuple (b_e (e_f (o_comp rfl sc_law.nd (i_fc (i_r1F T.n_range (b_e (c_b1 rE_ok call_lenA s_len T.n_len (v_bor 1) (by decide +kernel))))) (blkOk_by (own := [("k", 3)]) (by kernel_rfl)) (tg_one 3) (by decide) (fun s H C cl fp => (pg_name (i := 3) sc_law.nd rfl (by first | exact .inl rfl | exact .inr rfl) (by first | exact .inl rfl | exact .inr rfl))) (fun s H C cl fp => zs_nil) (fun s H C cl fp => (o_call (ok_short_form T) (hr.mono (by decide : 9 ≤ 10)) T.g_short_form T.F_short_form.kp (b_short_form T) rfl takes0 (as_cons (v_val 1) (as_cons (v_val 3) as_nil))))))) (by decide +kernel))) (s_cons (s_if (PW.pt (z_or (z_not (z_tru (b_e (o_call (ok__law_same T 6) (hr.mono (by decide : 2 + 6 ≤ 10)) T.g__law_same T.F__law_same.kp (b__law_same T) rfl (takes_of rfl rfl rfl rfl) (as_cons (o_call (ok_short_forms T) (hr.mono (by decide : 8 ≤ 10)) T.g_short_forms T.F_short_forms.kp (b_short_forms T) rfl (takes_of rfl rfl rfl rfl) (as_cons (e_f (c_t1 rF_ok call_list_of s_lst T.n_list (v_bor 1) (by decide +kernel))) as_nil)) (as_cons (v_val 4) as_nil)))))) (z_or1 (z_not (z_tru (b_e (o_call (ok__law_same T 6) (hr.mono (by decide : 2 + 6 ≤ 10)) T.g__law_same T.F__law_same.kp (b__law_same T) rfl (takes_of rfl rfl rfl rfl) (as_cons (o_call (ok_marks T) (hr.mono (by decide : 8 ≤ 10)) T.g_marks T.F_marks.kp (b_marks T) rfl (takes_of rfl rfl rfl rfl) (as_cons (v_val 1) as_nil)) (as_cons (c_t1 rE_ok call_tuple_of s_tup T.n_tuple (b_e (e_f (o_comp rfl sc_law.nd (i_fc (i_r1F T.n_range (b_e (c_b1 rE_ok call_lenA s_len T.n_len (v_bor 1) (by decide +kernel))))) (blkOk_by (own := [("k", 3)]) (by kernel_rfl)) (tg_one 3) (by decide) (fun s H C cl fp => (pg_name (i := 3) sc_law.nd rfl (by first | exact .inl rfl | exact .inr rfl) (by first | exact .inl rfl | exact .inr rfl))) (fun s H C cl fp => zs_nil) (fun s H C cl fp => (o_call (ok_mark_of T) (hr.mono (by decide : 9 ≤ 10)) T.g_mark_of T.F_mark_of.kp (b_mark_of T) rfl takes0 (as_cons (v_val 1) (as_cons (v_val 3) as_nil))))))) (by decide +kernel)) as_nil))))))))) (s_one (s_ret k_bl)) s_nil) (s_cons (s_if (PW.pt (z_and (z_cmp (op_ninA (hu65 hr)) s_nin (b_e k_non) (v_bor 4)) (z_and1 (z_cmp op_notA s_isnot (b_e (o_call (ok_begun T) (hr.mono (by decide : 8 ≤ 10)) T.g_begun T.F_begun.kp (b_begun T) rfl (takes_of rfl rfl rfl rfl) (as_cons (v_val 4) as_nil))) (b_e k_non))))) (s_one (s_ret k_bl)) s_nil) (s_cons (s_tryAt (i := 5) T.bv (takes_of rfl rfl rfl rfl) sc_law.nd (fun W pn xe tk hp => (s_one (s_drop (o_call (ok_short_form T) (hr.mono (by decide : 9 ≤ 10)) T.g_short_form T.F_short_form.kp (b_short_form T) rfl tk (as_cons (v_val 1) (as_cons (c_b1 rE_ok call_lenA s_len T.n_len (v_bor 1) (by decide +kernel)) as_nil))))))) (s_one (s_ret k_bl))))))))))
def addrs (l : List Addr) : Nat → Addr := fun i => l.getD i 0
def fds (x : FuncData) (l : List FuncData) : Nat → FuncData := fun i => l.getD i x
theorem tx_mk {w : World} {K : PySem.W.Frag} {mg : Str → Option Value} {h : Heap} {a0 : Addr} {oc0 kV0 dc0 pm0 cd0 ct0 : Value} {od0 an0 : Option Addr} {sl0 : Array (Option Value)} {a1 : Addr} {oc1 kV1 dc1 pm1 cd1 ct1 : Value} {od1 an1 : Option Addr} {sl1 : Array (Option Value)} {a2 : Addr} {oc2 kV2 dc2 pm2 cd2 ct2 : Value} {od2 an2 : Option Addr} {sl2 : Array (Option Value)} {a3 : Addr} {oc3 kV3 dc3 pm3 cd3 ct3 : Value} {od3 an3 : Option Addr} {sl3 : Array (Option Value)} {a4 : Addr} {oc4 kV4 dc4 pm4 cd4 ct4 : Value} {od4 an4 : Option Addr} {sl4 : Array (Option Value)} {a5 : Addr} {oc5 kV5 dc5 pm5 cd5 ct5 : Value} {od5 an5 : Option Addr} {sl5 : Array (Option Value)} {a6 : Addr} {oc6 kV6 dc6 pm6 cd6 ct6 : Value} {od6 an6 : Option Addr} {sl6 : Array (Option Value)} {a7 : Addr} {oc7 kV7 dc7 pm7 cd7 ct7 : Value} {od7 an7 : Option Addr} {sl7 : Array (Option Value)} {a8 : Addr} {oc8 kV8 dc8 pm8 cd8 ct8 : Value} {od8 an8 : Option Addr} {sl8 : Array (Option Value)} {a9 : Addr} {oc9 kV9 dc9 pm9 cd9 ct9 : Value} {od9 an9 : Option Addr} {sl9 : Array (Option Value)} {a10 : Addr} {oc10 kV10 dc10 pm10 cd10 ct10 : Value} {od10 an10 : Option Addr} {sl10 : Array (Option Value)} {a11 : Addr} {oc11 kV11 dc11 pm11 cd11 ct11 : Value} {od11 an11 : Option Addr} {sl11 : Array (Option Value)} {a12 : Addr} {oc12 kV12 dc12 pm12 cd12 ct12 : Value} {od12 an12 : Option Addr} {sl12 : Array (Option Value)} {a13 : Addr} {oc13 kV13 dc13 pm13 cd13 ct13 : Value} {od13 an13 : Option Addr} {sl13 : Array (Option Value)} {a14 : Addr} {oc14 kV14 dc14 pm14 cd14 ct14 : Value} {od14 an14 : Option Addr} {sl14 : Array (Option Value)} {a15 : Addr} {oc15 kV15 dc15 pm15 cd15 ct15 : Value} {od15 an15 : Option Addr} {sl15 : Array (Option Value)} {a16 : Addr} {oc16 kV16 dc16 pm16 cd16 ct16 : Value} {od16 an16 : Option Addr} {sl16 : Array (Option Value)} {a17 : Addr} {oc17 kV17 dc17 pm17 cd17 ct17 : Value} {od17 an17 : Option Addr} {sl17 : Array (Option Value)} {a18 : Addr} {oc18 kV18 dc18 pm18 cd18 ct18 : Value} {od18 an18 : Option Addr} {sl18 : Array (Option Value)} {a19 : Addr} {oc19 kV19 dc19 pm19 cd19 ct19 : Value} {od19 an19 : Option Addr} {sl19 : Array (Option Value)} {a20 : Addr} {oc20 kV20 dc20 pm20 cd20 ct20 : Value} {od20 an20 : Option Addr} {sl20 : Array (Option Value)} {a21 : Addr} {oc21 kV21 dc21 pm21 cd21 ct21 : Value} {od21 an21 : Option Addr} {sl21 : Array (Option Value)} {a22 : Addr} {oc22 kV22 dc22 pm22 cd22 ct22 : Value} {od22 an22 : Option Addr} {sl22 : Array (Option Value)} {a23 : Addr} {oc23 kV23 dc23 pm23 cd23 ct23 : Value} {od23 an23 : Option Addr} {sl23 : Array (Option Value)} {a24 : Addr} {oc24 kV24 dc24 pm24 cd24 ct24 : Value} {od24 an24 : Option Addr} {sl24 : Array (Option Value)} {a25 : Addr} {oc25 kV25 dc25 pm25 cd25 ct25 : Value} {od25 an25 : Option Addr} {sl25 : Array (Option Value)} {a26 : Addr} {oc26 kV26 dc26 pm26 cd26 ct26 : Value} {od26 an26 : Option Addr} {sl26 : Array (Option Value)} {a27 : Addr} {oc27 kV27 dc27 pm27 cd27 ct27 : Value} {od27 an27 : Option Addr} {sl27 : Array (Option Value)} {a28 : Addr} {oc28 kV28 dc28 pm28 cd28 ct28 : Value} {od28 an28 : Option Addr} {sl28 : Array (Option Value)} {a29 : Addr} {oc29 kV29 dc29 pm29 cd29 ct29 : Value} {od29 an29 : Option Addr} {sl29 : Array (Option Value)} {a30 : Addr} {oc30 kV30 dc30 pm30 cd30 ct30 : Value} {od30 an30 : Option Addr} {sl30 : Array (Option Value)} {a31 : Addr} {oc31 kV31 dc31 pm31 cd31 ct31 : Value} {od31 an31 : Option Addr} {sl31 : Array (Option Value)} {a32 : Addr} {oc32 kV32 dc32 pm32 cd32 ct32 : Value} {od32 an32 : Option Addr} {sl32 : Array (Option Value)} {a33 : Addr} {oc33 kV33 dc33 pm33 cd33 ct33 : Value} {od33 an33 : Option Addr} {sl33 : Array (Option Value)} {a34 : Addr} {oc34 kV34 dc34 pm34 cd34 ct34 : Value} {od34 an34 : Option Addr} {sl34 : Array (Option Value)} {a35 : Addr} {oc35 kV35 dc35 pm35 cd35 ct35 : Value} {od35 an35 : Option Addr} {sl35 : Array (Option Value)} {a36 : Addr} {oc36 kV36 dc36 pm36 cd36 ct36 : Value} {od36 an36 : Option Addr} {sl36 : Array (Option Value)} {a37 : Addr} {oc37 kV37 dc37 pm37 cd37 ct37 : Value} {od37 an37 : Option Addr} {sl37 : Array (Option Value)} {a38 : Addr} {oc38 kV38 dc38 pm38 cd38 ct38 : Value} {od38 an38 : Option Addr} {sl38 : Array (Option Value)} {a39 : Addr} {oc39 kV39 dc39 pm39 cd39 ct39 : Value} {od39 an39 : Option Addr} {sl39 : Array (Option Value)} {t_LETTERS : Tok} {aB aI cda cc : Addr} {ocI cclI clI dcI pmI ctI : Value} {odI cddI cldI anI : Option Addr} {slI ccsI cslI : Array (Option Value)} {vsI : Array Value} {fileI : Str} {tfI : Tok} {cdD : PySem.ClassData} (X : K.In h) (G : h.Ns mainGlobals mg) (g0 : PySem.W.nsIn K mainGlobals "is_int" = some (some (.ref a0))) (l0 : K.lookup a0 = some ⟨oc0, od0, .func (PySem.W.fnOf "is_int" "is_int" (defArgs st_is_int) (defBody st_is_int) (defScope st_is_int) .none kV0 dc0 pm0 an0 cd0 ct0), sl0⟩) (c0 : PySem.W.codeIn K cd0 "is_int" = true) (k0 : PySem.W.keepIn K (.ref a0) = true) (g1 : PySem.W.nsIn K mainGlobals "is_between" = some (some (.ref a1))) (l1 : K.lookup a1 = some ⟨oc1, od1, .func (PySem.W.fnOf "is_between" "is_between" (defArgs st_is_between) (defBody st_is_between) (defScope st_is_between) .none kV1 dc1 pm1 an1 cd1 ct1), sl1⟩) (c1 : PySem.W.codeIn K cd1 "is_between" = true) (k1 : PySem.W.keepIn K (.ref a1) = true) (g2 : PySem.W.nsIn K mainGlobals "is_row" = some (some (.ref a2))) (l2 : K.lookup a2 = some ⟨oc2, od2, .func (PySem.W.fnOf "is_row" "is_row" (defArgs st_is_row) (defBody st_is_row) (defScope st_is_row) .none kV2 dc2 pm2 an2 cd2 ct2), sl2⟩) (c2 : PySem.W.codeIn K cd2 "is_row" = true) (k2 : PySem.W.keepIn K (.ref a2) = true) (g3 : PySem.W.nsIn K mainGlobals "is_row_of" = some (some (.ref a3))) (l3 : K.lookup a3 = some ⟨oc3, od3, .func (PySem.W.fnOf "is_row_of" "is_row_of" (defArgs st_is_row_of) (defBody st_is_row_of) (defScope st_is_row_of) .none kV3 dc3 pm3 an3 cd3 ct3), sl3⟩) (c3 : PySem.W.codeIn K cd3 "is_row_of" = true) (k3 : PySem.W.keepIn K (.ref a3) = true) (g4 : PySem.W.nsIn K mainGlobals "has_only" = some (some (.ref a4))) (l4 : K.lookup a4 = some ⟨oc4, od4, .func (PySem.W.fnOf "has_only" "has_only" (defArgs st_has_only) (defBody st_has_only) (defScope st_has_only) .none kV4 dc4 pm4 an4 cd4 ct4), sl4⟩) (c4 : PySem.W.codeIn K cd4 "has_only" = true) (k4 : PySem.W.keepIn K (.ref a4) = true) (g5 : PySem.W.nsIn K mainGlobals "is_letters" = some (some (.ref a5))) (l5 : K.lookup a5 = some ⟨oc5, od5, .func (PySem.W.fnOf "is_letters" "is_letters" (defArgs st_is_letters) (defBody st_is_letters) (defScope st_is_letters) .none kV5 dc5 pm5 an5 cd5 ct5), sl5⟩) (c5 : PySem.W.codeIn K cd5 "is_letters" = true) (k5 : PySem.W.keepIn K (.ref a5) = true) (g6 : PySem.W.nsIn K mainGlobals "is_letters_of" = some (some (.ref a6))) (l6 : K.lookup a6 = some ⟨oc6, od6, .func (PySem.W.fnOf "is_letters_of" "is_letters_of" (defArgs st_is_letters_of) (defBody st_is_letters_of) (defScope st_is_letters_of) .none kV6 dc6 pm6 an6 cd6 ct6), sl6⟩) (c6 : PySem.W.codeIn K cd6 "is_letters_of" = true) (k6 : PySem.W.keepIn K (.ref a6) = true) (g7 : PySem.W.nsIn K mainGlobals "want_int" = some (some (.ref a7))) (l7 : K.lookup a7 = some ⟨oc7, od7, .func (PySem.W.fnOf "want_int" "want_int" (defArgs st_want_int) (defBody st_want_int) (defScope st_want_int) .none kV7 dc7 pm7 an7 cd7 ct7), sl7⟩) (c7 : PySem.W.codeIn K cd7 "want_int" = true) (k7 : PySem.W.keepIn K (.ref a7) = true) (g8 : PySem.W.nsIn K mainGlobals "is_word" = some (some (.ref a8))) (l8 : K.lookup a8 = some ⟨oc8, od8, .func (PySem.W.fnOf "is_word" "is_word" (defArgs st_is_word) (defBody st_is_word) (defScope st_is_word) .none kV8 dc8 pm8 an8 cd8 ct8), sl8⟩) (c8 : PySem.W.codeIn K cd8 "is_word" = true) (k8 : PySem.W.keepIn K (.ref a8) = true) (g9 : PySem.W.nsIn K mainGlobals "is_list" = some (some (.ref a9))) (l9 : K.lookup a9 = some ⟨oc9, od9, .func (PySem.W.fnOf "is_list" "is_list" (defArgs st_is_list) (defBody st_is_list) (defScope st_is_list) .none kV9 dc9 pm9 an9 cd9 ct9), sl9⟩) (c9 : PySem.W.codeIn K cd9 "is_list" = true) (k9 : PySem.W.keepIn K (.ref a9) = true) (g10 : PySem.W.nsIn K mainGlobals "want_list" = some (some (.ref a10))) (l10 : K.lookup a10 = some ⟨oc10, od10, .func (PySem.W.fnOf "want_list" "want_list" (defArgs st_want_list) (defBody st_want_list) (defScope st_want_list) .none kV10 dc10 pm10 an10 cd10 ct10), sl10⟩) (c10 : PySem.W.codeIn K cd10 "want_list" = true) (k10 : PySem.W.keepIn K (.ref a10) = true) (g11 : PySem.W.nsIn K mainGlobals "begun" = some (some (.ref a11))) (l11 : K.lookup a11 = some ⟨oc11, od11, .func (PySem.W.fnOf "begun" "begun" (defArgs st_begun) (defBody st_begun) (defScope st_begun) .none kV11 dc11 pm11 an11 cd11 ct11), sl11⟩) (c11 : PySem.W.codeIn K cd11 "begun" = true) (k11 : PySem.W.keepIn K (.ref a11) = true) (g12 : PySem.W.nsIn K mainGlobals "want_word" = some (some (.ref a12))) (l12 : K.lookup a12 = some ⟨oc12, od12, .func (PySem.W.fnOf "want_word" "want_word" (defArgs st_want_word) (defBody st_want_word) (defScope st_want_word) .none kV12 dc12 pm12 an12 cd12 ct12), sl12⟩) (c12 : PySem.W.codeIn K cd12 "want_word" = true) (k12 : PySem.W.keepIn K (.ref a12) = true) (g13 : PySem.W.nsIn K mainGlobals "other_words" = some (some (.ref a13))) (l13 : K.lookup a13 = some ⟨oc13, od13, .func (PySem.W.fnOf "other_words" "other_words" (defArgs st_other_words) (defBody st_other_words) (defScope st_other_words) .none kV13 dc13 pm13 an13 cd13 ct13), sl13⟩) (c13 : PySem.W.codeIn K cd13 "other_words" = true) (k13 : PySem.W.keepIn K (.ref a13) = true) (g14 : PySem.W.nsIn K mainGlobals "first_number" = some (some (.ref a14))) (l14 : K.lookup a14 = some ⟨oc14, od14, .func (PySem.W.fnOf "first_number" "first_number" (defArgs st_first_number) (defBody st_first_number) (defScope st_first_number) .none kV14 dc14 pm14 an14 cd14 ct14), sl14⟩) (c14 : PySem.W.codeIn K cd14 "first_number" = true) (k14 : PySem.W.keepIn K (.ref a14) = true) (g15 : PySem.W.nsIn K mainGlobals "fits_short" = some (some (.ref a15))) (l15 : K.lookup a15 = some ⟨oc15, od15, .func (PySem.W.fnOf "fits_short" "fits_short" (defArgs st_fits_short) (defBody st_fits_short) (defScope st_fits_short) .none kV15 dc15 pm15 an15 cd15 ct15), sl15⟩) (c15 : PySem.W.codeIn K cd15 "fits_short" = true) (k15 : PySem.W.keepIn K (.ref a15) = true) (g16 : PySem.W.nsIn K mainGlobals "shortest_form" = some (some (.ref a16))) (l16 : K.lookup a16 = some ⟨oc16, od16, .func (PySem.W.fnOf "shortest_form" "shortest_form" (defArgs st_shortest_form) (defBody st_shortest_form) (defScope st_shortest_form) .none kV16 dc16 pm16 an16 cd16 ct16), sl16⟩) (c16 : PySem.W.codeIn K cd16 "shortest_form" = true) (k16 : PySem.W.keepIn K (.ref a16) = true) (g17 : PySem.W.nsIn K mainGlobals "short_form" = some (some (.ref a17))) (l17 : K.lookup a17 = some ⟨oc17, od17, .func (PySem.W.fnOf "short_form" "short_form" (defArgs st_short_form) (defBody st_short_form) (defScope st_short_form) .none kV17 dc17 pm17 an17 cd17 ct17), sl17⟩) (c17 : PySem.W.codeIn K cd17 "short_form" = true) (k17 : PySem.W.keepIn K (.ref a17) = true) (g18 : PySem.W.nsIn K mainGlobals "short_forms" = some (some (.ref a18))) (l18 : K.lookup a18 = some ⟨oc18, od18, .func (PySem.W.fnOf "short_forms" "short_forms" (defArgs st_short_forms) (defBody st_short_forms) (defScope st_short_forms) .none kV18 dc18 pm18 an18 cd18 ct18), sl18⟩) (c18 : PySem.W.codeIn K cd18 "short_forms" = true) (k18 : PySem.W.keepIn K (.ref a18) = true) (g19 : PySem.W.nsIn K mainGlobals "is_short" = some (some (.ref a19))) (l19 : K.lookup a19 = some ⟨oc19, od19, .func (PySem.W.fnOf "is_short" "is_short" (defArgs st_is_short) (defBody st_is_short) (defScope st_is_short) .none kV19 dc19 pm19 an19 cd19 ct19), sl19⟩) (c19 : PySem.W.codeIn K cd19 "is_short" = true) (k19 : PySem.W.keepIn K (.ref a19) = true) (g20 : PySem.W.nsIn K mainGlobals "cover_of" = some (some (.ref a20))) (l20 : K.lookup a20 = some ⟨oc20, od20, .func (PySem.W.fnOf "cover_of" "cover_of" (defArgs st_cover_of) (defBody st_cover_of) (defScope st_cover_of) .none kV20 dc20 pm20 an20 cd20 ct20), sl20⟩) (c20 : PySem.W.codeIn K cd20 "cover_of" = true) (k20 : PySem.W.keepIn K (.ref a20) = true) (g21 : PySem.W.nsIn K mainGlobals "fits_mark" = some (some (.ref a21))) (l21 : K.lookup a21 = some ⟨oc21, od21, .func (PySem.W.fnOf "fits_mark" "fits_mark" (defArgs st_fits_mark) (defBody st_fits_mark) (defScope st_fits_mark) .none kV21 dc21 pm21 an21 cd21 ct21), sl21⟩) (c21 : PySem.W.codeIn K cd21 "fits_mark" = true) (k21 : PySem.W.keepIn K (.ref a21) = true) (g22 : PySem.W.nsIn K mainGlobals "first_mark" = some (some (.ref a22))) (l22 : K.lookup a22 = some ⟨oc22, od22, .func (PySem.W.fnOf "first_mark" "first_mark" (defArgs st_first_mark) (defBody st_first_mark) (defScope st_first_mark) .none kV22 dc22 pm22 an22 cd22 ct22), sl22⟩) (c22 : PySem.W.codeIn K cd22 "first_mark" = true) (k22 : PySem.W.keepIn K (.ref a22) = true) (g23 : PySem.W.nsIn K mainGlobals "mark_of" = some (some (.ref a23))) (l23 : K.lookup a23 = some ⟨oc23, od23, .func (PySem.W.fnOf "mark_of" "mark_of" (defArgs st_mark_of) (defBody st_mark_of) (defScope st_mark_of) .none kV23 dc23 pm23 an23 cd23 ct23), sl23⟩) (c23 : PySem.W.codeIn K cd23 "mark_of" = true) (k23 : PySem.W.keepIn K (.ref a23) = true) (g24 : PySem.W.nsIn K mainGlobals "marks" = some (some (.ref a24))) (l24 : K.lookup a24 = some ⟨oc24, od24, .func (PySem.W.fnOf "marks" "marks" (defArgs st_marks) (defBody st_marks) (defScope st_marks) .none kV24 dc24 pm24 an24 cd24 ct24), sl24⟩) (c24 : PySem.W.codeIn K cd24 "marks" = true) (k24 : PySem.W.keepIn K (.ref a24) = true) (g25 : PySem.W.nsIn K mainGlobals "holder_of" = some (some (.ref a25))) (l25 : K.lookup a25 = some ⟨oc25, od25, .func (PySem.W.fnOf "holder_of" "holder_of" (defArgs st_holder_of) (defBody st_holder_of) (defScope st_holder_of) .none kV25 dc25 pm25 an25 cd25 ct25), sl25⟩) (c25 : PySem.W.codeIn K cd25 "holder_of" = true) (k25 : PySem.W.keepIn K (.ref a25) = true) (g26 : PySem.W.nsIn K mainGlobals "is_mark" = some (some (.ref a26))) (l26 : K.lookup a26 = some ⟨oc26, od26, .func (PySem.W.fnOf "is_mark" "is_mark" (defArgs st_is_mark) (defBody st_is_mark) (defScope st_is_mark) .none kV26 dc26 pm26 an26 cd26 ct26), sl26⟩) (c26 : PySem.W.codeIn K cd26 "is_mark" = true) (k26 : PySem.W.keepIn K (.ref a26) = true) (g27 : PySem.W.nsIn K mainGlobals "_law_limit" = some (some (.ref a27))) (l27 : K.lookup a27 = some ⟨oc27, od27, .func (PySem.W.fnOf "_law_limit" "_law_limit" (defArgs st__law_limit) (defBody st__law_limit) (defScope st__law_limit) .none kV27 dc27 pm27 an27 cd27 ct27), sl27⟩) (c27 : PySem.W.codeIn K cd27 "_law_limit" = true) (k27 : PySem.W.keepIn K (.ref a27) = true) (g28 : PySem.W.nsIn K mainGlobals "_law_cell" = some (some (.ref a28))) (l28 : K.lookup a28 = some ⟨oc28, od28, .func (PySem.W.fnOf "_law_cell" "_law_cell" (defArgs st__law_cell) (defBody st__law_cell) (defScope st__law_cell) .none kV28 dc28 pm28 an28 cd28 ct28), sl28⟩) (c28 : PySem.W.codeIn K cd28 "_law_cell" = true) (k28 : PySem.W.keepIn K (.ref a28) = true) (g29 : PySem.W.nsIn K mainGlobals "_law_numbers" = some (some (.ref a29))) (l29 : K.lookup a29 = some ⟨oc29, od29, .func (PySem.W.fnOf "_law_numbers" "_law_numbers" (defArgs st__law_numbers) (defBody st__law_numbers) (defScope st__law_numbers) .none kV29 dc29 pm29 an29 cd29 ct29), sl29⟩) (c29 : PySem.W.codeIn K cd29 "_law_numbers" = true) (k29 : PySem.W.keepIn K (.ref a29) = true) (g30 : PySem.W.nsIn K mainGlobals "_law_same" = some (some (.ref a30))) (l30 : K.lookup a30 = some ⟨oc30, od30, .func (PySem.W.fnOf "_law_same" "_law_same" (defArgs st__law_same) (defBody st__law_same) (defScope st__law_same) .none kV30 dc30 pm30 an30 cd30 ct30), sl30⟩) (c30 : PySem.W.codeIn K cd30 "_law_same" = true) (k30 : PySem.W.keepIn K (.ref a30) = true) (g31 : PySem.W.nsIn K mainGlobals "_law_word" = some (some (.ref a31))) (l31 : K.lookup a31 = some ⟨oc31, od31, .func (PySem.W.fnOf "_law_word" "_law_word" (defArgs st__law_word) (defBody st__law_word) (defScope st__law_word) .none kV31 dc31 pm31 an31 cd31 ct31), sl31⟩) (c31 : PySem.W.codeIn K cd31 "_law_word" = true) (k31 : PySem.W.keepIn K (.ref a31) = true) (g32 : PySem.W.nsIn K mainGlobals "_law_list" = some (some (.ref a32))) (l32 : K.lookup a32 = some ⟨oc32, od32, .func (PySem.W.fnOf "_law_list" "_law_list" (defArgs st__law_list) (defBody st__law_list) (defScope st__law_list) .none kV32 dc32 pm32 an32 cd32 ct32), sl32⟩) (c32 : PySem.W.codeIn K cd32 "_law_list" = true) (k32 : PySem.W.keepIn K (.ref a32) = true) (g33 : PySem.W.nsIn K mainGlobals "_law_begins" = some (some (.ref a33))) (l33 : K.lookup a33 = some ⟨oc33, od33, .func (PySem.W.fnOf "_law_begins" "_law_begins" (defArgs st__law_begins) (defBody st__law_begins) (defScope st__law_begins) .none kV33 dc33 pm33 an33 cd33 ct33), sl33⟩) (c33 : PySem.W.codeIn K cd33 "_law_begins" = true) (k33 : PySem.W.keepIn K (.ref a33) = true) (g34 : PySem.W.nsIn K mainGlobals "_law_holds" = some (some (.ref a34))) (l34 : K.lookup a34 = some ⟨oc34, od34, .func (PySem.W.fnOf "_law_holds" "_law_holds" (defArgs st__law_holds) (defBody st__law_holds) (defScope st__law_holds) .none kV34 dc34 pm34 an34 cd34 ct34), sl34⟩) (c34 : PySem.W.codeIn K cd34 "_law_holds" = true) (k34 : PySem.W.keepIn K (.ref a34) = true) (g35 : PySem.W.nsIn K mainGlobals "_law_is_short" = some (some (.ref a35))) (l35 : K.lookup a35 = some ⟨oc35, od35, .func (PySem.W.fnOf "_law_is_short" "_law_is_short" (defArgs st__law_is_short) (defBody st__law_is_short) (defScope st__law_is_short) .none kV35 dc35 pm35 an35 cd35 ct35), sl35⟩) (c35 : PySem.W.codeIn K cd35 "_law_is_short" = true) (k35 : PySem.W.keepIn K (.ref a35) = true) (g36 : PySem.W.nsIn K mainGlobals "_law_is_mark" = some (some (.ref a36))) (l36 : K.lookup a36 = some ⟨oc36, od36, .func (PySem.W.fnOf "_law_is_mark" "_law_is_mark" (defArgs st__law_is_mark) (defBody st__law_is_mark) (defScope st__law_is_mark) .none kV36 dc36 pm36 an36 cd36 ct36), sl36⟩) (c36 : PySem.W.codeIn K cd36 "_law_is_mark" = true) (k36 : PySem.W.keepIn K (.ref a36) = true) (g37 : PySem.W.nsIn K mainGlobals "_law_parts" = some (some (.ref a37))) (l37 : K.lookup a37 = some ⟨oc37, od37, .func (PySem.W.fnOf "_law_parts" "_law_parts" (defArgs st__law_parts) (defBody st__law_parts) (defScope st__law_parts) .none kV37 dc37 pm37 an37 cd37 ct37), sl37⟩) (c37 : PySem.W.codeIn K cd37 "_law_parts" = true) (k37 : PySem.W.keepIn K (.ref a37) = true) (g38 : PySem.W.nsIn K mainGlobals "_law_word_of" = some (some (.ref a38))) (l38 : K.lookup a38 = some ⟨oc38, od38, .func (PySem.W.fnOf "_law_word_of" "_law_word_of" (defArgs st__law_word_of) (defBody st__law_word_of) (defScope st__law_word_of) .none kV38 dc38 pm38 an38 cd38 ct38), sl38⟩) (c38 : PySem.W.codeIn K cd38 "_law_word_of" = true) (k38 : PySem.W.keepIn K (.ref a38) = true) (g39 : PySem.W.nsIn K mainGlobals "law" = some (some (.ref a39))) (l39 : K.lookup a39 = some ⟨oc39, od39, .func (PySem.W.fnOf "law" "law" (defArgs st_law) (defBody st_law) (defScope st_law) .none kV39 dc39 pm39 an39 cd39 ct39), sl39⟩) (c39 : PySem.W.codeIn K cd39 "law" = true) (k39 : PySem.W.keepIn K (.ref a39) = true) (n_all : PySem.W.nsIn K mainGlobals "all" = some none) (n_any : PySem.W.nsIn K mainGlobals "any" = some none) (n_bool : PySem.W.nsIn K mainGlobals "bool" = some none) (n_enumerate : PySem.W.nsIn K mainGlobals "enumerate" = some none) (n_int : PySem.W.nsIn K mainGlobals "int" = some none) (n_isinstance : PySem.W.nsIn K mainGlobals "isinstance" = some none) (n_len : PySem.W.nsIn K mainGlobals "len" = some none) (n_list : PySem.W.nsIn K mainGlobals "list" = some none) (n_range : PySem.W.nsIn K mainGlobals "range" = some none) (n_sorted : PySem.W.nsIn K mainGlobals "sorted" = some none) (n_str : PySem.W.nsIn K mainGlobals "str" = some none) (n_tuple : PySem.W.nsIn K mainGlobals "tuple" = some none) (k_LETTERS : PySem.W.nsIn K mainGlobals "LETTERS" = some (some (.str "abcdefghijklmnopqrstuvwxyz" t_LETTERS))) (bC : PySem.W.nsIn K mainGlobals "BadValue" = some (some (.ref aB))) (bS : PySem.W.nsIn K mainGlobals "super" = some none) (b1 : PySem.W.excInitIn K aB Bv.excL "Exception.__new__" = true) (b2 : PySem.W.excOver K aB Bv.excL = true) (b3 : PySem.W.findIn K (.ref aB) "__setattr__" = some (some (.builtin "object.__setattr__"))) (b4 : PySem.W.takerIn K aB "at" = some none) (b5 : L2.xfB K aB = true) (b6 : PySem.W.findIn K (.ref aB) "at" = some none) (b7 : PySem.W.findIn K (.ref aB) "__init__" = some (some (.ref aI))) (b8 : PySem.W.typeIn K (.ref aI) = some (.type "function")) (b9 : PySem.W.keepIn K (.ref aB) = true) (b10 : PySem.W.typeIn K (.ref aB) = some (.type "type")) (b11 : PySem.W.exmOne K (.ref aB) (.ref aB) = some true) (b12 : PySem.W.ks_superIn K aB aB "__init__" = some (some (.builtin "Exception.__init__"))) (b13 : PySem.W.nsIn K cStatics "thirdparty.any" = some none) (b14 : PySem.W.mroIn K aB (.ref aB) = some true) (b15 : PySem.W.subIn K (.ref aB) (.type "Exception") = some true) (b16 : K.lookup aI = some ⟨ocI, odI, .func (PySem.W.ksFn "__init__" "BadValue.__init__" (defArgs st_init) (defBody st_init) (defScope st_init) .none .none dcI pmI anI (.ref cda) ctI cc), slI⟩) (b17 : PySem.W.codeIn K (.ref cda) "BadValue.__init__" = true) (b18 : K.lookup cda = some ⟨cclI, cddI, .fields vsI, ccsI⟩) (b19 : vsI[2]? = some (.str fileI tfI)) (b20 : ((PySem.Challenge.pw_readsback_k61_whole_short_or_covered.main.file : Str) == fileI) = true) (b21 : K.lookup cc = some ⟨clI, cldI, .cell (some (.ref aB)), cslI⟩) (b22 : PySem.W.clsIn K aB = some cdD) : Tx PySem.Challenge.pw_readsback_k61_whole_short_or_covered w K mg (addrs [a0, a1, a2, a3, a4, a5, a6, a7, a8, a9, a10, a11, a12, a13, a14, a15, a16, a17, a18, a19, a20, a21, a22, a23, a24, a25, a26, a27, a28, a29, a30, a31, a32, a33, a34, a35, a36, a37, a38, a39, aB, aI]) (fds (PySem.W.fnOf "law" "law" (defArgs st_law) (defBody st_law) (defScope st_law) .none kV39 dc39 pm39 an39 cd39 ct39) [PySem.W.fnOf "is_int" "is_int" (defArgs st_is_int) (defBody st_is_int) (defScope st_is_int) .none kV0 dc0 pm0 an0 cd0 ct0, PySem.W.fnOf "is_between" "is_between" (defArgs st_is_between) (defBody st_is_between) (defScope st_is_between) .none kV1 dc1 pm1 an1 cd1 ct1, PySem.W.fnOf "is_row" "is_row" (defArgs st_is_row) (defBody st_is_row) (defScope st_is_row) .none kV2 dc2 pm2 an2 cd2 ct2, PySem.W.fnOf "is_row_of" "is_row_of" (defArgs st_is_row_of) (defBody st_is_row_of) (defScope st_is_row_of) .none kV3 dc3 pm3 an3 cd3 ct3, PySem.W.fnOf "has_only" "has_only" (defArgs st_has_only) (defBody st_has_only) (defScope st_has_only) .none kV4 dc4 pm4 an4 cd4 ct4, PySem.W.fnOf "is_letters" "is_letters" (defArgs st_is_letters) (defBody st_is_letters) (defScope st_is_letters) .none kV5 dc5 pm5 an5 cd5 ct5, PySem.W.fnOf "is_letters_of" "is_letters_of" (defArgs st_is_letters_of) (defBody st_is_letters_of) (defScope st_is_letters_of) .none kV6 dc6 pm6 an6 cd6 ct6, PySem.W.fnOf "want_int" "want_int" (defArgs st_want_int) (defBody st_want_int) (defScope st_want_int) .none kV7 dc7 pm7 an7 cd7 ct7, PySem.W.fnOf "is_word" "is_word" (defArgs st_is_word) (defBody st_is_word) (defScope st_is_word) .none kV8 dc8 pm8 an8 cd8 ct8, PySem.W.fnOf "is_list" "is_list" (defArgs st_is_list) (defBody st_is_list) (defScope st_is_list) .none kV9 dc9 pm9 an9 cd9 ct9, PySem.W.fnOf "want_list" "want_list" (defArgs st_want_list) (defBody st_want_list) (defScope st_want_list) .none kV10 dc10 pm10 an10 cd10 ct10, PySem.W.fnOf "begun" "begun" (defArgs st_begun) (defBody st_begun) (defScope st_begun) .none kV11 dc11 pm11 an11 cd11 ct11, PySem.W.fnOf "want_word" "want_word" (defArgs st_want_word) (defBody st_want_word) (defScope st_want_word) .none kV12 dc12 pm12 an12 cd12 ct12, PySem.W.fnOf "other_words" "other_words" (defArgs st_other_words) (defBody st_other_words) (defScope st_other_words) .none kV13 dc13 pm13 an13 cd13 ct13, PySem.W.fnOf "first_number" "first_number" (defArgs st_first_number) (defBody st_first_number) (defScope st_first_number) .none kV14 dc14 pm14 an14 cd14 ct14, PySem.W.fnOf "fits_short" "fits_short" (defArgs st_fits_short) (defBody st_fits_short) (defScope st_fits_short) .none kV15 dc15 pm15 an15 cd15 ct15, PySem.W.fnOf "shortest_form" "shortest_form" (defArgs st_shortest_form) (defBody st_shortest_form) (defScope st_shortest_form) .none kV16 dc16 pm16 an16 cd16 ct16, PySem.W.fnOf "short_form" "short_form" (defArgs st_short_form) (defBody st_short_form) (defScope st_short_form) .none kV17 dc17 pm17 an17 cd17 ct17, PySem.W.fnOf "short_forms" "short_forms" (defArgs st_short_forms) (defBody st_short_forms) (defScope st_short_forms) .none kV18 dc18 pm18 an18 cd18 ct18, PySem.W.fnOf "is_short" "is_short" (defArgs st_is_short) (defBody st_is_short) (defScope st_is_short) .none kV19 dc19 pm19 an19 cd19 ct19, PySem.W.fnOf "cover_of" "cover_of" (defArgs st_cover_of) (defBody st_cover_of) (defScope st_cover_of) .none kV20 dc20 pm20 an20 cd20 ct20, PySem.W.fnOf "fits_mark" "fits_mark" (defArgs st_fits_mark) (defBody st_fits_mark) (defScope st_fits_mark) .none kV21 dc21 pm21 an21 cd21 ct21, PySem.W.fnOf "first_mark" "first_mark" (defArgs st_first_mark) (defBody st_first_mark) (defScope st_first_mark) .none kV22 dc22 pm22 an22 cd22 ct22, PySem.W.fnOf "mark_of" "mark_of" (defArgs st_mark_of) (defBody st_mark_of) (defScope st_mark_of) .none kV23 dc23 pm23 an23 cd23 ct23, PySem.W.fnOf "marks" "marks" (defArgs st_marks) (defBody st_marks) (defScope st_marks) .none kV24 dc24 pm24 an24 cd24 ct24, PySem.W.fnOf "holder_of" "holder_of" (defArgs st_holder_of) (defBody st_holder_of) (defScope st_holder_of) .none kV25 dc25 pm25 an25 cd25 ct25, PySem.W.fnOf "is_mark" "is_mark" (defArgs st_is_mark) (defBody st_is_mark) (defScope st_is_mark) .none kV26 dc26 pm26 an26 cd26 ct26, PySem.W.fnOf "_law_limit" "_law_limit" (defArgs st__law_limit) (defBody st__law_limit) (defScope st__law_limit) .none kV27 dc27 pm27 an27 cd27 ct27, PySem.W.fnOf "_law_cell" "_law_cell" (defArgs st__law_cell) (defBody st__law_cell) (defScope st__law_cell) .none kV28 dc28 pm28 an28 cd28 ct28, PySem.W.fnOf "_law_numbers" "_law_numbers" (defArgs st__law_numbers) (defBody st__law_numbers) (defScope st__law_numbers) .none kV29 dc29 pm29 an29 cd29 ct29, PySem.W.fnOf "_law_same" "_law_same" (defArgs st__law_same) (defBody st__law_same) (defScope st__law_same) .none kV30 dc30 pm30 an30 cd30 ct30, PySem.W.fnOf "_law_word" "_law_word" (defArgs st__law_word) (defBody st__law_word) (defScope st__law_word) .none kV31 dc31 pm31 an31 cd31 ct31, PySem.W.fnOf "_law_list" "_law_list" (defArgs st__law_list) (defBody st__law_list) (defScope st__law_list) .none kV32 dc32 pm32 an32 cd32 ct32, PySem.W.fnOf "_law_begins" "_law_begins" (defArgs st__law_begins) (defBody st__law_begins) (defScope st__law_begins) .none kV33 dc33 pm33 an33 cd33 ct33, PySem.W.fnOf "_law_holds" "_law_holds" (defArgs st__law_holds) (defBody st__law_holds) (defScope st__law_holds) .none kV34 dc34 pm34 an34 cd34 ct34, PySem.W.fnOf "_law_is_short" "_law_is_short" (defArgs st__law_is_short) (defBody st__law_is_short) (defScope st__law_is_short) .none kV35 dc35 pm35 an35 cd35 ct35, PySem.W.fnOf "_law_is_mark" "_law_is_mark" (defArgs st__law_is_mark) (defBody st__law_is_mark) (defScope st__law_is_mark) .none kV36 dc36 pm36 an36 cd36 ct36, PySem.W.fnOf "_law_parts" "_law_parts" (defArgs st__law_parts) (defBody st__law_parts) (defScope st__law_parts) .none kV37 dc37 pm37 an37 cd37 ct37, PySem.W.fnOf "_law_word_of" "_law_word_of" (defArgs st__law_word_of) (defBody st__law_word_of) (defScope st__law_word_of) .none kV38 dc38 pm38 an38 cd38 ct38, PySem.W.fnOf "law" "law" (defArgs st_law) (defBody st_law) (defScope st_law) .none kV39 dc39 pm39 an39 cd39 ct39]) :=
  { g_is_int := PySem.W.mg_of X G g0, F_is_int := fun_mk (st := st_is_int) l0 c0 k0,
    g_is_between := PySem.W.mg_of X G g1, F_is_between := fun_mk (st := st_is_between) l1 c1 k1,
    g_is_row := PySem.W.mg_of X G g2, F_is_row := fun_mk (st := st_is_row) l2 c2 k2,
    g_is_row_of := PySem.W.mg_of X G g3, F_is_row_of := fun_mk (st := st_is_row_of) l3 c3 k3,
    g_has_only := PySem.W.mg_of X G g4, F_has_only := fun_mk (st := st_has_only) l4 c4 k4,
    g_is_letters := PySem.W.mg_of X G g5, F_is_letters := fun_mk (st := st_is_letters) l5 c5 k5,
    g_is_letters_of := PySem.W.mg_of X G g6, F_is_letters_of := fun_mk (st := st_is_letters_of) l6 c6 k6,
    g_want_int := PySem.W.mg_of X G g7, F_want_int := fun_mk (st := st_want_int) l7 c7 k7,
    g_is_word := PySem.W.mg_of X G g8, F_is_word := fun_mk (st := st_is_word) l8 c8 k8,
    g_is_list := PySem.W.mg_of X G g9, F_is_list := fun_mk (st := st_is_list) l9 c9 k9,
    g_want_list := PySem.W.mg_of X G g10, F_want_list := fun_mk (st := st_want_list) l10 c10 k10,
    g_begun := PySem.W.mg_of X G g11, F_begun := fun_mk (st := st_begun) l11 c11 k11,
    g_want_word := PySem.W.mg_of X G g12, F_want_word := fun_mk (st := st_want_word) l12 c12 k12,
    g_other_words := PySem.W.mg_of X G g13, F_other_words := fun_mk (st := st_other_words) l13 c13 k13,
    g_first_number := PySem.W.mg_of X G g14, F_first_number := fun_mk (st := st_first_number) l14 c14 k14,
    g_fits_short := PySem.W.mg_of X G g15, F_fits_short := fun_mk (st := st_fits_short) l15 c15 k15,
    g_shortest_form := PySem.W.mg_of X G g16, F_shortest_form := fun_mk (st := st_shortest_form) l16 c16 k16,
    g_short_form := PySem.W.mg_of X G g17, F_short_form := fun_mk (st := st_short_form) l17 c17 k17,
    g_short_forms := PySem.W.mg_of X G g18, F_short_forms := fun_mk (st := st_short_forms) l18 c18 k18,
    g_is_short := PySem.W.mg_of X G g19, F_is_short := fun_mk (st := st_is_short) l19 c19 k19,
    g_cover_of := PySem.W.mg_of X G g20, F_cover_of := fun_mk (st := st_cover_of) l20 c20 k20,
    g_fits_mark := PySem.W.mg_of X G g21, F_fits_mark := fun_mk (st := st_fits_mark) l21 c21 k21,
    g_first_mark := PySem.W.mg_of X G g22, F_first_mark := fun_mk (st := st_first_mark) l22 c22 k22,
    g_mark_of := PySem.W.mg_of X G g23, F_mark_of := fun_mk (st := st_mark_of) l23 c23 k23,
    g_marks := PySem.W.mg_of X G g24, F_marks := fun_mk (st := st_marks) l24 c24 k24,
    g_holder_of := PySem.W.mg_of X G g25, F_holder_of := fun_mk (st := st_holder_of) l25 c25 k25,
    g_is_mark := PySem.W.mg_of X G g26, F_is_mark := fun_mk (st := st_is_mark) l26 c26 k26,
    g__law_limit := PySem.W.mg_of X G g27, F__law_limit := fun_mk (st := st__law_limit) l27 c27 k27,
    g__law_cell := PySem.W.mg_of X G g28, F__law_cell := fun_mk (st := st__law_cell) l28 c28 k28,
    g__law_numbers := PySem.W.mg_of X G g29, F__law_numbers := fun_mk (st := st__law_numbers) l29 c29 k29,
    g__law_same := PySem.W.mg_of X G g30, F__law_same := fun_mk (st := st__law_same) l30 c30 k30,
    g__law_word := PySem.W.mg_of X G g31, F__law_word := fun_mk (st := st__law_word) l31 c31 k31,
    g__law_list := PySem.W.mg_of X G g32, F__law_list := fun_mk (st := st__law_list) l32 c32 k32,
    g__law_begins := PySem.W.mg_of X G g33, F__law_begins := fun_mk (st := st__law_begins) l33 c33 k33,
    g__law_holds := PySem.W.mg_of X G g34, F__law_holds := fun_mk (st := st__law_holds) l34 c34 k34,
    g__law_is_short := PySem.W.mg_of X G g35, F__law_is_short := fun_mk (st := st__law_is_short) l35 c35 k35,
    g__law_is_mark := PySem.W.mg_of X G g36, F__law_is_mark := fun_mk (st := st__law_is_mark) l36 c36 k36,
    g__law_parts := PySem.W.mg_of X G g37, F__law_parts := fun_mk (st := st__law_parts) l37 c37 k37,
    g__law_word_of := PySem.W.mg_of X G g38, F__law_word_of := fun_mk (st := st__law_word_of) l38 c38 k38,
    g_law := PySem.W.mg_of X G g39, F_law := fun_mk (st := st_law) l39 c39 k39,
    n_all := PySem.W.mg_none_of X G n_all,
    n_any := PySem.W.mg_none_of X G n_any,
    n_bool := PySem.W.mg_none_of X G n_bool,
    n_enumerate := PySem.W.mg_none_of X G n_enumerate,
    n_int := PySem.W.mg_none_of X G n_int,
    n_isinstance := PySem.W.mg_none_of X G n_isinstance,
    n_len := PySem.W.mg_none_of X G n_len,
    n_list := PySem.W.mg_none_of X G n_list,
    n_range := PySem.W.mg_none_of X G n_range,
    n_sorted := PySem.W.mg_none_of X G n_sorted,
    n_str := PySem.W.mg_none_of X G n_str,
    n_tuple := PySem.W.mg_none_of X G n_tuple,
    c_LETTERS := ⟨_, PySem.W.mg_of X G k_LETTERS⟩,
    bv := { gC := PySem.W.mg_of X G bC, gS := PySem.W.mg_none_of X G bS, i1 := b1, ov := b2, sa := b3, tk := b4, xf := b5, no := b6, iC := b7, tC := b8, kC := b9, ty := b10, te := b11, su := b12, op := b13, hs := b14, hB := b15, fn := ⟨_, _, _, _, _, _, _, _, _, _, _, _, _, _, _, _, _, _, _, _, _, _, _, _, _, _, _, _, _, _, _, _, _, _, _, _, _, _, _, b16, b17, (by decide +kernel), b18, b19, b20, b21, b22, ⟨_, fun env => rfl⟩⟩, top := by decide +kernel } }
theorem all_mk {w : World} {K : PySem.W.Frag} {mg : Str → Option Value} {h : Heap} {fa : Addr} (hm : ∀ ns : List Int, m_law [.list (ns.map .int)] = .ok (.bool true)) (hfa : mg "law" = some (.ref fa)) {a0 : Addr} {oc0 kV0 dc0 pm0 cd0 ct0 : Value} {od0 an0 : Option Addr} {sl0 : Array (Option Value)} {a1 : Addr} {oc1 kV1 dc1 pm1 cd1 ct1 : Value} {od1 an1 : Option Addr} {sl1 : Array (Option Value)} {a2 : Addr} {oc2 kV2 dc2 pm2 cd2 ct2 : Value} {od2 an2 : Option Addr} {sl2 : Array (Option Value)} {a3 : Addr} {oc3 kV3 dc3 pm3 cd3 ct3 : Value} {od3 an3 : Option Addr} {sl3 : Array (Option Value)} {a4 : Addr} {oc4 kV4 dc4 pm4 cd4 ct4 : Value} {od4 an4 : Option Addr} {sl4 : Array (Option Value)} {a5 : Addr} {oc5 kV5 dc5 pm5 cd5 ct5 : Value} {od5 an5 : Option Addr} {sl5 : Array (Option Value)} {a6 : Addr} {oc6 kV6 dc6 pm6 cd6 ct6 : Value} {od6 an6 : Option Addr} {sl6 : Array (Option Value)} {a7 : Addr} {oc7 kV7 dc7 pm7 cd7 ct7 : Value} {od7 an7 : Option Addr} {sl7 : Array (Option Value)} {a8 : Addr} {oc8 kV8 dc8 pm8 cd8 ct8 : Value} {od8 an8 : Option Addr} {sl8 : Array (Option Value)} {a9 : Addr} {oc9 kV9 dc9 pm9 cd9 ct9 : Value} {od9 an9 : Option Addr} {sl9 : Array (Option Value)} {a10 : Addr} {oc10 kV10 dc10 pm10 cd10 ct10 : Value} {od10 an10 : Option Addr} {sl10 : Array (Option Value)} {a11 : Addr} {oc11 kV11 dc11 pm11 cd11 ct11 : Value} {od11 an11 : Option Addr} {sl11 : Array (Option Value)} {a12 : Addr} {oc12 kV12 dc12 pm12 cd12 ct12 : Value} {od12 an12 : Option Addr} {sl12 : Array (Option Value)} {a13 : Addr} {oc13 kV13 dc13 pm13 cd13 ct13 : Value} {od13 an13 : Option Addr} {sl13 : Array (Option Value)} {a14 : Addr} {oc14 kV14 dc14 pm14 cd14 ct14 : Value} {od14 an14 : Option Addr} {sl14 : Array (Option Value)} {a15 : Addr} {oc15 kV15 dc15 pm15 cd15 ct15 : Value} {od15 an15 : Option Addr} {sl15 : Array (Option Value)} {a16 : Addr} {oc16 kV16 dc16 pm16 cd16 ct16 : Value} {od16 an16 : Option Addr} {sl16 : Array (Option Value)} {a17 : Addr} {oc17 kV17 dc17 pm17 cd17 ct17 : Value} {od17 an17 : Option Addr} {sl17 : Array (Option Value)} {a18 : Addr} {oc18 kV18 dc18 pm18 cd18 ct18 : Value} {od18 an18 : Option Addr} {sl18 : Array (Option Value)} {a19 : Addr} {oc19 kV19 dc19 pm19 cd19 ct19 : Value} {od19 an19 : Option Addr} {sl19 : Array (Option Value)} {a20 : Addr} {oc20 kV20 dc20 pm20 cd20 ct20 : Value} {od20 an20 : Option Addr} {sl20 : Array (Option Value)} {a21 : Addr} {oc21 kV21 dc21 pm21 cd21 ct21 : Value} {od21 an21 : Option Addr} {sl21 : Array (Option Value)} {a22 : Addr} {oc22 kV22 dc22 pm22 cd22 ct22 : Value} {od22 an22 : Option Addr} {sl22 : Array (Option Value)} {a23 : Addr} {oc23 kV23 dc23 pm23 cd23 ct23 : Value} {od23 an23 : Option Addr} {sl23 : Array (Option Value)} {a24 : Addr} {oc24 kV24 dc24 pm24 cd24 ct24 : Value} {od24 an24 : Option Addr} {sl24 : Array (Option Value)} {a25 : Addr} {oc25 kV25 dc25 pm25 cd25 ct25 : Value} {od25 an25 : Option Addr} {sl25 : Array (Option Value)} {a26 : Addr} {oc26 kV26 dc26 pm26 cd26 ct26 : Value} {od26 an26 : Option Addr} {sl26 : Array (Option Value)} {a27 : Addr} {oc27 kV27 dc27 pm27 cd27 ct27 : Value} {od27 an27 : Option Addr} {sl27 : Array (Option Value)} {a28 : Addr} {oc28 kV28 dc28 pm28 cd28 ct28 : Value} {od28 an28 : Option Addr} {sl28 : Array (Option Value)} {a29 : Addr} {oc29 kV29 dc29 pm29 cd29 ct29 : Value} {od29 an29 : Option Addr} {sl29 : Array (Option Value)} {a30 : Addr} {oc30 kV30 dc30 pm30 cd30 ct30 : Value} {od30 an30 : Option Addr} {sl30 : Array (Option Value)} {a31 : Addr} {oc31 kV31 dc31 pm31 cd31 ct31 : Value} {od31 an31 : Option Addr} {sl31 : Array (Option Value)} {a32 : Addr} {oc32 kV32 dc32 pm32 cd32 ct32 : Value} {od32 an32 : Option Addr} {sl32 : Array (Option Value)} {a33 : Addr} {oc33 kV33 dc33 pm33 cd33 ct33 : Value} {od33 an33 : Option Addr} {sl33 : Array (Option Value)} {a34 : Addr} {oc34 kV34 dc34 pm34 cd34 ct34 : Value} {od34 an34 : Option Addr} {sl34 : Array (Option Value)} {a35 : Addr} {oc35 kV35 dc35 pm35 cd35 ct35 : Value} {od35 an35 : Option Addr} {sl35 : Array (Option Value)} {a36 : Addr} {oc36 kV36 dc36 pm36 cd36 ct36 : Value} {od36 an36 : Option Addr} {sl36 : Array (Option Value)} {a37 : Addr} {oc37 kV37 dc37 pm37 cd37 ct37 : Value} {od37 an37 : Option Addr} {sl37 : Array (Option Value)} {a38 : Addr} {oc38 kV38 dc38 pm38 cd38 ct38 : Value} {od38 an38 : Option Addr} {sl38 : Array (Option Value)} {a39 : Addr} {oc39 kV39 dc39 pm39 cd39 ct39 : Value} {od39 an39 : Option Addr} {sl39 : Array (Option Value)} {t_LETTERS : Tok} {aB aI cda cc : Addr} {ocI cclI clI dcI pmI ctI : Value} {odI cddI cldI anI : Option Addr} {slI ccsI cslI : Array (Option Value)} {vsI : Array Value} {fileI : Str} {tfI : Tok} {cdD : PySem.ClassData} (X : K.In h) (G : h.Ns mainGlobals mg) (g0 : PySem.W.nsIn K mainGlobals "is_int" = some (some (.ref a0))) (l0 : K.lookup a0 = some ⟨oc0, od0, .func (PySem.W.fnOf "is_int" "is_int" (defArgs st_is_int) (defBody st_is_int) (defScope st_is_int) .none kV0 dc0 pm0 an0 cd0 ct0), sl0⟩) (c0 : PySem.W.codeIn K cd0 "is_int" = true) (k0 : PySem.W.keepIn K (.ref a0) = true) (g1 : PySem.W.nsIn K mainGlobals "is_between" = some (some (.ref a1))) (l1 : K.lookup a1 = some ⟨oc1, od1, .func (PySem.W.fnOf "is_between" "is_between" (defArgs st_is_between) (defBody st_is_between) (defScope st_is_between) .none kV1 dc1 pm1 an1 cd1 ct1), sl1⟩) (c1 : PySem.W.codeIn K cd1 "is_between" = true) (k1 : PySem.W.keepIn K (.ref a1) = true) (g2 : PySem.W.nsIn K mainGlobals "is_row" = some (some (.ref a2))) (l2 : K.lookup a2 = some ⟨oc2, od2, .func (PySem.W.fnOf "is_row" "is_row" (defArgs st_is_row) (defBody st_is_row) (defScope st_is_row) .none kV2 dc2 pm2 an2 cd2 ct2), sl2⟩) (c2 : PySem.W.codeIn K cd2 "is_row" = true) (k2 : PySem.W.keepIn K (.ref a2) = true) (g3 : PySem.W.nsIn K mainGlobals "is_row_of" = some (some (.ref a3))) (l3 : K.lookup a3 = some ⟨oc3, od3, .func (PySem.W.fnOf "is_row_of" "is_row_of" (defArgs st_is_row_of) (defBody st_is_row_of) (defScope st_is_row_of) .none kV3 dc3 pm3 an3 cd3 ct3), sl3⟩) (c3 : PySem.W.codeIn K cd3 "is_row_of" = true) (k3 : PySem.W.keepIn K (.ref a3) = true) (g4 : PySem.W.nsIn K mainGlobals "has_only" = some (some (.ref a4))) (l4 : K.lookup a4 = some ⟨oc4, od4, .func (PySem.W.fnOf "has_only" "has_only" (defArgs st_has_only) (defBody st_has_only) (defScope st_has_only) .none kV4 dc4 pm4 an4 cd4 ct4), sl4⟩) (c4 : PySem.W.codeIn K cd4 "has_only" = true) (k4 : PySem.W.keepIn K (.ref a4) = true) (g5 : PySem.W.nsIn K mainGlobals "is_letters" = some (some (.ref a5))) (l5 : K.lookup a5 = some ⟨oc5, od5, .func (PySem.W.fnOf "is_letters" "is_letters" (defArgs st_is_letters) (defBody st_is_letters) (defScope st_is_letters) .none kV5 dc5 pm5 an5 cd5 ct5), sl5⟩) (c5 : PySem.W.codeIn K cd5 "is_letters" = true) (k5 : PySem.W.keepIn K (.ref a5) = true) (g6 : PySem.W.nsIn K mainGlobals "is_letters_of" = some (some (.ref a6))) (l6 : K.lookup a6 = some ⟨oc6, od6, .func (PySem.W.fnOf "is_letters_of" "is_letters_of" (defArgs st_is_letters_of) (defBody st_is_letters_of) (defScope st_is_letters_of) .none kV6 dc6 pm6 an6 cd6 ct6), sl6⟩) (c6 : PySem.W.codeIn K cd6 "is_letters_of" = true) (k6 : PySem.W.keepIn K (.ref a6) = true) (g7 : PySem.W.nsIn K mainGlobals "want_int" = some (some (.ref a7))) (l7 : K.lookup a7 = some ⟨oc7, od7, .func (PySem.W.fnOf "want_int" "want_int" (defArgs st_want_int) (defBody st_want_int) (defScope st_want_int) .none kV7 dc7 pm7 an7 cd7 ct7), sl7⟩) (c7 : PySem.W.codeIn K cd7 "want_int" = true) (k7 : PySem.W.keepIn K (.ref a7) = true) (g8 : PySem.W.nsIn K mainGlobals "is_word" = some (some (.ref a8))) (l8 : K.lookup a8 = some ⟨oc8, od8, .func (PySem.W.fnOf "is_word" "is_word" (defArgs st_is_word) (defBody st_is_word) (defScope st_is_word) .none kV8 dc8 pm8 an8 cd8 ct8), sl8⟩) (c8 : PySem.W.codeIn K cd8 "is_word" = true) (k8 : PySem.W.keepIn K (.ref a8) = true) (g9 : PySem.W.nsIn K mainGlobals "is_list" = some (some (.ref a9))) (l9 : K.lookup a9 = some ⟨oc9, od9, .func (PySem.W.fnOf "is_list" "is_list" (defArgs st_is_list) (defBody st_is_list) (defScope st_is_list) .none kV9 dc9 pm9 an9 cd9 ct9), sl9⟩) (c9 : PySem.W.codeIn K cd9 "is_list" = true) (k9 : PySem.W.keepIn K (.ref a9) = true) (g10 : PySem.W.nsIn K mainGlobals "want_list" = some (some (.ref a10))) (l10 : K.lookup a10 = some ⟨oc10, od10, .func (PySem.W.fnOf "want_list" "want_list" (defArgs st_want_list) (defBody st_want_list) (defScope st_want_list) .none kV10 dc10 pm10 an10 cd10 ct10), sl10⟩) (c10 : PySem.W.codeIn K cd10 "want_list" = true) (k10 : PySem.W.keepIn K (.ref a10) = true) (g11 : PySem.W.nsIn K mainGlobals "begun" = some (some (.ref a11))) (l11 : K.lookup a11 = some ⟨oc11, od11, .func (PySem.W.fnOf "begun" "begun" (defArgs st_begun) (defBody st_begun) (defScope st_begun) .none kV11 dc11 pm11 an11 cd11 ct11), sl11⟩) (c11 : PySem.W.codeIn K cd11 "begun" = true) (k11 : PySem.W.keepIn K (.ref a11) = true) (g12 : PySem.W.nsIn K mainGlobals "want_word" = some (some (.ref a12))) (l12 : K.lookup a12 = some ⟨oc12, od12, .func (PySem.W.fnOf "want_word" "want_word" (defArgs st_want_word) (defBody st_want_word) (defScope st_want_word) .none kV12 dc12 pm12 an12 cd12 ct12), sl12⟩) (c12 : PySem.W.codeIn K cd12 "want_word" = true) (k12 : PySem.W.keepIn K (.ref a12) = true) (g13 : PySem.W.nsIn K mainGlobals "other_words" = some (some (.ref a13))) (l13 : K.lookup a13 = some ⟨oc13, od13, .func (PySem.W.fnOf "other_words" "other_words" (defArgs st_other_words) (defBody st_other_words) (defScope st_other_words) .none kV13 dc13 pm13 an13 cd13 ct13), sl13⟩) (c13 : PySem.W.codeIn K cd13 "other_words" = true) (k13 : PySem.W.keepIn K (.ref a13) = true) (g14 : PySem.W.nsIn K mainGlobals "first_number" = some (some (.ref a14))) (l14 : K.lookup a14 = some ⟨oc14, od14, .func (PySem.W.fnOf "first_number" "first_number" (defArgs st_first_number) (defBody st_first_number) (defScope st_first_number) .none kV14 dc14 pm14 an14 cd14 ct14), sl14⟩) (c14 : PySem.W.codeIn K cd14 "first_number" = true) (k14 : PySem.W.keepIn K (.ref a14) = true) (g15 : PySem.W.nsIn K mainGlobals "fits_short" = some (some (.ref a15))) (l15 : K.lookup a15 = some ⟨oc15, od15, .func (PySem.W.fnOf "fits_short" "fits_short" (defArgs st_fits_short) (defBody st_fits_short) (defScope st_fits_short) .none kV15 dc15 pm15 an15 cd15 ct15), sl15⟩) (c15 : PySem.W.codeIn K cd15 "fits_short" = true) (k15 : PySem.W.keepIn K (.ref a15) = true) (g16 : PySem.W.nsIn K mainGlobals "shortest_form" = some (some (.ref a16))) (l16 : K.lookup a16 = some ⟨oc16, od16, .func (PySem.W.fnOf "shortest_form" "shortest_form" (defArgs st_shortest_form) (defBody st_shortest_form) (defScope st_shortest_form) .none kV16 dc16 pm16 an16 cd16 ct16), sl16⟩) (c16 : PySem.W.codeIn K cd16 "shortest_form" = true) (k16 : PySem.W.keepIn K (.ref a16) = true) (g17 : PySem.W.nsIn K mainGlobals "short_form" = some (some (.ref a17))) (l17 : K.lookup a17 = some ⟨oc17, od17, .func (PySem.W.fnOf "short_form" "short_form" (defArgs st_short_form) (defBody st_short_form) (defScope st_short_form) .none kV17 dc17 pm17 an17 cd17 ct17), sl17⟩) (c17 : PySem.W.codeIn K cd17 "short_form" = true) (k17 : PySem.W.keepIn K (.ref a17) = true) (g18 : PySem.W.nsIn K mainGlobals "short_forms" = some (some (.ref a18))) (l18 : K.lookup a18 = some ⟨oc18, od18, .func (PySem.W.fnOf "short_forms" "short_forms" (defArgs st_short_forms) (defBody st_short_forms) (defScope st_short_forms) .none kV18 dc18 pm18 an18 cd18 ct18), sl18⟩) (c18 : PySem.W.codeIn K cd18 "short_forms" = true) (k18 : PySem.W.keepIn K (.ref a18) = true) (g19 : PySem.W.nsIn K mainGlobals "is_short" = some (some (.ref a19))) (l19 : K.lookup a19 = some ⟨oc19, od19, .func (PySem.W.fnOf "is_short" "is_short" (defArgs st_is_short) (defBody st_is_short) (defScope st_is_short) .none kV19 dc19 pm19 an19 cd19 ct19), sl19⟩) (c19 : PySem.W.codeIn K cd19 "is_short" = true) (k19 : PySem.W.keepIn K (.ref a19) = true) (g20 : PySem.W.nsIn K mainGlobals "cover_of" = some (some (.ref a20))) (l20 : K.lookup a20 = some ⟨oc20, od20, .func (PySem.W.fnOf "cover_of" "cover_of" (defArgs st_cover_of) (defBody st_cover_of) (defScope st_cover_of) .none kV20 dc20 pm20 an20 cd20 ct20), sl20⟩) (c20 : PySem.W.codeIn K cd20 "cover_of" = true) (k20 : PySem.W.keepIn K (.ref a20) = true) (g21 : PySem.W.nsIn K mainGlobals "fits_mark" = some (some (.ref a21))) (l21 : K.lookup a21 = some ⟨oc21, od21, .func (PySem.W.fnOf "fits_mark" "fits_mark" (defArgs st_fits_mark) (defBody st_fits_mark) (defScope st_fits_mark) .none kV21 dc21 pm21 an21 cd21 ct21), sl21⟩) (c21 : PySem.W.codeIn K cd21 "fits_mark" = true) (k21 : PySem.W.keepIn K (.ref a21) = true) (g22 : PySem.W.nsIn K mainGlobals "first_mark" = some (some (.ref a22))) (l22 : K.lookup a22 = some ⟨oc22, od22, .func (PySem.W.fnOf "first_mark" "first_mark" (defArgs st_first_mark) (defBody st_first_mark) (defScope st_first_mark) .none kV22 dc22 pm22 an22 cd22 ct22), sl22⟩) (c22 : PySem.W.codeIn K cd22 "first_mark" = true) (k22 : PySem.W.keepIn K (.ref a22) = true) (g23 : PySem.W.nsIn K mainGlobals "mark_of" = some (some (.ref a23))) (l23 : K.lookup a23 = some ⟨oc23, od23, .func (PySem.W.fnOf "mark_of" "mark_of" (defArgs st_mark_of) (defBody st_mark_of) (defScope st_mark_of) .none kV23 dc23 pm23 an23 cd23 ct23), sl23⟩) (c23 : PySem.W.codeIn K cd23 "mark_of" = true) (k23 : PySem.W.keepIn K (.ref a23) = true) (g24 : PySem.W.nsIn K mainGlobals "marks" = some (some (.ref a24))) (l24 : K.lookup a24 = some ⟨oc24, od24, .func (PySem.W.fnOf "marks" "marks" (defArgs st_marks) (defBody st_marks) (defScope st_marks) .none kV24 dc24 pm24 an24 cd24 ct24), sl24⟩) (c24 : PySem.W.codeIn K cd24 "marks" = true) (k24 : PySem.W.keepIn K (.ref a24) = true) (g25 : PySem.W.nsIn K mainGlobals "holder_of" = some (some (.ref a25))) (l25 : K.lookup a25 = some ⟨oc25, od25, .func (PySem.W.fnOf "holder_of" "holder_of" (defArgs st_holder_of) (defBody st_holder_of) (defScope st_holder_of) .none kV25 dc25 pm25 an25 cd25 ct25), sl25⟩) (c25 : PySem.W.codeIn K cd25 "holder_of" = true) (k25 : PySem.W.keepIn K (.ref a25) = true) (g26 : PySem.W.nsIn K mainGlobals "is_mark" = some (some (.ref a26))) (l26 : K.lookup a26 = some ⟨oc26, od26, .func (PySem.W.fnOf "is_mark" "is_mark" (defArgs st_is_mark) (defBody st_is_mark) (defScope st_is_mark) .none kV26 dc26 pm26 an26 cd26 ct26), sl26⟩) (c26 : PySem.W.codeIn K cd26 "is_mark" = true) (k26 : PySem.W.keepIn K (.ref a26) = true) (g27 : PySem.W.nsIn K mainGlobals "_law_limit" = some (some (.ref a27))) (l27 : K.lookup a27 = some ⟨oc27, od27, .func (PySem.W.fnOf "_law_limit" "_law_limit" (defArgs st__law_limit) (defBody st__law_limit) (defScope st__law_limit) .none kV27 dc27 pm27 an27 cd27 ct27), sl27⟩) (c27 : PySem.W.codeIn K cd27 "_law_limit" = true) (k27 : PySem.W.keepIn K (.ref a27) = true) (g28 : PySem.W.nsIn K mainGlobals "_law_cell" = some (some (.ref a28))) (l28 : K.lookup a28 = some ⟨oc28, od28, .func (PySem.W.fnOf "_law_cell" "_law_cell" (defArgs st__law_cell) (defBody st__law_cell) (defScope st__law_cell) .none kV28 dc28 pm28 an28 cd28 ct28), sl28⟩) (c28 : PySem.W.codeIn K cd28 "_law_cell" = true) (k28 : PySem.W.keepIn K (.ref a28) = true) (g29 : PySem.W.nsIn K mainGlobals "_law_numbers" = some (some (.ref a29))) (l29 : K.lookup a29 = some ⟨oc29, od29, .func (PySem.W.fnOf "_law_numbers" "_law_numbers" (defArgs st__law_numbers) (defBody st__law_numbers) (defScope st__law_numbers) .none kV29 dc29 pm29 an29 cd29 ct29), sl29⟩) (c29 : PySem.W.codeIn K cd29 "_law_numbers" = true) (k29 : PySem.W.keepIn K (.ref a29) = true) (g30 : PySem.W.nsIn K mainGlobals "_law_same" = some (some (.ref a30))) (l30 : K.lookup a30 = some ⟨oc30, od30, .func (PySem.W.fnOf "_law_same" "_law_same" (defArgs st__law_same) (defBody st__law_same) (defScope st__law_same) .none kV30 dc30 pm30 an30 cd30 ct30), sl30⟩) (c30 : PySem.W.codeIn K cd30 "_law_same" = true) (k30 : PySem.W.keepIn K (.ref a30) = true) (g31 : PySem.W.nsIn K mainGlobals "_law_word" = some (some (.ref a31))) (l31 : K.lookup a31 = some ⟨oc31, od31, .func (PySem.W.fnOf "_law_word" "_law_word" (defArgs st__law_word) (defBody st__law_word) (defScope st__law_word) .none kV31 dc31 pm31 an31 cd31 ct31), sl31⟩) (c31 : PySem.W.codeIn K cd31 "_law_word" = true) (k31 : PySem.W.keepIn K (.ref a31) = true) (g32 : PySem.W.nsIn K mainGlobals "_law_list" = some (some (.ref a32))) (l32 : K.lookup a32 = some ⟨oc32, od32, .func (PySem.W.fnOf "_law_list" "_law_list" (defArgs st__law_list) (defBody st__law_list) (defScope st__law_list) .none kV32 dc32 pm32 an32 cd32 ct32), sl32⟩) (c32 : PySem.W.codeIn K cd32 "_law_list" = true) (k32 : PySem.W.keepIn K (.ref a32) = true) (g33 : PySem.W.nsIn K mainGlobals "_law_begins" = some (some (.ref a33))) (l33 : K.lookup a33 = some ⟨oc33, od33, .func (PySem.W.fnOf "_law_begins" "_law_begins" (defArgs st__law_begins) (defBody st__law_begins) (defScope st__law_begins) .none kV33 dc33 pm33 an33 cd33 ct33), sl33⟩) (c33 : PySem.W.codeIn K cd33 "_law_begins" = true) (k33 : PySem.W.keepIn K (.ref a33) = true) (g34 : PySem.W.nsIn K mainGlobals "_law_holds" = some (some (.ref a34))) (l34 : K.lookup a34 = some ⟨oc34, od34, .func (PySem.W.fnOf "_law_holds" "_law_holds" (defArgs st__law_holds) (defBody st__law_holds) (defScope st__law_holds) .none kV34 dc34 pm34 an34 cd34 ct34), sl34⟩) (c34 : PySem.W.codeIn K cd34 "_law_holds" = true) (k34 : PySem.W.keepIn K (.ref a34) = true) (g35 : PySem.W.nsIn K mainGlobals "_law_is_short" = some (some (.ref a35))) (l35 : K.lookup a35 = some ⟨oc35, od35, .func (PySem.W.fnOf "_law_is_short" "_law_is_short" (defArgs st__law_is_short) (defBody st__law_is_short) (defScope st__law_is_short) .none kV35 dc35 pm35 an35 cd35 ct35), sl35⟩) (c35 : PySem.W.codeIn K cd35 "_law_is_short" = true) (k35 : PySem.W.keepIn K (.ref a35) = true) (g36 : PySem.W.nsIn K mainGlobals "_law_is_mark" = some (some (.ref a36))) (l36 : K.lookup a36 = some ⟨oc36, od36, .func (PySem.W.fnOf "_law_is_mark" "_law_is_mark" (defArgs st__law_is_mark) (defBody st__law_is_mark) (defScope st__law_is_mark) .none kV36 dc36 pm36 an36 cd36 ct36), sl36⟩) (c36 : PySem.W.codeIn K cd36 "_law_is_mark" = true) (k36 : PySem.W.keepIn K (.ref a36) = true) (g37 : PySem.W.nsIn K mainGlobals "_law_parts" = some (some (.ref a37))) (l37 : K.lookup a37 = some ⟨oc37, od37, .func (PySem.W.fnOf "_law_parts" "_law_parts" (defArgs st__law_parts) (defBody st__law_parts) (defScope st__law_parts) .none kV37 dc37 pm37 an37 cd37 ct37), sl37⟩) (c37 : PySem.W.codeIn K cd37 "_law_parts" = true) (k37 : PySem.W.keepIn K (.ref a37) = true) (g38 : PySem.W.nsIn K mainGlobals "_law_word_of" = some (some (.ref a38))) (l38 : K.lookup a38 = some ⟨oc38, od38, .func (PySem.W.fnOf "_law_word_of" "_law_word_of" (defArgs st__law_word_of) (defBody st__law_word_of) (defScope st__law_word_of) .none kV38 dc38 pm38 an38 cd38 ct38), sl38⟩) (c38 : PySem.W.codeIn K cd38 "_law_word_of" = true) (k38 : PySem.W.keepIn K (.ref a38) = true) (g39 : PySem.W.nsIn K mainGlobals "law" = some (some (.ref a39))) (l39 : K.lookup a39 = some ⟨oc39, od39, .func (PySem.W.fnOf "law" "law" (defArgs st_law) (defBody st_law) (defScope st_law) .none kV39 dc39 pm39 an39 cd39 ct39), sl39⟩) (c39 : PySem.W.codeIn K cd39 "law" = true) (k39 : PySem.W.keepIn K (.ref a39) = true) (n_all : PySem.W.nsIn K mainGlobals "all" = some none) (n_any : PySem.W.nsIn K mainGlobals "any" = some none) (n_bool : PySem.W.nsIn K mainGlobals "bool" = some none) (n_enumerate : PySem.W.nsIn K mainGlobals "enumerate" = some none) (n_int : PySem.W.nsIn K mainGlobals "int" = some none) (n_isinstance : PySem.W.nsIn K mainGlobals "isinstance" = some none) (n_len : PySem.W.nsIn K mainGlobals "len" = some none) (n_list : PySem.W.nsIn K mainGlobals "list" = some none) (n_range : PySem.W.nsIn K mainGlobals "range" = some none) (n_sorted : PySem.W.nsIn K mainGlobals "sorted" = some none) (n_str : PySem.W.nsIn K mainGlobals "str" = some none) (n_tuple : PySem.W.nsIn K mainGlobals "tuple" = some none) (k_LETTERS : PySem.W.nsIn K mainGlobals "LETTERS" = some (some (.str "abcdefghijklmnopqrstuvwxyz" t_LETTERS))) (bC : PySem.W.nsIn K mainGlobals "BadValue" = some (some (.ref aB))) (bS : PySem.W.nsIn K mainGlobals "super" = some none) (b1 : PySem.W.excInitIn K aB Bv.excL "Exception.__new__" = true) (b2 : PySem.W.excOver K aB Bv.excL = true) (b3 : PySem.W.findIn K (.ref aB) "__setattr__" = some (some (.builtin "object.__setattr__"))) (b4 : PySem.W.takerIn K aB "at" = some none) (b5 : L2.xfB K aB = true) (b6 : PySem.W.findIn K (.ref aB) "at" = some none) (b7 : PySem.W.findIn K (.ref aB) "__init__" = some (some (.ref aI))) (b8 : PySem.W.typeIn K (.ref aI) = some (.type "function")) (b9 : PySem.W.keepIn K (.ref aB) = true) (b10 : PySem.W.typeIn K (.ref aB) = some (.type "type")) (b11 : PySem.W.exmOne K (.ref aB) (.ref aB) = some true) (b12 : PySem.W.ks_superIn K aB aB "__init__" = some (some (.builtin "Exception.__init__"))) (b13 : PySem.W.nsIn K cStatics "thirdparty.any" = some none) (b14 : PySem.W.mroIn K aB (.ref aB) = some true) (b15 : PySem.W.subIn K (.ref aB) (.type "Exception") = some true) (b16 : K.lookup aI = some ⟨ocI, odI, .func (PySem.W.ksFn "__init__" "BadValue.__init__" (defArgs st_init) (defBody st_init) (defScope st_init) .none .none dcI pmI anI (.ref cda) ctI cc), slI⟩) (b17 : PySem.W.codeIn K (.ref cda) "BadValue.__init__" = true) (b18 : K.lookup cda = some ⟨cclI, cddI, .fields vsI, ccsI⟩) (b19 : vsI[2]? = some (.str fileI tfI)) (b20 : ((PySem.Challenge.pw_readsback_k61_whole_short_or_covered.main.file : Str) == fileI) = true) (b21 : K.lookup cc = some ⟨clI, cldI, .cell (some (.ref aB)), cslI⟩) (b22 : PySem.W.clsIn K aB = some cdD) :
    ∃ fd : FuncData, (∀ (s : Shared) (u : Value), BindsTo s fd ⟨[u], []⟩ [("script", u)]) ∧ ∀ base : Heap, K.In base → base.Ns mainGlobals mg → FnOk PySem.Challenge.pw_readsback_k61_whole_short_or_covered w K mg base (L2.CX PySem.Challenge.pw_readsback_k61_whole_short_or_covered w) 11 fa fd ["script"] (spT K) := by
  have e := hfa.symm.trans (PySem.W.mg_of X G g39)
  cases e
  exact ⟨PySem.W.fnOf "law" "law" (defArgs st_law) (defBody st_law) (defScope st_law) .none kV39 dc39 pm39 an39 cd39 ct39, fun s u => .of_eq rfl, fun base _ _ => (ok_law (tx_mk X G g0 l0 c0 k0 g1 l1 c1 k1 g2 l2 c2 k2 g3 l3 c3 k3 g4 l4 c4 k4 g5 l5 c5 k5 g6 l6 c6 k6 g7 l7 c7 k7 g8 l8 c8 k8 g9 l9 c9 k9 g10 l10 c10 k10 g11 l11 c11 k11 g12 l12 c12 k12 g13 l13 c13 k13 g14 l14 c14 k14 g15 l15 c15 k15 g16 l16 c16 k16 g17 l17 c17 k17 g18 l18 c18 k18 g19 l19 c19 k19 g20 l20 c20 k20 g21 l21 c21 k21 g22 l22 c22 k22 g23 l23 c23 k23 g24 l24 c24 k24 g25 l25 c25 k25 g26 l26 c26 k26 g27 l27 c27 k27 g28 l28 c28 k28 g29 l29 c29 k29 g30 l30 c30 k30 g31 l31 c31 k31 g32 l32 c32 k32 g33 l33 c33 k33 g34 l34 c34 k34 g35 l35 c35 k35 g36 l36 c36 k36 g37 l37 c37 k37 g38 l38 c38 k38 g39 l39 c39 k39 n_all n_any n_bool n_enumerate n_int n_isinstance n_len n_list n_range n_sorted n_str n_tuple k_LETTERS bC bS b1 b2 b3 b4 b5 b6 b7 b8 b9 b10 b11 b12 b13 b14 b15 b16 b17 b18 b19 b20 b21 b22)).imp (spT_of hm)⟩
end
end k61
end
section
set_option Elab.async false
set_option linter.all false
set_option maxRecDepth 100000
open PySem PySem.W PyProof.Rows
set_option maxHeartbeats 0 in
theorem PySem.Challenge.cw_readsback_k61_whole_short_or_covered_holds : PySem.Challenge.rw_readsback_k61_whole_short_or_covered.Holds := by
  w_on; o_law; k_head; (case hw => w_witness2)
  k_fill
  refine L2.walk_ofM (l := PySem.Challenge.rw_readsback_k61_whole_short_or_covered) (n := 63) (k := 11) (x := "script") (by decide +kernel) (by decide) rfl ⟨rfl, by decide, by decide⟩ (fun w h Y => PySem.W.kIn_of Y) ?F
  case F =>
    intro w mg fa h KX G hmg
    refine' k61.all_mk k61.law_true hmg KX G ?yy_g0 ?yy_l0 ?yy_c0 ?yy_k0 ?yy_g1 ?yy_l1 ?yy_c1 ?yy_k1 ?yy_g2 ?yy_l2 ?yy_c2 ?yy_k2 ?yy_g3 ?yy_l3 ?yy_c3 ?yy_k3 ?yy_g4 ?yy_l4 ?yy_c4 ?yy_k4 ?yy_g5 ?yy_l5 ?yy_c5 ?yy_k5 ?yy_g6 ?yy_l6 ?yy_c6 ?yy_k6 ?yy_g7 ?yy_l7 ?yy_c7 ?yy_k7 ?yy_g8 ?yy_l8 ?yy_c8 ?yy_k8 ?yy_g9 ?yy_l9 ?yy_c9 ?yy_k9 ?yy_g10 ?yy_l10 ?yy_c10 ?yy_k10 ?yy_g11 ?yy_l11 ?yy_c11 ?yy_k11 ?yy_g12 ?yy_l12 ?yy_c12 ?yy_k12 ?yy_g13 ?yy_l13 ?yy_c13 ?yy_k13 ?yy_g14 ?yy_l14 ?yy_c14 ?yy_k14 ?yy_g15 ?yy_l15 ?yy_c15 ?yy_k15 ?yy_g16 ?yy_l16 ?yy_c16 ?yy_k16 ?yy_g17 ?yy_l17 ?yy_c17 ?yy_k17 ?yy_g18 ?yy_l18 ?yy_c18 ?yy_k18 ?yy_g19 ?yy_l19 ?yy_c19 ?yy_k19 ?yy_g20 ?yy_l20 ?yy_c20 ?yy_k20 ?yy_g21 ?yy_l21 ?yy_c21 ?yy_k21 ?yy_g22 ?yy_l22 ?yy_c22 ?yy_k22 ?yy_g23 ?yy_l23 ?yy_c23 ?yy_k23 ?yy_g24 ?yy_l24 ?yy_c24 ?yy_k24 ?yy_g25 ?yy_l25 ?yy_c25 ?yy_k25 ?yy_g26 ?yy_l26 ?yy_c26 ?yy_k26 ?yy_g27 ?yy_l27 ?yy_c27 ?yy_k27 ?yy_g28 ?yy_l28 ?yy_c28 ?yy_k28 ?yy_g29 ?yy_l29 ?yy_c29 ?yy_k29 ?yy_g30 ?yy_l30 ?yy_c30 ?yy_k30 ?yy_g31 ?yy_l31 ?yy_c31 ?yy_k31 ?yy_g32 ?yy_l32 ?yy_c32 ?yy_k32 ?yy_g33 ?yy_l33 ?yy_c33 ?yy_k33 ?yy_g34 ?yy_l34 ?yy_c34 ?yy_k34 ?yy_g35 ?yy_l35 ?yy_c35 ?yy_k35 ?yy_g36 ?yy_l36 ?yy_c36 ?yy_k36 ?yy_g37 ?yy_l37 ?yy_c37 ?yy_k37 ?yy_g38 ?yy_l38 ?yy_c38 ?yy_k38 ?yy_g39 ?yy_l39 ?yy_c39 ?yy_k39 ?yy_n_all ?yy_n_any ?yy_n_bool ?yy_n_enumerate ?yy_n_int ?yy_n_isinstance ?yy_n_len ?yy_n_list ?yy_n_range ?yy_n_sorted ?yy_n_str ?yy_n_tuple ?yy_k_LETTERS ?yy_bC ?yy_bS ?yy_b1 ?yy_b2 ?yy_b3 ?yy_b4 ?yy_b5 ?yy_b6 ?yy_b7 ?yy_b8 ?yy_b9 ?yy_b10 ?yy_b11 ?yy_b12 ?yy_b13 ?yy_b14 ?yy_b15 ?yy_b16 ?yy_b17 ?yy_b18 ?yy_b19 ?yy_b20 ?yy_b21 ?yy_b22
    (case yy_g0 => first | k_is | rfl | kernel_rfl)
    (case yy_l0 => first | k_is | rfl | kernel_rfl)
    (case yy_c0 => first | k_is | rfl | kernel_rfl)
    (case yy_k0 => first | k_is | rfl | kernel_rfl)
    (case yy_g1 => first | k_is | rfl | kernel_rfl)
    (case yy_l1 => first | k_is | rfl | kernel_rfl)
    (case yy_c1 => first | k_is | rfl | kernel_rfl)
    (case yy_k1 => first | k_is | rfl | kernel_rfl)
    (case yy_g2 => first | k_is | rfl | kernel_rfl)
    (case yy_l2 => first | k_is | rfl | kernel_rfl)
    (case yy_c2 => first | k_is | rfl | kernel_rfl)
    (case yy_k2 => first | k_is | rfl | kernel_rfl)
    (case yy_g3 => first | k_is | rfl | kernel_rfl)
    (case yy_l3 => first | k_is | rfl | kernel_rfl)
    (case yy_c3 => first | k_is | rfl | kernel_rfl)
    (case yy_k3 => first | k_is | rfl | kernel_rfl)
    (case yy_g4 => first | k_is | rfl | kernel_rfl)
    (case yy_l4 => first | k_is | rfl | kernel_rfl)
    (case yy_c4 => first | k_is | rfl | kernel_rfl)
    (case yy_k4 => first | k_is | rfl | kernel_rfl)
    (case yy_g5 => first | k_is | rfl | kernel_rfl)
    (case yy_l5 => first | k_is | rfl | kernel_rfl)
    (case yy_c5 => first | k_is | rfl | kernel_rfl)
    (case yy_k5 => first | k_is | rfl | kernel_rfl)
    (case yy_g6 => first | k_is | rfl | kernel_rfl)
    (case yy_l6 => first | k_is | rfl | kernel_rfl)
    (case yy_c6 => first | k_is | rfl | kernel_rfl)
    (case yy_k6 => first | k_is | rfl | kernel_rfl)
    (case yy_g7 => first | k_is | rfl | kernel_rfl)
    (case yy_l7 => first | k_is | rfl | kernel_rfl)
    (case yy_c7 => first | k_is | rfl | kernel_rfl)
    (case yy_k7 => first | k_is | rfl | kernel_rfl)
    (case yy_g8 => first | k_is | rfl | kernel_rfl)
    (case yy_l8 => first | k_is | rfl | kernel_rfl)
    (case yy_c8 => first | k_is | rfl | kernel_rfl)
    (case yy_k8 => first | k_is | rfl | kernel_rfl)
    (case yy_g9 => first | k_is | rfl | kernel_rfl)
    (case yy_l9 => first | k_is | rfl | kernel_rfl)
    (case yy_c9 => first | k_is | rfl | kernel_rfl)
    (case yy_k9 => first | k_is | rfl | kernel_rfl)
    (case yy_g10 => first | k_is | rfl | kernel_rfl)
    (case yy_l10 => first | k_is | rfl | kernel_rfl)
    (case yy_c10 => first | k_is | rfl | kernel_rfl)
    (case yy_k10 => first | k_is | rfl | kernel_rfl)
    (case yy_g11 => first | k_is | rfl | kernel_rfl)
    (case yy_l11 => first | k_is | rfl | kernel_rfl)
    (case yy_c11 => first | k_is | rfl | kernel_rfl)
    (case yy_k11 => first | k_is | rfl | kernel_rfl)
    (case yy_g12 => first | k_is | rfl | kernel_rfl)
    (case yy_l12 => first | k_is | rfl | kernel_rfl)
    (case yy_c12 => first | k_is | rfl | kernel_rfl)
    (case yy_k12 => first | k_is | rfl | kernel_rfl)
    (case yy_g13 => first | k_is | rfl | kernel_rfl)
    (case yy_l13 => first | k_is | rfl | kernel_rfl)
    (case yy_c13 => first | k_is | rfl | kernel_rfl)
    (case yy_k13 => first | k_is | rfl | kernel_rfl)
    (case yy_g14 => first | k_is | rfl | kernel_rfl)
    (case yy_l14 => first | k_is | rfl | kernel_rfl)
    (case yy_c14 => first | k_is | rfl | kernel_rfl)
    (case yy_k14 => first | k_is | rfl | kernel_rfl)
    (case yy_g15 => first | k_is | rfl | kernel_rfl)
    (case yy_l15 => first | k_is | rfl | kernel_rfl)
    (case yy_c15 => first | k_is | rfl | kernel_rfl)
    (case yy_k15 => first | k_is | rfl | kernel_rfl)
    (case yy_g16 => first | k_is | rfl | kernel_rfl)
    (case yy_l16 => first | k_is | rfl | kernel_rfl)
    (case yy_c16 => first | k_is | rfl | kernel_rfl)
    (case yy_k16 => first | k_is | rfl | kernel_rfl)
    (case yy_g17 => first | k_is | rfl | kernel_rfl)
    (case yy_l17 => first | k_is | rfl | kernel_rfl)
    (case yy_c17 => first | k_is | rfl | kernel_rfl)
    (case yy_k17 => first | k_is | rfl | kernel_rfl)
    (case yy_g18 => first | k_is | rfl | kernel_rfl)
    (case yy_l18 => first | k_is | rfl | kernel_rfl)
    (case yy_c18 => first | k_is | rfl | kernel_rfl)
    (case yy_k18 => first | k_is | rfl | kernel_rfl)
    (case yy_g19 => first | k_is | rfl | kernel_rfl)
    (case yy_l19 => first | k_is | rfl | kernel_rfl)
    (case yy_c19 => first | k_is | rfl | kernel_rfl)
    (case yy_k19 => first | k_is | rfl | kernel_rfl)
    (case yy_g20 => first | k_is | rfl | kernel_rfl)
    (case yy_l20 => first | k_is | rfl | kernel_rfl)
    (case yy_c20 => first | k_is | rfl | kernel_rfl)
    (case yy_k20 => first | k_is | rfl | kernel_rfl)
    (case yy_g21 => first | k_is | rfl | kernel_rfl)
    (case yy_l21 => first | k_is | rfl | kernel_rfl)
    (case yy_c21 => first | k_is | rfl | kernel_rfl)
    (case yy_k21 => first | k_is | rfl | kernel_rfl)
    (case yy_g22 => first | k_is | rfl | kernel_rfl)
    (case yy_l22 => first | k_is | rfl | kernel_rfl)
    (case yy_c22 => first | k_is | rfl | kernel_rfl)
    (case yy_k22 => first | k_is | rfl | kernel_rfl)
    (case yy_g23 => first | k_is | rfl | kernel_rfl)
    (case yy_l23 => first | k_is | rfl | kernel_rfl)
    (case yy_c23 => first | k_is | rfl | kernel_rfl)
    (case yy_k23 => first | k_is | rfl | kernel_rfl)
    (case yy_g24 => first | k_is | rfl | kernel_rfl)
    (case yy_l24 => first | k_is | rfl | kernel_rfl)
    (case yy_c24 => first | k_is | rfl | kernel_rfl)
    (case yy_k24 => first | k_is | rfl | kernel_rfl)
    (case yy_g25 => first | k_is | rfl | kernel_rfl)
    (case yy_l25 => first | k_is | rfl | kernel_rfl)
    (case yy_c25 => first | k_is | rfl | kernel_rfl)
    (case yy_k25 => first | k_is | rfl | kernel_rfl)
    (case yy_g26 => first | k_is | rfl | kernel_rfl)
    (case yy_l26 => first | k_is | rfl | kernel_rfl)
    (case yy_c26 => first | k_is | rfl | kernel_rfl)
    (case yy_k26 => first | k_is | rfl | kernel_rfl)
    (case yy_g27 => first | k_is | rfl | kernel_rfl)
    (case yy_l27 => first | k_is | rfl | kernel_rfl)
    (case yy_c27 => first | k_is | rfl | kernel_rfl)
    (case yy_k27 => first | k_is | rfl | kernel_rfl)
    (case yy_g28 => first | k_is | rfl | kernel_rfl)
    (case yy_l28 => first | k_is | rfl | kernel_rfl)
    (case yy_c28 => first | k_is | rfl | kernel_rfl)
    (case yy_k28 => first | k_is | rfl | kernel_rfl)
    (case yy_g29 => first | k_is | rfl | kernel_rfl)
    (case yy_l29 => first | k_is | rfl | kernel_rfl)
    (case yy_c29 => first | k_is | rfl | kernel_rfl)
    (case yy_k29 => first | k_is | rfl | kernel_rfl)
    (case yy_g30 => first | k_is | rfl | kernel_rfl)
    (case yy_l30 => first | k_is | rfl | kernel_rfl)
    (case yy_c30 => first | k_is | rfl | kernel_rfl)
    (case yy_k30 => first | k_is | rfl | kernel_rfl)
    (case yy_g31 => first | k_is | rfl | kernel_rfl)
    (case yy_l31 => first | k_is | rfl | kernel_rfl)
    (case yy_c31 => first | k_is | rfl | kernel_rfl)
    (case yy_k31 => first | k_is | rfl | kernel_rfl)
    (case yy_g32 => first | k_is | rfl | kernel_rfl)
    (case yy_l32 => first | k_is | rfl | kernel_rfl)
    (case yy_c32 => first | k_is | rfl | kernel_rfl)
    (case yy_k32 => first | k_is | rfl | kernel_rfl)
    (case yy_g33 => first | k_is | rfl | kernel_rfl)
    (case yy_l33 => first | k_is | rfl | kernel_rfl)
    (case yy_c33 => first | k_is | rfl | kernel_rfl)
    (case yy_k33 => first | k_is | rfl | kernel_rfl)
    (case yy_g34 => first | k_is | rfl | kernel_rfl)
    (case yy_l34 => first | k_is | rfl | kernel_rfl)
    (case yy_c34 => first | k_is | rfl | kernel_rfl)
    (case yy_k34 => first | k_is | rfl | kernel_rfl)
    (case yy_g35 => first | k_is | rfl | kernel_rfl)
    (case yy_l35 => first | k_is | rfl | kernel_rfl)
    (case yy_c35 => first | k_is | rfl | kernel_rfl)
    (case yy_k35 => first | k_is | rfl | kernel_rfl)
    (case yy_g36 => first | k_is | rfl | kernel_rfl)
    (case yy_l36 => first | k_is | rfl | kernel_rfl)
    (case yy_c36 => first | k_is | rfl | kernel_rfl)
    (case yy_k36 => first | k_is | rfl | kernel_rfl)
    (case yy_g37 => first | k_is | rfl | kernel_rfl)
    (case yy_l37 => first | k_is | rfl | kernel_rfl)
    (case yy_c37 => first | k_is | rfl | kernel_rfl)
    (case yy_k37 => first | k_is | rfl | kernel_rfl)
    (case yy_g38 => first | k_is | rfl | kernel_rfl)
    (case yy_l38 => first | k_is | rfl | kernel_rfl)
    (case yy_c38 => first | k_is | rfl | kernel_rfl)
    (case yy_k38 => first | k_is | rfl | kernel_rfl)
    (case yy_g39 => first | k_is | rfl | kernel_rfl)
    (case yy_l39 => first | k_is | rfl | kernel_rfl)
    (case yy_c39 => first | k_is | rfl | kernel_rfl)
    (case yy_k39 => first | k_is | rfl | kernel_rfl)
    (case yy_n_all => first | k_is | rfl | kernel_rfl)
    (case yy_n_any => first | k_is | rfl | kernel_rfl)
    (case yy_n_bool => first | k_is | rfl | kernel_rfl)
    (case yy_n_enumerate => first | k_is | rfl | kernel_rfl)
    (case yy_n_int => first | k_is | rfl | kernel_rfl)
    (case yy_n_isinstance => first | k_is | rfl | kernel_rfl)
    (case yy_n_len => first | k_is | rfl | kernel_rfl)
    (case yy_n_list => first | k_is | rfl | kernel_rfl)
    (case yy_n_range => first | k_is | rfl | kernel_rfl)
    (case yy_n_sorted => first | k_is | rfl | kernel_rfl)
    (case yy_n_str => first | k_is | rfl | kernel_rfl)
    (case yy_n_tuple => first | k_is | rfl | kernel_rfl)
    (case yy_k_LETTERS => first | k_is | rfl | kernel_rfl)
    (case yy_bC => first | k_is | rfl | kernel_rfl)
    (case yy_bS => first | k_is | rfl | kernel_rfl)
    (case yy_b1 => first | k_is | rfl | kernel_rfl)
    (case yy_b2 => first | k_is | rfl | kernel_rfl)
    (case yy_b3 => first | k_is | rfl | kernel_rfl)
    (case yy_b4 => first | k_is | rfl | kernel_rfl)
    (case yy_b5 => first | k_is | rfl | kernel_rfl)
    (case yy_b6 => first | k_is | rfl | kernel_rfl)
    (case yy_b7 => first | k_is | rfl | kernel_rfl)
    (case yy_b8 => first | k_is | rfl | kernel_rfl)
    (case yy_b9 => first | k_is | rfl | kernel_rfl)
    (case yy_b10 => first | k_is | rfl | kernel_rfl)
    (case yy_b11 => first | k_is | rfl | kernel_rfl)
    (case yy_b12 => first | k_is | rfl | kernel_rfl)
    (case yy_b13 => first | k_is | rfl | kernel_rfl)
    (case yy_b14 => first | k_is | rfl | kernel_rfl)
    (case yy_b15 => first | k_is | rfl | kernel_rfl)
    (case yy_b16 => first | k_is | rfl | kernel_rfl)
    (case yy_b17 => first | k_is | rfl | kernel_rfl)
    (case yy_b18 => first | k_is | rfl | kernel_rfl)
    (case yy_b19 => first | k_is | rfl | kernel_rfl)
    (case yy_b20 => first | k_is | rfl | kernel_rfl)
    (case yy_b21 => first | k_is | rfl | kernel_rfl)
    (case yy_b22 => first | k_is | rfl | kernel_rfl)
end
