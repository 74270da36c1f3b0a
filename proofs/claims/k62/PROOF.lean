import PyProof.Rows.All
import Wide.All
import OpenK.AllK
import Wide.FinOn
import HandS.ForMost
import HandS.Walk
import HandS.TupAny
import HandS.IsInst
import HandS.Wide
import HandS.SortInts
import HandS.Style
import HandS.TupMul
import HandS.Zip
import HandS.Set
import HandS.SetFor
import HandS.Strs
import KE.SortData
import HandS.More
import HandS.Defaults
import HandS.Conv
import PySem.Challenge.RW_namesenough_k62_woods_are_judged
set_option Elab.async false
set_option linter.all false
set_option maxRecDepth 100000
set_option maxHeartbeats 1000000
namespace DL
open PySem PySem.Spec L2
inductive D where
  | non | bl (b : Bool) | int (i : Int) | str (x : Str) | adr (a : Addr) | ty (n : String)
  | tup (ds : List D) | lst (ds : List D) | obj (C : Addr) (ns : List Str) (ds : List D)
mutual
def Rep (K : PySem.W.Frag) (G : Hp) : D → V → Prop
  | .non, v => v = .non
  | .bl b, v => v = .bl b
  | .int i, v => v = .int i
  | .str x, v => v = .str x
  | .adr a, v => v = .ref a
  | .ty n, v => v = .ty n
  | .tup ds, v => ∃ a vs, v = .ref a ∧ SqT K G a vs ∧ Reps K G ds vs
  | .lst ds, v => ∃ a vs, v = .ref a ∧ Rd G a (.lst vs) ∧ Reps K G ds vs
  | .obj C ns ds, v => ∃ a dx vs, v = .ref a ∧ G a = some (.ins C dx (ns.zip vs)) ∧ ns.length = ds.length ∧ Reps K G ds vs
def Reps (K : PySem.W.Frag) (G : Hp) : List D → List V → Prop
  | [], vs => vs = []
  | d :: ds, vs => ∃ v ws, vs = v :: ws ∧ Rep K G d v ∧ Reps K G ds ws
end
section
variable {K : PySem.W.Frag} {G G' H H' : Hp} {d : D} {ds es : List D} {v : V} {vs ws : List V}
theorem seqT_mono {a : Addr} {xs : List V} (s : Same G G') (h : SqT K G a xs) : SqT K G' a xs := by
  rcases h with (h | ⟨o, h⟩) | h
  · exact .inl (.inl (s _ _ h))
  · exact .inl (.inr ⟨o, s _ _ h⟩)
  · exact .inr h
theorem rd_mono {a : Addr} {u : HO} (s : Same G G') (h : Rd G a u) : Rd G' a u := by
  rcases h with h | ⟨o, h⟩
  · exact .inl (s _ _ h)
  · exact .inr ⟨o, s _ _ h⟩
mutual
theorem Rep.mono (s : Same G G') : ∀ {d : D} {v : V}, Rep K G d v → Rep K G' d v
  | .non, _, h => h
  | .bl _, _, h => h
  | .int _, _, h => h
  | .str _, _, h => h
  | .adr _, _, h => h
  | .ty _, _, h => h
  | .tup _, _, h => by
    unfold Rep at h ⊢
    obtain ⟨a, vs, e, t, r⟩ := h
    exact ⟨a, vs, e, seqT_mono s t, Reps.mono s r⟩
  | .lst _, _, h => by
    unfold Rep at h ⊢
    obtain ⟨a, vs, e, t, r⟩ := h
    exact ⟨a, vs, e, rd_mono s t, Reps.mono s r⟩
  | .obj _ _ _, _, h => by
    unfold Rep at h ⊢
    obtain ⟨a, dx, vs, e, t, l, r⟩ := h
    exact ⟨a, dx, vs, e, s _ _ t, l, Reps.mono s r⟩
theorem Reps.mono (s : Same G G') : ∀ {ds : List D} {vs : List V}, Reps K G ds vs → Reps K G' ds vs
  | [], _, h => h
  | _ :: _, _, h => by
    unfold Reps at h ⊢
    obtain ⟨v, ws, e, r, q⟩ := h
    exact ⟨v, ws, e, Rep.mono s r, Reps.mono s q⟩
end
theorem reps_nil : Reps K G [] [] := by unfold Reps; rfl
theorem reps_cons (h : Rep K G d v) (r : Reps K G ds vs) : Reps K G (d :: ds) (v :: vs) := by
  unfold Reps; exact ⟨v, vs, rfl, h, r⟩
theorem reps_consE (h : Reps K G (d :: ds) vs) : ∃ v ws, vs = v :: ws ∧ Rep K G d v ∧ Reps K G ds ws := by
  unfold Reps at h; exact h
theorem reps_nilE (h : Reps K G [] vs) : vs = [] := by unfold Reps at h; exact h
theorem Reps.length : ∀ {ds : List D} {vs : List V}, Reps K G ds vs → vs.length = ds.length
  | [], _, h => by rw [reps_nilE h]; rfl
  | _ :: _, _, h => by
    obtain ⟨v, ws, rfl, _, q⟩ := reps_consE h
    rw [List.length_cons, List.length_cons, Reps.length q]
theorem Reps.get : ∀ {ds : List D} {vs : List V} {i : Nat} {d : D}, Reps K G ds vs → ds[i]? = some d → ∃ v, vs[i]? = some v ∧ Rep K G d v
  | [], _, _, _, _, e => by simp at e
  | _ :: _, _, 0, _, h, e => by
    obtain ⟨v, ws, rfl, r, _⟩ := reps_consE h
    simp at e; subst e; exact ⟨v, rfl, r⟩
  | _ :: _, _, i + 1, d, h, e => by
    obtain ⟨v, ws, rfl, _, q⟩ := reps_consE h
    obtain ⟨x, h1, h2⟩ := Reps.get (i := i) (d := d) q (by simpa using e)
    exact ⟨x, by simpa using h1, h2⟩
theorem Reps.getV : ∀ {ds : List D} {vs : List V} {i : Nat} {v : V}, Reps K G ds vs → vs[i]? = some v → ∃ d, ds[i]? = some d ∧ Rep K G d v := fun {ds vs i v} h e => by
  have hl := h.length
  have hi : i < ds.length := by
    have := (List.getElem?_eq_some_iff.mp e).1
    omega
  obtain ⟨x, h1, h2⟩ := Reps.get (i := i) (d := ds[i]) h (by simp [hi])
  rw [e] at h1; cases h1
  exact ⟨ds[i], by simp [hi], h2⟩
theorem Reps.append : ∀ {ds es : List D} {vs ws : List V}, Reps K G ds vs → Reps K G es ws → Reps K G (ds ++ es) (vs ++ ws)
  | [], _, _, _, h, q => by rw [reps_nilE h]; exact q
  | _ :: _, _, _, _, h, q => by
    obtain ⟨v, ws, rfl, r, t⟩ := reps_consE h
    exact reps_cons r (Reps.append t q)
theorem Reps.take (n : Nat) : ∀ {ds : List D} {vs : List V}, Reps K G ds vs → Reps K G (ds.take n) (vs.take n) := by
  induction n with
  | zero => intro ds vs h; exact reps_nil
  | succ n ih =>
    intro ds vs h
    cases ds with
    | nil => rw [reps_nilE h]; exact reps_nil
    | cons d ds =>
      obtain ⟨v, ws, rfl, r, t⟩ := reps_consE h
      exact reps_cons r (ih t)
theorem Reps.drop (n : Nat) : ∀ {ds : List D} {vs : List V}, Reps K G ds vs → Reps K G (ds.drop n) (vs.drop n) := by
  induction n with
  | zero => intro ds vs h; exact h
  | succ n ih =>
    intro ds vs h
    cases ds with
    | nil => rw [reps_nilE h]; exact reps_nil
    | cons d ds =>
      obtain ⟨v, ws, rfl, r, t⟩ := reps_consE h
      exact ih t
theorem Reps.set {d : D} {v : V} (r : Rep K G d v) : ∀ (n : Nat) {ds : List D} {vs : List V}, Reps K G ds vs → Reps K G (ds.set n d) (vs.set n v) := by
  intro n
  induction n with
  | zero =>
    intro ds vs h
    cases ds with
    | nil => rw [reps_nilE h]; exact reps_nil
    | cons d' ds =>
      obtain ⟨v', ws, rfl, r', t⟩ := reps_consE h
      exact reps_cons r t
  | succ n ih =>
    intro ds vs h
    cases ds with
    | nil => rw [reps_nilE h]; exact reps_nil
    | cons d' ds =>
      obtain ⟨v', ws, rfl, r', t⟩ := reps_consE h
      exact reps_cons r' (ih t)
theorem Reps.reverse : ∀ {ds : List D} {vs : List V}, Reps K G ds vs → Reps K G ds.reverse vs.reverse
  | [], _, h => by rw [reps_nilE h]; exact reps_nil
  | _ :: _, _, h => by
    obtain ⟨v, ws, rfl, r, t⟩ := reps_consE h
    rw [List.reverse_cons, List.reverse_cons]
    exact (Reps.reverse t).append (reps_cons r reps_nil)
theorem reps_map {α : Type} {f : α → D} {g : α → V} (h : ∀ x, Rep K G (f x) (g x)) : ∀ xs : List α, Reps K G (xs.map f) (xs.map g)
  | [] => reps_nil
  | x :: xs => reps_cons (h x) (reps_map h xs)
theorem reps_mapE {α : Type} {f : α → D} {g : α → V} (h : ∀ x v, Rep K G (f x) v → v = g x) : ∀ {xs : List α} {vs : List V}, Reps K G (xs.map f) vs → vs = xs.map g
  | [], _, q => reps_nilE q
  | x :: xs, _, q => by
    obtain ⟨v, ws, rfl, r, t⟩ := reps_consE q
    rw [h x v r, reps_mapE h t]; rfl
theorem rep_int {i : Int} {v : V} : Rep K G (.int i) v ↔ v = .int i := by unfold Rep; exact Iff.rfl
theorem rep_bl {i : Bool} {v : V} : Rep K G (.bl i) v ↔ v = .bl i := by unfold Rep; exact Iff.rfl
theorem rep_str {i : Str} {v : V} : Rep K G (.str i) v ↔ v = .str i := by unfold Rep; exact Iff.rfl
theorem rep_non {v : V} : Rep K G .non v ↔ v = .non := by unfold Rep; exact Iff.rfl
theorem rep_adr {a : Addr} {v : V} : Rep K G (.adr a) v ↔ v = .ref a := by unfold Rep; exact Iff.rfl
theorem rep_ty {a : String} {v : V} : Rep K G (.ty a) v ↔ v = .ty a := by unfold Rep; exact Iff.rfl
theorem rep_tup {v : V} : Rep K G (.tup ds) v ↔ ∃ a vs, v = .ref a ∧ SqT K G a vs ∧ Reps K G ds vs := by rw [Rep]
theorem rep_lst {v : V} : Rep K G (.lst ds) v ↔ ∃ a vs, v = .ref a ∧ Rd G a (.lst vs) ∧ Reps K G ds vs := by rw [Rep]
theorem rep_obj {C : Addr} {ns : List Str} {v : V} : Rep K G (.obj C ns ds) v ↔ ∃ a dx vs, v = .ref a ∧ G a = some (.ins C dx (ns.zip vs)) ∧ ns.length = ds.length ∧ Reps K G ds vs := by rw [Rep]
theorem reps_ints (xs : List Int) : Reps K G (xs.map D.int) (xs.map V.int) := reps_map (fun _ => rep_int.mpr rfl) xs
theorem reps_intsE {xs : List Int} (h : Reps K G (xs.map D.int) vs) : vs = xs.map V.int := reps_mapE (fun _ _ h => rep_int.mp h) h
theorem reps_strsE {xs : List Str} (h : Reps K G (xs.map D.str) vs) : vs = xs.map V.str := reps_mapE (fun _ _ h => rep_str.mp h) h
theorem reps_strs (xs : List Str) : Reps K G (xs.map D.str) (xs.map V.str) := reps_map (fun _ => rep_str.mpr rfl) xs
end
abbrev Reg := Option (Addr × Addr)
def Reg.mem : Reg → Addr → Prop
  | none, _ => False
  | some (da, ca), b => b = da ∨ b = ca
def Reg.J : Reg → Hp → Prop
  | none, _ => True
  | some (da, ca), H => da ≠ ca ∧ ∃ (cells : List Int) (mix : Int), cells.length ≤ 1000 ∧ H da = some (.lst [.ref ca, .int mix]) ∧ H ca = some (.lst (cells.map V.int))
theorem Reg.trk {r : Reg} {H : Hp} (j : r.J H) {b : Addr} (m : r.mem b) : H b ≠ none := by
  cases r with
  | none => exact False.elim m
  | some p =>
    obtain ⟨da, ca⟩ := p
    obtain ⟨_, cells, mix, _, h1, h2⟩ := j
    rcases m with rfl | rfl
    · rw [h1]; simp
    · rw [h2]; simp
theorem Reg.keep {r : Reg} {H H' : Hp} (j : r.J H) (s : ∀ b, r.mem b → H' b = H b) : r.J H' := by
  cases r with
  | none => trivial
  | some p =>
    obtain ⟨da, ca⟩ := p
    obtain ⟨ne, cells, mix, l, h1, h2⟩ := j
    exact ⟨ne, cells, mix, l, (s da (.inl rfl)).trans h1, (s ca (.inr rfl)).trans h2⟩
structure Ext (r : Reg) (G H G' H' : Hp) : Prop where
  up : Same G G'
  sub : Same G' H'
  same : ∀ b o, ¬ r.mem b → H b = some o → H' b = some o
  old : ∀ b, H b ≠ none → G' b = G b
  reg : r.J H'
structure Ctx where
  reg : Reg
  G0 : Hp
  H0 : Hp
structure Good (c : Ctx) (G H : Hp) : Prop where
  ext : Ext c.reg c.G0 c.H0 G H
  rg : ∀ b, c.reg.mem b → G b = none ∧ c.H0 b ≠ none
theorem Ext.trans {r : Reg} {G H G1 H1 G2 H2 : Hp} (a : Ext r G H G1 H1) (b : Ext r G1 H1 G2 H2) (j : r.J H) : Ext r G H G2 H2 where
  up := a.up.trans b.up
  sub := b.sub
  same := fun x o m h => b.same x o m (a.same x o m h)
  old := fun x h => by
    by_cases m : r.mem x
    · rw [b.old x (Reg.trk a.reg m), a.old x h]
    · cases q : H x with
      | none => exact absurd q h
      | some o => rw [b.old x (by rw [a.same x o m q]; simp), a.old x h]
  reg := b.reg
theorem Ext.refl {r : Reg} {G H : Hp} (s : Same G H) (j : r.J H) : Ext r G H G H := ⟨Same.refl G, s, fun _ _ _ h => h, fun _ _ => rfl, j⟩
theorem Good.sub {c : Ctx} {G H : Hp} (g : Good c G H) : Same G H := g.ext.sub
theorem Good.j {c : Ctx} {G H : Hp} (g : Good c G H) : c.reg.J H := g.ext.reg
theorem Good.ext' {c : Ctx} {G H G' H' : Hp} (j0 : c.reg.J c.H0) (g : Good c G H) (e : Ext c.reg G H G' H') : Good c G' H' :=
  ⟨g.ext.trans e j0, fun b m => ⟨by rw [e.old b (Reg.trk g.j m)]; exact (g.rg b m).1, (g.rg b m).2⟩⟩
theorem Ext.new {r : Reg} {G H : Hp} {p : Addr} {o : HO} (s : Same G H) (j : r.J H) (n : H p = none) : Ext r G H (upd G p o) (upd H p o) where
  up := fun b u e => by rw [upd_ne (ne_of_none e (s.free n))]; exact e
  sub := fun b u e => by
    by_cases h : b = p
    · subst h; rw [upd_same] at e ⊢; exact e
    · rw [upd_ne h] at e ⊢; exact s b u e
  same := fun b u _ e => by rw [upd_ne (ne_of_none e n)]; exact e
  old := fun b h => by
    by_cases e : b = p
    · subst e; exact absurd n h
    · rw [upd_ne e]
  reg := Reg.keep j fun b m => upd_ne fun e => Reg.trk j m (e ▸ n)
theorem Ext.new' {r : Reg} {G H : Hp} {p : Addr} {o : HO} (s : Same G H) (j : r.J H) (n : H p = none) : Ext r G H G (upd H p o) where
  up := Same.refl G
  sub := fun b u e => by rw [upd_ne (ne_of_none (s b u e) n)]; exact s b u e
  same := fun b u _ e => by rw [upd_ne (ne_of_none e n)]; exact e
  old := fun b h => rfl
  reg := Reg.keep j fun b m => upd_ne fun e => Reg.trk j m (e ▸ n)
inductive B where
  | u | d (x : D) | m (xs : List D)
abbrev Sto := List B
def Slot (K : PySem.W.Frag) (G H : Hp) (p : Option V) : B → Prop
  | .u => True
  | .d x => ∃ v, p = some v ∧ Rep K G x v
  | .m xs => ∃ a vs, p = some (.ref a) ∧ H a = some (.lst vs) ∧ G a = none ∧ Reps K G xs vs
structure EnvOk (K : PySem.W.Frag) (c : Ctx) (G H : Hp) (σ : St) (S : Sto) : Prop where
  j0 : c.reg.J c.H0
  good : Good c G H
  len : σ.length = S.length
  slot : ∀ (i : Nat) (b : B), S[i]? = some b → ∃ p, σ[i]? = some p ∧ Slot K G H p b
  own : ∀ (i : Nat) (xs : List D) (a : Addr), S[i]? = some (.m xs) → σ[i]? = some (some (.ref a)) → c.H0 a = none
  inj : ∀ (i j : Nat) (xs ys : List D) (a : Addr), S[i]? = some (.m xs) → S[j]? = some (.m ys) → σ[i]? = some (some (.ref a)) → σ[j]? = some (some (.ref a)) → i = j
section
variable {K : PySem.W.Frag} {c : Ctx} {G H G' H' : Hp} {σ : St} {S : Sto}
theorem EnvOk.sub (E : EnvOk K c G H σ S) : Same G H := E.good.sub
theorem EnvOk.j (E : EnvOk K c G H σ S) : c.reg.J H := E.good.j
theorem EnvOk.nomem (E : EnvOk K c G H σ S) {i : Nat} {xs : List D} {a : Addr} (h : S[i]? = some (.m xs)) (e : σ[i]? = some (some (.ref a))) : ¬ c.reg.mem a :=
  fun m => (E.good.rg a m).2 (E.own i xs a h e)
theorem EnvOk.ext (E : EnvOk K c G H σ S) (e : Ext c.reg G H G' H') : EnvOk K c G' H' σ S where
  j0 := E.j0
  good := E.good.ext' E.j0 e
  len := E.len
  slot := fun i b h => by
    obtain ⟨p, h1, h2⟩ := E.slot i b h
    refine ⟨p, h1, ?_⟩
    cases b with
    | u => trivial
    | d x =>
      obtain ⟨v, e1, r⟩ := h2
      exact ⟨v, e1, r.mono e.up⟩
    | m xs =>
      obtain ⟨a, vs, e1, e2, e3, r⟩ := h2
      subst e1
      refine ⟨a, vs, rfl, e.same a _ (E.nomem h h1) e2, ?_, r.mono e.up⟩
      rw [e.old a (by rw [e2]; simp)]; exact e3
  own := E.own
  inj := E.inj
theorem EnvOk.ext0 (E : EnvOk K c G H σ S) : Ext c.reg G H G H := Ext.refl E.sub E.j
theorem EnvOk.d (E : EnvOk K c G H σ S) {i : Nat} {x : D} (h : S[i]? = some (.d x)) : ∃ v, σ[i]? = some (some v) ∧ Rep K G x v := by
  obtain ⟨p, h1, v, e, r⟩ := E.slot i _ h
  subst e; exact ⟨v, h1, r⟩
theorem EnvOk.m (E : EnvOk K c G H σ S) {i : Nat} {xs : List D} (h : S[i]? = some (.m xs)) : ∃ a vs, σ[i]? = some (some (.ref a)) ∧ H a = some (.lst vs) ∧ G a = none ∧ Reps K G xs vs ∧ c.H0 a = none ∧ ¬ c.reg.mem a := by
  obtain ⟨p, h1, a, vs, e, e2, e3, r⟩ := E.slot i _ h
  subst e
  exact ⟨a, vs, h1, e2, e3, r, E.own i xs a h h1, E.nomem h h1⟩
theorem getElem?_set_cases {α : Type} {l : List α} {i j : Nat} {x y : α} (h : (l.set i x)[j]? = some y) : (j = i ∧ y = x) ∨ (j ≠ i ∧ l[j]? = some y) := by
  by_cases e : i = j
  · subst e
    by_cases hi : i < l.length
    · rw [List.getElem?_set_self hi] at h; cases h; exact .inl ⟨rfl, rfl⟩
    · rw [List.getElem?_eq_none (by simpa using hi)] at h; cases h
  · rw [List.getElem?_set_ne e] at h; exact .inr ⟨fun z => e z.symm, h⟩
theorem EnvOk.set_d (E : EnvOk K c G H σ S) {i : Nat} {x : D} {v : V} (r : Rep K G x v) : EnvOk K c G H (σ.set i (some v)) (S.set i (.d x)) where
  j0 := E.j0
  good := E.good
  len := by rw [List.length_set, List.length_set]; exact E.len
  slot := fun j b h => by
    rcases getElem?_set_cases h with ⟨rfl, rfl⟩ | ⟨ne, h⟩
    · have hj : j < S.length := by
        have := (List.getElem?_eq_some_iff.mp h).1
        rwa [List.length_set] at this
      exact ⟨some v, List.getElem?_set_self (by rw [E.len]; exact hj), v, rfl, r⟩
    · obtain ⟨p, h1, h2⟩ := E.slot j b h
      exact ⟨p, by rw [List.getElem?_set_ne (Ne.symm ne)]; exact h1, h2⟩
  own := fun j xs a h h1 => by
    rcases getElem?_set_cases h with ⟨rfl, e⟩ | ⟨ne, h⟩
    · cases e
    · rw [List.getElem?_set_ne (Ne.symm ne)] at h1
      exact E.own j xs a h h1
  inj := fun j k xs ys a h h' e e' => by
    rcases getElem?_set_cases h with ⟨rfl, z⟩ | ⟨ne, h⟩
    · cases z
    · rcases getElem?_set_cases h' with ⟨rfl, z⟩ | ⟨ne', h'⟩
      · cases z
      · rw [List.getElem?_set_ne (Ne.symm ne)] at e
        rw [List.getElem?_set_ne (Ne.symm ne')] at e'
        exact E.inj j k xs ys a h h' e e'
theorem EnvOk.set_m (E : EnvOk K c G H σ S) {i : Nat} {xs : List D} {a : Addr} {vs : List V} (h1 : H a = some (.lst vs)) (h2 : G a = none) (h3 : c.H0 a = none) (r : Reps K G xs vs)
    (nw : ∀ (j : Nat) (ys : List D), j ≠ i → S[j]? = some (.m ys) → σ[j]? ≠ some (some (.ref a))) : EnvOk K c G H (σ.set i (some (.ref a))) (S.set i (.m xs)) where
  j0 := E.j0
  good := E.good
  len := by rw [List.length_set, List.length_set]; exact E.len
  slot := fun j b h => by
    rcases getElem?_set_cases h with ⟨rfl, rfl⟩ | ⟨ne, h⟩
    · have hj : j < S.length := by
        have := (List.getElem?_eq_some_iff.mp h).1
        rwa [List.length_set] at this
      exact ⟨some (.ref a), List.getElem?_set_self (by rw [E.len]; exact hj), a, vs, rfl, h1, h2, r⟩
    · obtain ⟨p, e1, e2⟩ := E.slot j b h
      exact ⟨p, by rw [List.getElem?_set_ne (Ne.symm ne)]; exact e1, e2⟩
  own := fun j ys b h e => by
    rcases getElem?_set_cases h with ⟨rfl, z⟩ | ⟨ne, h⟩
    · have hj : j < S.length := by
        have := (List.getElem?_eq_some_iff.mp h).1
        rwa [List.length_set] at this
      rw [List.getElem?_set_self (by rw [E.len]; exact hj)] at e
      cases e; exact h3
    · rw [List.getElem?_set_ne (Ne.symm ne)] at e
      exact E.own j ys b h e
  inj := fun j k ys zs b h h' e e' => by
    have self : ∀ (l : Nat) (us : List D), (S.set l (.m xs))[l]? = some (.m us) → (σ.set l (some (.ref a)))[l]? = some (some (.ref a)) := fun l us q => by
      have hj : l < S.length := by
        have := (List.getElem?_eq_some_iff.mp q).1
        rwa [List.length_set] at this
      exact List.getElem?_set_self (by rw [E.len]; exact hj)
    rcases getElem?_set_cases h with ⟨ej, _⟩ | ⟨ne, h2⟩
    · rcases getElem?_set_cases h' with ⟨ek, _⟩ | ⟨ne', h2'⟩
      · rw [ej, ek]
      · subst ej
        rw [self j ys h] at e
        rw [List.getElem?_set_ne (Ne.symm ne')] at e'
        cases e
        exact absurd e' (nw k zs ne' h2')
    · rcases getElem?_set_cases h' with ⟨ek, _⟩ | ⟨ne', h2'⟩
      · subst ek
        rw [self k zs h'] at e'
        rw [List.getElem?_set_ne (Ne.symm ne)] at e
        cases e'
        exact absurd e (nw j ys ne h2)
      · rw [List.getElem?_set_ne (Ne.symm ne)] at e
        rw [List.getElem?_set_ne (Ne.symm ne')] at e'
        exact E.inj j k ys zs b h2 h2' e e'
theorem EnvOk.write (E : EnvOk K c G H σ S) {i : Nat} {xs ys : List D} {a : Addr} {ws : List V} (h : S[i]? = some (.m xs)) (h1 : σ[i]? = some (some (.ref a))) (r : Reps K G ys ws) : EnvOk K c G (upd H a (.lst ws)) σ (S.set i (.m ys)) := by
  obtain ⟨a', vs, e1, e2, e3, _, e5, e6⟩ := E.m h
  rw [h1] at e1; cases e1
  have sub : Same G (upd H a (.lst ws)) := fun b o e => by
    rw [upd_ne (ne_of_none e e3)]; exact E.sub b o e
  have jj : c.reg.J (upd H a (.lst ws)) := Reg.keep E.j fun b m => upd_ne fun z => e6 (z ▸ m)
  refine ⟨E.j0, ⟨⟨E.good.ext.up, sub, fun b o m e => ?_, E.good.ext.old, jj⟩, E.good.rg⟩, by rw [List.length_set]; exact E.len, fun j b hj => ?_, fun j zs b hj e => ?_, fun j k ys zs b hj hk e e' => ?_⟩
  · rw [upd_ne (ne_of_none e e5)]; exact E.good.ext.same b o m e
  · rcases getElem?_set_cases hj with ⟨rfl, rfl⟩ | ⟨ne, hj'⟩
    · exact ⟨some (.ref a), h1, a, ws, rfl, upd_same, e3, r⟩
    · obtain ⟨p, q1, q2⟩ := E.slot j b hj'
      refine ⟨p, q1, ?_⟩
      cases b with
      | u => trivial
      | d x => exact q2
      | m zs =>
        obtain ⟨b, us, z1, z2, z3, z4⟩ := q2
        subst z1
        refine ⟨b, us, rfl, ?_, z3, z4⟩
        rw [upd_ne]
        · exact z2
        · intro z; subst z
          exact ne (E.inj j i zs xs b hj' h q1 h1)
  · rcases getElem?_set_cases hj with ⟨rfl, z⟩ | ⟨ne, hj⟩
    · exact E.own j xs b h e
    · exact E.own j zs b hj e
  · rcases getElem?_set_cases hj with ⟨ej, _⟩ | ⟨ne, hj2⟩
    · rcases getElem?_set_cases hk with ⟨ek, _⟩ | ⟨ne', hk2⟩
      · rw [ej, ek]
      · subst ej
        exact E.inj _ _ _ _ b h hk2 e e'
    · rcases getElem?_set_cases hk with ⟨ek, _⟩ | ⟨ne', hk2⟩
      · subst ek
        exact E.inj _ _ _ _ b hj2 h e e'
      · exact E.inj _ _ _ _ b hj2 hk2 e e'
theorem EnvOk.freeze (E : EnvOk K c G H σ S) {i : Nat} {xs : List D} (h : S[i]? = some (.m xs)) : ∃ a vs, σ[i]? = some (some (.ref a)) ∧ H a = some (.lst vs) ∧ G a = none ∧ EnvOk K c (upd G a (.lst vs)) H σ (S.set i (.d (.lst xs))) ∧ Same G (upd G a (.lst vs)) := by
  obtain ⟨a, vs, e1, e2, e3, r, e5, e6⟩ := E.m h
  have up : Same G (upd G a (.lst vs)) := fun b o e => by rw [upd_ne (ne_of_none e e3)]; exact e
  refine ⟨a, vs, e1, e2, e3, ⟨E.j0, ⟨⟨E.good.ext.up.trans up, fun b o e => ?_, E.good.ext.same, fun b hb => ?_, E.j⟩, fun b m => ⟨?_, (E.good.rg b m).2⟩⟩, by rw [List.length_set]; exact E.len, fun j b hj => ?_, fun j zs b hj e => ?_, fun j k ys zs b hj hk e e' => ?_⟩, up⟩
  · by_cases hb : b = a
    · subst hb; rw [upd_same] at e; cases e; exact e2
    · rw [upd_ne hb] at e; exact E.sub b o e
  · have hb' : b ≠ a := fun z => hb (z ▸ e5)
    rw [upd_ne hb']; exact E.good.ext.old b hb
  · have hb' : b ≠ a := fun z => e6 (z ▸ m)
    rw [upd_ne hb']; exact (E.good.rg b m).1
  · rcases getElem?_set_cases hj with ⟨rfl, rfl⟩ | ⟨ne, hj'⟩
    · refine ⟨some (.ref a), e1, .ref a, rfl, rep_lst.mpr ⟨a, vs, rfl, .inl upd_same, r.mono up⟩⟩
    · obtain ⟨p, q1, q2⟩ := E.slot j b hj'
      refine ⟨p, q1, ?_⟩
      cases b with
      | u => trivial
      | d x =>
        obtain ⟨v, z1, z2⟩ := q2
        exact ⟨v, z1, z2.mono up⟩
      | m zs =>
        obtain ⟨b, us, z1, z2, z3, z4⟩ := q2
        subst z1
        refine ⟨b, us, rfl, z2, ?_, z4.mono up⟩
        rw [upd_ne]
        · exact z3
        · intro z; subst z
          exact ne (E.inj j i zs xs b hj' h q1 e1)
  · rcases getElem?_set_cases hj with ⟨rfl, z⟩ | ⟨ne, hj⟩
    · cases z
    · exact E.own j zs b hj e
  · rcases getElem?_set_cases hj with ⟨rfl, z⟩ | ⟨ne, hj⟩
    · cases z
    · rcases getElem?_set_cases hk with ⟨rfl, z⟩ | ⟨ne', hk⟩
      · cases z
      · exact E.inj _ _ _ _ b hj hk e e'
theorem EnvOk.weak (E : EnvOk K c G H σ S) {S' : Sto} (hl : S'.length = S.length) (w : ∀ (i : Nat) (b : B), S'[i]? = some b → b = .u ∨ S[i]? = some b) : EnvOk K c G H σ S' where
  j0 := E.j0
  good := E.good
  len := E.len.trans hl.symm
  slot := fun i b h => by
    rcases w i b h with rfl | h'
    · have hi : i < σ.length := by
        rw [E.len, ← hl]; exact (List.getElem?_eq_some_iff.mp h).1
      exact ⟨σ[i], by simp [hi], trivial⟩
    · exact E.slot i b h'
  own := fun i xs a h e => by
    rcases w i _ h with z | h'
    · cases z
    · exact E.own i xs a h' e
  inj := fun i j xs ys a h h' e e' => by
    rcases w i _ h with z | h1
    · cases z
    · rcases w j _ h' with z | h2
      · cases z
      · exact E.inj i j xs ys a h1 h2 e e'
end
end DL
set_option Elab.async false
set_option linter.all false
set_option maxRecDepth 100000
set_option maxHeartbeats 1000000
namespace DL
open PySem PySem.Spec L2
section
variable (X : Cx)
def W (e : Expr) : TE := fun σ H Q => ∀ (pins : List (Addr × Obj)) (s : Shared), Inv X pins σ H s → wpAny (model X.prog X.w) X.A (eval e X.env) (EP X pins σ Q) X.xe s
def WT (e : Expr) : TT := fun σ H Q => ∀ (pins : List (Addr × Obj)) (s : Shared), Inv X pins σ H s → wpAny (model X.prog X.w) X.A (isTrue e X.env (eval e X.env)) (TP X pins σ Q) X.xe s
def WW (e : Expr) : TT := fun σ H Q => ∀ (whole : Sem Value) (pins : List (Addr × Obj)) (s : Shared), Inv X pins σ H s → wpAny (model X.prog X.w) X.A (isTrue e X.env whole) (TP X pins σ Q) X.xe s
def WA (es : List Expr) : TA := fun σ H Q => ∀ (pos : Pos) (pins : List (Addr × Obj)) (s : Shared), Inv X pins σ H s → wpAny (model X.prog X.w) X.A (spliced (backTo pos (starEach es X.env))) (AP X pins σ Q) X.xe s
def WS (st : Stmt) : TS := fun D σ H => ∀ (pins : List (Addr × Obj)) (s : Shared), Inv X pins σ H s → wpAny (model X.prog X.w) X.A (exec st X.env) (SP X pins D) X.xe s
def WSs (st : List Stmt) : TS := fun D σ H => ∀ (pins : List (Addr × Obj)) (s : Shared), Inv X pins σ H s → wpAny (model X.prog X.w) X.A (execs st X.env) (SP X pins D) X.xe s
def WI (tg iter : Expr) : TI := fun σ H R => ∀ (pins : List (Addr × Obj)) (s : Shared), Inv X pins σ H s → wpAny (model X.prog X.w) X.A (eval iter X.env) (fun v s1 => wpAny (model X.prog X.w) X.A (pyIter v) (PIE X pins σ tg R) X.xe s1) X.xe s
def WTs (ifs : List Expr) : TT := fun σ H Q => ∀ (pins : List (Addr × Obj)) (s : Shared), Inv X pins σ H s →
    wpAny (model X.prog X.w) X.A (forIn ifs true fun c r => if r = true then do let ok ← isTrue c X.env (eval c X.env); pure (ForInStep.yield ok) else pure (ForInStep.yield r)) (TP X pins σ Q) X.xe s
end
section
variable {X : Cx} {e : Expr} {es : List Expr} {st : Stmt} {sts : List Stmt} {σ : L2.St} {H : Hp}
theorem pe_W : PE X e (W X e) := ⟨fun pins s _ _ _ I h => h pins s I⟩
theorem pt_W : PT X e (WT X e) := ⟨fun pins s _ _ _ I h => h pins s I⟩
theorem pw_W : PW X e (WW X e) := ⟨fun wh pins s _ _ _ I h => h wh pins s I⟩
theorem pa_W : PA X es (WA X es) := ⟨fun pos pins s _ _ _ I h => h pos pins s I⟩
theorem ps_W : PS X st (WS X st) := ⟨fun pins s _ _ _ I h => h pins s I⟩
theorem pss_W : PSs X sts (WSs X sts) := ⟨fun pins s _ _ _ I h => h pins s I⟩
theorem pi_W {tg : Expr} : PI X tg e (WI X tg e) := ⟨fun pins s _ _ _ I h => h pins s I⟩
theorem pts_W : PTs X es (WTs X es) := ⟨fun pins s _ _ _ I h => h pins s I⟩
theorem W.of {t : TE} {Q : VK} (h : PE X e t) (hw : t σ H Q) : W X e σ H Q := fun pins s I => h.run pins s σ H Q I hw
theorem WT.of {t : TT} {Q : Bool → Hp → Prop} (h : PT X e t) (hw : t σ H Q) : WT X e σ H Q := fun pins s I => h.run pins s σ H Q I hw
theorem WW.of {t : TT} {Q : Bool → Hp → Prop} (h : PW X e t) (hw : t σ H Q) : WW X e σ H Q := fun wh pins s I => h.run wh pins s σ H Q I hw
theorem WA.of {t : TA} {Q : List V → Hp → Prop} (h : PA X es t) (hw : t σ H Q) : WA X es σ H Q := fun pos pins s I => h.run pos pins s σ H Q I hw
theorem WS.of {t : TS} {D : Ends} (h : PS X st t) (hw : t D σ H) : WS X st D σ H := fun pins s I => h.run pins s σ H D I hw
theorem WSs.of {t : TS} {D : Ends} (h : PSs X sts t) (hw : t D σ H) : WSs X sts D σ H := fun pins s I => h.run pins s σ H D I hw
theorem WI.of {tg : Expr} {t : TI} {R : It → Hp → Prop} (h : PI X tg e t) (hw : t σ H R) : WI X tg e σ H R := fun pins s I => h.run pins s σ H R I hw
theorem WTs.of {t : TT} {Q : Bool → Hp → Prop} (h : PTs X es t) (hw : t σ H Q) : WTs X es σ H Q := fun pins s I => h.run pins s σ H Q I hw
theorem W.mono {Q Q' : VK} (h : W X e σ H Q) (q : ∀ v H', Q v H' → Q' v H') : W X e σ H Q' := fun pins s I => thn (h pins s I) fun _ _ ⟨v, H', I', r, z⟩ => ⟨v, H', I', r, q v H' z⟩
theorem WT.mono {Q Q' : Bool → Hp → Prop} (h : WT X e σ H Q) (q : ∀ v H', Q v H' → Q' v H') : WT X e σ H Q' := fun pins s I => thn (h pins s I) fun b _ ⟨H', I', z⟩ => ⟨H', I', q b H' z⟩
theorem WW.mono {Q Q' : Bool → Hp → Prop} (h : WW X e σ H Q) (q : ∀ v H', Q v H' → Q' v H') : WW X e σ H Q' := fun wh pins s I => thn (h wh pins s I) fun b _ ⟨H', I', z⟩ => ⟨H', I', q b H' z⟩
theorem WTs.mono {Q Q' : Bool → Hp → Prop} (h : WTs X es σ H Q) (q : ∀ v H', Q v H' → Q' v H') : WTs X es σ H Q' := fun pins s I => thn (h pins s I) fun b _ ⟨H', I', z⟩ => ⟨H', I', q b H' z⟩
theorem WA.mono {Q Q' : List V → Hp → Prop} (h : WA X es σ H Q) (q : ∀ v H', Q v H' → Q' v H') : WA X es σ H Q' := fun pos pins s I => thn (h pos pins s I) fun _ _ ⟨v, H', I', r, z⟩ => ⟨v, H', I', r, q v H' z⟩
theorem WI.mono {tg : Expr} {Q Q' : It → Hp → Prop} (h : WI X tg e σ H Q) (q : ∀ v H', Q v H' → Q' v H') : WI X tg e σ H Q' := fun pins s I => thn (h pins s I) fun _ _ z => thn z fun _ _ ⟨it, fp, tn, J, H', a1, a2, a3, a4, a5, a6⟩ => ⟨it, fp, tn, J, H', a1, a2, a3, a4, a5, q J H' a6⟩
theorem SP.mono {pins : List (Addr × Obj)} {D D' : Ends} {f : Flow} {s : Shared} (h : SP X pins D f s) (h1 : ∀ σ H, D.nx σ H → D'.nx σ H) (h2 : ∀ v H, D.rt v H → D'.rt v H) (h3 : ∀ σ H, D.bk σ H → D'.bk σ H) (h4 : ∀ σ H, D.ct σ H → D'.ct σ H) : SP X pins D' f s := by
  cases f with
  | next => obtain ⟨a, b, c, q⟩ := h; exact ⟨a, b, c, h1 _ _ q⟩
  | brk => obtain ⟨a, b, c, q⟩ := h; exact ⟨a, b, c, h3 _ _ q⟩
  | cont => obtain ⟨a, b, c, q⟩ := h; exact ⟨a, b, c, h4 _ _ q⟩
  | ret u => obtain ⟨a, b, c, d, e, q⟩ := h; exact ⟨a, b, c, d, e, h2 _ _ q⟩
theorem WS.mono {D D' : Ends} (h : WS X st D σ H) (h1 : ∀ σ H, D.nx σ H → D'.nx σ H) (h2 : ∀ v H, D.rt v H → D'.rt v H) (h3 : ∀ σ H, D.bk σ H → D'.bk σ H) (h4 : ∀ σ H, D.ct σ H → D'.ct σ H) : WS X st D' σ H := fun pins s I => thn (h pins s I) fun _ _ z => SP.mono z h1 h2 h3 h4
theorem WSs.mono {D D' : Ends} (h : WSs X sts D σ H) (h1 : ∀ σ H, D.nx σ H → D'.nx σ H) (h2 : ∀ v H, D.rt v H → D'.rt v H) (h3 : ∀ σ H, D.bk σ H → D'.bk σ H) (h4 : ∀ σ H, D.ct σ H → D'.ct σ H) : WSs X sts D' σ H := fun pins s I => thn (h pins s I) fun _ _ z => SP.mono z h1 h2 h3 h4
end
def PostD (K : PySem.W.Frag) (r : Reg) (G H : Hp) (Q : D → Prop) : VK := fun v H' => ∃ G' d, Ext r G H G' H' ∧ Q d ∧ Rep K G' d v
def PostL (K : PySem.W.Frag) (r : Reg) (G H : Hp) (Q : List D → Prop) : VK := fun v H' => ∃ G' p vs xs, Ext r G H G' H' ∧ v = .ref p ∧ H p = none ∧ H' p = some (.lst vs) ∧ G' p = none ∧ Q xs ∧ Reps K G' xs vs
def PostB (r : Reg) (G H : Hp) (Q : Bool → Prop) : Bool → Hp → Prop := fun b H' => ∃ G', Ext r G H G' H' ∧ Q b
def PostA (K : PySem.W.Frag) (r : Reg) (G H : Hp) (Q : List D → Prop) : List V → Hp → Prop := fun vs H' => ∃ G' ds, Ext r G H G' H' ∧ Q ds ∧ Reps K G' ds vs
structure DEnds where
  nx : Sto → Prop
  rt : D → Prop
  bk : Sto → Prop := fun _ => False
  ct : Sto → Prop := fun _ => False
def toEnds (K : PySem.W.Frag) (c : Ctx) (G : Hp) (D : DEnds) : Ends where
  nx := fun σ' H' => ∃ G' S', EnvOk K c G' H' σ' S' ∧ Same G G' ∧ D.nx S'
  rt := fun v H' => ∃ G' d, Good c G' H' ∧ Same G G' ∧ D.rt d ∧ Rep K G' d v
  bk := fun σ' H' => ∃ G' S', EnvOk K c G' H' σ' S' ∧ Same G G' ∧ D.bk S'
  ct := fun σ' H' => ∃ G' S', EnvOk K c G' H' σ' S' ∧ Same G G' ∧ D.ct S'
section
variable (c : Ctx) (X : Cx)
def DE (e : Expr) (S : Sto) (Q : D → Prop) : Prop := ∀ G H σ, EnvOk X.K c G H σ S → W X e σ H (PostD X.K c.reg G H Q)
def DF (e : Expr) (S : Sto) (Q : List D → Prop) : Prop := ∀ G H σ, EnvOk X.K c G H σ S → W X e σ H (PostL X.K c.reg G H Q)
def DT (e : Expr) (S : Sto) (Q : Bool → Prop) : Prop := ∀ G H σ, EnvOk X.K c G H σ S → WT X e σ H (PostB c.reg G H Q)
def DW (e : Expr) (S : Sto) (Q : Bool → Prop) : Prop := ∀ G H σ, EnvOk X.K c G H σ S → WW X e σ H (PostB c.reg G H Q)
def DA (es : List Expr) (S : Sto) (Q : List D → Prop) : Prop := ∀ G H σ, EnvOk X.K c G H σ S → WA X es σ H (PostA X.K c.reg G H fun ds => ds.length = es.length ∧ Q ds)
def DS (st : Stmt) (S : Sto) (D : DEnds) : Prop := ∀ G H σ, EnvOk X.K c G H σ S → WS X st (toEnds X.K c G D) σ H
def DSs (sts : List Stmt) (S : Sto) (D : DEnds) : Prop := ∀ G H σ, EnvOk X.K c G H σ S → WSs X sts (toEnds X.K c G D) σ H
end
def RB (K : PySem.W.Frag) (r : Reg) (op : R2) (x y : D) (Q : D → Prop) : Prop :=
  ∀ G H vx vy (Z : VK), Same G H → r.J H → Rep K G x vx → Rep K G y vy → (∀ v H', PostD K r G H Q v H' → Z v H') → op vx vy H Z
def RU (K : PySem.W.Frag) (r : Reg) (op : V → Hp → VK → Prop) (x : D) (Q : D → Prop) : Prop :=
  ∀ G H vx (Z : VK), Same G H → r.J H → Rep K G x vx → (∀ v H', PostD K r G H Q v H' → Z v H') → op vx H Z
def RC (K : PySem.W.Frag) (r : Reg) (op : List V → Hp → VK → Prop) (xs : List D) (Q : D → Prop) : Prop :=
  ∀ G H vs (Z : VK), Same G H → r.J H → Reps K G xs vs → (∀ v H', PostD K r G H Q v H' → Z v H') → op vs H Z
def RBL (K : PySem.W.Frag) (r : Reg) (op : R2) (x y : D) (Q : List D → Prop) : Prop :=
  ∀ G H vx vy (Z : VK), Same G H → r.J H → Rep K G x vx → Rep K G y vy → (∀ v H', PostL K r G H Q v H' → Z v H') → op vx vy H Z
def RCL (K : PySem.W.Frag) (r : Reg) (op : List V → Hp → VK → Prop) (xs : List D) (Q : List D → Prop) : Prop :=
  ∀ G H vs (Z : VK), Same G H → r.J H → Reps K G xs vs → (∀ v H', PostL K r G H Q v H' → Z v H') → op vs H Z
section
variable {c : Ctx} {X : Cx} {a b e : Expr} {es : List Expr} {S : Sto} {Q Q' : D → Prop} {pos : Pos}
theorem PostD.trans {K : PySem.W.Frag} {r : Reg} {G H G1 H1 : Hp} {v : V} {H' : Hp} (j : r.J H) (x : Ext r G H G1 H1) (h : PostD K r G1 H1 Q v H') : PostD K r G H Q v H' := by
  obtain ⟨G', d, e, q, t⟩ := h
  exact ⟨G', d, x.trans e j, q, t⟩
theorem PostL.trans {K : PySem.W.Frag} {r : Reg} {G H G1 H1 : Hp} {v : V} {H' : Hp} {Q : List D → Prop} (j : r.J H) (x : Ext r G H G1 H1) (h : PostL K r G1 H1 Q v H') : PostL K r G H Q v H' := by
  obtain ⟨G', p, vs, xs, e, e1, e2, e3, e4, q, t⟩ := h
  refine ⟨G', p, vs, xs, x.trans e j, e1, ?_, e3, e4, q, t⟩
  cases z : H p with
  | none => rfl
  | some o =>
    by_cases m : r.mem p
    · exact absurd e2 (Reg.trk x.reg m)
    · rw [x.same p o m z] at e2; cases e2
theorem PostB.trans {r : Reg} {G H G1 H1 : Hp} {b : Bool} {H' : Hp} {Q : Bool → Prop} (j : r.J H) (x : Ext r G H G1 H1) (h : PostB r G1 H1 Q b H') : PostB r G H Q b H' := by
  obtain ⟨G', e, q⟩ := h
  exact ⟨G', x.trans e j, q⟩
theorem PostA.trans {K : PySem.W.Frag} {r : Reg} {G H G1 H1 : Hp} {v : List V} {H' : Hp} {Q : List D → Prop} (j : r.J H) (x : Ext r G H G1 H1) (h : PostA K r G1 H1 Q v H') : PostA K r G H Q v H' := by
  obtain ⟨G', d, e, q, t⟩ := h
  exact ⟨G', d, x.trans e j, q, t⟩
theorem DE.mono (h : DE c X e S Q) (q : ∀ d, Q d → Q' d) : DE c X e S Q' := fun G H σ E => (h G H σ E).mono fun _ _ ⟨G', d, x, z, r⟩ => ⟨G', d, x, q d z, r⟩
theorem DF.mono {Q Q' : List D → Prop} (h : DF c X e S Q) (q : ∀ d, Q d → Q' d) : DF c X e S Q' := fun G H σ E => (h G H σ E).mono fun _ _ ⟨G', p, vs, xs, x, e1, e2, e3, e4, z, r⟩ => ⟨G', p, vs, xs, x, e1, e2, e3, e4, q xs z, r⟩
theorem DT.mono {Q Q' : Bool → Prop} (h : DT c X e S Q) (q : ∀ d, Q d → Q' d) : DT c X e S Q' := fun G H σ E => (h G H σ E).mono fun b _ ⟨G', x, z⟩ => ⟨G', x, q b z⟩
theorem DA.mono {Q Q' : List D → Prop} (h : DA c X es S Q) (q : ∀ d, Q d → Q' d) : DA c X es S Q' := fun G H σ E => (h G H σ E).mono fun _ _ ⟨G', d, x, z, r⟩ => ⟨G', d, x, ⟨z.1, q d z.2⟩, r⟩
theorem PostL.d {K : PySem.W.Frag} {r : Reg} {G H : Hp} {v : V} {H' : Hp} (h : PostL K r G H (fun xs => Q (.lst xs)) v H') : PostD K r G H Q v H' := by
  obtain ⟨G', p, vs, xs, e, rfl, e2, e3, e4, q, t⟩ := h
  have up : Same G' (upd G' p (.lst vs)) := fun b o z => by rw [upd_ne (ne_of_none z e4)]; exact z
  refine ⟨upd G' p (.lst vs), .lst xs, ⟨e.up.trans up, fun b o z => ?_, e.same, fun b hb => ?_, e.reg⟩, q, rep_lst.mpr ⟨p, vs, rfl, .inl upd_same, t.mono up⟩⟩
  · by_cases hb : b = p
    · subst hb; rw [upd_same] at z; cases z; exact e3
    · rw [upd_ne hb] at z; exact e.sub b o z
  · have hb' : b ≠ p := fun z => hb (z ▸ e2)
    rw [upd_ne hb']; exact e.old b hb
theorem de_fresh (h : DF c X e S fun xs => Q (.lst xs)) : DE c X e S Q := fun G H σ E => (h G H σ E).mono fun _ _ z => z.d
theorem de_var {x : Str} {d : D} (i : Nat) (hN : X.N[i]? = some x) (hv : Vis X.env.scope x) (hS : S[i]? = some (.d d)) (q : Q d) (hd : (x == ("__debug__" : Str)) = false := by decide) (hcd : (x == ("__classdict__" : Str)) = false := by decide) :
    DE c X (.Name x pos) S Q := fun G H σ E => by
  obtain ⟨v, e, r⟩ := E.d hS
  exact W.of (pe_var hN hv hd hcd) ⟨v, e, G, d, E.ext0, q, r⟩
theorem postC {K : PySem.W.Frag} {r : Reg} {G H : Hp} {d : D} {v : V} (s : Same G H) (j : r.J H) (q : Q d) (h : Rep K G d v) : PostD K r G H Q v H := ⟨G, d, Ext.refl s j, q, h⟩
theorem de_int {i : Int} {j : Nat} (q : Q (.int i)) : DE c X (.Constant (.int i) j pos) S Q := fun G H σ E => W.of pe_int (postC E.sub E.j q (rep_int.mpr rfl))
theorem de_bl {i : Bool} {j : Nat} (q : Q (.bl i)) : DE c X (.Constant (.bool i) j pos) S Q := fun G H σ E => W.of pe_bl (postC E.sub E.j q (rep_bl.mpr rfl))
theorem de_non {j : Nat} (q : Q .non) : DE c X (.Constant .none j pos) S Q := fun G H σ E => W.of pe_non (postC E.sub E.j q (rep_non.mpr rfl))
theorem de_str {x : Str} {j : Nat} (q : Q (.str x)) : DE c X (.Constant (.str x) j pos) S Q := fun G H σ E => W.of pe_str (postC E.sub E.j q (rep_str.mpr rfl))
theorem de_glob {x : Str} {u : Value} {d : D} {v : V} (hg : Gl X x) (hm : X.mg x = some u) (r : RelV v u) (hr : ∀ G, Rep X.K G d v) (q : Q d) (hd : (x == ("__debug__" : Str)) = false := by decide) : DE c X (.Name x pos) S Q :=
  fun G H σ E => W.of (pe_glob hg hm r hd) (postC E.sub E.j q (hr G))
theorem de_gint {x : Str} {i : Int} {t : Tok} (hm : X.mg x = some (.int i t)) (hg : Gl X x) (q : Q (.int i)) (hd : (x == ("__debug__" : Str)) = false := by decide) : DE c X (.Name x pos) S Q :=
  de_glob hg hm (v := .int i) ⟨_, rfl⟩ (fun _ => rep_int.mpr rfl) q hd
theorem de_gstr {x : Str} {i : Str} {t : Tok} (hm : X.mg x = some (.str i t)) (hg : Gl X x) (q : Q (.str i)) (hd : (x == ("__debug__" : Str)) = false := by decide) : DE c X (.Name x pos) S Q :=
  de_glob hg hm (v := .str i) ⟨_, rfl⟩ (fun _ => rep_str.mpr rfl) q hd
theorem de_bltn {x : Str} {n : String} (hm : X.mg x = none) (hg : Gl X x) (hv : bootBuiltins x = some (.type n)) (q : Q (.ty n)) (hn : x ≠ "__name__" := by decide) (hd : (x == ("__debug__" : Str)) = false := by decide) : DE c X (.Name x pos) S Q :=
  fun G H σ E => W.of (pe_bltn (v := .ty n) hg hm hv rfl hn hd) (postC E.sub E.j q (rep_ty.mpr rfl))
theorem bin_go {r : R2} {G H : Hp} {σ : L2.St} (E : EnvOk X.K c G H σ S) (h : DE c X a S fun x => DE c X b S fun y => RB X.K c.reg r x y Q) : tOp r (W X a) (W X b) σ H (PostD X.K c.reg G H Q) := by
  refine (h G H σ E).mono fun vx H1 ⟨G1, x, e1, hx, rx⟩ => ?_
  refine (hx G1 H1 σ (E.ext e1)).mono fun vy H2 ⟨G2, y, e2, hy, ry⟩ => ?_
  exact hy G2 H2 vx vy _ e2.sub e2.reg (rx.mono e2.up) ry fun v H' z => PostD.trans E.j (e1.trans e2 E.j) z
theorem bin_goL {r : R2} {Q : List D → Prop} {G H : Hp} {σ : L2.St} (E : EnvOk X.K c G H σ S) (h : DE c X a S fun x => DE c X b S fun y => RBL X.K c.reg r x y Q) : tOp r (W X a) (W X b) σ H (PostL X.K c.reg G H Q) := by
  refine (h G H σ E).mono fun vx H1 ⟨G1, x, e1, hx, rx⟩ => ?_
  refine (hx G1 H1 σ (E.ext e1)).mono fun vy H2 ⟨G2, y, e2, hy, ry⟩ => ?_
  exact hy G2 H2 vx vy _ e2.sub e2.reg (rx.mono e2.up) ry fun v H' z => PostL.trans E.j (e1.trans e2 E.j) z
theorem de_bin {op : Operator} {r : R2} (ho : OpR X (binaryOp op) r) (h : DE c X a S fun x => DE c X b S fun y => RB X.K c.reg r x y Q) : DE c X (.BinOp a op b pos) S Q :=
  fun G H σ E => W.of (pe_op ho pe_W pe_W) (bin_go E h)
theorem df_bin {op : Operator} {r : R2} {Q : List D → Prop} (ho : OpR X (binaryOp op) r) (h : DE c X a S fun x => DE c X b S fun y => RBL X.K c.reg r x y Q) : DF c X (.BinOp a op b pos) S Q :=
  fun G H σ E => W.of (pe_op ho pe_W pe_W) (bin_goL E h)
theorem de_cmp {op : CmpOp} {r : R2} (ho : OpR X (compareOp op) r) (hm : behindInMarks op b = false) (h : DE c X a S fun x => DE c X b S fun y => RB X.K c.reg r x y Q) : DE c X (.Compare a [op] [b] pos) S Q :=
  fun G H σ E => W.of (pe_cmpR ho pe_W pe_W hm) (bin_go E h)
theorem dt_cmp {op : CmpOp} {r : R2} {Q : Bool → Prop} (ho : OpR X (compareOp op) r) (hm : behindInMarks op b = false) (h : DE c X a S fun x => DE c X b S fun y => RB X.K c.reg r x y fun d => ∃ k, d = .bl k ∧ Q k) : DT c X (.Compare a [op] [b] pos) S Q :=
  fun G H σ E => WT.of (pt_cmpR ho pe_W pe_W hm) (by
    refine (h G H σ E).mono fun vx H1 ⟨G1, x, e1, hx, rx⟩ => ?_
    refine (hx G1 H1 σ (E.ext e1)).mono fun vy H2 ⟨G2, y, e2, hy, ry⟩ => ?_
    refine hy G2 H2 vx vy _ e2.sub e2.reg (rx.mono e2.up) ry fun v H' z => ?_
    obtain ⟨G', d, x', ⟨k, rfl, q⟩, rd⟩ := z
    exact ⟨k, rep_bl.mp rd, G', (e1.trans e2 E.j).trans x' E.j, q⟩)
theorem de_un {op : UnaryOp} {r : V → Hp → VK → Prop} (ho : UnR X (unaryOp op) r) (h : DE c X a S fun x => RU X.K c.reg r x Q) : DE c X (.UnaryOp op a pos) S Q :=
  fun G H σ E => W.of (pe_un ho pe_W) (by
    refine (h G H σ E).mono fun vx H1 ⟨G1, x, e1, hx, rx⟩ => ?_
    exact hx G1 H1 vx _ e1.sub e1.reg rx fun v H' z => PostD.trans E.j e1 z)
section
variable {K : PySem.W.Frag} {r : Reg} {x y : D}
theorem rb_I0 {f : Int → Int → Int} (h : ∃ i j, x = .int i ∧ y = .int j ∧ Q (.int (f i j))) : RB K r (rI0 fun i j => .int (f i j)) x y Q := by
  obtain ⟨i, j, rfl, rfl, q⟩ := h
  exact fun G H vx vy Z s jj rx ry z => ⟨i, j, rep_int.mp rx, rep_int.mp ry, z _ _ (postC s jj q (rep_int.mpr rfl))⟩
theorem rb_I {C : Int → Int → Prop} {f : Int → Int → Int} (h : ∃ i j, x = .int i ∧ y = .int j ∧ C i j ∧ Q (.int (f i j))) : RB K r (rI C fun i j => .int (f i j)) x y Q := by
  obtain ⟨i, j, rfl, rfl, hc, q⟩ := h
  exact fun G H vx vy Z s jj rx ry z => ⟨i, j, rep_int.mp rx, rep_int.mp ry, hc, z _ _ (postC s jj q (rep_int.mpr rfl))⟩
theorem rb_B0 {f : Int → Int → Bool} (h : ∃ i j, x = .int i ∧ y = .int j ∧ Q (.bl (f i j))) : RB K r (rI0 fun i j => .bl (f i j)) x y Q := by
  obtain ⟨i, j, rfl, rfl, q⟩ := h
  exact fun G H vx vy Z s jj rx ry z => ⟨i, j, rep_int.mp rx, rep_int.mp ry, z _ _ (postC s jj q (rep_bl.mpr rfl))⟩
end
theorem de_add (h : DE c X a S fun x => DE c X b S fun y => ∃ i j, x = .int i ∧ y = .int j ∧ Q (.int (i + j))) : DE c X (.BinOp a .Add b pos) S Q := de_bin op_add (h.mono fun _ h => h.mono fun _ h => rb_I0 h)
theorem de_sub (h : DE c X a S fun x => DE c X b S fun y => ∃ i j, x = .int i ∧ y = .int j ∧ Q (.int (i - j))) : DE c X (.BinOp a .Sub b pos) S Q := de_bin op_sub (h.mono fun _ h => h.mono fun _ h => rb_I0 h)
theorem de_mul (h : DE c X a S fun x => DE c X b S fun y => ∃ i j, x = .int i ∧ y = .int j ∧ CMul i j ∧ Q (.int (i * j))) : DE c X (.BinOp a .Mult b pos) S Q := de_bin op_mul (h.mono fun _ h => h.mono fun _ h => rb_I h)
theorem de_fdiv (h : DE c X a S fun x => DE c X b S fun y => ∃ i j, x = .int i ∧ y = .int j ∧ CDivN i j ∧ Q (.int (i.fdiv j))) : DE c X (.BinOp a .FloorDiv b pos) S Q := de_bin op_fdivN (h.mono fun _ h => h.mono fun _ h => rb_I h)
theorem de_mod (h : DE c X a S fun x => DE c X b S fun y => ∃ i j, x = .int i ∧ y = .int j ∧ j ≠ 0 ∧ Q (.int (i.fmod j))) : DE c X (.BinOp a .Mod b pos) S Q := de_bin op_modN (h.mono fun _ h => h.mono fun _ h => rb_I h)
theorem de_pow (h : DE c X a S fun x => DE c X b S fun y => ∃ i j, x = .int i ∧ y = .int j ∧ CPow i j ∧ Q (.int (i ^ j.toNat))) : DE c X (.BinOp a .Pow b pos) S Q := de_bin op_pow (h.mono fun _ h => h.mono fun _ h => rb_I h)
theorem de_lt (h : DE c X a S fun x => DE c X b S fun y => ∃ i j, x = .int i ∧ y = .int j ∧ Q (.bl (decide (i < j)))) : DE c X (.Compare a [.Lt] [b] pos) S Q := de_cmp op_lt (nomark _) (h.mono fun _ h => h.mono fun _ h => rb_B0 h)
theorem de_le (h : DE c X a S fun x => DE c X b S fun y => ∃ i j, x = .int i ∧ y = .int j ∧ Q (.bl (decide (i ≤ j)))) : DE c X (.Compare a [.LtE] [b] pos) S Q := de_cmp op_le (nomark _) (h.mono fun _ h => h.mono fun _ h => rb_B0 h)
theorem de_gt (h : DE c X a S fun x => DE c X b S fun y => ∃ i j, x = .int i ∧ y = .int j ∧ Q (.bl (decide (j < i)))) : DE c X (.Compare a [.Gt] [b] pos) S Q := de_cmp op_gt (nomark _) (h.mono fun _ h => h.mono fun _ h => rb_B0 h)
theorem de_ge (h : DE c X a S fun x => DE c X b S fun y => ∃ i j, x = .int i ∧ y = .int j ∧ Q (.bl (decide (j ≤ i)))) : DE c X (.Compare a [.GtE] [b] pos) S Q := de_cmp op_ge (nomark _) (h.mono fun _ h => h.mono fun _ h => rb_B0 h)
theorem de_neg (h : DE c X a S fun x => ∃ i, x = .int i ∧ Q (.int (-i))) : DE c X (.UnaryOp .USub a pos) S Q := de_un un_neg (h.mono fun _ ⟨i, e, q⟩ => by
  subst e
  exact fun G H vx Z s j rx z => ⟨i, rep_int.mp rx, z _ _ (postC s j q (rep_int.mpr rfl))⟩)
theorem dt_val {Q : Bool → Prop} (h : DE c X e S fun d => ∃ k, d = .bl k ∧ Q k) (he : ∀ whole, isTrue e X.env whole = (do let v ← whole; standAt e.pos; holding [v] (truthy v)) := by intro _; rfl) : DT c X e S Q := fun G H σ E => WT.of (pt_val pe_W he) (by
  refine (h G H σ E).mono fun v H1 ⟨G1, d, e1, ⟨k, ed, q⟩, rd⟩ => ?_
  subst ed
  exact ⟨k, rep_bl.mp rd, G1, e1, q⟩)
section
variable {Q : Bool → Prop}
theorem dt_cI {op : CmpOp} {p : Int → Int → Bool} (ho : OpR X (compareOp op) (rI0 fun i j => .bl (p i j))) (hm : behindInMarks op b = false) (h : DE c X a S fun x => DE c X b S fun y => ∃ i j, x = .int i ∧ y = .int j ∧ Q (p i j)) : DT c X (.Compare a [op] [b] pos) S Q :=
  dt_cmp ho hm (h.mono fun _ h => h.mono fun _ ⟨i, j, e1, e2, q⟩ => rb_B0 ⟨i, j, e1, e2, _, rfl, q⟩)
theorem dt_lt (h : DE c X a S fun x => DE c X b S fun y => ∃ i j, x = .int i ∧ y = .int j ∧ Q (decide (i < j))) : DT c X (.Compare a [.Lt] [b] pos) S Q := dt_cI op_lt (nomark _) h
theorem dt_le (h : DE c X a S fun x => DE c X b S fun y => ∃ i j, x = .int i ∧ y = .int j ∧ Q (decide (i ≤ j))) : DT c X (.Compare a [.LtE] [b] pos) S Q := dt_cI op_le (nomark _) h
theorem dt_gt (h : DE c X a S fun x => DE c X b S fun y => ∃ i j, x = .int i ∧ y = .int j ∧ Q (decide (j < i))) : DT c X (.Compare a [.Gt] [b] pos) S Q := dt_cI op_gt (nomark _) h
theorem dt_ge (h : DE c X a S fun x => DE c X b S fun y => ∃ i j, x = .int i ∧ y = .int j ∧ Q (decide (j ≤ i))) : DT c X (.Compare a [.GtE] [b] pos) S Q := dt_cI op_ge (nomark _) h
theorem dt_not (h : DT c X a S fun k => Q (!k)) : DT c X (.UnaryOp .Not a pos) S Q := fun G H σ E => WT.of (pt_not pt_W) ((h G H σ E).mono fun b H' ⟨G', x, q⟩ => ⟨G', x, q⟩)
theorem dt_whole (h : DW c X e S Q) : DT c X e S Q := fun G H σ E => WT.of pw_W.pt (h G H σ E)
theorem dw_and1 (h : DT c X a S Q) : DW c X (.BoolOp .And [a] pos) S Q := fun G H σ E => WW.of (pw_and1 pt_W) (h G H σ E)
theorem dw_or1 (h : DT c X a S Q) : DW c X (.BoolOp .Or [a] pos) S Q := fun G H σ E => WW.of (pw_or1 pt_W) (h G H σ E)
theorem dw_and {rest : List Expr} (h : DT c X a S fun k => (k = true → DW c X (.BoolOp .And (b :: rest) pos) S Q) ∧ (k = false → Q false)) : DW c X (.BoolOp .And (a :: b :: rest) pos) S Q :=
  fun G H σ E => WW.of (pw_and pt_W pw_W) ((h G H σ E).mono fun k H1 ⟨G1, x, q1, q2⟩ => by
    cases k with
    | true => exact iteT ((q1 rfl G1 H1 σ (E.ext x)).mono fun _ _ z => PostB.trans E.j x z)
    | false => exact iteF ⟨G1, x, q2 rfl⟩)
theorem dw_or {rest : List Expr} (h : DT c X a S fun k => (k = false → DW c X (.BoolOp .Or (b :: rest) pos) S Q) ∧ (k = true → Q true)) : DW c X (.BoolOp .Or (a :: b :: rest) pos) S Q :=
  fun G H σ E => WW.of (pw_or pt_W pw_W) ((h G H σ E).mono fun k H1 ⟨G1, x, q1, q2⟩ => by
    cases k with
    | false => exact iteF ((q1 rfl G1 H1 σ (E.ext x)).mono fun _ _ z => PostB.trans E.j x z)
    | true => exact iteT ⟨G1, x, q2 rfl⟩)
end
theorem de_one {op : BoolOp} (h : DE c X a S Q) : DE c X (.BoolOp op [a] pos) S Q := fun G H σ E => W.of (pe_one pe_W) (h G H σ E)
theorem de_and {rest : List Expr} (h : DE c X a S fun d => ∃ k, d = .bl k ∧ (k = true → DE c X (.BoolOp .And (b :: rest) pos) S Q) ∧ (k = false → Q (.bl false))) : DE c X (.BoolOp .And (a :: b :: rest) pos) S Q :=
  fun G H σ E => W.of (pe_and pe_W pe_W) ((h G H σ E).mono fun v H1 ⟨G1, d, x, ⟨k, e, q1, q2⟩, rd⟩ => by
    subst e
    refine ⟨k, rep_bl.mp rd, ?_⟩
    cases k with
    | true => exact iteT ((q1 rfl G1 H1 σ (E.ext x)).mono fun _ _ z => PostD.trans E.j x z)
    | false => exact iteF ⟨G1, _, x, q2 rfl, rep_bl.mpr rfl⟩)
theorem de_or {rest : List Expr} (h : DE c X a S fun d => ∃ k, d = .bl k ∧ (k = false → DE c X (.BoolOp .Or (b :: rest) pos) S Q) ∧ (k = true → Q (.bl true))) : DE c X (.BoolOp .Or (a :: b :: rest) pos) S Q :=
  fun G H σ E => W.of (pe_or pe_W pe_W) ((h G H σ E).mono fun v H1 ⟨G1, d, x, ⟨k, e, q1, q2⟩, rd⟩ => by
    subst e
    refine ⟨k, rep_bl.mp rd, ?_⟩
    cases k with
    | false => exact iteF ((q1 rfl G1 H1 σ (E.ext x)).mono fun _ _ z => PostD.trans E.j x z)
    | true => exact iteT ⟨G1, _, x, q2 rfl, rep_bl.mpr rfl⟩)
theorem de_not (h : DE c X a S fun d => ∃ k, d = .bl k ∧ Q (.bl (!k))) : DE c X (.UnaryOp .Not a pos) S Q :=
  fun G H σ E => W.of (pe_not pe_W) ((h G H σ E).mono fun v H1 ⟨G1, d, x, ⟨k, e, q⟩, rd⟩ => by
    subst e
    exact ⟨k, rep_bl.mp rd, G1, _, x, q, rep_bl.mpr rfl⟩)
theorem de_if {t : Expr} (h : DT c X t S fun k => (k = true → DE c X a S Q) ∧ (k = false → DE c X b S Q)) : DE c X (.IfExp t a b pos) S Q :=
  fun G H σ E => W.of (pe_ifExp pt_W pe_W pe_W) ((h G H σ E).mono fun k H1 ⟨G1, x, q1, q2⟩ => by
    cases k with
    | true => exact iteT ((q1 rfl G1 H1 σ (E.ext x)).mono fun _ _ z => PostD.trans E.j x z)
    | false => exact iteF ((q2 rfl G1 H1 σ (E.ext x)).mono fun _ _ z => PostD.trans E.j x z))
theorem dt_cut {t : Expr} {Q Q' : Bool → Prop} (h : DT c X t S Q) (q : ∀ k, Q k → Q' k) : DT c X t S Q' := h.mono q
theorem da_nil {Q : List D → Prop} (q : Q []) : DA c X [] S Q := fun G H σ E => WA.of pa_nil ⟨G, [], E.ext0, ⟨rfl, q⟩, reps_nil⟩
theorem da_cons {Q : List D → Prop} (h : DE c X e S fun d => DA c X es S fun ds => Q (d :: ds)) (hs : starEach (e :: es) X.env = (false, eval e X.env) :: starEach es X.env := by rfl) : DA c X (e :: es) S Q :=
  fun G H σ E => WA.of (pa_cons pe_W pa_W hs) ((h G H σ E).mono fun vx H1 ⟨G1, x, e1, hx, rx⟩ => (hx G1 H1 σ (E.ext e1)).mono fun vs H2 ⟨G2, ds, e2, hy, ry⟩ =>
    ⟨G2, x :: ds, e1.trans e2 E.j, ⟨by rw [List.length_cons, List.length_cons, hy.1], hy.2⟩, reps_cons (rx.mono e2.up) ry⟩)
theorem few {n m : Nat} (h : n = m) (hm : m ≤ 1000) : n ≤ sizeLine := by rw [sizeLine_eq]; omega
theorem de_tup {x1 : Nat} (h : DA c X es S fun ds => Q (.tup ds)) (hl : es.length ≤ 1000 := by decide) : DE c X (.Tuple es x1 pos) S Q :=
  fun G H σ E => W.of (pe_tup pa_W) ((h G H σ E).mono fun vs H1 ⟨G1, ds, e1, ⟨l, q⟩, rs⟩ => ⟨few (rs.length.trans l) hl, fun p hp =>
    ⟨upd G1 p (.tup vs), .tup ds, e1.trans (Ext.new e1.sub e1.reg hp) E.j, q, rep_tup.mpr ⟨p, vs, rfl, SqT.of upd_same, rs.mono (Ext.new e1.sub e1.reg hp).up⟩⟩⟩)
theorem df_lst {Q : List D → Prop} (h : DA c X es S Q) (hl : es.length ≤ 1000 := by decide) : DF c X (.List es pos) S Q :=
  fun G H σ E => W.of (pe_lst pa_W) ((h G H σ E).mono fun vs H1 ⟨G1, ds, e1, ⟨l, q⟩, rs⟩ => ⟨few (rs.length.trans l) hl, fun p hp => by
    have x := Ext.new' (o := .lst vs) e1.sub e1.reg hp
    refine PostL.trans E.j e1 ⟨G1, p, vs, ds, x, rfl, hp, upd_same, e1.sub.free hp, q, rs⟩⟩)
end
end DL
set_option Elab.async false
set_option linter.all false
set_option maxRecDepth 100000
set_option maxHeartbeats 1000000
namespace DL
open PySem PySem.Spec L2
section
variable {c : Ctx} {X : Cx} {a b e : Expr} {es : List Expr} {S : Sto} {Q Q' : D → Prop} {pos : Pos}
theorem de_callB {x : Str} {id : String} {r : List V → Hp → VK → Prop} {p : Pos} (hc : CallR X (.builtin id) r) (hm : X.mg x = none) (hg : Gl X x) (hv : bootBuiltins x = some (.builtin id))
    (h : DA c X (e :: es) S fun ds => RC X.K c.reg r ds Q) (hn : x ≠ "__name__" := by decide) (hdb : (x == ("__debug__" : Str)) = false := by decide)
    (he : starEach (e :: es) X.env = (false, eval e X.env) :: starEach es X.env := by rfl) (hpl : (backTo pos (starEach es X.env)).any (·.1) = false := by rfl) : DE c X (.Call (.Name x p) (e :: es) [] pos) S Q :=
  fun G H σ E => W.of (pe_callB hc hg hm hv pa_W hn hdb he hpl) ((h G H σ E).mono fun vs H1 ⟨G1, ds, e1, ⟨_, q⟩, rs⟩ => q G1 H1 vs _ e1.sub e1.reg rs fun v H' z => PostD.trans E.j e1 z)
theorem df_callB {x : Str} {id : String} {r : List V → Hp → VK → Prop} {p : Pos} {Q : List D → Prop} (hc : CallR X (.builtin id) r) (hm : X.mg x = none) (hg : Gl X x) (hv : bootBuiltins x = some (.builtin id))
    (h : DA c X (e :: es) S fun ds => RCL X.K c.reg r ds Q) (hn : x ≠ "__name__" := by decide) (hdb : (x == ("__debug__" : Str)) = false := by decide)
    (he : starEach (e :: es) X.env = (false, eval e X.env) :: starEach es X.env := by rfl) (hpl : (backTo pos (starEach es X.env)).any (·.1) = false := by rfl) : DF c X (.Call (.Name x p) (e :: es) [] pos) S Q :=
  fun G H σ E => W.of (pe_callB hc hg hm hv pa_W hn hdb he hpl) ((h G H σ E).mono fun vs H1 ⟨G1, ds, e1, ⟨_, q⟩, rs⟩ => q G1 H1 vs _ e1.sub e1.reg rs fun v H' z => PostL.trans E.j e1 z)
theorem de_callTy {x : Str} {T : String} {r : List V → Hp → VK → Prop} {p : Pos} (hc : CallR X (.type T) r) (hm : X.mg x = none) (hg : Gl X x) (hv : bootBuiltins x = some (.type T))
    (h : DA c X (e :: es) S fun ds => RC X.K c.reg r ds Q) (hn : x ≠ "__name__" := by decide) (hdb : (x == ("__debug__" : Str)) = false := by decide)
    (he : starEach (e :: es) X.env = (false, eval e X.env) :: starEach es X.env := by rfl) (hpl : (backTo pos (starEach es X.env)).any (·.1) = false := by rfl) : DE c X (.Call (.Name x p) (e :: es) [] pos) S Q :=
  fun G H σ E => W.of (pe_callTy hc hg hm hv pa_W hn hdb he hpl) ((h G H σ E).mono fun vs H1 ⟨G1, ds, e1, ⟨_, q⟩, rs⟩ => q G1 H1 vs _ e1.sub e1.reg rs fun v H' z => PostD.trans E.j e1 z)
theorem df_callTy {x : Str} {T : String} {r : List V → Hp → VK → Prop} {p : Pos} {Q : List D → Prop} (hc : CallR X (.type T) r) (hm : X.mg x = none) (hg : Gl X x) (hv : bootBuiltins x = some (.type T))
    (h : DA c X (e :: es) S fun ds => RCL X.K c.reg r ds Q) (hn : x ≠ "__name__" := by decide) (hdb : (x == ("__debug__" : Str)) = false := by decide)
    (he : starEach (e :: es) X.env = (false, eval e X.env) :: starEach es X.env := by rfl) (hpl : (backTo pos (starEach es X.env)).any (·.1) = false := by rfl) : DF c X (.Call (.Name x p) (e :: es) [] pos) S Q :=
  fun G H σ E => W.of (pe_callTy hc hg hm hv pa_W hn hdb he hpl) ((h G H σ E).mono fun vs H1 ⟨G1, ds, e1, ⟨_, q⟩, rs⟩ => q G1 H1 vs _ e1.sub e1.reg rs fun v H' z => PostL.trans E.j e1 z)
section
variable {K : PySem.W.Frag} {r : Reg} {ds : List D}
theorem reps1 {G : Hp} {d : D} {vs : List V} (h : Reps K G [d] vs) : ∃ v, vs = [v] ∧ Rep K G d v := by
  obtain ⟨v, ws, rfl, h1, h2⟩ := reps_consE h
  rw [reps_nilE h2]; exact ⟨v, rfl, h1⟩
theorem reps2 {G : Hp} {d e : D} {vs : List V} (h : Reps K G [d, e] vs) : ∃ v w, vs = [v, w] ∧ Rep K G d v ∧ Rep K G e w := by
  obtain ⟨v, ws, rfl, h1, h2⟩ := reps_consE h
  obtain ⟨w, rfl, h3⟩ := reps1 h2
  exact ⟨v, w, rfl, h1, h3⟩
def LenD : D → Nat → Prop
  | .lst xs, n => n = xs.length
  | .tup xs, n => n = xs.length
  | .str y, n => y.length ≤ sizeLine ∧ n = y.length
  | _, _ => False
theorem rep_len {G : Hp} {d : D} {v : V} {n : Nat} (h : Rep K G d v) (l : LenD d n) : LenV K v G n := by
  cases d with
  | lst xs =>
    obtain ⟨a, vs, rfl, q, rs⟩ := rep_lst.mp h
    exact .inl ⟨vs, Or.inl q, by rw [rs.length]; exact l⟩
  | tup xs =>
    obtain ⟨a, vs, rfl, q, rs⟩ := rep_tup.mp h
    exact .inr ⟨vs, q, by rw [rs.length]; exact l⟩
  | str y => rw [rep_str.mp h]; exact l
  | _ => exact False.elim l
theorem lenV_mono {G H : Hp} {v : V} {n : Nat} (s : Same G H) (h : LenV K v G n) : LenV K v H n := by
  cases v with
  | ref p =>
    rcases h with ⟨xs, q, e⟩ | ⟨xs, q, e⟩
    · exact .inl ⟨xs, s.seq q, e⟩
    · exact .inr ⟨xs, seqT_mono s q, e⟩
  | _ => exact h
end
theorem de_len {x : Expr} {p : Pos} (hm : X.mg "len" = none) (hg : Gl X "len") (h : DE c X x S fun d => ∃ n, LenD d n ∧ Q (.int n))
    (he : starEach [x] X.env = (false, eval x X.env) :: starEach [] X.env := by rfl) (hpl : (backTo pos (starEach [] X.env)).any (·.1) = false := by rfl) : DE c X (.Call (.Name "len" p) [x] [] pos) S Q :=
  de_callB call_len hm hg PySem.boot_len (da_cons (h.mono fun d ⟨n, l, q⟩ => da_nil fun G H vs Z s j rs z => by
    obtain ⟨v, rfl, rd⟩ := reps1 rs
    exact ⟨v, n, rfl, lenV_mono s (rep_len rd l), z _ _ (postC s j q (rep_int.mpr rfl))⟩) he) (by decide) (by decide) he hpl
theorem de_int1 {x : Expr} {p : Pos} (hm : X.mg "int" = none) (hg : Gl X "int") (h : DE c X x S fun d => ∃ n, d = .int n ∧ Q (.int n))
    (he : starEach [x] X.env = (false, eval x X.env) :: starEach [] X.env := by rfl) (hpl : (backTo pos (starEach [] X.env)).any (·.1) = false := by rfl) : DE c X (.Call (.Name "int" p) [x] [] pos) S Q :=
  de_callTy call_int1 hm hg PyProof.Rows.boot_int (da_cons (h.mono fun d ⟨n, e, q⟩ => da_nil fun G H vs Z s j rs z => by
    subst e
    obtain ⟨v, rfl, rd⟩ := reps1 rs
    exact .inl ⟨n, by rw [rep_int.mp rd], z _ _ (postC s j q (rep_int.mpr rfl))⟩) he) (by decide) (by decide) he hpl
theorem de_abs {x : Expr} {p : Pos} (hm : X.mg "abs" = none) (hg : Gl X "abs") (h : DE c X x S fun d => ∃ n : Int, d = .int n ∧ Q (.int (n.natAbs : Int)))
    (he : starEach [x] X.env = (false, eval x X.env) :: starEach [] X.env := by rfl) (hpl : (backTo pos (starEach [] X.env)).any (·.1) = false := by rfl) : DE c X (.Call (.Name "abs" p) [x] [] pos) S Q :=
  de_callB call_abs hm hg PyProof.Rows.boot_abs (da_cons (h.mono fun d ⟨n, e, q⟩ => da_nil fun G H vs Z s j rs z => by
    subst e
    obtain ⟨v, rfl, rd⟩ := reps1 rs
    have en : (if n < 0 then -n else n) = (n.natAbs : Int) := by split <;> omega
    exact ⟨n, by rw [rep_int.mp rd], by rw [en]; exact z _ _ (postC s j q (rep_int.mpr rfl))⟩) he) (by decide) (by decide) he hpl
theorem de_max2 {x y : Expr} {p : Pos} (hc : X.calm = true) (hm : X.mg "max" = none) (hg : Gl X "max") (h : DE c X x S fun d => DE c X y S fun d' => ∃ i j : Int, d = .int i ∧ d' = .int j ∧ Q (.int (max i j)))
    (he : starEach [x, y] X.env = (false, eval x X.env) :: starEach [y] X.env := by rfl) (he2 : starEach [y] X.env = (false, eval y X.env) :: starEach [] X.env := by rfl) (hpl : (backTo pos (starEach [y] X.env)).any (·.1) = false := by rfl) : DE c X (.Call (.Name "max" p) [x, y] [] pos) S Q :=
  de_callB (call_max2 hc) hm hg PyProof.Rows.boot_max (da_cons (h.mono fun d h => da_cons (h.mono fun d' ⟨i, j', e1, e2, q⟩ => da_nil fun G H vs Z s j rs z => by
    subst e1 e2
    obtain ⟨v, w, rfl, rd, rd'⟩ := reps2 rs
    have en : (if j' > i then j' else i) = max i j' := by split <;> omega
    exact ⟨i, j', by rw [rep_int.mp rd, rep_int.mp rd'], by rw [en]; exact z _ _ (postC s j q (rep_int.mpr rfl))⟩) he2) he) (by decide) (by decide) he hpl
theorem de_min2 {x y : Expr} {p : Pos} (hc : X.calm = true) (hm : X.mg "min" = none) (hg : Gl X "min") (h : DE c X x S fun d => DE c X y S fun d' => ∃ i j : Int, d = .int i ∧ d' = .int j ∧ Q (.int (min i j)))
    (he : starEach [x, y] X.env = (false, eval x X.env) :: starEach [y] X.env := by rfl) (he2 : starEach [y] X.env = (false, eval y X.env) :: starEach [] X.env := by rfl) (hpl : (backTo pos (starEach [y] X.env)).any (·.1) = false := by rfl) : DE c X (.Call (.Name "min" p) [x, y] [] pos) S Q :=
  de_callB (call_min2 hc) hm hg PyProof.Rows.boot_min (da_cons (h.mono fun d h => da_cons (h.mono fun d' ⟨i, j', e1, e2, q⟩ => da_nil fun G H vs Z s j rs z => by
    subst e1 e2
    obtain ⟨v, w, rfl, rd, rd'⟩ := reps2 rs
    have en : (if j' < i then j' else i) = min i j' := by split <;> omega
    exact ⟨i, j', by rw [rep_int.mp rd, rep_int.mp rd'], by rw [en]; exact z _ _ (postC s j q (rep_int.mpr rfl))⟩) he2) he) (by decide) (by decide) he hpl
abbrev dInts (xs : List Int) : D := .lst (xs.map D.int)
abbrev tInts (xs : List Int) : D := .tup (xs.map D.int)
theorem rep_dInts {K : PySem.W.Frag} {G : Hp} {xs : List Int} {v : V} (h : Rep K G (dInts xs) v) : ∃ a, v = .ref a ∧ Rd G a (.lst (xs.map V.int)) := by
  obtain ⟨a, vs, rfl, q, rs⟩ := rep_lst.mp h
  rw [reps_intsE rs] at q; exact ⟨a, rfl, q⟩
theorem rep_tInts {K : PySem.W.Frag} {G : Hp} {xs : List Int} {v : V} (h : Rep K G (tInts xs) v) : ∃ a, v = .ref a ∧ SqT K G a (xs.map V.int) := by
  obtain ⟨a, vs, rfl, q, rs⟩ := rep_tup.mp h
  rw [reps_intsE rs] at q; exact ⟨a, rfl, q⟩
theorem de_maxL {x : Expr} {p : Pos} (hc : X.calm = true) (hm : X.mg "max" = none) (hg : Gl X "max") (h : DE c X x S fun d => ∃ ns : List Int, d = dInts ns ∧ ns ≠ [] ∧ ∀ m, m ∈ ns → (∀ y, y ∈ ns → y ≤ m) → Q (.int m))
    (he : starEach [x] X.env = (false, eval x X.env) :: starEach [] X.env := by rfl) (hpl : (backTo pos (starEach [] X.env)).any (·.1) = false := by rfl) : DE c X (.Call (.Name "max" p) [x] [] pos) S Q :=
  de_callB (cr_max hc) hm hg PyProof.Rows.boot_max (da_cons (h.mono fun d ⟨ns, e, ne, q⟩ => da_nil fun G H vs Z s j rs z => by
    subst e
    obtain ⟨v, rfl, rd⟩ := reps1 rs
    obtain ⟨a, rfl, sq⟩ := rep_dInts rd
    exact ⟨a, ns, rfl, Or.inl (rd_mono s sq), List.length_pos_iff.mpr ne, fun m hm hy => z _ _ (postC s j (q m hm hy) (rep_int.mpr rfl))⟩) he) (by decide) (by decide) he hpl
theorem de_minL {x : Expr} {p : Pos} (hc : X.calm = true) (hm : X.mg "min" = none) (hg : Gl X "min") (h : DE c X x S fun d => ∃ ns : List Int, d = dInts ns ∧ ns ≠ [] ∧ ∀ m, m ∈ ns → (∀ y, y ∈ ns → m ≤ y) → Q (.int m))
    (he : starEach [x] X.env = (false, eval x X.env) :: starEach [] X.env := by rfl) (hpl : (backTo pos (starEach [] X.env)).any (·.1) = false := by rfl) : DE c X (.Call (.Name "min" p) [x] [] pos) S Q :=
  de_callB (cr_min hc) hm hg PyProof.Rows.boot_min (da_cons (h.mono fun d ⟨ns, e, ne, q⟩ => da_nil fun G H vs Z s j rs z => by
    subst e
    obtain ⟨v, rfl, rd⟩ := reps1 rs
    obtain ⟨a, rfl, sq⟩ := rep_dInts rd
    exact ⟨a, ns, rfl, Or.inl (rd_mono s sq), List.length_pos_iff.mpr ne, fun m hm hy => z _ _ (postC s j (q m hm hy) (rep_int.mpr rfl))⟩) he) (by decide) (by decide) he hpl
theorem postL_new {K : PySem.W.Frag} {r : Reg} {G H : Hp} {p : Addr} {vs : List V} {xs : List D} {Q : List D → Prop} (s : Same G H) (j : r.J H) (n : H p = none) (q : Q xs) (rs : Reps K G xs vs) : PostL K r G H Q (.ref p) (upd H p (.lst vs)) :=
  ⟨G, p, vs, xs, Ext.new' s j n, rfl, n, upd_same, s.free n, q, rs⟩
theorem postT_new {K : PySem.W.Frag} {r : Reg} {G H : Hp} {p : Addr} {vs : List V} {xs : List D} (s : Same G H) (j : r.J H) (n : H p = none) (q : Q (.tup xs)) (rs : Reps K G xs vs) : PostD K r G H Q (.ref p) (upd H p (.tup vs)) :=
  ⟨upd G p (.tup vs), .tup xs, Ext.new s j n, q, rep_tup.mpr ⟨p, vs, rfl, SqT.of upd_same, rs.mono (Ext.new (o := .tup vs) s j n).up⟩⟩
theorem df_list {x : Expr} {p : Pos} {Q : List D → Prop} (hm : X.mg "list" = none) (hg : Gl X "list") (h : DE c X x S fun d => ∃ xs, (d = .lst xs ∨ d = .tup xs) ∧ Q xs)
    (he : starEach [x] X.env = (false, eval x X.env) :: starEach [] X.env := by rfl) (hpl : (backTo pos (starEach [] X.env)).any (·.1) = false := by rfl) : DF c X (.Call (.Name "list" p) [x] [] pos) S Q :=
  df_callTy call_list_of hm hg PyProof.Rows.boot_list (da_cons (h.mono fun d ⟨xs, e, q⟩ => da_nil fun G H vs Z s j rs z => by
    obtain ⟨v, rfl, rd⟩ := reps1 rs
    rcases e with rfl | rfl
    · obtain ⟨a, vs, rfl, sq, rs⟩ := rep_lst.mp rd
      exact ⟨a, vs, rfl, .inl (Or.inl (rd_mono s sq)), fun l hl => z _ _ (postL_new s j hl q rs)⟩
    · obtain ⟨a, vs, rfl, sq, rs⟩ := rep_tup.mp rd
      exact ⟨a, vs, rfl, .inr (seqT_mono s sq), fun l hl => z _ _ (postL_new s j hl q rs)⟩) he) (by decide) (by decide) he hpl
theorem de_tuple {x : Expr} {p : Pos} (hm : X.mg "tuple" = none) (hg : Gl X "tuple") (h : DE c X x S fun d => ∃ xs, (d = .lst xs ∨ d = .tup xs) ∧ Q (.tup xs))
    (he : starEach [x] X.env = (false, eval x X.env) :: starEach [] X.env := by rfl) (hpl : (backTo pos (starEach [] X.env)).any (·.1) = false := by rfl) : DE c X (.Call (.Name "tuple" p) [x] [] pos) S Q :=
  de_callTy call_tuple_of hm hg PyProof.Rows.boot_tuple (da_cons (h.mono fun d ⟨xs, e, q⟩ => da_nil fun G H vs Z s j rs z => by
    obtain ⟨v, rfl, rd⟩ := reps1 rs
    rcases e with rfl | rfl
    · obtain ⟨a, vs, rfl, sq, rs⟩ := rep_lst.mp rd
      exact ⟨a, vs, rfl, .inl ⟨Or.inl (rd_mono s sq), fun l hl => z _ _ (postT_new s j hl q rs)⟩⟩
    · have rd0 := rd
      obtain ⟨a, vs, rfl, sq, rs⟩ := rep_tup.mp rd
      exact ⟨a, vs, rfl, .inr ⟨seqT_mono s sq, z _ _ (postC s j q rd0)⟩⟩) he) (by decide) (by decide) he hpl
theorem df_sortedI {x : Expr} {p : Pos} {Q : List D → Prop} (hm : X.mg "sorted" = none) (hg : Gl X "sorted") (hs : CallR X (.builtin "sorted") (rSortedI X.K)) (h : DE c X x S fun d => ∃ ns : List Int, d = dInts ns ∧ ∀ ms : List Int, ms.Perm ns → ms.Pairwise (· ≤ ·) → Q (ms.map D.int))
    (he : starEach [x] X.env = (false, eval x X.env) :: starEach [] X.env := by rfl) (hpl : (backTo pos (starEach [] X.env)).any (·.1) = false := by rfl) : DF c X (.Call (.Name "sorted" p) [x] [] pos) S Q :=
  df_callB hs hm hg PyProof.Rows.boot_sorted (da_cons (h.mono fun d ⟨ns, e, q⟩ => da_nil fun G H vs Z s j rs z => by
    subst e
    obtain ⟨v, rfl, rd⟩ := reps1 rs
    obtain ⟨a, rfl, sq⟩ := rep_dInts rd
    exact ⟨a, ns, rfl, Or.inl (rd_mono s sq), fun ms p hp hw hn => z _ _ (postL_new s j hn (q ms hp hw) (reps_ints ms))⟩) he) (by decide) (by decide) he hpl
theorem rep_at {K : PySem.W.Frag} {G : Hp} {xs : List D} {vs : List V} {i : Int} {d : D} (rs : Reps K G xs vs) (h : atI xs i = some d) : ∃ v, atI vs i = some v ∧ Rep K G d v := by
  unfold atI at h ⊢
  rw [rs.length]
  cases q : ixN xs.length i with
  | none => rw [q] at h; cases h
  | some j =>
    rw [q] at h
    exact rs.get (i := j) (d := d) h
theorem de_ix (hs : PlainIx b) (h : DE c X a S fun x => DE c X b S fun y => ∃ xs i d, (x = .lst xs ∨ x = .tup xs) ∧ y = .int i ∧ atI xs i = some d ∧ Q d) : DE c X (.Subscript a b pos) S Q := fun G H σ E =>
  W.of (pe_ix (r := fun x y H Q => rIxL X.K x y H Q ∨ rIxT X.K x y H Q) (fun value slice pins s σ H x y v u Q I rx ry h hs => h.elim (fun h => ix_list value slice pins s σ H x y v u Q I rx ry h hs) (fun h => ix_tup value slice pins s σ H x y v u Q I rx ry h hs)) pe_W pe_W hs) (by
    refine (h G H σ E).mono fun vx H1 ⟨G1, x, e1, hx, rx⟩ => ?_
    refine (hx G1 H1 σ (E.ext e1)).mono fun vy H2 ⟨G2, y, e2, ⟨xs, i, d, ex, ey, ha, q⟩, ry⟩ => ?_
    subst ey
    have rx' := rx.mono e2.up
    rcases ex with rfl | rfl
    · obtain ⟨p, vs, rfl, sq, rs⟩ := rep_lst.mp rx'
      obtain ⟨v, hv, rd⟩ := rep_at rs ha
      exact .inl ⟨p, vs, i, v, rfl, rep_int.mp ry, Or.inl (rd_mono e2.sub sq), hv, PostD.trans E.j (e1.trans e2 E.j) (postC e2.sub e2.reg q rd)⟩
    · obtain ⟨p, vs, rfl, sq, rs⟩ := rep_tup.mp rx'
      obtain ⟨v, hv, rd⟩ := rep_at rs ha
      exact .inr ⟨p, vs, i, v, rfl, rep_int.mp ry, seqT_mono e2.sub sq, hv, PostD.trans E.j (e1.trans e2 E.j) (postC e2.sub e2.reg q rd)⟩)
theorem de_ixS (hs : PlainIx b) (h : DE c X a S fun x => DE c X b S fun y => ∃ (z : Str) (i : Int) (k : Nat), x = .str z ∧ y = .int i ∧ z.length ≤ sizeLine ∧ atI z.cps.toList i = some k ∧ Q (.str ⟨#[k]⟩)) : DE c X (.Subscript a b pos) S Q := fun G H σ E =>
  W.of (pe_ix ix_str pe_W pe_W hs) (by
    refine (h G H σ E).mono fun vx H1 ⟨G1, x, e1, hx, rx⟩ => ?_
    refine (hx G1 H1 σ (E.ext e1)).mono fun vy H2 ⟨G2, y, e2, ⟨z, i, k, ex, ey, hz, ha, q⟩, ry⟩ => ?_
    subst ex ey
    exact ⟨z, i, k, rep_str.mp rx, rep_int.mp ry, hz, ha, PostD.trans E.j (e1.trans e2 E.j) (postC e2.sub e2.reg q (rep_str.mpr rfl))⟩)
def cut {α : Type} (xs : List α) (lo hi : Option Int) : List α := (xs.drop (HT.sIx xs.length 0 lo)).take (HT.sIx xs.length xs.length hi - HT.sIx xs.length 0 lo)
theorem reps_cut {K : PySem.W.Frag} {G : Hp} {xs : List D} {vs : List V} {lo hi : Option Int} (rs : Reps K G xs vs) : Reps K G (cut xs lo hi) (cutV vs lo hi) := by
  unfold cut cutV
  rw [rs.length]
  exact (rs.drop _).take _
def WO (X : Cx) (e : Option Expr) : TO := fun σ H Q => ∀ (pins : List (Addr × Obj)) (s : Shared), Inv X pins σ H s →
    wpAny (model X.prog X.w) X.A (evalPart e X.env) (fun u s' => ∃ o H', Inv X pins σ H' s' ∧ IsPart u o ∧ Q o H') X.xe s
theorem po_W {e : Option Expr} : PO X e (WO X e) := ⟨fun pins s _ _ _ I h => h pins s I⟩
theorem WO.of {e : Option Expr} {t : TO} {σ : L2.St} {H : Hp} {Q : Option Int → Hp → Prop} (h : PO X e t) (hw : t σ H Q) : WO X e σ H Q := fun pins s I => h.run pins s σ H Q I hw
theorem WO.mono {e : Option Expr} {σ : L2.St} {H : Hp} {Q Q' : Option Int → Hp → Prop} (h : WO X e σ H Q) (q : ∀ v H', Q v H' → Q' v H') : WO X e σ H Q' := fun pins s I => thn (h pins s I) fun _ _ ⟨v, H', I', r, z⟩ => ⟨v, H', I', r, q v H' z⟩
def DO (c : Ctx) (X : Cx) (e : Option Expr) (S : Sto) (Q : Option Int → Prop) : Prop := ∀ G H σ, EnvOk X.K c G H σ S → WO X e σ H fun o H' => ∃ G', Ext c.reg G H G' H' ∧ Q o
theorem do_none {Q : Option Int → Prop} (q : Q none) : DO c X none S Q := fun G H σ E => WO.of po_none ⟨G, E.ext0, q⟩
theorem do_some {Q : Option Int → Prop} (h : DE c X e S fun d => ∃ i, d = .int i ∧ Q (some i)) : DO c X (some e) S Q := fun G H σ E => WO.of (po_some pe_W) ((h G H σ E).mono fun v H1 ⟨G1, d, e1, ⟨i, ed, q⟩, rd⟩ => by
  subst ed
  exact ⟨i, rep_int.mp rd, G1, e1, q⟩)
theorem df_slice {lo hi : Option Expr} {p2 : Pos} {Q : List D → Prop} (h : DE c X a S fun x => DO c X lo S fun l => DO c X hi S fun u => ∃ xs, x = .lst xs ∧ Q (cut xs l u)) : DF c X (.Subscript a (.Slice lo hi none p2) pos) S Q := fun G H σ E =>
  W.of (pe_slice sl_list pe_W po_W po_W) (by
    refine (h G H σ E).mono fun vx H1 ⟨G1, x, e1, hx, rx⟩ => ?_
    refine (hx G1 H1 σ (E.ext e1)).mono fun l H2 ⟨G2, e2, hl⟩ => ?_
    refine (hl G2 H2 σ ((E.ext e1).ext e2)).mono fun u H3 ⟨G3, e3, xs, ex, q⟩ => ?_
    subst ex
    obtain ⟨p, vs, rfl, sq, rs⟩ := rep_lst.mp ((rx.mono e2.up).mono e3.up)
    have e13 := (e1.trans e2 E.j).trans e3 E.j
    exact ⟨p, vs, rfl, Or.inl (rd_mono e3.sub sq), fun l hl => PostL.trans E.j e13 (postL_new e3.sub e3.reg hl q (reps_cut rs))⟩)
theorem de_sliceT {lo hi : Option Expr} {p2 : Pos} (h : DE c X a S fun x => DO c X lo S fun l => DO c X hi S fun u => ∃ xs, x = .tup xs ∧ Q (.tup (cut xs l u))) : DE c X (.Subscript a (.Slice lo hi none p2) pos) S Q := fun G H σ E =>
  W.of (pe_slice sl_tupA pe_W po_W po_W) (by
    refine (h G H σ E).mono fun vx H1 ⟨G1, x, e1, hx, rx⟩ => ?_
    refine (hx G1 H1 σ (E.ext e1)).mono fun l H2 ⟨G2, e2, hl⟩ => ?_
    refine (hl G2 H2 σ ((E.ext e1).ext e2)).mono fun u H3 ⟨G3, e3, xs, ex, q⟩ => ?_
    subst ex
    have rx3 := (rx.mono e2.up).mono e3.up
    obtain ⟨p, vs, rfl, sq, rs⟩ := rep_tup.mp rx3
    have e13 := (e1.trans e2 E.j).trans e3 E.j
    refine ⟨p, vs, rfl, seqT_mono e3.sub sq, fun w => ?_, fun _ t ht => PostD.trans E.j e13 (postT_new e3.sub e3.reg ht q (reps_cut rs))⟩
    have ec : cut xs l u = xs := by
      unfold cut
      rw [rs.length] at w
      rw [w.1, w.2, List.drop_zero, Nat.sub_zero, List.take_length]
    rw [ec] at q
    exact PostD.trans E.j e13 (postC e3.sub e3.reg q rx3))
theorem df_revL {k : Nat} {p1 p2 p3 : Pos} {Q : List D → Prop} (h : DE c X a S fun x => ∃ xs, x = .lst xs ∧ Q xs.reverse) : DF c X (.Subscript a (.Slice none none (some (.UnaryOp .USub (.Constant (.int 1) k p1) p2)) p3) pos) S Q := fun G H σ E =>
  W.of (pe_revL pe_W) ((h G H σ E).mono fun vx H1 ⟨G1, x, e1, ⟨xs, ex, q⟩, rx⟩ => by
    subst ex
    obtain ⟨p, vs, rfl, sq, rs⟩ := rep_lst.mp rx
    exact ⟨p, vs, rfl, Or.inl (rd_mono e1.sub sq), fun t ht => PostL.trans E.j e1 (postL_new e1.sub e1.reg ht q rs.reverse)⟩)
def rCatR : R2 := fun x y H Q => ∃ l b xs zs, x = .ref l ∧ y = .ref b ∧ Rd H l (.lst xs) ∧ Rd H b (.lst zs) ∧ xs.length + zs.length ≤ sizeLine ∧ ∀ p, H p = none → Q (.ref p) (upd H p (.lst (xs ++ zs)))
theorem op_catR : OpR X (binaryOp .Add) rCatR := by
  intro pins s σ H x y v u Q I rx ry h
  obtain ⟨l, b, xs, zs, rfl, rfl, hH, hB, hz, q⟩ := h
  cases rx
  cases ry
  obtain ⟨_, i1, n1, r1, e1⟩ := hH.ok I.hok
  obtain ⟨_, i2, n2, r2, e2⟩ := hB.ok I.hok
  have l1 := r1.length
  have l2 := r2.length
  refine PySem.P.add_list e1 e2 ?_ (by rw [List.size_toArray, List.size_toArray]; omega)
  rw [show i1.toArray ++ i2.toArray = (i1 ++ i2).toArray by simp]
  exact ⟨.ref _, _, I.lnew (t' := s.toks) (r1.append r2) (by rw [List.length_append]; omega), rfl, q _ I.fresh⟩
theorem df_cat {Q : List D → Prop} (h : DE c X a S fun x => DE c X b S fun y => ∃ xs ys, x = .lst xs ∧ y = .lst ys ∧ xs.length + ys.length ≤ 100000 ∧ Q (xs ++ ys)) : DF c X (.BinOp a .Add b pos) S Q :=
  df_bin op_catR (h.mono fun _ h => h.mono fun _ ⟨xs, ys, ex, ey, hl, q⟩ => fun G H vx vy Z s j rx ry z => by
    subst ex ey
    obtain ⟨p, vs, rfl, sq, rs⟩ := rep_lst.mp rx
    obtain ⟨p', ws, rfl, sq', rs'⟩ := rep_lst.mp ry
    have l1 := rs.length
    have l2 := rs'.length
    exact ⟨p, p', vs, ws, rfl, rfl, rd_mono s sq, rd_mono s sq', by rw [sizeLine_eq]; omega, fun t ht => z _ _ (postL_new s j ht q (rs.append rs'))⟩)
theorem df_rep {es : List Expr} {p1 : Pos} {Q : List D → Prop} (h : DF c X (.List es p1) S fun xs => DE c X b S fun y => ∃ k : Int, y = .int k ∧ k ≤ 10000 ∧ -10000 ≤ k ∧ xs.length ≤ 100 ∧ Q (List.replicate k.toNat xs).flatten) : DF c X (.BinOp (.List es p1) .Mult b pos) S Q := fun G H σ E =>
  W.of (pe_op op_rep pe_W pe_W) (by
    refine (h G H σ E).mono fun vx H1 ⟨G1, p, vs, xs, e1, ev, hn, hp, gp, hy, rs⟩ => ?_
    subst ev
    refine (hy G1 H1 σ (E.ext e1)).mono fun vy H2 ⟨G2, y, e2, ⟨k, ek, hk, hk', hl, q⟩, ry⟩ => ?_
    subst ek
    have l1 := rs.length
    have hm : vs.length * k.toNat ≤ 100 * 10000 := Nat.mul_le_mul (by omega) (by omega)
    have e12 := e1.trans e2 E.j
    have nm : ¬ c.reg.mem p := fun m => Reg.trk E.j m hn
    have rs2 := rs.mono e2.up
    have rf : ∀ n, Reps X.K G2 (List.replicate n xs).flatten (List.replicate n vs).flatten := fun n => by
      induction n with
      | zero => exact reps_nil
      | succ n ih => rw [List.replicate_succ, List.replicate_succ, List.flatten_cons, List.flatten_cons]; exact rs2.append ih
    exact ⟨p, k, vs, rfl, rep_int.mp ry, e2.same _ _ nm hp, by omega, by omega, by rw [sizeLine_eq]; omega, fun t ht => PostL.trans E.j e12 (postL_new e2.sub e2.reg ht q (rf _))⟩)
theorem de_repT (h : DE c X a S fun x => DE c X b S fun y => ∃ (xs : List D) (k : Int), x = .tup xs ∧ y = .int k ∧ xs ≠ [] ∧ k ≤ 1000 ∧ 2 ≤ k ∧ xs.length ≤ 100 ∧ Q (.tup (List.replicate k.toNat xs).flatten)) : DE c X (.BinOp a .Mult b pos) S Q :=
  de_bin op_repT (h.mono fun _ h => h.mono fun _ ⟨xs, k, ex, ey, hne, hk, hk', hl, q⟩ => fun G H vx vy Z s j rx ry z => by
    subst ex ey
    obtain ⟨p, vs, rfl, sq, rs⟩ := rep_tup.mp rx
    have l1 := rs.length
    have rf : ∀ n, Reps X.K G (List.replicate n xs).flatten (List.replicate n vs).flatten := fun n => by
      induction n with
      | zero => exact reps_nil
      | succ n ih => rw [List.replicate_succ, List.replicate_succ, List.flatten_cons, List.flatten_cons]; exact rs.append ih
    refine ⟨p, k, vs, rfl, rep_int.mp ry, seqT_mono s sq, fun e => hne ?_, hk', hk, by omega, fun t ht => z _ _ (postT_new s j ht q (rf _))⟩
    subst e
    exact List.length_eq_zero_iff.mp l1.symm)
theorem de_catT (h : DE c X a S fun x => DE c X b S fun y => ∃ xs ys, x = .tup xs ∧ y = .tup ys ∧ xs.length + ys.length ≤ 100000 ∧ Q (.tup (xs ++ ys))) : DE c X (.BinOp a .Add b pos) S Q :=
  de_bin op_catA (h.mono fun _ h => h.mono fun _ ⟨xs, ys, ex, ey, hl, q⟩ => fun G H vx vy Z s j rx ry z => by
    subst ex ey
    have rx0 := rx
    have ry0 := ry
    obtain ⟨p, vs, rfl, sq, rs⟩ := rep_tup.mp rx
    obtain ⟨p', ws, rfl, sq', rs'⟩ := rep_tup.mp ry
    have l1 := rs.length
    have l2 := rs'.length
    refine ⟨p, p', vs, ws, rfl, rfl, seqT_mono s sq, seqT_mono s sq', by rw [sizeLine_eq]; omega, fun e => ?_, fun _ e => ?_, fun _ _ t ht => z _ _ (postT_new s j ht q (rs.append rs'))⟩
    · subst e
      have : xs = [] := List.length_eq_zero_iff.mp l1.symm
      subst this
      exact z _ _ (postC s j q ry0)
    · subst e
      have : ys = [] := List.length_eq_zero_iff.mp l2.symm
      subst this
      rw [List.append_nil] at q
      exact z _ _ (postC s j q rx0))
end
end DL
set_option Elab.async false
set_option linter.all false
set_option maxRecDepth 100000
set_option maxHeartbeats 1000000
namespace DL
open PySem PySem.Spec L2
def tyD : D → Option String
  | .non => some "NoneType"
  | .bl _ => some "bool"
  | .int _ => some "int"
  | .str _ => some "str"
  | .tup _ => some "tuple"
  | .lst _ => some "list"
  | _ => none
theorem rep_tyX {K : PySem.W.Frag} {G H : Hp} {d : D} {v : V} {t : String} (s : Same G H) (h : Rep K G d v) (e : tyD d = some t) : TyX K H v (.type t) := by
  cases d with
  | non => cases e; rw [rep_non.mp h]; exact .base .non
  | bl b => cases e; rw [rep_bl.mp h]; exact .base (.bl b)
  | int i => cases e; rw [rep_int.mp h]; exact .base (.int i)
  | str i => cases e; rw [rep_str.mp h]; exact .base (.str i)
  | tup ds =>
    cases e
    obtain ⟨a, vs, rfl, sq, rs⟩ := rep_tup.mp h
    rcases seqT_mono s sq with (q | ⟨o, q⟩) | ⟨o, its, n, q, cl, _⟩
    · exact .base (.tup q)
    · exact .fTuple q
    · exact .kTuple q cl
  | lst ds =>
    cases e
    obtain ⟨a, vs, rfl, sq, rs⟩ := rep_lst.mp h
    rcases rd_mono s sq with q | ⟨o, q⟩
    · exact .base (.lst q)
    · exact .base (.frz q)
  | _ => cases e
section
variable {c : Ctx} {X : Cx} {a b e : Expr} {es : List Expr} {S : Sto} {Q Q' : D → Prop} {pos : Pos}
theorem de_isi {x : Expr} {T : Str} {n : String} {p p2 : Pos} (hm : X.mg "isinstance" = none) (hg : Gl X "isinstance") (hm2 : X.mg T = none) (hg2 : Gl X T) (hv : bootBuiltins T = some (.type n))
    (h : DE c X x S fun d => ∃ t k, tyD d = some t ∧ kitB t n = some k ∧ Q (.bl k)) (hn : T ≠ "__name__" := by decide) (hd : (T == ("__debug__" : Str)) = false := by decide)
    (he : starEach [x, .Name T p2] X.env = (false, eval x X.env) :: starEach [.Name T p2] X.env := by rfl) (he2 : starEach [.Name T p2] X.env = (false, eval (.Name T p2) X.env) :: starEach [] X.env := by rfl)
    (hpl : (backTo pos (starEach [.Name T p2] X.env)).any (·.1) = false := by rfl) : DE c X (.Call (.Name "isinstance" p) [x, .Name T p2] [] pos) S Q :=
  de_callB call_isi hm hg PyProof.Rows.boot_isinstance (da_cons (h.mono fun d ⟨t, k, ht, hk, q⟩ => da_cons (de_bltn hm2 hg2 hv (da_nil fun G H vs Z s j rs z => by
    obtain ⟨v, w, rfl, rd, rd'⟩ := reps2 rs
    rw [rep_ty.mp rd']
    exact ⟨v, .ty n, .type t, .type n, k, rfl, .ty n, rep_tyX s rd ht, kit_ty hk, z _ _ (postC s j q (rep_bl.mpr rfl))⟩) hn hd) he2) he) (by decide) (by decide) he hpl
theorem de_isi2 {x : Expr} {T U : Str} {n m : String} {p p2 p3 pt : Pos} {kt : Nat} (hm : X.mg "isinstance" = none) (hg : Gl X "isinstance") (hm2 : X.mg T = none) (hg2 : Gl X T) (hv : bootBuiltins T = some (.type n)) (hm3 : X.mg U = none) (hg3 : Gl X U) (hv3 : bootBuiltins U = some (.type m))
    (h : DE c X x S fun d => ∃ t k l, tyD d = some t ∧ kitB t n = some k ∧ kitB t m = some l ∧ Q (.bl (k || l))) (hn : T ≠ "__name__" := by decide) (hd : (T == ("__debug__" : Str)) = false := by decide) (hn3 : U ≠ "__name__" := by decide) (hd3 : (U == ("__debug__" : Str)) = false := by decide)
    (he : starEach [x, .Tuple [.Name T p2, .Name U p3] kt pt] X.env = (false, eval x X.env) :: starEach [.Tuple [.Name T p2, .Name U p3] kt pt] X.env := by rfl) (he2 : starEach [.Tuple [.Name T p2, .Name U p3] kt pt] X.env = (false, eval (.Tuple [.Name T p2, .Name U p3] kt pt) X.env) :: starEach [] X.env := by rfl)
    (he3 : starEach [.Name T p2, .Name U p3] X.env = (false, eval (.Name T p2) X.env) :: starEach [.Name U p3] X.env := by rfl) (he4 : starEach [.Name U p3] X.env = (false, eval (.Name U p3) X.env) :: starEach [] X.env := by rfl)
    (hpl : (backTo pos (starEach [.Tuple [.Name T p2, .Name U p3] kt pt] X.env)).any (·.1) = false := by rfl) : DE c X (.Call (.Name "isinstance" p) [x, .Tuple [.Name T p2, .Name U p3] kt pt] [] pos) S Q := fun G H σ E =>
  W.of (pe_callB call_isiT hg hm PyProof.Rows.boot_isinstance (pa_cons pe_W (pa_cons (pe_tup (pa_cons (pe_bltn (v := .ty n) hg2 hm2 hv rfl hn hd) (pa_cons (pe_bltn (v := .ty m) hg3 hm3 hv3 rfl hn3 hd3) pa_nil he4) he3)) pa_nil he2) he) (by decide) (by decide) he hpl) (by
    refine (h G H σ E).mono fun vx H1 ⟨G1, d, e1, ⟨t, k, l, ht, hk, hl, q⟩, rx⟩ => ?_
    refine ⟨by rw [sizeLine_eq]; show 2 ≤ _; omega, fun tp htp => ?_⟩
    have x2 := Ext.new (o := .tup [.ty n, .ty m]) e1.sub e1.reg htp
    refine ⟨vx, tp, [.ty n, .ty m], .type t, [.type n, .type m], k || l, rfl, upd_same, .cons (.ty n) (.cons (.ty m) .nil), rep_tyX x2.sub (rx.mono x2.up) ht, ?_, PostD.trans E.j (e1.trans x2 E.j) (postC x2.sub x2.reg q (rep_bl.mpr rfl))⟩
    refine kitAny_cons (kit_ty hk) (fun e => ?_) (fun e => by rw [e]; rfl)
    rw [e, Bool.false_or]
    refine kitAny_cons (kit_ty hl) (fun e => ?_) (fun e => by rw [e])
    rw [e]; rfl)
theorem inV_int {i : Int} : ∀ xs : List Int, inV (.int i) (xs.map V.int) = decide (i ∈ xs)
  | [] => by simp [inV]
  | x :: xs => by
    have ih := inV_int (i := i) xs
    unfold inV at ih ⊢
    rw [List.map_cons, List.any_cons, ih]
    show ((x == i) || _) = _
    by_cases e : x = i
    · subst e; simp
    · simp [e, Ne.symm e]
theorem flat_int : ∀ xs : List Int, (xs.map V.int).all flatV = true
  | [] => rfl
  | x :: xs => by rw [List.map_cons, List.all_cons, flat_int xs]; rfl
theorem inV_str {i : Str} : ∀ xs : List Str, inV (.str i) (xs.map V.str) = decide (i ∈ xs)
  | [] => by simp [inV]
  | x :: xs => by
    have ih := inV_str (i := i) xs
    unfold inV at ih ⊢
    rw [List.map_cons, List.any_cons, ih]
    show ((x == i) || _) = _
    by_cases e : x = i
    · subst e; simp
    · have e' : (x == i) = false := beq_eq_false_iff_ne.mpr e
      simp [e', Ne.symm e]
theorem flat_str : ∀ xs : List Str, (xs.map V.str).all flatV = true
  | [] => rfl
  | x :: xs => by rw [List.map_cons, List.all_cons, flat_str xs]; rfl
theorem rep_seqI {K : PySem.W.Frag} {G H : Hp} {y : D} {v : V} {xs : List Int} (s : Same G H) (h : Rep K G y v) (e : y = dInts xs ∨ y = tInts xs) : ∃ p, v = .ref p ∧ (SqL K H p (xs.map V.int) ∨ SqT K H p (xs.map V.int)) := by
  rcases e with rfl | rfl
  · obtain ⟨a, rfl, sq⟩ := rep_dInts h
    exact ⟨a, rfl, .inl (Or.inl (rd_mono s sq))⟩
  · obtain ⟨a, rfl, sq⟩ := rep_tInts h
    exact ⟨a, rfl, .inr (seqT_mono s sq)⟩
theorem rep_seqS {K : PySem.W.Frag} {G H : Hp} {y : D} {v : V} {xs : List Str} (s : Same G H) (h : Rep K G y v) (e : y = .lst (xs.map D.str) ∨ y = .tup (xs.map D.str)) : ∃ p, v = .ref p ∧ (SqL K H p (xs.map V.str) ∨ SqT K H p (xs.map V.str)) := by
  rcases e with rfl | rfl
  · obtain ⟨a, vs, rfl, sq, rs⟩ := rep_lst.mp h
    rw [reps_strsE rs] at sq
    exact ⟨a, rfl, .inl (Or.inl (rd_mono s sq))⟩
  · obtain ⟨a, vs, rfl, sq, rs⟩ := rep_tup.mp h
    rw [reps_strsE rs] at sq
    exact ⟨a, rfl, .inr (seqT_mono s sq)⟩
def InI (x y : D) (Q : Bool → Prop) : Prop := ∃ (i : Int) (xs : List Int), x = .int i ∧ (y = dInts xs ∨ y = tInts xs) ∧ Q (decide (i ∈ xs))
def InS (x y : D) (Q : Bool → Prop) : Prop := ∃ (i : Str) (xs : List Str), x = .str i ∧ (y = .lst (xs.map D.str) ∨ y = .tup (xs.map D.str)) ∧ Q (decide (i ∈ xs))
theorem rb_in {K : PySem.W.Frag} {r : Reg} {x y : D} (neg : Bool) (h : InI x y fun k => Q (.bl (if neg then !k else k))) : RB K r (rIn K neg) x y Q := fun G H vx vy Z s j rx ry z => by
  obtain ⟨i, xs, rfl, ey, q⟩ := h
  obtain ⟨p, rfl, sq⟩ := rep_seqI s ry ey
  refine ⟨p, xs.map V.int, rfl, sq, by rw [rep_int.mp rx]; rfl, flat_int xs, ?_⟩
  rw [rep_int.mp rx, inV_int]
  exact z _ _ (postC s j q (rep_bl.mpr rfl))
theorem rb_inS {K : PySem.W.Frag} {r : Reg} {x y : D} (neg : Bool) (h : InS x y fun k => Q (.bl (if neg then !k else k))) : RB K r (rIn K neg) x y Q := fun G H vx vy Z s j rx ry z => by
  obtain ⟨i, xs, rfl, ey, q⟩ := h
  obtain ⟨p, rfl, sq⟩ := rep_seqS s ry ey
  refine ⟨p, xs.map V.str, rfl, sq, by rw [rep_str.mp rx]; rfl, flat_str xs, ?_⟩
  rw [rep_str.mp rx, inV_str]
  exact z _ _ (postC s j q (rep_bl.mpr rfl))
theorem dt_in {Q : Bool → Prop} (hm : behindInMarks .In b = false) (h : DE c X a S fun x => DE c X b S fun y => InI x y Q) : DT c X (.Compare a [.In] [b] pos) S Q :=
  dt_cmp op_in_seq hm (h.mono fun _ h => h.mono fun _ ⟨i, xs, e1, e2, q⟩ => rb_in false ⟨i, xs, e1, e2, _, rfl, q⟩)
theorem dt_notin {Q : Bool → Prop} (hm : behindInMarks .NotIn b = false) (h : DE c X a S fun x => DE c X b S fun y => InI x y fun k => Q (!k)) : DT c X (.Compare a [.NotIn] [b] pos) S Q :=
  dt_cmp op_notIn_seq hm (h.mono fun _ h => h.mono fun _ ⟨i, xs, e1, e2, q⟩ => rb_in true ⟨i, xs, e1, e2, _, rfl, q⟩)
theorem dt_inS {Q : Bool → Prop} (hm : behindInMarks .In b = false) (h : DE c X a S fun x => DE c X b S fun y => InS x y Q) : DT c X (.Compare a [.In] [b] pos) S Q :=
  dt_cmp op_in_seq hm (h.mono fun _ h => h.mono fun _ ⟨i, xs, e1, e2, q⟩ => rb_inS false ⟨i, xs, e1, e2, _, rfl, q⟩)
def isNon : D → Bool
  | .non => true
  | _ => false
theorem isN_go {K : PySem.W.Frag} {G : Hp} : ∀ {d : D} {v : V}, Rep K G d v → decide (v = .non) = isNon d
  | .non, v, h => by rw [rep_non.mp h]; rfl
  | .bl b, v, h => by rw [rep_bl.mp h]; rfl
  | .int i, v, h => by rw [rep_int.mp h]; rfl
  | .str i, v, h => by rw [rep_str.mp h]; rfl
  | .adr i, v, h => by rw [rep_adr.mp h]; rfl
  | .ty i, v, h => by rw [rep_ty.mp h]; rfl
  | .tup ds, v, h => by obtain ⟨a, vs, rfl, _⟩ := rep_tup.mp h; rfl
  | .lst ds, v, h => by obtain ⟨a, vs, rfl, _⟩ := rep_lst.mp h; rfl
  | .obj C ns ds, v, h => by obtain ⟨a, dx, vs, rfl, _⟩ := rep_obj.mp h; rfl
theorem dt_isN {Q : Bool → Prop} {j : Nat} {p : Pos} (h : DE c X a S fun d => Q (isNon d)) : DT c X (.Compare a [.Is] [.Constant .none j p] pos) S Q := fun G H σ E =>
  WT.of (pt_cmpR op_isN pe_W pe_non (nomark _)) ((h G H σ E).mono fun v H1 ⟨G1, d, e1, q, rd⟩ => ⟨rfl, _, rfl, G1, e1, by rw [isN_go rd]; exact q⟩)
theorem dt_notN {Q : Bool → Prop} {j : Nat} {p : Pos} (h : DE c X a S fun d => Q (!isNon d)) : DT c X (.Compare a [.IsNot] [.Constant .none j p] pos) S Q := fun G H σ E =>
  WT.of (pt_cmpR op_notN pe_W pe_non (nomark _)) ((h G H σ E).mono fun v H1 ⟨G1, d, e1, q, rd⟩ => ⟨rfl, _, rfl, G1, e1, by rw [isN_go rd]; exact q⟩)
theorem de_isN {j : Nat} {p : Pos} (h : DE c X a S fun d => Q (.bl (isNon d))) : DE c X (.Compare a [.Is] [.Constant .none j p] pos) S Q := fun G H σ E =>
  W.of (pe_cmpR op_isN pe_W pe_non (nomark _)) ((h G H σ E).mono fun v H1 ⟨G1, d, e1, q, rd⟩ => ⟨rfl, G1, _, e1, q, by rw [isN_go rd]; exact rep_bl.mpr rfl⟩)
theorem dt_isB {Q : Bool → Prop} (h : DE c X a S fun d => DE c X b S fun d' => ∃ k l : Bool, d = .bl k ∧ d' = .bl l ∧ Q (decide (k = l))) : DT c X (.Compare a [.Is] [b] pos) S Q :=
  dt_cmp op_isBl (nomark _) (h.mono fun _ h => h.mono fun _ ⟨k, l, e1, e2, q⟩ => fun G H vx vy Z s j rx ry z => by
    subst e1 e2
    exact ⟨k, l, rep_bl.mp rx, rep_bl.mp ry, z _ _ (postC s j ⟨_, rfl, q⟩ (rep_bl.mpr rfl))⟩)
theorem de_isB (h : DE c X a S fun d => DE c X b S fun d' => ∃ k l : Bool, d = .bl k ∧ d' = .bl l ∧ Q (.bl (decide (k = l)))) : DE c X (.Compare a [.Is] [b] pos) S Q :=
  de_cmp op_isBl (nomark _) (h.mono fun _ h => h.mono fun _ ⟨k, l, e1, e2, q⟩ => fun G H vx vy Z s j rx ry z => by
    subst e1 e2
    exact ⟨k, l, rep_bl.mp rx, rep_bl.mp ry, z _ _ (postC s j q (rep_bl.mpr rfl))⟩)
mutual
def toPy : D → PyData
  | .non => .none
  | .bl b => .bool b
  | .int i => .int i
  | .str x => .str x
  | .tup ds => .tuple (toPys ds)
  | .lst ds => .list (toPys ds)
  | _ => .none
def toPys : List D → List PyData
  | [] => []
  | d :: ds => toPy d :: toPys ds
end
mutual
def plainD : D → Bool
  | .non => true
  | .bl _ => true
  | .int _ => true
  | .str _ => true
  | .tup ds => plainDs ds
  | .lst ds => plainDs ds
  | _ => false
def plainDs : List D → Bool
  | [] => true
  | d :: ds => plainD d && plainDs ds
end
mutual
theorem rep_dp {K : PySem.W.Frag} {G : Hp} : ∀ {d : D} {v : V}, plainD d = true → Rep K G d v → Dp K G v (toPy d)
  | .non, v, _, h => by rw [rep_non.mp h]; unfold toPy; exact .non
  | .bl b, v, _, h => by rw [rep_bl.mp h]; unfold toPy; exact .bl b
  | .int i, v, _, h => by rw [rep_int.mp h]; unfold toPy; exact .int i
  | .str i, v, _, h => by rw [rep_str.mp h]; unfold toPy; exact .str i
  | .tup ds, v, p, h => by
    unfold plainD at p
    obtain ⟨a, vs, rfl, sq, rs⟩ := rep_tup.mp h
    unfold toPy
    exact .tup sq (reps_dp p rs)
  | .lst ds, v, p, h => by
    unfold plainD at p
    obtain ⟨a, vs, rfl, sq, rs⟩ := rep_lst.mp h
    unfold toPy
    exact .lst (Or.inl sq) (reps_dp p rs)
  | .adr i, v, p, h => by unfold plainD at p; cases p
  | .ty i, v, p, h => by unfold plainD at p; cases p
  | .obj C ns ds, v, p, h => by unfold plainD at p; cases p
theorem reps_dp {K : PySem.W.Frag} {G : Hp} : ∀ {ds : List D} {vs : List V}, plainDs ds = true → Reps K G ds vs → DpAll K G vs (toPys ds)
  | [], vs, _, h => by rw [reps_nilE h]; unfold toPys; exact .nil
  | d :: ds, vs, p, h => by
    unfold plainDs at p
    obtain ⟨p1, p2⟩ := Bool.and_eq_true_iff.mp p
    obtain ⟨v, ws, rfl, r, t⟩ := reps_consE h
    unfold toPys
    exact .cons (rep_dp p1 r) (reps_dp p2 t)
end
def EqOk (x : D) : Prop := plainD x = true ∧ SeqAt.shaped (toPy x) = true
def eqD (x y : D) : Bool := PyData.eqv (toPy x) (toPy y)
theorem rb_eqD {K : PySem.W.Frag} {r : Reg} {x y : D} (h : EqOk x ∧ EqOk y ∧ Q (.bl (eqD x y))) : RB K r (rEqD K) x y Q := fun G H vx vy Z s j rx ry z =>
  ⟨toPy x, toPy y, rep_dp h.1.1 (rx.mono s), rep_dp h.2.1.1 (ry.mono s), h.1.2, h.2.1.2, z _ _ (postC s j h.2.2 (rep_bl.mpr rfl))⟩
theorem rb_neD {K : PySem.W.Frag} {r : Reg} {x y : D} (h : EqOk x ∧ EqOk y ∧ Q (.bl (!eqD x y))) : RB K r (rNeD K) x y Q := fun G H vx vy Z s j rx ry z =>
  ⟨toPy x, toPy y, rep_dp h.1.1 (rx.mono s), rep_dp h.2.1.1 (ry.mono s), h.1.2, h.2.1.2, z _ _ (postC s j h.2.2 (rep_bl.mpr rfl))⟩
theorem dt_eqD {Q : Bool → Prop} (hu : X.A.units + 64 < cLine) (h : DE c X a S fun x => DE c X b S fun y => EqOk x ∧ EqOk y ∧ Q (eqD x y)) : DT c X (.Compare a [.Eq] [b] pos) S Q :=
  dt_cmp (op_eqD hu) (nomark _) (h.mono fun _ h => h.mono fun _ ⟨e1, e2, q⟩ => rb_eqD ⟨e1, e2, _, rfl, q⟩)
theorem dt_neD {Q : Bool → Prop} (hu : X.A.units + 64 < cLine) (h : DE c X a S fun x => DE c X b S fun y => EqOk x ∧ EqOk y ∧ Q (!eqD x y)) : DT c X (.Compare a [.NotEq] [b] pos) S Q :=
  dt_cmp (op_neD hu) (nomark _) (h.mono fun _ h => h.mono fun _ ⟨e1, e2, q⟩ => rb_neD ⟨e1, e2, _, rfl, q⟩)
theorem de_eqD (hu : X.A.units + 64 < cLine) (h : DE c X a S fun x => DE c X b S fun y => EqOk x ∧ EqOk y ∧ Q (.bl (eqD x y))) : DE c X (.Compare a [.Eq] [b] pos) S Q :=
  de_cmp (op_eqD hu) (nomark _) (h.mono fun _ h => h.mono fun _ h => rb_eqD h)
theorem de_neD (hu : X.A.units + 64 < cLine) (h : DE c X a S fun x => DE c X b S fun y => EqOk x ∧ EqOk y ∧ Q (.bl (!eqD x y))) : DE c X (.Compare a [.NotEq] [b] pos) S Q :=
  de_cmp (op_neD hu) (nomark _) (h.mono fun _ h => h.mono fun _ h => rb_neD h)
theorem rb_eqI {K : PySem.W.Frag} {r : Reg} {x y : D} (h : ∃ i j, x = .int i ∧ y = .int j ∧ Q (.bl (decide (i = j)))) : RB K r rEq x y Q := fun G H vx vy Z s jj rx ry z => by
  obtain ⟨i, j, rfl, rfl, q⟩ := h
  rw [rep_int.mp rx, rep_int.mp ry]
  refine ⟨rfl, z _ _ (postC s jj q (rep_bl.mpr ?_))⟩
  by_cases e : i = j <;> simp [e]
theorem rb_neI {K : PySem.W.Frag} {r : Reg} {x y : D} (h : ∃ i j, x = .int i ∧ y = .int j ∧ Q (.bl (!decide (i = j)))) : RB K r rNe x y Q := fun G H vx vy Z s jj rx ry z => by
  obtain ⟨i, j, rfl, rfl, q⟩ := h
  rw [rep_int.mp rx, rep_int.mp ry]
  refine ⟨rfl, z _ _ (postC s jj q (rep_bl.mpr ?_))⟩
  by_cases e : i = j <;> simp [e]
theorem rb_eqS {K : PySem.W.Frag} {r : Reg} {x y : D} (h : ∃ i j, x = .str i ∧ y = .str j ∧ Q (.bl (decide (i = j)))) : RB K r rEq x y Q := fun G H vx vy Z s jj rx ry z => by
  obtain ⟨i, j, rfl, rfl, q⟩ := h
  rw [rep_str.mp rx, rep_str.mp ry]
  refine ⟨rfl, z _ _ (postC s jj q (rep_bl.mpr ?_))⟩
  by_cases e : i = j <;> simp [e]
theorem dt_eqI {Q : Bool → Prop} (h : DE c X a S fun x => DE c X b S fun y => ∃ i j, x = .int i ∧ y = .int j ∧ Q (decide (i = j))) : DT c X (.Compare a [.Eq] [b] pos) S Q :=
  dt_cmp op_eq (nomark _) (h.mono fun _ h => h.mono fun _ ⟨i, j, e1, e2, q⟩ => rb_eqI ⟨i, j, e1, e2, _, rfl, q⟩)
theorem dt_neI {Q : Bool → Prop} (h : DE c X a S fun x => DE c X b S fun y => ∃ i j, x = .int i ∧ y = .int j ∧ Q (!decide (i = j))) : DT c X (.Compare a [.NotEq] [b] pos) S Q :=
  dt_cmp op_ne (nomark _) (h.mono fun _ h => h.mono fun _ ⟨i, j, e1, e2, q⟩ => rb_neI ⟨i, j, e1, e2, _, rfl, q⟩)
theorem de_eqI (h : DE c X a S fun x => DE c X b S fun y => ∃ i j, x = .int i ∧ y = .int j ∧ Q (.bl (decide (i = j)))) : DE c X (.Compare a [.Eq] [b] pos) S Q :=
  de_cmp op_eq (nomark _) (h.mono fun _ h => h.mono fun _ h => rb_eqI h)
theorem de_neI (h : DE c X a S fun x => DE c X b S fun y => ∃ i j, x = .int i ∧ y = .int j ∧ Q (.bl (!decide (i = j)))) : DE c X (.Compare a [.NotEq] [b] pos) S Q :=
  de_cmp op_ne (nomark _) (h.mono fun _ h => h.mono fun _ h => rb_neI h)
theorem de_eqS (h : DE c X a S fun x => DE c X b S fun y => ∃ i j, x = .str i ∧ y = .str j ∧ Q (.bl (decide (i = j)))) : DE c X (.Compare a [.Eq] [b] pos) S Q :=
  de_cmp op_eq (nomark _) (h.mono fun _ h => h.mono fun _ h => rb_eqS h)
theorem dt_eqS {Q : Bool → Prop} (h : DE c X a S fun x => DE c X b S fun y => ∃ i j, x = .str i ∧ y = .str j ∧ Q (decide (i = j))) : DT c X (.Compare a [.Eq] [b] pos) S Q :=
  dt_cmp op_eq (nomark _) (h.mono fun _ h => h.mono fun _ ⟨i, j, e1, e2, q⟩ => rb_eqS ⟨i, j, e1, e2, _, rfl, q⟩)
theorem dt_chainI {op op' : CmpOp} {p p' : Int → Int → Bool} {d : Expr} {Q : Bool → Prop} (ho : OpR X (compareOp op) (rI0 fun i j => .bl (p i j))) (ho' : OpR X (compareOp op') (rI0 fun i j => .bl (p' i j)))
    (h : DE c X a S fun x => DE c X b S fun y => ∃ i j, x = .int i ∧ y = .int j ∧ (p i j = false → Q false) ∧ (p i j = true → DE c X d S fun z => ∃ k, z = .int k ∧ Q (p' j k)))
    (hm : lastMarks [op, op'] [b, d] = false := by with_unfolding_all rfl) : DT c X (.Compare a [op, op'] [b, d] pos) S Q := fun G H σ E =>
  WT.of (pt_chain ho ho' pe_W pe_W pe_W hm) (by
    refine (h G H σ E).mono fun vx H1 ⟨G1, x, e1, hx, rx⟩ => ?_
    refine (hx G1 H1 σ (E.ext e1)).mono fun vy H2 ⟨G2, y, e2, ⟨i, j, ex, ey, q1, q2⟩, ry⟩ => ?_
    subst ex ey
    refine ⟨i, j, rep_int.mp rx, rep_int.mp ry, p i j, rfl, ?_⟩
    have e12 := e1.trans e2 E.j
    cases hp : p i j with
    | true =>
      refine iteT ((q2 hp G2 H2 σ ((E.ext e1).ext e2)).mono fun vz H3 ⟨G3, z, e3, ⟨k, ez, q⟩, rz⟩ => ?_)
      subst ez
      exact ⟨j, k, rep_int.mp ry, rep_int.mp rz, _, rfl, G3, e12.trans e3 E.j, q⟩
    | false => exact iteF ⟨false, rfl, G2, e12, q1 hp⟩)
theorem op_leB : OpR X (compareOp .LtE) (rI0 fun i j => .bl (decide (i ≤ j))) := op_le
theorem op_ltB : OpR X (compareOp .Lt) (rI0 fun i j => .bl (decide (i < j))) := op_lt
end
end DL
set_option Elab.async false
set_option linter.all false
set_option maxRecDepth 100000
set_option maxHeartbeats 1000000
namespace DL
open PySem PySem.Spec L2
abbrev SpD := Reg → List D → (D → Prop) → Prop
def lift (K : PySem.W.Frag) (sp : SpD) : Sp := fun vs H Q _ => ∃ (r : Reg) (G : Hp) (ds : List D) (P : D → Prop), Good ⟨r, G, H⟩ G H ∧ Reps K G ds vs ∧ sp r ds P ∧ ∀ G' H' v, PostD K r G H P v H' → Good ⟨r, G, H⟩ G' H' → Q v H'
end DL
namespace DL
open PySem PySem.Spec L2
section
variable {c : Ctx} {X : Cx} {a b e : Expr} {es : List Expr} {S : Sto} {Q Q' : D → Prop} {pos : Pos}
theorem lookup_zip {f : Str} {d : D} {K : PySem.W.Frag} {G : Hp} : ∀ {ns : List Str} {ds : List D} {vs : List V}, Reps K G ds vs → (ns.zip ds).lookup f = some d → ∃ v, (ns.zip vs).lookup f = some v ∧ Rep K G d v
  | [], _, _, _, h => by cases h
  | n :: ns, [], _, _, h => by cases h
  | n :: ns, x :: ds, _, r, h => by
    obtain ⟨v, ws, rfl, r1, r2⟩ := reps_consE r
    rw [List.zip_cons_cons, List.lookup_cons] at h ⊢
    cases q : f == n with
    | true => rw [q] at h; cases h; exact ⟨v, rfl, r1⟩
    | false => rw [q] at h; exact lookup_zip r2 h
theorem de_fld {f : Str} (hb : attributeBase a f X.env (eval a X.env) = eval a X.env) (h : DE c X a S fun x => ∃ C ns ds d, x = .obj C ns ds ∧ Cls X.K C ∧ NoAttr X.K C f ∧ (ns.zip ds).lookup f = some d ∧ Q d) : DE c X (.Attribute a f pos) S Q := fun G H σ E =>
  W.of (pe_fld pe_W hb) ((h G H σ E).mono fun vx H1 ⟨G1, x, e1, ⟨C, ns, ds, d, ex, cl, na, lk, q⟩, rx⟩ => by
    subst ex
    obtain ⟨p, dx, vs, rfl, hp, hl, rs⟩ := rep_obj.mp rx
    obtain ⟨v, hv, rd⟩ := lookup_zip rs lk
    exact ⟨p, C, dx, _, v, rfl, e1.sub _ _ hp, cl, na, hv, PostD.trans E.j e1 (postC e1.sub e1.reg q rd)⟩)
theorem Good.start {r : Reg} {G H : Hp} (s : Same G H) (j : r.J H) (m : ∀ b, r.mem b → G b = none) : Good ⟨r, G, H⟩ G H := ⟨Ext.refl s j, fun b hb => ⟨m b hb, Reg.trk j hb⟩⟩
theorem EnvOk.start (E : EnvOk X.K c G H σ S) : Good ⟨c.reg, G, H⟩ G H := Good.start E.sub E.j fun b m => (E.good.rg b m).1
theorem de_call {k : Nat} {f : Addr} {fd : FuncData} {ps : List Str} {sp : SpD} {x : Str} {p : Pos} (F : FnOk X.prog X.w X.K X.mg X.base CX0 k f fd ps (lift X.K sp)) (hr : Room k X.A) (hm : X.mg x = some (.ref f)) (hk : PySem.W.keepIn X.K (.ref f) = true) (hb : Binds X.K fd ps []) (hg : Gl X x)
    (h : DA c X (e :: es) S fun ds => sp c.reg ds Q) (hdb : (x == ("__debug__" : Str)) = false := by decide) (he : starEach (e :: es) X.env = (false, eval e X.env) :: starEach es X.env := by rfl) (hpl : (backTo pos (starEach es X.env)).any (·.1) = false := by rfl) :
    DE c X (.Call (.Name x p) (e :: es) [] pos) S Q := fun G H σ E =>
  W.of (pe_call F hr hg hm hk hb .nil pass0 pa_W hdb he hpl) ((h G H σ E).mono fun vs H1 ⟨G1, ds, e1, ⟨_, q⟩, rs⟩ => by
    rw [List.append_nil]
    have E1 := E.ext e1
    exact ⟨c.reg, G1, ds, Q, E1.start, rs, q, fun G' H' v z _ => PostD.trans E.j e1 z⟩)
end
section
variable {P : Program} {w : World} {K : PySem.W.Frag} {mg : Str → Option Value} {base : Heap}
theorem envOk_start {r : Reg} {G H : Hp} {ds : List D} {vs : List V} (n : Nat) (g : Good ⟨r, G, H⟩ G H) (rs : Reps K G ds vs) : EnvOk K ⟨r, G, H⟩ G H (vs.map some ++ List.replicate n none) (ds.map B.d ++ List.replicate n B.u) where
  j0 := g.j
  good := g
  len := by simp [rs.length]
  slot := fun i b h => by
    by_cases hi : i < ds.length
    · rw [List.getElem?_append_left (by simpa using hi), List.getElem?_map] at h
      cases q : ds[i]? with
      | none => rw [q] at h; cases h
      | some d =>
        rw [q] at h; cases h
        obtain ⟨v, hv, rd⟩ := rs.get q
        refine ⟨some v, ?_, v, rfl, rd⟩
        rw [List.getElem?_append_left (by simpa [rs.length] using hi), List.getElem?_map, hv]; rfl
    · have hj : i < ds.length + n := by
        have := (List.getElem?_eq_some_iff.mp h).1
        simpa using this
      refine ⟨none, ?_, ?_⟩
      · rw [List.getElem?_append_right (by simp [rs.length]; omega), List.getElem?_replicate, if_pos (by simp [rs.length]; omega)]
      · rw [List.getElem?_append_right (by simp; omega), List.getElem?_replicate, if_pos (by simp; omega)] at h
        cases h; trivial
  own := fun i xs a h _ => by
    exfalso
    by_cases hi : i < ds.length
    · rw [List.getElem?_append_left (by simpa using hi), List.getElem?_map] at h
      cases q : ds[i]? with
      | none => rw [q] at h; cases h
      | some d => rw [q] at h; cases h
    · rw [List.getElem?_append_right (by simp; omega), List.getElem?_replicate] at h
      split at h <;> cases h
  inj := fun i j xs ys a h _ _ _ => by
    exfalso
    by_cases hi : i < ds.length
    · rw [List.getElem?_append_left (by simpa using hi), List.getElem?_map] at h
      cases q : ds[i]? with
      | none => rw [q] at h; cases h
      | some d => rw [q] at h; cases h
    · rw [List.getElem?_append_right (by simp; omega), List.getElem?_replicate] at h
      split at h <;> cases h
theorem fn_D {x qual : Str} {st : Stmt} {f : Addr} {fd : FuncData} {N ps : List Str} {k : Nat} {sp : SpD} (F : L2.Fun K x qual st f fd) (S : FnScope N ps (defScope st)) (len : ∀ r ds P, sp r ds P → ds.length = ps.length)
    (hbody : ∀ (cdv : Value) (A : Around) (outer : List Env) (s : Shared) (G H : Hp) (E : XK) (r : Reg) (ds : List D) (P' : D → Prop), Room k (A.deeper (PyProof.Rows.envOfC qual (defScope st) s.heap.objs.size f cdv)) → sp r ds P' →
      DSs ⟨r, G, H⟩ (cxOf CX0 P w K mg base N qual (defScope st) f cdv A outer s H E).nox (defBody st) (ds.map B.d ++ List.replicate (N.length - ds.length) B.u) { nx := fun _ => P' .non, rt := P' }) : FnOk P w K mg base CX0 (k + 1) f fd ps (lift K sp) := by
  refine F.ok S (fun vs H Q E ⟨r, G, ds, P', g, rs, h, q⟩ => rs.length.trans (len r ds P' h)) fun cdv A outer s H vs Q E hr ⟨r, G, ds, P', g, rs, h, q⟩ => ⟨_, pss_W, ?_⟩
  have hb := hbody cdv A outer s G H E r ds P' hr h
  have E0 := envOk_start (N.length - ds.length) g rs
  have es : L2.start N vs = vs.map some ++ List.replicate (N.length - ds.length) none := by unfold L2.start; rw [rs.length]
  rw [es]
  refine (hb G H _ E0).mono (fun σ' H' ⟨G', S', E', up, z⟩ => q G' H' .non ⟨G', .non, E'.good.ext, z, rep_non.mpr rfl⟩ E'.good) (fun v H' ⟨G', d, g', up, z, rd⟩ => q G' H' v ⟨G', d, g'.ext, z, rd⟩ g') (fun σ' H' ⟨_, _, _, _, z⟩ => z.elim) (fun σ' H' ⟨_, _, _, _, z⟩ => z.elim)
end
section
variable {c : Ctx} {X : Cx} {a b e : Expr} {es : List Expr} {st : Stmt} {sts : List Stmt} {S : Sto} {D' : DEnds} {pos : Pos}
theorem toEnds_up {K : PySem.W.Frag} {G G1 : Hp} {σ : L2.St} {H : Hp} {st : Stmt} (up : Same G G1) (h : WS X st (toEnds K c G1 D') σ H) : WS X st (toEnds K c G D') σ H :=
  h.mono (fun _ _ ⟨G', S', E', u, z⟩ => ⟨G', S', E', up.trans u, z⟩) (fun _ _ ⟨G', S', E', u, z⟩ => ⟨G', S', E', up.trans u, z⟩) (fun _ _ ⟨G', S', E', u, z⟩ => ⟨G', S', E', up.trans u, z⟩) (fun _ _ ⟨G', S', E', u, z⟩ => ⟨G', S', E', up.trans u, z⟩)
theorem toEnds_ups {K : PySem.W.Frag} {G G1 : Hp} {σ : L2.St} {H : Hp} {st : List Stmt} (up : Same G G1) (h : WSs X st (toEnds K c G1 D') σ H) : WSs X st (toEnds K c G D') σ H :=
  h.mono (fun _ _ ⟨G', S', E', u, z⟩ => ⟨G', S', E', up.trans u, z⟩) (fun _ _ ⟨G', S', E', u, z⟩ => ⟨G', S', E', up.trans u, z⟩) (fun _ _ ⟨G', S', E', u, z⟩ => ⟨G', S', E', up.trans u, z⟩) (fun _ _ ⟨G', S', E', u, z⟩ => ⟨G', S', E', up.trans u, z⟩)
theorem ds_nil (h : D'.nx S) : DSs c X [] S D' := fun G H σ E => WSs.of pss_nil ⟨G, S, E, Same.refl G, h⟩
theorem ds_cons (h : DS c X st S { D' with nx := fun S' => DSs c X sts S' D' }) : DSs c X (st :: sts) S D' := fun G H σ E =>
  WSs.of (pss_cons ps_W pss_W) ((h G H σ E).mono (fun σ' H' ⟨G', S', E', up, z⟩ => toEnds_ups up (z G' H' σ' E')) (fun _ _ z => z) (fun _ _ z => z) (fun _ _ z => z))
theorem ds_one (h : DS c X st S D') : DSs c X [st] S D' := fun G H σ E => WSs.of (pss_one ps_W) (h G H σ E)
theorem DS.mono {D'' : DEnds} (h : DS c X st S D') (h1 : ∀ S, D'.nx S → D''.nx S) (h2 : ∀ S, D'.rt S → D''.rt S) (h3 : ∀ S, D'.bk S → D''.bk S) (h4 : ∀ S, D'.ct S → D''.ct S) : DS c X st S D'' := fun G H σ E =>
  (h G H σ E).mono (fun _ _ ⟨G', S', E', u, z⟩ => ⟨G', S', E', u, h1 _ z⟩) (fun _ _ ⟨G', d, g, u, z, r⟩ => ⟨G', d, g, u, h2 _ z, r⟩) (fun _ _ ⟨G', S', E', u, z⟩ => ⟨G', S', E', u, h3 _ z⟩) (fun _ _ ⟨G', S', E', u, z⟩ => ⟨G', S', E', u, h4 _ z⟩)
theorem DSs.mono {D'' : DEnds} (h : DSs c X sts S D') (h1 : ∀ S, D'.nx S → D''.nx S) (h2 : ∀ S, D'.rt S → D''.rt S) (h3 : ∀ S, D'.bk S → D''.bk S) (h4 : ∀ S, D'.ct S → D''.ct S) : DSs c X sts S D'' := fun G H σ E =>
  (h G H σ E).mono (fun _ _ ⟨G', S', E', u, z⟩ => ⟨G', S', E', u, h1 _ z⟩) (fun _ _ ⟨G', d, g, u, z, r⟩ => ⟨G', d, g, u, h2 _ z, r⟩) (fun _ _ ⟨G', S', E', u, z⟩ => ⟨G', S', E', u, h3 _ z⟩) (fun _ _ ⟨G', S', E', u, z⟩ => ⟨G', S', E', u, h4 _ z⟩)
theorem ds_pass (h : D'.nx S) : DS c X (.Pass pos) S D' := fun G H σ E => WS.of ps_pass ⟨G, S, E, Same.refl G, h⟩
theorem ds_break (h : D'.bk S) : DS c X (.Break pos) S D' := fun G H σ E => WS.of ps_break ⟨G, S, E, Same.refl G, h⟩
theorem ds_cont (h : D'.ct S) : DS c X (.Continue pos) S D' := fun G H σ E => WS.of ps_continue ⟨G, S, E, Same.refl G, h⟩
theorem ds_ret (h : DE c X e S D'.rt) : DS c X (.Return (some e) pos) S D' := fun G H σ E => WS.of (ps_ret pe_W) ((h G H σ E).mono fun v H1 ⟨G1, d, e1, q, rd⟩ => ⟨G1, d, (E.ext e1).good, e1.up, q, rd⟩)
theorem ds_retN (h : D'.rt .non) : DS c X (.Return none pos) S D' := fun G H σ E => WS.of ps_retN ⟨G, .non, E.good, Same.refl G, h, rep_non.mpr rfl⟩
theorem ds_expr (h : DE c X e S fun _ => D'.nx S) (hs : swapsWith e none pos.line X.env = pure false := by rfl) : DS c X (.Expr e pos) S D' := fun G H σ E =>
  WS.of (ps_expr pe_W hs) ((h G H σ E).mono fun v H1 ⟨G1, d, e1, q, rd⟩ => ⟨G1, S, E.ext e1, e1.up, q⟩)
theorem ds_if {t : Expr} {as bs : List Stmt} (h : DT c X t S fun k => (k = true → DSs c X as S D') ∧ (k = false → DSs c X bs S D')) : DS c X (.If t as bs pos) S D' := fun G H σ E =>
  WS.of (ps_if pt_W pss_W pss_W) ((h G H σ E).mono fun k H1 ⟨G1, e1, q1, q2⟩ => by
    cases k with
    | true => exact iteT (toEnds_ups e1.up (q1 rfl G1 H1 σ (E.ext e1)))
    | false => exact iteF (toEnds_ups e1.up (q2 rfl G1 H1 σ (E.ext e1))))
theorem ds_set {x : Str} {pos' : Pos} (i : Nat) (hN : X.N.Nodup) (hi : X.N[i]? = some x) (hx : Loc X.env.scope x) (h : DE c X e S fun d => D'.nx (S.set i (.d d))) (hs : swapsWith e (some (.Name x pos')) pos.line X.env = pure false := by rfl) (hf : X.fn x = true ∨ X.env.scope.names.lookup x = some .local := by first | exact .inl rfl | exact .inr rfl | assumption) :
    DS c X (.Assign [.Name x pos'] e pos) S D' := fun G H σ E =>
  WS.of (ps_set (i := i) hN hi hx pe_W hs hf) ((h G H σ E).mono fun v H1 ⟨G1, d, e1, q, rd⟩ => ⟨G1, _, (E.ext e1).set_d rd, e1.up, q⟩)
theorem own_new {G H G1 H1 : Hp} {σ : L2.St} {p : Addr} {vs : List V} {xs : List D} {i : Nat} (E : EnvOk X.K c G H σ S) (e1 : Ext c.reg G H G1 H1) (n : H p = none) (h : H1 p = some (.lst vs)) (g : G1 p = none) (rs : Reps X.K G1 xs vs) : EnvOk X.K c G1 H1 (σ.set i (some (.ref p))) (S.set i (.m xs)) := by
  refine (E.ext e1).set_m h g ?_ rs fun j ys _ hj e => ?_
  · cases q : c.H0 p with
    | none => rfl
    | some o =>
      by_cases m : c.reg.mem p
      · exact absurd n (Reg.trk E.j m)
      · rw [E.good.ext.same p o m q] at n; cases n
  · obtain ⟨p', vs', h1, h2, _⟩ := E.m hj
    rw [e] at h1; cases h1
    rw [n] at h2; cases h2
theorem ds_setM {x : Str} {pos' : Pos} (i : Nat) (hN : X.N.Nodup) (hi : X.N[i]? = some x) (hx : Loc X.env.scope x) (h : DF c X e S fun xs => D'.nx (S.set i (.m xs))) (hs : swapsWith e (some (.Name x pos')) pos.line X.env = pure false := by rfl) (hf : X.fn x = true ∨ X.env.scope.names.lookup x = some .local := by first | exact .inl rfl | exact .inr rfl | assumption) :
    DS c X (.Assign [.Name x pos'] e pos) S D' := fun G H σ E =>
  WS.of (ps_set (i := i) hN hi hx pe_W hs hf) ((h G H σ E).mono fun v H1 ⟨G1, p, vs, xs, e1, ev, n, h1, g1, q, rs⟩ => by
    subst ev
    exact ⟨G1, _, own_new E e1 n h1 g1 rs, e1.up, q⟩)
theorem ds_aug {x : Str} {pos' : Pos} {op : Operator} {f : Int → Int → Int} (i : Nat) (hN : X.N.Nodup) (hi : X.N[i]? = some x) (hx : Loc X.env.scope x) (ho : PIp X op (ipI f)) {m : Int} (hS : S[i]? = some (.d (.int m))) (h : DE c X e S fun d => ∃ n, d = .int n ∧ D'.nx (S.set i (.d (.int (f m n)))))
    (hf : X.fn x = true ∨ X.env.scope.names.lookup x = some .local := by first | exact .inl rfl | exact .inr rfl | assumption) : DS c X (.AugAssign (.Name x pos') op e pos) S D' := fun G H σ E =>
  WS.of (ps_aug (i := i) hN hi hx pe_W ho hf) (by
    obtain ⟨v, ev, rv⟩ := E.d hS
    refine ⟨v, ev, (h G H σ E).mono fun w H1 ⟨G1, d, e1, ⟨n, ed, q⟩, rd⟩ => ?_⟩
    subst ed
    exact ⟨m, n, rep_int.mp rv, rep_int.mp rd, G1, _, (E.ext e1).set_d (rep_int.mpr rfl), e1.up, q⟩)
theorem ds_append {x : Str} {px apos cpos : Pos} (i : Nat) (hN : X.N[i]? = some x) (hv : Vis X.env.scope x) {xs : List D} (hS : S[i]? = some (.m xs)) (hl : xs.length ≤ 100000) (h : DE c X e S fun d => D'.nx (S.set i (.m (xs ++ [d]))))
    (hd : (x == ("__debug__" : Str)) = false := by decide) (hcd : (x == ("__classdict__" : Str)) = false := by decide)
    (hbase : attributeBase (.Name x px) "append" X.env (eval (.Name x px) X.env) = eval (.Name x px) X.env := by rfl)
    (hfew : ((backTo cpos (starEach (e :: []) X.env)).all (fun x => !x.1) && (backToKw cpos (keywordEach [] X.env)).all (fun x => x.1.isSome) && decide ((e :: []).length + ([] : List Keyword).length + (if ([] : List Keyword).isEmpty then 0 else 1) < 30)) = true := by rfl)
    (hline : (apos.endLine == cpos.line) = true := by rfl) (hs : starEach (e :: []) X.env = (false, eval e X.env) :: starEach [] X.env := by rfl) (hplain : (backTo cpos (starEach [] X.env)).any (·.1) = false := by rfl)
    (hsw : swapsWith (.Call (.Attribute (.Name x px) "append" apos) [e] [] cpos) none pos.line X.env = pure false := by rfl) : DS c X (.Expr (.Call (.Attribute (.Name x px) "append" apos) [e] [] cpos) pos) S D' := fun G H σ E => by
  obtain ⟨p, vs, e0, h0, g0, rs, f0, nm⟩ := E.m hS
  refine WS.of (ps_expr (pe_bm PySem.F.plainAttrs_list PySem.F.slot_list_append PySem.F.type_list_append mt_append (pe_var hN hv hd hcd) (pa_cons pe_W pa_nil hs) hbase hfew hline hs hplain) hsw) ?_
  refine ⟨.ref p, e0, .inl ⟨rfl, vs, SqL.of h0⟩, ?_⟩
  refine (h G H σ E).mono fun w H1 ⟨G1, d, e1, q, rd⟩ => ?_
  have E1 := E.ext e1
  have l1 := rs.length
  refine ⟨p, vs, w, rfl, rfl, e1.same _ _ nm h0, by rw [sizeLine_eq]; omega, G1, _, E1.write hS e0 ((rs.mono e1.up).append (reps_cons rd reps_nil)), e1.up, q⟩
theorem ds_setItem {x : Str} {px spos : Pos} (i : Nat) (hN : X.N[i]? = some x) (hv : Vis X.env.scope x) {xs : List D} (hS : S[i]? = some (.m xs)) (h : DE c X e S fun d => DE c X b S fun y => ∃ (k : Int) (j : Nat), y = .int k ∧ ixN xs.length k = some j ∧ D'.nx (S.set i (.m (xs.set j d))))
    (hd : (x == ("__debug__" : Str)) = false := by decide) (hcd : (x == ("__classdict__" : Str)) = false := by decide) (g : ∀ (t : TG), PG X (.Subscript (.Name x px) b spos) t → PS X (.Assign [.Subscript (.Name x px) b spos] e pos) (tAsg (W X e) t))
    (hg : PG X (.Subscript (.Name x px) b spos) (gSub (tVar i) (W X b) rSetL)) : DS c X (.Assign [.Subscript (.Name x px) b spos] e pos) S D' := fun G H σ E => by
  obtain ⟨p, vs, e0, h0, g0, rs, f0, nm⟩ := E.m hS
  refine WS.of (g _ hg) ?_
  refine (h G H σ E).mono fun w H1 ⟨G1, d, e1, hy, rd⟩ => ?_
  refine ⟨.ref p, e0, (hy G1 H1 σ (E.ext e1)).mono fun vy H2 ⟨G2, y, e2, ⟨k, j, ey, hk, q⟩, ry⟩ => ?_⟩
  subst ey
  have e12 := e1.trans e2 E.j
  refine ⟨p, vs, k, j, rfl, rep_int.mp ry, e12.same _ _ nm h0, by rw [rs.length]; exact hk, G2, _, (E.ext e12).write hS e0 (Reps.set (rd.mono e2.up) j (rs.mono e12.up)), e12.up, q⟩
theorem dss_freeze (i : Nat) {xs : List D} (hS : S[i]? = some (.m xs)) (h : DSs c X sts (S.set i (.d (.lst xs))) D') : DSs c X sts S D' := fun G H σ E => by
  obtain ⟨a, vs, _, _, _, E', up⟩ := E.freeze hS
  exact toEnds_ups up (h _ H σ E')
theorem ds_freeze (i : Nat) {xs : List D} (hS : S[i]? = some (.m xs)) (h : DS c X st (S.set i (.d (.lst xs))) D') : DS c X st S D' := fun G H σ E => by
  obtain ⟨a, vs, _, _, _, E', up⟩ := E.freeze hS
  exact toEnds_up up (h _ H σ E')
theorem dt_borrow (i : Nat) {xs : List D} {Q : Bool → Prop} (hS : S[i]? = some (.m xs)) (h : DT c X e (S.set i (.d (.lst xs))) Q) : DT c X e S Q := fun G H σ E => by
  obtain ⟨a, vs, h1, h2, h3, E', up⟩ := E.freeze hS
  refine (h _ H σ E').mono fun k H' ⟨G', x, q⟩ => ⟨G, ⟨Same.refl G, fun b o z => x.sub b o (x.up b o (up b o z)), x.same, fun _ _ => rfl, x.reg⟩, q⟩
def flatD : D → Bool
  | .non => true
  | .bl _ => true
  | .int _ => true
  | .str _ => true
  | _ => false
theorem rep_flat {K : PySem.W.Frag} {G G' : Hp} {d : D} {v : V} (f : flatD d = true) (h : Rep K G d v) : Rep K G' d v := by
  cases d with
  | non => exact rep_non.mpr (rep_non.mp h)
  | bl b => exact rep_bl.mpr (rep_bl.mp h)
  | int b => exact rep_int.mpr (rep_int.mp h)
  | str b => exact rep_str.mpr (rep_str.mp h)
  | _ => cases f
theorem de_borrow (i : Nat) {xs : List D} {Q : D → Prop} (hS : S[i]? = some (.m xs)) (h : DE c X e (S.set i (.d (.lst xs))) fun d => flatD d = true ∧ Q d) : DE c X e S Q := fun G H σ E => by
  obtain ⟨a, vs, h1, h2, h3, E', up⟩ := E.freeze hS
  refine (h _ H σ E').mono fun k H' ⟨G', d, x, ⟨f, q⟩, rd⟩ => ⟨G, d, ⟨Same.refl G, fun b o z => x.sub b o (x.up b o (up b o z)), x.same, fun _ _ => rfl, x.reg⟩, q, rep_flat f rd⟩
theorem ds_while {t : Expr} {body : List Stmt} (hp : PassesOwn (model X.prog X.w) X.A X.env X.xe) (I : Nat → Sto → Prop) (m0 : Nat) (h0 : I m0 S)
    (hs : ∀ m S', I m S' → DT c X t S' fun k => (k = true → DSs c X body S' { D' with nx := fun S2 => ∃ m', m' < m ∧ I m' S2, ct := fun S2 => ∃ m', m' < m ∧ I m' S2, bk := D'.nx }) ∧ (k = false → D'.nx S')) : DS c X (.While t body [] pos) S D' := fun G H σ E =>
  WS.of (ps_while hp pt_W pss_W) (by
    refine ⟨fun m σ' H' => ∃ G' S', EnvOk X.K c G' H' σ' S' ∧ Same G G' ∧ I m S', ⟨m0, G, S, E, Same.refl G, h0⟩, ?_⟩
    rintro m σ' H' ⟨G', S', E', up, i⟩
    refine (hs m S' i G' H' σ' E').mono fun k H1 ⟨G1, e1, q1, q2⟩ => ?_
    cases k with
    | true =>
      refine iteT ⟨fun σ2 H2 => ∃ m', m' < m ∧ ∃ G2 S2, EnvOk X.K c G2 H2 σ2 S2 ∧ Same G G2 ∧ I m' S2, fun σ2 H2 z => z, ?_⟩
      refine (q1 rfl G1 H1 σ' (E'.ext e1)).mono (fun σ2 H2 ⟨G2, S2, E2, u, m', lt, z⟩ => ⟨m', lt, G2, S2, E2, (up.trans e1.up).trans u, z⟩) (fun v H2 ⟨G2, d, g, u, z, r⟩ => ⟨G2, d, g, (up.trans e1.up).trans u, z, r⟩)
        (fun σ2 H2 ⟨G2, S2, E2, u, z⟩ => ⟨G2, S2, E2, (up.trans e1.up).trans u, z⟩) (fun σ2 H2 ⟨G2, S2, E2, u, m', lt, z⟩ => ⟨m', lt, G2, S2, E2, (up.trans e1.up).trans u, z⟩)
    | false => exact iteF ⟨G1, S', E'.ext e1, up.trans e1.up, q2 rfl⟩)
end
end DL
set_option Elab.async false
set_option linter.all false
set_option maxRecDepth 100000
set_option maxHeartbeats 1000000
namespace DL
open PySem PySem.Spec L2
inductive Tgt where
  | n (i : Nat) | t (is : List Nat)
def gNames : List Nat → TGs
  | [] => gNil
  | i :: is => gCons (gName i) (gNames is)
def Tgt.g (K : PySem.W.Frag) : Tgt → TG
  | .n i => gName i
  | .t is => gTup K is.length (gNames is)
def Tgt.ix : Tgt → List Nat
  | .n i => [i]
  | .t is => is
def putAll : List Nat → List D → Sto → Sto
  | i :: is, d :: ds, S => putAll is ds (S.set i (.d d))
  | _, _, S => S
def Tgt.put : Tgt → D → Sto → (Sto → Prop) → Prop
  | .n i, d, S, Q => Q (S.set i (.d d))
  | .t is, d, S, Q => ∃ ds, d = .tup ds ∧ ds.length = is.length ∧ Q (putAll is ds S)
section
variable {c : Ctx} {K : PySem.W.Frag} {G H : Hp} {σ : L2.St} {S : Sto}
theorem names_go : ∀ (is : List Nat) {ds : List D} {vs : List V} {σ : L2.St} {S : Sto} {Z : L2.St → Hp → Prop}, EnvOk K c G H σ S → Reps K G ds vs → ds.length = is.length →
    (∀ σ', EnvOk K c G H σ' (putAll is ds S) → σ'.length = σ.length → (∀ j, j ∉ is → σ'[j]? = σ[j]?) → Z σ' H) → gNames is vs σ H Z
  | [], ds, vs, σ, S, Z, E, rs, hl, h => by
    have e : ds = [] := List.length_eq_zero_iff.mp hl
    subst e
    rw [reps_nilE rs]
    exact ⟨rfl, h σ E rfl fun _ _ => rfl⟩
  | i :: is, ds, vs, σ, S, Z, E, rs, hl, h => by
    cases ds with
    | nil => cases hl
    | cons d ds =>
      obtain ⟨v, ws, rfl, r1, r2⟩ := reps_consE rs
      refine ⟨v, ws, rfl, names_go is (E.set_d r1) r2 (Nat.succ.inj hl) fun σ' E' l e => h σ' E' ?_ fun j hj => ?_⟩
      · rw [l, List.length_set]
      · rw [e j (fun z => hj (List.mem_cons_of_mem _ z)), List.getElem?_set_ne (fun z => hj (by rw [z]; exact List.mem_cons_self))]
theorem tgt_go {T : Tgt} {d : D} {v : V} {Q : Sto → Prop} {Z : L2.St → Hp → Prop} (E : EnvOk K c G H σ S) (r : Rep K G d v) (h : T.put d S Q) (hz : ∀ σ' S', EnvOk K c G H σ' S' → Q S' → σ'.length = σ.length → (∀ j, j ∉ T.ix → σ'[j]? = σ[j]?) → Z σ' H) : T.g K v σ H Z := by
  cases T with
  | n i => exact hz _ _ (E.set_d r) h (by rw [List.length_set]) fun j hj => List.getElem?_set_ne fun z => hj (by rw [z]; exact List.mem_cons_self)
  | t is =>
    obtain ⟨ds, rfl, hl, q⟩ := h
    obtain ⟨a, vs, rfl, sq, rs⟩ := rep_tup.mp r
    exact ⟨a, vs, rfl, seqT_mono E.sub sq, rs.length.trans hl, names_go is E rs hl fun σ' E' l e => hz σ' _ E' q l e⟩
end
structure PGT (X : Cx) (tg : Expr) (T : Tgt) : Prop where
  pg : PG X tg (T.g X.K)
section
variable {X : Cx} {pos : Pos}
theorem pgt_name {x : Str} (i : Nat) (hN : X.N.Nodup) (hi : X.N[i]? = some x) (hx : Loc X.env.scope x) (hf : X.fn x = true ∨ X.env.scope.names.lookup x = some .local := by first | exact .inl rfl | exact .inr rfl | assumption) : PGT X (.Name x pos) (.n i) := ⟨pg_name hN hi hx hf⟩
structure PGNs (X : Cx) (es : List Expr) (is : List Nat) : Prop where
  pg : PGs X es (gNames is)
theorem pgn_nil : PGNs X [] [] := ⟨pgs_nil⟩
theorem pgn_cons {x : Str} {es : List Expr} {is : List Nat} (i : Nat) (hN : X.N.Nodup) (hi : X.N[i]? = some x) (hx : Loc X.env.scope x) (h : PGNs X es is) (hf : X.fn x = true ∨ X.env.scope.names.lookup x = some .local := by first | exact .inl rfl | exact .inr rfl | assumption) : PGNs X (.Name x pos :: es) (i :: is) := ⟨pgs_cons (pg_name hN hi hx hf) h.pg⟩
theorem pgt_tup {es : List Expr} {is : List Nat} {k : Nat} (hc : X.calm = true) (h : PGNs X es is) (hn : (assignEach es X.env).length = is.length := by rfl) (hst : (assignEach es X.env).findIdx? (·.1) = none := by rfl) : PGT X (.Tuple es k pos) (.t is) :=
  ⟨pg_tup hc h.pg hn hst⟩
end
def DI (c : Ctx) (X : Cx) (tg iter : Expr) (S : Sto) (R : List D → Prop) : Prop := ∀ G H σ, EnvOk X.K c G H σ S → WI X tg iter σ H fun J H1 => ∃ (G1 : Hp) (xs : List D) (GG : Hp → Prop) (Y : Nat → Hp → V → Hp → Prop), Ext c.reg G H G1 H1 ∧ R xs ∧ Walk J xs.length GG Y ∧
    (∀ G2 H2, Same G1 G2 → Same G2 H2 → GG H2) ∧ ∀ i G2 H2 x H3, Same G1 G2 → Same G2 H2 → c.reg.J H2 → Y i H2 x H3 → ∃ G3 d, xs[i]? = some d ∧ Ext c.reg G2 H2 G3 H3 ∧ Rep X.K G3 d x
section
variable {c : Ctx} {X : Cx} {tg a b e : Expr} {es : List Expr} {S : Sto} {R : List D → Prop} {pos : Pos}
theorem DI.mono {R' : List D → Prop} (h : DI c X tg e S R) (q : ∀ xs, R xs → R' xs) : DI c X tg e S R' := fun G H σ E => (h G H σ E).mono fun _ _ ⟨G1, xs, GG, Y, e1, r, z⟩ => ⟨G1, xs, GG, Y, e1, q xs r, z⟩
theorem di_list (h : DE c X e S fun d => ∃ xs, d = .lst xs ∧ R xs) : DI c X tg e S R := fun G H σ E => WI.of (pi_list pe_W) ((h G H σ E).mono fun v H1 ⟨G1, d, e1, ⟨xs, ed, q⟩, rd⟩ => by
  subst ed
  obtain ⟨p, vs, rfl, sq, rs⟩ := rep_lst.mp rd
  refine ⟨p, rfl, ⟨vs, Or.inl (rd_mono e1.sub sq)⟩, G1, xs, _, _, e1, q, by rw [← rs.length]; exact walk_list, fun G2 H2 s1 s2 => Or.inl (rd_mono s2 (rd_mono s1 sq)), fun i G2 H2 x H3 s1 s2 j y => ?_⟩
  obtain ⟨rfl, hx⟩ := y
  obtain ⟨d, hd, rx⟩ := rs.getV hx
  exact ⟨G2, d, hd, Ext.refl s2 j, rx.mono s1⟩)
theorem di_tup (h : DE c X e S fun d => ∃ xs, d = .tup xs ∧ R xs) : DI c X tg e S R := fun G H σ E => WI.of (pi_tup pe_W) ((h G H σ E).mono fun v H1 ⟨G1, d, e1, ⟨xs, ed, q⟩, rd⟩ => by
  subst ed
  obtain ⟨p, vs, rfl, sq, rs⟩ := rep_tup.mp rd
  refine ⟨p, rfl, ⟨vs, seqT_mono e1.sub sq⟩, G1, xs, _, _, e1, q, by rw [← rs.length]; exact walk_tup, fun G2 H2 s1 s2 => seqT_mono s2 (seqT_mono s1 sq), fun i G2 H2 x H3 s1 s2 j y => ?_⟩
  obtain ⟨rfl, hx⟩ := y
  obtain ⟨d, hd, rx⟩ := rs.getV hx
  exact ⟨G2, d, hd, Ext.refl s2 j, rx.mono s1⟩)
def rangeD (lo : Int) (n : Nat) : List D := (List.range n).map fun (i : Nat) => .int (lo + (i : Int))
theorem rangeD_len {lo : Int} {n : Nat} : (rangeD lo n).length = n := by unfold rangeD; rw [List.length_map, List.length_range]
theorem rangeD_get {lo : Int} {n i : Nat} (h : i < n) : (rangeD lo n)[i]? = some (.int (lo + (i : Int))) := by
  unfold rangeD; rw [List.getElem?_map, List.getElem?_range h]; rfl
theorem range_go {G G1 H H1 : Hp} {lo : Int} {n : Nat} (e1 : Ext c.reg G H G1 H1) (q : R (rangeD lo n)) : ∃ (G1 : Hp) (xs : List D) (GG : Hp → Prop) (Y : Nat → Hp → V → Hp → Prop), Ext c.reg G H G1 H1 ∧ R xs ∧ Walk (Itr lo n) xs.length GG Y ∧
    (∀ G2 H2, Same G1 G2 → Same G2 H2 → GG H2) ∧ ∀ i G2 H2 x H3, Same G1 G2 → Same G2 H2 → c.reg.J H2 → Y i H2 x H3 → ∃ G3 d, xs[i]? = some d ∧ Ext c.reg G2 H2 G3 H3 ∧ Rep X.K G3 d x := by
  refine ⟨G1, rangeD lo n, fun _ => True, fun i H x H' => i < n ∧ H' = H ∧ x = .int (lo + i), e1, q, ?_, fun _ _ _ _ => trivial, fun i G2 H2 x H3 s1 s2 j y => ?_⟩
  · rw [rangeD_len]
    exact ⟨fun _ _ hi _ => hi, fun _ _ => Nat.le_refl _, fun _ _ _ _ hi _ y => ⟨hi, y⟩⟩
  · obtain ⟨hi, rfl, rfl⟩ := y
    exact ⟨G2, _, rangeD_get hi, Ext.refl s2 j, rep_int.mpr rfl⟩
theorem di_range1 {p : Pos} (hm : X.mg "range" = none) (hg : Gl X "range") (h : DE c X e S fun d => ∃ n : Int, d = .int n ∧ -(2 ^ 62) ≤ n ∧ n < 2 ^ 62 ∧ R (rangeD 0 n.toNat)) (hs : starEach [e] X.env = [(false, eval e X.env)] := by rfl) : DI c X tg (.Call (.Name "range" p) [e] [] pos) S R := fun G H σ E =>
  WI.of (pi_range1 hg hm (pa_cons pe_W pa_nil hs) hs) ((h G H σ E).mono fun v H1 ⟨G1, d, e1, ⟨n, ed, h1, h2, q⟩, rd⟩ => by
    subst ed
    exact ⟨n, by rw [rep_int.mp rd], h1, h2, range_go e1 q⟩)
theorem di_range2 {p : Pos} (hm : X.mg "range" = none) (hg : Gl X "range") (h : DE c X a S fun d => DE c X b S fun d' => ∃ m n : Int, d = .int m ∧ d' = .int n ∧ (-(2 ^ 62) ≤ m ∧ m < 2 ^ 62 ∧ -(2 ^ 62) ≤ n ∧ n < 2 ^ 62) ∧ R (rangeD m (n - m).toNat))
    (hs : starEach [a, b] X.env = [(false, eval a X.env), (false, eval b X.env)] := by rfl) (hs2 : starEach [b] X.env = [(false, eval b X.env)] := by rfl) : DI c X tg (.Call (.Name "range" p) [a, b] [] pos) S R := fun G H σ E =>
  WI.of (pi_range2 hg hm (pa_cons pe_W (pa_cons pe_W pa_nil hs2) (by rw [hs, hs2])) hs hs2) ((h G H σ E).mono fun v H1 ⟨G1, d, e1, h', rd⟩ => (h' G1 H1 σ (E.ext e1)).mono fun w H2 ⟨G2, d', e2, ⟨m, n, ed, ed', hb, q⟩, rd'⟩ => by
    subst ed ed'
    exact ⟨m, n, by rw [rep_int.mp rd, rep_int.mp rd'], hb, range_go (e1.trans e2 E.j) q⟩)
def enumD (xs : List D) : List D := xs.zipIdx.map fun p => .tup [.int (p.2 : Int), p.1]
theorem enumD_len {xs : List D} : (enumD xs).length = xs.length := by unfold enumD; rw [List.length_map, List.length_zipIdx]
theorem enumD_get {xs : List D} {i : Nat} {d : D} (h : xs[i]? = some d) : (enumD xs)[i]? = some (.tup [.int (i : Int), d]) := by
  unfold enumD; rw [List.getElem?_map, List.getElem?_zipIdx, h]; simp
theorem di_enum {p tpos : Pos} {elts : List Expr} {kk : Nat} (hm : X.mg "enumerate" = none) (hg : Gl X "enumerate") (h : DE c X e S fun d => ∃ xs, d = .lst xs ∧ R (enumD xs)) (hs : starEach [e] X.env = [(false, eval e X.env)] := by rfl) : DI c X (.Tuple elts kk tpos) (.Call (.Name "enumerate" p) [e] [] pos) S R := fun G H σ E =>
  WI.of (pi_enum hg hm (pa_cons pe_W pa_nil hs) hs) ((h G H σ E).mono fun v H1 ⟨G1, d, e1, ⟨xs, ed, q⟩, rd⟩ => by
    subst ed
    obtain ⟨a, vs, rfl, sq, rs⟩ := rep_lst.mp rd
    refine ⟨a, vs, rfl, Or.inl (rd_mono e1.sub sq), G1, enumD xs, _, _, e1, q, by rw [enumD_len, ← rs.length]; exact walk_enum, fun G2 H2 s1 s2 => Or.inl (rd_mono s2 (rd_mono s1 sq)), fun i G2 H2 x H3 s1 s2 j y => ?_⟩
    obtain ⟨T, z, y', rfl, nT, rfl, hz, hy⟩ := y
    cases hz
    obtain ⟨d, hd, rx⟩ := rs.getV hy
    exact ⟨_, _, enumD_get hd, Ext.new s2 j nT, rep_tup.mpr ⟨T, _, rfl, SqT.of upd_same, (reps_cons (rep_int.mpr rfl) (reps_cons (rx.mono s1) reps_nil)).mono (Ext.new (o := .tup [V.int (i : Nat), y']) s2 j nT).up⟩⟩)
def zipD (xs ys : List D) : List D := (xs.zip ys).map fun p => .tup [p.1, p.2]
theorem zipD_get {xs ys : List D} {i : Nat} {d d' : D} (h : xs[i]? = some d) (h' : ys[i]? = some d') : (zipD xs ys)[i]? = some (.tup [d, d']) := by
  unfold zipD; rw [List.getElem?_map, (List.getElem?_zip_eq_some (z := (d, d'))).mpr ⟨h, h'⟩]; rfl
theorem di_zip {p tpos : Pos} {elts : List Expr} {kk : Nat} (hm : X.mg "zip" = none) (hg : Gl X "zip") (h : DE c X a S fun d => DE c X b S fun d' => ∃ xs ys, d = .lst xs ∧ d' = .lst ys ∧ R (zipD xs ys))
    (hs : starEach [a, b] X.env = (false, eval a X.env) :: starEach [b] X.env := by rfl) (hs2 : starEach [b] X.env = (false, eval b X.env) :: starEach [] X.env := by rfl) (hpl : (backTo pos (starEach [b] X.env)).any (·.1) = false := by rfl) : DI c X (.Tuple elts kk tpos) (.Call (.Name "zip" p) [a, b] [] pos) S R := fun G H σ E =>
  WI.of (pi_zip hg hm (pa_cons pe_W (pa_cons pe_W pa_nil hs2) hs) hs hpl) ((h G H σ E).mono fun v H1 ⟨G1, d, e1, h', rd⟩ => (h' G1 H1 σ (E.ext e1)).mono fun w H2 ⟨G2, d', e2, ⟨xs, ys, ed, ed', q⟩, rd'⟩ => by
    subst ed ed'
    obtain ⟨a, vs, rfl, sq, rs⟩ := rep_lst.mp (rd.mono e2.up)
    obtain ⟨a', vs', rfl, sq', rs'⟩ := rep_lst.mp rd'
    refine ⟨a, a', vs, vs', rfl, Or.inl (rd_mono e2.sub sq), Or.inl (rd_mono e2.sub sq'), G2, zipD xs ys, _, _, e1.trans e2 E.j, q, walk_zip ?_, fun G3 H3 s1 s2 => ⟨Or.inl (rd_mono s2 (rd_mono s1 sq)), Or.inl (rd_mono s2 (rd_mono s1 sq'))⟩, fun i G3 H3 x H4 s1 s2 j y => ?_⟩
    · unfold zipD; rw [List.length_map, List.length_zip, rs.length, rs'.length]
    · obtain ⟨T, z, y', rfl, nT, rfl, hz, hy⟩ := y
      obtain ⟨d, hd, rx⟩ := rs.getV hz
      obtain ⟨d', hd', rx'⟩ := rs'.getV hy
      exact ⟨_, _, zipD_get hd hd', Ext.new s2 j nT, rep_tup.mpr ⟨T, _, rfl, SqT.of upd_same, (reps_cons (rx.mono s1) (reps_cons (rx'.mono s1) reps_nil)).mono (Ext.new (o := .tup [z, y']) s2 j nT).up⟩⟩)
theorem ds_for {iter : Expr} {body : List Stmt} {T : Tgt} {D' : DEnds} (hp : PassesOwn (model X.prog X.w) X.A X.env X.xe) (hc : X.calm = true) (ht : PGT X tg T)
    (h : DI c X tg iter S fun xs => ∃ I : Nat → Sto → Prop, I 0 S ∧ (∀ i x S', xs[i]? = some x → I i S' → T.put x S' fun S2 => DSs c X body S2 { D' with nx := I (i + 1), ct := I (i + 1), bk := D'.nx }) ∧ ∀ S', I xs.length S' → D'.nx S')
    (hs : ∀ x, foldedSetIterable iter X.env x = pure x := by intro _; rfl) : DS c X (.For tg iter body [] pos) S D' := fun G H σ E =>
  WS.of (ps_for hp hc pi_W ht.pg pss_W hs) (by
    refine (h G H σ E).mono fun J H1 ⟨G1, xs, GG, Y, e1, ⟨I, i0, step, fin⟩, wk, gg, yy⟩ => ?_
    have key := for_it (tb := WSs X body) (D := toEnds X.K c G D') (g := T.g X.K) (σ := σ) (H := H1) wk (fun i σ' H' => ∃ G' S', EnvOk X.K c G' H' σ' S' ∧ Same G1 G' ∧ I i S') ⟨G1, S, E.ext e1, Same.refl _, i0⟩
      (fun i σ' H' _ ⟨G', S', E', u, _⟩ => gg G' H' u E'.sub) (fun i x σ' H' H3 hi ⟨G', S', E', u, z⟩ y => by
        obtain ⟨G3, d, hd, e3, rd⟩ := yy i G' H' x H3 u E'.sub E'.j y
        have E3 := E'.ext e3
        refine tgt_go E3 rd (step i d S' hd z) fun σ2 S2 E2 q _ _ => ?_
        refine (q G3 H3 σ2 E2).mono (fun _ _ ⟨G4, S4, E4, u4, z4⟩ => ⟨G4, S4, E4, (u.trans e3.up).trans u4, z4⟩) (fun _ _ ⟨G4, d4, g4, u4, z4, r4⟩ => ⟨G4, d4, g4, ((e1.up.trans u).trans e3.up).trans u4, z4, r4⟩)
          (fun _ _ ⟨G4, S4, E4, u4, z4⟩ => ⟨G4, S4, E4, ((e1.up.trans u).trans e3.up).trans u4, z4⟩) (fun _ _ ⟨G4, S4, E4, u4, z4⟩ => ⟨G4, S4, E4, (u.trans e3.up).trans u4, z4⟩))
      (fun σ' H' ⟨G', S', E', u, z⟩ => ⟨G', S', E', e1.up.trans u, fin S' z⟩)
    exact key)
def wipeS (S : Sto) : List Nat → Sto
  | [] => S
  | v :: vs => (wipeS S vs).set v .u
theorem wipeS_len (S : Sto) : ∀ vs : List Nat, (wipeS S vs).length = S.length
  | [] => rfl
  | v :: vs => by unfold wipeS; rw [List.length_set, wipeS_len S vs]
theorem EnvOk.wipe {K : PySem.W.Frag} {G H : Hp} {σ : L2.St} (E : EnvOk K c G H σ S) : ∀ vs : List Nat, EnvOk K c G H (wipe σ vs) (wipeS S vs)
  | [] => E
  | v :: vs => by
    have E1 := E.wipe vs
    have hl : ∀ (σ : L2.St) (S : Sto) (i : Nat), EnvOk K c G H σ S → EnvOk K c G H (σ.set i none) (S.set i .u) := fun σ S i E => {
      j0 := E.j0
      good := E.good
      len := by rw [List.length_set, List.length_set]; exact E.len
      slot := fun j b h => by
        rcases getElem?_set_cases h with ⟨rfl, rfl⟩ | ⟨ne, h⟩
        · have hj : j < S.length := by
            have := (List.getElem?_eq_some_iff.mp h).1
            rwa [List.length_set] at this
          exact ⟨none, List.getElem?_set_self (by rw [E.len]; exact hj), trivial⟩
        · obtain ⟨p, h1, h2⟩ := E.slot j b h
          exact ⟨p, by rw [List.getElem?_set_ne (Ne.symm ne)]; exact h1, h2⟩
      own := fun j xs a h h1 => by
        rcases getElem?_set_cases h with ⟨rfl, e⟩ | ⟨ne, h⟩
        · cases e
        · rw [List.getElem?_set_ne (Ne.symm ne)] at h1
          exact E.own j xs a h h1
      inj := fun j k xs ys a h h' e e' => by
        rcases getElem?_set_cases h with ⟨rfl, z⟩ | ⟨ne, h2⟩
        · cases z
        · rcases getElem?_set_cases h' with ⟨rfl, z⟩ | ⟨ne', h2'⟩
          · cases z
          · rw [List.getElem?_set_ne (Ne.symm ne)] at e
            rw [List.getElem?_set_ne (Ne.symm ne')] at e'
            exact E.inj j k xs ys a h2 h2' e e' }
    unfold L2.wipe wipeS
    exact hl _ _ v E1
theorem wipe_eq {σ σ' : L2.St} (hl : σ'.length = σ.length) : ∀ {vs : List Nat}, (∀ j, j ∉ vs → σ'[j]? = σ[j]?) → L2.wipe σ' vs = L2.wipe σ vs := fun {vs} h => by
  have key : ∀ (vs : List Nat) (j : Nat), (L2.wipe σ vs)[j]? = if j ∈ vs then (if j < σ.length then some none else none) else σ[j]? := by
    intro vs
    induction vs with
    | nil => intro j; simp [L2.wipe]
    | cons v vs ih =>
      intro j
      unfold L2.wipe
      by_cases e : v = j
      · subst e
        rw [if_pos List.mem_cons_self]
        by_cases hj : v < σ.length
        · rw [if_pos hj, List.getElem?_set_self (by rw [wipe_length]; exact hj)]
        · rw [if_neg hj, List.getElem?_eq_none (by rw [List.length_set, wipe_length]; omega)]
      · rw [List.getElem?_set_ne e, ih j]
        by_cases m : j ∈ vs
        · rw [if_pos m, if_pos (List.mem_cons_of_mem _ m)]
        · rw [if_neg m, if_neg (fun z => (List.mem_cons.mp z).elim (fun z => e z.symm) m)]
  have key' : ∀ (vs : List Nat) (j : Nat), (L2.wipe σ' vs)[j]? = if j ∈ vs then (if j < σ.length then some none else none) else σ'[j]? := by
    intro vs
    induction vs with
    | nil => intro j; simp [L2.wipe]
    | cons v vs ih =>
      intro j
      unfold L2.wipe
      by_cases e : v = j
      · subst e
        rw [if_pos List.mem_cons_self]
        by_cases hj : v < σ.length
        · rw [if_pos hj, List.getElem?_set_self (by rw [wipe_length, hl]; exact hj)]
        · rw [if_neg hj, List.getElem?_eq_none (by rw [List.length_set, wipe_length, hl]; omega)]
      · rw [List.getElem?_set_ne e, ih j]
        by_cases m : j ∈ vs
        · rw [if_pos m, if_pos (List.mem_cons_of_mem _ m)]
        · rw [if_neg m, if_neg (fun z => (List.mem_cons.mp z).elim (fun z => e z.symm) m)]
  apply List.ext_getElem?
  intro j
  rw [key vs j, key' vs j]
  by_cases m : j ∈ vs
  · rw [if_pos m, if_pos m]
  · rw [if_neg m, if_neg m, h j m]
def DTs (c : Ctx) (X : Cx) (ifs : List Expr) (S : Sto) (Q : Bool → Prop) : Prop := ∀ G H σ, EnvOk X.K c G H σ S → WTs X ifs σ H (PostB c.reg G H Q)
theorem dts_nil {Q : Bool → Prop} (q : Q true) : DTs c X [] S Q := fun G H σ E => WTs.of pts_nil ⟨G, E.ext0, q⟩
theorem dts_one {Q : Bool → Prop} (h : DT c X a S Q) : DTs c X [a] S Q := fun G H σ E => WTs.of (pts_one pt_W) (h G H σ E)
abbrev blkX (X : Cx) (scope : Scope) (s : Shared) (H : Hp) (C : Addr) (cl : List (Str × Addr)) (fp : List Addr) : Cx := X.blk s H scope (compEnvC scope cl C X.env) fp
theorem lc_go {elt : Expr} {ifs : List Expr} {scope : Scope} {own : List (Str × Nat)} {T : Tgt} {Q : List D → Prop} {J : It} {xs : List D} {GG : Hp → Prop} {Y : Nat → Hp → V → Hp → Prop} {G H G1 H1 : Hp} {σ : L2.St}
    (E : EnvOk X.K c G H σ S) (e1 : Ext c.reg G H G1 H1) (hT : ∀ j ∈ T.ix, j ∈ own.map (·.2)) (wk : Walk J xs.length GG Y) (gg : ∀ G2 H2, Same G1 G2 → Same G2 H2 → GG H2)
    (yy : ∀ i G2 H2 x H3, Same G1 G2 → Same G2 H2 → c.reg.J H2 → Y i H2 x H3 → ∃ G3 d, xs[i]? = some d ∧ Ext c.reg G2 H2 G3 H3 ∧ Rep X.K G3 d x) (hl : xs.length ≤ 100000)
    (I : Nat → List D → Prop) (i0 : I 0 []) (step : ∀ i x acc, xs[i]? = some x → I i acc → T.put x (wipeS S (own.map (·.2))) fun S2 => ∀ s H C cl fp, DTs c (blkX X scope s H C cl fp) ifs S2 fun k => (k = true → ∀ s H C cl fp, DE c (blkX X scope s H C cl fp) elt S2 fun y => I (i + 1) (acc ++ [y])) ∧ (k = false → I (i + 1) acc))
    (fin : ∀ ys, I xs.length ys → Q ys) : ∀ Dl, H1 Dl = none → ∃ W' : Nat → Nat → Hp → Prop, (∃ m, W' 0 m (upd H1 Dl (.lst []))) ∧ ∀ i m H', W' i m H' →
      (J.stop i H' ∧ PostL X.K c.reg G H Q (.ref Dl) H') ∨ (J.go i H' ∧ ∃ Nx : Hp → Prop, (∀ H', Nx H' → ∃ m', m' < m ∧ W' (i + 1) m' H') ∧ ∀ x H2, J.yld i H' x H2 → T.g X.K x (wipe σ (own.map (·.2))) H2 fun σ2 H3 => wipe σ2 (own.map (·.2)) = wipe σ (own.map (·.2)) ∧
        (fun σ H Q => ∀ s H0 C cl fp, WTs (blkX X scope s H0 C cl fp) ifs σ H Q : TT) σ2 H3 fun b H3 => if b = true then (fun σ H Q => ∀ s H0 C cl fp, W (blkX X scope s H0 C cl fp) elt σ H Q : TE) σ2 H3 fun y H4 => ∃ acc, H4 Dl = some (.lst acc) ∧ acc.length < sizeLine ∧ Nx (upd H4 Dl (.lst (acc ++ [y]))) else Nx H3) := by
  intro Dl hD
  have E1 := (E.ext e1).wipe (own.map (·.2))
  have n0 : H Dl = none := by
    cases z : H Dl with
    | none => rfl
    | some o =>
      by_cases m : c.reg.mem Dl
      · exact absurd hD (Reg.trk e1.reg m)
      · rw [e1.same _ o m z] at hD; cases hD
  have Pv : ∃ Pv : Nat → Hp → Prop, Pv = fun i H' => ∃ G' vs acc, Ext c.reg G1 H1 G' H' ∧ G' Dl = none ∧ H' Dl = some (.lst vs) ∧ Reps X.K G' acc vs ∧ acc.length ≤ i ∧ I i acc := ⟨_, rfl⟩
  obtain ⟨Pv, hPv⟩ := Pv
  have nm : ¬ c.reg.mem Dl := fun m => Reg.trk e1.reg m hD
  refine lc_it wk (g := T.g X.K) (tt := fun σ H Q => ∀ s H0 C cl fp, WTs (blkX X scope s H0 C cl fp) ifs σ H Q) (te := fun σ H Q => ∀ s H0 C cl fp, W (blkX X scope s H0 C cl fp) elt σ H Q) (Qd := fun H' => PostL X.K c.reg G H Q (.ref Dl) H') Pv ?_ ?_ ?_ ?_
  · rw [hPv]
    exact ⟨G1, [], [], Ext.new' e1.sub e1.reg hD, e1.sub.free hD, upd_same, reps_nil, Nat.le_refl _, i0⟩
  · intro i H' _ p
    rw [hPv] at p
    obtain ⟨G', vs, acc, x, _⟩ := p
    exact gg G' H' x.up x.sub
  · intro i x H' H2 hi p y
    rw [hPv] at p
    obtain ⟨G', vs, acc, x1, gn, hd, rs, hl', z⟩ := p
    obtain ⟨G3, d, hd', e3, rd⟩ := yy i G' H' x H2 x1.up x1.sub x1.reg y
    have x3 := x1.trans e3 e1.reg
    have E3 := E1.ext x3
    refine tgt_go E3 rd (step i d acc hd' z) fun σ2 S2 E2 q l e => ⟨?_, fun s H0 C cl fp => ?_⟩
    · have w2 : wipe (wipe σ (own.map (·.2))) (own.map (·.2)) = wipe σ (own.map (·.2)) := by
        refine wipe_eq (wipe_length _ _) fun j hj => ?_
        have aux : ∀ vs : List Nat, j ∉ vs → (L2.wipe σ vs)[j]? = σ[j]? := fun vs => by
          induction vs with
          | nil => intro _; rfl
          | cons v vs ih =>
            intro h
            unfold L2.wipe
            rw [List.getElem?_set_ne (fun z => h (by rw [z]; exact List.mem_cons_self)), ih fun z => h (List.mem_cons_of_mem _ z)]
        exact aux _ hj
      rw [← w2]
      refine wipe_eq l fun j hj => e j fun z => hj (hT j z)
    · refine (q s H0 C cl fp G3 H2 σ2 E2).mono fun k H3 ⟨G4, e4, q1, q2⟩ => ?_
      have x4 := x3.trans e4 e1.reg
      have hd3 : H2 Dl = some (.lst vs) := e3.same _ _ nm hd
      have hd4 : H3 Dl = some (.lst vs) := e4.same _ _ nm hd3
      have gn3 : G3 Dl = none := by rw [e3.old Dl (by rw [hd]; simp)]; exact gn
      have gn4 : G4 Dl = none := by rw [e4.old Dl (by rw [hd3]; simp)]; exact gn3
      cases k with
      | true =>
        refine iteT fun s' H0' C' cl' fp' => ?_
        refine (q1 rfl s' H0' C' cl' fp' G4 H3 σ2 (E2.ext e4)).mono fun v H4 ⟨G5, y, e5, iy, ry⟩ => ?_
        have x5 := x4.trans e5 e1.reg
        have gn5 : G5 Dl = none := by rw [e5.old Dl (by rw [hd4]; simp)]; exact gn4
        have rs5 := ((rs.mono e3.up).mono e4.up).mono e5.up
        have hlen := rs.length
        have hw := wk
        have hi' : i < xs.length := hi
        refine ⟨vs, e5.same _ _ nm hd4, by rw [sizeLine_eq, hlen]; omega, ?_⟩
        rw [hPv]
        refine ⟨G5, vs ++ [v], acc ++ [y], ⟨x5.up, fun b o z => ?_, fun b o m z => ?_, x5.old, ?_⟩, gn5, upd_same, rs5.append (reps_cons ry reps_nil), by rw [List.length_append]; show acc.length + 1 ≤ i + 1; omega, iy⟩
        · rw [upd_ne (fun w => by subst w; rw [gn5] at z; cases z)]; exact x5.sub b o z
        · rw [upd_ne (ne_of_none z hD)]; exact x5.same b o m z
        · exact Reg.keep x5.reg fun b m => upd_ne fun w => nm (w ▸ m)
      | false =>
        refine iteF ?_
        rw [hPv]
        exact ⟨G4, vs, acc, x4, gn4, hd4, (rs.mono e3.up).mono e4.up, by omega, q2 rfl⟩
  · intro H' p
    rw [hPv] at p
    obtain ⟨G', vs, acc, x1, gn, hd, rs, hl', z⟩ := p
    exact ⟨G', Dl, vs, acc, e1.trans x1 E.j, rfl, n0, hd, gn, fin acc z, rs⟩
theorem df_lc {elt iter : Expr} {ifs : List Expr} {scope : Scope} {T : Tgt} {Q : List D → Prop} (own : List (Str × Nat)) (hc : X.calm = true) (hN : X.N.Nodup) (ok : BlkOk X.N X.env.scope scope own)
    (ht : ∀ s H C cl fp, PGT (blkX X scope s H C cl fp) tg T) (hT : ∀ j ∈ T.ix, j ∈ own.map (·.2))
    (h : DI c X tg iter S fun xs => xs.length ≤ 100000 ∧ ∃ I : Nat → List D → Prop, I 0 [] ∧ (∀ i x acc, xs[i]? = some x → I i acc → T.put x (wipeS S (own.map (·.2))) fun S2 => ∀ s H C cl fp, DTs c (blkX X scope s H C cl fp) ifs S2 fun k => (k = true → ∀ s H C cl fp, DE c (blkX X scope s H C cl fp) elt S2 fun y => I (i + 1) (acc ++ [y])) ∧ (k = false → I (i + 1) acc)) ∧ ∀ ys, I xs.length ys → Q ys)
    (hs : ∀ x, foldedSetIterable iter X.env x = pure x := by intro _; rfl) : DF c X (.ListComp elt [⟨tg, iter, ifs, 0⟩] scope pos) S Q := fun G H σ E =>
  W.of (pe_lc (g := T.g X.K) (tt := fun σ H Q => ∀ s H0 C cl fp, WTs (blkX X scope s H0 C cl fp) ifs σ H Q) (te := fun σ H Q => ∀ s H0 C cl fp, W (blkX X scope s H0 C cl fp) elt σ H Q) hc hN pi_W ok (fun s H C cl fp => (ht s H C cl fp).pg)
      (fun s H C cl fp => ⟨fun pins s1 σ H1 Q I h => h s H C cl fp pins s1 I⟩) (fun s H C cl fp => ⟨fun pins s1 σ H1 Q I h => h s H C cl fp pins s1 I⟩) hs) (by
    refine (h G H σ E).mono fun J H1 ⟨G1, xs, GG, Y, e1, ⟨hl, I, i0, step, fin⟩, wk, gg, yy⟩ => ?_
    exact lc_go E e1 hT wk gg yy hl I i0 step fin)
theorem ds_setLc {elt iter : Expr} {ifs : List Expr} {scope : Scope} {T : Tgt} {D' : DEnds} {y : Str} {py : Pos} {spos : Pos} (i : Nat) (own : List (Str × Nat)) (hc : X.calm = true) (hN : X.N.Nodup) (hy : X.N[i]? = some y) (hyl : X.env.scope.names.lookup y = some .local)
    (hsw : swapsWith (.ListComp elt [⟨tg, iter, ifs, 0⟩] scope pos) (some (.Name y py)) spos.line X.env = pure true) (ok : BlkOk X.N X.env.scope scope own)
    (ht : ∀ s H C cl fp, PGT (blkX X scope s H C cl fp) tg T) (hT : ∀ j ∈ T.ix, j ∈ own.map (·.2))
    (h : DI c X tg iter S fun xs => xs.length ≤ 100000 ∧ ∃ I : Nat → List D → Prop, I 0 [] ∧ (∀ i x acc, xs[i]? = some x → I i acc → T.put x (wipeS S (own.map (·.2))) fun S2 => ∀ s H C cl fp, DTs c (blkX X scope s H C cl fp) ifs S2 fun k => (k = true → ∀ s H C cl fp, DE c (blkX X scope s H C cl fp) elt S2 fun y => I (i + 1) (acc ++ [y])) ∧ (k = false → I (i + 1) acc)) ∧ ∀ ys, I xs.length ys → D'.nx (S.set i (.m ys)))
    (hs : ∀ x, foldedSetIterable iter X.env x = pure x := by intro _; rfl) : DS c X (.Assign [.Name y py] (.ListComp elt [⟨tg, iter, ifs, 0⟩] scope pos) spos) S D' := fun G H σ E =>
  WS.of (ps_setLc (g := T.g X.K) (tt := fun σ H Q => ∀ s H0 C cl fp, WTs (blkX X scope s H0 C cl fp) ifs σ H Q) (te := fun σ H Q => ∀ s H0 C cl fp, W (blkX X scope s H0 C cl fp) elt σ H Q) hc hN hy hyl hsw pi_W ok (fun s H C cl fp => (ht s H C cl fp).pg)
      (fun s H C cl fp => ⟨fun pins s1 σ H1 Q I h => h s H C cl fp pins s1 I⟩) (fun s H C cl fp => ⟨fun pins s1 σ H1 Q I h => h s H C cl fp pins s1 I⟩) hs) (by
    refine (h G H σ E).mono fun J H1 ⟨G1, xs, GG, Y, e1, ⟨hl, I, i0, step, fin⟩, wk, gg, yy⟩ => ?_
    have key := lc_go (Q := fun ys => D'.nx (S.set i (.m ys))) E e1 hT wk gg yy hl I i0 step fin
    intro Dl hD
    obtain ⟨W', w0, turn⟩ := key Dl hD
    refine ⟨W', w0, fun i' m H' w => (turn i' m H' w).imp (fun ⟨st, z⟩ => ⟨st, ?_⟩) fun z => z⟩
    obtain ⟨G', p, vs, xs', e2, ep, n, h1, g1, q, rs⟩ := z
    cases ep
    exact ⟨G', _, own_new E e2 n h1 g1 rs, e2.up, q⟩)
end
end DL
set_option Elab.async false
set_option linter.all false
set_option maxRecDepth 100000
set_option maxHeartbeats 1000000
namespace DL
open PySem PySem.Spec L2
structure Callee (P : Program) (w : World) (K : PySem.W.Frag) (mg : Str → Option Value) (base : Heap) (k : Nat) (x : Str) (ps : List Str) (sp : SpD) where
  f : Addr
  fd : FuncData
  ok : FnOk P w K mg base CX0 k f fd ps (lift K sp)
  at_ : mg x = some (.ref f)
  kp : PySem.W.keepIn K (.ref f) = true
  b : Binds K fd ps []
section
variable {c : Ctx} {X : Cx} {a b e : Expr} {es : List Expr} {S : Sto} {Q Q' : D → Prop} {pos : Pos}
theorem de_callC {k : Nat} {ps : List Str} {sp : SpD} {x : Str} {p : Pos} (C : Callee X.prog X.w X.K X.mg X.base k x ps sp) (hr : Room k X.A) (hg : Gl X x)
    (h : DA c X (e :: es) S fun ds => sp c.reg ds Q) (hdb : (x == ("__debug__" : Str)) = false := by decide) (he : starEach (e :: es) X.env = (false, eval e X.env) :: starEach es X.env := by rfl) (hpl : (backTo pos (starEach es X.env)).any (·.1) = false := by rfl) :
    DE c X (.Call (.Name x p) (e :: es) [] pos) S Q := de_call C.ok hr C.at_ C.kp C.b hg h hdb he hpl
theorem ds_asgT {tg : Expr} {T : Tgt} {D' : DEnds} (ht : PGT X tg T) (h : DE c X e S fun d => T.put d S D'.nx) (hs : swapsWithSole [tg] e pos.line X.env = pure false := by rfl) (hw : swappedStores [tg] e X.env = pure none := by rfl) (h1 : (assignEach [tg] X.env).map (·.2) = [assign tg X.env] := by rfl) : DS c X (.Assign [tg] e pos) S D' := fun G H σ E =>
  WS.of (ps_asg pe_W ht.pg hs hw h1) ((h G H σ E).mono fun v H1 ⟨G1, d, e1, q, rd⟩ => tgt_go (E.ext e1) rd q fun σ' S' E' z _ _ => ⟨G1, S', E', e1.up, z⟩)
theorem ds_retM {x : Str} {p : Pos} {D' : DEnds} (i : Nat) (hN : X.N[i]? = some x) (hv : Vis X.env.scope x) {xs : List D} (hS : S[i]? = some (.m xs)) (q : D'.rt (.lst xs)) (hd : (x == ("__debug__" : Str)) = false := by decide) (hcd : (x == ("__classdict__" : Str)) = false := by decide) : DS c X (.Return (some (.Name x p)) pos) S D' :=
  ds_freeze i hS (ds_ret (de_var i hN hv (by rw [List.getElem?_set_self (List.getElem?_eq_some_iff.mp hS).1]) q hd hcd))
end
theorem at_nn {α : Type} {xs : List α} {z : Int} {j : Nat} {v : α} (e : z = (j : Int)) (h : xs[j]? = some v) : atI xs z = some v := by
  rw [e]; exact atI_nat h
def isIB : D → Bool
  | .int _ => true
  | .bl _ => true
  | _ => false
def isBl : D → Bool
  | .bl _ => true
  | _ => false
def isStr : D → Bool
  | .str _ => true
  | _ => false
def isTup : D → Bool
  | .tup _ => true
  | _ => false
def isLst : D → Bool
  | .lst _ => true
  | _ => false
theorem kit_int : ∀ (d : D) {t : String}, tyD d = some t → kitB t "int" = some (isIB d)
  | .non, _, h => by cases h; decide +kernel
  | .bl b, _, h => by cases h; show kitB "bool" "int" = some true; decide +kernel
  | .int b, _, h => by cases h; show kitB "int" "int" = some true; decide +kernel
  | .str b, _, h => by cases h; show kitB "str" "int" = some false; decide +kernel
  | .tup b, _, h => by cases h; show kitB "tuple" "int" = some false; decide +kernel
  | .lst b, _, h => by cases h; show kitB "list" "int" = some false; decide +kernel
  | .adr _, _, h => by cases h
  | .ty _, _, h => by cases h
  | .obj _ _ _, _, h => by cases h
theorem kit_bool : ∀ (d : D) {t : String}, tyD d = some t → kitB t "bool" = some (isBl d)
  | .non, _, h => by cases h; decide +kernel
  | .bl b, _, h => by cases h; show kitB "bool" "bool" = some true; decide +kernel
  | .int b, _, h => by cases h; show kitB "int" "bool" = some false; decide +kernel
  | .str b, _, h => by cases h; show kitB "str" "bool" = some false; decide +kernel
  | .tup b, _, h => by cases h; show kitB "tuple" "bool" = some false; decide +kernel
  | .lst b, _, h => by cases h; show kitB "list" "bool" = some false; decide +kernel
  | .adr _, _, h => by cases h
  | .ty _, _, h => by cases h
  | .obj _ _ _, _, h => by cases h
theorem kit_str : ∀ (d : D) {t : String}, tyD d = some t → kitB t "str" = some (isStr d)
  | .non, _, h => by cases h; decide +kernel
  | .bl b, _, h => by cases h; show kitB "bool" "str" = some false; decide +kernel
  | .int b, _, h => by cases h; show kitB "int" "str" = some false; decide +kernel
  | .str b, _, h => by cases h; show kitB "str" "str" = some true; decide +kernel
  | .tup b, _, h => by cases h; show kitB "tuple" "str" = some false; decide +kernel
  | .lst b, _, h => by cases h; show kitB "list" "str" = some false; decide +kernel
  | .adr _, _, h => by cases h
  | .ty _, _, h => by cases h
  | .obj _ _ _, _, h => by cases h
theorem kit_tuple : ∀ (d : D) {t : String}, tyD d = some t → kitB t "tuple" = some (isTup d)
  | .non, _, h => by cases h; decide +kernel
  | .bl b, _, h => by cases h; show kitB "bool" "tuple" = some false; decide +kernel
  | .int b, _, h => by cases h; show kitB "int" "tuple" = some false; decide +kernel
  | .str b, _, h => by cases h; show kitB "str" "tuple" = some false; decide +kernel
  | .tup b, _, h => by cases h; show kitB "tuple" "tuple" = some true; decide +kernel
  | .lst b, _, h => by cases h; show kitB "list" "tuple" = some false; decide +kernel
  | .adr _, _, h => by cases h
  | .ty _, _, h => by cases h
  | .obj _ _ _, _, h => by cases h
theorem kit_list : ∀ (d : D) {t : String}, tyD d = some t → kitB t "list" = some (isLst d)
  | .non, _, h => by cases h; decide +kernel
  | .bl b, _, h => by cases h; show kitB "bool" "list" = some false; decide +kernel
  | .int b, _, h => by cases h; show kitB "int" "list" = some false; decide +kernel
  | .str b, _, h => by cases h; show kitB "str" "list" = some false; decide +kernel
  | .tup b, _, h => by cases h; show kitB "tuple" "list" = some false; decide +kernel
  | .lst b, _, h => by cases h; show kitB "list" "list" = some true; decide +kernel
  | .adr _, _, h => by cases h
  | .ty _, _, h => by cases h
  | .obj _ _ _, _, h => by cases h
def isInt : D → Bool
  | .int _ => true
  | _ => false
end DL
set_option Elab.async false
set_option linter.all false
set_option maxRecDepth 100000
set_option maxHeartbeats 1000000
namespace DL
open PySem PySem.Spec L2
def small (d : D) : Prop := plainD d = true ∧ (toPy d).canLay0 = true ∧ (toPy d).depth ≤ 8
theorem toPys_map : ∀ xs : List D, toPys xs = xs.map toPy
  | [] => by rw [toPys]; rfl
  | x :: xs => by rw [toPys, toPys_map xs]; rfl
theorem smalls : ∀ {xs : List D}, (∀ d ∈ xs, small d) → plainDs xs = true ∧ PyData.canLayAll0 (toPys xs) = true ∧ PyData.depthAll (toPys xs) ≤ 8
  | [], _ => by refine ⟨by rw [plainDs], by rw [toPys, PyData.canLayAll0], by rw [toPys, PyData.depthAll]; omega⟩
  | x :: xs, h => by
    obtain ⟨h1, h2, h3⟩ := h x List.mem_cons_self
    obtain ⟨i1, i2, i3⟩ := smalls fun d hd => h d (List.mem_cons_of_mem _ hd)
    refine ⟨by rw [plainDs, h1, i1]; rfl, by rw [toPys, PyData.canLayAll0, h2, i2]; rfl, ?_⟩
    rw [toPys, PyData.depthAll]; omega
theorem eqOk_lst {xs : List D} (h : ∀ d ∈ xs, small d) : EqOk (.lst xs) := by
  obtain ⟨i1, i2, i3⟩ := smalls h
  refine ⟨by rw [plainD]; exact i1, ?_⟩
  rw [toPy]
  show (PyData.canLay0 _ && decide (PyData.depth _ ≤ 64)) = true
  rw [PyData.canLay0, i2, PyData.depth]
  simp; omega
theorem eqOk_tup {xs : List D} (h : ∀ d ∈ xs, small d) : EqOk (.tup xs) := by
  obtain ⟨i1, i2, i3⟩ := smalls h
  refine ⟨by rw [plainD]; exact i1, ?_⟩
  rw [toPy]
  show (PyData.canLay0 _ && decide (PyData.depth _ ≤ 64)) = true
  rw [PyData.canLay0, i2, PyData.depth]
  simp; omega
theorem small_eqOk {d : D} (h : small d) : EqOk d := ⟨h.1, by
  show (PyData.canLay0 _ && decide (PyData.depth _ ≤ 64)) = true
  rw [h.2.1]
  have := h.2.2
  simp; omega⟩
theorem small_int (i : Int) : small (.int i) := ⟨by rw [plainD], by rw [toPy, PyData.canLay0], by rw [toPy, PyData.depth]; omega⟩
theorem small_non : small .non := ⟨by rw [plainD], by rw [toPy, PyData.canLay0], by rw [toPy, PyData.depth]; omega⟩
theorem small_bl (b : Bool) : small (.bl b) := ⟨by rw [plainD], by rw [toPy, PyData.canLay0], by rw [toPy, PyData.depth]; omega⟩
theorem small_ints (l : List Int) : plainDs (l.map D.int) = true ∧ PyData.canLayAll0 (toPys (l.map D.int)) = true ∧ PyData.depthAll (toPys (l.map D.int)) = 0 := by
  induction l with
  | nil => exact ⟨by rw [List.map_nil, plainDs], by rw [List.map_nil, toPys, PyData.canLayAll0], by rw [List.map_nil, toPys, PyData.depthAll]⟩
  | cons x l ih =>
    obtain ⟨h1, h2, h3⟩ := ih
    refine ⟨by rw [List.map_cons, plainDs, plainD, h1]; rfl, by rw [List.map_cons, toPys, PyData.canLayAll0, h2, toPy, PyData.canLay0]; rfl, ?_⟩
    rw [List.map_cons, toPys, PyData.depthAll, h3, toPy, PyData.depth]; rfl
theorem small_dInts (l : List Int) : small (dInts l) := by
  obtain ⟨h1, h2, h3⟩ := small_ints l
  exact ⟨by rw [plainD]; exact h1, by rw [toPy, PyData.canLay0]; exact h2, by rw [toPy, PyData.depth, h3]; omega⟩
theorem small_tInts (l : List Int) : small (tInts l) := by
  obtain ⟨h1, h2, h3⟩ := small_ints l
  exact ⟨by rw [plainD]; exact h1, by rw [toPy, PyData.canLay0]; exact h2, by rw [toPy, PyData.depth, h3]; omega⟩
theorem eqD_nil (xs : List D) : eqD (.lst xs) (.lst []) = xs.isEmpty := by
  unfold eqD
  rw [toPy, toPy, PyData.eqv]
  cases xs with
  | nil => rw [toPys, PyData.eqvAll]; rfl
  | cons x xs => rw [toPys, toPys, PyData.eqvAll]; rfl
theorem eqD_nilT (xs : List D) : eqD (.tup xs) (.tup []) = xs.isEmpty := by
  unfold eqD
  rw [toPy, toPy, PyData.eqv]
  cases xs with
  | nil => rw [toPys, PyData.eqvAll]; rfl
  | cons x xs => rw [toPys, toPys, PyData.eqvAll]; rfl
theorem eqOk_nil : EqOk (.lst []) := eqOk_lst fun _ h => by cases h
theorem eqOk_nilT : EqOk (.tup []) := eqOk_tup fun _ h => by cases h
theorem filter_take {α : Type} {l : List α} {p : α → Bool} {i : Nat} {x : α} (h : l[i]? = some x) : (l.take (i + 1)).filter p = (l.take i).filter p ++ (if p x = true then [x] else []) := by
  rw [List.take_add_one, h, List.filter_append]
  cases e : p x <;> simp [List.filter, e]
theorem filter_yes {α : Type} {l : List α} {p : α → Bool} {i : Nat} {x : α} (h : l[i]? = some x) (hp : p x = true) : (l.take i).filter p ++ [x] = (l.take (i + 1)).filter p := by
  rw [filter_take h, if_pos hp]
theorem filter_no {α : Type} {l : List α} {p : α → Bool} {i : Nat} {x : α} (h : l[i]? = some x) (hp : p x = false) : (l.take i).filter p = (l.take (i + 1)).filter p := by
  rw [filter_take h, hp]; simp
theorem map_take1 {α β : Type} {l : List α} {g : α → β} {i : Nat} {x : α} (h : l[i]? = some x) : (l.take i).map g ++ [g x] = (l.take (i + 1)).map g := by
  rw [List.take_add_one, h, List.map_append]; rfl
theorem isEmpty_filter {α : Type} {l : List α} {p : α → Bool} : (l.filter p).isEmpty = l.all fun x => !p x := by
  induction l with
  | nil => rfl
  | cons x l ih =>
    rw [List.filter_cons, List.all_cons]
    cases e : p x
    · rw [← ih]; rfl
    · rfl
theorem take_len {α : Type} {l : List α} {n : Nat} (h : n = l.length) : l.take n = l := by rw [h, List.take_length]
theorem filter_map_take {α β : Type} {l : List α} {p : α → Bool} {g : α → β} {i : Nat} {x : α} (h : l[i]? = some x) : ((l.take (i + 1)).filter p).map g = ((l.take i).filter p).map g ++ (if p x = true then [g x] else []) := by
  rw [filter_take h, List.map_append]
  cases p x <;> rfl
section
variable {c : Ctx} {X : Cx} {tg a b e : Expr} {es : List Expr} {S : Sto} {pos : Pos}
theorem tgt_mono {T : Tgt} {d : D} {Q Q' : Sto → Prop} (h : T.put d S Q) (q : ∀ S, Q S → Q' S) : T.put d S Q' := by
  cases T with
  | n i => exact q _ h
  | t is => obtain ⟨ds, e, l, z⟩ := h; exact ⟨ds, e, l, q _ z⟩
theorem df_lcP {elt iter : Expr} {ifs : List Expr} {scope : Scope} {T : Tgt} {Q : List D → Prop} (own : List (Str × Nat)) (hc : X.calm = true) (hN : X.N.Nodup) (ok : BlkOk X.N X.env.scope scope own)
    (ht : ∀ s H C cl fp, PGT (blkX X scope s H C cl fp) tg T) (hT : ∀ j ∈ T.ix, j ∈ own.map (·.2))
    (h : DI c X tg iter S fun xs => xs.length ≤ 100000 ∧ ∃ (p : D → Bool) (g : D → D), (∀ x ∈ xs, T.put x (wipeS S (own.map (·.2))) fun S2 => (∀ s H C cl fp, DTs c (blkX X scope s H C cl fp) ifs S2 fun k => k = p x) ∧ (p x = true → ∀ s H C cl fp, DE c (blkX X scope s H C cl fp) elt S2 fun y => y = g x)) ∧ Q ((xs.filter p).map g))
    (hs : ∀ x, foldedSetIterable iter X.env x = pure x := by intro _; rfl) : DF c X (.ListComp elt [⟨tg, iter, ifs, 0⟩] scope pos) S Q :=
  df_lc own hc hN ok ht hT (h.mono fun xs ⟨hl, p, g, step, q⟩ => ⟨hl, fun i acc => acc = ((xs.take i).filter p).map g, rfl, fun i x acc hx hI => by
    subst hI
    refine tgt_mono (step x (List.mem_of_getElem? hx)) fun S2 ⟨h1, h2⟩ s H C cl fp => ?_
    have h1' := h1 s H C cl fp
    intro G H' σ E
    refine (h1' G H' σ E).mono fun k H2 ⟨G2, e2, ek⟩ => ⟨G2, e2, fun hk s H C cl fp => ?_, fun hk => ?_⟩
    · have hp : p x = true := by rw [← ek, hk]
      exact (h2 hp s H C cl fp).mono fun y ey => by
        show _ = ((xs.take (i + 1)).filter p).map g
        rw [filter_map_take hx, if_pos hp, ey]
    · have hp : p x = false := by rw [← ek, hk]
      show _ = ((xs.take (i + 1)).filter p).map g
      rw [filter_map_take hx, hp]; simp, fun ys hI => by
    subst hI; rw [List.take_length]; exact q⟩) hs
theorem ds_setLcP {elt iter : Expr} {ifs : List Expr} {scope : Scope} {T : Tgt} {D' : DEnds} {y : Str} {py : Pos} {spos : Pos} (i : Nat) (own : List (Str × Nat)) (hc : X.calm = true) (hN : X.N.Nodup) (hy : X.N[i]? = some y) (hyl : X.env.scope.names.lookup y = some .local)
    (hsw : swapsWith (.ListComp elt [⟨tg, iter, ifs, 0⟩] scope pos) (some (.Name y py)) spos.line X.env = pure true) (ok : BlkOk X.N X.env.scope scope own)
    (ht : ∀ s H C cl fp, PGT (blkX X scope s H C cl fp) tg T) (hT : ∀ j ∈ T.ix, j ∈ own.map (·.2))
    (h : DI c X tg iter S fun xs => xs.length ≤ 100000 ∧ ∃ (p : D → Bool) (g : D → D), (∀ x ∈ xs, T.put x (wipeS S (own.map (·.2))) fun S2 => (∀ s H C cl fp, DTs c (blkX X scope s H C cl fp) ifs S2 fun k => k = p x) ∧ (p x = true → ∀ s H C cl fp, DE c (blkX X scope s H C cl fp) elt S2 fun y => y = g x)) ∧ D'.nx (S.set i (.m ((xs.filter p).map g))))
    (hs : ∀ x, foldedSetIterable iter X.env x = pure x := by intro _; rfl) : DS c X (.Assign [.Name y py] (.ListComp elt [⟨tg, iter, ifs, 0⟩] scope pos) spos) S D' :=
  ds_setLc i own hc hN hy hyl hsw ok ht hT (h.mono fun xs ⟨hl, p, g, step, q⟩ => ⟨hl, fun i acc => acc = ((xs.take i).filter p).map g, rfl, fun i x acc hx hI => by
    subst hI
    refine tgt_mono (step x (List.mem_of_getElem? hx)) fun S2 ⟨h1, h2⟩ s H C cl fp => ?_
    have h1' := h1 s H C cl fp
    intro G H' σ E
    refine (h1' G H' σ E).mono fun k H2 ⟨G2, e2, ek⟩ => ⟨G2, e2, fun hk s H C cl fp => ?_, fun hk => ?_⟩
    · have hp : p x = true := by rw [← ek, hk]
      exact (h2 hp s H C cl fp).mono fun y ey => by
        show _ = ((xs.take (i + 1)).filter p).map g
        rw [filter_map_take hx, if_pos hp, ey]
    · have hp : p x = false := by rw [← ek, hk]
      show _ = ((xs.take (i + 1)).filter p).map g
      rw [filter_map_take hx, hp]; simp, fun ys hI => by
    subst hI; rw [List.take_length]; exact q⟩) hs
theorem dw_orV {rest : List Expr} {Q : Bool → Prop} (ka kb : Bool) (h : DT c X a S fun k => k = ka) (h2 : ka = false → DW c X (.BoolOp .Or (b :: rest) pos) S fun k => k = kb) (q : Q (ka || kb)) : DW c X (.BoolOp .Or (a :: b :: rest) pos) S Q :=
  dw_or (h.mono fun k e => ⟨fun hk => fun G H σ E => (h2 (e ▸ hk) G H σ E).mono fun k' H' ⟨G', x, e'⟩ => ⟨G', x, by subst e e'; rw [hk, Bool.false_or] at q; exact q⟩, fun hk => by subst e; rw [hk] at q; exact q⟩)
theorem dw_andV {rest : List Expr} {Q : Bool → Prop} (ka kb : Bool) (h : DT c X a S fun k => k = ka) (h2 : ka = true → DW c X (.BoolOp .And (b :: rest) pos) S fun k => k = kb) (q : Q (ka && kb)) : DW c X (.BoolOp .And (a :: b :: rest) pos) S Q :=
  dw_and (h.mono fun k e => ⟨fun hk => fun G H σ E => (h2 (e ▸ hk) G H σ E).mono fun k' H' ⟨G', x, e'⟩ => ⟨G', x, by subst e e'; rw [hk, Bool.true_and] at q; exact q⟩, fun hk => by subst e; rw [hk] at q; exact q⟩)
theorem de_andV {rest : List Expr} {Q : D → Prop} (ka kb : Bool) (h : DE c X a S fun k => k = .bl ka) (h2 : ka = true → DE c X (.BoolOp .And (b :: rest) pos) S fun k => k = .bl kb) (q : Q (.bl (ka && kb))) : DE c X (.BoolOp .And (a :: b :: rest) pos) S Q :=
  de_and (h.mono fun k e => ⟨ka, e, fun hk => (h2 hk).mono fun k' e' => by rw [e']; rw [hk, Bool.true_and] at q; exact q, fun hk => by rw [hk] at q; exact q⟩)
theorem de_orV {rest : List Expr} {Q : D → Prop} (ka kb : Bool) (h : DE c X a S fun k => k = .bl ka) (h2 : ka = false → DE c X (.BoolOp .Or (b :: rest) pos) S fun k => k = .bl kb) (q : Q (.bl (ka || kb))) : DE c X (.BoolOp .Or (a :: b :: rest) pos) S Q :=
  de_or (h.mono fun k e => ⟨ka, e, fun hk => (h2 hk).mono fun k' e' => by rw [e']; rw [hk, Bool.false_or] at q; exact q, fun hk => by rw [hk] at q; exact q⟩)
theorem dt_chainV {op op' : CmpOp} {p p' : Int → Int → Bool} {d : Expr} {Q : Bool → Prop} (i j k : Int) (ho : OpR X (compareOp op) (rI0 fun i j => .bl (p i j))) (ho' : OpR X (compareOp op') (rI0 fun i j => .bl (p' i j)))
    (h1 : DE c X a S fun x => x = .int i) (h2 : DE c X b S fun x => x = .int j) (h3 : DE c X d S fun x => x = .int k) (q : Q (p i j && p' j k)) (hm : lastMarks [op, op'] [b, d] = false := by with_unfolding_all rfl) : DT c X (.Compare a [op, op'] [b, d] pos) S Q :=
  dt_chainI ho ho' (h1.mono fun x e => h2.mono fun y e' => ⟨i, j, e, e', fun hp => by rw [hp] at q; exact q, fun hp => h3.mono fun z e'' => ⟨k, e'', by rw [hp, Bool.true_and] at q; exact q⟩⟩) hm
end
end DL
set_option Elab.async false
set_option linter.all false
set_option maxRecDepth 100000
set_option maxHeartbeats 4000000
namespace DL
open PySem PySem.Spec L2 PyProof.Rows
section
variable {M : Model} {A : Around} {E : Value → Shared → Prop} {s : Shared} {Q : Value → Shared → Prop}
theorem isBool_any {v : Value} {b : Bool} (hv : ∀ p, v ≠ .builtin p) (h : Q (.bool (v == .bool b)) s) : wpAny M A (compareOp .Is v (.bool b)) Q E s := by
  cases v <;> first | exact wpAny_pure h | exact absurd rfl (hv _)
end
def isThe (b : Bool) : D → Bool
  | .bl k => k == b
  | _ => false
theorem relV_nob {x : V} {v : Value} (r : RelV x v) : ∀ p, v ≠ .builtin p := by
  intro p
  cases x with
  | non => cases r; exact fun z => nomatch z
  | bl _ => cases r; exact fun z => nomatch z
  | int _ => obtain ⟨t, rfl⟩ := r; exact fun z => nomatch z
  | str _ => obtain ⟨t, rfl⟩ := r; exact fun z => nomatch z
  | byt _ => obtain ⟨t, rfl⟩ := r; exact fun z => nomatch z
  | flt _ => obtain ⟨t, rfl⟩ := r; exact fun z => nomatch z
  | ref _ => cases r; exact fun z => nomatch z
  | ty _ => cases r; exact fun z => nomatch z
def vThe (b : Bool) : V → Bool
  | .bl k => k == b
  | _ => false
theorem relV_the {x : V} {v : Value} (b : Bool) (r : RelV x v) : (v == Value.bool b) = vThe b x := by
  cases x with
  | non => cases r; rfl
  | bl k => cases r; cases k <;> cases b <;> rfl
  | int _ => obtain ⟨t, rfl⟩ := r; rfl
  | str _ => obtain ⟨t, rfl⟩ := r; rfl
  | byt _ => obtain ⟨t, rfl⟩ := r; rfl
  | flt _ => obtain ⟨t, rfl⟩ := r; rfl
  | ref _ => cases r; rfl
  | ty _ => cases r; rfl
theorem op_isThe {X : Cx} : OpR X (compareOp .Is) (fun x y H Q => ∃ b : Bool, y = .bl b ∧ Q (.bl (vThe b x)) H) := by
  intro pins s σ H x y v u Q I rx ry h
  obtain ⟨b, rfl, q⟩ := h
  cases (show u = Value.bool b from ry)
  exact isBool_any (relV_nob rx) ⟨.bl (vThe b x), H, I, by rw [relV_the b rx]; rfl, q⟩
theorem rep_the {K : PySem.W.Frag} {G : Hp} (b : Bool) : ∀ {d : D} {v : V}, Rep K G d v → vThe b v = isThe b d
  | .non, v, h => by rw [rep_non.mp h]; rfl
  | .bl _, v, h => by rw [rep_bl.mp h]; rfl
  | .int i, v, h => by rw [rep_int.mp h]; rfl
  | .str i, v, h => by rw [rep_str.mp h]; rfl
  | .adr i, v, h => by rw [rep_adr.mp h]; rfl
  | .ty i, v, h => by rw [rep_ty.mp h]; rfl
  | .tup ds, v, h => by obtain ⟨a, vs, rfl, _⟩ := rep_tup.mp h; rfl
  | .lst ds, v, h => by obtain ⟨a, vs, rfl, _⟩ := rep_lst.mp h; rfl
  | .obj C ns ds, v, h => by obtain ⟨a, dx, vs, rfl, _⟩ := rep_obj.mp h; rfl
section
variable {c : Ctx} {X : Cx} {a b e : Expr} {es : List Expr} {S : Sto} {Q Q' : D → Prop} {pos : Pos}
theorem dt_isThe {k : Bool} {j : Nat} {p : Pos} {Q : Bool → Prop} (h : DE c X a S fun d => Q (isThe k d)) : DT c X (.Compare a [.Is] [.Constant (.bool k) j p] pos) S Q :=
  dt_cmp op_isThe (nomark _) (h.mono fun d q => de_bl fun G H vx vy Z s j rx ry z => ⟨k, rep_bl.mp ry, z _ _ (postC s j ⟨_, rfl, q⟩ (rep_bl.mpr (by rw [rep_the k rx])))⟩)
theorem de_isThe {k : Bool} {j : Nat} {p : Pos} (h : DE c X a S fun d => Q (.bl (isThe k d))) : DE c X (.Compare a [.Is] [.Constant (.bool k) j p] pos) S Q :=
  de_cmp op_isThe (nomark _) (h.mono fun d q => de_bl fun G H vx vy Z s j rx ry z => ⟨k, rep_bl.mp ry, z _ _ (postC s j q (rep_bl.mpr (by rw [rep_the k rx])))⟩)
end
section
variable {prog : Program} {w : World} {A : Around} {E : Value → Shared → Prop} {s : Shared}
theorem back_places (n : Nat) : Builtin.Slice.slicePlaces ((n : Int) - 1) (-1) (-1) = n := by
  have : ¬ ((-1 : Int) > 0) := by decide
  unfold Builtin.Slice.slicePlaces
  simp only [this, if_false]
  by_cases h : (n : Int) - 1 > -1
  · rw [if_pos h, show (-(-1) : Int) = 1 by decide, Int.ediv_one]; omega
  · rw [if_neg h]; omega
theorem fm_congr {α β : Type} {f g : α → Option β} : ∀ {l : List α}, (∀ x ∈ l, f x = g x) → l.filterMap f = l.filterMap g
  | [], _ => rfl
  | x :: l, h => by
    have ih := fm_congr (f := f) (g := g) (l := l) fun y hy => h y (List.mem_cons_of_mem _ hy)
    rw [List.filterMap_cons, List.filterMap_cons, h x List.mem_cons_self, ih]
theorem back_pick (xs : Array Value) : ((List.range xs.size).filterMap fun (k : Nat) => xs[(((xs.size : Int) - 1) + (k : Int) * (-1)).toNat]?).toArray = xs.toList.reverse.toArray := by
  congr 1
  have h1 : ((List.range xs.size).filterMap fun (k : Nat) => xs[(((xs.size : Int) - 1) + (k : Int) * (-1)).toNat]?) = ((List.range xs.size).map fun k => xs.size - 1 - k).filterMap fun i => xs[i]? := by
    rw [List.filterMap_map]
    refine fm_congr fun k hk => ?_
    have := List.mem_range.mp hk
    show xs[(((xs.size : Int) - 1) + (k : Int) * (-1)).toNat]? = xs[xs.size - 1 - k]?
    rw [show (((xs.size : Int) - 1) + (k : Int) * (-1)).toNat = xs.size - 1 - k by omega]
  rw [h1, PySem.W.krv_range, List.filterMap_reverse, PySem.W.krv_all]
theorem back_applied {sl : Addr} {vs : Value} {n : Nat} {Q : Int × Int × Nat → Shared → Prop} (hs : s.heap.IsSliceOf sl .none .none vs) (ps : IsPart vs (some (-1))) (h : Q ((n : Int) - 1, -1, n) s) : wpAny (model prog w) A (Builtin.Slice.sliceApplied (.ref sl) (pure (n : Int))) Q E s := by
  obtain ⟨o, ho, _, hd⟩ := id hs
  unfold Builtin.Slice.sliceApplied Builtin.Slice.sliceFields
  refine wpAny_bind (wpAny_bind (wpAny_field ho hd (x := .none) rfl (wpAny_bind (wpAny_field ho hd (x := .none) rfl (wpAny_bind (wpAny_field ho hd (x := vs) rfl (wpAny_pure ?_)))))))
  refine wpAny_bind (HT.slicePart_ ps ?_)
  show wpAny _ _ (if ((-1 : Int) == 0) = true then _ else _) _ _ s
  rw [if_neg (by decide)]
  refine wpAny_bind (HT.slicePart_ .none (wpAny_bind (HT.slicePart_ .none (wpAny_bind (wpAny_pure ?_)))))
  show wpAny _ _ (pure ((n : Int) - 1, (-1 : Int), Builtin.Slice.slicePlaces ((n : Int) - 1) (-1) (-1))) _ _ s
  rw [back_places]
  exact wpAny_pure h
theorem getItem_tuple_back {t sl : Addr} {items : Array Value} {vs : Value} {Q : Value → Shared → Prop} (ht : IsTup s.heap t items) (hs : s.heap.IsSliceOf sl .none .none vs) (ps : IsPart vs (some (-1))) (hz : items.size ≤ sizeLine)
    (h : Q (.ref s.heap.objs.size) { s with heap := s.heap.push { cls := .type "tuple", data := .seq items.toList.reverse.toArray } }) : wpAny (model prog w) A (getItem (.ref t) (.ref sl)) Q E s := by
  obtain ⟨o, ho, hc, hd⟩ := id hs
  have hT : s.TypeIs (.ref sl) "slice" := ⟨o, ho, hc⟩
  have fit : sizeOk (.seq items.toList.reverse.toArray) := by
    show items.toList.reverse.toArray.size ≤ sizeLine
    rw [List.size_toArray, List.length_reverse, Array.length_toList]; exact hz
  unfold getItem
  try with_reducible refine wpAny_holding ?_
  first | refine wpAny_bind (wpAny_pure ?_) | skip
  refine wpAny_bind (wpAny_sequenceKey ht.typeIs (by decide) ?_)
  refine wpAny_bind (wpAny_callSpecial?_slot (name := Str.ofString "__getitem__") ht.typeIs PyProof.Rows.slot_tuple_getitem (wpAny_call_entry PyProof.Rows.slot_tuple_getitem ht.typeIs entry_tuple_getitem ?_ (args_tuple_getitem _ _)))
  show wpAny _ _ (Builtin.Tuple.tupleItemsOf (.ref t) >>= _) _ _ s
  refine wpAny_bind (tupleItemsOf_ ht ?_)
  refine wpAny_bind (wpAny_typeOf hT ?_)
  rw [if_pos (by decide)]
  refine wpAny_bind (back_applied hs ps ?_)
  have no : ¬ ((((items.size : Int) - 1) == 0 && ((-1 : Int) == 1) && (items.size == items.size)) = true) := by
    rw [show ((-1 : Int) == 1) = false by decide, Bool.and_false, Bool.false_and]; exact Bool.false_ne_true
  show wpAny _ _ (if ((((items.size : Int) - 1) == 0 && ((-1 : Int) == 1) && (items.size == items.size)) = true) then _ else _) _ _ s
  rw [if_neg no, back_pick]
  first
    | exact wpAny_bind (m := Builtin.Tuple.tupleExact _) (wpAny_newObj_type (wpAny_pure ⟨_, rfl, wpAny_pure h⟩) fit)
    | exact wpAny_bind (m := Builtin.Tuple.tupleExact _) (wpAny_newObj_type (wpAny_bind (wpAny_pure (wpAny_pure ⟨_, rfl, wpAny_pure h⟩))) fit)
end
section
variable {c : Ctx} {X : Cx} {a b e : Expr} {es : List Expr} {S : Sto} {Q Q' : D → Prop} {pos : Pos}
def tBackT (K : PySem.W.Frag) (te : TE) : TE := fun σ H Q => te σ H fun x H1 => ∃ a xs, x = .ref a ∧ SqT K H1 a xs ∧ ∀ p, H1 p = none → Q (.ref p) (upd H1 p (.tup xs.reverse))
theorem pe_backT {te : TE} {k : Nat} {p1 p2 p3 : Pos} (he : PE X a te) : PE X (.Subscript a (.Slice none none (some (.UnaryOp .USub (.Constant (.int 1) k p1) p2)) p3) pos) (tBackT X.K te) := by
  refine ⟨fun pins s σ H Q I h => ?_⟩
  refine Subscript_ (thn (he.run pins s σ H _ I h) fun v s1 ⟨x, H1, I1, r1, d, xs, ex, hx, q⟩ => ?_)
  subst ex
  cases r1
  have st : PO X (some (.UnaryOp .USub (.Constant (.int 1) k p1) p2)) (tPart (tUn (rU fun i => .int (-i)) (tC (.int 1)))) := po_some (pe_un un_neg pe_int)
  refine wpAny_Slice (thn (po_none.run pins s1 σ H1 (fun o H2 => o = none ∧ H2 = H1) I1 ⟨rfl, rfl⟩) fun vl s2 ⟨l, H2, I2, pl, el, e2⟩ => ?_)
  subst el e2
  refine thn (po_none.run pins s2 σ H2 (fun o H3 => o = none ∧ H3 = H2) I2 ⟨rfl, rfl⟩) fun vu s3 ⟨u, H3, I3, pu, eu, e3⟩ => ?_
  subst eu e3
  refine thn (st.run pins s3 σ H3 (fun o H4 => o = some (-1) ∧ H4 = H3) I3 ⟨1, rfl, -1, rfl, rfl, rfl⟩) fun vs s4 ⟨o, H4, I4, ps, eo, e4⟩ => ?_
  subst eo e4
  cases pl
  cases pu
  have I5 : Inv X pins σ H4 { s4 with heap := s4.heap.push { cls := .type "slice", data := .fields #[.none, .none, vs] } } := I4.kept (t' := s4.toks) fun b ob q => Heap.get?_push_of_some _ q
  obtain ⟨its, r, ht, hz⟩ := I5.tuple hx
  have hlen : its.length = xs.length := r.length.symm
  refine PyProof.Rows.tail_any (ops := [.ref d, .ref s4.heap.objs.size]) ht.typeIs PyProof.Rows.slot_tuple_getitem.lookup ?_ (by with_unfolding_all rfl)
  refine getItem_tuple_back ht (Heap.IsSliceOf.new _ .none .none vs) ps (by rw [List.size_toArray, hlen]; exact hz) ?_
  refine ⟨.ref _, _, I5.laid (t' := s4.toks) (o := .tup xs.reverse) (fun b ob q => Heap.get?_push_of_some _ q) (Nat.le_refl _) ?_, rfl, q _ (I5.hok.fresh (Nat.le_refl _))⟩
  exact ⟨by rw [List.length_reverse]; exact hz, _, r.reverse, IsTup.new _ _⟩
theorem de_revT {k : Nat} {p1 p2 p3 : Pos} (h : DE c X a S fun x => ∃ xs, x = .tup xs ∧ Q (.tup xs.reverse)) : DE c X (.Subscript a (.Slice none none (some (.UnaryOp .USub (.Constant (.int 1) k p1) p2)) p3) pos) S Q := fun G H σ E =>
  W.of (pe_backT pe_W) ((h G H σ E).mono fun vx H1 ⟨G1, x, e1, ⟨xs, ex, q⟩, rx⟩ => by
    subst ex
    obtain ⟨p, vs, rfl, sq, rs⟩ := rep_tup.mp rx
    exact ⟨p, vs, rfl, seqT_mono e1.sub sq, fun t ht => PostD.trans E.j e1 (postT_new e1.sub e1.reg ht q rs.reverse)⟩)
end
end DL
set_option Elab.async false
set_option linter.all false
set_option maxRecDepth 100000
set_option maxHeartbeats 4000000
namespace DL
open PySem PySem.Spec L2 PyProof.Rows
theorem tuple_mul_1 (l : Addr) (items : Array Value) (n : Nat) (dd : Option Addr) (sl : Array (Option Value)) (u : Tok) :
    Meets (Builtin.«tuple.__mul__» ⟨[.ref l, .int 1 u], []⟩) (fun _ R s => s.heap.get? l = some { cls := .type "tuple", dict := dd, data := .seq items n, slots := sl } ∧ R (.ok (.ret (Value.ref l))) s) :=
  .of_wp fun prog w A R s h => by
    obtain ⟨hp, g, d, tk, os⟩ := s
    obtain ⟨hl, h⟩ := h
    have f1 := AutoSeq1.idx_int
    have y1 : (items.isEmpty || (1 : Int) == 1) = true := by rw [show ((1 : Int) == 1) = true by decide, Bool.or_true]
    wp_walk using wpAny_loadPart' hl
    repeat (first
      | (refine wpAny_ite_true (decide_eq_true y1) ?_; wp_walk using wpAny_loadPart' hl)
      | (refine wpAny_ite_true y1 ?_; wp_walk using wpAny_loadPart' hl))
    exact ⟨_, rfl, h⟩
def rMulT1 (K : PySem.W.Frag) : R2 := fun x y H Q => ∃ l xs, x = .ref l ∧ y = .int 1 ∧ SqT K H l xs ∧ Q (.ref l) H
theorem op_mulT1 {X : Cx} : OpR X (binaryOp .Mult) (rMulT1 X.K) := by
  intro pins s σ H x y v u Q I rx ry h
  obtain ⟨l, xs, rfl, rfl, hT, q⟩ := h
  cases rx
  obtain ⟨t, rfl⟩ := ry
  obtain ⟨its, r, ⟨⟨cls, dd, data, sl⟩, ho, hc, n, hd⟩, _⟩ := I.tuple hT
  simp only at hc hd
  subst hc hd
  exact wpAny_binaryOp_repeat_ref (T := "tuple") (U := "int") (by decide) ⟨_, ho, rfl⟩ (fun s' => typeIs_int s' 1 t) noFill_tuple_mul F.fills_int_mul F.slot_int_rmul repeat_tuple F.slot_int_index.lookup
    (call_meets F.slot_int_rmul (typeIs_int s 1 t) F.entry_int_rmul (F.args_int_rmul_2 _ _) (int_rmul_tuple 1 t l its.toArray n dd sl)
      ⟨ho, rfl, ⟨_, ho, rfl⟩, call_meets F.slot_tuple_mul ⟨_, ho, rfl⟩ F.entry_tuple_mul (F.args_tuple_mul_2 _ _) (tuple_mul_1 l its.toArray n dd sl t) ⟨ho, .ref l, H, I, rfl, q⟩⟩)
section
variable {c : Ctx} {X : Cx} {a b e : Expr} {S : Sto} {Q : D → Prop} {pos : Pos}
theorem de_repTn (h : DE c X a S fun x => DE c X b S fun y => ∃ (xs : List D) (k : Int), x = .tup xs ∧ y = .int k ∧ xs ≠ [] ∧ k ≤ 1000 ∧ 1 ≤ k ∧ xs.length ≤ 100 ∧ Q (.tup (List.replicate k.toNat xs).flatten)) : DE c X (.BinOp a .Mult b pos) S Q :=
  de_bin (r := fun x y H Q => rRepT X.K x y H Q ∨ rMulT1 X.K x y H Q) (op_repT.or op_mulT1) (h.mono fun _ h => h.mono fun _ ⟨xs, k, ex, ey, hne, hk, hk', hl, q⟩ => fun G H vx vy Z s j rx ry z => by
    subst ex ey
    have rx0 := rx
    obtain ⟨p, vs, rfl, sq, rs⟩ := rep_tup.mp rx
    have l1 := rs.length
    have rf : ∀ n, Reps X.K G (List.replicate n xs).flatten (List.replicate n vs).flatten := fun n => by
      induction n with
      | zero => exact reps_nil
      | succ n ih => rw [List.replicate_succ, List.replicate_succ, List.flatten_cons, List.flatten_cons]; exact rs.append ih
    by_cases h1 : k = 1
    · subst h1
      refine .inr ⟨p, vs, rfl, rep_int.mp ry, seqT_mono s sq, z _ _ (postC s j q ?_)⟩
      have e1 : (List.replicate (1 : Int).toNat xs).flatten = xs := by
        show (List.replicate 1 xs).flatten = xs
        simp
      rw [e1]; exact rx0
    · refine .inl ⟨p, k, vs, rfl, rep_int.mp ry, seqT_mono s sq, fun e => hne ?_, by omega, hk, by omega, fun t ht => z _ _ (postT_new s j ht q (rf _))⟩
      subst e
      exact List.length_eq_zero_iff.mp l1.symm)
end
end DL
set_option Elab.async false
set_option linter.all false
set_option maxRecDepth 100000
set_option maxHeartbeats 4000000
namespace DL
open PySem PySem.Spec L2 PyProof.Rows
section
variable {P : Program} {w : World} {A : Around} {E : Value → Shared → Prop} {s : Shared}
abbrev emptySet (w : World) : Obj := { cls := .type "set", dict := none, data := .set #[] 0 (.fresh 0 0 (!w.params.followText "set-order")) }
theorem ints_at {its : Array Value} {ns : List Int} (hi : IntsAre its.toList ns) (hsz : its.size = ns.length) (i : Nat) (v : Value) (hv : its[i]? = some v) : ∃ k t, ns[i]? = some k ∧ v = .int k t := by
  have hlt : i < ns.length := hsz ▸ (Array.getElem?_eq_some_iff.mp hv).1
  obtain ⟨t, e⟩ := IntsAre.int_at hi i v (by rw [Array.getElem?_toList]; exact hv)
  exact ⟨ns[i], t, List.getElem?_eq_getElem hlt, by rw [e, List.getD_eq_getElem?_getD, List.getElem?_eq_getElem hlt] <;> rfl⟩
theorem call_set_listR {l : Addr} {its : Array Value} (ns : List Int) {Q : Value → Shared → Prop} (hh : A.handled = none) (hl : s.heap.IsList l its) (hi : IntsAre its.toList ns) (hb : ns.length + 1 < scanBound)
    (hQ : ∀ (h' : Heap) (tk c : Nat), SetR w h' s.heap.objs.size (fun j => decide (j ∈ ns)) c → c ≤ ns.length → (∀ b o, s.heap.get? b = some o → h'.get? b = some o) → Q (.ref s.heap.objs.size) { s with heap := h', toks := tk }) :
    wpAny (model P w) A (call (.type "set") [.ref l]) Q E s := by
  have hsz : its.size = ns.length := by have q := IntsAre.length hi; rw [Array.length_toList] at q; exact q
  obtain ⟨k1, k2, k3⟩ := PySem.F.called_set.mro
  have m1 := PySem.F.called_set.made
  have m2 := PySem.F.called_set.sub
  refine wpAny_call (codeAny_of_tree (show wpAny _ _ (callAny (.type "set") _) _ _ _ from wpAny_pure ⟨Code.quiet_builtin _ (by decide +kernel), codeAny_builtin PySem.F.entry_type_call ?_⟩))
  rw [Around.under_plain (weight_type_call_type "set" [.ref l] []) rfl]
  have m3 := PySem.F.called_set.notType
  have m4 := PySem.F.called_set.canCreate
  have m5 := PySem.F.typeCall_set_1 (.ref l)
  repeat (any_goals (first | assumption | wp_step))
  refine codeAny_mono (code_set_led1 (.ref l) (E := E) (Q₁ := fun ob s₁ => ob = .ref s.heap.objs.size ∧ s₁ = { s with heap := s.heap.push (emptySet w) }) ⟨rfl, rfl⟩) fun r s₁ hr => ?_
  rcases r with e | fl
  · exact hr
  rcases fl with _ | _ | _ | ob
  rotate_right
  · obtain ⟨rfl, rfl⟩ := hr
    have at0 : (s.heap.push (emptySet w)).get? s.heap.objs.size = some (emptySet w) := Heap.get?_push_size _ rfl
    have ty0 : Shared.TypeIs { s with heap := s.heap.push (emptySet w) } (.ref s.heap.objs.size) "set" := ⟨_, at0, rfl⟩
    have i1 := PySem.F.called_set.init.lookup
    have i2 := PySem.F.called_set.init.bind (.ref s.heap.objs.size)
    repeat (any_goals (first | assumption | wp_step))
    refine codeAny_mono (codeAny_call_builtin (R := wants (fun r s₂ => r = .none ∧ ∃ h' tk c, s₂ = { s with heap := h', toks := tk } ∧ SetR w h' s.heap.objs.size (fun j => decide (j ∈ ns)) c ∧ c ≤ ns.length ∧ ∀ b o, s.heap.get? b = some o → h'.get? b = some o) E)
      PySem.F.called_set.init.plain PySem.F.entry_set_init (check_set_init_1 ty0 ?_)) fun r₂ s₂ hr₂ => ?_
    · obtain ⟨⟨oc, od, odt, osl⟩, ho, hc, n, hd⟩ := hl
      simp only at hc hd
      subst hc hd
      have ho1 : (s.heap.push (emptySet w)).get? l = some { cls := .type "list", dict := od, data := .seq its n, slots := osl } := Heap.get?_push_of_some _ ho
      have hl1 : (s.heap.push (emptySet w)).IsList l its := ⟨_, ho1, rfl, n, rfl⟩
      have b1 := PySem.F.sub_list_set
      have b2 := PySem.F.sub_list_frozenset
      have b3 : (Value.type "list" == Value.type "dict") = false := by decide
      unfold Builtin.«set.__init__» noKeywords Builtin.Frozenset.updateFrom
      generalize hPI : pyIter = PI
      wp_walk
      subst hPI
      refine wpAny_pyIter_list hl1 (wpAny_bind (wpAny_runValue ?_))
      have lt1 : l < s.heap.objs.size := Heap.lt_size ho
      have h3 : A.in1.in1.in1.handled = none := by simp [hh]
      have z1 : (s.heap.push (emptySet w)).objs.size = s.heap.objs.size + 1 := Heap.size_push ..
      have ne1 : l ≠ (s.heap.push (emptySet w)).objs.size := by rw [z1]; exact Nat.ne_of_lt (Nat.lt_succ_of_lt lt1)
      have ni : s.heap.objs.size ∉ [(s.heap.push (emptySet w)).objs.size, l] := by
        rw [z1]
        intro h
        rcases List.mem_cons.mp h with e | h
        · exact absurd e (Nat.ne_of_lt (Nat.lt_succ_self _))
        · exact absurd (List.mem_singleton.mp h) (Nat.ne_of_gt lt1)
      refine set_update_ints ((Walks.list h3 _ l ne1 its).toS) s.heap.objs.size ni ns hsz hb (ints_at hi hsz) (its.size - 0) 0 _ (by omega) (Nat.zero_le _) ⟨⟨_, Heap.get?_push_size _ rfl, rfl, rfl⟩, hl1.push _⟩
        ⟨0, Nat.le_refl 0, setR_new_at (Heap.get?_push_of_some _ at0)⟩ fun s' c hm hc' hS => ?_
      obtain ⟨h', g2, d', tk, os'⟩ := s'
      obtain rfl : g2 = s.gens := hm.gens
      obtain rfl : d' = s.drawn := hm.drawn
      obtain rfl : os' = s.os := hm.os
      refine wpAny_pure ?_
      show wpAny _ _ (ret Value.none) _ _ _
      rw [hsz] at hc'
      refine wpAny_pure ⟨rfl, h', tk, c, rfl, hS, hc', fun b o e => ?_⟩
      have lb : b < s.heap.objs.size := Heap.lt_size e
      refine hm.heap b o (fun h => ?_) (Heap.get?_push_of_some _ (Heap.get?_push_of_some _ e))
      rcases List.mem_cons.mp h with e1 | h
      · exact absurd e1 (Nat.ne_of_lt lb)
      · have e2 := (List.mem_singleton.mp h).trans z1
        rw [e2] at lb
        exact absurd lb (Nat.not_lt.mpr (Nat.le_succ _))
    · rcases r₂ with e | fl₂
      · exact hr₂
      rcases fl₂ with _ | _ | _ | r
      rotate_right
      · obtain ⟨rfl, h', tk, c, rfl, hS, hc', hk⟩ := hr₂
        repeat (any_goals (first | assumption | wp_step))
        exact hQ _ _ _ hS hc' hk
      all_goals exact hr₂.elim
  all_goals exact hr.elim
end
section
variable {X : Cx}
def rSetI (w : World) (K : PySem.W.Frag) : List V → Hp → VK → Prop := fun xs H Q => ∃ (a : Addr) (ns : List Int), xs = [.ref a] ∧ SqL K H a (ns.map V.int) ∧ ns.length + 1 < scanBound ∧ ∀ p c, H p = none → c ≤ ns.length → Q (.ref p) (upd H p (SetO w p (fun j => decide (j ∈ ns)) c))
theorem cr_setI (hc : X.calm = true) : CallR X (.type "set") (rSetI X.w X.K) := by
  intro pins s σ H xs us Q I r h
  obtain ⟨a, ns, rfl, sq, hb, q⟩ := h
  obtain ⟨u, rfl, rx⟩ := vals1 r
  cases rx
  obtain ⟨its, rv, ⟨o, n, ho, hcl, hd, hdt⟩, hz⟩ := I.list sq
  have hi : IntsAre its.toArray.toList ns := intsAre_of rv
  refine call_set_listR ns (I.ok.hd hc) ⟨o, ho, hcl, n, hdt⟩ hi hb fun h' tk c R le kp => ?_
  refine ⟨.ref s.heap.objs.size, _, I.laid (t' := tk) (o := SetO X.w s.heap.objs.size (fun j => decide (j ∈ ns)) c) kp (Nat.le_refl _) (setO_new R), rfl, q _ c (I.hok.fresh (Nat.le_refl _)) le⟩
end
section
variable {c : Ctx} {X : Cx} {a b e : Expr} {S : Sto} {pos : Pos}
theorem df_sortedSet {p p2 pos2 : Pos} {Q : List D → Prop} (hc : X.calm = true) (hm : X.mg "sorted" = none) (hg : Gl X "sorted") (hm2 : X.mg "set" = none) (hg2 : Gl X "set")
    (h : DE c X a S fun d => ∃ ns : List Int, d = dInts ns ∧ ns.length < 64 ∧ ∀ ms : List Int, ms.Pairwise (· < ·) → (∀ k, k ∈ ms ↔ k ∈ ns) → Q (ms.map D.int))
    (he : starEach [.Call (.Name "set" p2) [a] [] pos2] X.env = (false, eval (.Call (.Name "set" p2) [a] [] pos2) X.env) :: starEach [] X.env := by rfl) (hpl : (backTo pos (starEach [] X.env)).any (·.1) = false := by rfl)
    (he2 : starEach [a] X.env = (false, eval a X.env) :: starEach [] X.env := by rfl) (hpl2 : (backTo pos2 (starEach [] X.env)).any (·.1) = false := by rfl) : DF c X (.Call (.Name "sorted" p) [.Call (.Name "set" p2) [a] [] pos2] [] pos) S Q := fun G H σ E =>
  W.of (pe_callB (cr_sortedSet hc) hg hm PyProof.Rows.boot_sorted (pa_cons (pe_callTy (cr_setI hc) hg2 hm2 PyProof.Rows.boot_set (pa_cons pe_W pa_nil he2) (by decide) (by decide) he2 hpl2) pa_nil he) (by decide) (by decide) he hpl) (by
    refine (h G H σ E).mono fun v H1 ⟨G1, d, e1, ⟨ns, ed, hl, q⟩, rd⟩ => ?_
    subst ed
    obtain ⟨p0, rfl, sq⟩ := rep_dInts rd
    refine ⟨p0, ns, rfl, Or.inl (rd_mono e1.sub sq), by show _ < 4096; omega, fun p1 k hp1 hk => ?_⟩
    have x1 := Ext.new' (o := SetO X.w p1 (fun j => decide (j ∈ ns)) k) e1.sub e1.reg hp1
    refine ⟨p1, _, k, rfl, upd_same, by omega, fun ms p2 hpw hmem _ hp2 => ?_⟩
    have x12 := e1.trans x1 E.j
    exact PostL.trans E.j x12 (postL_new x1.sub x1.reg hp2 (q ms hpw fun z => (hmem z).trans decide_eq_true_iff) (reps_ints ms)))
end
end DL
set_option Elab.async false
set_option linter.all false
set_option maxRecDepth 100000
set_option maxHeartbeats 4000000
namespace DL
open PySem PySem.Spec L2
open PySem.W (EachIs AllAlike Sortable alike alikeAll dataLe dataLt)
theorem each_vals {K : PySem.W.Frag} {G : Hp} : ∀ {xs : List D} {vs : List V} {us : List Value}, Reps K G xs vs → Vals vs us → EachIs (fun u (b : D × V) => RelV b.2 u) us (xs.zip vs)
  | [], _, _, h, r => by rw [reps_nilE h] at r ⊢; cases r; exact .nil
  | x :: xs, _, _, h, r => by
    obtain ⟨v, ws, rfl, h1, h2⟩ := reps_consE h
    cases r with
    | cons r1 r2 => exact .cons r1 (each_vals h2 r2)
theorem each_reads {X : Cx} {pins : List (Addr × Obj)} {σ : L2.St} {H : Hp} {s : Shared} (I : Inv X pins σ H s) : ∀ {xs : List D} {vs : List V} {us : List Value}, (∀ x ∈ xs, plainD x = true) → Reps X.K H xs vs → Vals vs us → EachIs (fun u (b : D × V) => ∃ as, Reads s.heap u (toPy b.1) as) us (xs.zip vs)
  | [], _, _, _, h, r => by rw [reps_nilE h] at r ⊢; cases r; exact .nil
  | x :: xs, _, _, p, h, r => by
    obtain ⟨v, ws, rfl, h1, h2⟩ := reps_consE h
    cases r with
    | cons r1 r2 => exact .cons (Dp.reads I _ _ _ (rep_dp (p x List.mem_cons_self) h1) r1) (each_reads I (fun y hy => p y (List.mem_cons_of_mem _ hy)) h2 r2)
theorem vals_each {us : List Value} : ∀ {bs : List (D × V)}, EachIs (fun u (b : D × V) => RelV b.2 u) us bs → Vals (bs.map (·.2)) us := fun {bs} h => by
  induction h with
  | nil => exact .nil
  | cons r _ ih => exact .cons r ih
theorem reps_zip {K : PySem.W.Frag} {G : Hp} : ∀ {xs : List D} {vs : List V}, Reps K G xs vs → ∀ b ∈ xs.zip vs, Rep K G b.1 b.2
  | [], _, h, b, hb => by cases hb
  | x :: xs, _, h, b, hb => by
    obtain ⟨v, ws, rfl, h1, h2⟩ := reps_consE h
    rcases List.mem_cons.mp hb with rfl | hb
    · exact h1
    · exact reps_zip h2 b hb
theorem reps_pairs {K : PySem.W.Frag} {G : Hp} : ∀ {bs : List (D × V)}, (∀ b ∈ bs, Rep K G b.1 b.2) → Reps K G (bs.map (·.1)) (bs.map (·.2))
  | [], _ => reps_nil
  | b :: bs, h => reps_cons (h b List.mem_cons_self) (reps_pairs fun c hc => h c (List.mem_cons_of_mem _ hc))
theorem zip_fst {α β : Type} : ∀ {xs : List α} {ys : List β}, xs.length = ys.length → (xs.zip ys).map (·.1) = xs
  | [], [], _ => rfl
  | x :: xs, y :: ys, h => by rw [List.zip_cons_cons, List.map_cons, zip_fst (Nat.succ.inj h)]
def leD (x y : D) : Bool := dataLe false toPy x y
def rSortD (K : PySem.W.Frag) : List V → Hp → VK → Prop := fun us H Q => ∃ (a : Addr) (xs : List D) (vs : List V) (G : Hp), us = [.ref a] ∧ SqL K H a vs ∧ Same G H ∧ Reps K G xs vs ∧ (∀ x ∈ xs, plainD x = true ∧ (toPy x).depth ≤ 8) ∧ AllAlike (xs.map toPy) ∧ Sortable (xs.map toPy) ∧
  ∀ p ws, H p = none → Reps K G (xs.mergeSort leD) ws → Q (.ref p) (upd H p (.lst ws))
theorem cr_sortD {X : Cx} (hu : X.A.units + 64 < cLine) : CallR X (.builtin "sorted") (rSortD X.K) := by
  intro pins s σ H us us' Q I r h
  obtain ⟨a, xs, vs, G, rfl, sq, sm, rs, hp, hal, hk, q⟩ := h
  obtain ⟨its, rv, hl, hz⟩ := I.list sq
  rw [Vals.ref1 r]
  have hlen := rs.length
  have e1 : (xs.zip vs).map (fun b => toPy b.1) = xs.map toPy := by
    rw [show (fun b : D × V => toPy b.1) = toPy ∘ (·.1) from rfl, ← List.map_map, zip_fst hlen.symm]
  have hzip : (xs.zip vs).length = vs.length := by rw [List.length_zip]; omega
  refine PySem.W.sorted_data (enc := fun b : D × V => toPy b.1) hl.isList (each_vals rs rv) (each_reads I (fun x hx => (hp x hx).1) (rs.mono sm) rv) (by rw [e1]; exact hal) (by rw [e1]; exact hk) (by rw [hzip]; exact hz) (fun b hb => ?_) fun out hol ho => ?_
  · have hm : b.1 ∈ xs := by
      have := List.mem_map_of_mem (f := (·.1)) hb
      rw [zip_fst hlen.symm] at this; exact this
    have := (hp b.1 hm).2
    omega
  · obtain ⟨ep, he'⟩ := PyProof.Rows.sortedAll_at s.heap its out.toArray
    have hperm := List.mergeSort_perm (xs.zip vs) (dataLe false fun b : D × V => toPy b.1)
    have em : ((xs.zip vs).mergeSort (dataLe false fun b : D × V => toPy b.1)).map (·.1) = xs.mergeSort leD := by
      have := List.map_mergeSort (r := dataLe false fun b : D × V => toPy b.1) (s := leD) (f := fun b : D × V => b.1) (l := xs.zip vs) fun _ _ _ _ => rfl
      rw [this, zip_fst hlen.symm]
    have vo := vals_each ho
    have ro : Reps X.K G (xs.mergeSort leD) (((xs.zip vs).mergeSort (dataLe false fun b : D × V => toPy b.1)).map (·.2)) := by
      rw [← em]
      exact reps_pairs fun b hb => reps_zip rs b (hperm.mem_iff.mp hb)
    have hlo : (((xs.zip vs).mergeSort (dataLe false fun b : D × V => toPy b.1)).map (·.2)).length ≤ sizeLine := by
      rw [List.length_map, hperm.length_eq, hzip]; exact hz
    exact ⟨.ref _, upd H (s.heap.objs.size + 1) (.lst _), I.laid (t' := s.toks) (fun _ _ => PyProof.Rows.sortedAll_old) (Nat.le_succ _) ⟨hlo, out, ep, vo, he'⟩, rfl, q _ _ (I.hok.fresh (Nat.le_succ _)) ro⟩
section
variable {c : Ctx} {X : Cx} {a b e : Expr} {S : Sto} {pos : Pos}
theorem df_sortedD {x : Expr} {p : Pos} {Q : List D → Prop} (hu : X.A.units + 64 < cLine) (hm : X.mg "sorted" = none) (hg : Gl X "sorted") (h : DE c X x S fun d => ∃ xs : List D, d = .lst xs ∧ (∀ x ∈ xs, plainD x = true ∧ (toPy x).depth ≤ 8) ∧ AllAlike (xs.map toPy) ∧ Sortable (xs.map toPy) ∧ Q (xs.mergeSort leD))
    (he : starEach [x] X.env = (false, eval x X.env) :: starEach [] X.env := by rfl) (hpl : (backTo pos (starEach [] X.env)).any (·.1) = false := by rfl) : DF c X (.Call (.Name "sorted" p) [x] [] pos) S Q :=
  df_callB (cr_sortD hu) hm hg PyProof.Rows.boot_sorted (da_cons (h.mono fun d ⟨xs, e, hp, hal, hk, q⟩ => da_nil fun G H vs Z s j rs z => by
    subst e
    obtain ⟨v, rfl, rd⟩ := reps1 rs
    obtain ⟨a, ws, rfl, sq, rs'⟩ := rep_lst.mp rd
    exact ⟨a, xs, ws, G, rfl, Or.inl (rd_mono s sq), s, rs', hp, hal, hk, fun p us hn ru => z _ _ (postL_new s j hn q ru)⟩) he) (by decide) (by decide) he hpl
end
end DL
set_option Elab.async false
set_option linter.all false
set_option maxRecDepth 100000
set_option maxHeartbeats 2000000
namespace DL
open PySem PySem.Spec L2
section
variable {c : Ctx} {X : Cx} {a b e tg : Expr} {es : List Expr} {S : Sto} {Q Q' : D → Prop} {D' : DEnds} {pos : Pos}
theorem dropLast_reps {K : PySem.W.Frag} {G : Hp} : ∀ {xs : List D} {vs : List V}, Reps K G xs vs → Reps K G xs.dropLast vs.dropLast := fun {xs vs} r => by
  rw [List.dropLast_eq_take, List.dropLast_eq_take, r.length]
  exact r.take _
theorem ds_pop {x : Str} {px apos cpos : Pos} {T : Tgt} (i : Nat) (ht : PGT X tg T) (hN : X.N[i]? = some x) (hv : Vis X.env.scope x) {xs : List D} (hS : S[i]? = some (.m xs)) {d : D} (hd' : xs.getLast? = some d) (h : T.put d (S.set i (.m xs.dropLast)) D'.nx)
    (hd : (x == ("__debug__" : Str)) = false := by decide) (hcd : (x == ("__classdict__" : Str)) = false := by decide)
    (hbase : attributeBase (.Name x px) "pop" X.env (eval (.Name x px) X.env) = eval (.Name x px) X.env := by rfl) (hline : (apos.endLine == cpos.line) = true := by rfl)
    (hs : swapsWithSole [tg] (.Call (.Attribute (.Name x px) "pop" apos) [] [] cpos) pos.line X.env = pure false := by rfl) (hw : swappedStores [tg] (.Call (.Attribute (.Name x px) "pop" apos) [] [] cpos) X.env = pure none := by rfl) (h1 : (assignEach [tg] X.env).map (·.2) = [assign tg X.env] := by rfl) :
    DS c X (.Assign [tg] (.Call (.Attribute (.Name x px) "pop" apos) [] [] cpos) pos) S D' := fun G H σ E => by
  obtain ⟨p, vs, e0, h0, g0, rs, f0, nm⟩ := E.m hS
  refine WS.of (ps_asg (pe_bm0 PySem.F.plainAttrs_list PySem.F.slot_list_pop PySem.F.type_list_pop mt_pop (pe_var hN hv hd hcd) hbase hline) ht.pg hs hw h1) ?_
  have hl : xs[xs.length - 1]? = some d := by rw [← List.getLast?_eq_getElem?]; exact hd'
  obtain ⟨y, hy, ry⟩ := rs.get hl
  refine ⟨.ref p, e0, .inl ⟨rfl, vs, SqL.of h0⟩, p, vs, y, rfl, rfl, h0, by rw [rs.length]; exact hy, ?_⟩
  exact tgt_go (E.write hS e0 (dropLast_reps rs)) ry h fun σ' S' E' z _ _ => ⟨G, S', E', Same.refl G, z⟩
theorem ds_insert {x : Str} {px apos cpos : Pos} (i : Nat) (hN : X.N[i]? = some x) (hv : Vis X.env.scope x) {xs : List D} (hS : S[i]? = some (.m xs)) (hl : xs.length ≤ 100000) (h : DE c X a S fun k => DE c X e S fun d => ∃ m : Nat, k = .int m ∧ m < 2 ^ 62 ∧ D'.nx (S.set i (.m (xs.take m ++ [d] ++ xs.drop m))))
    (hd : (x == ("__debug__" : Str)) = false := by decide) (hcd : (x == ("__classdict__" : Str)) = false := by decide)
    (hbase : attributeBase (.Name x px) "insert" X.env (eval (.Name x px) X.env) = eval (.Name x px) X.env := by rfl)
    (hfew : ((backTo cpos (starEach (a :: [e]) X.env)).all (fun x => !x.1) && (backToKw cpos (keywordEach [] X.env)).all (fun x => x.1.isSome) && decide ((a :: [e]).length + ([] : List Keyword).length + (if ([] : List Keyword).isEmpty then 0 else 1) < 30)) = true := by rfl)
    (hline : (apos.endLine == cpos.line) = true := by rfl) (hs : starEach (a :: [e]) X.env = (false, eval a X.env) :: starEach [e] X.env := by rfl) (hs2 : starEach [e] X.env = (false, eval e X.env) :: starEach [] X.env := by rfl) (hplain : (backTo cpos (starEach [e] X.env)).any (·.1) = false := by rfl)
    (hsw : swapsWith (.Call (.Attribute (.Name x px) "insert" apos) [a, e] [] cpos) none pos.line X.env = pure false := by rfl) : DS c X (.Expr (.Call (.Attribute (.Name x px) "insert" apos) [a, e] [] cpos) pos) S D' := fun G H σ E => by
  obtain ⟨p, vs, e0, h0, g0, rs, f0, nm⟩ := E.m hS
  refine WS.of (ps_expr (pe_bm PySem.F.plainAttrs_list PySem.F.slot_list_insert PySem.F.type_list_insert mt_insert (pe_var hN hv hd hcd) (pa_cons pe_W (pa_cons pe_W pa_nil hs2) hs) hbase hfew hline hs hplain) hsw) ?_
  refine ⟨.ref p, e0, .inl ⟨rfl, vs, SqL.of h0⟩, ?_⟩
  refine (h G H σ E).mono fun u H1 ⟨G1, k, e1, hk, rk⟩ => (hk G1 H1 σ (E.ext e1)).mono fun w H2 ⟨G2, d, e2, ⟨m, ek, hm, q⟩, rd⟩ => ?_
  subst ek
  have e12 := e1.trans e2 E.j
  have l1 := rs.length
  refine ⟨p, vs, (m : Int), w, rfl, by rw [rep_int.mp rk], e12.same _ _ nm h0, by rw [sizeLine_eq]; omega, by omega, by omega, G2, _, (E.ext e12).write hS e0 ?_, e12.up, q⟩
  rw [Int.toNat_natCast]
  have r2 := rs.mono e12.up
  exact ((r2.take m).append (reps_cons rd reps_nil)).append (r2.drop m)
theorem de_catS (h : DE c X a S fun x => DE c X b S fun y => ∃ i j : Str, x = .str i ∧ y = .str j ∧ i.length + j.length ≤ 100000 ∧ Q (.str (i ++ j))) : DE c X (.BinOp a .Add b pos) S Q :=
  de_bin op_add_str (h.mono fun _ h => h.mono fun _ ⟨i, j', e1, e2, hl, q⟩ => fun G H vx vy Z s j rx ry z => by
    subst e1 e2
    exact ⟨i, j', rep_str.mp rx, rep_str.mp ry, by rw [sizeLine_eq]; omega, z _ _ (postC s j q (rep_str.mpr rfl))⟩)
theorem de_join {apos : Pos} (h : DE c X a S fun x => ∃ z : Str, x = .str z ∧ DE c X e S fun y => ∃ ys : List Str, (y = .lst (ys.map D.str) ∨ y = .tup (ys.map D.str)) ∧ (ys.map (·.length)).sum + ys.length * z.length ≤ 16777216 ∧ Q (.str (Txt.join z ys)))
    (hs : starEach [e] X.env = [(false, eval e X.env)] := by rfl) (hbase : attributeBase a "join" X.env (eval a X.env) = eval a X.env := by rfl) (hline : (apos.endLine == pos.line) = true := by rfl) : DE c X (.Call (.Attribute a "join" apos) [e] [] pos) S Q := fun G H σ E =>
  W.of (pe_join pe_W pe_W hs hbase hline) (by
    refine (h G H σ E).mono fun u H1 ⟨G1, x, e1, ⟨z, ex, hx⟩, rx⟩ => ?_
    subst ex
    refine ⟨⟨z, rep_str.mp rx⟩, (hx G1 H1 σ (E.ext e1)).mono fun w H2 ⟨G2, y, e2, ⟨ys, ey, hl, q⟩, ry⟩ => ?_⟩
    obtain ⟨p, rfl, sq⟩ := rep_seqS e2.sub ry ey
    exact ⟨z, p, ys, rep_str.mp rx, rfl, sq, hl, PostD.trans E.j (e1.trans e2 E.j) (postC e2.sub e2.reg q (rep_str.mpr rfl))⟩)
theorem de_mulW (h : DE c X a S fun x => DE c X b S fun y => ∃ i j, x = .int i ∧ y = .int j ∧ CMulW i j ∧ Q (.int (i * j))) : DE c X (.BinOp a .Mult b pos) S Q := de_bin op_mulW (h.mono fun _ h => h.mono fun _ h => rb_I h)
def IntD (p : Int → Prop) (d : D) : Prop := ∃ i : Int, d = .int i ∧ p i
end
theorem join_few {z : Str} {ys : List Str} {n : Nat} (hz : z.length = 0) (h : ∀ y ∈ ys, y.length ≤ n) : (Txt.join z ys).length ≤ ys.length * n ∧ (ys.map (·.length)).sum + ys.length * z.length ≤ ys.length * n := by
  have hs : (ys.map (·.length)).sum ≤ ys.length * n := by
    induction ys with
    | nil => exact Nat.zero_le _
    | cons y ys ih =>
      have h1 := h y List.mem_cons_self
      have h2 := ih fun z hz => h z (List.mem_cons_of_mem _ hz)
      rw [List.map_cons, List.sum_cons, List.length_cons, Nat.succ_mul]; omega
  have e : (ys.map (·.length)).sum + ys.length * z.length ≤ ys.length * n := by rw [hz, Nat.mul_zero]; exact hs
  refine ⟨?_, e⟩
  show (Builtin.Str.glued z ys).length ≤ _
  rw [StrLaws.glued_eq_join]
  exact Nat.le_trans (StrLaws.join_length_le z ys) e
end DL
set_option Elab.async false
set_option linter.all false
set_option maxRecDepth 100000
set_option maxHeartbeats 1000000
namespace DL
open PySem PySem.Spec L2
def SlotN (K : PySem.W.Frag) (G' H' H : Hp) (v : V) : B → Prop
  | .u => True
  | .d x => Rep K G' x v
  | .m xs => ∃ p vs, v = .ref p ∧ H p = none ∧ H' p = some (.lst vs) ∧ G' p = none ∧ Reps K G' xs vs
def NewB (K : PySem.W.Frag) (G' H' H : Hp) : List B → List V → Prop
  | [], vs => vs = []
  | b :: bs, vs => ∃ v ws, vs = v :: ws ∧ SlotN K G' H' H v b ∧ NewB K G' H' H bs ws ∧ ∀ xs, b = .m xs → ∀ (k : Nat) ys, bs[k]? = some (.m ys) → ws[k]? ≠ some v
theorem SlotN.mono {K : PySem.W.Frag} {r : Reg} {G H G1 H1 H0 : Hp} {v : V} (j : r.J H0) (sd : ∀ p, H p ≠ none → H0 p = none → ¬ r.mem p) (e : Ext r G H G1 H1) : ∀ {b : B}, SlotN K G H H0 v b → SlotN K G1 H1 H0 v b
  | .u, _ => trivial
  | .d x, h => Rep.mono e.up h
  | .m xs, h => by
    obtain ⟨p, vs, ev, h0, h1, g1, rs⟩ := h
    have nm : ¬ r.mem p := sd p (by rw [h1]; simp) h0
    exact ⟨p, vs, ev, h0, e.same _ _ nm h1, by rw [e.old p (by rw [h1]; simp)]; exact g1, rs.mono e.up⟩
theorem NewB.len {K : PySem.W.Frag} {G' H' H : Hp} : ∀ {bs : List B} {vs : List V}, NewB K G' H' H bs vs → vs.length = bs.length
  | [], vs, h => by rw [show vs = [] from h]; rfl
  | b :: bs, vs, h => by
    obtain ⟨v, ws, rfl, _, h2, _⟩ := h
    rw [List.length_cons, List.length_cons, NewB.len h2]
def setsV : List Nat → List V → L2.St → L2.St
  | i :: is, v :: vs, σ => setsV is vs (σ.set i (some v))
  | _, _, σ => σ
def setsB : List Nat → List B → Sto → Sto
  | i :: is, b :: bs, S => setsB is bs (S.set i b)
  | _, _, S => S
theorem sets_ok {K : PySem.W.Frag} {c : Ctx} {G' H' H : Hp} (h0 : ∀ a, H a = none → c.H0 a = none) : ∀ {is : List Nat} {bs : List B} {vs : List V} {σ : L2.St} {S : Sto}, (∀ b ∈ bs, b ≠ .u) → NewB K G' H' H bs vs → bs.length = is.length → EnvOk K c G' H' σ S →
    (∀ (k : Nat) (xs : List D) (a : Addr), S[k]? = some (.m xs) → σ[k]? = some (some (.ref a)) → H a ≠ none ∨ ∀ (l : Nat) ys, bs[l]? = some (.m ys) → vs[l]? ≠ some (.ref a)) → EnvOk K c G' H' (setsV is vs σ) (setsB is bs S)
  | [], bs, vs, σ, S, _, n, hl, E, _ => by
    have : bs = [] := List.length_eq_zero_iff.mp hl
    subst this
    rw [show vs = [] from n]; exact E
  | i :: is, [], vs, σ, S, _, n, hl, E, _ => by cases hl
  | i :: is, b :: bs, vs, σ, S, nu, n, hl, E, fr => by
    obtain ⟨v, ws, rfl, sn, n2, ap⟩ := n
    have hl2 : bs.length = is.length := Nat.succ.inj hl
    have nu2 : ∀ b ∈ bs, b ≠ .u := fun x hx => nu x (List.mem_cons_of_mem _ hx)
    cases b with
    | u => exact absurd rfl (nu _ List.mem_cons_self)
    | d x =>
      show EnvOk K c G' H' (setsV is ws (σ.set i (some v))) (setsB is bs (S.set i (.d x)))
      refine sets_ok h0 nu2 n2 hl2 (E.set_d sn) fun k xs a hk ha => ?_
      rcases getElem?_set_cases hk with ⟨_, z⟩ | ⟨ne, hk2⟩
      · cases z
      · rw [List.getElem?_set_ne (Ne.symm ne)] at ha
        rcases fr k xs a hk2 ha with h | h
        · exact .inl h
        · exact .inr fun l ys hl' => h (l + 1) ys (by rw [List.getElem?_cons_succ]; exact hl')
    | m xs =>
      obtain ⟨p, us, rfl, hp, h1, g1, rs⟩ := sn
      have apart : ∀ (j : Nat) (ys : List D), j ≠ i → S[j]? = some (.m ys) → σ[j]? ≠ some (some (.ref p)) := fun j ys _ hj e => by
        rcases fr j ys p hj e with h | h
        · exact h hp
        · exact h 0 xs rfl rfl
      show EnvOk K c G' H' (setsV is ws (σ.set i (some (.ref p)))) (setsB is bs (S.set i (.m xs)))
      refine sets_ok h0 nu2 n2 hl2 (E.set_m h1 g1 (h0 p hp) rs apart) fun k ys a hk ha => ?_
      by_cases ek : k = i
      · subst ek
        have hlt : k < σ.length := by
          have h1 := (List.getElem?_eq_some_iff.mp ha).1
          rwa [List.length_set] at h1
        rw [List.getElem?_set_self hlt] at ha
        cases ha
        exact .inr fun l zs hl' => ap xs rfl l zs hl'
      · rw [List.getElem?_set_ne (Ne.symm ek)] at hk ha
        rcases fr k ys a hk ha with h | h
        · exact .inl h
        · exact .inr fun l zs hl' => h (l + 1) zs (by rw [List.getElem?_cons_succ]; exact hl')
def PostX (K : PySem.W.Frag) (r : Reg) (G H : Hp) (Q : List B → Prop) : List V → Hp → Prop := fun vs H' => ∃ G' bs, Ext r G H G' H' ∧ Q bs ∧ NewB K G' H' H bs vs
def DX (c : Ctx) (X : Cx) (es : List Expr) (S : Sto) (Q : List B → Prop) : Prop := ∀ G H σ, EnvOk X.K c G H σ S → WA X es σ H (PostX X.K c.reg G H fun bs => (∀ b ∈ bs, b ≠ .u) ∧ bs.length = es.length ∧ Q bs)
section
variable {c : Ctx} {X : Cx} {a b e tg : Expr} {es : List Expr} {S : Sto} {D' : DEnds} {pos : Pos} {Q : List B → Prop}
theorem dx_nil (q : Q []) : DX c X [] S Q := fun G H σ E => WA.of pa_nil ⟨G, [], E.ext0, ⟨(by simp), rfl, q⟩, rfl⟩
theorem ext_back {r : Reg} {G H G1 H1 : Hp} (x : Ext r G H G1 H1) {p : Addr} (h : H1 p = none) : H p = none := by
  cases z : H p with
  | none => rfl
  | some o =>
    by_cases m : r.mem p
    · exact absurd h (Reg.trk x.reg m)
    · rw [x.same p o m z] at h; cases h
theorem NewB.back {K : PySem.W.Frag} {r : Reg} {G H G1 H1 G2 H2 : Hp} (x : Ext r G H G1 H1) : ∀ {bs : List B} {vs : List V}, NewB K G2 H2 H1 bs vs → NewB K G2 H2 H bs vs
  | [], vs, h => h
  | b :: bs, vs, h => by
    obtain ⟨v, ws, e, sn, n, ap⟩ := h
    refine ⟨v, ws, e, ?_, NewB.back x n, ap⟩
    cases b with
    | u => trivial
    | d y => exact sn
    | m ys =>
      obtain ⟨p, us, ev, hp, h1, g1, rs⟩ := sn
      exact ⟨p, us, ev, ext_back x hp, h1, g1, rs⟩
theorem NewB.at {K : PySem.W.Frag} {G2 H2 H1 : Hp} : ∀ {bs : List B} {vs : List V} {k : Nat} {ys : List D} {v : V}, NewB K G2 H2 H1 bs vs → bs[k]? = some (.m ys) → vs[k]? = some v → ∃ p, v = .ref p ∧ H1 p = none
  | [], vs, k, ys, v, _, h, _ => by simp at h
  | b :: bs, vs, 0, ys, v, n, h, hv => by
    obtain ⟨v', ws, rfl, sn, _⟩ := n
    simp at h hv
    subst h hv
    obtain ⟨p, us, ev, hp, _⟩ := sn
    exact ⟨p, ev, hp⟩
  | b :: bs, vs, k + 1, ys, v, n, h, hv => by
    obtain ⟨v', ws, rfl, sn, n2, _⟩ := n
    exact NewB.at n2 (by simpa using h) (by simpa using hv)
theorem dx_cons {b0 : Unit} (h : ∀ G H σ, EnvOk X.K c G H σ S → W X e σ H fun v H1 => ∃ G1 b, Ext c.reg G H G1 H1 ∧ SlotN X.K G1 H1 H v b ∧ b ≠ .u ∧ DX c X es S fun bs => Q (b :: bs)) (hs : starEach (e :: es) X.env = (false, eval e X.env) :: starEach es X.env := by rfl) : DX c X (e :: es) S Q := fun G H σ E =>
  WA.of (pa_cons pe_W pa_W hs) ((h G H σ E).mono fun v H1 ⟨G1, b, e1, sn, nu, hx⟩ => (hx G1 H1 σ (E.ext e1)).mono fun vs H2 ⟨G2, bs, e2, ⟨nus, hl, q⟩, n⟩ => by
    refine ⟨G2, b :: bs, e1.trans e2 E.j, ⟨fun x hx => ?_, by rw [List.length_cons, List.length_cons, hl], q⟩, v, vs, rfl, sn.mono E.j (fun p _ h0 m => Reg.trk E.j m h0) e2, n.back e1, fun xs eb k ys hk hv => ?_⟩
    · rcases List.mem_cons.mp hx with rfl | hx
      · exact nu
      · exact nus x hx
    · subst eb
      obtain ⟨p, us, ev, hp, h1, _⟩ := sn
      obtain ⟨p', ev', hp'⟩ := n.at hk hv
      rw [ev] at ev'; cases ev'
      rw [hp'] at h1; cases h1)
theorem dx_d (h : DE c X e S fun d => DX c X es S fun bs => Q (.d d :: bs)) (hs : starEach (e :: es) X.env = (false, eval e X.env) :: starEach es X.env := by rfl) : DX c X (e :: es) S Q :=
  dx_cons (b0 := ()) (fun G H σ E => (h G H σ E).mono fun v H1 ⟨G1, d, e1, q, rd⟩ => ⟨G1, .d d, e1, rd, (fun z => by cases z), q⟩) hs
theorem dx_m (h : DF c X e S fun xs => DX c X es S fun bs => Q (.m xs :: bs)) (hs : starEach (e :: es) X.env = (false, eval e X.env) :: starEach es X.env := by rfl) : DX c X (e :: es) S Q :=
  dx_cons (b0 := ()) (fun G H σ E => (h G H σ E).mono fun v H1 ⟨G1, p, vs, xs, e1, ev, hn, h1, g1, q, rs⟩ => ⟨G1, .m xs, e1, ⟨p, vs, ev, hn, h1, g1, rs⟩, (fun z => by cases z), q⟩) hs
theorem H0_none {G H : Hp} {σ : L2.St} (E : EnvOk X.K c G H σ S) (a : Addr) (h : H a = none) : c.H0 a = none := by
  cases q : c.H0 a with
  | none => rfl
  | some o =>
    by_cases m : c.reg.mem a
    · exact absurd h (Reg.trk E.j m)
    · rw [E.good.ext.same a o m q] at h; cases h
theorem sets_go {G H G1 H1 : Hp} {σ : L2.St} {is : List Nat} {bs : List B} {vs : List V} (E : EnvOk X.K c G H σ S) (e1 : Ext c.reg G H G1 H1) (nu : ∀ b ∈ bs, b ≠ .u) (n : NewB X.K G1 H1 H bs vs) (hl : bs.length = is.length) : EnvOk X.K c G1 H1 (setsV is vs σ) (setsB is bs S) :=
  sets_ok (fun a h => H0_none E a h) nu n hl (E.ext e1) fun k xs a hk ha => .inl (by
    obtain ⟨p, us, h1, h2, _⟩ := E.m hk
    rw [ha] at h1; cases h1
    rw [h2]; simp)
theorem ds_par2 {x y : Str} {px py pt : Pos} {kt k2 : Nat} {pt2 : Pos} (i j : Nat) (hc : X.calm = true) (hN : X.N.Nodup) (hi : X.N[i]? = some x) (hj : X.N[j]? = some y) (hij : i ≠ j) (hx : X.env.scope.names.lookup x = some .local) (hy : X.env.scope.names.lookup y = some .local)
    (h : DX c X [a, b] S fun bs => D'.nx (setsB [i, j] bs S)) (hw : swappedStores [.Tuple [.Name x px, .Name y py] kt pt] (.Tuple [a, b] k2 pt2) X.env = pure (some [x, y]) := by rfl)
    (hs : swapsWithSole [.Tuple [.Name x px, .Name y py] kt pt] (.Tuple [a, b] k2 pt2) pos.line X.env = pure false := by rfl) : DS c X (.Assign [.Tuple [.Name x px, .Name y py] kt pt] (.Tuple [a, b] k2 pt2) pos) S D' := fun G H σ E =>
  WS.of (ps_par hc hN hi hj hij hx hy pa_W hw hs) ((h G H σ E).mono fun vs H1 ⟨G1, bs, e1, ⟨nu, hl, q⟩, n⟩ => by
    have E1 := sets_go (is := [i, j]) E e1 nu n hl
    match bs, vs, hl, n, E1 with
    | [b1, b2], vs, _, n, E1 =>
      obtain ⟨v, ws, rfl, _, ⟨v2, ws2, rfl, _, rfl, _⟩, _⟩ := n
      exact ⟨v, v2, rfl, G1, _, E1, e1.up, q⟩)
theorem ds_par3 {x y z : Str} {d : Expr} {px py pz pt : Pos} {kt k2 : Nat} {pt2 : Pos} (i j l : Nat) (hc : X.calm = true) (hN : X.N.Nodup) (hi : X.N[i]? = some x) (hj : X.N[j]? = some y) (hl' : X.N[l]? = some z) (hij : i ≠ j) (hil : i ≠ l) (hjl : j ≠ l) (hx : X.env.scope.names.lookup x = some .local) (hy : X.env.scope.names.lookup y = some .local) (hz : X.env.scope.names.lookup z = some .local)
    (h : DX c X [a, b, d] S fun bs => D'.nx (setsB [i, j, l] bs S)) (hw : swappedStores [.Tuple [.Name x px, .Name y py, .Name z pz] kt pt] (.Tuple [a, b, d] k2 pt2) X.env = pure (some [x, y, z]) := by rfl)
    (hs : swapsWithSole [.Tuple [.Name x px, .Name y py, .Name z pz] kt pt] (.Tuple [a, b, d] k2 pt2) pos.line X.env = pure false := by rfl) : DS c X (.Assign [.Tuple [.Name x px, .Name y py, .Name z pz] kt pt] (.Tuple [a, b, d] k2 pt2) pos) S D' := fun G H σ E =>
  WS.of (ps_par3 hc hN hi hj hl' hij hil hjl hx hy hz pa_W hw hs) ((h G H σ E).mono fun vs H1 ⟨G1, bs, e1, ⟨nu, hl, q⟩, n⟩ => by
    have E1 := sets_go (is := [i, j, l]) E e1 nu n hl
    match bs, vs, hl, n, E1 with
    | [b1, b2, b3], vs, _, n, E1 =>
      obtain ⟨v, ws, rfl, _, ⟨v2, ws2, rfl, _, ⟨v3, ws3, rfl, _, rfl, _⟩, _⟩, _⟩ := n
      exact ⟨v, v2, v3, rfl, G1, _, E1, e1.up, q⟩)
theorem names_sets {K : PySem.W.Frag} {H : Hp} {Z : L2.St → Hp → Prop} : ∀ (is : List Nat) {vs : List V} {σ : L2.St}, vs.length = is.length → Z (setsV is vs σ) H → gNames is vs σ H Z
  | [], vs, σ, hl, h => by
    have e : vs = [] := List.length_eq_zero_iff.mp hl
    subst e; exact ⟨rfl, h⟩
  | i :: is, [], σ, hl, h => by cases hl
  | i :: is, v :: vs, σ, hl, h => ⟨v, vs, rfl, names_sets (K := K) is (Nat.succ.inj hl) h⟩
theorem ds_asgX {es' : List Expr} {is : List Nat} {kt k2 : Nat} {pt pt2 : Pos} (hc : X.calm = true) (ht : PGNs X es' is) (h : DX c X es S fun bs => D'.nx (setsB is bs S)) (hlen : es.length = is.length := by rfl) (h1000 : es.length ≤ 1000 := by decide)
    (hn : (assignEach es' X.env).length = is.length := by rfl) (hst : (assignEach es' X.env).findIdx? (·.1) = none := by rfl) (hs : swapsWithSole [.Tuple es' kt pt] (.Tuple es k2 pt2) pos.line X.env = pure false := by rfl) (hw : swappedStores [.Tuple es' kt pt] (.Tuple es k2 pt2) X.env = pure none := by rfl) (h1 : (assignEach [.Tuple es' kt pt] X.env).map (·.2) = [assign (.Tuple es' kt pt) X.env] := by rfl) :
    DS c X (.Assign [.Tuple es' kt pt] (.Tuple es k2 pt2) pos) S D' := fun G H σ E =>
  WS.of (ps_asg (pe_tup pa_W) (pg_tup hc ht.pg hn hst) hs hw h1) ((h G H σ E).mono fun vs H1 ⟨G1, bs, e1, ⟨nu, hl, q⟩, n⟩ => by
    have E1 := sets_go (is := is) E e1 nu n (hl.trans hlen)
    refine ⟨few (n.len.trans hl) h1000, fun p hp => ⟨p, vs, rfl, SqT.of upd_same, (n.len.trans hl).trans hlen, names_sets (K := X.K) is ((n.len.trans hl).trans hlen) ?_⟩⟩
    have x1 := Ext.new' (o := .tup vs) e1.sub e1.reg hp
    exact ⟨G1, _, E1.ext x1, e1.up, q⟩)
end
end DL
set_option Elab.async false
set_option linter.all false
set_option maxRecDepth 100000
set_option maxHeartbeats 1000000
namespace DL
open PySem PySem.Spec L2
section
variable (X : Cx)
def WK (kws : List Keyword) : TA := fun σ H Q => ∀ (pos : Pos) (pins : List (Addr × Obj)) (s : Shared), Inv X pins σ H s → wpAny (model X.prog X.w) X.A (evalAll ((backToKw pos (keywordEach kws X.env)).map (·.2))) (AP X pins σ Q) X.xe s
end
section
variable {c : Ctx} {X : Cx} {a b e : Expr} {es : List Expr} {S : Sto} {Q Q' : D → Prop} {pos : Pos} {kws : List Keyword}
theorem pk_W : PK X kws (WK X kws) := ⟨fun pos pins s _ _ _ I h => h pos pins s I⟩
theorem WK.of {t : TA} {σ : L2.St} {H : Hp} {Q : List V → Hp → Prop} (h : PK X kws t) (hw : t σ H Q) : WK X kws σ H Q := fun pos pins s I => h.run pos pins s σ H Q I hw
theorem WK.mono {σ : L2.St} {H : Hp} {Q Q' : List V → Hp → Prop} (h : WK X kws σ H Q) (q : ∀ v H', Q v H' → Q' v H') : WK X kws σ H Q' := fun pos pins s I => thn (h pos pins s I) fun _ _ ⟨v, H', I', r, z⟩ => ⟨v, H', I', r, q v H' z⟩
def DK (c : Ctx) (X : Cx) (kws : List Keyword) (S : Sto) (Q : List D → Prop) : Prop := ∀ G H σ, EnvOk X.K c G H σ S → WK X kws σ H (PostA X.K c.reg G H fun ds => ds.length = kws.length ∧ Q ds)
theorem dk_nil {Q : List D → Prop} (q : Q []) : DK c X [] S Q := fun G H σ E => WK.of pk_nil ⟨G, [], E.ext0, ⟨rfl, q⟩, reps_nil⟩
theorem dk_cons {Q : List D → Prop} {nm : Option Str} {kpos : Pos} (h : DE c X e S fun d => DK c X kws S fun ds => Q (d :: ds)) : DK c X (⟨nm, e, kpos⟩ :: kws) S Q :=
  fun G H σ E => WK.of (pk_cons pe_W pk_W) ((h G H σ E).mono fun vx H1 ⟨G1, x, e1, hx, rx⟩ => (hx G1 H1 σ (E.ext e1)).mono fun vs H2 ⟨G2, ds, e2, hy, ry⟩ =>
    ⟨G2, x :: ds, e1.trans e2 E.j, ⟨by rw [List.length_cons, List.length_cons, hy.1], hy.2⟩, reps_cons (rx.mono e2.up) ry⟩)
def KwAll (K : PySem.W.Frag) (fd : FuncData) (ps : List Str) : Prop := ∀ (s : Shared) (ws : List Value), ws.length = ps.length → BindsTo s fd ⟨[], ps.zip ws⟩ (ps.zip ws)
theorem kwall_kbn {K : PySem.W.Frag} {fd : FuncData} {ps : List Str} (h : KwAll K fd ps) : KBn K fd ps 0 ps (fun us ws => us ++ ws) (fun vs zs => vs ++ zs) where
  to := fun s us ws _ h0 h1 => by
    have e : us = [] := List.length_eq_zero_iff.mp h0
    subst e
    exact h s ws h1
  rel := fun r r' => r.append r'
theorem de_callK0 {k : Nat} {ps : List Str} {sp : SpD} {x : Str} {p : Pos} (C : Callee X.prog X.w X.K X.mg X.base k x ps sp) (kw : KwAll X.K C.fd ps) (hr : Room k X.A) (hg : Gl X x)
    (h : DK c X kws S fun ds => sp c.reg ds Q) (hlen : kws.length = ps.length := by rfl) (hdb : (x == ("__debug__" : Str)) = false := by decide)
    (hall : (backToKw pos (keywordEach kws X.env)).all (·.1.isSome) = true := by rfl) (hks : (backToKw pos (keywordEach kws X.env)).filterMap (·.1) = ps := by rfl)
    (hpl : ((backTo pos (starEach [] X.env)).any (·.1) || (backToKw pos (keywordEach kws X.env)).any (·.1.isNone)) = false := by rfl) :
    DE c X (.Call (.Name x p) [] kws pos) S Q := fun G H σ E => by
  refine W.of (t := fun σ H Q => WK X kws σ H fun zs H2 => zs.length = ps.length ∧ lift X.K sp zs H2 Q fun _ _ _ => False) ⟨fun pins s σ H Q I h => ?_⟩ ?_
  · refine wpAny_Call_Name_kw (ld_glob I hg C.at_ ?_ hdb)
    refine PySem.W.callWith_KW0 (h₀ := X.base) I.ok.mod.kin C.kp hall (thn (h pos pins s I) fun ws s2 ⟨zs, H2, I2, rz, l2, q2⟩ => ⟨I2.kIn, ?_⟩) hpl
    rw [hks]
    exact run_fnN (us := []) (vs := []) C.ok hr (kwall_kbn kw) pass0 I2 .nil rz rfl l2 q2
  · refine (h G H σ E).mono fun vs H1 ⟨G1, ds, e1, ⟨l, q⟩, rs⟩ => ⟨rs.length.trans (l.trans hlen), ?_⟩
    have E1 := E.ext e1
    exact ⟨c.reg, G1, ds, Q, E1.start, rs, q, fun G' H' v z _ => PostD.trans E.j e1 z⟩
theorem putF_len (f : Str) (v : V) : ∀ fs : List (Str × V), (putF f v fs).length ≤ fs.length + 1
  | [] => Nat.le_refl _
  | (g, x) :: r => by
    unfold putF
    split
    · exact Nat.le_succ _
    · exact Nat.succ_le_succ (putF_len f v r)
def spInit (C : Addr) (ns : List Str) : Sp := fun vs H Q _ => ∃ (x dx : Addr) (ws : List V), vs = .ref x :: ws ∧ ws.length = ns.length ∧ H x = some (.ins C dx []) ∧ Q .non (upd H x (.ins C dx (ns.zip ws)))
theorem de_make {k : Nat} {C f : Addr} {fd : FuncData} {ps ns : List Str} {x : Str} {p : Pos} (M : Mk X.K C f) (F : FnOk X.prog X.w X.K X.mg X.base CX0 k f fd ps (spInit C ns)) (hm : X.mg x = some (.ref C)) (hb : Binds X.K fd ps []) (hr : Room (k + 1) X.A) (hg : Gl X x)
    (h : DA c X (e :: es) S fun ds => ds.length = ns.length ∧ Q (.obj C ns ds)) (hdb : (x == ("__debug__" : Str)) = false := by decide) (he : starEach (e :: es) X.env = (false, eval e X.env) :: starEach es X.env := by rfl) (hpl : (backTo pos (starEach es X.env)).any (·.1) = false := by rfl) :
    DE c X (.Call (.Name x p) (e :: es) [] pos) S Q := fun G H σ E =>
  W.of (pe_make M F hr hg hm hb .nil pass0 pa_W hdb he hpl) ((h G H σ E).mono fun vs H1 ⟨G1, ds, e1, ⟨_, hl, q⟩, rs⟩ o dx hx hdx ne => by
    rw [List.append_nil]
    refine ⟨o, dx, vs, rfl, rs.length.trans hl, upd_same, rfl, ?_⟩
    rw [upd_upd]
    have x1 := Ext.new (o := .own o) e1.sub e1.reg hdx
    have ho : upd H1 dx (.own o) o = none := by rw [upd_ne (Ne.symm ne)]; exact hx
    have x2 := Ext.new (o := .ins C dx (ns.zip vs)) x1.sub x1.reg ho
    have x12 := x1.trans x2 e1.reg
    exact PostD.trans E.j (e1.trans x12 E.j) ⟨_, .obj C ns ds, Ext.refl x12.sub x12.reg, q, rep_obj.mpr ⟨o, dx, vs, rfl, upd_same, hl.symm, rs.mono x12.up⟩⟩)
end
end DL
set_option Elab.async false
set_option linter.all false
set_option maxRecDepth 100000
set_option maxHeartbeats 1000000
namespace DL
open PySem PySem.Spec L2
structure NEnds (γ : Type) where
  nx : Sto → γ → Prop
  rt : D → Prop
def nEnds {γ : Type} (Z : γ → Hp → Hp → Prop) (K : PySem.W.Frag) (c : Ctx) (G : Hp) (D : NEnds γ) : Ends where
  nx := fun σ' H' => ∃ G' S' g', EnvOk K c G' H' σ' S' ∧ Z g' G' H' ∧ Same G G' ∧ D.nx S' g'
  rt := fun v H' => ∃ G' d, Good c G' H' ∧ Same G G' ∧ D.rt d ∧ Rep K G' d v
  bk := fun _ _ => False
  ct := fun _ _ => False
section
variable {γ : Type} (Z : γ → Hp → Hp → Prop) (c : Ctx) (X : Cx)
def NT (e : Expr) (S : Sto) (g : γ) (Q : Bool → Prop) : Prop := ∀ G H σ, EnvOk X.K c G H σ S → Z g G H → WT X e σ H (PostB c.reg G H Q)
def NS (st : Stmt) (S : Sto) (g : γ) (D : NEnds γ) : Prop := ∀ G H σ, EnvOk X.K c G H σ S → Z g G H → WS X st (nEnds Z X.K c G D) σ H
def NSs (sts : List Stmt) (S : Sto) (g : γ) (D : NEnds γ) : Prop := ∀ G H σ, EnvOk X.K c G H σ S → Z g G H → WSs X sts (nEnds Z X.K c G D) σ H
def StayZ : Prop := ∀ g G H G' H' σ S, EnvOk X.K c G H σ S → Ext c.reg G H G' H' → Z g G H → Z g G' H'
end
section
variable {γ : Type} {Z : γ → Hp → Hp → Prop} {c : Ctx} {X : Cx} {a b e tg : Expr} {es : List Expr} {st : Stmt} {sts : List Stmt} {S : Sto} {g : γ} {D' : NEnds γ} {pos : Pos}
theorem nEnds_ups {K : PySem.W.Frag} {G G1 : Hp} {σ : L2.St} {H : Hp} {st : List Stmt} (up : Same G G1) (h : WSs X st (nEnds Z K c G1 D') σ H) : WSs X st (nEnds Z K c G D') σ H :=
  h.mono (fun _ _ ⟨G', S', g', E', z, u, q⟩ => ⟨G', S', g', E', z, up.trans u, q⟩) (fun _ _ ⟨G', S', E', u, z⟩ => ⟨G', S', E', up.trans u, z⟩) (fun _ _ z => z) (fun _ _ z => z)
theorem NSs.go (h : NSs Z c X sts S g D') {G H : Hp} {σ : L2.St} (E : EnvOk X.K c G H σ S) (z : Z g G H) : WSs X sts (nEnds Z X.K c G D') σ H := h G H σ E z
theorem ns_nil (h : D'.nx S g) : NSs Z c X [] S g D' := fun G H σ E z => WSs.of pss_nil ⟨G, S, g, E, z, Same.refl G, h⟩
theorem ns_one (h : NS Z c X st S g D') : NSs Z c X [st] S g D' := fun G H σ E z => WSs.of (pss_one ps_W) (h G H σ E z)
theorem ns_cons (h : NS Z c X st S g { D' with nx := fun S' g' => NSs Z c X sts S' g' D' }) : NSs Z c X (st :: sts) S g D' := fun G H σ E z =>
  WSs.of (pss_cons ps_W pss_W) ((h G H σ E z).mono (fun σ' H' ⟨G', S', g', E', z', up, q⟩ => nEnds_ups up (q G' H' σ' E' z')) (fun _ _ z => z) (fun _ _ z => z) (fun _ _ z => z))
theorem nt_of {Q : Bool → Prop} (h : DT c X e S Q) : NT Z c X e S g Q := fun G H σ E _ => h G H σ E
theorem ns_if (hZ : StayZ Z c X) {t : Expr} {as bs : List Stmt} (h : NT Z c X t S g fun k => (k = true → NSs Z c X as S g D') ∧ (k = false → NSs Z c X bs S g D')) : NS Z c X (.If t as bs pos) S g D' := fun G H σ E z =>
  WS.of (ps_if pt_W pss_W pss_W) ((h G H σ E z).mono fun k H1 ⟨G1, e1, q1, q2⟩ => by
    have z1 := hZ g G H G1 H1 σ S E e1 z
    cases k with
    | true => exact iteT (nEnds_ups e1.up (q1 rfl G1 H1 σ (E.ext e1) z1))
    | false => exact iteF (nEnds_ups e1.up (q2 rfl G1 H1 σ (E.ext e1) z1)))
theorem ns_for (hZ : StayZ Z c X) {iter : Expr} {body : List Stmt} {T : Tgt} (hp : PassesOwn (model X.prog X.w) X.A X.env X.xe) (hc : X.calm = true) (ht : PGT X tg T)
    (h : DI c X tg iter S fun xs => ∃ I : Nat → Sto → γ → Prop, I 0 S g ∧ (∀ i x S' g', xs[i]? = some x → I i S' g' → T.put x S' fun S2 => NSs Z c X body S2 g' { D' with nx := I (i + 1) }) ∧ ∀ S' g', I xs.length S' g' → D'.nx S' g')
    (hs : ∀ x, foldedSetIterable iter X.env x = pure x := by intro _; rfl) : NS Z c X (.For tg iter body [] pos) S g D' := fun G H σ E z =>
  WS.of (ps_for hp hc pi_W ht.pg pss_W hs) (by
    refine (h G H σ E).mono fun J H1 ⟨G1, xs, GG, Y, e1, ⟨I, i0, step, fin⟩, wk, gg, yy⟩ => ?_
    have z1 := hZ g G H G1 H1 σ S E e1 z
    have key := for_it (tb := WSs X body) (D := nEnds Z X.K c G D') (g := T.g X.K) (σ := σ) (H := H1) wk (fun i σ' H' => ∃ G' S' g', EnvOk X.K c G' H' σ' S' ∧ Z g' G' H' ∧ Same G1 G' ∧ I i S' g') ⟨G1, S, g, E.ext e1, z1, Same.refl _, i0⟩
      (fun i σ' H' _ ⟨G', S', g', E', _, u, _⟩ => gg G' H' u E'.sub) (fun i x σ' H' H3 hi ⟨G', S', g', E', z', u, q'⟩ y => by
        obtain ⟨G3, d, hd, e3, rd⟩ := yy i G' H' x H3 u E'.sub E'.j y
        have E3 := E'.ext e3
        have z3 := hZ g' G' H' G3 H3 σ' S' E' e3 z'
        refine tgt_go E3 rd (step i d S' g' hd q') fun σ2 S2 E2 q _ _ => ?_
        refine (q G3 H3 σ2 E2 z3).mono (fun _ _ ⟨G4, S4, g4, E4, z4, u4, q4⟩ => ⟨G4, S4, g4, E4, z4, (u.trans e3.up).trans u4, q4⟩) (fun _ _ ⟨G4, d4, g4, u4, z4, r4⟩ => ⟨G4, d4, g4, ((e1.up.trans u).trans e3.up).trans u4, z4, r4⟩)
          (fun _ _ z => z.elim) (fun _ _ z => z.elim))
      (fun σ' H' ⟨G', S', g', E', z', u, q⟩ => ⟨G', S', g', E', z', e1.up.trans u, fin S' g' q⟩)
    exact key)
end
structure NearZ (c : Ctx) (qs : List Addr) (ns : List (List Int)) (G H : Hp) : Prop where
  len : ns.length = qs.length
  nd : qs.Nodup
  at_ : ∀ (i : Nat) (q : Addr), qs[i]? = some q → H q = some (.lst ((ns.getD i []).map V.int)) ∧ G q = none ∧ c.H0 q = none
section
variable {c : Ctx} {X : Cx} {a b e tg : Expr} {es : List Expr} {S : Sto} {qs : List Addr} {ns : List (List Int)} {D' : NEnds (List (List Int))} {pos : Pos}
theorem near_stay : StayZ (NearZ c qs) c X := fun ns G H G' H' σ S E e z => ⟨z.len, z.nd, fun i q hq => by
  obtain ⟨h1, h2, h3⟩ := z.at_ i q hq
  have nm : ¬ c.reg.mem q := fun m => (E.good.rg q m).2 h3
  exact ⟨e.same q _ nm h1, by rw [e.old q (by rw [h1]; simp)]; exact h2, h3⟩⟩
theorem nt_notinQ {Q : Bool → Prop} (hm : behindInMarks .NotIn b = false) (h : DE c X a S fun x => DE c X b S fun y => ∃ (k : Int) (q : Addr) (i : Nat), x = .int k ∧ y = .adr q ∧ qs[i]? = some q ∧ Q (!decide (k ∈ ns.getD i []))) :
    NT (NearZ c qs) c X (.Compare a [.NotIn] [b] pos) S ns Q := fun G H σ E z =>
  WT.of (pt_cmpR op_notIn_seq pe_W pe_W hm) ((h G H σ E).mono fun v H1 ⟨G1, x, e1, hx, rx⟩ => (hx G1 H1 σ (E.ext e1)).mono fun w H2 ⟨G2, y, e2, ⟨k, q, i, ex, ey, hq, q'⟩, ry⟩ => by
    subst ex ey
    have z2 := near_stay ns G1 H1 G2 H2 σ S (E.ext e1) e2 (near_stay (X := X) ns G H G1 H1 σ S E e1 z)
    obtain ⟨h1, _, _⟩ := z2.at_ i q hq
    refine ⟨q, _, rep_adr.mp ry, .inl (SqL.of h1), by rw [rep_int.mp rx]; rfl, flat_int _, ?_⟩
    rw [rep_int.mp rx, inV_int]
    exact ⟨_, rfl, G2, e1.trans e2 E.j, q'⟩)
theorem EnvOk.upd_out {K : PySem.W.Frag} {G H : Hp} {σ : L2.St} {q : Addr} {o : HO} (E : EnvOk K c G H σ S) (hg : G q = none) (h0 : c.H0 q = none) (hno : ∀ (j : Nat) xs, S[j]? ≠ some (.m xs)) : EnvOk K c G (upd H q o) σ S where
  j0 := E.j0
  good := by
    have nm : ¬ c.reg.mem q := fun m => (E.good.rg q m).2 h0
    refine ⟨⟨E.good.ext.up, fun b u h => ?_, fun b u m h => ?_, E.good.ext.old, Reg.keep E.j fun b m => upd_ne fun z => nm (z ▸ m)⟩, E.good.rg⟩
    · rw [upd_ne (ne_of_none h hg)]; exact E.sub b u h
    · rw [upd_ne (ne_of_none h h0)]; exact E.good.ext.same b u m h
  len := E.len
  slot := fun i b h => by
    obtain ⟨p, h1, h2⟩ := E.slot i b h
    refine ⟨p, h1, ?_⟩
    cases b with
    | u => trivial
    | d x => exact h2
    | m xs => exact absurd h (hno i xs)
  own := E.own
  inj := E.inj
theorem ns_appendQ {o : Expr} {apos cpos : Pos} (h : DE c X o S fun y => ∃ (q : Addr) (i : Nat), y = .adr q ∧ qs[i]? = some q ∧ DE c X e S fun d => ∃ k : Int, d = .int k ∧ (ns.getD i []).length ≤ 1000 ∧ D'.nx S (ns.set i (ns.getD i [] ++ [k])))
    (hno : ∀ (j : Nat) xs, S[j]? ≠ some (.m xs))
    (hbase : attributeBase o "append" X.env (eval o X.env) = eval o X.env := by rfl)
    (hfew : ((backTo cpos (starEach (e :: []) X.env)).all (fun x => !x.1) && (backToKw cpos (keywordEach [] X.env)).all (fun x => x.1.isSome) && decide ((e :: []).length + ([] : List Keyword).length + (if ([] : List Keyword).isEmpty then 0 else 1) < 30)) = true := by rfl)
    (hline : (apos.endLine == cpos.line) = true := by rfl) (hs : starEach (e :: []) X.env = (false, eval e X.env) :: starEach [] X.env := by rfl) (hplain : (backTo cpos (starEach [] X.env)).any (·.1) = false := by rfl)
    (hsw : swapsWith (.Call (.Attribute o "append" apos) [e] [] cpos) none pos.line X.env = pure false := by rfl) : NS (NearZ c qs) c X (.Expr (.Call (.Attribute o "append" apos) [e] [] cpos) pos) S ns D' := fun G H σ E z => by
  refine WS.of (ps_expr (pe_bm PySem.F.plainAttrs_list PySem.F.slot_list_append PySem.F.type_list_append mt_append pe_W (pa_cons pe_W pa_nil hs) hbase hfew hline hs hplain) hsw) ?_
  refine (h G H σ E).mono fun v H1 ⟨G1, y, e1, ⟨q, i, ey, hq, hy⟩, ry⟩ => ?_
  subst ey
  obtain rfl := rep_adr.mp ry
  have z1 := near_stay ns G H G1 H1 σ S E e1 z
  obtain ⟨h1, _, h0⟩ := z1.at_ i q hq
  refine ⟨.inl ⟨rfl, _, SqL.of h1⟩, ?_⟩
  refine (hy G1 H1 σ (E.ext e1)).mono fun w H2 ⟨G2, d, e2, ⟨k, ed, hl, nx⟩, rd⟩ => ?_
  subst ed
  obtain rfl := rep_int.mp rd
  have z2 := near_stay ns G1 H1 G2 H2 σ S (E.ext e1) e2 z1
  obtain ⟨g1, g2, _⟩ := z2.at_ i q hq
  have hi : i < ns.length := by rw [z.len]; exact (List.getElem?_eq_some_iff.mp hq).1
  refine ⟨q, _, .int k, rfl, rfl, g1, by rw [List.length_map, sizeLine_eq]; omega, G2, S, ns.set i (ns.getD i [] ++ [k]), ((E.ext e1).ext e2).upd_out g2 h0 hno, ⟨by rw [List.length_set]; exact z.len, z.nd, fun j q' hj => ?_⟩, (e1.trans e2 E.j).up, nx⟩
  obtain ⟨k1, k2, k3⟩ := z2.at_ j q' hj
  by_cases ej : j = i
  · subst ej
    rw [hq] at hj; cases hj
    refine ⟨?_, k2, k3⟩
    rw [upd_same, List.getD_eq_getElem?_getD (l := ns.set j _), List.getElem?_set_self hi]
    show some (HO.lst ((ns.getD j []).map V.int ++ [V.int k])) = some (HO.lst ((ns.getD j [] ++ [k]).map V.int))
    rw [List.map_append]; rfl
  · have nq : q' ≠ q := fun e => ej ((List.getElem?_inj (List.getElem?_eq_some_iff.mp hj).1 z.nd).mp (by rw [hj, hq, e]))
    refine ⟨?_, k2, k3⟩
    rw [upd_ne nq, k1, List.getD_eq_getElem?_getD, List.getD_eq_getElem?_getD, List.getElem?_set_ne (fun w => ej w.symm)]
theorem near_freeze {G H : Hp} (g : Good c G H) (z : NearZ c qs ns G H) : ∃ G', Good c G' H ∧ Same G G' ∧ ∀ (i : Nat) (q : Addr), qs[i]? = some q → G' q = some (.lst ((ns.getD i []).map V.int)) := by
  classical
  have zq : ∀ q ∈ qs, G q = none ∧ c.H0 q = none ∧ H q ≠ none := fun q hq => by
    obtain ⟨i, hi, e⟩ := List.getElem_of_mem hq
    obtain ⟨h1, h2, h3⟩ := z.at_ i q (by rw [← e]; exact List.getElem?_eq_getElem hi)
    exact ⟨h2, h3, by rw [h1]; simp⟩
  refine ⟨fun b => if b ∈ qs then H b else G b, ⟨⟨fun b o h => ?_, fun b o h => ?_, g.ext.same, fun b h => ?_, g.ext.reg⟩, fun b m => ⟨?_, (g.rg b m).2⟩⟩, fun b o h => ?_, fun i q hq => ?_⟩
  · have hn : b ∉ qs := fun hb => absurd (zq b hb).1 (by rw [g.ext.up b o h]; simp)
    show (if b ∈ qs then _ else _) = _
    rw [if_neg hn]; exact g.ext.up b o h
  · have h : (if b ∈ qs then H b else G b) = some o := h
    split at h
    · exact h
    · exact g.sub b o h
  · have hn : b ∉ qs := fun hb => h (zq b hb).2.1
    show (if b ∈ qs then _ else _) = _
    rw [if_neg hn]; exact g.ext.old b h
  · have hn : b ∉ qs := fun hb => (g.rg b m).2 (zq b hb).2.1
    show (if b ∈ qs then _ else _) = _
    rw [if_neg hn]; exact (g.rg b m).1
  · have hn : b ∉ qs := fun hb => by rw [(zq b hb).1] at h; cases h
    show (if b ∈ qs then _ else _) = _
    rw [if_neg hn]; exact h
  · show (if q ∈ qs then _ else _) = _
    rw [if_pos (List.mem_of_getElem? hq)]
    exact (z.at_ i q hq).1
theorem near_reps {K : PySem.W.Frag} {G : Hp} : ∀ {qs : List Addr} {ns : List (List Int)}, ns.length = qs.length → (∀ (i : Nat) (q : Addr), qs[i]? = some q → G q = some (.lst ((ns.getD i []).map V.int))) → Reps K G (ns.map dInts) (qs.map V.ref)
  | [], [], _, _ => reps_nil
  | q :: qs, n :: ns, hl, h => by
    refine reps_cons (rep_lst.mpr ⟨q, _, rfl, .inl (h 0 q rfl), reps_ints n⟩) (near_reps (Nat.succ.inj hl) fun i q' hq => ?_)
    have := h (i + 1) q' (by rw [List.getElem?_cons_succ]; exact hq)
    rw [List.getD_cons_succ] at this; exact this
def NoM (S : Sto) : Prop := ∀ (j : Nat) xs, S[j]? ≠ some (.m xs)
theorem NoM.set_d (h : NoM S) (i : Nat) (x : D) : NoM (S.set i (.d x)) := fun j xs e => by
  rcases getElem?_set_cases e with ⟨_, z⟩ | ⟨_, z⟩
  · cases z
  · exact h j xs z
theorem ns_retQ {x : Str} {p : Pos} (i : Nat) (hN : X.N[i]? = some x) (hv : Vis X.env.scope x) (hS : S[i]? = some (.d (.lst (qs.map D.adr)))) (q : D'.rt (.lst (ns.map dInts))) (hd : (x == ("__debug__" : Str)) = false := by decide) (hcd : (x == ("__classdict__" : Str)) = false := by decide) :
    NS (NearZ c qs) c X (.Return (some (.Name x p)) pos) S ns D' := fun G H σ E z => by
  refine WS.of (ps_ret (pe_var hN hv hd hcd)) ?_
  obtain ⟨v, ev, rv⟩ := E.d hS
  refine ⟨v, ev, ?_⟩
  obtain ⟨a, vs, rfl, sq, rs⟩ := rep_lst.mp rv
  have evs : vs = qs.map V.ref := reps_mapE (f := D.adr) (g := V.ref) (fun x v h => rep_adr.mp h) rs
  subst evs
  obtain ⟨G', g', up, hG⟩ := near_freeze E.good z
  exact ⟨G', _, g', up, q, rep_lst.mpr ⟨a, _, rfl, rd_mono up sq, near_reps z.len hG⟩⟩
theorem ds_setQ {iter : Expr} {scope : Scope} {y x : Str} {py p0 px : Pos} {spos : Pos} (i j : Nat) (own : List (Str × Nat)) (hc : X.calm = true) (hN : X.N.Nodup) (hy : X.N[i]? = some y) (hyl : X.env.scope.names.lookup y = some .local)
    (hsw : swapsWith (.ListComp (.List [] p0) [⟨.Name x px, iter, [], 0⟩] scope pos) (some (.Name y py)) spos.line X.env = pure true) (ok : BlkOk X.N X.env.scope scope own)
    (ht : ∀ s H C cl fp, PGT (blkX X scope s H C cl fp) (.Name x px) (.n j)) (hT : j ∈ own.map (·.2)) {D2 : Ends} {G H : Hp} {σ : L2.St} (E : EnvOk X.K c G H σ S) {n : Nat}
    (h : DI c X (.Name x px) iter S fun xs => xs.length = n ∧ n ≤ 100000)
    (fin : ∀ (qs : List Addr) G' H' σ', EnvOk X.K c G' H' σ' (S.set i (.d (.lst (qs.map D.adr)))) → NearZ c qs (List.replicate n []) G' H' → Same G G' → D2.nx σ' H')
    (hs : ∀ x, foldedSetIterable iter X.env x = pure x := by intro _; rfl) : WS X (.Assign [.Name y py] (.ListComp (.List [] p0) [⟨.Name x px, iter, [], 0⟩] scope pos) spos) D2 σ H :=
  WS.of (ps_setLc (g := (Tgt.n j).g X.K) (tt := tYes) (te := tLst tNil) hc hN hy hyl hsw pi_W ok (fun s H C cl fp => (ht s H C cl fp).pg) (fun s H C cl fp => pts_nil) (fun s H C cl fp => pe_lst pa_nil) hs) (by
    refine (h G H σ E).mono fun J H1 ⟨G1, xs, GG, Y, e1, ⟨hl, hn⟩, wk, gg, yy⟩ => ?_
    subst hl
    intro Dl hD
    have E1 := (E.ext e1).wipe (own.map (·.2))
    have nm : ¬ c.reg.mem Dl := fun m => Reg.trk e1.reg m hD
    refine lc_it wk (Qd := fun H' => D2.nx (σ.set i (some (.ref Dl))) H') (fun i' H' => ∃ (G' : Hp) (qs : List Addr), Ext c.reg G1 H1 G' H' ∧ G' Dl = none ∧ H' Dl = some (.lst (qs.map V.ref)) ∧ qs.length = i' ∧ qs.Nodup ∧ ∀ q ∈ qs, H' q = some (.lst []) ∧ G' q = none ∧ H1 q = none ∧ q ≠ Dl) ?_ ?_ ?_ ?_
    · exact ⟨G1, [], Ext.new' e1.sub e1.reg hD, e1.sub.free hD, upd_same, rfl, List.nodup_nil, fun q hq => nomatch hq⟩
    · rintro i' H' _ ⟨G', qs, x, _⟩
      exact gg G' H' x.up x.sub
    · rintro i' v H' H2 hi ⟨G', qs, x1, gn, hd, hq, nd, hqs⟩ y'
      obtain ⟨G3, d, hd', e3, rd⟩ := yy i' G' H' v H2 x1.up x1.sub x1.reg y'
      have x3 := x1.trans e3 e1.reg
      have E3 := E1.ext x3
      refine tgt_go (T := .n j) (Q := fun _ => True) E3 rd trivial fun σ2 S2 E2 _ l e => ⟨?_, ?_⟩
      · have w2 : wipe (wipe σ (own.map (·.2))) (own.map (·.2)) = wipe σ (own.map (·.2)) := by
          refine wipe_eq (wipe_length _ _) fun j hj => ?_
          have aux : ∀ vs : List Nat, j ∉ vs → (L2.wipe σ vs)[j]? = σ[j]? := fun vs => by
            induction vs with
            | nil => intro _; rfl
            | cons v vs ih =>
              intro h
              unfold L2.wipe
              rw [List.getElem?_set_ne (fun z => h (by rw [z]; exact List.mem_cons_self)), ih fun z => h (List.mem_cons_of_mem _ z)]
          exact aux _ hj
        rw [← w2]
        exact wipe_eq l fun j' hj => e j' fun z => hj (by rw [List.mem_singleton.mp z]; exact hT)
      · have hd3 : H2 Dl = some (.lst (qs.map V.ref)) := e3.same _ _ nm hd
        have gn3 : G3 Dl = none := by rw [e3.old Dl (by rw [hd]; simp)]; exact gn
        simp only [tYes, if_true]
        refine ⟨by rw [sizeLine_eq]; show 0 ≤ _; omega, fun p hp => ?_⟩
        have npD : Dl ≠ p := fun z => by rw [← z, hd3] at hp; cases hp
        have x4 := x3.trans (Ext.new' (o := .lst []) x3.sub x3.reg hp) e1.reg
        refine ⟨qs.map V.ref, by rw [upd_ne npD]; exact hd3, by rw [List.length_map, sizeLine_eq, hq]; omega, G3, qs ++ [p], ⟨x4.up, fun b o z => ?_, fun b o m z => ?_, x4.old, ?_⟩, gn3, by rw [upd_same, List.map_append]; rfl, by rw [List.length_append, hq]; rfl, ?_, ?_⟩
        · rw [upd_ne (fun w => by subst w; rw [gn3] at z; cases z)]; exact x4.sub b o z
        · rw [upd_ne (ne_of_none z hD)]; exact x4.same b o m z
        · exact Reg.keep x4.reg fun b m => upd_ne fun w => nm (w ▸ m)
        · rw [List.nodup_append]
          refine ⟨nd, by simp, fun q1 h1 q2 h2 e' => ?_⟩
          rw [List.mem_singleton] at h2
          subst h2; subst e'
          have := e3.same _ _ (fun m => Reg.trk e1.reg m (hqs q1 h1).2.2.1) (hqs q1 h1).1
          rw [hp] at this; cases this
        · intro q1 h1
          have n1 : H1 p = none := ext_back x3 hp
          rcases List.mem_append.mp h1 with h1 | h1
          · obtain ⟨a1, a2, a3, a4⟩ := hqs q1 h1
            have nm1 : ¬ c.reg.mem q1 := fun m => Reg.trk e1.reg m a3
            have b1 : H2 q1 = some (.lst []) := e3.same _ _ nm1 a1
            have ne1 : q1 ≠ p := fun z => by rw [z, hp] at b1; cases b1
            exact ⟨by rw [upd_ne a4, upd_ne ne1]; exact b1, by rw [e3.old q1 (by rw [a1]; simp)]; exact a2, a3, a4⟩
          · rw [List.mem_singleton] at h1; subst h1
            exact ⟨by rw [upd_ne (Ne.symm npD), upd_same], x3.sub.free hp, n1, Ne.symm npD⟩
    · rintro H' ⟨G', qs, x1, gn, hd, hq, nd, hqs⟩
      have up : Same G' (upd G' Dl (.lst (qs.map V.ref))) := fun b o z => by rw [upd_ne (ne_of_none z gn)]; exact z
      have xf : Ext c.reg G1 H1 (upd G' Dl (.lst (qs.map V.ref))) H' := ⟨x1.up.trans up, fun b o z => by
        by_cases hb : b = Dl
        · subst hb; rw [upd_same] at z; cases z; exact hd
        · rw [upd_ne hb] at z; exact x1.sub b o z, x1.same, fun b hb => by
        rw [upd_ne (fun w => hb (by rw [w]; exact hD))]; exact x1.old b hb, x1.reg⟩
      have Ef := (E.ext (e1.trans xf E.j)).set_d (i := i) (x := .lst (qs.map D.adr)) (v := .ref Dl) (rep_lst.mpr ⟨Dl, qs.map V.ref, rfl, .inl upd_same, reps_map (fun _ => rep_adr.mpr rfl) qs⟩)
      refine fin qs _ H' _ Ef ⟨by rw [List.length_replicate, hq], nd, fun k q hk => ?_⟩ (e1.trans xf E.j).up
      have hm := List.mem_of_getElem? hk
      have hlt : k < qs.length := (List.getElem?_eq_some_iff.mp hk).1
      obtain ⟨a1, a2, a3, a4⟩ := hqs q hm
      refine ⟨?_, by rw [upd_ne a4]; exact a2, H0_none E q (ext_back e1 a3)⟩
      rw [List.getD_eq_getElem?_getD, List.getElem?_replicate, if_pos (by omega)]
      exact a1)
end
end DL
set_option Elab.async false
set_option linter.all false
set_option maxRecDepth 100000
set_option maxHeartbeats 1000000
namespace DL
open PySem PySem.Spec L2
section
variable {c : Ctx} {X : Cx} {a b e : Expr} {S : Sto} {pos : Pos}
theorem df_listRg {p p2 pos2 : Pos} {Q : List D → Prop} (hc : X.calm = true) (hm : X.mg "list" = none) (hg : Gl X "list") (hm2 : X.mg "range" = none) (hg2 : Gl X "range")
    (h : DE c X a S fun d => ∃ n : Int, d = .int n ∧ -10000 ≤ n ∧ n ≤ 10000 ∧ Q (rangeD 0 n.toNat))
    (na : starEach [.Call (.Name "range" p2) [a] [] pos2] X.env = (false, eval (.Call (.Name "range" p2) [a] [] pos2) X.env) :: starEach [] X.env := by rfl) (na2 : starEach [a] X.env = (false, eval a X.env) :: starEach [] X.env := by rfl) :
    DF c X (.Call (.Name "list" p) [.Call (.Name "range" p2) [a] [] pos2] [] pos) S Q := fun G H σ E =>
  W.of (pe_listRg hc hg hm (prg_1 hg2 hm2 pe_W na2) na) ((h G H σ E).mono fun v H1 ⟨G1, d, e1, ⟨n, ed, h1, h2, q⟩, rd⟩ => by
    subst ed
    refine ⟨n, rep_int.mp rd, ⟨by omega, by omega, by omega, by omega, by omega⟩, fun t ht => PostL.trans E.j e1 (postL_new e1.sub e1.reg ht q ?_)⟩
    unfold rangeD rgV
    rw [Int.sub_zero]
    exact reps_map (fun _ => rep_int.mpr rfl) _)
end
end DL
set_option Elab.async false
set_option linter.all false
set_option maxRecDepth 100000
set_option maxHeartbeats 1000000
namespace DL
open PySem PySem.Spec L2
section
variable {c : Ctx} {X : Cx} {a b e : Expr} {st : Stmt} {sts : List Stmt} {S : Sto} {pos : Pos}
theorem wss_cons {R : Ends} (h : DS c X st S { nx := fun S' => ∀ G' H' σ', EnvOk X.K c G' H' σ' S' → WSs X sts R σ' H', rt := fun _ => False }) : ∀ G H σ, EnvOk X.K c G H σ S → WSs X (st :: sts) R σ H := fun G H σ E =>
  WSs.of (pss_cons ps_W pss_W) ((h G H σ E).mono (fun σ' H' ⟨G', S', E', up, z⟩ => z G' H' σ' E') (fun _ _ ⟨_, _, _, _, z, _⟩ => z.elim) (fun _ _ ⟨_, _, _, _, z⟩ => z.elim) (fun _ _ ⟨_, _, _, _, z⟩ => z.elim))
theorem seqL_mono {K : PySem.W.Frag} {G G' : Hp} {p : Addr} {xs : List V} (s : Same G G') (h : SqL K G p xs) : SqL K G' p xs := by
  rcases h with h | h
  · exact .inl (rd_mono s h)
  · exact .inr h
theorem df_sliceA {lo hi : Option Expr} {p2 : Pos} {Q : List D → Prop} (h : DE c X a S fun x => DO c X lo S fun l => DO c X hi S fun u => ∃ p ns, x = .adr p ∧ SqL X.K c.G0 p (ns.map V.int) ∧ Q ((cut ns l u).map D.int)) : DF c X (.Subscript a (.Slice lo hi none p2) pos) S Q := fun G H σ E =>
  W.of (pe_slice sl_list pe_W po_W po_W) (by
    refine (h G H σ E).mono fun vx H1 ⟨G1, x, e1, hx, rx⟩ => ?_
    refine (hx G1 H1 σ (E.ext e1)).mono fun l H2 ⟨G2, e2, hl⟩ => ?_
    refine (hl G2 H2 σ ((E.ext e1).ext e2)).mono fun u H3 ⟨G3, e3, p, ns, ex, sq, q⟩ => ?_
    subst ex
    obtain rfl := rep_adr.mp rx
    have e13 := (e1.trans e2 E.j).trans e3 E.j
    have E3 := ((E.ext e1).ext e2).ext e3
    refine ⟨p, _, rfl, seqL_mono (E3.good.ext.up.trans E3.sub) sq, fun t ht => PostL.trans E.j e13 (postL_new e3.sub e3.reg ht q ?_)⟩
    have : cutV (ns.map V.int) l u = (cut ns l u).map V.int := by
      unfold cutV cut
      rw [List.length_map, ← List.map_drop, ← List.map_take]
    rw [this]
    exact reps_ints _)
end
end DL
set_option Elab.async false
set_option linter.all false
set_option maxRecDepth 100000
set_option maxHeartbeats 1000000
namespace K62
open PySem PySem.Spec L2 DL
def topS (i : Nat) : Stmt := PySem.Challenge.pw_namesenough_k62_woods_are_judged.main.body.getD i (.Pass ⟨0, 0, 0, 0⟩)
abbrev s_is_integer : Stmt := topS 1
abbrev N_is_integer : List Str := ["value"]
theorem sc_is_integer : FnScope N_is_integer ["value"] (defScope s_is_integer) := ⟨rfl, rfl, rfl, by decide +kernel, rfl, by decide +kernel, by decide +kernel⟩
abbrev s_is_tuple : Stmt := topS 2
abbrev N_is_tuple : List Str := ["value", "many"]
theorem sc_is_tuple : FnScope N_is_tuple ["value", "many"] (defScope s_is_tuple) := ⟨rfl, rfl, rfl, by decide +kernel, rfl, by decide +kernel, by decide +kernel⟩
abbrev s_way_down : Stmt := topS 5
abbrev N_way_down : List Str := ["wood", "point", "found"]
theorem sc_way_down : FnScope N_way_down ["wood", "point"] (defScope s_way_down) := ⟨rfl, rfl, rfl, by decide +kernel, rfl, by decide +kernel, by decide +kernel⟩
abbrev s_are_rows_down : Stmt := topS 6
abbrev N_are_rows_down : List Str := ["web", "ways", "_", "points"]
theorem sc_are_rows_down : FnScope N_are_rows_down ["web", "ways"] (defScope s_are_rows_down) := ⟨rfl, rfl, rfl, by decide +kernel, rfl, by decide +kernel, by decide +kernel⟩
abbrev s_read_wood : Stmt := topS 7
abbrev N_read_wood : List Str := ["web", "depth", "value", "ways", "under", "point", "way"]
theorem sc_read_wood : FnScope N_read_wood ["web", "depth", "value"] (defScope s_read_wood) := ⟨rfl, rfl, rfl, by decide +kernel, rfl, by decide +kernel, by decide +kernel⟩
abbrev s_Kind___init__ : Stmt := inClass (topS 9) 0
abbrev N_Kind___init__ : List Str := ["self", "marks", "ties", "arrows"]
theorem sc_Kind___init__ : FnScope N_Kind___init__ ["self", "marks", "ties", "arrows"] (defScope s_Kind___init__) := ⟨rfl, rfl, rfl, by decide +kernel, rfl, by decide +kernel, by decide +kernel⟩
abbrev s_Kind___eq__ : Stmt := inClass (topS 9) 1
abbrev N_Kind___eq__ : List Str := ["self", "other"]
theorem sc_Kind___eq__ : FnScope N_Kind___eq__ ["self", "other"] (defScope s_Kind___eq__) := ⟨rfl, rfl, rfl, by decide +kernel, rfl, by decide +kernel, by decide +kernel⟩
abbrev s_Web___init__ : Stmt := inClass (topS 11) 0
abbrev N_Web___init__ : List Str := ["self", "kind", "size", "facts"]
theorem sc_Web___init__ : FnScope N_Web___init__ ["self", "kind", "size", "facts"] (defScope s_Web___init__) := ⟨rfl, rfl, rfl, by decide +kernel, rfl, by decide +kernel, by decide +kernel⟩
abbrev s_Web___eq__ : Stmt := inClass (topS 11) 1
abbrev N_Web___eq__ : List Str := ["self", "other"]
theorem sc_Web___eq__ : FnScope N_Web___eq__ ["self", "other"] (defScope s_Web___eq__) := ⟨rfl, rfl, rfl, by decide +kernel, rfl, by decide +kernel, by decide +kernel⟩
abbrev s__law_deal : Stmt := topS 13
abbrev N__law_deal : List Str := ["script", "salt", "most", "cells", "mix", "cell"]
theorem sc__law_deal : FnScope N__law_deal ["script", "salt"] (defScope s__law_deal) := ⟨rfl, rfl, rfl, by decide +kernel, rfl, by decide +kernel, by decide +kernel⟩
abbrev s__law_any : Stmt := topS 14
abbrev N__law_any : List Str := ["deal", "bound", "rest"]
theorem sc__law_any : FnScope N__law_any ["deal", "bound"] (defScope s__law_any) := ⟨rfl, rfl, rfl, by decide +kernel, rfl, by decide +kernel, by decide +kernel⟩
abbrev s__law_of : Stmt := topS 15
abbrev N__law_of : List Str := ["deal", "some"]
theorem sc__law_of : FnScope N__law_of ["deal", "some"] (defScope s__law_of) := ⟨rfl, rfl, rfl, by decide +kernel, rfl, by decide +kernel, by decide +kernel⟩
abbrev s__law_is_kind : Stmt := topS 16
abbrev N__law_is_kind : List Str := ["told", "due"]
theorem sc__law_is_kind : FnScope N__law_is_kind ["told", "due"] (defScope s__law_is_kind) := ⟨rfl, rfl, rfl, by decide +kernel, rfl, by decide +kernel, by decide +kernel⟩
abbrev s__law_same : Stmt := topS 17
abbrev N__law_same : List Str := ["told", "due", "todo", "one", "other"]
theorem sc__law_same : FnScope N__law_same ["told", "due"] (defScope s__law_same) := ⟨rfl, rfl, rfl, by decide +kernel, rfl, by decide +kernel, by decide +kernel⟩
abbrev s__law_all : Stmt := topS 18
abbrev N__law_all : List Str := ["pairs", "told", "due"]
theorem sc__law_all : FnScope N__law_all ["pairs"] (defScope s__law_all) := ⟨rfl, rfl, rfl, by decide +kernel, rfl, by decide +kernel, by decide +kernel⟩
abbrev s__law_names : Stmt := topS 19
abbrev N__law_names : List Str := ["deal", "many", "begin", "found", "turn", "letters", "spot"]
theorem sc__law_names : FnScope N__law_names ["deal", "many"] (defScope s__law_names) := ⟨rfl, rfl, rfl, by decide +kernel, rfl, by decide +kernel, by decide +kernel⟩
abbrev s__law_near_all : Stmt := topS 20
abbrev N__law_near_all : List Str := ["near", "points", "found", "point"]
theorem sc__law_near_all : FnScope N__law_near_all ["near", "points"] (defScope s__law_near_all) := ⟨rfl, rfl, rfl, by decide +kernel, rfl, by decide +kernel, by decide +kernel⟩
abbrev s__law_all_facts : Stmt := topS 21
abbrev N__law_all_facts : List Str := ["kind", "size", "found", "name", "one", "other", "point"]
theorem sc__law_all_facts : FnScope N__law_all_facts ["kind", "size"] (defScope s__law_all_facts) := ⟨rfl, rfl, rfl, by decide +kernel, rfl, by decide +kernel, by decide +kernel⟩
abbrev s__law_drawn_web : Stmt := topS 22
abbrev N__law_drawn_web : List Str := ["deal", "kind", "size", "keep", "fact"]
theorem sc__law_drawn_web : FnScope N__law_drawn_web ["deal", "kind", "size"] (defScope s__law_drawn_web) := ⟨rfl, rfl, rfl, by decide +kernel, rfl, by decide +kernel, by decide +kernel⟩
abbrev s__law_kind_of : Stmt := topS 23
abbrev N__law_kind_of : List Str := ["kind"]
theorem sc__law_kind_of : FnScope N__law_kind_of ["kind"] (defScope s__law_kind_of) := ⟨rfl, rfl, rfl, by decide +kernel, rfl, by decide +kernel, by decide +kernel⟩
abbrev s__law_web_of : Stmt := topS 24
abbrev N__law_web_of : List Str := ["web"]
theorem sc__law_web_of : FnScope N__law_web_of ["web"] (defScope s__law_web_of) := ⟨rfl, rfl, rfl, by decide +kernel, rfl, by decide +kernel, by decide +kernel⟩
abbrev s__law_near : Stmt := topS 25
abbrev N__law_near : List Str := ["web", "near", "name", "points", "one", "other", "point"]
theorem sc__law_near : FnScope N__law_near ["web"] (defScope s__law_near) := ⟨rfl, rfl, rfl, by decide +kernel, rfl, by decide +kernel, by decide +kernel⟩
abbrev s__law_parts : Stmt := topS 26
abbrev N__law_parts : List Str := ["web", "points", "near", "found", "left", "part", "late", "other", "point"]
theorem sc__law_parts : FnScope N__law_parts ["web", "points"] (defScope s__law_parts) := ⟨rfl, rfl, rfl, by decide +kernel, rfl, by decide +kernel, by decide +kernel⟩
abbrev s__law_kind : Stmt := topS 27
abbrev N__law_kind : List Str := ["deal", "names"]
theorem sc__law_kind : FnScope N__law_kind ["deal", "names"] (defScope s__law_kind) := ⟨rfl, rfl, rfl, by decide +kernel, rfl, by decide +kernel, by decide +kernel⟩
abbrev s__law_words : Stmt := topS 28
abbrev N__law_words : List Str := ["deal", "name"]
theorem sc__law_words : FnScope N__law_words ["deal"] (defScope s__law_words) := ⟨rfl, rfl, rfl, by decide +kernel, rfl, by decide +kernel, by decide +kernel⟩
abbrev s__law_way_down : Stmt := topS 29
abbrev N__law_way_down : List Str := ["row", "point", "found"]
theorem sc__law_way_down : FnScope N__law_way_down ["row", "point"] (defScope s__law_way_down) := ⟨rfl, rfl, rfl, by decide +kernel, rfl, by decide +kernel, by decide +kernel⟩
abbrev s__law_is_wood : Stmt := topS 30
abbrev N__law_is_wood : List Str := ["web", "depth", "row", "ways", "ties", "under", "point", "way", "name", "points"]
theorem sc__law_is_wood : FnScope N__law_is_wood ["web", "depth", "row"] (defScope s__law_is_wood) := ⟨rfl, rfl, rfl, by decide +kernel, rfl, by decide +kernel, by decide +kernel⟩
abbrev s__law_wood : Stmt := topS 31
abbrev N__law_wood : List Str := ["deal", "web", "row", "todo", "points", "under", "part", "low", "point"]
theorem sc__law_wood : FnScope N__law_wood ["deal", "web"] (defScope s__law_wood) := ⟨rfl, rfl, rfl, by decide +kernel, rfl, by decide +kernel, by decide +kernel⟩
abbrev s_law : Stmt := topS 32
abbrev N_law : List Str := ["script", "deal", "pairs", "turn", "kind", "web", "handed", "row", "depth", "found", "again", "at", "late", "high", "value", "point"]
theorem sc_law : FnScope N_law ["script"] (defScope s_law) := ⟨rfl, rfl, rfl, by decide +kernel, rfl, by decide +kernel, by decide +kernel⟩
def wd (row : List Int) : Nat → Int → List Int → Option (List Int)
  | 0, _, found => some found
  | k + 1, p, found => if p < 0 then some found else if p ∈ found then none else wd row k (row.getD p.toNat (-1)) (found ++ [p])
def wayDown (row : List Int) (p : Int) : Option (List Int) := wd row (row.length + 1) p []
theorem few_below : ∀ (n : Nat) (l : List Int), l.Nodup → (∀ x ∈ l, 0 ≤ x ∧ x < (n : Int)) → l.length ≤ n
  | 0, l, _, h => by
    cases l with
    | nil => exact Nat.le_refl 0
    | cons x l => have := h x List.mem_cons_self; omega
  | n + 1, l, nd, h => by
    have h2 := few_below n (l.erase (n : Int)) (nd.erase _) fun x hx => by
      have hm := (nd.mem_erase_iff).mp hx
      have := h x hm.2
      have hne := hm.1
      omega
    have h3 := List.length_erase (a := (n : Int)) (l := l)
    split at h3 <;> omega
def wayD : Option (List Int) → D
  | none => .non
  | some l => dInts l
def InRow (n : Nat) (row : List Int) : Prop := ∀ x ∈ row, -1 ≤ x ∧ x < (n : Int)
structure Txt (mg : Str → Option Value) : Prop where
  n_isinstance : mg "isinstance" = none
  n_int : mg "int" = none
  n_bool : mg "bool" = none
  n_str : mg "str" = none
  n_tuple : mg "tuple" = none
  n_list : mg "list" = none
  n_len : mg "len" = none
  n_range : mg "range" = none
  n_max : mg "max" = none
  n_sorted : mg "sorted" = none
  n_set : mg "set" = none
  n_abs : mg "abs" = none
  n_zip : mg "zip" = none
  g_GROUND : ∃ t, mg "GROUND" = some (.int (-1) t)
section
variable {P : Program} {w : World} {K : PySem.W.Frag} {mg : Str → Option Value} {base : Heap} {f : Addr} {fd : FuncData}
def sp_is_integer : SpD := fun _ ds Q => ∃ d t, ds = [d] ∧ tyD d = some t ∧ Q (.bl (isInt d))
theorem ok_is_integer (F : L2.Fun K "is_integer" "is_integer" s_is_integer f fd) (T : Txt mg) : FnOk P w K mg base CX0 1 f fd ["value"] (lift K sp_is_integer) := by
  refine fn_D F sc_is_integer (fun r ds P ⟨d, t, e, _⟩ => by rw [e]; rfl) fun cdv A outer s G H E r ds Q hr ⟨d, t, e, ht, q⟩ => ?_
  subst e
  refine ds_one ?_
  refine ds_ret ?_
  refine de_and ?_
  refine de_isi T.n_isinstance rfl T.n_int rfl PyProof.Rows.boot_int ?_
  refine de_var 0 rfl (.inl rfl) rfl ?_
  refine ⟨_, _, ht, kit_int d ht, ?_⟩
  refine ⟨_, rfl, fun hb => ?_, fun hb => ?_⟩
  · refine de_one ?_
    refine de_not ?_
    refine de_isi T.n_isinstance rfl T.n_bool rfl PyProof.Rows.boot_bool ?_
    refine de_var 0 rfl (.inl rfl) rfl ?_
    refine ⟨_, _, ht, kit_bool d ht, ?_⟩
    refine ⟨_, rfl, ?_⟩
    cases d <;> first | exact q | cases hb
  · cases d <;> first | exact q | cases hb
def sp_is_tuple : SpD := fun _ ds Q => ∃ (d : D) (t : String) (n : Nat), ds = [d, .int n] ∧ tyD d = some t ∧ Q (.bl (match d with | .tup xs => decide (xs.length = n) | _ => false))
theorem ok_is_tuple (F : L2.Fun K "is_tuple" "is_tuple" s_is_tuple f fd) (T : Txt mg) : FnOk P w K mg base CX0 1 f fd ["value", "many"] (lift K sp_is_tuple) := by
  refine fn_D F sc_is_tuple (fun r ds P ⟨d, t, n, e, _⟩ => by rw [e]; rfl) fun cdv A outer s G H E r ds Q hr ⟨d, t, n, e, ht, q⟩ => ?_
  subst e
  refine ds_one ?_
  refine ds_ret ?_
  refine de_and ?_
  refine de_isi T.n_isinstance rfl T.n_tuple rfl PyProof.Rows.boot_tuple ?_
  refine de_var 0 rfl (.inl rfl) rfl ?_
  refine ⟨_, _, ht, kit_tuple d ht, ?_⟩
  refine ⟨_, rfl, fun hb => ?_, fun hb => ?_⟩
  · cases d with
    | tup xs =>
      refine de_one ?_
      refine de_eqI ?_
      refine de_len T.n_len rfl ?_
      refine de_var 0 rfl (.inl rfl) rfl ?_
      refine ⟨_, rfl, ?_⟩
      refine de_var 1 rfl (.inl rfl) rfl ?_
      refine ⟨_, _, rfl, rfl, ?_⟩
      have e : decide ((xs.length : Int) = (n : Int)) = decide (xs.length = n) := by
        by_cases h : xs.length = n <;> simp [h]; omega
      rw [e]; exact q
    | _ => cases hb
  · cases d <;> first | exact q | cases hb
def sp_way_down : SpD := fun _ ds Q => ∃ (row : List Int) (p : Int), ds = [tInts row, .int p] ∧ InRow row.length row ∧ -1 ≤ p ∧ p < (row.length : Int) ∧ row.length ≤ 1000 ∧ Q (wayD (wayDown row p))
structure WayI (row : List Int) (p0 : Int) (m : Nat) (p : Int) (found : List Int) : Prop where
  eq : wayDown row p0 = wd row m p found
  len : found.length + m = row.length + 1
  nd : found.Nodup
  lo : ∀ x ∈ found, 0 ≤ x ∧ x < (row.length : Int)
  p1 : -1 ≤ p
  p2 : p < (row.length : Int)
theorem WayI.pos {row : List Int} {p0 p : Int} {m : Nat} {found : List Int} (h : WayI row p0 m p found) : 0 < m := by
  have h1 := few_below row.length found h.nd h.lo
  have h2 := h.len
  omega
theorem WayI.ends {row : List Int} {p0 p : Int} {m : Nat} {found : List Int} (h : WayI row p0 m p found) (hp : p < 0) : wayDown row p0 = some found := by
  obtain ⟨k, rfl⟩ : ∃ k, m = k + 1 := ⟨m - 1, by have := h.pos; omega⟩
  rw [h.eq]; show (if p < 0 then _ else _) = _; rw [if_pos hp]
theorem WayI.none {row : List Int} {p0 p : Int} {m : Nat} {found : List Int} (h : WayI row p0 m p found) (hp : ¬ p < 0) (hm : p ∈ found) : wayDown row p0 = none := by
  obtain ⟨k, rfl⟩ : ∃ k, m = k + 1 := ⟨m - 1, by have := h.pos; omega⟩
  rw [h.eq]; show (if p < 0 then _ else _) = _; rw [if_neg hp, if_pos hm]
theorem WayI.step {row : List Int} {p0 p x : Int} {m : Nat} {found : List Int} (hr : InRow row.length row) (h : WayI row p0 m p found) (hp : ¬ p < 0) (hm : p ∉ found) (hx : row[p.toNat]? = some x) : WayI row p0 (m - 1) x (found ++ [p]) := by
  have hpos := h.pos
  obtain ⟨k, rfl⟩ : ∃ k, m = k + 1 := ⟨m - 1, by omega⟩
  have hxr := hr x (List.mem_of_getElem? hx)
  refine ⟨?_, ?_, ?_, ?_, hxr.1, hxr.2⟩
  · rw [h.eq]; show (if p < 0 then _ else _) = _; rw [if_neg hp, if_neg hm, List.getD_eq_getElem?_getD, hx]; rfl
  · have := h.len; rw [List.length_append]; show found.length + 1 + k = _; omega
  · rw [List.nodup_append]
    refine ⟨h.nd, by simp, fun a ha b hb e => ?_⟩
    rw [List.mem_singleton] at hb; subst hb; subst e; exact hm ha
  · intro y hy
    rcases List.mem_append.mp hy with hy | hy
    · exact h.lo y hy
    · rw [List.mem_singleton] at hy; subst hy; have := h.p2; omega
theorem WayI.start {row : List Int} {p0 : Int} (h1 : -1 ≤ p0) (h2 : p0 < (row.length : Int)) : WayI row p0 (row.length + 1) p0 [] := ⟨rfl, by simp, List.nodup_nil, (by simp), h1, h2⟩
theorem ok_way_down (F : L2.Fun K "way_down" "way_down" s_way_down f fd) (T : Txt mg) : FnOk P w K mg base CX0 1 f fd ["wood", "point"] (lift K sp_way_down) := by
  refine fn_D F sc_way_down (fun r ds P ⟨row, p, e, _⟩ => by rw [e]; rfl) fun cdv A outer s G H E r ds Q hr ⟨row, p, e, hr0, h1, h2, hl, q⟩ => ?_
  subst e
  obtain ⟨tg, hG⟩ := T.g_GROUND
  refine ds_cons ?_
  refine ds_setM 2 sc_way_down.nd rfl (.inl rfl) ?_
  refine df_lst ?_
  refine da_nil ?_
  refine ds_cons ?_
  refine ds_while PassesOwn.never (fun m S => ∃ p' found, S = [.d (tInts row), .d (.int p'), .m (found.map D.int)] ∧ WayI row p m p' found) (row.length + 1) ⟨p, [], rfl, WayI.start h1 h2⟩ fun m S hI => ?_
  obtain ⟨p', found, rfl, hW⟩ := hI
  refine dt_neI ?_
  refine de_var 1 rfl (.inl rfl) rfl ?_
  refine de_gint hG rfl ?_
  refine ⟨_, _, rfl, rfl, ?_⟩
  refine ⟨fun hk => ?_, fun hk => ?_⟩
  · have hp : ¬ p' < 0 := by
      have := hW.p1
      have hne : p' ≠ -1 := by simpa using hk
      omega
    refine ds_cons ?_
    refine ds_if ?_
    refine dt_borrow 2 rfl ?_
    refine dt_in rfl ?_
    refine de_var 1 rfl (.inl rfl) rfl ?_
    refine de_var 2 rfl (.inl rfl) rfl ?_
    refine ⟨_, _, rfl, .inl rfl, ?_⟩
    refine ⟨fun hk => ?_, fun hk => ?_⟩
    · refine ds_one ?_
      refine ds_ret ?_
      refine de_non ?_
      rw [hW.none hp (of_decide_eq_true hk)] at q
      exact q
    · refine ds_nil ?_
      have hm := of_decide_eq_false hk
      refine ds_cons ?_
      refine ds_append 2 rfl (.inl rfl) rfl ?_ ?_
      · have := hW.len; rw [List.length_map]; omega
      refine de_var 1 rfl (.inl rfl) rfl ?_
      refine ds_one ?_
      refine ds_set 1 sc_way_down.nd rfl (.inl rfl) ?_
      refine de_ix (fun _ _ => rfl) ?_
      refine de_var 0 rfl (.inl rfl) rfl ?_
      refine de_var 1 rfl (.inl rfl) rfl ?_
      have hlt : p'.toNat < row.length := by have := hW.p2; omega
      have hx : row[p'.toNat]? = some row[p'.toNat] := List.getElem?_eq_getElem hlt
      refine ⟨_, _, .int row[p'.toNat], .inr rfl, rfl, at_nn (j := p'.toNat) (by omega) (by rw [List.getElem?_map, hx]; rfl), ?_⟩
      have hpos := hW.pos
      refine ⟨m - 1, by omega, row[p'.toNat], found ++ [p'], ?_, hW.step hr0 hp hm hx⟩
      simp
  · have hp : p' < 0 := by
      have hne : p' = -1 := by simpa using hk
      omega
    refine ds_one ?_
    refine ds_retM 2 rfl (.inl rfl) rfl ?_
    rw [hW.ends hp] at q
    exact q
end
end K62
set_option Elab.async false
set_option linter.all false
set_option maxRecDepth 100000
set_option maxHeartbeats 1000000
namespace K62
open PySem PySem.Spec L2 DL
abbrev Fact := Str × List Int
def factD (f : Fact) : D := .tup [.str f.1, tInts f.2]
def factsD (fs : List Fact) : D := .tup (fs.map factD)
def FactsOk (n : Nat) (fs : List Fact) : Prop := ∀ f ∈ fs, (∃ a : Int, f.2 = [a] ∧ 0 ≤ a ∧ a < n) ∨ ∃ a b : Int, f.2 = [a, b] ∧ 0 ≤ a ∧ a < n ∧ 0 ≤ b ∧ b < n
def webO (CW : Addr) (kd : D) (n : Nat) (fs : List Fact) : D := .obj CW ["kind", "size", "facts"] [kd, .int n, factsD fs]
def webT (kd : D) (n : Nat) (fs : List Fact) : D := .tup [kd, .int n, factsD fs]
structure WebC (K : PySem.W.Frag) (CW : Addr) : Prop where
  cl : Cls K CW
  a_kind : NoAttr K CW "kind"
  a_size : NoAttr K CW "size"
  a_facts : NoAttr K CW "facts"
def tieOk (ways : List (List Int)) (f : Fact) : Bool := match f.2 with
  | [a, b] => decide (a ∈ ways.getD b.toNat []) || decide (b ∈ ways.getD a.toNat [])
  | _ => true
def rowsDown (fs : List Fact) (ways : List (List Int)) : Bool := fs.all (tieOk ways)
section
variable {P : Program} {w : World} {K : PySem.W.Frag} {mg : Str → Option Value} {base : Heap} {f : Addr} {fd : FuncData}
theorem all_take {α : Type} {l : List α} {p : α → Bool} {i : Nat} {x : α} (h : l[i]? = some x) : (l.take (i + 1)).all p = ((l.take i).all p && p x) := by
  rw [List.take_add_one, h, List.all_append]; simp
theorem all_false {α : Type} {l : List α} {p : α → Bool} {i : Nat} {x : α} (h : l[i]? = some x) (hp : p x = false) : l.all p = false := by
  cases e : l.all p with
  | false => rfl
  | true => rw [List.all_eq_true.mp e x (List.mem_of_getElem? h)] at hp; cases hp
def sp_are_rows_down (CW : Addr) : SpD := fun _ ds Q => ∃ (kd : D) (n : Nat) (fs : List Fact) (ways : List (List Int)), ds = [webO CW kd n fs, .lst (ways.map dInts)] ∧ FactsOk n fs ∧ ways.length = n ∧ Q (.bl (rowsDown fs ways))
theorem ok_are_rows_down {CW : Addr} (F : L2.Fun K "are_rows_down" "are_rows_down" s_are_rows_down f fd) (T : Txt mg) (C : WebC K CW) : FnOk P w K mg base CX0 1 f fd ["web", "ways"] (lift K (sp_are_rows_down CW)) := by
  refine fn_D F sc_are_rows_down (fun r ds P ⟨_, _, _, _, e, _⟩ => by rw [e]; rfl) fun cdv A outer s G H E r ds Q hr ⟨kd, n, fs, ways, e, hf, hw, q⟩ => ?_
  subst e
  refine ds_cons ?_
  refine ds_for PassesOwn.never rfl (pgt_tup rfl (pgn_cons 2 sc_are_rows_down.nd rfl (.inl rfl) (pgn_cons 3 sc_are_rows_down.nd rfl (.inl rfl) (pgn_nil)))) ?_
  refine di_tup ?_
  refine de_fld rfl ?_
  refine de_var 0 rfl (.inl rfl) rfl ?_
  refine ⟨_, _, _, _, rfl, C.cl, C.a_facts, rfl, ?_⟩
  refine ⟨_, rfl, ?_⟩
  refine ⟨fun i S => ∃ x y, S = [.d (webO CW kd n fs), .d (.lst (ways.map dInts)), x, y] ∧ (fs.take i).all (tieOk ways) = true, ⟨_, _, rfl, rfl⟩, fun i x S hx hI => ?_, fun S hI => ?_⟩
  · obtain ⟨b2, b3, rfl, hall⟩ := hI
    rw [List.getElem?_map] at hx
    cases hfi : fs[i]? with
    | none => rw [hfi] at hx; cases hx
    | some ft =>
      rw [hfi] at hx; cases hx
      refine ⟨_, rfl, rfl, ?_⟩
      refine ds_one ?_
      refine ds_if ?_
      have hmem := List.mem_of_getElem? hfi
      obtain ⟨nm, pts⟩ := ft
      rcases hf _ hmem with ⟨a, ea, _⟩ | ⟨a, b, ea, a0, an, b0, bn⟩
      · have ea : pts = [a] := ea
        subst ea
        refine dt_whole ?_
        refine dw_and ?_
        refine dt_eqI ?_
        refine de_len T.n_len rfl ?_
        refine de_var 3 rfl (.inl rfl) rfl ?_
        refine ⟨_, rfl, ?_⟩
        refine de_int ?_
        refine ⟨_, _, rfl, rfl, ?_⟩
        refine ⟨fun hb => (by cases hb), fun hb => ⟨fun hk => (by cases hk), fun hk => ?_⟩⟩
        refine ds_nil ?_
        exact ⟨_, _, rfl, by rw [all_take hfi, hall]; rfl⟩
      · have ea : pts = [a, b] := ea
        subst ea
        have wa : ways[a.toNat]? = some (ways.getD a.toNat []) := by
          rw [List.getD_eq_getElem?_getD, List.getElem?_eq_getElem (show a.toNat < ways.length by omega)]; rfl
        have wb : ways[b.toNat]? = some (ways.getD b.toNat []) := by
          rw [List.getD_eq_getElem?_getD, List.getElem?_eq_getElem (show b.toNat < ways.length by omega)]; rfl
        have wa' : (ways.map dInts)[a.toNat]? = some (dInts (ways.getD a.toNat [])) := by rw [List.getElem?_map, wa]; rfl
        have wb' : (ways.map dInts)[b.toNat]? = some (dInts (ways.getD b.toNat [])) := by rw [List.getElem?_map, wb]; rfl
        refine dt_whole ?_
        refine dw_and ?_
        refine dt_eqI ?_
        refine de_len T.n_len rfl ?_
        refine de_var 3 rfl (.inl rfl) rfl ?_
        refine ⟨_, rfl, ?_⟩
        refine de_int ?_
        refine ⟨_, _, rfl, rfl, ?_⟩
        refine ⟨fun hb => ?_, fun hb => by cases hb⟩
        refine dw_and ?_
        refine dt_notin rfl ?_
        refine de_ix (fun _ _ => rfl) ?_
        refine de_var 3 rfl (.inl rfl) rfl ?_
        refine de_int ?_
        refine ⟨_, _, .int a, .inr rfl, rfl, rfl, ?_⟩
        refine de_ix (fun _ _ => rfl) ?_
        refine de_var 1 rfl (.inl rfl) rfl ?_
        refine de_ix (fun _ _ => rfl) ?_
        refine de_var 3 rfl (.inl rfl) rfl ?_
        refine de_int ?_
        refine ⟨_, _, .int b, .inr rfl, rfl, rfl, ?_⟩
        refine ⟨_, _, _, .inl rfl, rfl, at_nn (j := b.toNat) (by omega) wb', ?_⟩
        refine ⟨_, _, rfl, .inl rfl, ?_⟩
        have ht : tieOk ways (nm, [a, b]) = (decide (a ∈ ways.getD b.toNat []) || decide (b ∈ ways.getD a.toNat [])) := rfl
        refine ⟨fun hb => ?_, fun hb => ⟨fun hk => (by cases hk), fun hk => ?_⟩⟩
        · refine dw_and1 ?_
          refine dt_notin rfl ?_
          refine de_ix (fun _ _ => rfl) ?_
          refine de_var 3 rfl (.inl rfl) rfl ?_
          refine de_int ?_
          refine ⟨_, _, .int b, .inr rfl, rfl, rfl, ?_⟩
          refine de_ix (fun _ _ => rfl) ?_
          refine de_var 1 rfl (.inl rfl) rfl ?_
          refine de_ix (fun _ _ => rfl) ?_
          refine de_var 3 rfl (.inl rfl) rfl ?_
          refine de_int ?_
          refine ⟨_, _, .int a, .inr rfl, rfl, rfl, ?_⟩
          refine ⟨_, _, _, .inl rfl, rfl, at_nn (j := a.toNat) (by omega) wa', ?_⟩
          refine ⟨_, _, rfl, .inl rfl, ?_⟩
          have h1 : decide (a ∈ ways.getD b.toNat []) = false := by simpa using hb
          rw [h1, Bool.false_or] at ht
          refine ⟨fun hk => ?_, fun hk => ?_⟩
          · refine ds_one ?_
            refine ds_ret ?_
            refine de_bl ?_
            have h2 : decide (b ∈ ways.getD a.toNat []) = false := by simpa using hk
            rw [show rowsDown fs ways = false from all_false hfi (ht.trans h2)] at q
            exact q
          · refine ds_nil ?_
            have h2 : decide (b ∈ ways.getD a.toNat []) = true := by simpa using hk
            exact ⟨_, _, rfl, by rw [all_take hfi, hall, ht, h2]; rfl⟩
        · refine ds_nil ?_
          have h1 : decide (a ∈ ways.getD b.toNat []) = true := by simpa using hb
          exact ⟨_, _, rfl, by rw [all_take hfi, hall, ht, h1]; rfl⟩
  · obtain ⟨b2, b3, rfl, hall⟩ := hI
    refine ds_one ?_
    refine ds_ret ?_
    refine de_bl ?_
    rw [List.length_map, List.take_length] at hall
    rw [show rowsDown fs ways = true from hall] at q
    exact q
end
end K62
set_option Elab.async false
set_option linter.all false
set_option maxRecDepth 100000
set_option maxHeartbeats 1000000
namespace K62
open PySem PySem.Spec L2 DL
def waysOf (row : List Int) : List (Option (List Int)) := (List.range row.length).map fun (i : Nat) => wayDown row (i : Int)
def wayBad (depth : Int) : Option (List Int) → Bool
  | none => true
  | some l => decide (depth < (l.length : Int))
def woodIn (fs : List Fact) (depth : Int) (row : List Int) : Bool := (waysOf row).all (fun o => !wayBad depth o) && rowsDown fs ((waysOf row).map (·.getD []))
def badI (n : Nat) (x : Int) : Bool := !(decide (-1 ≤ x) && decide (x < (n : Int)))
def woodOk (n : Nat) (fs : List Fact) (depth : Int) (row : List Int) : Bool := decide (row.length = n) && row.all (fun x => !badI n x) && woodIn fs depth row
def badV (n : Nat) : D → Bool
  | .int x => badI n x
  | _ => true
def rowV : D → Int
  | .int x => x
  | _ => 0
def readWood (n : Nat) (fs : List Fact) (depth : Int) : D → Bool
  | .tup xs => decide (xs.length = n) && xs.all (fun x => !badV n x) && woodIn fs depth (xs.map rowV)
  | _ => false
theorem readWood_ints (n : Nat) (fs : List Fact) (depth : Int) (row : List Int) : readWood n fs depth (tInts row) = woodOk n fs depth row := by
  show (decide ((row.map D.int).length = n) && (row.map D.int).all (fun x => !badV n x) && woodIn fs depth ((row.map D.int).map rowV)) = _
  rw [List.length_map, List.all_map, List.map_map, show (rowV ∘ D.int) = id from rfl, List.map_id]
  rfl
def AskV (d : D) : Prop := ∃ t, tyD d = some t ∧ ∀ xs, d = .tup xs → xs.length ≤ 1000 ∧ ∀ x ∈ xs, (∃ u, tyD x = some u) ∧ small x
section
variable {P : Program} {w : World} {K : PySem.W.Frag} {mg : Str → Option Value} {base : Heap} {f : Addr} {fd : FuncData}
theorem badV_int {n : Nat} {x : Int} : badV n (.int x) = badI n x := rfl
theorem goodV {n : Nat} {d : D} (h : badV n d = false) : d = .int (rowV d) ∧ badI n (rowV d) = false := by
  cases d <;> first | exact ⟨rfl, h⟩ | cases h
theorem goodsV {n : Nat} : ∀ {xs : List D}, xs.all (fun x => !badV n x) = true → xs = (xs.map rowV).map D.int ∧ InRow n (xs.map rowV)
  | [], _ => ⟨rfl, fun x hx => by cases hx⟩
  | x :: xs, h => by
    rw [List.all_cons, Bool.and_eq_true] at h
    obtain ⟨e, b⟩ := goodV (Bool.not_eq_true' _ ▸ h.1 : badV n x = false)
    obtain ⟨i1, i2⟩ := goodsV h.2
    refine ⟨by rw [List.map_cons, List.map_cons, ← e, ← i1], fun y hy => ?_⟩
    rw [List.map_cons] at hy
    rcases List.mem_cons.mp hy with rfl | hy
    · unfold badI at b
      simp at b; omega
    · exact i2 y hy
theorem waysOf_len {row : List Int} : (waysOf row).length = row.length := by unfold waysOf; rw [List.length_map, List.length_range]
def wayR : D → Option (List Int)
  | .lst xs => some (xs.map rowV)
  | _ => none
theorem wayR_D (o : Option (List Int)) : wayR (wayD o) = o := by
  cases o with
  | none => rfl
  | some l =>
    show some ((l.map D.int).map rowV) = some l
    rw [List.map_map, show (rowV ∘ D.int) = id from rfl, List.map_id]
def badW (depth : Int) (d : D) : Bool := wayBad depth (wayR d)
theorem badW_D (depth : Int) (o : Option (List Int)) : badW depth (wayD o) = wayBad depth o := by unfold badW; rw [wayR_D]
def sp_read_wood (CW : Addr) : SpD := fun _ ds Q => ∃ (kd : D) (n : Nat) (fs : List Fact) (depth : Int) (v : D), ds = [webO CW kd n fs, .int depth, v] ∧ FactsOk n fs ∧ n ≤ 1000 ∧ AskV v ∧ Q (.bl (readWood n fs depth v))
theorem ok_read_wood {CW : Addr} (F : L2.Fun K "read_wood" "read_wood" s_read_wood f fd) (T : Txt mg) (C : WebC K CW) (G1 : Callee P w K mg base 1 "is_integer" ["value"] sp_is_integer) (G2 : Callee P w K mg base 1 "is_tuple" ["value", "many"] sp_is_tuple)
    (G3 : Callee P w K mg base 1 "way_down" ["wood", "point"] sp_way_down) (G4 : Callee P w K mg base 1 "are_rows_down" ["web", "ways"] (sp_are_rows_down CW)) : FnOk P w K mg base CX0 2 f fd ["web", "depth", "value"] (lift K (sp_read_wood CW)) := by
  refine fn_D F sc_read_wood (fun r ds P ⟨_, _, _, _, _, e, _⟩ => by rw [e]; rfl) fun cdv A outer s G H E r ds Q hr ⟨kd, n, fs, depth, v, e, hf, hn, ⟨t, ht, hv⟩, q⟩ => ?_
  subst e
  obtain ⟨tg, hG⟩ := T.g_GROUND
  refine ds_cons ?_
  refine ds_if ?_
  refine dt_not ?_
  refine dt_val ?_
  refine de_callC G2 hr rfl ?_
  refine da_cons ?_
  refine de_var 2 rfl (.inr (.inl rfl)) rfl ?_
  refine da_cons ?_
  refine de_fld rfl ?_
  refine de_var 0 rfl (.inr (.inl rfl)) rfl ?_
  refine ⟨_, _, _, _, rfl, C.cl, C.a_size, rfl, ?_⟩
  refine da_nil ?_
  refine ⟨v, t, n, rfl, ht, ?_⟩
  refine ⟨_, rfl, ?_⟩
  refine ⟨fun hk => ?_, fun hk => ?_⟩
  · refine ds_one ?_
    refine ds_ret ?_
    refine de_bl ?_
    rw [show readWood n fs depth v = false from ?_] at q
    · exact q
    · cases v with
      | tup xs =>
        have : decide (xs.length = n) = false := by simpa using hk
        show (decide (xs.length = n) && _ && _) = false
        rw [this]; rfl
      | _ => rfl
  · refine ds_nil ?_
    obtain ⟨xs, rfl⟩ : ∃ xs, v = .tup xs := by cases v <;> first | exact ⟨_, rfl⟩ | (cases hk)
    obtain ⟨hxl, hxs⟩ := hv xs rfl
    have hlen : xs.length = n := by simpa using hk
    have q1 : Q (.bl (xs.all (fun x => !badV n x) && woodIn fs depth (xs.map rowV))) := by
      rw [show readWood n fs depth (.tup xs) = (decide (xs.length = n) && xs.all (fun x => !badV n x) && woodIn fs depth (xs.map rowV)) from rfl, decide_eq_true hlen, Bool.true_and] at q
      exact q
    refine ds_cons ?_
    refine ds_if ?_
    refine dt_neD hr.units ?_
    refine de_fresh ?_
    refine df_lcP (T := .n 4) [("under", 4)] rfl sc_read_wood.nd (blkOk_by (N := N_read_wood) (sc := defScope s_read_wood) (by decide +kernel)) (fun _ _ _ _ _ => pgt_name 4 sc_read_wood.nd rfl (.inl rfl)) (by decide) ?_
    refine di_tup ?_
    refine de_var 2 rfl (.inr (.inl rfl)) rfl ?_
    refine ⟨_, rfl, ?_⟩
    refine ⟨by omega, badV n, id, fun x hx => ⟨fun _ _ _ _ _ => ?_, fun hp _ _ _ _ _ => ?_⟩, ?_⟩
    · obtain ⟨⟨u, hu⟩, _⟩ := hxs x hx
      refine dts_one ?_
      refine dt_whole ?_
      refine dw_orV (!isInt x) (badV n x) ?_ (fun hb => ?_) ?_
      · refine dt_not ?_
        refine dt_val ?_
        refine de_callC G1 hr rfl ?_
        refine da_cons ?_
        refine de_var 4 rfl (.inl rfl) rfl ?_
        refine da_nil ?_
        exact ⟨x, u, rfl, hu, _, rfl, rfl⟩
      · obtain ⟨z, rfl⟩ : ∃ z, x = .int z := by cases x <;> first | exact ⟨_, rfl⟩ | (cases hb)
        refine dw_or1 ?_
        refine dt_not ?_
        refine dt_chainV (-1) z n op_le op_lt ?_ ?_ ?_ ?_
        · exact de_gint hG rfl rfl
        · exact de_var 4 rfl (.inl rfl) rfl rfl
        · refine de_fld rfl ?_
          refine de_var 0 rfl (.inr (.inl rfl)) rfl ?_
          exact ⟨_, _, _, _, rfl, C.cl, C.a_size, rfl, rfl⟩
        · rfl
      · cases x <;> rfl
    · exact de_var 4 rfl (.inl rfl) rfl rfl
    rw [List.map_id]
    refine de_fresh ?_
    refine df_lst ?_
    refine da_nil ?_
    refine ⟨eqOk_lst fun d hd => (hxs d (List.mem_filter.mp hd).1).2, eqOk_nil, ?_⟩
    rw [eqD_nil, isEmpty_filter]
    refine ⟨fun hk => ?_, fun hk => ?_⟩
    · refine ds_one ?_
      refine ds_ret ?_
      refine de_bl ?_
      have : xs.all (fun x => !badV n x) = false := by simpa using hk
      rw [this] at q1
      exact q1
    · refine ds_nil ?_
      have hall : xs.all (fun x => !badV n x) = true := by simpa using hk
      obtain ⟨ex, hin⟩ := goodsV hall
      rw [hall, Bool.true_and] at q1
      generalize hrow : xs.map rowV = row at ex hin q1
      have hrl : row.length = n := by rw [← hrow, List.length_map]; exact hlen
      subst ex
      clear hall hk q hrow hxs hv
      refine ds_cons ?_
      refine ds_setLcP (T := .n 5) 3 [("point", 5)] rfl sc_read_wood.nd rfl rfl (sw_true rfl rfl rfl (by decide +kernel)) (blkOk_by (N := N_read_wood) (sc := defScope s_read_wood) (by decide +kernel)) (fun _ _ _ _ _ => pgt_name 5 sc_read_wood.nd rfl (.inl rfl)) (by decide) ?_
      refine di_range1 T.n_range rfl ?_
      refine de_fld rfl ?_
      refine de_var 0 rfl (.inr (.inl rfl)) rfl ?_
      refine ⟨_, _, _, _, rfl, C.cl, C.a_size, rfl, ?_⟩
      refine ⟨_, rfl, by omega, by omega, ?_⟩
      refine ⟨by rw [rangeD_len]; omega, fun _ => true, fun x => wayD (wayDown row (rowV x)), fun x hx => ⟨fun _ _ _ _ _ => dts_nil rfl, fun hp _ _ _ _ _ => ?_⟩, ?_⟩
      · obtain ⟨i, hi, rfl⟩ : ∃ i : Nat, i < n ∧ x = .int (0 + (i : Int)) := by
          unfold rangeD at hx
          obtain ⟨i, hi, rfl⟩ := List.mem_map.mp hx
          exact ⟨i, by rw [List.mem_range] at hi; omega, rfl⟩
        refine de_callC G3 hr rfl ?_
        refine da_cons ?_
        refine de_var 2 rfl (.inr (.inl rfl)) rfl ?_
        refine da_cons ?_
        refine de_var 5 rfl (.inl rfl) rfl ?_
        refine da_nil ?_
        exact ⟨row, _, rfl, by rw [hrl]; exact hin, by omega, by omega, by omega, rfl⟩
      have ew : ((rangeD 0 ((n : Int)).toNat).filter fun _ => true).map (fun x => wayD (wayDown row (rowV x))) = (waysOf row).map wayD := by
        unfold rangeD waysOf
        rw [List.filter_eq_self.mpr fun _ _ => rfl, List.map_map, List.map_map, hrl]
        refine List.map_congr_left fun i _ => ?_
        show wayD (wayDown row (0 + (i : Int))) = wayD (wayDown row (i : Int))
        rw [Int.zero_add]
      rw [ew]
      refine dss_freeze 3 rfl ?_
      refine ds_cons ?_
      refine ds_if ?_
      refine dt_neD hr.units ?_
      refine de_fresh ?_
      refine df_lcP (T := .n 6) [("way", 6)] rfl sc_read_wood.nd (blkOk_by (N := N_read_wood) (sc := defScope s_read_wood) (by decide +kernel)) (fun _ _ _ _ _ => pgt_name 6 sc_read_wood.nd rfl (.inl rfl)) (by decide) ?_
      refine di_list ?_
      refine de_var 3 rfl (.inl rfl) rfl ?_
      refine ⟨_, rfl, ?_⟩
      refine ⟨by rw [List.length_map, waysOf_len]; omega, badW depth, id, fun x hx => ⟨fun _ _ _ _ _ => ?_, fun hp _ _ _ _ _ => ?_⟩, ?_⟩
      · obtain ⟨o, ho, rfl⟩ := List.mem_map.mp hx
        rw [badW_D]
        refine dts_one ?_
        refine dt_whole ?_
        refine dw_orV (isNon (wayD o)) (wayBad depth o) ?_ (fun hb => ?_) ?_
        · refine dt_isN ?_
          exact de_var 6 rfl (.inl rfl) rfl rfl
        · obtain ⟨l, rfl⟩ : ∃ l, o = some l := by cases o with | some l => exact ⟨l, rfl⟩ | none => cases hb
          refine dw_or1 ?_
          refine dt_gt ?_
          refine de_len T.n_len rfl ?_
          refine de_var 6 rfl (.inl rfl) rfl ?_
          refine ⟨_, rfl, ?_⟩
          refine de_var 1 rfl (.inr (.inl rfl)) rfl ?_
          refine ⟨_, _, rfl, rfl, ?_⟩
          rw [List.length_map]; rfl
        · cases o <;> rfl
      · exact de_var 6 rfl (.inl rfl) rfl rfl
      rw [List.map_id]
      refine de_fresh ?_
      refine df_lst ?_
      refine da_nil ?_
      refine ⟨eqOk_lst fun d hd => ?_, eqOk_nil, ?_⟩
      · obtain ⟨o, _, rfl⟩ := List.mem_map.mp (List.mem_filter.mp hd).1
        cases o with
        | none => exact small_non
        | some l => exact small_dInts l
      rw [eqD_nil, isEmpty_filter, List.all_map, show ((fun x => !badW depth x) ∘ wayD) = fun o => !wayBad depth o from funext fun o => by show (!badW depth (wayD o)) = _; rw [badW_D]]
      unfold woodIn at q1
      refine ⟨fun hk => ?_, fun hk => ?_⟩
      · refine ds_one ?_
        refine ds_ret ?_
        refine de_bl ?_
        have : (waysOf row).all (fun o => !wayBad depth o) = false := by simpa using hk
        rw [this] at q1
        exact q1
      · refine ds_nil ?_
        have hall : (waysOf row).all (fun o => !wayBad depth o) = true := by simpa using hk
        rw [hall, Bool.true_and] at q1
        refine ds_one ?_
        refine ds_ret ?_
        refine de_callC G4 hr rfl ?_
        refine da_cons ?_
        refine de_var 0 rfl (.inr (.inl rfl)) rfl ?_
        refine da_cons ?_
        refine de_var 3 rfl (.inl rfl) rfl ?_
        refine da_nil ?_
        refine ⟨kd, n, fs, (waysOf row).map (·.getD []), ?_, hf, by rw [List.length_map, waysOf_len]; omega, q1⟩
        have : (waysOf row).map wayD = ((waysOf row).map (·.getD [])).map dInts := by
          rw [List.map_map]
          refine List.map_congr_left fun o ho => ?_
          have := List.all_eq_true.mp hall o ho
          cases o with
          | none => cases this
          | some l => rfl
        rw [this]
end
end K62
set_option Elab.async false
set_option linter.all false
set_option maxRecDepth 100000
set_option maxHeartbeats 1000000
namespace K62
open PySem PySem.Spec L2 DL
section
variable {P : Program} {w : World} {K : PySem.W.Frag} {mg : Str → Option Value} {base : Heap} {f : Addr} {fd : FuncData}
structure DealAt (H : Hp) (da ca : Addr) (cells : List Int) (mix : Int) : Prop where
  ne : da ≠ ca
  len : cells.length ≤ 1000
  d : H da = some (.lst [.ref ca, .int mix])
  c : H ca = some (.lst (cells.map V.int))
theorem DealAt.j {H : Hp} {da ca : Addr} {cells : List Int} {mix : Int} (h : DealAt H da ca cells mix) : Reg.J (some (da, ca)) H := ⟨h.ne, cells, mix, h.len, h.d, h.c⟩
theorem DealAt.cells' {H : Hp} {da ca : Addr} {cells : List Int} {mix : Int} (h : DealAt H da ca cells mix) {cs : List Int} (hl : cs.length ≤ 1000) : DealAt (upd H ca (.lst (cs.map V.int))) da ca cs mix :=
  ⟨h.ne, hl, by rw [upd_ne h.ne]; exact h.d, upd_same⟩
theorem DealAt.mix' {H : Hp} {da ca : Addr} {cells : List Int} {mix m : Int} (h : DealAt H da ca cells mix) : DealAt (upd H da (.lst [.ref ca, .int m])) da ca cells m :=
  ⟨h.ne, h.len, upd_same, by rw [upd_ne h.ne.symm]; exact h.c⟩
def But (da ca : Addr) (H H' : Hp) : Prop := ∀ b o, b ≠ da → b ≠ ca → H b = some o → H' b = some o
theorem But.refl (da ca : Addr) (H : Hp) : But da ca H H := fun _ _ _ _ h => h
theorem But.da {da ca : Addr} {H H' : Hp} {o : HO} (h : But da ca H H') : But da ca H (upd H' da o) := fun b u h1 h2 e => by rw [upd_ne h1]; exact h b u h1 h2 e
theorem But.ca {da ca : Addr} {H H' : Hp} {o : HO} (h : But da ca H H') : But da ca H (upd H' ca o) := fun b u h1 h2 e => by rw [upd_ne h2]; exact h b u h1 h2 e
theorem But.ext {da ca : Addr} {G H H' : Hp} {cells : List Int} {mix : Int} (g : Good ⟨some (da, ca), G, H⟩ G H) (h : But da ca H H') (d : DealAt H' da ca cells mix) : Ext (some (da, ca)) G H G H' where
  up := Same.refl G
  sub := fun b o e => h b o (fun z => by rw [z, (g.rg da (.inl rfl)).1] at e; cases e) (fun z => by rw [z, (g.rg ca (.inr rfl)).1] at e; cases e) (g.sub b o e)
  same := fun b o m e => h b o (fun z => m (.inl z)) (fun z => m (.inr z)) e
  old := fun _ _ => rfl
  reg := d.j
def sp_any : SpD := fun r ds Q => ∃ (da ca : Addr) (n : Int), r = some (da, ca) ∧ ds = [.adr da, .int n] ∧ 0 < n ∧ n < 1000000 ∧ ∀ k, 0 ≤ k → k < n → Q (.int k)
theorem ok__law_any (F : L2.Fun K "_law_any" "_law_any" s__law_any f fd) (T : Txt mg) : FnOk P w K mg base CX0 1 f fd ["deal", "bound"] (lift K sp_any) := by
  refine F.ok sc__law_any (fun vs H Q E ⟨r, G, ds, P', g, rs, ⟨da, ca, n, _, e, _⟩, q⟩ => by rw [rs.length, e]; rfl) fun cdv A outer s H vs Q E hr ⟨r, G, ds, P', g, rs, ⟨da, ca, n, er, e, hn, hn', hP⟩, q⟩ => ?_
  subst er e
  obtain ⟨v1, v2, rfl, r1, r2⟩ := reps2 rs
  obtain rfl := rep_adr.mp r1
  obtain rfl := rep_int.mp r2
  have nd := sc__law_any.nd
  refine ⟨_, pss_cons (ps_while PassesOwn.never (PW.pt (pw_and (pt_cmpR op_gt (pe_callB call_len_seq (by rfl) T.n_len PySem.boot_len (pa_cons (pe_ix ix_list (pv 0) pe_int (fun _ _ => rfl)) pa_nil)) pe_int (nomark _))
        (pw_and1 (pt_cmpR op_eq (pe_ix ix_list (pe_ix ix_list (pv 0) pe_int (fun _ _ => rfl)) (pe_un un_neg pe_int) (fun _ _ => rfl)) pe_int (nomark _)))))
      (pss_one (ps_expr (pe_bm0 PySem.F.plainAttrs_list PySem.F.slot_list_pop PySem.F.type_list_pop mt_pop (pe_ix ix_list (pv 0) pe_int (fun _ _ => rfl))))))
    (pss_cons (ps_if (pt_cmpR op_gt (pe_callB call_len_seq (by rfl) T.n_len PySem.boot_len (pa_cons (pe_ix ix_list (pv 0) pe_int (fun _ _ => rfl)) pa_nil)) pe_int (nomark _))
      (pss_cons (ps_set (i := 2) nd rfl (.inl rfl) (pe_callTy call_int1 (by rfl) T.n_int PyProof.Rows.boot_int (pa_cons (pe_bm0 PySem.F.plainAttrs_list PySem.F.slot_list_pop PySem.F.type_list_pop mt_pop (pe_ix ix_list (pv 0) pe_int (fun _ _ => rfl))) pa_nil)))
      (pss_cons (ps_expr (pe_bm PySem.F.plainAttrs_list PySem.F.slot_list_append PySem.F.type_list_append mt_append (pe_ix ix_list (pv 0) pe_int (fun _ _ => rfl)) (pa_cons (pe_op op_fdivN (pv 2) (pv 1)) pa_nil)))
      (pss_one (ps_ret (pe_op op_modN (pv 2) (pv 1)))))) pss_nil)
    (pss_cons (ps_asg (pe_op op_modN (pe_callTy call_int1 (by rfl) T.n_int PyProof.Rows.boot_int (pa_cons (pe_op op_add (pe_op op_mul (pe_ix ix_list (pv 0) pe_int (fun _ _ => rfl)) pe_int) pe_int) pa_nil)) pe_int) (pg_sub (pv 0) pe_int set_list))
    (pss_one (ps_ret (pe_op op_modN (pe_callTy call_int1 (by rfl) T.n_int PyProof.Rows.boot_int (pa_cons (pe_op op_fdivN (pe_ix ix_list (pv 0) pe_int (fun _ _ => rfl)) pe_int) pa_nil)) (pv 1)))))), ?_⟩
  obtain ⟨ne, cells0, mix0, l0, hd0, hc0⟩ := g.j
  have fin : ∀ (H' : Hp) (cells : List Int) (mix k : Int), DealAt H' da ca cells mix → But da ca H H' → 0 ≤ k → k < n → Q (.int k) H' := fun H' cells mix k d b h0 h1 =>
    have x := b.ext g d
    q G H' (.int k) ⟨G, .int k, x, hP k h0 h1, rep_int.mpr rfl⟩ ⟨x, g.rg⟩
  have md : ∀ x : Int, 0 ≤ x.fmod n ∧ x.fmod n < n := fun x => by
    rw [Int.fmod_eq_emod_of_nonneg _ (by omega)]
    exact ⟨Int.emod_nonneg _ (by omega), Int.emod_lt_of_pos _ hn⟩
  refine ⟨fun m σ' H' => ∃ (cells : List Int) (mix : Int), m = cells.length ∧ σ' = [some (.ref da), some (.int n), none] ∧ DealAt H' da ca cells mix ∧ But da ca H H', ⟨_, cells0, mix0, rfl, rfl, ⟨ne, l0, hd0, hc0⟩, But.refl _ _ _⟩, ?_⟩
  rintro m σ' H' ⟨cells, mix, rfl, rfl, d, bt⟩
  refine ⟨.ref da, rfl, da, _, 0, .ref ca, rfl, rfl, SqL.of d.d, atI_nat (j := 0) rfl, ca, cells.map V.int, rfl, .inl (SqL.of d.c), ((cells.map V.int).length : Int), 0, rfl, rfl, _, rfl, ?_⟩
  rw [List.length_map]
  have rest : ∀ H', DealAt H' da ca cells mix → But da ca H H' → (0 < cells.length → ∃ c, cells.getLast? = some c) → True := fun _ _ _ _ => trivial
  by_cases hc : cells = []
  · subst hc
    refine iteF (iteF ?_)
    refine ⟨.ref da, rfl, da, _, 0, .ref ca, rfl, rfl, SqL.of d.d, atI_nat (j := 0) rfl, ca, _, rfl, .inl (SqL.of d.c), (0 : Int), 0, rfl, rfl, _, rfl, iteF ?_⟩
    refine ⟨.ref da, rfl, da, _, 1, .int mix, rfl, rfl, SqL.of d.d, atI_nat (j := 1) rfl, mix, 48271, rfl, rfl, .inr ⟨by decide, by decide⟩, _, 31, rfl, rfl, .inl ⟨_, rfl, ?_⟩⟩
    refine ⟨_, 2147483647, rfl, rfl, (show (2147483647 : Int) ≠ 0 by decide), .ref da, rfl, da, _, 1, 1, rfl, rfl, d.d, rfl, ?_⟩
    have d2 : DealAt (upd H' da (.lst [.ref ca, .int ((mix * 48271 + 31).fmod 2147483647)])) da ca [] _ := d.mix'
    refine ⟨.ref da, rfl, da, _, 1, .int ((mix * 48271 + 31).fmod 2147483647), rfl, rfl, SqL.of d2.d, atI_nat (j := 1) rfl, _, 64, rfl, rfl, ⟨by decide, by decide⟩, .inl ⟨_, rfl, ?_⟩⟩
    refine ⟨.int n, rfl, _, n, rfl, rfl, by omega, ?_⟩
    exact fin _ _ _ _ d2 bt.da (md _).1 (md _).2
  · obtain ⟨c, hlast⟩ : ∃ c, cells.getLast? = some c := by
      cases h : cells.getLast? with
      | none => exact absurd (List.getLast?_eq_none_iff.mp h) hc
      | some c => exact ⟨c, rfl⟩
    have hsplit : cells = cells.dropLast ++ [c] := by
      have h1 := List.dropLast_concat_getLast hc
      rw [List.getLast?_eq_some_getLast hc] at hlast
      rw [Option.some.inj hlast] at h1
      exact h1.symm
    have hpos : 0 < cells.length := List.length_pos_iff.mpr hc
    have atL : atI (cells.map V.int) (-1) = some (.int c) := by
      rw [hsplit, List.map_append]
      exact atI_last _ _
    have atE : (cells.map V.int)[(cells.map V.int).length - 1]? = some (.int c) := by
      rw [List.length_map, List.getElem?_map, ← List.getLast?_eq_getElem?, hlast]; rfl
    have hdl : (cells.map V.int).dropLast = cells.dropLast.map V.int := by rw [List.map_dropLast]
    rw [show decide ((0 : Int) < (cells.length : Int)) = true from decide_eq_true (by omega)]
    refine iteT ?_
    refine ⟨.ref da, rfl, da, _, 0, .ref ca, rfl, rfl, SqL.of d.d, atI_nat (j := 0) rfl, 1, rfl, ca, _, -1, .int c, rfl, rfl, SqL.of d.c, atL, rfl, _, rfl, ?_⟩
    rw [show (decide (V.int c = V.int 0)) = decide (c = 0) by by_cases h : c = 0 <;> simp [h]]
    refine ite2 (fun h => ?_) (fun h => ?_)
    ·
      refine ⟨_, fun _ _ z => z, .ref da, rfl, da, _, 0, .ref ca, rfl, rfl, SqL.of d.d, atI_nat (j := 0) rfl, .inl ⟨rfl, _, SqL.of d.c⟩, ca, _, .int c, rfl, rfl, d.c, atE, ?_⟩
      rw [hdl]
      exact ⟨_, by rw [List.length_dropLast]; omega, cells.dropLast, mix, rfl, rfl, d.cells' (by rw [List.length_dropLast]; have := d.len; omega), bt.ca⟩
    ·
      refine ⟨.ref da, rfl, da, _, 0, .ref ca, rfl, rfl, SqL.of d.d, atI_nat (j := 0) rfl, ca, cells.map V.int, rfl, .inl (SqL.of d.c), ((cells.map V.int).length : Int), 0, rfl, rfl, _, rfl, ?_⟩
      rw [List.length_map, show decide ((0 : Int) < (cells.length : Int)) = true from decide_eq_true (by omega)]
      refine iteT ?_
      refine ⟨.ref da, rfl, da, _, 0, .ref ca, rfl, rfl, SqL.of d.d, atI_nat (j := 0) rfl, .inl ⟨rfl, _, SqL.of d.c⟩, ca, _, .int c, rfl, rfl, d.c, atE, .inl ⟨c, rfl, ?_⟩⟩
      rw [hdl]
      have d2 : DealAt (upd H' ca (.lst (cells.dropLast.map V.int))) da ca cells.dropLast mix := d.cells' (by rw [List.length_dropLast]; have := d.len; omega)
      refine ⟨.ref da, rfl, da, _, 0, .ref ca, rfl, rfl, SqL.of d2.d, atI_nat (j := 0) rfl, .inl ⟨rfl, _, SqL.of d2.c⟩, .int c, rfl, .int n, rfl, c, n, rfl, rfl, ⟨by omega, by omega⟩, ca, _, .int (c.fdiv n), rfl, rfl, d2.c, ?_, ?_⟩
      · rw [List.length_map, List.length_dropLast, sizeLine_eq]; have := d.len; omega
      have d3 : DealAt (upd (upd H' ca (.lst (cells.dropLast.map V.int))) ca (.lst (cells.dropLast.map V.int ++ [.int (c.fdiv n)]))) da ca (cells.dropLast ++ [c.fdiv n]) mix := by
        have := d2.cells' (cs := cells.dropLast ++ [c.fdiv n]) (by rw [List.length_append, List.length_dropLast, List.length_singleton]; have := d.len; omega)
        rw [List.map_append] at this; exact this
      refine ⟨.int c, rfl, .int n, rfl, c, n, rfl, rfl, by omega, ?_⟩
      exact fin _ _ _ _ d3 bt.ca.ca (md _).1 (md _).2
end
end K62
set_option Elab.async false
set_option linter.all false
set_option maxRecDepth 100000
set_option maxHeartbeats 1000000
namespace K62
open PySem PySem.Spec L2 DL
section
variable {P : Program} {w : World} {K : PySem.W.Frag} {mg : Str → Option Value} {base : Heap} {f : Addr} {fd : FuncData}
def sp_deal : SpD := fun _ ds Q => ∃ (ns : List Int) (salt : Int), ds = [dInts ns, .int salt] ∧ ∀ (cells : List Int) (mix : Int), cells.length ≤ 63 → Q (.lst [dInts cells, .int mix])
theorem ok__law_deal (F : L2.Fun K "_law_deal" "_law_deal" s__law_deal f fd) (T : Txt mg) : FnOk P w K mg base CX0 1 f fd ["script", "salt"] (lift K sp_deal) := by
  refine fn_D F sc__law_deal (fun r ds P ⟨_, _, e, _⟩ => by rw [e]; rfl) fun cdv A outer s G H E r ds Q hr ⟨ns, salt, e, q⟩ => ?_
  subst e
  refine ds_cons ?_
  refine ds_set 2 sc__law_deal.nd rfl (.inr rfl) ?_
  refine DE.mono (Q := IntD fun i => 0 < i) ?_ ?_
  · have big : ∀ i j : Int, i = 10 ^ (64 : Int).toNat → j = 10 ^ (64 : Int).toNat → CPow 10 64 := fun _ _ _ _ => ⟨by decide, by decide, by decide⟩
    have hp : CPow 10 64 := ⟨by decide, by decide, by decide⟩
    refine de_mulW ?_
    refine de_mulW ?_
    refine de_mulW ?_
    refine de_mulW ?_
    refine de_mulW ?_
    refine de_pow ?_
    refine de_int ?_
    refine de_int ?_
    refine ⟨_, _, rfl, rfl, hp, ?_⟩
    refine de_pow ?_
    refine de_int ?_
    refine de_int ?_
    refine ⟨_, _, rfl, rfl, hp, ?_⟩
    refine ⟨_, _, rfl, rfl, by unfold CMulW; decide +kernel, ?_⟩
    refine de_pow ?_
    refine de_int ?_
    refine de_int ?_
    refine ⟨_, _, rfl, rfl, hp, ?_⟩
    refine ⟨_, _, rfl, rfl, by unfold CMulW; decide +kernel, ?_⟩
    refine de_pow ?_
    refine de_int ?_
    refine de_int ?_
    refine ⟨_, _, rfl, rfl, hp, ?_⟩
    refine ⟨_, _, rfl, rfl, by unfold CMulW; decide +kernel, ?_⟩
    refine de_pow ?_
    refine de_int ?_
    refine de_int ?_
    refine ⟨_, _, rfl, rfl, hp, ?_⟩
    refine ⟨_, _, rfl, rfl, by unfold CMulW; decide +kernel, ?_⟩
    refine de_pow ?_
    refine de_int ?_
    refine de_int ?_
    refine ⟨_, _, rfl, rfl, hp, ?_⟩
    refine ⟨_, _, rfl, rfl, by unfold CMulW; decide +kernel, ?_⟩
    exact ⟨_, rfl, by decide +kernel⟩
  rintro _ ⟨M, rfl, hM⟩
  refine ds_cons ?_
  refine ds_par2 3 4 rfl sc__law_deal.nd rfl rfl (by decide) rfl rfl ?_
  refine dx_d ?_
  refine de_fresh ?_
  refine df_lc (T := .n 5) [("cell", 5)] rfl sc__law_deal.nd (blkOk_by (N := N__law_deal) (sc := defScope s__law_deal) (by decide +kernel)) (fun _ _ _ _ _ => pgt_name 5 sc__law_deal.nd rfl (.inl rfl)) (by decide) ?_
  refine di_list ?_
  refine de_fresh ?_
  refine df_slice ?_
  refine de_var 0 rfl (.inl rfl) rfl ?_
  refine do_none ?_
  refine do_some ?_
  refine de_int ?_
  refine ⟨_, rfl, ?_⟩
  refine ⟨_, rfl, ?_⟩
  refine ⟨_, rfl, ?_⟩
  have hcut : ∃ ms : List Int, cut (ns.map D.int) none (some 63) = ms.map D.int ∧ ms.length ≤ 63 := by
    refine ⟨cut ns none (some 63), ?_, ?_⟩
    · unfold cut; rw [List.length_map, ← List.map_drop, ← List.map_take]
    · unfold cut; rw [List.length_take, show HT.sIx ns.length ns.length (some 63) = min 63 ns.length from HT.sIx_nat _ _ 63]; omega
  obtain ⟨ms, em, hms⟩ := hcut
  rw [em]
  refine ⟨by rw [List.length_map]; omega, fun i acc => ∃ cs : List Int, acc = cs.map D.int ∧ cs.length = i, ⟨[], rfl, rfl⟩, fun i x acc hx hI => ?_, fun ys hI => ?_⟩
  · obtain ⟨cs, rfl, hcs⟩ := hI
    rw [List.getElem?_map] at hx
    cases hi : ms[i]? with
    | none => rw [hi] at hx; cases hx
    | some z =>
      rw [hi] at hx; cases hx
      refine fun _ _ _ _ _ => ?_
      refine dts_nil ⟨fun hk => ?_, fun hk => nomatch hk⟩
      refine fun _ _ _ _ _ => ?_
      refine de_mod ?_
      refine de_int1 T.n_int rfl ?_
      refine de_abs T.n_abs rfl ?_
      refine de_int1 T.n_int rfl ?_
      refine de_var 5 rfl (.inl rfl) rfl ?_
      refine ⟨_, rfl, ?_⟩
      refine ⟨_, rfl, ?_⟩
      refine ⟨_, rfl, ?_⟩
      refine de_var 2 rfl (.inr (.inl rfl)) rfl ?_
      refine ⟨_, _, rfl, rfl, by omega, ?_⟩
      exact ⟨cs ++ [_], by rw [List.map_append]; rfl, by rw [List.length_append, hcs]; rfl⟩
  obtain ⟨cs, rfl, hcs⟩ := hI
  rw [List.length_map] at hcs
  refine dx_d ?_
  refine de_add ?_
  refine de_int ?_
  refine de_mul ?_
  refine de_int ?_
  refine de_var 1 rfl (.inl rfl) rfl ?_
  refine ⟨_, _, rfl, rfl, .inl ⟨by decide, by decide⟩, ?_⟩
  refine ⟨_, _, rfl, rfl, ?_⟩
  refine dx_nil ?_
  refine ds_cons ?_
  refine ds_for PassesOwn.never rfl (pgt_name 5 sc__law_deal.nd rfl (.inl rfl)) ?_
  refine di_list ?_
  refine de_var 3 rfl (.inl rfl) rfl ?_
  refine ⟨_, rfl, ?_⟩
  refine ⟨fun i S => ∃ (mix : Int) (x : B), S = [.d (dInts ns), .d (.int salt), .d (.int M), .d (dInts cs), .d (.int mix), x], ⟨_, _, rfl⟩, fun i x S hx hI => ?_, fun S hI => ?_⟩
  · obtain ⟨mix, b5, rfl⟩ := hI
    rw [List.getElem?_map] at hx
    cases hi : cs[i]? with
    | none => rw [hi] at hx; cases hx
    | some z =>
      rw [hi] at hx; cases hx
      refine ds_one ?_
      refine ds_set 4 sc__law_deal.nd rfl (.inl rfl) ?_
      refine de_mod ?_
      refine de_int1 T.n_int rfl ?_
      refine de_add ?_
      refine de_add ?_
      refine de_mul ?_
      refine de_var 4 rfl (.inl rfl) rfl ?_
      refine de_int ?_
      refine ⟨_, _, rfl, rfl, .inr ⟨by decide, by decide⟩, ?_⟩
      refine de_mod ?_
      refine de_int1 T.n_int rfl ?_
      refine de_var 5 rfl (.inl rfl) rfl ?_
      refine ⟨_, rfl, ?_⟩
      refine de_int ?_
      refine ⟨_, _, rfl, rfl, by decide, ?_⟩
      refine ⟨_, _, rfl, rfl, ?_⟩
      refine de_int ?_
      refine ⟨_, _, rfl, rfl, ?_⟩
      refine ⟨_, rfl, ?_⟩
      refine de_int ?_
      refine ⟨_, _, rfl, rfl, by decide, ?_⟩
      exact ⟨_, _, rfl⟩
  obtain ⟨mix, b5, rfl⟩ := hI
  refine ds_one ?_
  refine ds_ret ?_
  refine de_fresh ?_
  refine df_lst ?_
  refine da_cons ?_
  refine de_fresh ?_
  refine df_revL ?_
  refine de_fresh ?_
  refine df_lcP (T := .n 5) [("cell", 5)] rfl sc__law_deal.nd (blkOk_by (N := N__law_deal) (sc := defScope s__law_deal) (by decide +kernel)) (fun _ _ _ _ _ => pgt_name 5 sc__law_deal.nd rfl (.inl rfl)) (by decide) ?_
  refine di_list ?_
  refine de_var 3 rfl (.inl rfl) rfl ?_
  refine ⟨_, rfl, ?_⟩
  refine ⟨by rw [List.length_map]; omega, fun d => decide ((10 : Int) ^ (18 : Int).toNat ≤ rowV d), id, fun x hx => ⟨fun _ _ _ _ _ => ?_, fun hp _ _ _ _ _ => ?_⟩, ?_⟩
  · obtain ⟨z, _, rfl⟩ := List.mem_map.mp hx
    refine dts_one ?_
    refine dt_ge ?_
    refine de_var 5 rfl (.inl rfl) rfl ?_
    refine de_pow ?_
    refine de_int ?_
    refine de_int ?_
    refine ⟨_, _, rfl, rfl, ⟨by decide, by decide, by decide⟩, ?_⟩
    exact ⟨_, _, rfl, rfl, rfl⟩
  · exact de_var 5 rfl (.inl rfl) rfl rfl
  refine ⟨_, rfl, ?_⟩
  refine da_cons ?_
  refine de_var 4 rfl (.inl rfl) rfl ?_
  refine da_nil ?_
  have ef : (((cs.map D.int).filter fun d => decide ((10 : Int) ^ (18 : Int).toNat ≤ rowV d)).map id).reverse = ((cs.filter fun z => decide ((10 : Int) ^ (18 : Int).toNat ≤ z)).reverse).map D.int := by
    rw [List.map_id, List.filter_map, List.map_reverse]; rfl
  rw [ef]
  exact q _ _ (by rw [List.length_reverse]; exact Nat.le_trans (List.length_filter_le _ _) (by omega))
def sp_of : SpD := fun r ds Q => ∃ (da ca : Addr) (xs : List D), r = some (da, ca) ∧ ds = [.adr da, .lst xs] ∧ xs ≠ [] ∧ xs.length ≤ 1000 ∧ ∀ x ∈ xs, Q x
theorem ok__law_of (F : L2.Fun K "_law_of" "_law_of" s__law_of f fd) (T : Txt mg) (G1 : Callee P w K mg base 1 "_law_any" ["deal", "bound"] sp_any) : FnOk P w K mg base CX0 2 f fd ["deal", "some"] (lift K sp_of) := by
  refine fn_D F sc__law_of (fun r ds P ⟨_, _, _, _, e, _⟩ => by rw [e]; rfl) fun cdv A outer s G H E r ds Q hr ⟨da, ca, xs, er, e, hne, hl, q⟩ => ?_
  subst er e
  have hpos : 0 < xs.length := List.length_pos_iff.mpr hne
  refine ds_one ?_
  refine ds_ret ?_
  refine de_ix (fun _ _ => rfl) ?_
  refine de_var 1 rfl (.inl rfl) rfl ?_
  refine de_callC G1 hr rfl ?_
  refine da_cons ?_
  refine de_var 0 rfl (.inl rfl) rfl ?_
  refine da_cons ?_
  refine de_len T.n_len rfl ?_
  refine de_var 1 rfl (.inl rfl) rfl ?_
  refine ⟨_, rfl, ?_⟩
  refine da_nil ?_
  refine ⟨da, ca, _, rfl, rfl, by omega, by omega, fun k h0 h1 => ?_⟩
  have hk : xs[k.toNat]? = some xs[k.toNat] := List.getElem?_eq_getElem (by omega)
  exact ⟨_, _, _, .inl rfl, rfl, at_nn (j := k.toNat) (by omega) hk, q _ (List.getElem_mem _)⟩
end
end K62
set_option Elab.async false
set_option linter.all false
set_option maxRecDepth 100000
set_option maxHeartbeats 1000000
namespace K62
open PySem PySem.Spec L2 DL
section
variable {P : Program} {w : World} {K : PySem.W.Frag} {mg : Str → Option Value} {base : Heap} {f : Addr} {fd : FuncData}
def sp_same1 : SpD := fun _ ds Q => ∃ d, ds = [d, d] ∧ flatD d = true ∧ Q (.bl true)
theorem ok__law_is_kind (F : L2.Fun K "_law_is_kind" "_law_is_kind" s__law_is_kind f fd) (T : Txt mg) : FnOk P w K mg base CX0 1 f fd ["told", "due"] (lift K sp_same1) := by
  refine fn_D F sc__law_is_kind (fun r ds P ⟨_, e, _⟩ => by rw [e]; rfl) fun cdv A outer s G H E r ds Q hr ⟨d, e, hf, q⟩ => ?_
  subst e
  refine ds_cons ?_
  refine ds_if ?_
  refine dt_isN ?_
  refine de_var 1 rfl (.inl rfl) rfl ?_
  refine ⟨fun hk => ?_, fun hkN => ?_⟩
  · refine ds_one ?_
    refine ds_ret ?_
    refine de_isN ?_
    refine de_var 0 rfl (.inl rfl) rfl ?_
    rw [hk]; exact q
  · refine ds_nil ?_
    refine ds_cons ?_
    refine ds_if ?_
    refine dt_whole ?_
    refine dw_orV (isThe true d) (isThe false d) ?_ (fun hb => ?_) ?_
    · refine dt_isThe ?_
      exact de_var 1 rfl (.inl rfl) rfl rfl
    · refine dw_or1 ?_
      refine dt_isThe ?_
      exact de_var 1 rfl (.inl rfl) rfl rfl
    refine ⟨fun hk => ?_, fun hkB => ?_⟩
    · obtain ⟨b, rfl⟩ : ∃ b, d = .bl b := by cases d <;> first | exact ⟨_, rfl⟩ | cases hk
      refine ds_one ?_
      refine ds_ret ?_
      refine de_if ?_
      refine dt_val ?_
      refine de_var 1 rfl (.inl rfl) rfl ?_
      refine ⟨_, rfl, ?_⟩
      refine ⟨fun hk => ?_, fun hk => ?_⟩
      · refine de_isThe ?_
        refine de_var 0 rfl (.inl rfl) rfl ?_
        subst hk; exact q
      · refine de_isThe ?_
        refine de_var 0 rfl (.inl rfl) rfl ?_
        subst hk; exact q
    · refine ds_nil ?_
      refine ds_cons ?_
      refine ds_if ?_
      refine dt_val ?_
      obtain ⟨t, ht⟩ : ∃ t, tyD d = some t := by cases d <;> first | exact ⟨_, rfl⟩ | cases hf
      refine de_isi T.n_isinstance rfl T.n_str rfl PyProof.Rows.boot_str ?_
      refine de_var 1 rfl (.inl rfl) rfl ?_
      refine ⟨_, _, ht, kit_str d ht, ?_⟩
      refine ⟨_, rfl, ?_⟩
      refine ⟨fun hk => ?_, fun hk => ?_⟩
      · obtain ⟨x, rfl⟩ : ∃ x, d = .str x := by cases d <;> first | exact ⟨_, rfl⟩ | cases hk
        refine ds_one ?_
        refine ds_ret ?_
        refine de_andV true true ?_ (fun hb => ?_) ?_
        · refine de_isi T.n_isinstance rfl T.n_str rfl PyProof.Rows.boot_str ?_
          refine de_var 0 rfl (.inl rfl) rfl ?_
          exact ⟨_, _, ht, kit_str _ ht, rfl⟩
        · refine de_one ?_
          refine de_eqS ?_
          refine de_var 0 rfl (.inl rfl) rfl ?_
          refine de_var 1 rfl (.inl rfl) rfl ?_
          exact ⟨_, _, rfl, rfl, by rw [decide_eq_true rfl]⟩
        · exact q
      · refine ds_nil ?_
        obtain ⟨x, rfl⟩ : ∃ x, d = .int x := by
          cases d with
          | int x => exact ⟨_, rfl⟩
          | bl b => cases b <;> cases hkB
          | non => cases hkN
          | str b => cases hk
          | _ => cases hf
        refine ds_one ?_
        refine ds_ret ?_
        refine de_andV true true ?_ (fun hb => ?_) ?_
        · refine de_isi T.n_isinstance rfl T.n_int rfl PyProof.Rows.boot_int ?_
          refine de_var 0 rfl (.inl rfl) rfl ?_
          exact ⟨_, _, ht, kit_int _ ht, rfl⟩
        · refine de_andV true true ?_ (fun hb => ?_) ?_
          · refine de_not ?_
            refine de_isi T.n_isinstance rfl T.n_bool rfl PyProof.Rows.boot_bool ?_
            refine de_var 0 rfl (.inl rfl) rfl ?_
            exact ⟨_, _, ht, kit_bool _ ht, _, rfl, rfl⟩
          · refine de_one ?_
            refine de_eqI ?_
            refine de_var 0 rfl (.inl rfl) rfl ?_
            refine de_var 1 rfl (.inl rfl) rfl ?_
            exact ⟨_, _, rfl, rfl, by rw [decide_eq_true rfl]⟩
          · rfl
        · exact q
theorem ok__law_same (F : L2.Fun K "_law_same" "_law_same" s__law_same f fd) (T : Txt mg) (G1 : Callee P w K mg base 1 "_law_is_kind" ["told", "due"] sp_same1) : FnOk P w K mg base CX0 2 f fd ["told", "due"] (lift K sp_same1) := by
  refine fn_D F sc__law_same (fun r ds P ⟨_, e, _⟩ => by rw [e]; rfl) fun cdv A outer s G H E r ds Q hr ⟨d, e, hf, q⟩ => ?_
  subst e
  obtain ⟨t, ht⟩ : ∃ t, tyD d = some t := by cases d <;> first | exact ⟨_, rfl⟩ | cases hf
  refine ds_cons ?_
  refine ds_setM 2 sc__law_same.nd rfl (.inl rfl) ?_
  refine df_lst ?_
  refine da_cons ?_
  refine de_tup ?_
  refine da_cons ?_
  refine de_var 0 rfl (.inl rfl) rfl ?_
  refine da_cons ?_
  refine de_var 1 rfl (.inl rfl) rfl ?_
  refine da_nil ?_
  refine da_nil ?_
  refine ds_cons ?_
  refine ds_while PassesOwn.never (fun m S => ∃ xs x3 x4, S = [.d d, .d d, .m xs, x3, x4] ∧ m = xs.length ∧ xs.length ≤ 1 ∧ ∀ x ∈ xs, x = .tup [d, d]) 1 ⟨_, _, _, rfl, rfl, Nat.le_refl _, fun x hx => List.mem_singleton.mp hx⟩ fun m S hI => ?_
  obtain ⟨xs, x3, x4, rfl, rfl, hl, hx⟩ := hI
  refine dt_borrow 2 rfl ?_
  refine dt_gt ?_
  refine de_len T.n_len rfl ?_
  refine de_var 2 rfl (.inl rfl) rfl ?_
  refine ⟨_, rfl, ?_⟩
  refine de_int ?_
  refine ⟨_, _, rfl, rfl, ?_⟩
  refine ⟨fun hk => ?_, fun hk => ?_⟩
  · obtain ⟨x, rfl⟩ : ∃ x, xs = [x] := by
      match xs, hl with
      | [], _ => simp at hk
      | [x], _ => exact ⟨x, rfl⟩
    obtain rfl := hx x List.mem_cons_self
    refine ds_cons ?_
    refine ds_pop 2 (pgt_tup rfl (pgn_cons 3 sc__law_same.nd rfl (.inl rfl) (pgn_cons 4 sc__law_same.nd rfl (.inl rfl) (pgn_nil)))) rfl (.inl rfl) rfl rfl ?_
    refine ⟨_, rfl, rfl, ?_⟩
    refine ds_one ?_
    refine ds_if ?_
    refine dt_val ?_
    refine de_isi T.n_isinstance rfl T.n_tuple rfl PyProof.Rows.boot_tuple ?_
    refine de_var 4 rfl (.inl rfl) rfl ?_
    refine ⟨_, _, ht, kit_tuple d ht, ?_⟩
    refine ⟨_, rfl, ?_⟩
    refine ⟨fun hk => ?_, fun hk => ?_⟩
    · exfalso
      cases d <;> first | (cases hf; done) | (cases hk; done)
    · refine ds_one ?_
      refine ds_if ?_
      refine dt_whole ?_
      refine dw_orV false false ?_ (fun hb => ?_) ?_
      · refine dt_val ?_
        refine de_isi2 T.n_isinstance rfl T.n_tuple rfl PyProof.Rows.boot_tuple T.n_list rfl PyProof.Rows.boot_list ?_
        refine de_var 3 rfl (.inl rfl) rfl ?_
        refine ⟨_, _, _, ht, kit_tuple d ht, kit_list d ht, ?_⟩
        refine ⟨_, rfl, ?_⟩
        cases d <;> first | rfl | cases hf
      · refine dw_or1 ?_
        refine dt_not ?_
        refine dt_val ?_
        refine de_callC G1 hr rfl ?_
        refine da_cons ?_
        refine de_var 3 rfl (.inl rfl) rfl ?_
        refine da_cons ?_
        refine de_var 4 rfl (.inl rfl) rfl ?_
        refine da_nil ?_
        exact ⟨d, rfl, hf, _, rfl, rfl⟩
      refine ⟨fun hk => (by cases hk), fun hk => ?_⟩
      refine ds_nil ?_
      exact ⟨0, Nat.zero_lt_one, [], _, _, rfl, rfl, Nat.zero_le _, fun x hx => (by cases hx)⟩
  · refine ds_one ?_
    refine ds_ret ?_
    refine de_bl ?_
    exact q
def sp_all : SpD := fun _ ds Q => ∃ xs : List D, ds = [.lst (xs.map fun d => .tup [d, d])] ∧ (∀ d ∈ xs, flatD d = true) ∧ xs.length ≤ 100000 ∧ Q (.bl true)
theorem ok__law_all (F : L2.Fun K "_law_all" "_law_all" s__law_all f fd) (T : Txt mg) (G1 : Callee P w K mg base 2 "_law_same" ["told", "due"] sp_same1) : FnOk P w K mg base CX0 3 f fd ["pairs"] (lift K sp_all) := by
  refine fn_D F sc__law_all (fun r ds P ⟨_, e, _⟩ => by rw [e]; rfl) fun cdv A outer s G H E r ds Q hr ⟨xs, e, hf, hl, q⟩ => ?_
  subst e
  refine ds_one ?_
  refine ds_ret ?_
  refine de_eqI ?_
  refine de_len T.n_len rfl ?_
  refine de_fresh ?_
  refine df_lcP (T := .t [1, 2]) [("told", 1), ("due", 2)] rfl sc__law_all.nd (blkOk_by (N := N__law_all) (sc := defScope s__law_all) (by decide +kernel)) (fun _ _ _ _ _ => pgt_tup rfl (pgn_cons 1 sc__law_all.nd rfl (.inl rfl) (pgn_cons 2 sc__law_all.nd rfl (.inl rfl) (pgn_nil)))) (by decide) ?_
  refine di_list ?_
  refine de_var 0 rfl (.inl rfl) rfl ?_
  refine ⟨_, rfl, ?_⟩
  refine ⟨by rw [List.length_map]; exact hl, fun _ => false, id, fun x hx => ?_, ?_⟩
  · obtain ⟨d, hd, rfl⟩ := List.mem_map.mp hx
    refine ⟨_, rfl, rfl, fun _ _ _ _ _ => ?_, fun hp => nomatch hp⟩
    refine dts_one ?_
    refine dt_not ?_
    refine dt_val ?_
    refine de_callC G1 hr rfl ?_
    refine da_cons ?_
    refine de_var 1 rfl (.inl rfl) rfl ?_
    refine da_cons ?_
    refine de_var 2 rfl (.inl rfl) rfl ?_
    refine da_nil ?_
    exact ⟨d, rfl, hf d hd, _, rfl, rfl⟩
  refine ⟨_, rfl, ?_⟩
  refine de_int ?_
  refine ⟨_, _, rfl, rfl, ?_⟩
  rw [show ((xs.map fun d => D.tup [d, d]).filter fun _ => false) = [] from List.filter_eq_nil_iff.mpr fun _ _ h => by cases h]
  exact q
end
end K62
set_option Elab.async false
set_option linter.all false
set_option maxRecDepth 100000
set_option maxHeartbeats 1000000
namespace K62
open PySem PySem.Spec L2 DL
section
variable {P : Program} {w : World} {K : PySem.W.Frag} {mg : Str → Option Value} {base : Heap} {f : Addr} {fd : FuncData}
theorem sign13 {z : Str} {k : Int} (hz : z.cps.toList.length = 13) (h0 : 0 ≤ k) (h1 : k < 13) : ∃ c, atI z.cps.toList k = some c :=
  ⟨_, at_nn (j := k.toNat) (by omega) (List.getElem?_eq_getElem (by omega))⟩
def sp_names : SpD := fun r ds Q => ∃ (da ca : Addr) (n : Nat), r = some (da, ca) ∧ ds = [.adr da, .int n] ∧ n ≤ 100 ∧ ∀ ns : List Str, ns.length = n → (∀ s ∈ ns, s.length ≤ 7) → Q (.lst (ns.map D.str))
theorem ok__law_names (F : L2.Fun K "_law_names" "_law_names" s__law_names f fd) (T : Txt mg) (G1 : Callee P w K mg base 1 "_law_any" ["deal", "bound"] sp_any) : FnOk P w K mg base CX0 2 f fd ["deal", "many"] (lift K sp_names) := by
  refine fn_D F sc__law_names (fun r ds P ⟨_, _, _, _, e, _⟩ => by rw [e]; rfl) fun cdv A outer s G H E r ds Q hr ⟨da, ca, n, er, e, hn, q⟩ => ?_
  subst er e
  refine ds_cons ?_
  refine ds_par2 2 3 rfl sc__law_names.nd rfl rfl (by decide) rfl rfl ?_
  refine dx_d ?_
  refine de_callC G1 hr rfl ?_
  refine da_cons ?_
  refine de_var 0 rfl (.inr (.inl rfl)) rfl ?_
  refine da_cons ?_
  refine de_int ?_
  refine da_nil ?_
  refine ⟨da, ca, _, rfl, rfl, by decide, by decide, fun beg b0 b1 => ?_⟩
  refine dx_m ?_
  refine df_lst ?_
  refine da_nil ?_
  refine dx_nil ?_
  refine ds_cons ?_
  refine ds_for PassesOwn.never rfl (pgt_name 4 sc__law_names.nd rfl (.inl rfl)) ?_
  refine di_range1 T.n_range rfl ?_
  refine de_var 1 rfl (.inl rfl) rfl ?_
  refine ⟨_, rfl, by omega, by omega, ?_⟩
  refine ⟨fun i S => ∃ (ns : List Str) (x4 x5 x6 : B), S = [.d (.adr da), .d (.int n), .d (.int beg), .m (ns.map D.str), x4, x5, x6] ∧ ns.length = i ∧ ∀ s ∈ ns, s.length ≤ 7, ⟨[], _, _, _, rfl, rfl, (by simp)⟩, fun i x S hx hI => ?_, fun S hI => ?_⟩
  · obtain ⟨ns, x4, x5, x6, rfl, hl, hs⟩ := hI
    have hin : i < n := by
      have := (List.getElem?_eq_some_iff.mp hx).1
      rw [rangeD_len] at this; omega
    rw [rangeD_get (by omega)] at hx
    cases hx
    refine ds_cons ?_
    refine ds_setLc (T := .n 6) 5 [("spot", 6)] rfl sc__law_names.nd rfl rfl (sw_true rfl rfl rfl (by decide +kernel)) (blkOk_by (N := N__law_names) (sc := defScope s__law_names) (by decide +kernel)) (fun _ _ _ _ _ => pgt_name 6 sc__law_names.nd rfl (.inl rfl)) (by decide) ?_
    refine di_range1 T.n_range rfl ?_
    refine de_add ?_
    refine de_int ?_
    refine de_callC G1 hr rfl ?_
    refine da_cons ?_
    refine de_var 0 rfl (.inr (.inl rfl)) rfl ?_
    refine da_cons ?_
    refine de_int ?_
    refine da_nil ?_
    refine ⟨da, ca, _, rfl, rfl, by decide, by decide, fun k k0 k1 => ?_⟩
    refine ⟨_, _, rfl, rfl, ?_⟩
    refine ⟨_, rfl, by omega, by omega, ?_⟩
    refine ⟨by rw [rangeD_len]; omega, fun j acc => ∃ ls : List Str, acc = ls.map D.str ∧ ls.length = j ∧ ∀ l ∈ ls, l.length ≤ 1, ⟨[], rfl, rfl, (by simp)⟩, fun j x acc hx hJ => ?_, fun ys hJ => ?_⟩
    · obtain ⟨ls, rfl, hj, h1⟩ := hJ
      refine fun _ _ _ _ _ => ?_
      refine dts_nil ⟨fun hk => ?_, fun hk => nomatch hk⟩
      refine fun _ _ _ _ _ => ?_
      refine de_ixS (fun _ _ => rfl) ?_
      refine de_str ?_
      refine de_callC G1 hr rfl ?_
      refine da_cons ?_
      refine de_var 0 rfl (.inr (.inl rfl)) rfl ?_
      refine da_cons ?_
      refine de_int ?_
      refine da_nil ?_
      refine ⟨da, ca, _, rfl, rfl, by decide, by decide, fun k' k0' k1' => ?_⟩
      obtain ⟨c, hc⟩ := sign13 (z := "nopqrstuvwxyz") (by decide +kernel) k0' k1'
      refine ⟨_, _, c, rfl, rfl, by decide +kernel, hc, ?_⟩
      refine ⟨ls ++ [⟨#[c]⟩], by rw [List.map_append]; rfl, by rw [List.length_append, hj]; rfl, fun l hl => ?_⟩
      rcases List.mem_append.mp hl with hl | hl
      · exact h1 l hl
      · rw [List.mem_singleton] at hl; subst hl; exact Nat.le_refl 1
    obtain ⟨ls, rfl, hj, h1⟩ := hJ
    rw [rangeD_len] at hj
    refine ds_cons ?_
    refine ds_insert 5 rfl (.inl rfl) rfl (by rw [List.length_map]; omega) ?_
    refine de_callC G1 hr rfl ?_
    refine da_cons ?_
    refine de_var 0 rfl (.inr (.inl rfl)) rfl ?_
    refine da_cons ?_
    refine de_borrow 5 rfl ?_
    refine de_add ?_
    refine de_len T.n_len rfl ?_
    refine de_var 5 rfl (.inl rfl) rfl ?_
    refine ⟨_, rfl, ?_⟩
    refine de_int ?_
    refine ⟨_, _, rfl, rfl, ?_⟩
    refine ⟨rfl, ?_⟩
    rw [List.length_map]
    refine da_nil ?_
    refine ⟨da, ca, _, rfl, rfl, by omega, by omega, fun p p0 p1 => ?_⟩
    refine de_ixS (fun _ _ => rfl) ?_
    refine de_str ?_
    refine de_mod ?_
    refine de_int1 T.n_int rfl ?_
    refine de_add ?_
    refine de_var 2 rfl (.inl rfl) rfl ?_
    refine de_var 4 rfl (.inl rfl) rfl ?_
    refine ⟨_, _, rfl, rfl, ?_⟩
    refine ⟨_, rfl, ?_⟩
    refine de_int ?_
    refine ⟨_, _, rfl, rfl, by decide, ?_⟩
    obtain ⟨c, hc⟩ := sign13 (z := "abcdefghijklm") (k := (beg + (0 + (i : Int))).fmod 13) (by decide +kernel) (by rw [Int.fmod_eq_emod_of_nonneg _ (by omega)]; omega) (by rw [Int.fmod_eq_emod_of_nonneg _ (by omega)]; omega)
    refine ⟨_, _, c, rfl, rfl, by decide +kernel, hc, ?_⟩
    refine ⟨p.toNat, by rw [Int.toNat_of_nonneg p0], by omega, ?_⟩
    have em : (ls.map D.str).take p.toNat ++ [D.str ⟨#[c]⟩] ++ (ls.map D.str).drop p.toNat = (ls.take p.toNat ++ [(⟨#[c]⟩ : Str)] ++ ls.drop p.toNat).map D.str := by
      rw [List.map_append, List.map_append, List.map_take, List.map_drop]; rfl
    rw [em]
    have hall : ∀ l ∈ ls.take p.toNat ++ [(⟨#[c]⟩ : Str)] ++ ls.drop p.toNat, l.length ≤ 1 := fun l hl => by
      rcases List.mem_append.mp hl with hl | hl
      · rcases List.mem_append.mp hl with hl | hl
        · exact h1 l (List.mem_of_mem_take hl)
        · rw [List.mem_singleton] at hl; subst hl; exact Nat.le_refl 1
      · exact h1 l (List.mem_of_mem_drop hl)
    have hlen : (ls.take p.toNat ++ [(⟨#[c]⟩ : Str)] ++ ls.drop p.toNat).length ≤ 7 := by
      rw [List.length_append, List.length_append, List.length_take, List.length_drop, List.length_singleton]; omega
    generalize ls.take p.toNat ++ [(⟨#[c]⟩ : Str)] ++ ls.drop p.toNat = zs at hall hlen
    refine ds_one ?_
    refine ds_append 3 rfl (.inl rfl) rfl (by rw [List.length_map]; omega) ?_
    refine de_borrow 5 rfl ?_
    refine de_join ?_
    refine de_str ?_
    refine ⟨_, rfl, ?_⟩
    refine de_var 5 rfl (.inl rfl) rfl ?_
    obtain ⟨j1, j2⟩ := join_few (z := "") (n := 1) rfl hall
    refine ⟨zs, .inl rfl, by omega, rfl, ?_⟩
    refine ⟨ns ++ [Txt.join "" zs], _, _, _, by rw [List.map_append]; rfl, by rw [List.length_append, hl]; rfl, fun s hs' => ?_⟩
    rcases List.mem_append.mp hs' with h | h
    · exact hs s h
    · rw [List.mem_singleton] at h; subst h; omega
  · obtain ⟨ns, x4, x5, x6, rfl, hl, hs⟩ := hI
    rw [rangeD_len] at hl
    refine ds_one ?_
    exact ds_retM 3 rfl (.inl rfl) rfl (q ns (by omega) hs)
def sp_words : SpD := fun r ds Q => ∃ (da ca : Addr), r = some (da, ca) ∧ ds = [.adr da] ∧ ∀ a b : Str, Q (.lst [.str a, .str b])
theorem ok__law_words (F : L2.Fun K "_law_words" "_law_words" s__law_words f fd) (T : Txt mg) (G1 : Callee P w K mg base 2 "_law_names" ["deal", "many"] sp_names) : FnOk P w K mg base CX0 3 f fd ["deal"] (lift K sp_words) := by
  refine fn_D F sc__law_words (fun r ds P ⟨_, _, _, e, _⟩ => by rw [e]; rfl) fun cdv A outer s G H E r ds Q hr ⟨da, ca, er, e, q⟩ => ?_
  subst er e
  refine ds_one ?_
  refine ds_ret ?_
  refine de_fresh ?_
  refine df_lc (T := .n 1) [("name", 1)] rfl sc__law_words.nd (blkOk_by (N := N__law_words) (sc := defScope s__law_words) (by decide +kernel)) (fun _ _ _ _ _ => pgt_name 1 sc__law_words.nd rfl (.inl rfl)) (by decide) ?_
  refine di_list ?_
  refine de_callC G1 hr rfl ?_
  refine da_cons ?_
  refine de_var 0 rfl (.inl rfl) rfl ?_
  refine da_cons ?_
  refine de_int ?_
  refine da_nil ?_
  refine ⟨da, ca, 2, rfl, rfl, by decide, fun ns hn hs => ?_⟩
  refine ⟨_, rfl, ?_⟩
  refine ⟨by rw [List.length_map, hn]; decide, fun j acc => ∃ ls : List Str, acc = ls.map D.str ∧ ls.length = j, ⟨[], rfl, rfl⟩, fun j x acc hx hJ => ?_, fun ys hJ => ?_⟩
  · obtain ⟨ls, rfl, hj⟩ := hJ
    obtain ⟨nm, hnm, rfl⟩ := List.mem_map.mp (List.mem_of_getElem? hx)
    refine fun _ _ _ _ _ => ?_
    refine dts_nil ⟨fun hk => ?_, fun hk => nomatch hk⟩
    refine fun _ _ _ _ _ => ?_
    refine de_if ?_
    refine dt_inS rfl ?_
    refine de_var 1 rfl (.inl rfl) rfl ?_
    refine de_fresh ?_
    refine df_lst ?_
    refine da_cons ?_
    refine de_str ?_
    refine da_cons ?_
    refine de_str ?_
    refine da_nil ?_
    refine ⟨_, ["sum", "use"], rfl, .inl rfl, ?_⟩
    refine ⟨fun hk => ?_, fun hk => ?_⟩
    · refine de_catS ?_
      refine de_var 1 rfl (.inl rfl) rfl ?_
      refine de_str ?_
      refine ⟨_, _, rfl, rfl, by have := hs nm hnm; rw [show ("q" : Str).length = 1 from rfl]; omega, ?_⟩
      exact ⟨ls ++ [_], by rw [List.map_append]; rfl, by rw [List.length_append, hj]; rfl⟩
    · refine de_var 1 rfl (.inl rfl) rfl ?_
      exact ⟨ls ++ [_], by rw [List.map_append]; rfl, by rw [List.length_append, hj]; rfl⟩
  · obtain ⟨ls, rfl, hj⟩ := hJ
    rw [List.length_map, hn] at hj
    match ls, hj with
    | [a, b], _ => exact q a b
def strsT (xs : List Str) : D := .tup (xs.map D.str)
def kindD (m t a : List Str) : D := .tup [strsT m, strsT t, strsT a]
def sp_kind : SpD := fun r ds Q => ∃ (da ca : Addr) (a b : Str), r = some (da, ca) ∧ ds = [.adr da, .lst [.str a, .str b]] ∧ ∀ m t ar : List Str, m.length ≤ 1 → t.length ≤ 1 → ar.length ≤ 1 → Q (kindD m t ar)
theorem ok__law_kind (F : L2.Fun K "_law_kind" "_law_kind" s__law_kind f fd) (T : Txt mg) (G1 : Callee P w K mg base 2 "_law_of" ["deal", "some"] sp_of) : FnOk P w K mg base CX0 3 f fd ["deal", "names"] (lift K sp_kind) := by
  refine fn_D F sc__law_kind (fun r ds P ⟨_, _, _, _, _, e, _⟩ => by rw [e]; rfl) fun cdv A outer s G H E r ds Q hr ⟨da, ca, a, b, er, e, q⟩ => ?_
  subst er e
  refine ds_one ?_
  refine ds_ret ?_
  refine de_callC G1 hr rfl ?_
  refine da_cons ?_
  refine de_var 0 rfl (.inl rfl) rfl ?_
  refine da_cons ?_
  refine de_fresh ?_
  refine df_lst ?_
  refine da_cons ?_
  refine de_tup ?_
  refine da_cons ?_
  refine de_tup ?_
  refine da_nil ?_
  refine da_cons ?_
  refine de_tup ?_
  refine da_cons ?_
  refine de_ix (fun _ _ => rfl) ?_
  refine de_var 1 rfl (.inl rfl) rfl ?_
  refine de_int ?_
  refine ⟨_, _, .str a, .inl rfl, rfl, rfl, ?_⟩
  refine da_nil ?_
  refine da_cons ?_
  refine de_tup ?_
  refine da_nil ?_
  refine da_nil ?_
  refine da_cons ?_
  refine de_tup ?_
  refine da_cons ?_
  refine de_tup ?_
  refine da_nil ?_
  refine da_cons ?_
  refine de_tup ?_
  refine da_cons ?_
  refine de_ix (fun _ _ => rfl) ?_
  refine de_var 1 rfl (.inl rfl) rfl ?_
  refine de_int ?_
  refine ⟨_, _, .str a, .inl rfl, rfl, rfl, ?_⟩
  refine da_nil ?_
  refine da_cons ?_
  refine de_tup ?_
  refine da_nil ?_
  refine da_nil ?_
  refine da_cons ?_
  refine de_tup ?_
  refine da_cons ?_
  refine de_tup ?_
  refine da_cons ?_
  refine de_ix (fun _ _ => rfl) ?_
  refine de_var 1 rfl (.inl rfl) rfl ?_
  refine de_int ?_
  refine ⟨_, _, .str b, .inl rfl, rfl, rfl, ?_⟩
  refine da_nil ?_
  refine da_cons ?_
  refine de_tup ?_
  refine da_cons ?_
  refine de_ix (fun _ _ => rfl) ?_
  refine de_var 1 rfl (.inl rfl) rfl ?_
  refine de_int ?_
  refine ⟨_, _, .str a, .inl rfl, rfl, rfl, ?_⟩
  refine da_nil ?_
  refine da_cons ?_
  refine de_tup ?_
  refine da_nil ?_
  refine da_nil ?_
  refine da_cons ?_
  refine de_tup ?_
  refine da_cons ?_
  refine de_tup ?_
  refine da_nil ?_
  refine da_cons ?_
  refine de_tup ?_
  refine da_nil ?_
  refine da_cons ?_
  refine de_tup ?_
  refine da_cons ?_
  refine de_ix (fun _ _ => rfl) ?_
  refine de_var 1 rfl (.inl rfl) rfl ?_
  refine de_int ?_
  refine ⟨_, _, .str a, .inl rfl, rfl, rfl, ?_⟩
  refine da_nil ?_
  refine da_nil ?_
  refine da_nil ?_
  refine da_nil ?_
  refine ⟨da, ca, _, rfl, rfl, by simp, (by show 4 ≤ 1000; decide), fun x hx => ?_⟩
  rcases List.mem_cons.mp hx with rfl | hx
  · exact q [] [a] [] (by simp) (by simp) (by simp)
  rcases List.mem_cons.mp hx with rfl | hx
  · exact q [] [a] [] (by simp) (by simp) (by simp)
  rcases List.mem_cons.mp hx with rfl | hx
  · exact q [b] [a] [] (by simp) (by simp) (by simp)
  rcases List.mem_cons.mp hx with rfl | hx
  · exact q [] [] [a] (by simp) (by simp) (by simp)
  cases hx
def sp_near_all : SpD := fun _ ds Q => ∃ (near : List (List Int)) (ps : List Int), ds = [.lst (near.map dInts), dInts ps] ∧ (∀ p ∈ ps, 0 ≤ p ∧ p < (near.length : Int)) ∧ (∀ l ∈ near, l.length ≤ 7) ∧ ps.length ≤ 7 ∧
  ∀ ms : List Int, ms.Pairwise (· < ·) → (∀ k, k ∈ ms ↔ ∃ p ∈ ps, k ∈ near.getD p.toNat []) → Q (dInts ms)
theorem ok__law_near_all (F : L2.Fun K "_law_near_all" "_law_near_all" s__law_near_all f fd) (T : Txt mg) : FnOk P w K mg base CX0 1 f fd ["near", "points"] (lift K sp_near_all) := by
  refine fn_D F sc__law_near_all (fun r ds P ⟨_, _, e, _⟩ => by rw [e]; rfl) fun cdv A outer s G H E r ds Q hr ⟨near, ps, e, hp, hn, hl, q⟩ => ?_
  subst e
  refine ds_cons ?_
  refine ds_set 2 sc__law_near_all.nd rfl (.inl rfl) ?_
  refine de_fresh ?_
  refine df_lst ?_
  refine da_nil ?_
  refine ds_cons ?_
  refine ds_for PassesOwn.never rfl (pgt_name 3 sc__law_near_all.nd rfl (.inl rfl)) ?_
  refine di_list ?_
  refine de_var 1 rfl (.inl rfl) rfl ?_
  refine ⟨_, rfl, ?_⟩
  refine ⟨fun i S => ∃ (fs : List Int) (x : B), S = [.d (.lst (near.map dInts)), .d (dInts ps), .d (dInts fs), x] ∧ fs.length ≤ 7 * i ∧ ∀ k, k ∈ fs ↔ ∃ p ∈ ps.take i, k ∈ near.getD p.toNat [], ⟨[], _, rfl, by simp, by simp⟩, fun i x S hx hI => ?_, fun S hI => ?_⟩
  · obtain ⟨fs, x3, rfl, hfl, hk⟩ := hI
    rw [List.getElem?_map] at hx
    cases hi : ps[i]? with
    | none => rw [hi] at hx; cases hx
    | some p =>
      rw [hi] at hx; cases hx
      have hpm := List.mem_of_getElem? hi
      have hil := (List.getElem?_eq_some_iff.mp hi).1
      obtain ⟨p0, p1⟩ := hp p hpm
      have hg : near[p.toNat]? = some (near.getD p.toNat []) := by
        rw [List.getD_eq_getElem?_getD, List.getElem?_eq_getElem (show p.toNat < near.length by omega)]; rfl
      have hgl := hn _ (List.mem_of_getElem? hg)
      refine ds_one ?_
      refine ds_set 2 sc__law_near_all.nd rfl (.inl rfl) ?_
      refine de_fresh ?_
      refine df_cat ?_
      refine de_var 2 rfl (.inl rfl) rfl ?_
      refine de_ix (fun _ _ => rfl) ?_
      refine de_var 0 rfl (.inl rfl) rfl ?_
      refine de_var 3 rfl (.inl rfl) rfl ?_
      refine ⟨_, _, _, .inl rfl, rfl, at_nn (j := p.toNat) (v := dInts (near.getD p.toNat [])) (by omega) (by rw [List.getElem?_map, hg]; rfl), ?_⟩
      refine ⟨_, _, rfl, rfl, by rw [List.length_map, List.length_map]; omega, ?_⟩
      refine ⟨fs ++ near.getD p.toNat [], _, by rw [← List.map_append]; rfl, by rw [List.length_append]; omega, fun k => ?_⟩
      rw [List.mem_append, hk, List.take_add_one, hi]
      constructor
      · rintro (⟨p', h1, h2⟩ | h)
        · exact ⟨p', List.mem_append_left _ h1, h2⟩
        · exact ⟨p, List.mem_append_right _ (by simp), h⟩
      · rintro ⟨p', h1, h2⟩
        rcases List.mem_append.mp h1 with h1 | h1
        · exact .inl ⟨p', h1, h2⟩
        · rw [Option.toList_some, List.mem_singleton] at h1; subst h1; exact .inr h2
  · obtain ⟨fs, x3, rfl, hfl, hk⟩ := hI
    rw [List.length_map] at hfl hk
    rw [List.take_length] at hk
    refine ds_one ?_
    refine ds_ret ?_
    refine de_fresh ?_
    refine df_sortedSet rfl T.n_sorted rfl T.n_set rfl ?_
    refine de_var 2 rfl (.inl rfl) rfl ?_
    exact ⟨fs, rfl, by omega, fun ms h1 h2 => q ms h1 fun k => (h2 k).trans (hk k)⟩
end
end K62
set_option Elab.async false
set_option linter.all false
set_option maxRecDepth 100000
set_option maxHeartbeats 1000000
namespace K62
open PySem PySem.Spec L2 DL PySem.W
section
variable {P : Program} {w : World} {K : PySem.W.Frag} {mg : Str → Option Value} {base : Heap} {f : Addr} {fd : FuncData}
theorem toPys_ints : ∀ xs : List Int, toPys (xs.map D.int) = xs.map PyData.int
  | [] => by unfold toPys; rfl
  | x :: xs => by rw [List.map_cons]; unfold toPys; rw [toPys_ints xs]; unfold toPy; rfl
theorem toPy_fact (ft : Fact) : toPy (factD ft) = .tuple [.str ft.1, .tuple (ft.2.map PyData.int)] := by
  unfold factD tInts toPy
  unfold toPys; unfold toPys; unfold toPys
  unfold toPy; rw [toPys_ints]
theorem alike_ints : ∀ xs ys : List Int, alikeAll (xs.map PyData.int) (ys.map PyData.int) = true
  | [], _ => by rw [List.map_nil]; unfold alikeAll; rfl
  | x :: xs, [] => by rw [List.map_cons, List.map_nil]; unfold alikeAll; rfl
  | x :: xs, y :: ys => by rw [List.map_cons, List.map_cons]; unfold alikeAll; rw [alike_ints xs ys]; unfold alike; rfl
theorem alike_facts (a b : Fact) : alike (toPy (factD a)) (toPy (factD b)) = true := by
  rw [toPy_fact, toPy_fact]
  unfold alike
  unfold alikeAll
  unfold alikeAll
  unfold alike
  rw [alike_ints]
  unfold alikeAll; rfl
theorem plain_ints : ∀ xs : List Int, plainDs (xs.map D.int) = true
  | [] => by unfold plainDs; rfl
  | x :: xs => by rw [List.map_cons]; unfold plainDs; rw [plain_ints xs]; unfold plainD; rfl
theorem plain_fact (ft : Fact) : plainD (factD ft) = true := by
  unfold factD tInts
  unfold plainD plainDs plainDs plainDs plainD
  rw [plain_ints]; rfl
theorem depth_ints : ∀ xs : List Int, PyData.depthAll (xs.map PyData.int) ≤ 1
  | [] => by decide
  | x :: xs => by
    rw [List.map_cons]
    have := depth_ints xs
    simp only [PyData.depthAll, PyData.depth]; omega
theorem depth_fact (ft : Fact) : (toPy (factD ft)).depth ≤ 8 := by
  rw [toPy_fact]
  have := depth_ints ft.2
  simp only [PyData.depth, PyData.depthAll]; omega
theorem ties_D (t : List Str) (c : Bool) (a b : Int) : (((t.map D.str).filter fun _ => c).map fun d => D.tup [d, .tup [.int a, .int b]]) = ((t.filter fun _ => c).map fun nm => ((nm, [a, b]) : Fact)).map factD := by
  rw [List.map_map, List.filter_map, List.map_map]; rfl
def sp_all_facts : SpD := fun _ ds Q => ∃ (m t a : List Str) (n : Nat), ds = [kindD m t a, .int n] ∧ m.length ≤ 1 ∧ t.length ≤ 1 ∧ a.length ≤ 1 ∧ n ≤ 7 ∧ ∀ fs : List Fact, FactsOk n fs → fs.length ≤ 200 → Q (.lst (fs.map factD))
theorem ok__law_all_facts (F : L2.Fun K "_law_all_facts" "_law_all_facts" s__law_all_facts f fd) (T : Txt mg) : FnOk P w K mg base CX0 1 f fd ["kind", "size"] (lift K sp_all_facts) := by
  refine fn_D F sc__law_all_facts (fun r ds P ⟨_, _, _, _, e, _⟩ => by rw [e]; rfl) fun cdv A outer s G H E r ds Q hr ⟨m, t, a, n, e, hm, ht, ha, hn, q⟩ => ?_
  subst e
  have hmem : ∀ (fs gs : List Fact), FactsOk n fs → FactsOk n gs → FactsOk n (fs ++ gs) := fun fs gs h1 h2 ft hf => by
    rcases List.mem_append.mp hf with h | h
    · exact h1 ft h
    · exact h2 ft h
  refine ds_cons ?_
  refine ds_set 2 sc__law_all_facts.nd rfl (.inl rfl) ?_
  refine de_fresh ?_
  refine df_lst ?_
  refine da_nil ?_
  refine ds_cons ?_
  refine ds_for PassesOwn.never rfl (pgt_name 3 sc__law_all_facts.nd rfl (.inr rfl)) ?_
  refine di_tup ?_
  refine de_ix (fun _ _ => rfl) ?_
  refine de_var 0 rfl (.inl rfl) rfl ?_
  refine de_int ?_
  refine ⟨_, _, strsT m, .inr rfl, rfl, rfl, ?_⟩
  refine ⟨_, rfl, ?_⟩
  refine ⟨fun i S => ∃ (fs : List Fact) (x3 x4 x5 x6 : B), S = [.d (kindD m t a), .d (.int n), .d (.lst (fs.map factD)), x3, x4, x5, x6] ∧ FactsOk n fs ∧ fs.length ≤ 7 * i, ⟨[], _, _, _, _, rfl, (fun _ h => nomatch h), Nat.zero_le _⟩, fun i x S hx hI => ?_, fun S hI => ?_⟩
  · obtain ⟨fs, x3, x4, x5, x6, rfl, hf, hl⟩ := hI
    have hil := (List.getElem?_eq_some_iff.mp hx).1
    rw [List.length_map] at hil
    obtain ⟨nm, hnm, rfl⟩ := List.mem_map.mp (List.mem_of_getElem? hx)
    refine ds_one ?_
    refine ds_set 2 sc__law_all_facts.nd rfl (.inl rfl) ?_
    refine de_fresh ?_
    refine df_cat ?_
    refine de_var 2 rfl (.inl rfl) rfl ?_
    refine de_fresh ?_
    refine df_lcP (T := .n 6) [("point", 6)] rfl sc__law_all_facts.nd (blkOk_by (N := N__law_all_facts) (sc := defScope s__law_all_facts) (by decide +kernel)) (fun _ _ _ _ _ => pgt_name 6 sc__law_all_facts.nd rfl (.inl rfl)) (by decide) ?_
    refine di_range1 T.n_range rfl ?_
    refine de_var 1 rfl (.inl rfl) rfl ?_
    refine ⟨_, rfl, by omega, by omega, ?_⟩
    refine ⟨by rw [rangeD_len]; omega, fun _ => true, fun d => .tup [.str nm, .tup [d]], fun x hx => ⟨fun _ _ _ _ _ => dts_nil rfl, fun hp _ _ _ _ _ => ?_⟩, ?_⟩
    · refine de_tup ?_
      refine da_cons ?_
      refine de_var 3 rfl (.inr (.inl rfl)) rfl ?_
      refine da_cons ?_
      refine de_tup ?_
      refine da_cons ?_
      refine de_var 6 rfl (.inl rfl) rfl ?_
      refine da_nil ?_
      refine da_nil ?_
      rfl
    have ee : (((rangeD 0 ((n : Int)).toNat).filter fun _ => true).map fun d => D.tup [.str nm, .tup [d]]) = ((List.range n).map fun (i : Nat) => ((nm, [(0 + (i : Int))]) : Fact)).map factD := by
      rw [List.filter_eq_self.mpr fun _ _ => rfl, List.map_map]
      unfold rangeD
      rw [List.map_map]; rfl
    rw [ee]
    refine ⟨_, _, rfl, rfl, by rw [List.length_map, List.length_map, List.length_map, List.length_range]; omega, ?_⟩
    refine ⟨fs ++ (List.range n).map fun (i : Nat) => ((nm, [(0 + (i : Int))]) : Fact), _, _, _, _, by rw [← List.map_append]; rfl, hmem _ _ hf fun ft h => ?_, by rw [List.length_append, List.length_map, List.length_range]; omega⟩
    obtain ⟨j, hj, rfl⟩ := List.mem_map.mp h
    have := List.mem_range.mp hj
    exact .inl ⟨_, rfl, by omega, by omega⟩
  obtain ⟨fs, x3, x4, x5, x6, rfl, hf, hl⟩ := hI
  rw [List.length_map] at hl
  replace hl : fs.length ≤ 7 := by omega
  refine ds_cons ?_
  refine ds_for PassesOwn.never rfl (pgt_name 4 sc__law_all_facts.nd rfl (.inr rfl)) ?_
  refine di_range1 T.n_range rfl ?_
  refine de_var 1 rfl (.inl rfl) rfl ?_
  refine ⟨_, rfl, by omega, by omega, ?_⟩
  refine ⟨fun i S => ∃ (fs : List Fact) (x3 x4 x5 x6 : B), S = [.d (kindD m t a), .d (.int n), .d (.lst (fs.map factD)), x3, x4, x5, x6] ∧ FactsOk n fs ∧ fs.length ≤ 7 + 14 * i, ⟨fs, _, _, _, _, rfl, hf, by omega⟩, fun i x S hx hI => ?_, fun S hI => ?_⟩
  · clear hf hl fs
    obtain ⟨fs, x3, x4, x5, x6, rfl, hf, hl⟩ := hI
    have hin : i < n := by
      have := (List.getElem?_eq_some_iff.mp hx).1
      rw [rangeD_len] at this; omega
    rw [rangeD_get (by omega)] at hx
    cases hx
    refine ds_one ?_
    refine ds_for PassesOwn.never rfl (pgt_name 5 sc__law_all_facts.nd rfl (.inr rfl)) ?_
    refine di_range1 T.n_range rfl ?_
    refine de_var 1 rfl (.inl rfl) rfl ?_
    refine ⟨_, rfl, by omega, by omega, ?_⟩
    refine ⟨fun j S => ∃ (fs : List Fact) (x3 x5 x6 : B), S = [.d (kindD m t a), .d (.int n), .d (.lst (fs.map factD)), x3, .d (.int (0 + (i : Int))), x5, x6] ∧ FactsOk n fs ∧ fs.length ≤ 7 + 14 * i + 2 * j, ⟨fs, _, _, _, rfl, hf, by omega⟩, fun j x S hx hI => ?_, fun S hI => ?_⟩
    · clear hf hl fs
      obtain ⟨fs, x3, x5, x6, rfl, hf, hl⟩ := hI
      have hjn : j < n := by
        have := (List.getElem?_eq_some_iff.mp hx).1
        rw [rangeD_len] at this; omega
      rw [rangeD_get (by omega)] at hx
      cases hx
      refine ds_one ?_
      refine ds_set 2 sc__law_all_facts.nd rfl (.inl rfl) ?_
      refine de_fresh ?_
      refine df_cat ?_
      refine de_fresh ?_
      refine df_cat ?_
      refine de_var 2 rfl (.inl rfl) rfl ?_
      refine de_fresh ?_
      refine df_lcP (T := .n 3) [("name", 3)] rfl sc__law_all_facts.nd (blkOk_by (N := N__law_all_facts) (sc := defScope s__law_all_facts) (by decide +kernel)) (fun _ _ _ _ _ => pgt_name 3 sc__law_all_facts.nd rfl (.inl rfl)) (by decide) ?_
      refine di_tup ?_
      refine de_ix (fun _ _ => rfl) ?_
      refine de_var 0 rfl (.inl rfl) rfl ?_
      refine de_int ?_
      refine ⟨_, _, strsT t, .inr rfl, rfl, rfl, ?_⟩
      refine ⟨_, rfl, ?_⟩
      refine ⟨by rw [List.length_map]; omega, fun _ => decide ((0 + (i : Int)) < (0 + (j : Int))), fun d => .tup [d, .tup [.int (0 + (i : Int)), .int (0 + (j : Int))]], fun x hx => ⟨fun _ _ _ _ _ => ?_, fun hp _ _ _ _ _ => ?_⟩, ?_⟩
      · refine dts_one ?_
        refine dt_lt ?_
        refine de_var 4 rfl (.inr (.inl rfl)) rfl ?_
        refine de_var 5 rfl (.inr (.inl rfl)) rfl ?_
        exact ⟨_, _, rfl, rfl, rfl⟩
      · refine de_tup ?_
        refine da_cons ?_
        refine de_var 3 rfl (.inl rfl) rfl ?_
        refine da_cons ?_
        refine de_tup ?_
        refine da_cons ?_
        refine de_var 4 rfl (.inr (.inl rfl)) rfl ?_
        refine da_cons ?_
        refine de_var 5 rfl (.inr (.inl rfl)) rfl ?_
        refine da_nil ?_
        refine da_nil ?_
        rfl
      rw [ties_D]
      have l1 := List.length_filter_le (fun _ => decide ((0 + (i : Int)) < (0 + (j : Int)))) t
      refine ⟨_, _, rfl, rfl, by rw [List.length_map, List.length_map, List.length_map]; omega, ?_⟩
      refine de_fresh ?_
      refine df_lcP (T := .n 3) [("name", 3)] rfl sc__law_all_facts.nd (blkOk_by (N := N__law_all_facts) (sc := defScope s__law_all_facts) (by decide +kernel)) (fun _ _ _ _ _ => pgt_name 3 sc__law_all_facts.nd rfl (.inl rfl)) (by decide) ?_
      refine di_tup ?_
      refine de_ix (fun _ _ => rfl) ?_
      refine de_var 0 rfl (.inl rfl) rfl ?_
      refine de_int ?_
      refine ⟨_, _, strsT a, .inr rfl, rfl, rfl, ?_⟩
      refine ⟨_, rfl, ?_⟩
      refine ⟨by rw [List.length_map]; omega, fun _ => !decide ((0 + (i : Int)) = (0 + (j : Int))), fun d => .tup [d, .tup [.int (0 + (i : Int)), .int (0 + (j : Int))]], fun x hx => ⟨fun _ _ _ _ _ => ?_, fun hp _ _ _ _ _ => ?_⟩, ?_⟩
      · refine dts_one ?_
        refine dt_neI ?_
        refine de_var 4 rfl (.inr (.inl rfl)) rfl ?_
        refine de_var 5 rfl (.inr (.inl rfl)) rfl ?_
        exact ⟨_, _, rfl, rfl, rfl⟩
      · refine de_tup ?_
        refine da_cons ?_
        refine de_var 3 rfl (.inl rfl) rfl ?_
        refine da_cons ?_
        refine de_tup ?_
        refine da_cons ?_
        refine de_var 4 rfl (.inr (.inl rfl)) rfl ?_
        refine da_cons ?_
        refine de_var 5 rfl (.inr (.inl rfl)) rfl ?_
        refine da_nil ?_
        refine da_nil ?_
        rfl
      rw [ties_D]
      have l2 := List.length_filter_le (fun _ => !decide ((0 + (i : Int)) = (0 + (j : Int)))) a
      refine ⟨_, _, rfl, rfl, by rw [List.length_append, List.length_map, List.length_map, List.length_map, List.length_map, List.length_map]; omega, ?_⟩
      have hpair : ∀ (xs : List Str), FactsOk n (xs.map fun nm => ((nm, [(0 + (i : Int)), (0 + (j : Int))]) : Fact)) := fun xs ft h => by
        obtain ⟨nm, _, rfl⟩ := List.mem_map.mp h
        exact .inr ⟨_, _, rfl, by omega, by omega, by omega, by omega⟩
      refine ⟨_, _, _, _, by rw [← List.map_append, ← List.map_append]; rfl, hmem _ _ (hmem _ _ hf (hpair _)) (hpair _), by rw [List.length_append, List.length_append, List.length_map, List.length_map]; omega⟩
    · clear hf hl fs
      obtain ⟨fs, x3, x5, x6, rfl, hf, hl⟩ := hI
      rw [rangeD_len] at hl
      exact ⟨fs, _, _, _, _, rfl, hf, by omega⟩
  clear hf hl fs
  obtain ⟨fs, x3, x4, x5, x6, rfl, hf, hl⟩ := hI
  rw [rangeD_len] at hl
  refine ds_one ?_
  refine ds_ret ?_
  refine de_fresh ?_
  refine df_sortedD hr.units T.n_sorted rfl ?_
  refine de_var 2 rfl (.inl rfl) rfl ?_
  refine ⟨_, rfl, fun x hx => ?_, ?_, ?_, ?_⟩
  · obtain ⟨ft, _, rfl⟩ := List.mem_map.mp hx
    exact ⟨plain_fact ft, depth_fact ft⟩
  · rw [List.map_map]
    exact AllAlike.of (enc := toPy ∘ factD) fun b b' => alike_facts b b'
  · rw [List.map_map]
    exact Sortable.tuples (enc := toPy ∘ factD) fun b => ⟨_, _, toPy_fact b⟩
  have em := List.map_mergeSort (r := fun x y => leD (factD x) (factD y)) (s := leD) (f := factD) (l := fs) fun _ _ _ _ => rfl
  rw [← em]
  refine q _ (fun ft h => hf ft ((List.mergeSort_perm _ _).mem_iff.mp h)) ?_
  rw [(List.mergeSort_perm fs _).length_eq]; omega
def sp_drawn_web : SpD := fun r ds Q => ∃ (da ca : Addr) (m t a : List Str) (n : Nat), r = some (da, ca) ∧ ds = [.adr da, kindD m t a, .int n] ∧ m.length ≤ 1 ∧ t.length ≤ 1 ∧ a.length ≤ 1 ∧ n ≤ 7 ∧
  ∀ fs : List Fact, FactsOk n fs → fs.length ≤ 200 → Q (webT (kindD m t a) n fs)
theorem ok__law_drawn_web (F : L2.Fun K "_law_drawn_web" "_law_drawn_web" s__law_drawn_web f fd) (T : Txt mg) (G1 : Callee P w K mg base 1 "_law_any" ["deal", "bound"] sp_any) (G2 : Callee P w K mg base 1 "_law_all_facts" ["kind", "size"] sp_all_facts) : FnOk P w K mg base CX0 2 f fd ["deal", "kind", "size"] (lift K sp_drawn_web) := by
  refine fn_D F sc__law_drawn_web (fun r ds P ⟨_, _, _, _, _, _, _, e, _⟩ => by rw [e]; rfl) fun cdv A outer s G H E r ds Q hr ⟨da, ca, m, t, a, n, er, e, hm, ht, ha, hn, q⟩ => ?_
  subst er e
  refine ds_cons ?_
  refine ds_set 3 sc__law_drawn_web.nd rfl (.inr rfl) ?_
  refine de_add ?_
  refine de_int ?_
  refine de_callC G1 hr rfl ?_
  refine da_cons ?_
  refine de_var 0 rfl (.inr (.inl rfl)) rfl ?_
  refine da_cons ?_
  refine de_int ?_
  refine da_nil ?_
  refine ⟨da, ca, _, rfl, rfl, by decide, by decide, fun k k0 k1 => ?_⟩
  refine ⟨_, _, rfl, rfl, ?_⟩
  refine ds_one ?_
  refine ds_ret ?_
  refine de_tup ?_
  refine da_cons ?_
  refine de_var 1 rfl (.inl rfl) rfl ?_
  refine da_cons ?_
  refine de_var 2 rfl (.inl rfl) rfl ?_
  refine da_cons ?_
  refine de_tuple T.n_tuple rfl ?_
  refine de_fresh ?_
  refine df_lc (T := .n 4) [("fact", 4)] rfl sc__law_drawn_web.nd (blkOk_by (N := N__law_drawn_web) (sc := defScope s__law_drawn_web) (by decide +kernel)) (fun _ _ _ _ _ => pgt_name 4 sc__law_drawn_web.nd rfl (.inl rfl)) (by decide) ?_
  refine di_list ?_
  refine de_callC G2 hr rfl ?_
  refine da_cons ?_
  refine de_var 1 rfl (.inl rfl) rfl ?_
  refine da_cons ?_
  refine de_var 2 rfl (.inl rfl) rfl ?_
  refine da_nil ?_
  refine ⟨m, t, a, n, rfl, hm, ht, ha, hn, fun fs hf hl => ?_⟩
  refine ⟨_, rfl, ?_⟩
  refine ⟨by rw [List.length_map]; omega, fun j acc => ∃ gs : List Fact, acc = gs.map factD ∧ gs.length ≤ j ∧ FactsOk n gs, ⟨[], rfl, Nat.zero_le _, fun _ h => nomatch h⟩, fun j x acc hx hJ => ?_, fun ys hJ => ?_⟩
  · obtain ⟨gs, rfl, hj, hg⟩ := hJ
    obtain ⟨ft, hft, rfl⟩ := List.mem_map.mp (List.mem_of_getElem? hx)
    refine fun _ _ _ _ _ => ?_
    refine dts_one ?_
    refine dt_lt ?_
    refine de_callC G1 hr rfl ?_
    refine da_cons ?_
    refine de_var 0 rfl (.inr (.inl rfl)) rfl ?_
    refine da_cons ?_
    refine de_int ?_
    refine da_nil ?_
    refine ⟨da, ca, _, rfl, rfl, by decide, by decide, fun k' k0' k1' => ?_⟩
    refine de_var 3 rfl (.inr (.inl rfl)) rfl ?_
    refine ⟨_, _, rfl, rfl, ?_⟩
    refine ⟨fun hk _ _ _ _ _ => ?_, fun hk => ⟨gs, rfl, by omega, hg⟩⟩
    refine de_var 4 rfl (.inl rfl) rfl ?_
    refine ⟨gs ++ [ft], by rw [List.map_append]; rfl, by rw [List.length_append]; show gs.length + 1 ≤ j + 1; omega, fun x h => ?_⟩
    rcases List.mem_append.mp h with h | h
    · exact hg x h
    · rw [List.mem_singleton] at h; subst h; exact hf _ hft
  obtain ⟨gs, rfl, hj, hg⟩ := hJ
  rw [List.length_map] at hj
  refine ⟨_, .inl rfl, ?_⟩
  refine da_nil ?_
  exact q gs hg (by omega)
end
end K62
set_option Elab.async false
set_option linter.all false
set_option maxRecDepth 100000
set_option maxHeartbeats 1000000
namespace K62
open PySem PySem.Spec L2 DL
structure KindC (K : PySem.W.Frag) (CK : Addr) : Prop where
  cl : Cls K CK
  a_marks : NoAttr K CK "marks"
  a_ties : NoAttr K CK "ties"
  a_arrows : NoAttr K CK "arrows"
section
variable {P : Program} {w : World} {K : PySem.W.Frag} {mg : Str → Option Value} {base : Heap} {f : Addr} {fd : FuncData}
theorem ok_Kind_init {CK : Addr} (F : L2.Fun K "__init__" "Kind.__init__" s_Kind___init__ f fd) (C : KindC K CK) : FnOk P w K mg base CX0 1 f fd ["self", "marks", "ties", "arrows"] (spInit CK ["marks", "ties", "arrows"]) := by
  refine F.ok sc_Kind___init__ (fun vs H Q E ⟨x, dx, ws, e, l, _⟩ => by rw [e, List.length_cons, l]; rfl) fun cdv A outer s H vs Q E hr ⟨x, dx, ws, e, l, hx, q⟩ => ?_
  match ws, l with
  | [w1, w2, w3], _ =>
  subst e
  refine ⟨_, pss_cons (ps_fld (pv 0) (pv 1) (by rfl)) (pss_cons (ps_fld (pv 0) (pv 2) (by rfl)) (pss_one (ps_fld (pv 0) (pv 3) (by rfl)))), ?_⟩
  refine ⟨w1, rfl, .ref x, rfl, x, CK, dx, _, rfl, hx, C.cl, C.a_marks, by decide, ?_⟩
  refine ⟨w2, rfl, .ref x, rfl, x, CK, dx, _, rfl, upd_same, C.cl, C.a_ties, Nat.lt_of_le_of_lt (putF_len _ _ _) (by decide), ?_⟩
  refine ⟨w3, rfl, .ref x, rfl, x, CK, dx, _, rfl, upd_same, C.cl, C.a_arrows, Nat.lt_of_le_of_lt (Nat.le_trans (putF_len _ _ _) (Nat.succ_le_succ (putF_len _ _ _))) (by decide), ?_⟩
  rw [upd_upd, upd_upd]
  exact q
theorem ok_Web_init {CW : Addr} (F : L2.Fun K "__init__" "Web.__init__" s_Web___init__ f fd) (C : WebC K CW) : FnOk P w K mg base CX0 1 f fd ["self", "kind", "size", "facts"] (spInit CW ["kind", "size", "facts"]) := by
  refine F.ok sc_Web___init__ (fun vs H Q E ⟨x, dx, ws, e, l, _⟩ => by rw [e, List.length_cons, l]; rfl) fun cdv A outer s H vs Q E hr ⟨x, dx, ws, e, l, hx, q⟩ => ?_
  match ws, l with
  | [w1, w2, w3], _ =>
  subst e
  refine ⟨_, pss_cons (ps_fld (pv 0) (pv 1) (by rfl)) (pss_cons (ps_fld (pv 0) (pv 2) (by rfl)) (pss_one (ps_fld (pv 0) (pv 3) (by rfl)))), ?_⟩
  refine ⟨w1, rfl, .ref x, rfl, x, CW, dx, _, rfl, hx, C.cl, C.a_kind, by decide, ?_⟩
  refine ⟨w2, rfl, .ref x, rfl, x, CW, dx, _, rfl, upd_same, C.cl, C.a_size, Nat.lt_of_le_of_lt (putF_len _ _ _) (by decide), ?_⟩
  refine ⟨w3, rfl, .ref x, rfl, x, CW, dx, _, rfl, upd_same, C.cl, C.a_facts, Nat.lt_of_le_of_lt (Nat.le_trans (putF_len _ _ _) (Nat.succ_le_succ (putF_len _ _ _))) (by decide), ?_⟩
  rw [upd_upd, upd_upd]
  exact q
structure Maker (P : Program) (w : World) (K : PySem.W.Frag) (mg : Str → Option Value) (base : Heap) (k : Nat) (x : Str) (C : Addr) (ps ns : List Str) where
  f : Addr
  fd : FuncData
  made : Mk K C f
  ok : FnOk P w K mg base CX0 k f fd ps (spInit C ns)
  at_ : mg x = some (.ref C)
  b : Binds K fd ps []
abbrev KindM (P : Program) (w : World) (K : PySem.W.Frag) (mg : Str → Option Value) (base : Heap) (CK : Addr) := Maker P w K mg base 1 "Kind" CK ["self", "marks", "ties", "arrows"] ["marks", "ties", "arrows"]
abbrev WebM (P : Program) (w : World) (K : PySem.W.Frag) (mg : Str → Option Value) (base : Heap) (CW : Addr) := Maker P w K mg base 1 "Web" CW ["self", "kind", "size", "facts"] ["kind", "size", "facts"]
def kindO (CK : Addr) (m t a : List Str) : D := .obj CK ["marks", "ties", "arrows"] [strsT m, strsT t, strsT a]
def sp_kind_of (CK : Addr) : SpD := fun _ ds Q => ∃ (m t a : List Str), ds = [kindD m t a] ∧ Q (kindO CK m t a)
theorem ok__law_kind_of {CK : Addr} (F : L2.Fun K "_law_kind_of" "_law_kind_of" s__law_kind_of f fd) (M : KindM P w K mg base CK) : FnOk P w K mg base CX0 3 f fd ["kind"] (lift K (sp_kind_of CK)) := by
  refine fn_D F sc__law_kind_of (fun r ds P ⟨_, _, _, e, _⟩ => by rw [e]; rfl) fun cdv A outer s G H E r ds Q hr ⟨m, t, a, e, q⟩ => ?_
  subst e
  refine ds_one ?_
  refine ds_ret ?_
  refine de_make M.made M.ok M.at_ M.b hr rfl ?_
  refine da_cons ?_
  refine de_ix (fun _ _ => rfl) ?_
  refine de_var 0 rfl (.inl rfl) rfl ?_
  refine de_int ?_
  refine ⟨_, _, strsT m, .inr rfl, rfl, rfl, ?_⟩
  refine da_cons ?_
  refine de_ix (fun _ _ => rfl) ?_
  refine de_var 0 rfl (.inl rfl) rfl ?_
  refine de_int ?_
  refine ⟨_, _, strsT t, .inr rfl, rfl, rfl, ?_⟩
  refine da_cons ?_
  refine de_ix (fun _ _ => rfl) ?_
  refine de_var 0 rfl (.inl rfl) rfl ?_
  refine de_int ?_
  refine ⟨_, _, strsT a, .inr rfl, rfl, rfl, ?_⟩
  refine da_nil ?_
  exact ⟨rfl, q⟩
def sp_web_of (CK CW : Addr) : SpD := fun _ ds Q => ∃ (m t a : List Str) (n : Nat) (fs : List Fact), ds = [webT (kindD m t a) n fs] ∧ Q (webO CW (kindO CK m t a) n fs)
theorem ok__law_web_of {CK CW : Addr} (F : L2.Fun K "_law_web_of" "_law_web_of" s__law_web_of f fd) (M : WebM P w K mg base CW) (G1 : Callee P w K mg base 3 "_law_kind_of" ["kind"] (sp_kind_of CK)) : FnOk P w K mg base CX0 4 f fd ["web"] (lift K (sp_web_of CK CW)) := by
  refine fn_D F sc__law_web_of (fun r ds P ⟨_, _, _, _, _, e, _⟩ => by rw [e]; rfl) fun cdv A outer s G H E r ds Q hr ⟨m, t, a, n, fs, e, q⟩ => ?_
  subst e
  refine ds_one ?_
  refine ds_ret ?_
  refine de_make M.made M.ok M.at_ M.b (hr.mono (by decide)) rfl ?_
  refine da_cons ?_
  refine de_callC G1 hr rfl ?_
  refine da_cons ?_
  refine de_ix (fun _ _ => rfl) ?_
  refine de_var 0 rfl (.inl rfl) rfl ?_
  refine de_int ?_
  refine ⟨_, _, kindD m t a, .inr rfl, rfl, rfl, ?_⟩
  refine da_nil ?_
  refine ⟨m, t, a, rfl, ?_⟩
  refine da_cons ?_
  refine de_ix (fun _ _ => rfl) ?_
  refine de_var 0 rfl (.inl rfl) rfl ?_
  refine de_int ?_
  refine ⟨_, _, .int n, .inr rfl, rfl, rfl, ?_⟩
  refine da_cons ?_
  refine de_ix (fun _ _ => rfl) ?_
  refine de_var 0 rfl (.inl rfl) rfl ?_
  refine de_int ?_
  refine ⟨_, _, factsD fs, .inr rfl, rfl, rfl, ?_⟩
  refine da_nil ?_
  exact ⟨rfl, q⟩
end
end K62
set_option Elab.async false
set_option linter.all false
set_option maxRecDepth 100000
set_option maxHeartbeats 1000000
namespace K62
open PySem PySem.Spec L2 DL
def pairsOf (fs : List Fact) : List (Int × Int) := fs.flatMap fun ft => match ft.2 with
  | [a, b] => [(a, b), (b, a)]
  | _ => []
structure NearP (n : Nat) (ps : List (Int × Int)) (ns : List (List Int)) : Prop where
  len : ns.length = n
  ok : ∀ l ∈ ns, l.Nodup ∧ ∀ x ∈ l, 0 ≤ x ∧ x < (n : Int)
  mem : ∀ a b : Int, 0 ≤ a → a < (n : Int) → (b ∈ ns.getD a.toNat [] ↔ (a, b) ∈ ps)
theorem NearP.start (n : Nat) : NearP n [] (List.replicate n []) where
  len := List.length_replicate
  ok := fun l hl => by rw [List.eq_of_mem_replicate hl]; exact ⟨List.nodup_nil, fun _ h => nomatch h⟩
  mem := fun a b h0 h1 => by
    rw [List.getD_eq_getElem?_getD, List.getElem?_replicate, if_pos (by omega)]; simp
theorem NearP.get {n : Nat} {ps : List (Int × Int)} {ns : List (List Int)} (h : NearP n ps ns) {a : Int} (h0 : 0 ≤ a) (h1 : a < (n : Int)) : ns[a.toNat]? = some (ns.getD a.toNat []) := by
  have hl := h.len
  rw [List.getD_eq_getElem?_getD, List.getElem?_eq_getElem (show a.toNat < ns.length by omega)]; rfl
theorem NearP.small {n : Nat} {ps : List (Int × Int)} {ns : List (List Int)} (h : NearP n ps ns) {l : List Int} (hl : l ∈ ns) : l.length ≤ n :=
  few_below n l (h.ok l hl).1 (h.ok l hl).2
theorem NearP.same {n : Nat} {ps : List (Int × Int)} {ns : List (List Int)} (h : NearP n ps ns) {a b : Int} (h0 : 0 ≤ a) (h1 : a < (n : Int)) (hb : b ∈ ns.getD a.toNat []) : NearP n (ps ++ [(a, b)]) ns where
  len := h.len
  ok := h.ok
  mem := fun x y hx hy => by
    rw [h.mem x y hx hy, List.mem_append, List.mem_singleton]
    constructor
    · exact .inl
    · rintro (q | q)
      · exact q
      · cases q; exact (h.mem a b h0 h1).mp hb
theorem NearP.add {n : Nat} {ps : List (Int × Int)} {ns : List (List Int)} (h : NearP n ps ns) {a b : Int} (h0 : 0 ≤ a) (h1 : a < (n : Int)) (h2 : 0 ≤ b) (h3 : b < (n : Int)) (hb : b ∉ ns.getD a.toNat []) :
    NearP n (ps ++ [(a, b)]) (ns.set a.toNat (ns.getD a.toNat [] ++ [b])) where
  len := by rw [List.length_set]; exact h.len
  ok := fun l hl => by
    rcases List.mem_or_eq_of_mem_set hl with q | q
    · exact h.ok l q
    · subst q
      obtain ⟨o1, o2⟩ := h.ok _ (List.mem_of_getElem? (h.get h0 h1))
      refine ⟨?_, fun x hx => ?_⟩
      · rw [List.nodup_append]
        refine ⟨o1, by simp, fun x hx y hy e => ?_⟩
        rw [List.mem_singleton] at hy; subst hy; subst e; exact hb hx
      · rcases List.mem_append.mp hx with hx | hx
        · exact o2 x hx
        · rw [List.mem_singleton] at hx; subst hx; exact ⟨h2, h3⟩
  mem := fun x y hx hy => by
    have hl := h.len
    rw [List.mem_append, List.mem_singleton, ← h.mem x y hx hy]
    by_cases e : x = a
    · subst e
      rw [List.getD_eq_getElem?_getD (l := ns.set _ _), List.getElem?_set_self (by omega)]
      show y ∈ _ ++ [b] ↔ _
      rw [List.mem_append, List.mem_singleton]
      constructor
      · rintro (q | q)
        · exact .inl q
        · subst q; exact .inr rfl
      · rintro (q | q)
        · exact .inl q
        · cases q; exact .inr rfl
    · have ne : a.toNat ≠ x.toNat := by omega
      rw [List.getD_eq_getElem?_getD (l := ns.set _ _), List.getElem?_set_ne ne, ← List.getD_eq_getElem?_getD]
      constructor
      · exact .inl
      · rintro (q | q)
        · exact q
        · cases q; exact absurd rfl e
section
variable {P : Program} {w : World} {K : PySem.W.Frag} {mg : Str → Option Value} {base : Heap} {f : Addr} {fd : FuncData}
def sp_near : SpD := fun _ ds Q => ∃ (kd : D) (n : Nat) (fs : List Fact), ds = [webT kd n fs] ∧ FactsOk n fs ∧ n ≤ 100 ∧ ∀ ns : List (List Int), NearP n (pairsOf fs) ns → Q (.lst (ns.map dInts))
theorem pairs_take {fs : List Fact} {i : Nat} {ft : Fact} (h : fs[i]? = some ft) : pairsOf (fs.take (i + 1)) = pairsOf (fs.take i) ++ pairsOf [ft] := by
  unfold pairsOf
  rw [List.take_add_one, h, List.flatMap_append]; rfl
theorem ok__law_near (F : L2.Fun K "_law_near" "_law_near" s__law_near f fd) (T : Txt mg) : FnOk P w K mg base CX0 1 f fd ["web"] (lift K sp_near) := by
  refine fn_D F sc__law_near (fun r ds P ⟨_, _, _, e, _⟩ => by rw [e]; rfl) fun cdv A outer s G H E r ds Q hr ⟨kd, n, fs, e, hf, hn, q⟩ => ?_
  subst e
  intro G1 H1 σ1 E1
  refine WSs.of (pss_cons ps_W pss_W) ?_
  refine ds_setQ 1 6 [("point", 6)] rfl sc__law_near.nd rfl rfl (sw_true rfl rfl rfl (by decide +kernel)) (blkOk_by (N := N__law_near) (sc := defScope s__law_near) (by decide +kernel)) (fun _ _ _ _ _ => pgt_name 6 sc__law_near.nd rfl (.inl rfl)) (by decide) E1 (n := n) ?_ ?_
  · refine di_range1 T.n_range rfl ?_
    refine de_ix (fun _ _ => rfl) ?_
    refine de_var 0 rfl (.inl rfl) rfl ?_
    refine de_int ?_
    refine ⟨_, _, .int n, .inr rfl, rfl, rfl, ?_⟩
    exact ⟨_, rfl, by omega, by omega, by rw [rangeD_len]; omega, by omega⟩
  intro qs G2 H2 σ2 E2 z2 up
  refine WSs.mono (NSs.go (D' := { nx := fun _ _ => Q .non, rt := Q }) ?_ E2 z2) (fun σ' H' ⟨G', S', g', E', _, u, z⟩ => ⟨G', S', E', up.trans u, z⟩) (fun v H' ⟨G', d, g, u, z, rd⟩ => ⟨G', d, g, up.trans u, z, rd⟩) (fun _ _ z => z.elim) (fun _ _ z => z.elim)
  · skip
    refine ns_cons ?_
    refine ns_for near_stay PassesOwn.never rfl (pgt_tup rfl (pgn_cons 2 sc__law_near.nd rfl (.inl rfl) (pgn_cons 3 sc__law_near.nd rfl (.inl rfl) (pgn_nil)))) ?_
    refine di_tup ?_
    refine de_ix (fun _ _ => rfl) ?_
    refine de_var 0 rfl (.inl rfl) rfl ?_
    refine de_int ?_
    refine ⟨_, _, factsD fs, .inr rfl, rfl, rfl, ?_⟩
    refine ⟨_, rfl, ?_⟩
    have nm0 : NoM [.d (webT kd n fs), .d (.lst (qs.map D.adr)), .u, .u, .u, .u, .u] := fun j xs e => by
      match j with
      | 0 => cases e
      | 1 => cases e
      | 2 => cases e
      | 3 => cases e
      | 4 => cases e
      | 5 => cases e
      | 6 => cases e
      | j + 7 => cases e
    refine ⟨fun i S ns => ∃ x2 x3 x4 x5 x6 : B, S = [.d (webT kd n fs), .d (.lst (qs.map D.adr)), x2, x3, x4, x5, x6] ∧ NoM S ∧ NearP n (pairsOf (fs.take i)) ns,
      ⟨_, _, _, _, _, rfl, nm0, NearP.start n⟩, fun i x S ns hx hI => ?_, fun S ns hI => ?_⟩
    · obtain ⟨x2, x3, x4, x5, x6, rfl, nm, hI⟩ := hI
      rw [List.getElem?_map] at hx
      cases hfi : fs[i]? with
      | none => rw [hfi] at hx; cases hx
      | some ft =>
        rw [hfi] at hx; cases hx
        refine ⟨_, rfl, rfl, ?_⟩
        have nm2 := (nm.set_d 2 (.str ft.1)).set_d 3 (tInts ft.2)
        refine ns_one ?_
        refine ns_if near_stay ?_
        have hmem := List.mem_of_getElem? hfi
        obtain ⟨nam, pts⟩ := ft
        have hpt := pairs_take hfi
        refine nt_of ?_
        refine dt_eqI ?_
        refine de_len T.n_len rfl ?_
        refine de_var 3 rfl (.inl rfl) rfl ?_
        refine ⟨_, rfl, ?_⟩
        refine de_int ?_
        refine ⟨_, _, rfl, rfl, ?_⟩
        rcases hf _ hmem with ⟨a, ea, _⟩ | ⟨a, b, ea, a0, an, b0, bn⟩
        · have ea : pts = [a] := ea
          subst ea
          refine ⟨fun hk => (by cases hk), fun hk => ?_⟩
          refine ns_nil ?_
          refine ⟨_, _, _, _, _, rfl, nm2, ?_⟩
          rw [hpt, show pairsOf [(nam, [a])] = [] from rfl, List.append_nil]
          exact hI
        · have ea : pts = [a, b] := ea
          subst ea
          refine ⟨fun hk => ?_, fun hk => (by cases hk)⟩
          refine ns_one ?_
          refine ns_for near_stay PassesOwn.never rfl (pgt_tup rfl (pgn_cons 4 sc__law_near.nd rfl (.inl rfl) (pgn_cons 5 sc__law_near.nd rfl (.inl rfl) (pgn_nil)))) ?_
          refine di_list ?_
          refine de_fresh ?_
          refine df_lst ?_
          refine da_cons ?_
          refine de_var 3 rfl (.inl rfl) rfl ?_
          refine da_cons ?_
          refine de_revT ?_
          refine de_var 3 rfl (.inl rfl) rfl ?_
          refine ⟨_, rfl, ?_⟩
          refine da_nil ?_
          refine ⟨_, rfl, ?_⟩
          refine ⟨fun j S ns => ∃ x4 x5 x6 : B, S = [.d (webT kd n fs), .d (.lst (qs.map D.adr)), .d (.str nam), .d (tInts [a, b]), x4, x5, x6] ∧ NoM S ∧ NearP n (pairsOf (fs.take i) ++ [(a, b), (b, a)].take j) ns,
            ⟨_, _, _, rfl, nm2, by rw [List.take_zero, List.append_nil]; exact hI⟩, fun j x S ns hx hI => ?_, fun S ns hI => ?_⟩
          · obtain ⟨x4, x5, x6, rfl, nm, hI⟩ := hI
            obtain ⟨p, p', ex, hj, q0, q1, q2, q3⟩ : ∃ p p' : Int, x = .tup [.int p, .int p'] ∧ [(a, b), (b, a)].take (j + 1) = [(a, b), (b, a)].take j ++ [(p, p')] ∧ 0 ≤ p ∧ p < (n : Int) ∧ 0 ≤ p' ∧ p' < (n : Int) := by
              match j, hx with
              | 0, hx => cases hx; exact ⟨a, b, rfl, rfl, a0, an, b0, bn⟩
              | 1, hx => cases hx; exact ⟨b, a, rfl, rfl, b0, bn, a0, an⟩
              | j + 2, hx => simp at hx
            subst ex
            refine ⟨_, rfl, rfl, ?_⟩
            have nm4 := (nm.set_d 4 (.int p)).set_d 5 (.int p')
            have hql : p.toNat < qs.length → (qs.map D.adr)[p.toNat]? = some (.adr (qs.getD p.toNat 0)) := fun h => by
              rw [List.getElem?_map, List.getD_eq_getElem?_getD, List.getElem?_eq_getElem h]; rfl
            have hqe : p.toNat < qs.length → qs[p.toNat]? = some (qs.getD p.toNat 0) := fun h => by
              rw [List.getD_eq_getElem?_getD, List.getElem?_eq_getElem h]; rfl
            have hlt : p.toNat < qs.length := by rw [← z2.len, List.length_replicate]; omega
            refine ns_one ?_
            refine ns_if near_stay ?_
            refine nt_notinQ rfl ?_
            refine de_var 5 rfl (.inl rfl) rfl ?_
            refine de_ix (fun _ _ => rfl) ?_
            refine de_var 1 rfl (.inl rfl) rfl ?_
            refine de_var 4 rfl (.inl rfl) rfl ?_
            refine ⟨_, _, .adr (qs.getD p.toNat 0), .inl rfl, rfl, at_nn (j := p.toNat) (by omega) (hql hlt), ?_⟩
            refine ⟨p', _, p.toNat, rfl, rfl, hqe hlt, ?_⟩
            refine ⟨fun hk => ?_, fun hk => ?_⟩
            · have hb : p' ∉ ns.getD p.toNat [] := by simpa using hk
              refine ns_one ?_
              refine ns_appendQ ?_ nm4
              refine de_ix (fun _ _ => rfl) ?_
              refine de_var 1 rfl (.inl rfl) rfl ?_
              refine de_var 4 rfl (.inl rfl) rfl ?_
              refine ⟨_, _, .adr (qs.getD p.toNat 0), .inl rfl, rfl, at_nn (j := p.toNat) (by omega) (hql hlt), ?_⟩
              refine ⟨_, p.toNat, rfl, hqe hlt, ?_⟩
              refine de_var 5 rfl (.inl rfl) rfl ?_
              have := hI.small (List.mem_of_getElem? (hI.get q0 q1))
              refine ⟨p', rfl, by omega, ?_⟩
              exact ⟨_, _, _, rfl, nm4, by rw [hj, ← List.append_assoc]; exact hI.add q0 q1 q2 q3 hb⟩
            · have hb : p' ∈ ns.getD p.toNat [] := by simpa using hk
              refine ns_nil ?_
              exact ⟨_, _, _, rfl, nm4, by rw [hj, ← List.append_assoc]; exact hI.same q0 q1 hb⟩
          · obtain ⟨x4, x5, x6, rfl, nm, hI⟩ := hI
            refine ⟨_, _, _, _, _, rfl, nm, ?_⟩
            rw [hpt]; exact hI
    · obtain ⟨x2, x3, x4, x5, x6, rfl, nm, hI⟩ := hI
      rw [List.length_map, List.take_length] at hI
      refine ns_one ?_
      exact ns_retQ 1 rfl (.inl rfl) rfl (q ns hI)
end
end K62
set_option Elab.async false
set_option linter.all false
set_option maxRecDepth 100000
set_option maxHeartbeats 1000000
namespace K62
open PySem PySem.Spec L2 DL
theorem pairs_symm {fs : List Fact} {a b : Int} (h : (a, b) ∈ pairsOf fs) : (b, a) ∈ pairsOf fs := by
  unfold pairsOf at h ⊢
  rw [List.mem_flatMap] at h ⊢
  obtain ⟨ft, hm, h⟩ := h
  refine ⟨ft, hm, ?_⟩
  split at h
  · rcases List.mem_cons.mp h with h | h
    · cases h; simp
    · rw [List.mem_singleton] at h; cases h; simp
  · cases h
structure LateI (prs : List (Int × Int)) (left part late : List Int) : Prop where
  nd : (part ++ late).Nodup
  sub : ∀ x ∈ part ++ late, x ∈ left
  cl : ∀ x ∈ part, ∀ y ∈ left, (x, y) ∈ prs → y ∈ part ++ late
  ne : part ++ late ≠ []
theorem LateI.step {prs : List (Int × Int)} {left part late ms : List Int} (h : LateI prs left part late) (h1 : ms.Pairwise (· < ·)) (h2 : ∀ k, k ∈ ms ↔ ∃ p ∈ late, (p, k) ∈ prs) :
    LateI prs left (part ++ late) (ms.filter fun k => decide (k ∈ left) && !decide (k ∈ part ++ late)) where
  nd := by
    rw [List.nodup_append]
    refine ⟨h.nd, List.Nodup.sublist List.filter_sublist (h1.imp fun q => Int.ne_of_lt q), fun a ha b hb e => ?_⟩
    subst e
    have := (List.mem_filter.mp hb).2
    rw [Bool.and_eq_true] at this
    have h3 := this.2
    rw [decide_eq_true ha] at h3; cases h3
  sub := fun x hx => by
    rcases List.mem_append.mp hx with hx | hx
    · exact h.sub x hx
    · have := (List.mem_filter.mp hx).2
      rw [Bool.and_eq_true] at this
      exact of_decide_eq_true this.1
  cl := fun x hx y hy hp => by
    by_cases hin : y ∈ part ++ late
    · exact List.mem_append_left _ hin
    · rcases List.mem_append.mp hx with hx | hx
      · exact absurd (h.cl x hx y hy hp) hin
      · refine List.mem_append_right _ (List.mem_filter.mpr ⟨(h2 y).mpr ⟨x, hx, hp⟩, ?_⟩)
        rw [decide_eq_true hy, decide_eq_false hin]; rfl
  ne := fun e => h.ne (List.append_eq_nil_iff.mp e).1
theorem LateI.len {prs : List (Int × Int)} {left part late : List Int} (h : LateI prs left part late) : part.length + late.length ≤ left.length := by
  have := List.Nodup.length_le_of_subset h.nd (fun x hx => h.sub x hx)
  rwa [List.length_append] at this
structure PartsI (prs : List (Int × Int)) (ps : List Int) (parts : List (List Int)) (left : List Int) : Prop where
  nd : (parts.flatten ++ left).Nodup
  mem : ∀ x, x ∈ ps ↔ x ∈ parts.flatten ++ left
  cl : ∀ p ∈ parts, ∀ x ∈ p, ∀ y ∈ ps, (x, y) ∈ prs → y ∈ p
  ne : ∀ p ∈ parts, p ≠ []
theorem PartsI.step {prs : List (Int × Int)} {ps : List Int} {parts : List (List Int)} {left part ms : List Int} (sy : ∀ a b, (a, b) ∈ prs → (b, a) ∈ prs) (h : PartsI prs ps parts left) (l : LateI prs left part []) (hm : ms.Perm part) :
    PartsI prs ps (parts ++ [ms]) (left.filter fun x => !decide (x ∈ part)) := by
  have hnd := List.nodup_append.mp h.nd
  have pnd : part.Nodup := by have := l.nd; rwa [List.append_nil] at this
  have psub : ∀ x ∈ part, x ∈ left := fun x hx => l.sub x (List.mem_append_left _ hx)
  have fl : (parts ++ [ms]).flatten = parts.flatten ++ ms := by rw [List.flatten_append]; simp
  refine ⟨?_, fun x => ?_, fun p hp x hx y hy hq => ?_, fun p hp => ?_⟩
  · rw [fl, List.nodup_append]
    refine ⟨?_, List.Nodup.sublist List.filter_sublist hnd.2.1, fun a ha b hb e => ?_⟩
    · rw [List.nodup_append]
      exact ⟨hnd.1, hm.symm.nodup pnd, fun a ha b hb e => hnd.2.2 a ha b (psub b (hm.mem_iff.mp hb)) e⟩
    · subst e
      obtain ⟨hl, hnp⟩ := List.mem_filter.mp hb
      rcases List.mem_append.mp ha with ha | ha
      · exact hnd.2.2 a ha a hl rfl
      · rw [decide_eq_true (hm.mem_iff.mp ha)] at hnp; cases hnp
  · rw [h.mem, fl, List.mem_append, List.mem_append, List.mem_append, List.mem_filter]
    constructor
    · rintro (q | q)
      · exact .inl (.inl q)
      · by_cases hp : x ∈ part
        · exact .inl (.inr (hm.mem_iff.mpr hp))
        · exact .inr ⟨q, by rw [decide_eq_false hp]; rfl⟩
    · rintro ((q | q) | q)
      · exact .inl q
      · exact .inr (psub x (hm.mem_iff.mp q))
      · exact .inr q.1
  · rcases List.mem_append.mp hp with hp | hp
    · exact h.cl p hp x hx y hy hq
    · rw [List.mem_singleton] at hp; subst hp
      have hx := hm.mem_iff.mp hx
      rcases List.mem_append.mp ((h.mem y).mp hy) with q | q
      · exfalso
        obtain ⟨p', hp', hy'⟩ := List.mem_flatten.mp q
        have := h.cl p' hp' y hy' x ((h.mem x).mpr (List.mem_append_right _ (psub x hx))) (sy _ _ hq)
        exact hnd.2.2 x (List.mem_flatten.mpr ⟨p', hp', this⟩) x (psub x hx) rfl
      · have := l.cl x hx y q hq
        rw [List.append_nil] at this
        exact hm.mem_iff.mpr this
  · rcases List.mem_append.mp hp with hp | hp
    · exact h.ne p hp
    · rw [List.mem_singleton] at hp; subst hp
      intro e
      have := l.ne
      rw [List.append_nil] at this
      exact this (by rw [e] at hm; exact List.Perm.eq_nil hm.symm)
theorem PartsI.less {prs : List (Int × Int)} {left part : List Int} (l : LateI prs left part []) : (left.filter fun x => !decide (x ∈ part)).length < left.length := by
  rw [List.length_filter_lt_length_iff_exists]
  obtain ⟨x, hx⟩ : ∃ x, x ∈ part := by
    have := l.ne
    rw [List.append_nil] at this
    exact List.exists_mem_of_ne_nil _ this
  exact ⟨x, l.sub x (List.mem_append_left _ hx), by rw [decide_eq_true hx]; simp⟩
structure PartsOk (prs : List (Int × Int)) (ps : List Int) (parts : List (List Int)) : Prop where
  nd : parts.flatten.Nodup
  mem : ∀ x, x ∈ ps ↔ x ∈ parts.flatten
  cl : ∀ p ∈ parts, ∀ x ∈ p, ∀ y ∈ ps, (x, y) ∈ prs → y ∈ p
  ne : ∀ p ∈ parts, p ≠ []
section
variable {P : Program} {w : World} {K : PySem.W.Frag} {mg : Str → Option Value} {base : Heap} {f : Addr} {fd : FuncData}
theorem eqOk_ints (xs : List Int) : EqOk (dInts xs) := small_eqOk (small_dInts xs)
theorem emp_ints (xs : List Int) : (!eqD (dInts xs) (.lst [])) = !xs.isEmpty := by
  show (!eqD (.lst (xs.map D.int)) (.lst [])) = _
  rw [eqD_nil]; cases xs <;> rfl
def sp_parts : SpD := fun _ ds Q => ∃ (kd : D) (n : Nat) (fs : List Fact) (ps : List Int), ds = [webT kd n fs, dInts ps] ∧ FactsOk n fs ∧ n ≤ 7 ∧ ps.Nodup ∧ (∀ x ∈ ps, 0 ≤ x ∧ x < (n : Int)) ∧
  ∀ parts : List (List Int), PartsOk (pairsOf fs) ps parts → Q (.lst (parts.map tInts))
theorem ok__law_parts (F : L2.Fun K "_law_parts" "_law_parts" s__law_parts f fd) (T : Txt mg) (G1 : Callee P w K mg base 1 "_law_near" ["web"] sp_near) (G2 : Callee P w K mg base 1 "_law_near_all" ["near", "points"] sp_near_all) : FnOk P w K mg base CX0 2 f fd ["web", "points"] (lift K sp_parts) := by
  refine fn_D F sc__law_parts (fun r ds P ⟨_, _, _, _, e, _⟩ => by rw [e]; rfl) fun cdv A outer s G H E r ds Q hr ⟨kd, n, fs, ps, e, hf, hn, hnd, hps, q⟩ => ?_
  subst e
  have hpl : ps.length ≤ n := few_below n ps hnd hps
  refine ds_cons ?_
  refine ds_asgX rfl (pgn_cons 2 sc__law_parts.nd rfl (.inl rfl) (pgn_cons 3 sc__law_parts.nd rfl (.inl rfl) (pgn_cons 4 sc__law_parts.nd rfl (.inr rfl) (pgn_nil)))) ?_
  refine dx_d ?_
  refine de_callC G1 hr rfl ?_
  refine da_cons ?_
  refine de_var 0 rfl (.inl rfl) rfl ?_
  refine da_nil ?_
  refine ⟨kd, n, fs, rfl, hf, by omega, fun ns hN => ?_⟩
  refine dx_m ?_
  refine df_lst ?_
  refine da_nil ?_
  refine dx_d ?_
  refine de_fresh ?_
  refine df_list T.n_list rfl ?_
  refine de_var 1 rfl (.inl rfl) rfl ?_
  refine ⟨_, .inl rfl, ?_⟩
  refine dx_nil ?_
  refine ds_cons ?_
  refine ds_while PassesOwn.never (fun m S => ∃ (parts : List (List Int)) (left : List Int) (x5 x6 x7 x8 : B), S = [.d (webT kd n fs), .d (dInts ps), .d (.lst (ns.map dInts)), .m (parts.map tInts), .d (dInts left), x5, x6, x7, x8] ∧ m = left.length ∧ PartsI (pairsOf fs) ps parts left) ps.length
    ⟨[], ps, _, _, _, _, rfl, rfl, ⟨hnd, fun x => Iff.rfl, (fun _ h => nomatch h), (fun _ h => nomatch h)⟩⟩ fun m S hI => ?_
  obtain ⟨parts, left, x5, x6, x7, x8, rfl, rfl, hI⟩ := hI
  have lnd : left.Nodup := (List.nodup_append.mp hI.nd).2.1
  have lsub : ∀ x ∈ left, x ∈ ps := fun x hx => (hI.mem x).mpr (List.mem_append_right _ hx)
  have llen : left.length ≤ ps.length := List.Nodup.length_le_of_subset lnd lsub
  refine dt_neD hr.units ?_
  refine de_var 4 rfl (.inr (.inl rfl)) rfl ?_
  refine de_fresh ?_
  refine df_lst ?_
  refine da_nil ?_
  refine ⟨eqOk_ints left, eqOk_nil, ?_⟩
  rw [emp_ints]
  refine ⟨fun hk => ?_, fun hk => ?_⟩
  · obtain ⟨l0, lr, rfl⟩ : ∃ l0 lr, left = l0 :: lr := by
      cases left with
      | nil => cases hk
      | cons l0 lr => exact ⟨l0, lr, rfl⟩
    clear hk
    refine ds_cons ?_
    refine ds_asgX rfl (pgn_cons 5 sc__law_parts.nd rfl (.inr rfl) (pgn_cons 6 sc__law_parts.nd rfl (.inl rfl) (pgn_nil))) ?_
    refine dx_d ?_
    refine de_fresh ?_
    refine df_lst ?_
    refine da_nil ?_
    refine dx_d ?_
    refine de_fresh ?_
    refine df_lst ?_
    refine da_cons ?_
    refine de_ix (fun _ _ => rfl) ?_
    refine de_var 4 rfl (.inr (.inl rfl)) rfl ?_
    refine de_int ?_
    refine ⟨_, _, .int l0, .inl rfl, rfl, atI_nat (j := 0) rfl, ?_⟩
    refine da_nil ?_
    refine dx_nil ?_
    refine ds_cons ?_
    refine ds_while PassesOwn.never (fun m S => ∃ (part late : List Int) (x7 : B), S = [.d (webT kd n fs), .d (dInts ps), .d (.lst (ns.map dInts)), .m (parts.map tInts), .d (dInts (l0 :: lr)), .d (dInts part), .d (dInts late), x7, x8] ∧ m = (l0 :: lr).length - part.length ∧ LateI (pairsOf fs) (l0 :: lr) part late) (l0 :: lr).length
      ⟨[], [l0], _, rfl, rfl, ⟨by simp, fun x hx => (by rw [List.nil_append, List.mem_singleton] at hx; subst hx; exact List.mem_cons_self), (fun _ h => nomatch h), by simp⟩⟩ fun m S hJ => ?_
    obtain ⟨part, late, x7, rfl, rfl, hJ⟩ := hJ
    have hJl := hJ.len
    refine dt_neD hr.units ?_
    refine de_var 6 rfl (.inl rfl) rfl ?_
    refine de_fresh ?_
    refine df_lst ?_
    refine da_nil ?_
    refine ⟨eqOk_ints late, eqOk_nil, ?_⟩
    rw [emp_ints]
    refine ⟨fun hk => ?_, fun hk => ?_⟩
    · have hlate : 0 < late.length := by
        cases late with
        | nil => cases hk
        | cons a b => exact Nat.succ_pos _
      have latesub : ∀ p ∈ late, 0 ≤ p ∧ p < (n : Int) := fun p hp => hps p (lsub p (hJ.sub p (List.mem_append_right _ hp)))
      refine ds_cons ?_
      refine ds_set 5 sc__law_parts.nd rfl (.inr rfl) ?_
      refine de_fresh ?_
      refine df_cat ?_
      refine de_var 5 rfl (.inr (.inl rfl)) rfl ?_
      refine de_var 6 rfl (.inl rfl) rfl ?_
      refine ⟨_, _, rfl, rfl, by rw [List.length_map, List.length_map]; omega, ?_⟩
      rw [← List.map_append]
      refine ds_cons ?_
      refine ds_setLcP (T := .n 7) 6 [("other", 7)] rfl sc__law_parts.nd rfl rfl (sw_true rfl rfl rfl (by decide +kernel)) (blkOk_by (N := N__law_parts) (sc := defScope s__law_parts) (by decide +kernel)) (fun _ _ _ _ _ => pgt_name 7 sc__law_parts.nd rfl (.inl rfl)) (by decide) ?_
      refine di_list ?_
      refine de_callC G2 hr rfl ?_
      refine da_cons ?_
      refine de_var 2 rfl (.inl rfl) rfl ?_
      refine da_cons ?_
      refine de_var 6 rfl (.inl rfl) rfl ?_
      refine da_nil ?_
      have hNl := hN.len
      refine ⟨ns, late, rfl, fun p hp => by rw [hNl]; exact latesub p hp, fun l hl => Nat.le_trans (hN.small hl) hn, by omega, fun ms h1 h2 => ?_⟩
      have h2' : ∀ k, k ∈ ms ↔ ∃ p ∈ late, (p, k) ∈ pairsOf fs := fun k => by
        rw [h2 k]
        constructor
        · rintro ⟨p, hp, hk⟩
          exact ⟨p, hp, (hN.mem p k (latesub p hp).1 (latesub p hp).2).mp hk⟩
        · rintro ⟨p, hp, hk⟩
          exact ⟨p, hp, (hN.mem p k (latesub p hp).1 (latesub p hp).2).mpr hk⟩
      have msl : ms.length ≤ n := few_below n ms (h1.imp fun q => Int.ne_of_lt q) fun k hk => by
        obtain ⟨p, hp, hk⟩ := (h2 k).mp hk
        exact (hN.ok _ (List.mem_of_getElem? (hN.get (latesub p hp).1 (latesub p hp).2))).2 k hk
      refine ⟨_, rfl, ?_⟩
      refine ⟨by rw [List.length_map]; omega, fun d => decide (rowV d ∈ (l0 :: lr)) && !decide (rowV d ∈ part ++ late), id, fun x hx => ⟨fun _ _ _ _ _ => ?_, fun hp _ _ _ _ _ => ?_⟩, ?_⟩
      · obtain ⟨k, hk, rfl⟩ := List.mem_map.mp hx
        refine dts_one ?_
        refine dt_whole ?_
        refine dw_andV (decide (k ∈ (l0 :: lr))) (!decide (k ∈ part ++ late)) ?_ (fun hb => ?_) rfl
        · refine dt_in rfl ?_
          refine de_var 7 rfl (.inl rfl) rfl ?_
          refine de_var 4 rfl (.inr (.inl rfl)) rfl ?_
          exact ⟨_, _, rfl, .inl rfl, rfl⟩
        · refine dw_and1 ?_
          refine dt_notin rfl ?_
          refine de_var 7 rfl (.inl rfl) rfl ?_
          refine de_var 5 rfl (.inr (.inl rfl)) rfl ?_
          exact ⟨_, _, rfl, .inl rfl, rfl⟩
      · exact de_var 7 rfl (.inl rfl) rfl rfl
      rw [List.map_id, show ((ms.map D.int).filter fun d => decide (rowV d ∈ (l0 :: lr)) && !decide (rowV d ∈ part ++ late)) = (ms.filter fun k => decide (k ∈ (l0 :: lr)) && !decide (k ∈ part ++ late)).map D.int by rw [List.filter_map]; rfl]
      refine dss_freeze 6 rfl ?_
      refine ds_nil ?_
      refine ⟨_, ?_, part ++ late, _, _, rfl, rfl, hJ.step h1 h2'⟩
      rw [List.length_append]; omega
    · obtain rfl : late = [] := by
        cases late with
        | nil => rfl
        | cons a b => cases hk
      refine ds_cons ?_
      have hpl' := hI.ne
      have hfl : parts.length ≤ 1000 := by
        have h1 : (parts.flatten).length ≤ ps.length := List.Nodup.length_le_of_subset (List.nodup_append.mp hI.nd).1 fun x hx => (hI.mem x).mpr (List.mem_append_left _ hx)
        have h2 : ∀ (pp : List (List Int)), (∀ p ∈ pp, p ≠ []) → pp.length ≤ pp.flatten.length := fun pp => by
          induction pp with
          | nil => intro _; exact Nat.le_refl _
          | cons p pp ih =>
            intro h
            have h3 := ih fun p' hp' => h p' (List.mem_cons_of_mem _ hp')
            have h4 : 0 < p.length := List.length_pos_iff.mpr (h p List.mem_cons_self)
            rw [List.flatten_cons, List.length_append, List.length_cons]; omega
        have h3 := h2 parts hI.ne
        omega
      refine ds_append 3 rfl (.inl rfl) rfl (by rw [List.length_map]; omega) ?_
      refine de_tuple T.n_tuple rfl ?_
      refine de_fresh ?_
      refine df_sortedI T.n_sorted rfl cr_sortedI ?_
      refine de_var 5 rfl (.inr (.inl rfl)) rfl ?_
      refine ⟨part, rfl, fun ms hp hw => ?_⟩
      refine ⟨_, .inl rfl, ?_⟩
      refine ds_one ?_
      refine ds_set 4 sc__law_parts.nd rfl (.inr rfl) ?_
      refine de_fresh ?_
      refine df_lcP (T := .n 8) [("point", 8)] rfl sc__law_parts.nd (blkOk_by (N := N__law_parts) (sc := defScope s__law_parts) (by decide +kernel)) (fun _ _ _ _ _ => pgt_name 8 sc__law_parts.nd rfl (.inl rfl)) (by decide) ?_
      refine di_list ?_
      refine de_var 4 rfl (.inr (.inl rfl)) rfl ?_
      refine ⟨_, rfl, ?_⟩
      refine ⟨by rw [List.length_map]; omega, fun d => !decide (rowV d ∈ part), id, fun x hx => ⟨fun _ _ _ _ _ => ?_, fun hp _ _ _ _ _ => ?_⟩, ?_⟩
      · obtain ⟨k, hk, rfl⟩ := List.mem_map.mp hx
        refine dts_one ?_
        refine dt_notin rfl ?_
        refine de_var 8 rfl (.inl rfl) rfl ?_
        refine de_var 5 rfl (.inr (.inl rfl)) rfl ?_
        exact ⟨_, _, rfl, .inl rfl, rfl⟩
      · exact de_var 8 rfl (.inl rfl) rfl rfl
      rw [List.map_id, show (((l0 :: lr).map D.int).filter fun d => !decide (rowV d ∈ part)) = ((l0 :: lr).filter fun k => !decide (k ∈ part)).map D.int by rw [List.filter_map]; rfl]
      refine ⟨_, PartsI.less hJ, parts ++ [ms], _, _, _, _, _, by rw [List.map_append]; rfl, rfl, hI.step (fun _ _ => pairs_symm) hJ hp⟩
  · obtain rfl : left = [] := by
      cases left with
      | nil => rfl
      | cons a b => cases hk
    refine ds_one ?_
    refine ds_retM 3 rfl (.inl rfl) rfl (q parts ⟨?_, ?_, hI.cl, hI.ne⟩)
    · have := hI.nd; rwa [List.append_nil] at this
    · intro x; rw [hI.mem, List.append_nil]
end
end K62
set_option Elab.async false
set_option linter.all false
set_option maxRecDepth 100000
set_option maxHeartbeats 1000000
namespace K62
open PySem PySem.Spec L2 DL
section
variable {P : Program} {w : World} {K : PySem.W.Frag} {mg : Str → Option Value} {base : Heap} {f : Addr} {fd : FuncData}
theorem ok__law_way_down (F : L2.Fun K "_law_way_down" "_law_way_down" s__law_way_down f fd) (T : Txt mg) : FnOk P w K mg base CX0 1 f fd ["row", "point"] (lift K sp_way_down) := by
  refine fn_D F sc__law_way_down (fun r ds P ⟨row, p, e, _⟩ => by rw [e]; rfl) fun cdv A outer s G H E r ds Q hr ⟨row, p, e, hr0, h1, h2, hl, q⟩ => ?_
  subst e
  refine ds_cons ?_
  refine ds_setM 2 sc__law_way_down.nd rfl (.inl rfl) ?_
  refine df_lst ?_
  refine da_nil ?_
  refine ds_cons ?_
  refine ds_while PassesOwn.never (fun m S => ∃ p' found, S = [.d (tInts row), .d (.int p'), .m (found.map D.int)] ∧ WayI row p m p' found) (row.length + 1) ⟨p, [], rfl, WayI.start h1 h2⟩ fun m S hI => ?_
  obtain ⟨p', found, rfl, hW⟩ := hI
  refine dt_ge ?_
  refine de_var 1 rfl (.inl rfl) rfl ?_
  refine de_int ?_
  refine ⟨_, _, rfl, rfl, ?_⟩
  refine ⟨fun hk => ?_, fun hk => ?_⟩
  · have hp : ¬ p' < 0 := by
      have := of_decide_eq_true hk
      omega
    refine ds_cons ?_
    refine ds_if ?_
    refine dt_borrow 2 rfl ?_
    refine dt_in rfl ?_
    refine de_var 1 rfl (.inl rfl) rfl ?_
    refine de_var 2 rfl (.inl rfl) rfl ?_
    refine ⟨_, _, rfl, .inl rfl, ?_⟩
    refine ⟨fun hk => ?_, fun hk => ?_⟩
    · refine ds_one ?_
      refine ds_ret ?_
      refine de_non ?_
      rw [hW.none hp (of_decide_eq_true hk)] at q
      exact q
    · refine ds_nil ?_
      have hm := of_decide_eq_false hk
      refine ds_cons ?_
      refine ds_append 2 rfl (.inl rfl) rfl ?_ ?_
      · have := hW.len; rw [List.length_map]; omega
      refine de_var 1 rfl (.inl rfl) rfl ?_
      refine ds_one ?_
      refine ds_set 1 sc__law_way_down.nd rfl (.inl rfl) ?_
      refine de_ix (fun _ _ => rfl) ?_
      refine de_var 0 rfl (.inl rfl) rfl ?_
      refine de_var 1 rfl (.inl rfl) rfl ?_
      have hlt : p'.toNat < row.length := by have := hW.p2; omega
      have hx : row[p'.toNat]? = some row[p'.toNat] := List.getElem?_eq_getElem hlt
      refine ⟨_, _, .int row[p'.toNat], .inr rfl, rfl, at_nn (j := p'.toNat) (by omega) (by rw [List.getElem?_map, hx]; rfl), ?_⟩
      have hpos := hW.pos
      refine ⟨m - 1, by omega, row[p'.toNat], found ++ [p'], ?_, hW.step hr0 hp hm hx⟩
      rw [List.map_append]; rfl
  · have hp : p' < 0 := by
      have := of_decide_eq_false hk
      omega
    refine ds_one ?_
    refine ds_retM 2 rfl (.inl rfl) rfl ?_
    rw [hW.ends hp] at q
    exact q
theorem bad_law (n : Nat) (x : Int) : (decide (x < 0 - 1) || decide ((n : Int) ≤ x)) = badI n x := by
  unfold badI
  by_cases h1 : -1 ≤ x <;> by_cases h2 : x < (n : Int)
  · rw [decide_eq_false (show ¬ x < 0 - 1 by omega), decide_eq_false (show ¬ (n : Int) ≤ x by omega), decide_eq_true h1, decide_eq_true h2]; rfl
  · rw [decide_eq_true (show (n : Int) ≤ x by omega), decide_eq_false h2]; simp
  · rw [decide_eq_true (show x < 0 - 1 by omega), decide_eq_false h1]; simp
  · rw [decide_eq_true (show x < 0 - 1 by omega), decide_eq_false h1]; simp
theorem none_left {α : Type} (p : α → Bool) (xs : List α) : decide ((0 : Int) < ((xs.filter p).length : Int)) = !xs.all (fun x => !p x) := by
  induction xs with
  | nil => rfl
  | cons x xs ih =>
    rw [List.filter_cons, List.all_cons]
    cases p x with
    | true => rw [if_pos rfl, List.length_cons]; simp
    | false => rw [if_neg Bool.false_ne_true, ih]; simp
theorem none_is0 {α : Type} (p : α → Bool) (xs : List α) : decide (((xs.filter p).length : Int) = 0) = xs.all (fun x => !p x) := by
  induction xs with
  | nil => rfl
  | cons x xs ih =>
    rw [List.filter_cons, List.all_cons]
    cases p x with
    | true => rw [if_pos rfl, List.length_cons]; exact decide_eq_false (by omega)
    | false => rw [if_neg Bool.false_ne_true, ih]; simp
def pts2 : D → Bool
  | .tup [_, .tup xs] => decide ((xs.length : Int) = 2)
  | _ => false
def ptsR : D → D
  | .tup [_, x] => x
  | _ => .non
def tupR : D → List Int
  | .tup xs => xs.map rowV
  | _ => []
theorem tupR_D (xs : List Int) : tupR (tInts xs) = xs := by
  show (xs.map D.int).map rowV = xs
  rw [List.map_map, show (rowV ∘ D.int) = id from rfl, List.map_id]
def tieBad (ways : List (List Int)) : List Int → Bool
  | [a, b] => !decide (a ∈ ways.getD b.toNat []) && !decide (b ∈ ways.getD a.toNat [])
  | _ => false
theorem ties_all (ways : List (List Int)) : ∀ fs : List Fact, (((fs.filter fun ft => decide ((ft.2.length : Int) = 2)).map (·.2)).all fun pt => !tieBad ways pt) = rowsDown fs ways
  | [] => rfl
  | ft :: fs => by
    have ih := ties_all ways fs
    unfold rowsDown at ih ⊢
    rw [List.all_cons, ← ih, List.filter_cons]
    obtain ⟨nm, pts⟩ := ft
    match pts with
    | [] => rfl
    | [a] => rfl
    | [a, b] =>
      show (List.all (List.map _ (if true = true then _ else _)) _) = _
      rw [if_pos rfl, List.map_cons, List.all_cons]
      congr 1
      show (!(!decide (a ∈ ways.getD b.toNat []) && !decide (b ∈ ways.getD a.toNat []))) = (decide (a ∈ ways.getD b.toNat []) || decide (b ∈ ways.getD a.toNat []))
      rw [Bool.not_and, Bool.not_not, Bool.not_not]
    | a :: b :: c :: r =>
      have : decide (((a :: b :: c :: r).length : Int) = 2) = false := decide_eq_false (by rw [List.length_cons, List.length_cons, List.length_cons]; omega)
      show (List.all (List.map _ (if decide (((a :: b :: c :: r).length : Int) = 2) = true then _ else _)) _) = _
      rw [this, if_neg Bool.false_ne_true]
      rfl
theorem webT_at2 {kd : D} {n : Nat} {fs : List Fact} : True := trivial
def sp_is_wood : SpD := fun _ ds Q => ∃ (kd : D) (n : Nat) (fs : List Fact) (depth : Int) (row : List Int), ds = [webT kd n fs, .int depth, tInts row] ∧ FactsOk n fs ∧ n ≤ 100 ∧ fs.length ≤ 1000 ∧ row.length ≤ 1000 ∧ Q (.bl (woodOk n fs depth row))
theorem ok__law_is_wood (F : L2.Fun K "_law_is_wood" "_law_is_wood" s__law_is_wood f fd) (T : Txt mg) (G1 : Callee P w K mg base 1 "_law_way_down" ["row", "point"] sp_way_down) : FnOk P w K mg base CX0 2 f fd ["web", "depth", "row"] (lift K sp_is_wood) := by
  refine fn_D F sc__law_is_wood (fun r ds P ⟨_, _, _, _, _, e, _⟩ => by rw [e]; rfl) fun cdv A outer s G H E r ds Q hr ⟨kd, n, fs, depth, row, e, hf, hn, hfl, hrl, q⟩ => ?_
  subst e
  refine ds_cons ?_
  refine ds_if ?_
  refine dt_whole ?_
  refine dw_orV (!decide ((row.length : Int) = (n : Int))) (!row.all fun x => !badI n x) ?_ (fun hb => ?_) ?_
  · refine dt_neI ?_
    refine de_len T.n_len rfl ?_
    refine de_var 2 rfl (.inr (.inl rfl)) rfl ?_
    refine ⟨_, rfl, ?_⟩
    refine de_ix (fun _ _ => rfl) ?_
    refine de_var 0 rfl (.inr (.inl rfl)) rfl ?_
    refine de_int ?_
    refine ⟨_, _, .int n, .inr rfl, rfl, rfl, ?_⟩
    exact ⟨_, _, rfl, rfl, by rw [List.length_map]⟩
  · refine dw_or1 ?_
    refine dt_gt ?_
    refine de_len T.n_len rfl ?_
    refine de_fresh ?_
    refine df_lcP (T := .n 5) [("under", 5)] rfl sc__law_is_wood.nd (blkOk_by (N := N__law_is_wood) (sc := defScope s__law_is_wood) (by decide +kernel)) (fun _ _ _ _ _ => pgt_name 5 sc__law_is_wood.nd rfl (.inl rfl)) (by decide) ?_
    refine di_tup ?_
    refine de_var 2 rfl (.inr (.inl rfl)) rfl ?_
    refine ⟨_, rfl, ?_⟩
    refine ⟨by rw [List.length_map]; omega, fun d => badI n (rowV d), id, fun x hx => ⟨fun _ _ _ _ _ => ?_, fun hp _ _ _ _ _ => ?_⟩, ?_⟩
    · obtain ⟨k, hk, rfl⟩ := List.mem_map.mp hx
      refine dts_one ?_
      refine dt_whole ?_
      refine dw_orV (decide (k < 0 - 1)) (decide ((n : Int) ≤ k)) ?_ (fun hb => ?_) (bad_law n k)
      · refine dt_lt ?_
        refine de_var 5 rfl (.inl rfl) rfl ?_
        refine de_sub ?_
        refine de_int ?_
        refine de_int ?_
        refine ⟨_, _, rfl, rfl, ?_⟩
        exact ⟨_, _, rfl, rfl, rfl⟩
      · refine dw_or1 ?_
        refine dt_ge ?_
        refine de_var 5 rfl (.inl rfl) rfl ?_
        refine de_ix (fun _ _ => rfl) ?_
        refine de_var 0 rfl (.inr (.inl rfl)) rfl ?_
        refine de_int ?_
        refine ⟨_, _, .int n, .inr rfl, rfl, rfl, ?_⟩
        exact ⟨_, _, rfl, rfl, rfl⟩
    · exact de_var 5 rfl (.inl rfl) rfl rfl
    refine ⟨_, rfl, ?_⟩
    refine de_int ?_
    refine ⟨_, _, rfl, rfl, ?_⟩
    rw [List.length_map, List.filter_map, List.length_map]
    exact none_left (badI n) row
  refine ⟨fun hk => ?_, fun hk => ?_⟩
  · refine ds_one ?_
    refine ds_ret ?_
    refine de_bl ?_
    have : woodOk n fs depth row = false := by
      unfold woodOk
      by_cases h : row.length = n
      · have : decide ((row.length : Int) = (n : Int)) = true := decide_eq_true (by omega)
        rw [this] at hk
        simp only [Bool.not_true, Bool.false_or] at hk
        have hk' : (row.all fun x => !badI n x) = false := by simpa using hk
        rw [hk']; simp
      · rw [decide_eq_false h]; rfl
    rw [this] at q; exact q
  · refine ds_nil ?_
    have hk2 := hk
    rw [Bool.or_eq_false_iff] at hk2
    have hlen : row.length = n := by
      have := hk2.1
      have h3 : decide ((row.length : Int) = (n : Int)) = true := by simpa using this
      have := of_decide_eq_true h3; omega
    have hall : (row.all fun x => !badI n x) = true := by simpa using hk2.2
    have hin : InRow n row := fun x hx => by
      have := List.all_eq_true.mp hall x hx
      unfold badI at this
      simp at this; exact this
    have q1 : Q (.bl (woodIn fs depth row)) := by
      unfold woodOk at q
      rw [decide_eq_true hlen, hall] at q; exact q
    clear hk hk2 q hall
    refine ds_cons ?_
    refine ds_set 3 sc__law_is_wood.nd rfl (.inr rfl) ?_
    refine de_fresh ?_
    refine df_lcP (T := .n 6) [("point", 6)] rfl sc__law_is_wood.nd (blkOk_by (N := N__law_is_wood) (sc := defScope s__law_is_wood) (by decide +kernel)) (fun _ _ _ _ _ => pgt_name 6 sc__law_is_wood.nd rfl (.inl rfl)) (by decide) ?_
    refine di_range1 T.n_range rfl ?_
    refine de_ix (fun _ _ => rfl) ?_
    refine de_var 0 rfl (.inr (.inl rfl)) rfl ?_
    refine de_int ?_
    refine ⟨_, _, .int n, .inr rfl, rfl, rfl, ?_⟩
    refine ⟨_, rfl, by omega, by omega, ?_⟩
    refine ⟨by rw [rangeD_len]; omega, fun _ => true, fun x => wayD (wayDown row (rowV x)), fun x hx => ⟨fun _ _ _ _ _ => dts_nil rfl, fun hp _ _ _ _ _ => ?_⟩, ?_⟩
    · obtain ⟨i, hi, rfl⟩ : ∃ i : Nat, i < n ∧ x = .int (0 + (i : Int)) := by
        unfold rangeD at hx
        obtain ⟨i, hi, rfl⟩ := List.mem_map.mp hx
        exact ⟨i, by rw [List.mem_range] at hi; omega, rfl⟩
      refine de_callC G1 hr rfl ?_
      refine da_cons ?_
      refine de_var 2 rfl (.inr (.inl rfl)) rfl ?_
      refine da_cons ?_
      refine de_var 6 rfl (.inl rfl) rfl ?_
      refine da_nil ?_
      exact ⟨row, _, rfl, by rw [hlen]; exact hin, by omega, by omega, by omega, rfl⟩
    have ew : ((rangeD 0 ((n : Int)).toNat).filter fun _ => true).map (fun x => wayD (wayDown row (rowV x))) = (waysOf row).map wayD := by
      unfold rangeD waysOf
      rw [List.filter_eq_self.mpr fun _ _ => rfl, List.map_map, List.map_map, hlen]
      refine List.map_congr_left fun i _ => ?_
      show wayD (wayDown row (0 + (i : Int))) = wayD (wayDown row (i : Int))
      rw [Int.zero_add]
    rw [ew]
    refine ds_cons ?_
    refine ds_if ?_
    refine dt_gt ?_
    refine de_len T.n_len rfl ?_
    refine de_fresh ?_
    refine df_lcP (T := .n 7) [("way", 7)] rfl sc__law_is_wood.nd (blkOk_by (N := N__law_is_wood) (sc := defScope s__law_is_wood) (by decide +kernel)) (fun _ _ _ _ _ => pgt_name 7 sc__law_is_wood.nd rfl (.inl rfl)) (by decide) ?_
    refine di_list ?_
    refine de_var 3 rfl (.inr (.inl rfl)) rfl ?_
    refine ⟨_, rfl, ?_⟩
    refine ⟨by rw [List.length_map, waysOf_len]; omega, badW depth, id, fun x hx => ⟨fun _ _ _ _ _ => ?_, fun hp _ _ _ _ _ => ?_⟩, ?_⟩
    · obtain ⟨o, ho, rfl⟩ := List.mem_map.mp hx
      rw [badW_D]
      refine dts_one ?_
      refine dt_whole ?_
      refine dw_orV (isNon (wayD o)) (wayBad depth o) ?_ (fun hb => ?_) ?_
      · refine dt_isN ?_
        exact de_var 7 rfl (.inl rfl) rfl rfl
      · obtain ⟨l, rfl⟩ : ∃ l, o = some l := by cases o with | some l => exact ⟨l, rfl⟩ | none => cases hb
        refine dw_or1 ?_
        refine dt_gt ?_
        refine de_len T.n_len rfl ?_
        refine de_var 7 rfl (.inl rfl) rfl ?_
        refine ⟨_, rfl, ?_⟩
        refine de_var 1 rfl (.inr (.inl rfl)) rfl ?_
        refine ⟨_, _, rfl, rfl, ?_⟩
        rw [List.length_map]; rfl
      · cases o <;> rfl
    · exact de_var 7 rfl (.inl rfl) rfl rfl
    refine ⟨_, rfl, ?_⟩
    refine de_int ?_
    refine ⟨_, _, rfl, rfl, ?_⟩
    rw [List.length_map, List.filter_map, List.length_map, show (badW depth ∘ wayD) = wayBad depth from funext fun o => badW_D depth o, none_left]
    unfold woodIn at q1
    refine ⟨fun hk => ?_, fun hk => ?_⟩
    · refine ds_one ?_
      refine ds_ret ?_
      refine de_bl ?_
      have : (waysOf row).all (fun o => !wayBad depth o) = false := by simpa using hk
      rw [this] at q1
      exact q1
    · refine ds_nil ?_
      have hall : (waysOf row).all (fun o => !wayBad depth o) = true := by simpa using hk
      rw [hall, Bool.true_and] at q1
      have hways : (waysOf row).map wayD = ((waysOf row).map (·.getD [])).map dInts := by
        rw [List.map_map]
        refine List.map_congr_left fun o ho => ?_
        have := List.all_eq_true.mp hall o ho
        cases o with
        | none => cases this
        | some l => rfl
      rw [hways]
      have hwl : ((waysOf row).map (·.getD [])).length = n := by rw [List.length_map, waysOf_len]; exact hlen
      generalize (waysOf row).map (·.getD []) = ways at q1 hwl
      clear hall hk hways ew
      refine ds_cons ?_
      refine ds_setLcP (T := .t [8, 9]) 4 [("name", 8), ("points", 9)] rfl sc__law_is_wood.nd rfl rfl (sw_true rfl rfl rfl (by decide +kernel)) (blkOk_by (N := N__law_is_wood) (sc := defScope s__law_is_wood) (by decide +kernel)) (fun _ _ _ _ _ => pgt_tup rfl (pgn_cons 8 sc__law_is_wood.nd rfl (.inl rfl) (pgn_cons 9 sc__law_is_wood.nd rfl (.inl rfl) (pgn_nil)))) (by decide) ?_
      refine di_tup ?_
      refine de_ix (fun _ _ => rfl) ?_
      refine de_var 0 rfl (.inr (.inl rfl)) rfl ?_
      refine de_int ?_
      refine ⟨_, _, factsD fs, .inr rfl, rfl, rfl, ?_⟩
      refine ⟨_, rfl, ?_⟩
      refine ⟨by rw [List.length_map]; omega, pts2, ptsR, fun x hx => ?_, ?_⟩
      · obtain ⟨ft, hft, rfl⟩ := List.mem_map.mp hx
        refine ⟨_, rfl, rfl, ⟨fun _ _ _ _ _ => ?_, fun hp _ _ _ _ _ => ?_⟩⟩
        · refine dts_one ?_
          refine dt_eqI ?_
          refine de_len T.n_len rfl ?_
          refine de_var 9 rfl (.inl rfl) rfl ?_
          refine ⟨_, rfl, ?_⟩
          refine de_int ?_
          exact ⟨_, _, rfl, rfl, rfl⟩
        · exact de_var 9 rfl (.inl rfl) rfl rfl
      have et : ((fs.map factD).filter pts2).map ptsR = ((fs.filter fun ft => decide ((ft.2.length : Int) = 2)).map (·.2)).map tInts := by
        rw [List.filter_map, List.map_map, List.map_map]
        have : (pts2 ∘ factD) = fun ft : Fact => decide ((ft.2.length : Int) = 2) := funext fun ft => by
          show decide (((ft.2.map D.int).length : Int) = 2) = _
          rw [List.length_map]
        rw [this]; rfl
      rw [et]
      rw [← ties_all] at q1
      have htl : ∀ pt ∈ (fs.filter fun ft => decide ((ft.2.length : Int) = 2)).map (·.2), ∃ a b : Int, pt = [a, b] ∧ 0 ≤ a ∧ a < (n : Int) ∧ 0 ≤ b ∧ b < (n : Int) := fun pt h => by
        obtain ⟨ft, hft, rfl⟩ := List.mem_map.mp h
        obtain ⟨hm, h2⟩ := List.mem_filter.mp hft
        rcases hf ft hm with ⟨a, e, _⟩ | ⟨a, b, e, z⟩
        · rw [e] at h2; cases h2
        · exact ⟨a, b, e, z⟩
      have hll : ((fs.filter fun ft => decide ((ft.2.length : Int) = 2)).map (·.2)).length ≤ 1000 := by
        rw [List.length_map]; exact Nat.le_trans (List.length_filter_le _ _) hfl
      generalize (fs.filter fun ft => decide ((ft.2.length : Int) = 2)).map (·.2) = ties at q1 htl hll
      refine dss_freeze 4 rfl ?_
      refine ds_one ?_
      refine ds_ret ?_
      refine de_eqI ?_
      refine de_len T.n_len rfl ?_
      refine de_fresh ?_
      refine df_lcP (T := .n 9) [("points", 9)] rfl sc__law_is_wood.nd (blkOk_by (N := N__law_is_wood) (sc := defScope s__law_is_wood) (by decide +kernel)) (fun _ _ _ _ _ => pgt_name 9 sc__law_is_wood.nd rfl (.inl rfl)) (by decide) ?_
      refine di_list ?_
      refine de_var 4 rfl (.inl rfl) rfl ?_
      refine ⟨_, rfl, ?_⟩
      refine ⟨by rw [List.length_map]; omega, fun d => tieBad ways (tupR d), id, fun x hx => ⟨fun _ _ _ _ _ => ?_, fun hp _ _ _ _ _ => ?_⟩, ?_⟩
      · obtain ⟨pt, hpt, rfl⟩ := List.mem_map.mp hx
        obtain ⟨a, b, rfl, a0, an, b0, bn⟩ := htl pt hpt
        have wa : ways[a.toNat]? = some (ways.getD a.toNat []) := by
          rw [List.getD_eq_getElem?_getD, List.getElem?_eq_getElem (show a.toNat < ways.length by omega)]; rfl
        have wb : ways[b.toNat]? = some (ways.getD b.toNat []) := by
          rw [List.getD_eq_getElem?_getD, List.getElem?_eq_getElem (show b.toNat < ways.length by omega)]; rfl
        have wa' : (ways.map dInts)[a.toNat]? = some (dInts (ways.getD a.toNat [])) := by rw [List.getElem?_map, wa]; rfl
        have wb' : (ways.map dInts)[b.toNat]? = some (dInts (ways.getD b.toNat [])) := by rw [List.getElem?_map, wb]; rfl
        refine dts_one ?_
        refine dt_whole ?_
        refine dw_andV (!decide (a ∈ ways.getD b.toNat [])) (!decide (b ∈ ways.getD a.toNat [])) ?_ (fun hb => ?_) rfl
        · refine dt_notin rfl ?_
          refine de_ix (fun _ _ => rfl) ?_
          refine de_var 9 rfl (.inl rfl) rfl ?_
          refine de_int ?_
          refine ⟨_, _, .int a, .inr rfl, rfl, rfl, ?_⟩
          refine de_ix (fun _ _ => rfl) ?_
          refine de_var 3 rfl (.inr (.inl rfl)) rfl ?_
          refine de_ix (fun _ _ => rfl) ?_
          refine de_var 9 rfl (.inl rfl) rfl ?_
          refine de_int ?_
          refine ⟨_, _, .int b, .inr rfl, rfl, rfl, ?_⟩
          refine ⟨_, _, _, .inl rfl, rfl, at_nn (j := b.toNat) (by omega) wb', ?_⟩
          exact ⟨_, _, rfl, .inl rfl, rfl⟩
        · refine dw_and1 ?_
          refine dt_notin rfl ?_
          refine de_ix (fun _ _ => rfl) ?_
          refine de_var 9 rfl (.inl rfl) rfl ?_
          refine de_int ?_
          refine ⟨_, _, .int b, .inr rfl, rfl, rfl, ?_⟩
          refine de_ix (fun _ _ => rfl) ?_
          refine de_var 3 rfl (.inr (.inl rfl)) rfl ?_
          refine de_ix (fun _ _ => rfl) ?_
          refine de_var 9 rfl (.inl rfl) rfl ?_
          refine de_int ?_
          refine ⟨_, _, .int a, .inr rfl, rfl, rfl, ?_⟩
          refine ⟨_, _, _, .inl rfl, rfl, at_nn (j := a.toNat) (by omega) wa', ?_⟩
          exact ⟨_, _, rfl, .inl rfl, rfl⟩
      · exact de_var 9 rfl (.inl rfl) rfl rfl
      refine ⟨_, rfl, ?_⟩
      refine de_int ?_
      refine ⟨_, _, rfl, rfl, ?_⟩
      rw [List.length_map, List.filter_map, List.length_map, show ((fun d => tieBad ways (tupR d)) ∘ tInts) = tieBad ways from funext fun pt => by show tieBad ways (tupR (tInts pt)) = _; rw [tupR_D], none_is0]
      exact q1
end
end K62
set_option Elab.async false
set_option linter.all false
set_option maxRecDepth 100000
set_option maxHeartbeats 1000000
namespace K62
open PySem PySem.Spec L2 DL
abbrev Todo := List Int × Int
def rngI (n : Nat) : List Int := (List.range n).map fun (i : Nat) => (i : Int)
theorem mem_rngI {n : Nat} {x : Int} : x ∈ rngI n ↔ 0 ≤ x ∧ x < (n : Int) := by
  unfold rngI
  rw [List.mem_map]
  constructor
  · rintro ⟨i, hi, rfl⟩
    rw [List.mem_range] at hi; omega
  · rintro ⟨h0, h1⟩
    exact ⟨x.toNat, by rw [List.mem_range]; omega, by omega⟩
theorem nodup_rngI (n : Nat) : (rngI n).Nodup := by
  unfold rngI
  rw [List.nodup_iff_pairwise_ne, List.pairwise_map]
  refine List.Pairwise.imp ?_ (List.nodup_iff_pairwise_ne.mp List.nodup_range)
  intro a b h e
  exact h (by omega)
def at1 (row : List Int) (p : Int) : Int := row.getD p.toNat (-1)
structure WoodI (n : Nat) (prs : List (Int × Int)) (row : List Int) (todo : List Todo) (dn : List Int) (A : Int → List Int) : Prop where
  len : row.length = n
  inr : InRow n row
  aneg : ∀ u, u < 0 → A u = []
  astep : ∀ p ∈ dn, A p = p :: A (at1 row p)
  und : ∀ p ∈ dn, at1 row p = -1 ∨ at1 row p ∈ dn
  and_ : ∀ p ∈ dn, (A p).Nodup ∧ ∀ x ∈ A p, x ∈ dn
  tp : (dn ++ (todo.map (·.1)).flatten).Perm (rngI n)
  tund : ∀ t ∈ todo, t.2 = -1 ∨ t.2 ∈ dn
  dd : ∀ a b, (a, b) ∈ prs → a ∈ dn → b ∈ dn → a ∈ A b ∨ b ∈ A a
  dt : ∀ t ∈ todo, ∀ a b, (a, b) ∈ prs → a ∈ dn → b ∈ t.1 → a ∈ A t.2
  tt : ∀ t ∈ todo, ∀ a b, (a, b) ∈ prs → a ∈ t.1 → b ∈ dn ∨ b ∈ t.1
section
variable {n : Nat} {prs : List (Int × Int)} {row : List Int} {todo T1 T2 : List Todo} {dn p : List Int} {A : Int → List Int} {u low : Int} {parts : List (List Int)}
theorem WoodI.nd (h : WoodI n prs row todo dn A) : (dn ++ (todo.map (·.1)).flatten).Nodup := h.tp.symm.nodup (nodup_rngI n)
theorem WoodI.range (h : WoodI n prs row todo dn A) {x : Int} (hx : x ∈ dn ++ (todo.map (·.1)).flatten) : 0 ≤ x ∧ x < (n : Int) := mem_rngI.mp (h.tp.mem_iff.mp hx)
theorem WoodI.start (hp : ∀ a b, (a, b) ∈ prs → 0 ≤ a ∧ a < (n : Int) ∧ 0 ≤ b ∧ b < (n : Int)) : WoodI n prs (List.replicate n (-1)) [(rngI n, -1)] [] (fun _ => []) where
  len := List.length_replicate
  inr := fun x hx => by rw [List.eq_of_mem_replicate hx]; omega
  aneg := fun _ _ => rfl
  astep := fun _ h => nomatch h
  und := fun _ h => nomatch h
  and_ := fun _ h => nomatch h
  tp := by simp
  tund := fun t ht => by rw [List.mem_singleton] at ht; subst ht; exact .inl rfl
  dd := fun _ _ _ h => nomatch h
  dt := fun _ _ _ _ _ h => nomatch h
  tt := fun t ht a b h _ => by
    rw [List.mem_singleton] at ht; subst ht
    obtain ⟨_, _, h0, h1⟩ := hp a b h
    exact .inr (mem_rngI.mpr ⟨h0, h1⟩)
theorem WoodI.part (h : WoodI n prs row (todo ++ [(p, u)]) dn A) (hp : PartsOk prs p parts) (pnd : p.Nodup) : WoodI n prs row (todo ++ parts.map fun q => (q, u)) dn A := by
  have hm : (p, u) ∈ todo ++ [(p, u)] := List.mem_append_right _ List.mem_cons_self
  have cases_ : ∀ t ∈ todo ++ parts.map (fun q => (q, u)), t ∈ todo ++ [(p, u)] ∨ ∃ q ∈ parts, t = (q, u) := fun t ht => by
    rcases List.mem_append.mp ht with ht | ht
    · exact .inl (List.mem_append_left _ ht)
    · obtain ⟨q, hq, rfl⟩ := List.mem_map.mp ht
      exact .inr ⟨q, hq, rfl⟩
  have sub : ∀ q ∈ parts, ∀ x ∈ q, x ∈ p := fun q hq x hx => (hp.mem x).mpr (List.mem_flatten.mpr ⟨q, hq, hx⟩)
  refine ⟨h.len, h.inr, h.aneg, h.astep, h.und, h.and_, ?_, fun t ht => ?_, h.dd, fun t ht a b hab ha hb => ?_, fun t ht a b hab ha => ?_⟩
  · have h1 := h.tp
    rw [List.map_append, List.flatten_append] at h1 ⊢
    refine List.Perm.trans (List.Perm.append_left _ (List.Perm.append_left _ ?_)) h1
    rw [List.map_map, show ((fun t : Todo => t.1) ∘ fun q => (q, u)) = id from rfl, List.map_id]
    show parts.flatten.Perm [p].flatten
    rw [show [p].flatten = p by simp]
    exact (List.perm_ext_iff_of_nodup hp.nd pnd).mpr fun x => (hp.mem x).symm
  · rcases cases_ t ht with h1 | ⟨q, hq, rfl⟩
    · exact h.tund t h1
    · exact h.tund (p, u) hm
  · rcases cases_ t ht with h1 | ⟨q, hq, rfl⟩
    · exact h.dt t h1 a b hab ha hb
    · exact h.dt (p, u) hm a b hab ha (sub q hq b hb)
  · rcases cases_ t ht with h1 | ⟨q, hq, rfl⟩
    · exact h.tt t h1 a b hab ha
    · rcases h.tt (p, u) hm a b hab (sub q hq a ha) with h2 | h2
      · exact .inl h2
      · exact .inr (hp.cl q hq a ha b h2 hab)
theorem at1_set {row : List Int} {x y v : Int} (hx : 0 ≤ x) (hl : x < (row.length : Int)) (hy : 0 ≤ y) : at1 (row.set x.toNat v) y = if y = x then v else at1 row y := by
  unfold at1
  by_cases e : y = x
  · subst e
    rw [if_pos rfl, List.getD_eq_getElem?_getD, List.getElem?_set_self (by omega)]; rfl
  · rw [if_neg e, List.getD_eq_getElem?_getD, List.getD_eq_getElem?_getD, List.getElem?_set_ne (by omega)]
theorem WoodI.putLow (sy : ∀ a b, (a, b) ∈ prs → (b, a) ∈ prs) (h : WoodI n prs row (T1 ++ (p, u) :: T2) dn A) (hlow : low ∈ p) :
    WoodI n prs (row.set low.toNat u) (T1 ++ (p.filter fun x => !decide (x = low), low) :: T2) (dn ++ [low]) (fun x => if x = low then low :: A u else A x) := by
  have hm : (p, u) ∈ T1 ++ (p, u) :: T2 := List.mem_append_right _ List.mem_cons_self
  have hnd := h.nd
  have hfl : ((T1 ++ (p, u) :: T2).map (·.1)).flatten = (T1.map (·.1)).flatten ++ (p ++ (T2.map (·.1)).flatten) := by
    rw [List.map_append, List.flatten_append, List.map_cons, List.flatten_cons]
  rw [hfl] at hnd
  have n1 := List.nodup_append.mp hnd
  have n2 := List.nodup_append.mp n1.2.1
  have n3 := List.nodup_append.mp n2.2.1
  have lowdn : low ∉ dn := fun q => n1.2.2 low q low (List.mem_append_right _ (List.mem_append_left _ hlow)) rfl
  have hlr : 0 ≤ low ∧ low < (n : Int) := h.range (by rw [hfl]; exact List.mem_append_right _ (List.mem_append_right _ (List.mem_append_left _ hlow)))
  have hu : u = -1 ∨ u ∈ dn := h.tund (p, u) hm
  have ulow : u ≠ low := fun e => by
    rcases hu with q | q
    · omega
    · exact lowdn (e ▸ q)
  have dnlo : ∀ x ∈ dn, 0 ≤ x ∧ x < (n : Int) := fun x hx => h.range (List.mem_append_left _ hx)
  have hAu : (A u).Nodup ∧ ∀ x ∈ A u, x ∈ dn := by
    rcases hu with q | q
    · rw [h.aneg u (by omega)]; exact ⟨List.nodup_nil, fun _ h => nomatch h⟩
    · exact h.and_ u q
  have hl : low < (row.length : Int) := by rw [h.len]; exact hlr.2
  have nel : ∀ x ∈ dn, x ≠ low := fun x hx e => lowdn (e ▸ hx)
  have other : ∀ t, t ∈ T1 ∨ t ∈ T2 → t ∈ T1 ++ (p, u) :: T2 ∧ ∀ x ∈ p, x ∉ t.1 := fun t ht => by
    rcases ht with ht | ht
    · exact ⟨List.mem_append_left _ ht, fun x hx hxt => n2.2.2 x (List.mem_flatten.mpr ⟨t.1, List.mem_map_of_mem ht, hxt⟩) x (List.mem_append_left _ hx) rfl⟩
    · exact ⟨List.mem_append_right _ (List.mem_cons_of_mem _ ht), fun x hx hxt => n3.2.2 x hx x (List.mem_flatten.mpr ⟨t.1, List.mem_map_of_mem ht, hxt⟩) rfl⟩
  have cases_ : ∀ t ∈ T1 ++ (p.filter (fun x => !decide (x = low)), low) :: T2, t = (p.filter (fun x => !decide (x = low)), low) ∨ t ∈ T1 ∨ t ∈ T2 := fun t ht => by
    rcases List.mem_append.mp ht with ht | ht
    · exact .inr (.inl ht)
    · rcases List.mem_cons.mp ht with ht | ht
      · exact .inl ht
      · exact .inr (.inr ht)
  have fp : ∀ x, x ∈ p.filter (fun x => !decide (x = low)) ↔ x ∈ p ∧ x ≠ low := fun x => by
    rw [List.mem_filter]
    by_cases e : x = low <;> simp [e]
  refine ⟨by rw [List.length_set]; exact h.len, fun x hx => ?_, fun v hv => ?_, fun q hq => ?_, fun q hq => ?_, fun q hq => ?_, ?_, fun t ht => ?_, fun a b hab ha hb => ?_, fun t ht a b hab ha hb => ?_, fun t ht a b hab ha => ?_⟩
  · rcases List.mem_or_eq_of_mem_set hx with q | q
    · exact h.inr x q
    · subst q
      rcases hu with q | q
      · omega
      · have := dnlo x q; omega
  · show (if v = low then _ else _) = _
    rw [if_neg (by omega)]; exact h.aneg v hv
  · show (if q = low then low :: A u else A q) = q :: (if at1 (row.set low.toNat u) q = low then low :: A u else A (at1 (row.set low.toNat u) q))
    rcases List.mem_append.mp hq with hq | hq
    · rw [at1_set hlr.1 hl (dnlo q hq).1, if_neg (nel q hq), if_neg (nel q hq)]
      have : at1 row q ≠ low := by
        rcases h.und q hq with e | e
        · omega
        · exact nel _ e
      rw [if_neg this]; exact h.astep q hq
    · rw [List.mem_singleton] at hq; subst hq
      rw [at1_set hlr.1 hl hlr.1, if_pos rfl, if_pos rfl, if_neg ulow]
  · rcases List.mem_append.mp hq with hq | hq
    · rw [at1_set hlr.1 hl (dnlo q hq).1, if_neg (nel q hq)]
      rcases h.und q hq with e | e
      · exact .inl e
      · exact .inr (List.mem_append_left _ e)
    · rw [List.mem_singleton] at hq; subst hq
      rw [at1_set hlr.1 hl hlr.1, if_pos rfl]
      rcases hu with e | e
      · exact .inl e
      · exact .inr (List.mem_append_left _ e)
  · show (if q = low then low :: A u else A q).Nodup ∧ ∀ x ∈ (if q = low then low :: A u else A q), _
    rcases List.mem_append.mp hq with hq | hq
    · rw [if_neg (nel q hq)]
      exact ⟨(h.and_ q hq).1, fun x hx => List.mem_append_left _ ((h.and_ q hq).2 x hx)⟩
    · rw [List.mem_singleton] at hq; subst hq
      rw [if_pos rfl]
      refine ⟨List.nodup_cons.mpr ⟨fun z => lowdn (hAu.2 _ z), hAu.1⟩, fun x hx => ?_⟩
      rcases List.mem_cons.mp hx with e | hx
      · subst e; exact List.mem_append_right _ List.mem_cons_self
      · exact List.mem_append_left _ (hAu.2 x hx)
  · refine List.Perm.trans ?_ h.tp
    rw [hfl, List.map_append, List.flatten_append, List.map_cons, List.flatten_cons]
    have hpp : p.Perm (low :: p.filter fun x => !decide (x = low)) := by
      refine (List.perm_ext_iff_of_nodup n3.1 (List.nodup_cons.mpr ⟨fun z => ((fp low).mp z).2 rfl, List.Nodup.sublist List.filter_sublist n3.1⟩)).mpr fun x => ?_
      rw [List.mem_cons, fp]
      by_cases e : x = low
      · subst e; simp [hlow]
      · simp [e]
    rw [List.perm_iff_count] at hpp ⊢
    intro x
    have := hpp x
    rw [List.count_cons] at this
    simp only [List.count_append, List.count_cons, List.count_nil]
    omega
  · rcases cases_ t ht with rfl | ht
    · exact .inr (List.mem_append_right _ List.mem_cons_self)
    · rcases h.tund t (other t ht).1 with e | e
      · exact .inl e
      · exact .inr (List.mem_append_left _ e)
  · show a ∈ (if b = low then low :: A u else A b) ∨ b ∈ (if a = low then low :: A u else A a)
    rcases List.mem_append.mp ha with ha1 | ha1
    · rcases List.mem_append.mp hb with hb1 | hb1
      · rw [if_neg (nel a ha1), if_neg (nel b hb1)]; exact h.dd a b hab ha1 hb1
      · have eb : b = low := List.mem_singleton.mp hb1
        rw [if_pos eb]
        exact .inl (List.mem_cons_of_mem _ (h.dt (p, u) hm a low (eb ▸ hab) ha1 hlow))
    · have ea : a = low := List.mem_singleton.mp ha1
      rw [if_pos ea]
      rcases List.mem_append.mp hb with hb1 | hb1
      · exact .inr (List.mem_cons_of_mem _ (h.dt (p, u) hm b low (sy _ _ (ea ▸ hab)) hb1 hlow))
      · have eb : b = low := List.mem_singleton.mp hb1
        rw [eb]; exact .inr List.mem_cons_self
  · show a ∈ (if t.2 = low then low :: A u else A t.2)
    rcases cases_ t ht with rfl | ht
    · rw [if_pos rfl]
      have hb := ((fp b).mp hb).1
      rcases List.mem_append.mp ha with ha | ha
      · exact List.mem_cons_of_mem _ (h.dt (p, u) hm a b hab ha hb)
      · rw [List.mem_singleton] at ha; subst ha; exact List.mem_cons_self
    · obtain ⟨o1, o2⟩ := other t ht
      have : t.2 ≠ low := by
        rcases h.tund t o1 with e | e
        · omega
        · exact nel _ e
      rw [if_neg this]
      rcases List.mem_append.mp ha with ha | ha
      · exact h.dt t o1 a b hab ha hb
      · rw [List.mem_singleton] at ha; subst ha
        exfalso
        rcases h.tt (p, u) hm _ b hab hlow with e | e
        · exact n1.2.2 b e b (by rw [← hfl]; exact List.mem_flatten.mpr ⟨t.1, List.mem_map_of_mem o1, hb⟩) rfl
        · exact o2 b e hb
  · rcases cases_ t ht with rfl | ht
    · have ha := ((fp a).mp ha).1
      rcases h.tt (p, u) hm a b hab ha with e | e
      · exact .inl (List.mem_append_left _ e)
      · by_cases eb : b = low
        · subst eb; exact .inl (List.mem_append_right _ List.mem_cons_self)
        · exact .inr ((fp b).mpr ⟨e, eb⟩)
    · rcases h.tt t (other t ht).1 a b hab ha with e | e
      · exact .inl (List.mem_append_left _ e)
      · exact .inr e
theorem WoodI.wd (h : WoodI n prs row [] dn A) : ∀ (k : Nat) (p : Int) (found : List Int), (p < 0 ∨ p ∈ dn) → (found ++ A p).Nodup → (A p).length < k → wd row k p found = some (found ++ A p)
  | 0, _, _, _, _, hk => absurd hk (Nat.not_lt_zero _)
  | k + 1, p, found, hp, hn, hk => by
    show (if p < 0 then some found else if p ∈ found then none else K62.wd row k (row.getD p.toNat (-1)) (found ++ [p])) = _
    rcases hp with hp | hp
    · rw [if_pos hp, h.aneg p hp, List.append_nil]
    · have h0 := (h.range (List.mem_append_left _ hp)).1
      have e := h.astep p hp
      rw [e] at hn hk
      have hnp : p ∉ found := fun q => (List.nodup_append.mp hn).2.2 p q p List.mem_cons_self rfl
      rw [if_neg (by omega), if_neg hnp]
      have hu : at1 row p < 0 ∨ at1 row p ∈ dn := by
        rcases h.und p hp with q | q
        · exact .inl (by omega)
        · exact .inr q
      have := WoodI.wd h k (at1 row p) (found ++ [p]) hu (by rw [List.append_assoc]; exact hn) (by rw [List.length_cons] at hk; omega)
      rw [e]
      show K62.wd row k (at1 row p) (found ++ [p]) = _
      rw [this, List.append_assoc]; rfl
theorem WoodI.way (h : WoodI n prs row [] dn A) {p : Int} (h0 : 0 ≤ p) (h1 : p < (n : Int)) : wayDown row p = some (A p) ∧ (A p).length ≤ n := by
  have hp : p ∈ dn := by
    have := h.tp.mem_iff.mpr (mem_rngI.mpr ⟨h0, h1⟩)
    simpa using this
  have hl : (A p).length ≤ n := few_below n _ (h.and_ p hp).1 fun x hx => h.range (List.mem_append_left _ ((h.and_ p hp).2 x hx))
  refine ⟨?_, hl⟩
  have := h.wd (row.length + 1) p [] (.inr hp) (by rw [List.nil_append]; exact (h.and_ p hp).1) (by rw [h.len]; omega)
  rw [List.nil_append] at this
  exact this
end
structure WoodD (n : Nat) (fs : List Fact) (row : List Int) : Prop where
  len : row.length = n
  inr : InRow n row
  way : ∀ p : Int, 0 ≤ p → p < (n : Int) → ∃ l, wayDown row p = some l ∧ l.length ≤ n
  down : rowsDown fs ((waysOf row).map (·.getD [])) = true
theorem waysOf_get {row : List Int} {p : Int} (h0 : 0 ≤ p) (h1 : p < (row.length : Int)) : ((waysOf row).map (·.getD [])).getD p.toNat [] = (wayDown row p).getD [] := by
  unfold waysOf
  rw [List.map_map, List.getD_eq_getElem?_getD, List.getElem?_map, List.getElem?_range (by omega)]
  show ((wayDown row ((p.toNat : Nat) : Int)).getD []) = _
  rw [Int.toNat_of_nonneg h0]
theorem WoodI.fin {n : Nat} {fs : List Fact} {row dn : List Int} {A : Int → List Int} (hf : FactsOk n fs) (h : WoodI n (pairsOf fs) row [] dn A) : WoodD n fs row where
  len := h.len
  inr := h.inr
  way := fun p h0 h1 => ⟨_, h.way h0 h1⟩
  down := by
    unfold rowsDown
    rw [List.all_eq_true]
    intro ft hm
    obtain ⟨nm, pts⟩ := ft
    rcases hf _ hm with ⟨a, e, _⟩ | ⟨a, b, e, a0, an, b0, bn⟩
    · have e : pts = [a] := e
      subst e; rfl
    · have e : pts = [a, b] := e
      subst e
      have hl := h.len
      show (decide (a ∈ ((waysOf row).map (·.getD [])).getD b.toNat []) || decide (b ∈ ((waysOf row).map (·.getD [])).getD a.toNat [])) = true
      rw [waysOf_get b0 (by omega), waysOf_get a0 (by omega), (h.way b0 bn).1, (h.way a0 an).1]
      show (decide (a ∈ A b) || decide (b ∈ A a)) = true
      have dall : ∀ x : Int, 0 ≤ x → x < (n : Int) → x ∈ dn := fun x h0 h1 => by
        have := h.tp.mem_iff.mpr (mem_rngI.mpr ⟨h0, h1⟩)
        simpa using this
      have hp : (a, b) ∈ pairsOf fs := List.mem_flatMap.mpr ⟨_, hm, by simp⟩
      rcases h.dd a b hp (dall a a0 an) (dall b b0 bn) with q | q
      · rw [decide_eq_true q]; rfl
      · rw [decide_eq_true q, Bool.or_true]
theorem pairs_ok {n : Nat} {fs : List Fact} (hf : FactsOk n fs) {a b : Int} (h : (a, b) ∈ pairsOf fs) : 0 ≤ a ∧ a < (n : Int) ∧ 0 ≤ b ∧ b < (n : Int) := by
  obtain ⟨ft, hm, h⟩ := List.mem_flatMap.mp h
  rcases hf ft hm with ⟨x, e, _⟩ | ⟨x, y, e, z⟩
  · rw [e] at h; cases h
  · rw [e] at h
    rcases List.mem_cons.mp h with h | h
    · cases h; exact z
    · rw [List.mem_singleton] at h; cases h; exact ⟨z.2.2.1, z.2.2.2, z.1, z.2.1⟩
end K62
set_option Elab.async false
set_option linter.all false
set_option maxRecDepth 100000
set_option maxHeartbeats 1000000
namespace K62
open PySem PySem.Spec L2 DL
section
variable {P : Program} {w : World} {K : PySem.W.Frag} {mg : Str → Option Value} {base : Heap} {f : Addr} {fd : FuncData}
def todoD (t : Todo) : D := .tup [dInts t.1, .int t.2]
theorem small_todo (t : Todo) : small (todoD t) := by
  obtain ⟨h1, h2, h3⟩ := small_ints t.1
  refine ⟨by unfold todoD dInts; simp only [plainD, plainDs, h1]; rfl, ?_, ?_⟩
  · unfold todoD dInts; simp only [toPy, toPys, PyData.canLay0, PyData.canLayAll0, h2]; rfl
  · unfold todoD dInts; simp only [toPy, toPys, PyData.depth, PyData.depthAll, h3]; omega
theorem rangeD_rng (n : Nat) : rangeD 0 n = (rngI n).map D.int := by
  unfold rangeD rngI
  rw [List.map_map]
  refine List.map_congr_left fun i _ => ?_
  show D.int (0 + (i : Int)) = D.int (i : Int)
  rw [Int.zero_add]
theorem drop_of {α : Type} {l : List α} {i : Nat} {x : α} (h : l[i]? = some x) : l.drop i = x :: l.drop (i + 1) := by
  obtain ⟨hi, e⟩ := List.getElem?_eq_some_iff.mp h
  rw [List.drop_eq_getElem_cons hi, e]
theorem ixN_nn {n : Nat} {k : Int} (h0 : 0 ≤ k) (h1 : k < (n : Int)) : ixN n k = some k.toNat := by
  unfold ixN
  rw [if_pos h0, if_pos h1]
theorem rep_neg (n : Nat) : (List.replicate ((n : Int)).toNat [D.int (0 - 1)]).flatten = (List.replicate n (-1 : Int)).map D.int := by
  rw [List.map_replicate, Int.toNat_natCast]
  induction n with
  | zero => rfl
  | succ n ih => rw [List.replicate_succ, List.flatten_cons, ih, List.replicate_succ]; rfl
def mz (todo : List Todo) : Nat := 2 * (todo.map (·.1)).flatten.length + todo.length
def sp_wood : SpD := fun r ds Q => ∃ (da ca : Addr) (kd : D) (n : Nat) (fs : List Fact), r = some (da, ca) ∧ ds = [.adr da, webT kd n fs] ∧ FactsOk n fs ∧ n ≤ 7 ∧ ∀ row : List Int, WoodD n fs row → Q (tInts row)
theorem ok__law_wood (F : L2.Fun K "_law_wood" "_law_wood" s__law_wood f fd) (T : Txt mg) (G1 : Callee P w K mg base 2 "_law_of" ["deal", "some"] sp_of) (G2 : Callee P w K mg base 2 "_law_parts" ["web", "points"] sp_parts) : FnOk P w K mg base CX0 3 f fd ["deal", "web"] (lift K sp_wood) := by
  refine fn_D F sc__law_wood (fun r ds P ⟨_, _, _, _, _, _, e, _⟩ => by rw [e]; rfl) fun cdv A outer s G H E r ds Q hr ⟨da, ca, kd, n, fs, er, e, hf, hn, q⟩ => ?_
  subst er e
  refine ds_cons ?_
  refine ds_par2 2 3 rfl sc__law_wood.nd rfl rfl (by decide) rfl rfl ?_
  refine dx_m ?_
  refine df_rep ?_
  refine df_lst ?_
  refine da_cons ?_
  refine de_sub ?_
  refine de_int ?_
  refine de_int ?_
  refine ⟨_, _, rfl, rfl, ?_⟩
  refine da_nil ?_
  refine de_ix (fun _ _ => rfl) ?_
  refine de_var 1 rfl (.inl rfl) rfl ?_
  refine de_int ?_
  refine ⟨_, _, .int n, .inr rfl, rfl, rfl, ?_⟩
  refine ⟨_, rfl, by omega, by omega, by decide, ?_⟩
  rw [rep_neg]
  refine dx_m ?_
  refine df_lst ?_
  refine da_cons ?_
  refine de_tup ?_
  refine da_cons ?_
  refine de_fresh ?_
  refine df_listRg rfl T.n_list rfl T.n_range rfl ?_
  refine de_ix (fun _ _ => rfl) ?_
  refine de_var 1 rfl (.inl rfl) rfl ?_
  refine de_int ?_
  refine ⟨_, _, .int n, .inr rfl, rfl, rfl, ?_⟩
  refine ⟨_, rfl, by omega, by omega, ?_⟩
  rw [show rangeD 0 ((n : Int)).toNat = (rngI n).map D.int from rangeD_rng n]
  refine da_cons ?_
  refine de_sub ?_
  refine de_int ?_
  refine de_int ?_
  refine ⟨_, _, rfl, rfl, ?_⟩
  refine da_nil ?_
  refine da_nil ?_
  refine dx_nil ?_
  refine ds_cons ?_
  refine ds_while PassesOwn.never (fun m S => ∃ (row : List Int) (todo : List Todo) (dn : List Int) (A : Int → List Int) (x4 x5 x6 x7 x8 : B), S = [.d (.adr da), .d (webT kd n fs), .m (row.map D.int), .m (todo.map todoD), x4, x5, x6, x7, x8] ∧ m = mz todo ∧ mz todo ≤ 2 * n + 1 ∧ WoodI n (pairsOf fs) row todo dn A) (mz [(rngI n, -1)])
    ⟨_, [(rngI n, -1)], _, _, _, _, _, _, _, rfl, rfl, (by unfold mz rngI; simp), WoodI.start fun a b h => pairs_ok hf h⟩ fun m S hI => ?_
  obtain ⟨row, todo, dn, A, x4, x5, x6, x7, x8, rfl, rfl, hmz, hI⟩ := hI
  refine dt_borrow 3 rfl ?_
  refine dt_neD hr.units ?_
  refine de_var 3 rfl (.inl rfl) rfl ?_
  refine de_fresh ?_
  refine df_lst ?_
  refine da_nil ?_
  refine ⟨eqOk_lst fun d hd => (by obtain ⟨t, _, rfl⟩ := List.mem_map.mp hd; exact small_todo t), eqOk_nil, ?_⟩
  rw [eqD_nil]
  refine ⟨fun hk => ?_, fun hk => ?_⟩
  · obtain ⟨todo', p, u, rfl⟩ : ∃ (todo' : List Todo) (p : List Int) (u : Int), todo = todo' ++ [(p, u)] := by
      have hne : todo ≠ [] := by rintro rfl; cases hk
      exact ⟨todo.dropLast, (todo.getLast hne).1, (todo.getLast hne).2, (List.dropLast_concat_getLast hne).symm⟩
    clear hk
    have pnd : p.Nodup := by
      have h1 := (List.nodup_append.mp hI.nd).2.1
      rw [List.map_append, List.flatten_append] at h1
      have h2 := (List.nodup_append.mp h1).2.1
      simpa using h2
    have prange : ∀ x ∈ p, 0 ≤ x ∧ x < (n : Int) := fun x hx => hI.range (List.mem_append_right _ (List.mem_flatten.mpr ⟨p, by simp, hx⟩))
    refine ds_cons ?_
    refine ds_pop 3 (pgt_tup rfl (pgn_cons 4 sc__law_wood.nd rfl (.inl rfl) (pgn_cons 5 sc__law_wood.nd rfl (.inl rfl) (pgn_nil)))) rfl (.inl rfl) rfl (d := todoD (p, u)) (by rw [List.map_append, List.map_cons, List.map_nil, List.getLast?_concat]) ?_
    refine ⟨_, rfl, rfl, ?_⟩
    have edl : ((todo' ++ [(p, u)]).map todoD).dropLast = todo'.map todoD := by rw [List.map_append, List.map_cons, List.map_nil, List.dropLast_concat]
    rw [edl]
    refine ds_one ?_
    refine ds_for PassesOwn.never rfl (pgt_name 6 sc__law_wood.nd rfl (.inl rfl)) ?_
    refine di_list ?_
    refine de_callC G2 hr rfl ?_
    refine da_cons ?_
    refine de_var 1 rfl (.inl rfl) rfl ?_
    refine da_cons ?_
    refine de_var 4 rfl (.inl rfl) rfl ?_
    refine da_nil ?_
    refine ⟨kd, n, fs, p, rfl, hf, hn, pnd, prange, fun parts hP => ?_⟩
    refine ⟨_, rfl, ?_⟩
    have plen : parts.flatten.length = p.length := List.Perm.length_eq ((List.perm_ext_iff_of_nodup hP.nd pnd).mpr fun x => (hP.mem x).symm)
    have m0 : mz (todo' ++ [(p, u)]) = mz todo' + 2 * p.length + 1 := by
      unfold mz
      rw [List.map_append, List.flatten_append, List.length_append, List.length_append]
      simp; omega
    refine ⟨fun i S => ∃ (row : List Int) (td : List Todo) (dn : List Int) (A : Int → List Int) (x6 x7 x8 : B), S = [.d (.adr da), .d (webT kd n fs), .m (row.map D.int), .m (td.map todoD), .d (dInts p), .d (.int u), x6, x7, x8] ∧ mz td + 2 * (parts.drop i).flatten.length ≤ mz todo' + 2 * p.length ∧ WoodI n (pairsOf fs) row (td ++ (parts.drop i).map fun q => (q, u)) dn A,
      ⟨row, todo', dn, A, _, _, _, rfl, by rw [List.drop_zero, plen]; omega, by rw [List.drop_zero]; exact hI.part hP pnd⟩, fun i x S hx hJ => ?_, fun S hJ => ?_⟩
    · clear hI
      obtain ⟨row, td, dn, A, x6, x7, x8, rfl, hm, hI⟩ := hJ
      rw [List.getElem?_map] at hx
      cases hi : parts[i]? with
      | none => rw [hi] at hx; cases hx
      | some qs =>
        rw [hi] at hx; cases hx
        have qmem := List.mem_of_getElem? hi
        have qne := hP.ne qs qmem
        have qsub : ∀ x ∈ qs, x ∈ p := fun x hx => (hP.mem x).mpr (List.mem_flatten.mpr ⟨qs, qmem, hx⟩)
        rw [drop_of hi] at hm hI
        rw [List.flatten_cons, List.length_append] at hm
        rw [List.map_cons] at hI
        have hql : qs.length ≤ 7 := by
          have : qs.length ≤ p.length := List.Nodup.length_le_of_subset (List.Nodup.sublist (List.sublist_flatten_of_mem qmem) hP.nd) qsub
          have := few_below n p pnd prange
          omega
        refine ds_cons ?_
        refine ds_set 7 sc__law_wood.nd rfl (.inr rfl) ?_
        refine de_callC G1 hr rfl ?_
        refine da_cons ?_
        refine de_var 0 rfl (.inl rfl) rfl ?_
        refine da_cons ?_
        refine de_fresh ?_
        refine df_list T.n_list rfl ?_
        refine de_var 6 rfl (.inl rfl) rfl ?_
        refine ⟨_, .inr rfl, ?_⟩
        refine da_nil ?_
        refine ⟨da, ca, _, rfl, rfl, by simpa using qne, by rw [List.length_map]; omega, fun x hx => ?_⟩
        obtain ⟨low, hlow, rfl⟩ := List.mem_map.mp hx
        have lr := prange low (qsub low hlow)
        have rl := hI.len
        refine ds_cons ?_
        refine ds_setItem 2 rfl (.inl rfl) rfl ?_ (g := fun t ht => ps_asg pe_W ht) (hg := pg_sub (pv 2) pe_W set_list)
        refine de_var 5 rfl (.inl rfl) rfl ?_
        refine de_var 7 rfl (.inr (.inl rfl)) rfl ?_
        refine ⟨_, low.toNat, rfl, ixN_nn lr.1 (by rw [List.length_map, rl]; exact lr.2), ?_⟩
        rw [show (row.map D.int).set low.toNat (.int u) = (row.set low.toNat u).map D.int from (List.map_set).symm]
        refine ds_one ?_
        have tdl : td.length ≤ mz td := by unfold mz; omega
        refine ds_append 3 rfl (.inl rfl) rfl (by rw [List.length_map]; omega) ?_
        refine de_tup ?_
        refine da_cons ?_
        refine de_fresh ?_
        refine df_lcP (T := .n 8) [("point", 8)] rfl sc__law_wood.nd (blkOk_by (N := N__law_wood) (sc := defScope s__law_wood) (by decide +kernel)) (fun _ _ _ _ _ => pgt_name 8 sc__law_wood.nd rfl (.inl rfl)) (by decide) ?_
        refine di_tup ?_
        refine de_var 6 rfl (.inl rfl) rfl ?_
        refine ⟨_, rfl, ?_⟩
        refine ⟨by rw [List.length_map]; omega, fun d => !decide (rowV d = low), id, fun x hx => ⟨fun _ _ _ _ _ => ?_, fun hp _ _ _ _ _ => ?_⟩, ?_⟩
        · obtain ⟨k, hk, rfl⟩ := List.mem_map.mp hx
          refine dts_one ?_
          refine dt_neI ?_
          refine de_var 8 rfl (.inl rfl) rfl ?_
          refine de_var 7 rfl (.inr (.inl rfl)) rfl ?_
          exact ⟨_, _, rfl, rfl, rfl⟩
        · exact de_var 8 rfl (.inl rfl) rfl rfl
        rw [List.map_id, show ((qs.map D.int).filter fun d => !decide (rowV d = low)) = (qs.filter fun k => !decide (k = low)).map D.int by rw [List.filter_map]; rfl]
        refine da_cons ?_
        refine de_var 7 rfl (.inr (.inl rfl)) rfl ?_
        refine da_nil ?_
        have hless : (qs.filter fun k => !decide (k = low)).length < qs.length := by
          rw [List.length_filter_lt_length_iff_exists]
          exact ⟨low, hlow, by simp⟩
        refine ⟨row.set low.toNat u, td ++ [(qs.filter fun k => !decide (k = low), low)], _, _, _, _, _, by rw [List.map_append]; rfl, ?_, by rw [List.append_assoc]; exact hI.putLow (fun _ _ => pairs_symm) hlow⟩
        have : mz (td ++ [(qs.filter fun k => !decide (k = low), low)]) = mz td + 2 * (qs.filter fun k => !decide (k = low)).length + 1 := by
          unfold mz
          rw [List.map_append, List.flatten_append, List.length_append, List.length_append]
          simp; omega
        rw [this]; omega
    · obtain ⟨row, td, dn, A, x6, x7, x8, rfl, hm, hI⟩ := hJ
      rw [List.length_map, List.drop_length, List.flatten_nil] at hm
      rw [List.length_map, List.drop_length, List.map_nil, List.append_nil] at hI
      have hm : mz td ≤ mz todo' + 2 * p.length := hm
      exact ⟨mz td, by omega, row, td, dn, A, _, _, _, _, _, rfl, rfl, by omega, hI⟩
  · obtain rfl : todo = [] := by
      cases todo with
      | nil => rfl
      | cons a b => cases hk
    refine dss_freeze 2 rfl ?_
    refine ds_one ?_
    refine ds_ret ?_
    refine de_tuple T.n_tuple rfl ?_
    refine de_var 2 rfl (.inl rfl) rfl ?_
    exact ⟨_, .inl rfl, q row (hI.fin hf)⟩
end
end K62
set_option Elab.async false
set_option linter.all false
set_option maxRecDepth 100000
set_option maxHeartbeats 1000000
namespace DL
open PySem PySem.Spec L2
theorem DX.go {c : Ctx} {X : Cx} {es : List Expr} {S : Sto} {Q : List B → Prop} (h : DX c X es S Q) {G H : Hp} {σ : L2.St} (E : EnvOk X.K c G H σ S) : WA X es σ H (PostX X.K c.reg G H fun bs => (∀ b ∈ bs, b ≠ .u) ∧ bs.length = es.length ∧ Q bs) := h G H σ E
end DL
namespace K62
open PySem PySem.Spec L2 DL
section
variable {P : Program} {w : World} {K : PySem.W.Frag} {mg : Str → Option Value} {base : Heap} {f : Addr} {fd : FuncData}
def spDeal (K : PySem.W.Frag) : Sp := fun vs H Q _ => ∃ (G : Hp) (a : Addr) (ns : List Int) (salt : Int), Good ⟨none, G, H⟩ G H ∧ vs = [.ref a, .int salt] ∧ SqL K G a (ns.map V.int) ∧
  ∀ (G' H' : Hp) (da ca : Addr) (cells : List Int) (mix : Int), Ext none G H G' H' → H da = none → H ca = none → H' da = some (.lst [.ref ca, .int mix]) → H' ca = some (.lst (cells.map V.int)) → da ≠ ca → cells.length ≤ 63 → G' da = none → G' ca = none → Q (.ref da) H'
theorem ok__law_dealH (F : L2.Fun K "_law_deal" "_law_deal" s__law_deal f fd) (T : Txt mg) : FnOk P w K mg base CX0 1 f fd ["script", "salt"] (spDeal K) := by
  refine F.ok sc__law_deal (fun vs H Q E ⟨G, a, ns, salt, _, e, _⟩ => by rw [e]; rfl) fun cdv A outer s H vs Q E hr ⟨G, a, ns, salt, g, e, hsq, q⟩ => ⟨_, pss_W, ?_⟩
  subst e
  have E0 := envOk_start (K := K) (ds := [.adr a, .int salt]) (vs := [.ref a, .int salt]) 4 g (reps_cons (rep_adr.mpr rfl) (reps_cons (rep_int.mpr rfl) reps_nil))
  refine wss_cons ?_ _ _ _ E0
  refine ds_set 2 sc__law_deal.nd rfl (.inr rfl) ?_
  refine DE.mono (Q := IntD fun i => 0 < i) ?_ ?_
  · have big : ∀ i j : Int, i = 10 ^ (64 : Int).toNat → j = 10 ^ (64 : Int).toNat → CPow 10 64 := fun _ _ _ _ => ⟨by decide, by decide, by decide⟩
    have hp : CPow 10 64 := ⟨by decide, by decide, by decide⟩
    refine de_mulW ?_
    refine de_mulW ?_
    refine de_mulW ?_
    refine de_mulW ?_
    refine de_mulW ?_
    refine de_pow ?_
    refine de_int ?_
    refine de_int ?_
    refine ⟨_, _, rfl, rfl, hp, ?_⟩
    refine de_pow ?_
    refine de_int ?_
    refine de_int ?_
    refine ⟨_, _, rfl, rfl, hp, ?_⟩
    refine ⟨_, _, rfl, rfl, by unfold CMulW; decide +kernel, ?_⟩
    refine de_pow ?_
    refine de_int ?_
    refine de_int ?_
    refine ⟨_, _, rfl, rfl, hp, ?_⟩
    refine ⟨_, _, rfl, rfl, by unfold CMulW; decide +kernel, ?_⟩
    refine de_pow ?_
    refine de_int ?_
    refine de_int ?_
    refine ⟨_, _, rfl, rfl, hp, ?_⟩
    refine ⟨_, _, rfl, rfl, by unfold CMulW; decide +kernel, ?_⟩
    refine de_pow ?_
    refine de_int ?_
    refine de_int ?_
    refine ⟨_, _, rfl, rfl, hp, ?_⟩
    refine ⟨_, _, rfl, rfl, by unfold CMulW; decide +kernel, ?_⟩
    refine de_pow ?_
    refine de_int ?_
    refine de_int ?_
    refine ⟨_, _, rfl, rfl, hp, ?_⟩
    refine ⟨_, _, rfl, rfl, by unfold CMulW; decide +kernel, ?_⟩
    exact ⟨_, rfl, by decide +kernel⟩
  rintro _ ⟨M, rfl, hM⟩
  refine wss_cons ?_
  refine ds_par2 3 4 rfl sc__law_deal.nd rfl rfl (by decide) rfl rfl ?_
  refine dx_d ?_
  refine de_fresh ?_
  refine df_lc (T := .n 5) [("cell", 5)] rfl sc__law_deal.nd (blkOk_by (N := N__law_deal) (sc := defScope s__law_deal) (by decide +kernel)) (fun _ _ _ _ _ => pgt_name 5 sc__law_deal.nd rfl (.inl rfl)) (by decide) ?_
  refine di_list ?_
  refine de_fresh ?_
  refine df_sliceA ?_
  refine de_var 0 rfl (.inl rfl) rfl ?_
  refine do_none ?_
  refine do_some ?_
  refine de_int ?_
  refine ⟨_, rfl, ?_⟩
  refine ⟨a, ns, rfl, hsq, ?_⟩
  refine ⟨_, rfl, ?_⟩
  have hms : (cut ns none (some 63)).length ≤ 63 := by
    unfold cut; rw [List.length_take, show HT.sIx ns.length ns.length (some 63) = min 63 ns.length from HT.sIx_nat _ _ 63]; omega
  generalize cut ns none (some 63) = ms at hms
  refine ⟨by rw [List.length_map]; omega, fun i acc => ∃ cs : List Int, acc = cs.map D.int ∧ cs.length = i, ⟨[], rfl, rfl⟩, fun i x acc hx hI => ?_, fun ys hI => ?_⟩
  · obtain ⟨cs, rfl, hcs⟩ := hI
    rw [List.getElem?_map] at hx
    cases hi : ms[i]? with
    | none => rw [hi] at hx; cases hx
    | some z =>
      rw [hi] at hx; cases hx
      refine fun _ _ _ _ _ => ?_
      refine dts_nil ⟨fun hk => ?_, fun hk => nomatch hk⟩
      refine fun _ _ _ _ _ => ?_
      refine de_mod ?_
      refine de_int1 T.n_int rfl ?_
      refine de_abs T.n_abs rfl ?_
      refine de_int1 T.n_int rfl ?_
      refine de_var 5 rfl (.inl rfl) rfl ?_
      refine ⟨_, rfl, ?_⟩
      refine ⟨_, rfl, ?_⟩
      refine ⟨_, rfl, ?_⟩
      refine de_var 2 rfl (.inr (.inl rfl)) rfl ?_
      refine ⟨_, _, rfl, rfl, by omega, ?_⟩
      exact ⟨cs ++ [_], by rw [List.map_append]; rfl, by rw [List.length_append, hcs]; rfl⟩
  obtain ⟨cs, rfl, hcs⟩ := hI
  rw [List.length_map] at hcs
  refine dx_d ?_
  refine de_add ?_
  refine de_int ?_
  refine de_mul ?_
  refine de_int ?_
  refine de_var 1 rfl (.inl rfl) rfl ?_
  refine ⟨_, _, rfl, rfl, .inl ⟨by decide, by decide⟩, ?_⟩
  refine ⟨_, _, rfl, rfl, ?_⟩
  refine dx_nil ?_
  refine wss_cons ?_
  refine ds_for PassesOwn.never rfl (pgt_name 5 sc__law_deal.nd rfl (.inl rfl)) ?_
  refine di_list ?_
  refine de_var 3 rfl (.inl rfl) rfl ?_
  refine ⟨_, rfl, ?_⟩
  refine ⟨fun i S => ∃ (mix : Int) (x : B), S = [.d (.adr a), .d (.int salt), .d (.int M), .d (dInts cs), .d (.int mix), x], ⟨_, _, rfl⟩, fun i x S hx hI => ?_, fun S hI => ?_⟩
  · obtain ⟨mix, b5, rfl⟩ := hI
    rw [List.getElem?_map] at hx
    cases hi : cs[i]? with
    | none => rw [hi] at hx; cases hx
    | some z =>
      rw [hi] at hx; cases hx
      refine ds_one ?_
      refine ds_set 4 sc__law_deal.nd rfl (.inl rfl) ?_
      refine de_mod ?_
      refine de_int1 T.n_int rfl ?_
      refine de_add ?_
      refine de_add ?_
      refine de_mul ?_
      refine de_var 4 rfl (.inl rfl) rfl ?_
      refine de_int ?_
      refine ⟨_, _, rfl, rfl, .inr ⟨by decide, by decide⟩, ?_⟩
      refine de_mod ?_
      refine de_int1 T.n_int rfl ?_
      refine de_var 5 rfl (.inl rfl) rfl ?_
      refine ⟨_, rfl, ?_⟩
      refine de_int ?_
      refine ⟨_, _, rfl, rfl, by decide, ?_⟩
      refine ⟨_, _, rfl, rfl, ?_⟩
      refine de_int ?_
      refine ⟨_, _, rfl, rfl, ?_⟩
      refine ⟨_, rfl, ?_⟩
      refine de_int ?_
      refine ⟨_, _, rfl, rfl, by decide, ?_⟩
      exact ⟨_, _, rfl⟩
  obtain ⟨mix, b5, rfl⟩ := hI
  intro G1 H1 σ1 E1
  refine WSs.of (pss_one (ps_ret (pe_lst pa_W))) ?_
  refine WA.mono (DX.go (Q := fun bs => ∃ cells : List Int, bs = [.m (cells.map D.int), .d (.int mix)] ∧ cells.length ≤ 63) ?_ E1) ?_
  · refine dx_m ?_
    refine df_revL ?_
    refine de_fresh ?_
    refine df_lcP (T := .n 5) [("cell", 5)] rfl sc__law_deal.nd (blkOk_by (N := N__law_deal) (sc := defScope s__law_deal) (by decide +kernel)) (fun _ _ _ _ _ => pgt_name 5 sc__law_deal.nd rfl (.inl rfl)) (by decide) ?_
    refine di_list ?_
    refine de_var 3 rfl (.inl rfl) rfl ?_
    refine ⟨_, rfl, ?_⟩
    refine ⟨by rw [List.length_map]; omega, fun d => decide ((10 : Int) ^ (18 : Int).toNat ≤ rowV d), id, fun x hx => ⟨fun _ _ _ _ _ => ?_, fun hp _ _ _ _ _ => ?_⟩, ?_⟩
    · obtain ⟨z, _, rfl⟩ := List.mem_map.mp hx
      refine dts_one ?_
      refine dt_ge ?_
      refine de_var 5 rfl (.inl rfl) rfl ?_
      refine de_pow ?_
      refine de_int ?_
      refine de_int ?_
      refine ⟨_, _, rfl, rfl, ⟨by decide, by decide, by decide⟩, ?_⟩
      exact ⟨_, _, rfl, rfl, rfl⟩
    · exact de_var 5 rfl (.inl rfl) rfl rfl
    refine ⟨_, rfl, ?_⟩
    refine dx_d ?_
    refine de_var 4 rfl (.inl rfl) rfl ?_
    refine dx_nil ?_
    have ef : (((cs.map D.int).filter fun d => decide ((10 : Int) ^ (18 : Int).toNat ≤ rowV d)).map id).reverse = ((cs.filter fun z => decide ((10 : Int) ^ (18 : Int).toNat ≤ z)).reverse).map D.int := by
      rw [List.map_id, List.filter_map, List.map_reverse]; rfl
    rw [ef]
    exact ⟨_, rfl, by rw [List.length_reverse]; exact Nat.le_trans (List.length_filter_le _ _) (by omega)⟩
  · rintro vs H2 ⟨G2, bs, e2, ⟨_, _, cells, rfl, hcl⟩, n2⟩
    obtain ⟨v1, w1, rfl, ⟨ca, us, rfl, hca, hH, hG, rs⟩, ⟨v2, w2, rfl, r2, rfl, _⟩, _⟩ := n2
    have r2 : Rep K G2 (.int mix) v2 := r2
    obtain rfl := rep_int.mp r2
    obtain rfl := reps_intsE rs
    refine ⟨by rw [sizeLine_eq]; show 2 ≤ _; omega, fun p hp => ?_⟩
    have x2 := e2.trans (Ext.new' (o := .lst [.ref ca, .int mix]) e2.sub e2.reg hp) E1.j
    have xx := E1.good.ext.trans x2 trivial
    have ne : p ≠ ca := fun z => by rw [z, hH] at hp; cases hp
    refine q G2 _ p ca cells mix xx (H0_none E1 p (ext_back e2 hp)) (H0_none E1 ca hca) upd_same (by rw [upd_ne ne.symm]; exact hH) ne hcl (e2.sub.free hp) hG
end
end K62
set_option Elab.async false
set_option linter.all false
set_option maxRecDepth 100000
set_option maxHeartbeats 4000000
namespace DL
open PySem PySem.Spec L2
theorem DSs.go {c : Ctx} {X : Cx} {sts : List Stmt} {S : Sto} {D' : DEnds} (h : DSs c X sts S D') {G H : Hp} {σ : L2.St} (E : EnvOk X.K c G H σ S) : WSs X sts (toEnds X.K c G D') σ H := h G H σ E
theorem cut_map {α β : Type} (f : α → β) (xs : List α) (lo hi : Option Int) : cut (xs.map f) lo hi = (cut xs lo hi).map f := by
  unfold cut; rw [List.length_map, ← List.map_drop, ← List.map_take]
theorem cut_len {α : Type} (xs : List α) (lo hi : Option Int) : (cut xs lo hi).length ≤ xs.length := by
  unfold cut; rw [List.length_take, List.length_drop]; omega
theorem envOk_blank {K : PySem.W.Frag} {c : Ctx} {G H : Hp} {σ : L2.St} {n : Nat} (j0 : c.reg.J c.H0) (g : Good c G H) (hl : σ.length = n) : EnvOk K c G H σ (List.replicate n .u) where
  j0 := j0
  good := g
  len := by rw [List.length_replicate]; exact hl
  slot := fun i b h => by
    have hi : i < n := by
      have := (List.getElem?_eq_some_iff.mp h).1
      rwa [List.length_replicate] at this
    have hi2 : i < σ.length := by rw [hl]; exact hi
    rw [List.getElem?_replicate, if_pos hi] at h
    cases h
    exact ⟨σ[i], List.getElem?_eq_getElem hi2, trivial⟩
  own := fun i xs a h _ => by
    rw [List.getElem?_replicate] at h
    split at h <;> cases h
  inj := fun i j xs ys a h _ _ _ => by
    rw [List.getElem?_replicate] at h
    split at h <;> cases h
end DL
namespace K62
open PySem PySem.Spec L2 DL
def lenW (row : List Int) (p : Int) : Int := (((wayDown row p).getD []).length : Int)
theorem wood_true {n : Nat} {fs : List Fact} {row : List Int} {m : Int} (h : WoodD n fs row) (hle : ∀ p : Int, 0 ≤ p → p < (n : Int) → lenW row p ≤ m) : woodOk n fs m row = true := by
  have hl := h.len
  unfold woodOk woodIn
  rw [decide_eq_true h.len, h.down, Bool.and_true, Bool.true_and, Bool.and_eq_true]
  refine ⟨List.all_eq_true.mpr fun x hx => ?_, List.all_eq_true.mpr fun o ho => ?_⟩
  · have := h.inr x hx
    unfold badI
    rw [decide_eq_true this.1, decide_eq_true this.2]; rfl
  · unfold waysOf at ho
    obtain ⟨i, hi, rfl⟩ := List.mem_map.mp ho
    rw [List.mem_range] at hi
    obtain ⟨l, e, _⟩ := h.way (i : Int) (by omega) (by omega)
    have := hle (i : Int) (by omega) (by omega)
    unfold lenW at this
    rw [e] at this ⊢
    show (!decide (m < (l.length : Int))) = true
    rw [decide_eq_false (by have : (l.length : Int) ≤ m := this; omega)]; rfl
def bb (b : Bool) : D := .tup [.bl b, .bl b]
theorem grow (bs : List Bool) (b : Bool) : bs.map bb ++ [.tup [.bl b, .bl b]] = (bs ++ [b]).map bb := by rw [List.map_append]; rfl
theorem ask_ints {row : List Int} (h : row.length ≤ 1000) : AskV (tInts row) := ⟨_, rfl, fun xs e => by
  cases e
  refine ⟨by rw [List.length_map]; exact h, fun x hx => ?_⟩
  obtain ⟨k, _, rfl⟩ := List.mem_map.mp hx
  exact ⟨⟨_, rfl⟩, small_int k⟩⟩
theorem small_str (x : Str) (h : PyData.strOk x = true) : small (.str x) := ⟨by rw [plainD], by rw [toPy, PyData.canLay0]; exact h, by rw [toPy, PyData.depth]; omega⟩
def okX (x : D) : Prop := (∃ u, tyD x = some u) ∧ small x
theorem okX_int (k : Int) : okX (.int k) := ⟨⟨_, rfl⟩, small_int k⟩
theorem okX_non : okX .non := ⟨⟨_, rfl⟩, small_non⟩
theorem okX_bl (b : Bool) : okX (.bl b) := ⟨⟨_, rfl⟩, small_bl b⟩
theorem okX_str (x : Str) (h : PyData.strOk x = true) : okX (.str x) := ⟨⟨_, rfl⟩, small_str x h⟩
theorem okX_ints (row : List Int) : ∀ x ∈ row.map D.int, okX x := fun x hx => by
  obtain ⟨k, _, rfl⟩ := List.mem_map.mp hx
  exact okX_int k
theorem ask_tup {xs : List D} (h : xs.length ≤ 1000) (hx : ∀ x ∈ xs, okX x) : AskV (.tup xs) := ⟨_, rfl, fun ys e => by cases e; exact ⟨h, hx⟩⟩
theorem read_len {n : Nat} {fs : List Fact} {depth : Int} {xs : List D} (h : xs.length ≠ n) : readWood n fs depth (.tup xs) = false := by
  show (decide (xs.length = n) && _ && _) = false
  rw [decide_eq_false h]; rfl
theorem read_bad {n : Nat} {fs : List Fact} {depth : Int} {xs : List D} {x : D} (hx : x ∈ xs) (hb : badV n x = true) : readWood n fs depth (.tup xs) = false := by
  show (decide (xs.length = n) && xs.all (fun x => !badV n x) && _) = false
  have : xs.all (fun x => !badV n x) = false := by
    cases e : xs.all (fun x => !badV n x) with
    | false => rfl
    | true => have := List.all_eq_true.mp e x hx; rw [hb] at this; cases this
  rw [this, Bool.and_false]; rfl
theorem rep_len {n : Nat} : ((List.replicate n [D.non]).flatten).length = n := by
  induction n with
  | zero => rfl
  | succ n ih => rw [List.replicate_succ, List.flatten_cons, List.length_append, ih]; simp; omega
theorem rep_mem {n : Nat} : ∀ x ∈ (List.replicate n [D.non]).flatten, okX x := fun x hx => by
  obtain ⟨l, hl, hx⟩ := List.mem_flatten.mp hx
  rw [List.eq_of_mem_replicate hl, List.mem_singleton] at hx
  subst hx; exact okX_non
section
variable {P : Program} {w : World} {K : PySem.W.Frag} {mg : Str → Option Value} {base : Heap} {f : Addr} {fd : FuncData}
structure DealC (P : Program) (w : World) (K : PySem.W.Frag) (mg : Str → Option Value) (base : Heap) where
  f : Addr
  fd : FuncData
  ok : FnOk P w K mg base CX0 1 f fd ["script", "salt"] (spDeal K)
  at_ : mg "_law_deal" = some (.ref f)
  kp : PySem.W.keepIn K (.ref f) = true
  b : Binds K fd ["script", "salt"] []
def spLaw (K : PySem.W.Frag) : Sp := fun vs H Q _ => ∃ (a : Addr) (ns : List Int), vs = [.ref a] ∧ SqL K H a (ns.map V.int) ∧ ∀ H', Q (.bl true) H'
def TurnI (da : Addr) (N : Nat) (S : Sto) : Prop := ∃ (bs : List Bool) (x3 x4 x5 x6 x7 x8 x9 x10 x11 x12 x13 x14 x15 : B), S = [.u, .d (.adr da), .m (bs.map bb), x3, x4, x5, x6, x7, x8, x9, x10, x11, x12, x13, x14, x15] ∧ bs.length ≤ N
theorem ok_law {CK CW : Addr} (F : L2.Fun K "law" "law" s_law f fd) (T : Txt mg) (GD : DealC P w K mg base) (GA : Callee P w K mg base 1 "_law_any" ["deal", "bound"] sp_any) (GL : Callee P w K mg base 3 "_law_all" ["pairs"] sp_all)
    (GK : Callee P w K mg base 3 "_law_kind" ["deal", "names"] sp_kind) (GW : Callee P w K mg base 3 "_law_words" ["deal"] sp_words) (GB : Callee P w K mg base 2 "_law_drawn_web" ["deal", "kind", "size"] sp_drawn_web)
    (GO : Callee P w K mg base 4 "_law_web_of" ["web"] (sp_web_of CK CW)) (GT : Callee P w K mg base 3 "_law_wood" ["deal", "web"] sp_wood) (GY : Callee P w K mg base 1 "_law_way_down" ["row", "point"] sp_way_down)
    (GI : Callee P w K mg base 2 "_law_is_wood" ["web", "depth", "row"] sp_is_wood) (GR : Callee P w K mg base 2 "read_wood" ["web", "depth", "value"] (sp_read_wood CW)) (kw : KwAll K GR.fd ["web", "depth", "value"]) : FnOk P w K mg base CX0 5 f fd ["script"] (spLaw K) := by
  refine F.ok sc_law (fun vs H Q E ⟨a, ns, e, _⟩ => by rw [e]; rfl) fun cdv A outer s H vs Q E hr ⟨a, ns, e, hsq, q⟩ => ⟨_, pss_W, ?_⟩
  subst e
  have nd := sc_law.nd
  refine WSs.of (pss_cons (ps_asg (pe_tup (pa_cons (pe_call GD.ok (hr.mono (by decide)) rfl GD.at_ GD.kp GD.b .nil pass0 (pa_cons (pv 0) (pa_cons pe_int pa_nil))) (pa_cons (pe_lst pa_nil) pa_nil)))
    (pg_tup rfl (pgs_cons (pg_name (i := 1) nd rfl (.inr rfl)) (pgs_cons (pg_name (i := 2) nd rfl (.inl rfl)) pgs_nil)) rfl rfl) rfl rfl rfl) pss_W) ?_
  have gs : Same (fun b => if b = a then H a else none) H := fun b o h => by
    have h : (if b = a then H a else none) = some o := h
    split at h
    · rename_i hb; rw [hb]; exact h
    · cases h
  have hsG : SqL K (fun b => if b = a then H a else none) a (ns.map V.int) := by
    rcases hsq with (h | ⟨o, h⟩) | h
    · exact .inl (.inl (by show (if a = a then H a else none) = _; rw [if_pos rfl]; exact h))
    · exact .inl (.inr ⟨o, by show (if a = a then H a else none) = _; rw [if_pos rfl]; exact h⟩)
    · exact .inr h
  generalize (fun b => if b = a then H a else none) = G at gs hsG
  refine ⟨.ref a, rfl, G, a, ns, 62, Good.start gs trivial (fun _ m => m.elim), rfl, hsG, fun G' H' da ca cells mix xt d0 c0 hd hc ne hcl gd gc => ?_⟩
  refine ⟨by rw [sizeLine_eq]; show 0 ≤ _; omega, fun pp hpp => ⟨by rw [sizeLine_eq]; show 2 ≤ _; omega, fun tp htp => ?_⟩⟩
  refine ⟨tp, [.ref da, .ref pp], rfl, SqT.of upd_same, rfl, .ref da, [.ref pp], rfl, .ref pp, [], rfl, rfl, ?_⟩
  have hpt : pp ≠ tp := fun z => by rw [← z, upd_same] at htp; cases htp
  have npd : pp ≠ da := fun z => by rw [z, hd] at hpp; cases hpp
  have npc : pp ≠ ca := fun z => by rw [z, hc] at hpp; cases hpp
  have htp0 : H' tp = none := by rw [upd_ne hpt.symm] at htp; exact htp
  have ntd : tp ≠ da := fun z => by rw [z, hd] at htp0; cases htp0
  have ntc : tp ≠ ca := fun z => by rw [z, hc] at htp0; cases htp0
  have gH : Same G H' := xt.up.trans xt.sub
  have j1 : Reg.J (some (da, ca)) H' := ⟨ne, cells, mix, by omega, hd, hc⟩
  have x1 := (Ext.new' (r := some (da, ca)) (o := .lst []) gH j1 hpp)
  have x2 := x1.trans (Ext.new' (o := .tup [.ref da, .ref pp]) x1.sub x1.reg htp) j1
  have gda : G da = none := gs.free d0
  have gca : G ca = none := gs.free c0
  have g1 : Good ⟨some (da, ca), G, H'⟩ G (upd (upd H' pp (.lst [])) tp (.tup [.ref da, .ref pp])) := ⟨x2, fun b m => by
    rcases m with rfl | rfl
    · exact ⟨gda, by show H' _ ≠ none; rw [hd]; simp⟩
    · exact ⟨gca, by show H' _ ≠ none; rw [hc]; simp⟩⟩
  have gpp : G pp = none := gH.free hpp
  have E0 := (envOk_blank (K := K) (σ := start N_law [.ref a]) (n := 16) j1 g1 rfl).set_d (i := 1) (x := .adr da) (v := .ref da) (rep_adr.mpr rfl)
  have E2 := E0.set_m (i := 2) (xs := []) (a := pp) (vs := []) (by rw [upd_ne hpt]; exact upd_same) gpp hpp reps_nil (fun j ys hj h => by
    match j, hj with
    | 0, _ => cases h
    | 1, _ => cases h
    | 2, hj => exact absurd rfl hj
    | j + 3, _ =>
      have h : (List.replicate 13 B.u)[j]? = some (.m ys) := h
      rw [List.getElem?_replicate] at h
      split at h <;> cases h)
  refine WSs.mono (DSs.go (D' := { nx := fun _ => False, rt := fun d => d = .bl true }) ?_ E2) (fun _ _ ⟨_, _, _, _, z⟩ => z.elim) (fun v H2 ⟨G2, d, g, u, z, rd⟩ => by
    subst z
    rw [rep_bl.mp rd]; exact q H2) (fun _ _ ⟨_, _, _, _, z⟩ => z.elim) (fun _ _ ⟨_, _, _, _, z⟩ => z.elim)
  clear E2 E0 g1 x2 x1 gs hsG xt hsq
  refine ds_cons ?_
  refine ds_for PassesOwn.never rfl (pgt_name 3 sc_law.nd rfl (.inl rfl)) ?_
  refine di_range1 T.n_range rfl ?_
  refine de_int ?_
  refine ⟨_, rfl, by decide, by decide, ?_⟩
  refine ⟨fun i S => TurnI da (200 * i) S, ⟨[], .u, .u, .u, .u, .u, .u, .u, .u, .u, .u, .u, .u, .u, rfl, Nat.zero_le _⟩, fun i x S hx hI => ?_, fun S hI => ?_⟩
  · obtain ⟨bs, x3, x4, x5, x6, x7, x8, x9, x10, x11, x12, x13, x14, x15, rfl, hbs⟩ := hI
    have hi4 : i < 4 := by
      have := (List.getElem?_eq_some_iff.mp hx).1
      rw [rangeD_len] at this; exact this
    replace hx : (rangeD 0 4)[i]? = some x := hx
    rw [rangeD_get hi4] at hx
    cases hx
    refine ds_cons ?_
    refine ds_set 4 sc_law.nd rfl (.inl rfl) ?_
    refine de_callC GK (hr.mono (by decide)) rfl ?_
    refine da_cons ?_
    refine de_var 1 rfl (.inr (.inl rfl)) rfl ?_
    refine da_cons ?_
    refine de_callC GW (hr.mono (by decide)) rfl ?_
    refine da_cons ?_
    refine de_var 1 rfl (.inr (.inl rfl)) rfl ?_
    refine da_nil ?_
    refine ⟨da, ca, rfl, rfl, fun w1 w2 => ?_⟩
    refine da_nil ?_
    refine ⟨da, ca, w1, w2, rfl, rfl, fun mk tk ak hm ht ha => ?_⟩
    refine ds_cons ?_
    refine ds_set 5 sc_law.nd rfl (.inr rfl) ?_
    refine de_callC GB (hr.mono (by decide)) rfl ?_
    refine da_cons ?_
    refine de_var 1 rfl (.inr (.inl rfl)) rfl ?_
    refine da_cons ?_
    refine de_var 4 rfl (.inl rfl) rfl ?_
    refine da_cons ?_
    refine DE.mono (Q := IntD fun z => 0 ≤ z ∧ z ≤ 6) ?_ ?_
    · refine de_if ?_
      refine dt_gt ?_
      refine de_var 3 rfl (.inl rfl) rfl ?_
      refine de_int ?_
      refine ⟨_, _, rfl, rfl, ?_⟩
      refine ⟨fun hk => ?_, fun hk => ?_⟩
      · refine de_add ?_
        refine de_int ?_
        refine de_callC GA (hr.mono (by decide)) rfl ?_
        refine da_cons ?_
        refine de_var 1 rfl (.inr (.inl rfl)) rfl ?_
        refine da_cons ?_
        refine de_int ?_
        refine da_nil ?_
        refine ⟨da, ca, _, rfl, rfl, by decide, by decide, fun k k0 k1 => ?_⟩
        exact ⟨_, _, rfl, rfl, _, rfl, by omega, by omega⟩
      · refine de_int ?_
        exact ⟨0, rfl, by decide, by decide⟩
    rintro _ ⟨z, rfl, z0, z6⟩
    obtain ⟨n, rfl⟩ : ∃ n : Nat, z = n := ⟨z.toNat, by omega⟩
    refine da_nil ?_
    refine ⟨da, ca, mk, tk, ak, n, rfl, rfl, hm, ht, ha, by omega, fun fs hf hfl => ?_⟩
    refine ds_cons ?_
    refine ds_asgX rfl (pgn_cons 6 sc_law.nd rfl (.inl rfl) (pgn_cons 7 sc_law.nd rfl (.inr rfl) (pgn_nil))) ?_
    refine dx_d ?_
    refine de_callC GO (hr.mono (by decide)) rfl ?_
    refine da_cons ?_
    refine de_var 5 rfl (.inr (.inl rfl)) rfl ?_
    refine da_nil ?_
    refine ⟨mk, tk, ak, n, fs, rfl, ?_⟩
    refine dx_d ?_
    refine de_callC GT (hr.mono (by decide)) rfl ?_
    refine da_cons ?_
    refine de_var 1 rfl (.inr (.inl rfl)) rfl ?_
    refine da_cons ?_
    refine de_var 5 rfl (.inr (.inl rfl)) rfl ?_
    refine da_nil ?_
    refine ⟨da, ca, _, n, fs, rfl, rfl, hf, by omega, fun row hW => ?_⟩
    refine dx_nil ?_
    have rl := hW.len
    generalize kindD mk tk ak = kd
    generalize kindO CK mk tk ak = ko
    refine ds_cons ?_
    refine ds_set 8 sc_law.nd rfl (.inl rfl) ?_
    refine de_maxL rfl T.n_max rfl ?_
    refine de_fresh ?_
    refine df_cat ?_
    refine de_fresh ?_
    refine df_lcP (T := .n 15) [("point", 15)] rfl sc_law.nd (blkOk_by (N := N_law) (sc := defScope s_law) (by decide +kernel)) (fun _ _ _ _ _ => pgt_name 15 sc_law.nd rfl (.inl rfl)) (by decide) ?_
    refine di_range1 T.n_range rfl ?_
    refine de_ix (fun _ _ => rfl) ?_
    refine de_var 5 rfl (.inr (.inl rfl)) rfl ?_
    refine de_int ?_
    refine ⟨_, _, .int n, .inr rfl, rfl, rfl, ?_⟩
    refine ⟨_, rfl, by omega, by omega, ?_⟩
    refine ⟨by rw [rangeD_len]; omega, fun _ => true, fun x => .int (lenW row (rowV x)), fun x hx => ⟨fun _ _ _ _ _ => dts_nil rfl, fun hp _ _ _ _ _ => ?_⟩, ?_⟩
    · obtain ⟨j, hj, rfl⟩ : ∃ j : Nat, j < n ∧ x = .int (0 + (j : Int)) := by
        unfold rangeD at hx
        obtain ⟨j, hj, rfl⟩ := List.mem_map.mp hx
        exact ⟨j, by rw [List.mem_range] at hj; omega, rfl⟩
      obtain ⟨l, el, _⟩ := hW.way (0 + (j : Int)) (by omega) (by omega)
      refine de_len T.n_len rfl ?_
      refine de_callC GY (hr.mono (by decide)) rfl ?_
      refine da_cons ?_
      refine de_var 7 rfl (.inr (.inl rfl)) rfl ?_
      refine da_cons ?_
      refine de_var 15 rfl (.inl rfl) rfl ?_
      refine da_nil ?_
      refine ⟨row, _, rfl, by rw [rl]; exact hW.inr, by omega, by omega, by omega, ?_⟩
      rw [el]
      refine ⟨_, rfl, ?_⟩
      show D.int (((l.map D.int).length : Nat) : Int) = .int (lenW row (0 + (j : Int)))
      unfold lenW
      rw [el, List.length_map]; rfl
    refine de_fresh ?_
    refine df_lst ?_
    refine da_cons ?_
    refine de_int ?_
    refine da_nil ?_
    have el : (((rangeD 0 ((n : Int)).toNat).filter fun _ => true).map fun x => D.int (lenW row (rowV x))) = ((rngI n).map (lenW row)).map D.int := by
      rw [List.filter_eq_self.mpr fun _ _ => rfl, show rangeD 0 ((n : Int)).toNat = (rngI n).map D.int from rangeD_rng n, List.map_map, List.map_map]; rfl
    rw [el]
    refine ⟨_, _, rfl, rfl, by rw [List.length_map, List.length_map]; unfold rngI; rw [List.length_map, List.length_range]; show n + 1 ≤ _; omega, ?_⟩
    refine ⟨(rngI n).map (lenW row) ++ [0], by rw [show dInts ((rngI n).map (lenW row) ++ [0]) = .lst (((rngI n).map (lenW row) ++ [0]).map D.int) from rfl, List.map_append]; rfl, by simp, fun m hmm hle => ?_⟩
    have hm1 : ∀ p : Int, 0 ≤ p → p < (n : Int) → lenW row p ≤ m := fun p h0 h1 => hle _ (List.mem_append_left _ (List.mem_map_of_mem (mem_rngI.mpr ⟨h0, h1⟩)))
    have w1 := wood_true hW hm1
    have w2 := wood_true (m := m + 1) hW fun p h0 h1 => Int.le_trans (hm1 p h0 h1) (by omega)
    clear hmm hle hm1 el
    refine ds_cons ?_
    refine ds_freeze 2 rfl ?_
    refine ds_setM 2 sc_law.nd rfl (.inl rfl) ?_
    refine df_cat ?_
    refine de_var 2 rfl (.inl rfl) rfl ?_
    refine de_fresh ?_
    refine df_lst ?_
    refine da_cons ?_
    refine de_tup ?_
    refine da_cons ?_
    refine de_callC GR (hr.mono (by decide)) rfl ?_
    refine da_cons ?_
    refine de_var 6 rfl (.inl rfl) rfl ?_
    refine da_cons ?_
    refine de_var 8 rfl (.inl rfl) rfl ?_
    refine da_cons ?_
    refine de_var 7 rfl (.inr (.inl rfl)) rfl ?_
    refine da_nil ?_
    refine ⟨ko, n, fs, m, _, rfl, hf, by omega, ask_ints (by omega), ?_⟩
    rw [readWood_ints, w1]
    refine da_cons ?_
    refine de_bl ?_
    refine da_nil ?_
    refine da_nil ?_
    refine ⟨_, _, rfl, rfl, by rw [List.length_map]; show bs.length + 1 ≤ _; omega, ?_⟩
    rw [grow]
    refine ds_cons ?_
    refine ds_freeze 2 rfl ?_
    refine ds_setM 2 sc_law.nd rfl (.inl rfl) ?_
    refine df_cat ?_
    refine de_var 2 rfl (.inl rfl) rfl ?_
    refine de_fresh ?_
    refine df_lst ?_
    refine da_cons ?_
    refine de_tup ?_
    refine da_cons ?_
    refine de_callK0 GR kw (hr.mono (by decide)) rfl ?_
    refine dk_cons ?_
    refine de_var 6 rfl (.inl rfl) rfl ?_
    refine dk_cons ?_
    refine de_add ?_
    refine de_var 8 rfl (.inl rfl) rfl ?_
    refine de_int ?_
    refine ⟨_, _, rfl, rfl, ?_⟩
    refine dk_cons ?_
    refine de_var 7 rfl (.inr (.inl rfl)) rfl ?_
    refine dk_nil ?_
    refine ⟨ko, n, fs, m + 1, _, rfl, hf, by omega, ask_ints (by omega), ?_⟩
    rw [readWood_ints, w2]
    refine da_cons ?_
    refine de_bl ?_
    refine da_nil ?_
    refine da_nil ?_
    refine ⟨_, _, rfl, rfl, by rw [List.length_map, List.length_append]; show bs.length + 1 + 1 ≤ _; omega, ?_⟩
    rw [grow]
    refine ds_cons ?_
    refine ds_freeze 2 rfl ?_
    refine ds_setM 2 sc_law.nd rfl (.inl rfl) ?_
    refine df_cat ?_
    refine de_var 2 rfl (.inl rfl) rfl ?_
    refine de_fresh ?_
    refine df_lst ?_
    refine da_cons ?_
    refine de_tup ?_
    refine da_cons ?_
    refine de_callC GI (hr.mono (by decide)) rfl ?_
    refine da_cons ?_
    refine de_var 5 rfl (.inr (.inl rfl)) rfl ?_
    refine da_cons ?_
    refine de_var 8 rfl (.inl rfl) rfl ?_
    refine da_cons ?_
    refine de_var 7 rfl (.inr (.inl rfl)) rfl ?_
    refine da_nil ?_
    refine ⟨kd, n, fs, m, row, rfl, hf, by omega, by omega, by omega, ?_⟩
    rw [w1]
    refine da_cons ?_
    refine de_bl ?_
    refine da_nil ?_
    refine da_nil ?_
    refine ⟨_, _, rfl, rfl, by rw [List.length_map, List.length_append, List.length_append]; show bs.length + 1 + 1 + 1 ≤ _; omega, ?_⟩
    rw [grow]
    obtain ⟨bs2, eb⟩ : ∃ bs2, bs2 = bs ++ [true] ++ [true] ++ [true] := ⟨_, rfl⟩
    rw [← eb]
    have hb2 : bs2.length ≤ 200 * i + 3 := by rw [eb]; simp; omega
    clear eb hbs
    refine ds_cons ?_
    refine ds_setM 9 sc_law.nd rfl (.inl rfl) ?_
    refine df_lst ?_
    refine da_cons ?_
    refine de_revT ?_
    refine de_var 7 rfl (.inr (.inl rfl)) rfl ?_
    refine ⟨_, rfl, ?_⟩
    refine da_cons ?_
    refine de_catT ?_
    refine de_var 7 rfl (.inr (.inl rfl)) rfl ?_
    refine de_tup ?_
    refine da_cons ?_
    refine de_sub ?_
    refine de_int ?_
    refine de_int ?_
    refine ⟨_, _, rfl, rfl, ?_⟩
    refine da_nil ?_
    refine ⟨_, _, rfl, rfl, by rw [List.length_map]; show row.length + 1 ≤ _; omega, ?_⟩
    refine da_cons ?_
    refine de_sliceT ?_
    refine de_var 7 rfl (.inr (.inl rfl)) rfl ?_
    refine do_some ?_
    refine de_int ?_
    refine ⟨_, rfl, ?_⟩
    refine do_none ?_
    refine ⟨_, rfl, ?_⟩
    refine da_nil ?_
    have ef : ([D.tup (row.map D.int).reverse, .tup (row.map D.int ++ [.int (0 - 1)]), .tup (cut (row.map D.int) (some 1) none)] : List D) = ([row.reverse, row ++ [0 - 1], cut row (some 1) none] : List (List Int)).map tInts := by
      rw [cut_map, ← List.map_reverse]
      show _ = [D.tup (row.reverse.map D.int), .tup ((row ++ [0 - 1]).map D.int), .tup ((cut row (some 1) none).map D.int)]
      rw [List.map_append]; rfl
    rw [ef]
    clear ef
    have hrows : ∀ r ∈ ([row.reverse, row ++ [0 - 1], cut row (some 1) none] : List (List Int)), r.length ≤ 20 := fun r h => by
      have h3 := cut_len row (some 1) none
      rcases List.mem_cons.mp h with rfl | h
      · rw [List.length_reverse]; omega
      rcases List.mem_cons.mp h with rfl | h
      · rw [List.length_append]; show row.length + 1 ≤ _; omega
      rcases List.mem_cons.mp h with rfl | h
      · omega
      cases h
    refine ds_cons ?_
    refine ds_for PassesOwn.never rfl (pgt_name 10 sc_law.nd rfl (.inl rfl)) ?_
    refine di_range1 T.n_range rfl ?_
    refine DE.mono (Q := IntD fun z => 0 ≤ z ∧ z ≤ 6 ∧ (n = 0 → z = 0)) ?_ ?_
    · refine de_if ?_
      refine dt_gt ?_
      refine de_ix (fun _ _ => rfl) ?_
      refine de_var 5 rfl (.inr (.inl rfl)) rfl ?_
      refine de_int ?_
      refine ⟨_, _, .int n, .inr rfl, rfl, rfl, ?_⟩
      refine de_int ?_
      refine ⟨_, _, rfl, rfl, ?_⟩
      refine ⟨fun hk => ?_, fun hk => ?_⟩
      · refine de_int ?_
        have := of_decide_eq_true hk
        exact ⟨6, rfl, by decide, by decide, fun e => by omega⟩
      · refine de_int ?_
        exact ⟨0, rfl, by decide, by decide, fun _ => rfl⟩
    rintro _ ⟨z, rfl, y0, y6, yn⟩
    refine ⟨_, rfl, by omega, by omega, ?_⟩
    refine ⟨fun j S => ∃ (rows : List (List Int)) (x10 x11 x12 x13 x14 x15 : B), S = [.u, .d (.adr da), .m (bs2.map bb), .d (.int (0 + (i : Int))), .d kd, .d (webT kd n fs), .d (webO CW ko n fs), .d (tInts row), .d (.int m), .m (rows.map tInts), x10, x11, x12, x13, x14, x15] ∧ rows.length ≤ 3 + 2 * j ∧ ∀ r ∈ rows, r.length ≤ 20,
      ⟨_, _, _, _, _, _, _, rfl, Nat.le_refl _, hrows⟩, fun j x S hx hJ => ?_, fun S hJ => ?_⟩
    · obtain ⟨rows, x10, x11, x12, x13, x14, x15, rfl, hrl, hrows⟩ := hJ
      have hjz : j < z.toNat := by
        have := (List.getElem?_eq_some_iff.mp hx).1
        rwa [rangeD_len] at this
      have hn0 : 0 < n := by
        rcases Nat.eq_zero_or_pos n with e | e
        · have := yn e; omega
        · exact e
      rw [rangeD_get hjz] at hx
      cases hx
      refine ds_cons ?_
      refine ds_set 11 sc_law.nd rfl (.inl rfl) ?_
      refine de_callC GA (hr.mono (by decide)) rfl ?_
      refine da_cons ?_
      refine de_var 1 rfl (.inr (.inl rfl)) rfl ?_
      refine da_cons ?_
      refine de_ix (fun _ _ => rfl) ?_
      refine de_var 5 rfl (.inr (.inl rfl)) rfl ?_
      refine de_int ?_
      refine ⟨_, _, .int n, .inr rfl, rfl, rfl, ?_⟩
      refine da_nil ?_
      refine ⟨da, ca, _, rfl, rfl, by omega, by omega, fun k k0 k1 => ?_⟩
      refine ds_cons ?_
      refine ds_append 9 rfl (.inl rfl) rfl (by rw [List.length_map]; omega) ?_
      refine de_catT ?_
      refine de_catT ?_
      refine de_sliceT ?_
      refine de_var 7 rfl (.inr (.inl rfl)) rfl ?_
      refine do_none ?_
      refine do_some ?_
      refine de_var 11 rfl (.inl rfl) rfl ?_
      refine ⟨_, rfl, ?_⟩
      refine ⟨_, rfl, ?_⟩
      refine de_tup ?_
      refine da_cons ?_
      refine de_sub ?_
      refine de_callC GA (hr.mono (by decide)) rfl ?_
      refine da_cons ?_
      refine de_var 1 rfl (.inr (.inl rfl)) rfl ?_
      refine da_cons ?_
      refine de_add ?_
      refine de_ix (fun _ _ => rfl) ?_
      refine de_var 5 rfl (.inr (.inl rfl)) rfl ?_
      refine de_int ?_
      refine ⟨_, _, .int n, .inr rfl, rfl, rfl, ?_⟩
      refine de_int ?_
      refine ⟨_, _, rfl, rfl, ?_⟩
      refine da_nil ?_
      refine ⟨da, ca, _, rfl, rfl, by omega, by omega, fun k' k0' k1' => ?_⟩
      refine de_int ?_
      refine ⟨_, _, rfl, rfl, ?_⟩
      refine da_nil ?_
      have c1 := cut_len row none (some k)
      have c2 := cut_len row (some (k + 1)) none
      refine ⟨_, _, rfl, rfl, by rw [cut_map, List.length_map]; show (cut row none (some k)).length + 1 ≤ _; omega, ?_⟩
      refine de_sliceT ?_
      refine de_var 7 rfl (.inr (.inl rfl)) rfl ?_
      refine do_some ?_
      refine de_add ?_
      refine de_var 11 rfl (.inl rfl) rfl ?_
      refine de_int ?_
      refine ⟨_, _, rfl, rfl, ?_⟩
      refine ⟨_, rfl, ?_⟩
      refine do_none ?_
      refine ⟨_, rfl, ?_⟩
      rw [cut_map, cut_map]
      refine ⟨_, _, rfl, rfl, by rw [List.length_append, List.length_map, List.length_map]; show (cut row none (some k)).length + 1 + (cut row (some (k + 1)) none).length ≤ _; omega, ?_⟩
      have e1 : rows.map tInts ++ [D.tup ((cut row none (some k)).map D.int ++ [.int (k' - 2)] ++ (cut row (some (k + 1)) none).map D.int)] = (rows ++ [cut row none (some k) ++ [k' - 2] ++ cut row (some (k + 1)) none]).map tInts := by
        rw [List.map_append]
        show _ = rows.map tInts ++ [D.tup ((cut row none (some k) ++ [k' - 2] ++ cut row (some (k + 1)) none).map D.int)]
        rw [List.map_append, List.map_append]; rfl
      rw [e1]
      clear e1
      have hrows1 : ∀ r ∈ rows ++ [cut row none (some k) ++ [k' - 2] ++ cut row (some (k + 1)) none], r.length ≤ 20 := fun r h => by
        rcases List.mem_append.mp h with h | h
        · exact hrows r h
        · rw [List.mem_singleton] at h; subst h
          rw [List.length_append, List.length_append]; show (cut row none (some k)).length + 1 + (cut row (some (k + 1)) none).length ≤ _; omega
      refine ds_one ?_
      refine ds_append 9 rfl (.inl rfl) rfl (by rw [List.length_map, List.length_append]; show rows.length + 1 ≤ _; omega) ?_
      refine de_tuple T.n_tuple rfl ?_
      refine de_fresh ?_
      refine df_lc (T := .n 15) [("point", 15)] rfl sc_law.nd (blkOk_by (N := N_law) (sc := defScope s_law) (by decide +kernel)) (fun _ _ _ _ _ => pgt_name 15 sc_law.nd rfl (.inl rfl)) (by decide) ?_
      refine di_range1 T.n_range rfl ?_
      refine de_ix (fun _ _ => rfl) ?_
      refine de_var 5 rfl (.inr (.inl rfl)) rfl ?_
      refine de_int ?_
      refine ⟨_, _, .int n, .inr rfl, rfl, rfl, ?_⟩
      refine ⟨_, rfl, by omega, by omega, ?_⟩
      refine ⟨by rw [rangeD_len]; omega, fun l acc => ∃ ls : List Int, acc = ls.map D.int ∧ ls.length = l, ⟨[], rfl, rfl⟩, fun l x acc hx hK => ?_, fun ys hK => ?_⟩
      · obtain ⟨ls, rfl, hl⟩ := hK
        refine fun _ _ _ _ _ => ?_
        refine dts_nil ⟨fun hk => ?_, fun hk => nomatch hk⟩
        refine fun _ _ _ _ _ => ?_
        refine de_sub ?_
        refine de_callC GA (hr.mono (by decide)) rfl ?_
        refine da_cons ?_
        refine de_var 1 rfl (.inr (.inl rfl)) rfl ?_
        refine da_cons ?_
        refine de_add ?_
        refine de_ix (fun _ _ => rfl) ?_
        refine de_var 5 rfl (.inr (.inl rfl)) rfl ?_
        refine de_int ?_
        refine ⟨_, _, .int n, .inr rfl, rfl, rfl, ?_⟩
        refine de_int ?_
        refine ⟨_, _, rfl, rfl, ?_⟩
        refine da_nil ?_
        refine ⟨da, ca, _, rfl, rfl, by omega, by omega, fun k2 _ _ => ?_⟩
        refine de_int ?_
        refine ⟨_, _, rfl, rfl, ?_⟩
        exact ⟨ls ++ [k2 - 1], by rw [List.map_append]; rfl, by rw [List.length_append, hl]; rfl⟩
      · obtain ⟨ls, rfl, hl⟩ := hK
        rw [rangeD_len] at hl
        refine ⟨_, .inl rfl, ?_⟩
        refine ⟨rows ++ [cut row none (some k) ++ [k' - 2] ++ cut row (some (k + 1)) none] ++ [ls], _, _, _, _, _, _, by rw [List.map_append (l₂ := [ls])]; rfl, by rw [List.length_append, List.length_append]; show rows.length + 1 + 1 ≤ 3 + 2 * (j + 1); omega, fun r h => ?_⟩
        rcases List.mem_append.mp h with h | h
        · exact hrows1 r h
        · rw [List.mem_singleton] at h; subst h; omega
    obtain ⟨rows, x10, x11, x12, x13, x14, x15, rfl, hrl, hrows⟩ := hJ
    rw [rangeD_len] at hrl
    replace hrl : rows.length ≤ 15 := by omega
    refine dss_freeze 9 rfl ?_
    refine ds_cons ?_
    refine ds_for PassesOwn.never rfl (pgt_name 12 sc_law.nd rfl (.inl rfl)) ?_
    refine di_list ?_
    refine de_var 9 rfl (.inl rfl) rfl ?_
    refine ⟨_, rfl, ?_⟩
    refine ⟨fun j S => ∃ (bs : List Bool) (x12 x13 x14 x15 : B), S = [.u, .d (.adr da), .m (bs.map bb), .d (.int (0 + (i : Int))), .d kd, .d (webT kd n fs), .d (webO CW ko n fs), .d (tInts row), .d (.int m), .d (.lst (rows.map tInts)), x10, x11, x12, x13, x14, x15] ∧ bs.length ≤ 200 * i + 3 + 3 * j,
      ⟨_, _, _, _, _, rfl, by omega⟩, fun j x S hx hJ => ?_, fun S hJ => ?_⟩
    · obtain ⟨bs, x12, x13, x14, x15, rfl, hbl⟩ := hJ
      have hj := (List.getElem?_eq_some_iff.mp hx).1
      rw [List.length_map] at hj
      obtain ⟨late, hlate, rfl⟩ := List.mem_map.mp (List.mem_of_getElem? hx)
      have hll := hrows late hlate
      refine ds_one ?_
      refine ds_for PassesOwn.never rfl (pgt_name 13 sc_law.nd rfl (.inl rfl)) ?_
      refine di_list ?_
      refine de_fresh ?_
      refine df_lst ?_
      refine da_cons ?_
      refine de_var 8 rfl (.inl rfl) rfl ?_
      refine da_cons ?_
      refine de_max2 rfl T.n_max rfl ?_
      refine de_sub ?_
      refine de_var 8 rfl (.inl rfl) rfl ?_
      refine de_int ?_
      refine ⟨_, _, rfl, rfl, ?_⟩
      refine de_int ?_
      refine ⟨_, _, rfl, rfl, ?_⟩
      refine da_cons ?_
      refine de_ix (fun _ _ => rfl) ?_
      refine de_var 5 rfl (.inr (.inl rfl)) rfl ?_
      refine de_int ?_
      refine ⟨_, _, .int n, .inr rfl, rfl, rfl, ?_⟩
      refine da_nil ?_
      refine ⟨_, rfl, ?_⟩
      refine ⟨fun l S => ∃ (bs : List Bool) (x13 x14 x15 : B), S = [.u, .d (.adr da), .m (bs.map bb), .d (.int (0 + (i : Int))), .d kd, .d (webT kd n fs), .d (webO CW ko n fs), .d (tInts row), .d (.int m), .d (.lst (rows.map tInts)), x10, x11, .d (tInts late), x13, x14, x15] ∧ bs.length ≤ 200 * i + 3 + 3 * j + l,
        ⟨_, _, _, _, rfl, by omega⟩, fun l x S hx hK => ?_, fun S hK => ?_⟩
      · obtain ⟨bs, x13, x14, x15, rfl, hbl⟩ := hK
        have hl3 := (List.getElem?_eq_some_iff.mp hx).1
        have hl3 : l < 3 := hl3
        obtain ⟨h, rfl⟩ : ∃ h : Int, x = .int h := by
          have hm := List.mem_of_getElem? hx
          rcases List.mem_cons.mp hm with e | hm
          · exact ⟨_, e⟩
          rcases List.mem_cons.mp hm with e | hm
          · exact ⟨_, e⟩
          rcases List.mem_cons.mp hm with e | hm
          · exact ⟨_, e⟩
          cases hm
        refine ds_one ?_
        refine ds_append 2 rfl (.inl rfl) rfl (by rw [List.length_map]; omega) ?_
        refine de_tup ?_
        refine da_cons ?_
        refine de_callC GR (hr.mono (by decide)) rfl ?_
        refine da_cons ?_
        refine de_var 6 rfl (.inl rfl) rfl ?_
        refine da_cons ?_
        refine de_var 13 rfl (.inl rfl) rfl ?_
        refine da_cons ?_
        refine de_var 12 rfl (.inl rfl) rfl ?_
        refine da_nil ?_
        refine ⟨ko, n, fs, h, _, rfl, hf, by omega, ask_ints (by omega), ?_⟩
        rw [readWood_ints]
        refine da_cons ?_
        refine de_callC GI (hr.mono (by decide)) rfl ?_
        refine da_cons ?_
        refine de_var 5 rfl (.inr (.inl rfl)) rfl ?_
        refine da_cons ?_
        refine de_var 13 rfl (.inl rfl) rfl ?_
        refine da_cons ?_
        refine de_var 12 rfl (.inl rfl) rfl ?_
        refine da_nil ?_
        refine ⟨kd, n, fs, h, late, rfl, hf, by omega, by omega, by omega, ?_⟩
        refine da_nil ?_
        rw [grow]
        exact ⟨_, _, _, _, rfl, by rw [List.length_append]; show bs.length + 1 ≤ _; omega⟩
      · obtain ⟨bs, x13, x14, x15, rfl, hbl⟩ := hK
        have hbl : bs.length ≤ 200 * i + 3 + 3 * j + 3 := hbl
        exact ⟨_, _, _, _, _, rfl, by omega⟩
    obtain ⟨bs3, x12, x13, x14, x15, rfl, hb3⟩ := hJ
    rw [List.length_map] at hb3
    replace hb3 : bs3.length ≤ 200 * i + 48 := by omega
    refine ds_one ?_
    refine ds_for PassesOwn.never rfl (pgt_name 14 sc_law.nd rfl (.inl rfl)) ?_
    refine di_list ?_
    refine de_fresh ?_
    refine df_lst ?_
    refine da_cons ?_
    refine de_non ?_
    refine da_cons ?_
    refine de_int ?_
    refine da_cons ?_
    refine de_str ?_
    refine da_cons ?_
    refine de_fresh ?_
    refine df_list T.n_list rfl ?_
    refine de_var 7 rfl (.inr (.inl rfl)) rfl ?_
    refine ⟨_, .inr rfl, ?_⟩
    refine da_cons ?_
    refine de_catT ?_
    refine de_var 7 rfl (.inr (.inl rfl)) rfl ?_
    refine de_tup ?_
    refine da_cons ?_
    refine de_non ?_
    refine da_nil ?_
    refine ⟨_, _, rfl, rfl, by rw [List.length_map]; show row.length + 1 ≤ _; omega, ?_⟩
    refine da_cons ?_
    refine de_repTn ?_
    refine de_tup ?_
    refine da_cons ?_
    refine de_non ?_
    refine da_nil ?_
    refine de_add ?_
    refine de_ix (fun _ _ => rfl) ?_
    refine de_var 5 rfl (.inr (.inl rfl)) rfl ?_
    refine de_int ?_
    refine ⟨_, _, .int n, .inr rfl, rfl, rfl, ?_⟩
    refine de_int ?_
    refine ⟨_, _, rfl, rfl, ?_⟩
    refine ⟨_, _, rfl, rfl, by simp, by omega, by omega, by decide, ?_⟩
    refine da_cons ?_
    refine de_catT ?_
    refine de_tup ?_
    refine da_cons ?_
    refine de_bl ?_
    refine da_nil ?_
    refine de_var 7 rfl (.inr (.inl rfl)) rfl ?_
    refine ⟨_, _, rfl, rfl, by rw [List.length_map]; show 1 + row.length ≤ _; omega, ?_⟩
    refine da_cons ?_
    refine de_catT ?_
    refine de_sliceT ?_
    refine de_var 7 rfl (.inr (.inl rfl)) rfl ?_
    refine do_none ?_
    refine do_some ?_
    refine de_neg ?_
    refine de_int ?_
    refine ⟨_, rfl, ?_⟩
    refine ⟨_, rfl, ?_⟩
    refine ⟨_, rfl, ?_⟩
    refine de_tup ?_
    refine da_cons ?_
    refine de_str ?_
    refine da_nil ?_
    have c3 := cut_len row none (some (-1))
    have c4 : (cut (row.map D.int) none (some (-1))).length ≤ row.length := by rw [cut_map, List.length_map]; exact c3
    refine ⟨_, _, rfl, rfl, by show (cut (row.map D.int) none (some (-1))).length + 1 ≤ _; omega, ?_⟩
    refine da_cons ?_
    refine de_catT ?_
    refine de_sliceT ?_
    refine de_var 7 rfl (.inr (.inl rfl)) rfl ?_
    refine do_none ?_
    refine do_some ?_
    refine de_neg ?_
    refine de_int ?_
    refine ⟨_, rfl, ?_⟩
    refine ⟨_, rfl, ?_⟩
    refine ⟨_, rfl, ?_⟩
    refine de_tup ?_
    refine da_cons ?_
    refine de_tup ?_
    refine da_cons ?_
    refine de_int ?_
    refine da_nil ?_
    refine da_nil ?_
    refine ⟨_, _, rfl, rfl, by show (cut (row.map D.int) none (some (-1))).length + 1 ≤ _; omega, ?_⟩
    refine da_nil ?_
    refine ⟨_, rfl, ?_⟩
    have okc : ∀ x ∈ cut (row.map D.int) none (some (-1)), okX x := fun x hx => by
      rw [cut_map] at hx; exact okX_ints _ x hx
    have okr := okX_ints row
    have hv : ∀ v ∈ ([.non, .int 0, .str "", .lst (row.map D.int), .tup (row.map D.int ++ [.non]), .tup (List.replicate ((n : Int) + 1).toNat [D.non]).flatten, .tup ([.bl true] ++ row.map D.int), .tup (cut (row.map D.int) none (some (-1)) ++ [.str "0"]), .tup (cut (row.map D.int) none (some (-1)) ++ [.tup [.int 0]])] : List D),
        AskV v ∧ readWood n fs m v = false := fun v hv => by
      rcases List.mem_cons.mp hv with rfl | hv
      · exact ⟨⟨_, rfl, fun xs e => nomatch e⟩, rfl⟩
      rcases List.mem_cons.mp hv with rfl | hv
      · exact ⟨⟨_, rfl, fun xs e => nomatch e⟩, rfl⟩
      rcases List.mem_cons.mp hv with rfl | hv
      · exact ⟨⟨_, rfl, fun xs e => nomatch e⟩, rfl⟩
      rcases List.mem_cons.mp hv with rfl | hv
      · exact ⟨⟨_, rfl, fun xs e => nomatch e⟩, rfl⟩
      rcases List.mem_cons.mp hv with rfl | hv
      · have l1 : (row.map D.int ++ [D.non]).length = n + 1 := by rw [List.length_append, List.length_map, rl]; rfl
        refine ⟨ask_tup (by omega) fun x hx => ?_, read_len (by omega)⟩
        rcases List.mem_append.mp hx with hx | hx
        · exact okr x hx
        · rw [List.mem_singleton] at hx; subst hx; exact okX_non
      rcases List.mem_cons.mp hv with rfl | hv
      · have l1 : ((List.replicate ((n : Int) + 1).toNat [D.non]).flatten).length = n + 1 := by rw [rep_len]; omega
        exact ⟨ask_tup (by omega) rep_mem, read_len (by omega)⟩
      rcases List.mem_cons.mp hv with rfl | hv
      · have l1 : ([D.bl true] ++ row.map D.int).length = n + 1 := by rw [List.length_append, List.length_map, rl]; show 1 + n = n + 1; omega
        refine ⟨ask_tup (by omega) fun x hx => ?_, read_len (by omega)⟩
        rcases List.mem_append.mp hx with hx | hx
        · rw [List.mem_singleton] at hx; subst hx; exact okX_bl _
        · exact okr x hx
      rcases List.mem_cons.mp hv with rfl | hv
      · refine ⟨ask_tup (by rw [List.length_append]; show _ + 1 ≤ _; omega) fun x hx => ?_, read_bad (x := .str "0") (List.mem_append_right _ List.mem_cons_self) rfl⟩
        rcases List.mem_append.mp hx with hx | hx
        · exact okc x hx
        · rw [List.mem_singleton] at hx; subst hx; exact okX_str _ (by decide +kernel)
      rcases List.mem_cons.mp hv with rfl | hv
      · refine ⟨ask_tup (by rw [List.length_append]; show _ + 1 ≤ _; omega) fun x hx => ?_, read_bad (x := .tup [.int 0]) (List.mem_append_right _ List.mem_cons_self) rfl⟩
        rcases List.mem_append.mp hx with hx | hx
        · exact okc x hx
        · rw [List.mem_singleton] at hx; subst hx; exact ⟨⟨_, rfl⟩, small_tInts [0]⟩
      cases hv
    refine ⟨fun j S => ∃ (bs : List Bool) (x14 x15 : B), S = [.u, .d (.adr da), .m (bs.map bb), .d (.int (0 + (i : Int))), .d kd, .d (webT kd n fs), .d (webO CW ko n fs), .d (tInts row), .d (.int m), .d (.lst (rows.map tInts)), x10, x11, x12, x13, x14, x15] ∧ bs.length ≤ 200 * i + 48 + j,
      ⟨_, _, _, rfl, hb3⟩, fun j x S hx hJ => ?_, fun S hJ => ?_⟩
    · obtain ⟨bs, x14, x15, rfl, hbl⟩ := hJ
      have hj9 := (List.getElem?_eq_some_iff.mp hx).1
      have hj9 : j < 9 := hj9
      obtain ⟨v1, v2⟩ := hv x (List.mem_of_getElem? hx)
      refine ds_one ?_
      refine ds_append 2 rfl (.inl rfl) rfl (by rw [List.length_map]; omega) ?_
      refine de_tup ?_
      refine da_cons ?_
      refine de_callC GR (hr.mono (by decide)) rfl ?_
      refine da_cons ?_
      refine de_var 6 rfl (.inl rfl) rfl ?_
      refine da_cons ?_
      refine de_var 8 rfl (.inl rfl) rfl ?_
      refine da_cons ?_
      refine de_var 14 rfl (.inl rfl) rfl ?_
      refine da_nil ?_
      refine ⟨ko, n, fs, m, _, rfl, hf, by omega, v1, ?_⟩
      rw [v2]
      refine da_cons ?_
      refine de_bl ?_
      refine da_nil ?_
      rw [grow]
      exact ⟨_, _, _, rfl, by rw [List.length_append]; show bs.length + 1 ≤ _; omega⟩
    · obtain ⟨bs, x14, x15, rfl, hbl⟩ := hJ
      have hbl : bs.length ≤ 200 * i + 48 + 9 := hbl
      exact ⟨bs, _, _, _, _, _, _, _, _, _, _, _, _, _, rfl, by omega⟩
  · obtain ⟨bs, x3, x4, x5, x6, x7, x8, x9, x10, x11, x12, x13, x14, x15, rfl, hbs⟩ := hI
    rw [rangeD_len] at hbs
    refine dss_freeze 2 rfl ?_
    refine ds_one ?_
    refine ds_ret ?_
    refine de_callC GL (hr.mono (by decide)) rfl ?_
    refine da_cons ?_
    refine de_var 2 rfl (.inl rfl) rfl ?_
    refine da_nil ?_
    refine ⟨bs.map D.bl, by rw [List.map_map]; rfl, fun d hd => ?_, by rw [List.length_map]; exact Nat.le_trans hbs (by decide), rfl⟩
    obtain ⟨b, _, rfl⟩ := List.mem_map.mp hd
    rfl
end
end K62
set_option Elab.async false
set_option maxRecDepth 100000
set_option maxHeartbeats 1000000
namespace K62
open PySem PySem.Spec L2 DL
theorem all_mk {l : PySem.W.OpenLaw} {w : World} {K : PySem.W.Frag} {h : Heap} {mg : Str → Option Value} {fa : Addr} (X : K.In h) (G : h.Ns mainGlobals mg) (hfa : mg "law" = some (.ref fa))
    {f0 f1 f2 f3 f4 f5 f6 f7 f8 f9 f10 f11 f12 f13 f14 f15 f16 f17 f18 f19 f20 f21 f22 f23 f24 f25 f26 : Addr} {od0 an0 : Option Addr} {sl0 : Array (Option Value)} {oc0 kV0 dc0 pm0 cd0 ct0 : Value} {od1 an1 : Option Addr} {sl1 : Array (Option Value)} {oc1 kV1 dc1 pm1 cd1 ct1 : Value} {od2 an2 : Option Addr} {sl2 : Array (Option Value)} {oc2 kV2 dc2 pm2 cd2 ct2 : Value} {od3 an3 : Option Addr} {sl3 : Array (Option Value)} {oc3 kV3 dc3 pm3 cd3 ct3 : Value} {od4 an4 : Option Addr} {sl4 : Array (Option Value)} {oc4 kV4 dc4 pm4 cd4 ct4 : Value} {od5 an5 : Option Addr} {sl5 : Array (Option Value)} {oc5 kV5 dc5 pm5 cd5 ct5 : Value} {od6 an6 : Option Addr} {sl6 : Array (Option Value)} {oc6 kV6 dc6 pm6 cd6 ct6 : Value} {od7 an7 : Option Addr} {sl7 : Array (Option Value)} {oc7 kV7 dc7 pm7 cd7 ct7 : Value} {od8 an8 : Option Addr} {sl8 : Array (Option Value)} {oc8 kV8 dc8 pm8 cd8 ct8 : Value} {od9 an9 : Option Addr} {sl9 : Array (Option Value)} {oc9 kV9 dc9 pm9 cd9 ct9 : Value} {od10 an10 : Option Addr} {sl10 : Array (Option Value)} {oc10 kV10 dc10 pm10 cd10 ct10 : Value} {od11 an11 : Option Addr} {sl11 : Array (Option Value)} {oc11 kV11 dc11 pm11 cd11 ct11 : Value} {od12 an12 : Option Addr} {sl12 : Array (Option Value)} {oc12 kV12 dc12 pm12 cd12 ct12 : Value} {od13 an13 : Option Addr} {sl13 : Array (Option Value)} {oc13 kV13 dc13 pm13 cd13 ct13 : Value} {od14 an14 : Option Addr} {sl14 : Array (Option Value)} {oc14 kV14 dc14 pm14 cd14 ct14 : Value} {od15 an15 : Option Addr} {sl15 : Array (Option Value)} {oc15 kV15 dc15 pm15 cd15 ct15 : Value} {od16 an16 : Option Addr} {sl16 : Array (Option Value)} {oc16 kV16 dc16 pm16 cd16 ct16 : Value} {od17 an17 : Option Addr} {sl17 : Array (Option Value)} {oc17 kV17 dc17 pm17 cd17 ct17 : Value} {od18 an18 : Option Addr} {sl18 : Array (Option Value)} {oc18 kV18 dc18 pm18 cd18 ct18 : Value} {od19 an19 : Option Addr} {sl19 : Array (Option Value)} {oc19 kV19 dc19 pm19 cd19 ct19 : Value} {od20 an20 : Option Addr} {sl20 : Array (Option Value)} {oc20 kV20 dc20 pm20 cd20 ct20 : Value} {od21 an21 : Option Addr} {sl21 : Array (Option Value)} {oc21 kV21 dc21 pm21 cd21 ct21 : Value} {od22 an22 : Option Addr} {sl22 : Array (Option Value)} {oc22 kV22 dc22 pm22 cd22 ct22 : Value} {od23 an23 : Option Addr} {sl23 : Array (Option Value)} {oc23 kV23 dc23 pm23 cd23 ct23 : Value} {od24 an24 : Option Addr} {sl24 : Array (Option Value)} {oc24 kV24 dc24 pm24 cd24 ct24 : Value} {od25 an25 : Option Addr} {sl25 : Array (Option Value)} {oc25 kV25 dc25 pm25 cd25 ct25 : Value} {od26 an26 : Option Addr} {sl26 : Array (Option Value)} {oc26 kV26 dc26 pm26 cd26 ct26 : Value}
    {C0 : Addr} {C1 : Addr} {tg : Tok}
    (a0 : PySem.W.nsIn K mainGlobals "is_integer" = some (some (.ref f0)))
    (l0 : K.lookup f0 = some ⟨oc0, od0, .func (PySem.W.fnOf "is_integer" "is_integer" (defArgs s_is_integer) (defBody s_is_integer) (defScope s_is_integer) .none kV0 dc0 pm0 an0 cd0 ct0), sl0⟩) (c0 : PySem.W.codeIn K cd0 "is_integer" = true) (k0 : PySem.W.keepIn K (.ref f0) = true)
    (a1 : PySem.W.nsIn K mainGlobals "is_tuple" = some (some (.ref f1)))
    (l1 : K.lookup f1 = some ⟨oc1, od1, .func (PySem.W.fnOf "is_tuple" "is_tuple" (defArgs s_is_tuple) (defBody s_is_tuple) (defScope s_is_tuple) .none kV1 dc1 pm1 an1 cd1 ct1), sl1⟩) (c1 : PySem.W.codeIn K cd1 "is_tuple" = true) (k1 : PySem.W.keepIn K (.ref f1) = true)
    (a2 : PySem.W.nsIn K mainGlobals "way_down" = some (some (.ref f2)))
    (l2 : K.lookup f2 = some ⟨oc2, od2, .func (PySem.W.fnOf "way_down" "way_down" (defArgs s_way_down) (defBody s_way_down) (defScope s_way_down) .none kV2 dc2 pm2 an2 cd2 ct2), sl2⟩) (c2 : PySem.W.codeIn K cd2 "way_down" = true) (k2 : PySem.W.keepIn K (.ref f2) = true)
    (a3 : PySem.W.nsIn K mainGlobals "are_rows_down" = some (some (.ref f3)))
    (l3 : K.lookup f3 = some ⟨oc3, od3, .func (PySem.W.fnOf "are_rows_down" "are_rows_down" (defArgs s_are_rows_down) (defBody s_are_rows_down) (defScope s_are_rows_down) .none kV3 dc3 pm3 an3 cd3 ct3), sl3⟩) (c3 : PySem.W.codeIn K cd3 "are_rows_down" = true) (k3 : PySem.W.keepIn K (.ref f3) = true)
    (a4 : PySem.W.nsIn K mainGlobals "read_wood" = some (some (.ref f4)))
    (l4 : K.lookup f4 = some ⟨oc4, od4, .func (PySem.W.fnOf "read_wood" "read_wood" (defArgs s_read_wood) (defBody s_read_wood) (defScope s_read_wood) .none kV4 dc4 pm4 an4 cd4 ct4), sl4⟩) (c4 : PySem.W.codeIn K cd4 "read_wood" = true) (k4 : PySem.W.keepIn K (.ref f4) = true)
    (a5 : PySem.W.findIn K (.ref C0) "__init__" = some (some (.ref f5))) (i5 : PySem.W.isFn K (.ref f5) = true)
    (l5 : K.lookup f5 = some ⟨oc5, od5, .func (PySem.W.fnOf "__init__" "Kind.__init__" (defArgs s_Kind___init__) (defBody s_Kind___init__) (defScope s_Kind___init__) .none kV5 dc5 pm5 an5 cd5 ct5), sl5⟩) (c5 : PySem.W.codeIn K cd5 "Kind.__init__" = true) (k5 : PySem.W.keepIn K (.ref f5) = true)
    (a6 : PySem.W.findIn K (.ref C1) "__init__" = some (some (.ref f6))) (i6 : PySem.W.isFn K (.ref f6) = true)
    (l6 : K.lookup f6 = some ⟨oc6, od6, .func (PySem.W.fnOf "__init__" "Web.__init__" (defArgs s_Web___init__) (defBody s_Web___init__) (defScope s_Web___init__) .none kV6 dc6 pm6 an6 cd6 ct6), sl6⟩) (c6 : PySem.W.codeIn K cd6 "Web.__init__" = true) (k6 : PySem.W.keepIn K (.ref f6) = true)
    (a7 : PySem.W.nsIn K mainGlobals "_law_deal" = some (some (.ref f7)))
    (l7 : K.lookup f7 = some ⟨oc7, od7, .func (PySem.W.fnOf "_law_deal" "_law_deal" (defArgs s__law_deal) (defBody s__law_deal) (defScope s__law_deal) .none kV7 dc7 pm7 an7 cd7 ct7), sl7⟩) (c7 : PySem.W.codeIn K cd7 "_law_deal" = true) (k7 : PySem.W.keepIn K (.ref f7) = true)
    (a8 : PySem.W.nsIn K mainGlobals "_law_any" = some (some (.ref f8)))
    (l8 : K.lookup f8 = some ⟨oc8, od8, .func (PySem.W.fnOf "_law_any" "_law_any" (defArgs s__law_any) (defBody s__law_any) (defScope s__law_any) .none kV8 dc8 pm8 an8 cd8 ct8), sl8⟩) (c8 : PySem.W.codeIn K cd8 "_law_any" = true) (k8 : PySem.W.keepIn K (.ref f8) = true)
    (a9 : PySem.W.nsIn K mainGlobals "_law_of" = some (some (.ref f9)))
    (l9 : K.lookup f9 = some ⟨oc9, od9, .func (PySem.W.fnOf "_law_of" "_law_of" (defArgs s__law_of) (defBody s__law_of) (defScope s__law_of) .none kV9 dc9 pm9 an9 cd9 ct9), sl9⟩) (c9 : PySem.W.codeIn K cd9 "_law_of" = true) (k9 : PySem.W.keepIn K (.ref f9) = true)
    (a10 : PySem.W.nsIn K mainGlobals "_law_is_kind" = some (some (.ref f10)))
    (l10 : K.lookup f10 = some ⟨oc10, od10, .func (PySem.W.fnOf "_law_is_kind" "_law_is_kind" (defArgs s__law_is_kind) (defBody s__law_is_kind) (defScope s__law_is_kind) .none kV10 dc10 pm10 an10 cd10 ct10), sl10⟩) (c10 : PySem.W.codeIn K cd10 "_law_is_kind" = true) (k10 : PySem.W.keepIn K (.ref f10) = true)
    (a11 : PySem.W.nsIn K mainGlobals "_law_same" = some (some (.ref f11)))
    (l11 : K.lookup f11 = some ⟨oc11, od11, .func (PySem.W.fnOf "_law_same" "_law_same" (defArgs s__law_same) (defBody s__law_same) (defScope s__law_same) .none kV11 dc11 pm11 an11 cd11 ct11), sl11⟩) (c11 : PySem.W.codeIn K cd11 "_law_same" = true) (k11 : PySem.W.keepIn K (.ref f11) = true)
    (a12 : PySem.W.nsIn K mainGlobals "_law_all" = some (some (.ref f12)))
    (l12 : K.lookup f12 = some ⟨oc12, od12, .func (PySem.W.fnOf "_law_all" "_law_all" (defArgs s__law_all) (defBody s__law_all) (defScope s__law_all) .none kV12 dc12 pm12 an12 cd12 ct12), sl12⟩) (c12 : PySem.W.codeIn K cd12 "_law_all" = true) (k12 : PySem.W.keepIn K (.ref f12) = true)
    (a13 : PySem.W.nsIn K mainGlobals "_law_names" = some (some (.ref f13)))
    (l13 : K.lookup f13 = some ⟨oc13, od13, .func (PySem.W.fnOf "_law_names" "_law_names" (defArgs s__law_names) (defBody s__law_names) (defScope s__law_names) .none kV13 dc13 pm13 an13 cd13 ct13), sl13⟩) (c13 : PySem.W.codeIn K cd13 "_law_names" = true) (k13 : PySem.W.keepIn K (.ref f13) = true)
    (a14 : PySem.W.nsIn K mainGlobals "_law_near_all" = some (some (.ref f14)))
    (l14 : K.lookup f14 = some ⟨oc14, od14, .func (PySem.W.fnOf "_law_near_all" "_law_near_all" (defArgs s__law_near_all) (defBody s__law_near_all) (defScope s__law_near_all) .none kV14 dc14 pm14 an14 cd14 ct14), sl14⟩) (c14 : PySem.W.codeIn K cd14 "_law_near_all" = true) (k14 : PySem.W.keepIn K (.ref f14) = true)
    (a15 : PySem.W.nsIn K mainGlobals "_law_all_facts" = some (some (.ref f15)))
    (l15 : K.lookup f15 = some ⟨oc15, od15, .func (PySem.W.fnOf "_law_all_facts" "_law_all_facts" (defArgs s__law_all_facts) (defBody s__law_all_facts) (defScope s__law_all_facts) .none kV15 dc15 pm15 an15 cd15 ct15), sl15⟩) (c15 : PySem.W.codeIn K cd15 "_law_all_facts" = true) (k15 : PySem.W.keepIn K (.ref f15) = true)
    (a16 : PySem.W.nsIn K mainGlobals "_law_drawn_web" = some (some (.ref f16)))
    (l16 : K.lookup f16 = some ⟨oc16, od16, .func (PySem.W.fnOf "_law_drawn_web" "_law_drawn_web" (defArgs s__law_drawn_web) (defBody s__law_drawn_web) (defScope s__law_drawn_web) .none kV16 dc16 pm16 an16 cd16 ct16), sl16⟩) (c16 : PySem.W.codeIn K cd16 "_law_drawn_web" = true) (k16 : PySem.W.keepIn K (.ref f16) = true)
    (a17 : PySem.W.nsIn K mainGlobals "_law_kind_of" = some (some (.ref f17)))
    (l17 : K.lookup f17 = some ⟨oc17, od17, .func (PySem.W.fnOf "_law_kind_of" "_law_kind_of" (defArgs s__law_kind_of) (defBody s__law_kind_of) (defScope s__law_kind_of) .none kV17 dc17 pm17 an17 cd17 ct17), sl17⟩) (c17 : PySem.W.codeIn K cd17 "_law_kind_of" = true) (k17 : PySem.W.keepIn K (.ref f17) = true)
    (a18 : PySem.W.nsIn K mainGlobals "_law_web_of" = some (some (.ref f18)))
    (l18 : K.lookup f18 = some ⟨oc18, od18, .func (PySem.W.fnOf "_law_web_of" "_law_web_of" (defArgs s__law_web_of) (defBody s__law_web_of) (defScope s__law_web_of) .none kV18 dc18 pm18 an18 cd18 ct18), sl18⟩) (c18 : PySem.W.codeIn K cd18 "_law_web_of" = true) (k18 : PySem.W.keepIn K (.ref f18) = true)
    (a19 : PySem.W.nsIn K mainGlobals "_law_near" = some (some (.ref f19)))
    (l19 : K.lookup f19 = some ⟨oc19, od19, .func (PySem.W.fnOf "_law_near" "_law_near" (defArgs s__law_near) (defBody s__law_near) (defScope s__law_near) .none kV19 dc19 pm19 an19 cd19 ct19), sl19⟩) (c19 : PySem.W.codeIn K cd19 "_law_near" = true) (k19 : PySem.W.keepIn K (.ref f19) = true)
    (a20 : PySem.W.nsIn K mainGlobals "_law_parts" = some (some (.ref f20)))
    (l20 : K.lookup f20 = some ⟨oc20, od20, .func (PySem.W.fnOf "_law_parts" "_law_parts" (defArgs s__law_parts) (defBody s__law_parts) (defScope s__law_parts) .none kV20 dc20 pm20 an20 cd20 ct20), sl20⟩) (c20 : PySem.W.codeIn K cd20 "_law_parts" = true) (k20 : PySem.W.keepIn K (.ref f20) = true)
    (a21 : PySem.W.nsIn K mainGlobals "_law_kind" = some (some (.ref f21)))
    (l21 : K.lookup f21 = some ⟨oc21, od21, .func (PySem.W.fnOf "_law_kind" "_law_kind" (defArgs s__law_kind) (defBody s__law_kind) (defScope s__law_kind) .none kV21 dc21 pm21 an21 cd21 ct21), sl21⟩) (c21 : PySem.W.codeIn K cd21 "_law_kind" = true) (k21 : PySem.W.keepIn K (.ref f21) = true)
    (a22 : PySem.W.nsIn K mainGlobals "_law_words" = some (some (.ref f22)))
    (l22 : K.lookup f22 = some ⟨oc22, od22, .func (PySem.W.fnOf "_law_words" "_law_words" (defArgs s__law_words) (defBody s__law_words) (defScope s__law_words) .none kV22 dc22 pm22 an22 cd22 ct22), sl22⟩) (c22 : PySem.W.codeIn K cd22 "_law_words" = true) (k22 : PySem.W.keepIn K (.ref f22) = true)
    (a23 : PySem.W.nsIn K mainGlobals "_law_way_down" = some (some (.ref f23)))
    (l23 : K.lookup f23 = some ⟨oc23, od23, .func (PySem.W.fnOf "_law_way_down" "_law_way_down" (defArgs s__law_way_down) (defBody s__law_way_down) (defScope s__law_way_down) .none kV23 dc23 pm23 an23 cd23 ct23), sl23⟩) (c23 : PySem.W.codeIn K cd23 "_law_way_down" = true) (k23 : PySem.W.keepIn K (.ref f23) = true)
    (a24 : PySem.W.nsIn K mainGlobals "_law_is_wood" = some (some (.ref f24)))
    (l24 : K.lookup f24 = some ⟨oc24, od24, .func (PySem.W.fnOf "_law_is_wood" "_law_is_wood" (defArgs s__law_is_wood) (defBody s__law_is_wood) (defScope s__law_is_wood) .none kV24 dc24 pm24 an24 cd24 ct24), sl24⟩) (c24 : PySem.W.codeIn K cd24 "_law_is_wood" = true) (k24 : PySem.W.keepIn K (.ref f24) = true)
    (a25 : PySem.W.nsIn K mainGlobals "_law_wood" = some (some (.ref f25)))
    (l25 : K.lookup f25 = some ⟨oc25, od25, .func (PySem.W.fnOf "_law_wood" "_law_wood" (defArgs s__law_wood) (defBody s__law_wood) (defScope s__law_wood) .none kV25 dc25 pm25 an25 cd25 ct25), sl25⟩) (c25 : PySem.W.codeIn K cd25 "_law_wood" = true) (k25 : PySem.W.keepIn K (.ref f25) = true)
    (a26 : PySem.W.nsIn K mainGlobals "law" = some (some (.ref f26)))
    (l26 : K.lookup f26 = some ⟨oc26, od26, .func (PySem.W.fnOf "law" "law" (defArgs s_law) (defBody s_law) (defScope s_law) .none kV26 dc26 pm26 an26 cd26 ct26), sl26⟩) (c26 : PySem.W.codeIn K cd26 "law" = true) (k26 : PySem.W.keepIn K (.ref f26) = true)
    (aC0 : PySem.W.nsIn K mainGlobals "Kind" = some (some (.ref C0))) (pg0 : PySem.W.plainGet K C0 Str.empty = true) (hd0 : PySem.W.hasDictIn K C0 = true) (po0 : PySem.W.plainOver K C0 = true) (sa0 : PySem.W.findIn K (.ref C0) "__setattr__" = some (some (.builtin "object.__setattr__"))) (mk0 : PySem.W.makesIn K C0 = true) (kc0 : PySem.W.keepIn K (.ref C0) = true)
    (n0_0 : PySem.W.findIn K (.ref C0) "marks" = some none)
    (n0_1 : PySem.W.findIn K (.ref C0) "ties" = some none)
    (n0_2 : PySem.W.findIn K (.ref C0) "arrows" = some none)
    (aC1 : PySem.W.nsIn K mainGlobals "Web" = some (some (.ref C1))) (pg1 : PySem.W.plainGet K C1 Str.empty = true) (hd1 : PySem.W.hasDictIn K C1 = true) (po1 : PySem.W.plainOver K C1 = true) (sa1 : PySem.W.findIn K (.ref C1) "__setattr__" = some (some (.builtin "object.__setattr__"))) (mk1 : PySem.W.makesIn K C1 = true) (kc1 : PySem.W.keepIn K (.ref C1) = true)
    (n1_0 : PySem.W.findIn K (.ref C1) "kind" = some none)
    (n1_1 : PySem.W.findIn K (.ref C1) "size" = some none)
    (n1_2 : PySem.W.findIn K (.ref C1) "facts" = some none)
    (z0 : PySem.W.nsIn K mainGlobals "isinstance" = some none)
    (z1 : PySem.W.nsIn K mainGlobals "int" = some none)
    (z2 : PySem.W.nsIn K mainGlobals "bool" = some none)
    (z3 : PySem.W.nsIn K mainGlobals "str" = some none)
    (z4 : PySem.W.nsIn K mainGlobals "tuple" = some none)
    (z5 : PySem.W.nsIn K mainGlobals "list" = some none)
    (z6 : PySem.W.nsIn K mainGlobals "len" = some none)
    (z7 : PySem.W.nsIn K mainGlobals "range" = some none)
    (z8 : PySem.W.nsIn K mainGlobals "max" = some none)
    (z9 : PySem.W.nsIn K mainGlobals "sorted" = some none)
    (z10 : PySem.W.nsIn K mainGlobals "set" = some none)
    (z11 : PySem.W.nsIn K mainGlobals "abs" = some none)
    (z12 : PySem.W.nsIn K mainGlobals "zip" = some none)
    (zg : PySem.W.nsIn K mainGlobals "GROUND" = some (some (.int (-1) tg)))
    : ∃ fd : FuncData, (∀ (s : Shared) (v : Value), BindsTo s fd ⟨[v], []⟩ [("script", v)]) ∧ ∀ base : Heap, K.In base → base.Ns mainGlobals mg → FnOk l.prog w K mg base CX0 5 fa fd ["script"] (spLaw K) := by
  have e := hfa.symm.trans (PySem.W.mg_of X G a26)
  cases e
  have T : Txt mg := { n_isinstance := PySem.W.mg_none_of X G z0, n_int := PySem.W.mg_none_of X G z1, n_bool := PySem.W.mg_none_of X G z2, n_str := PySem.W.mg_none_of X G z3, n_tuple := PySem.W.mg_none_of X G z4, n_list := PySem.W.mg_none_of X G z5, n_len := PySem.W.mg_none_of X G z6, n_range := PySem.W.mg_none_of X G z7, n_max := PySem.W.mg_none_of X G z8, n_sorted := PySem.W.mg_none_of X G z9, n_set := PySem.W.mg_none_of X G z10, n_abs := PySem.W.mg_none_of X G z11, n_zip := PySem.W.mg_none_of X G z12, g_GROUND := ⟨_, PySem.W.mg_of X G zg⟩ }
  have TC0 : KindC K C0 := ⟨⟨pg0, hd0, po0, sa0⟩, n0_0, n0_1, n0_2⟩
  have TC1 : WebC K C1 := ⟨⟨pg1, hd1, po1, sa1⟩, n1_0, n1_1, n1_2⟩
  have F0 := fun_mk (st := s_is_integer) l0 c0 k0
  have b0 := F0.binds (ps := ["value"]) fun _ _ _ _ _ _ us hl => match us, hl with | [_], _ => rfl
  have F1 := fun_mk (st := s_is_tuple) l1 c1 k1
  have b1 := F1.binds (ps := ["value", "many"]) fun _ _ _ _ _ _ us hl => match us, hl with | [_, _], _ => rfl
  have F2 := fun_mk (st := s_way_down) l2 c2 k2
  have b2 := F2.binds (ps := ["wood", "point"]) fun _ _ _ _ _ _ us hl => match us, hl with | [_, _], _ => rfl
  have F3 := fun_mk (st := s_are_rows_down) l3 c3 k3
  have b3 := F3.binds (ps := ["web", "ways"]) fun _ _ _ _ _ _ us hl => match us, hl with | [_, _], _ => rfl
  have F4 := fun_mk (st := s_read_wood) l4 c4 k4
  have b4 := F4.binds (ps := ["web", "depth", "value"]) fun _ _ _ _ _ _ us hl => match us, hl with | [_, _, _], _ => rfl
  have F5 := fun_mk (st := s_Kind___init__) l5 c5 k5
  have b5 := F5.binds (ps := ["self", "marks", "ties", "arrows"]) fun _ _ _ _ _ _ us hl => match us, hl with | [_, _, _, _], _ => rfl
  have F6 := fun_mk (st := s_Web___init__) l6 c6 k6
  have b6 := F6.binds (ps := ["self", "kind", "size", "facts"]) fun _ _ _ _ _ _ us hl => match us, hl with | [_, _, _, _], _ => rfl
  have F7 := fun_mk (st := s__law_deal) l7 c7 k7
  have b7 := F7.binds (ps := ["script", "salt"]) fun _ _ _ _ _ _ us hl => match us, hl with | [_, _], _ => rfl
  have F8 := fun_mk (st := s__law_any) l8 c8 k8
  have b8 := F8.binds (ps := ["deal", "bound"]) fun _ _ _ _ _ _ us hl => match us, hl with | [_, _], _ => rfl
  have F9 := fun_mk (st := s__law_of) l9 c9 k9
  have b9 := F9.binds (ps := ["deal", "some"]) fun _ _ _ _ _ _ us hl => match us, hl with | [_, _], _ => rfl
  have F10 := fun_mk (st := s__law_is_kind) l10 c10 k10
  have b10 := F10.binds (ps := ["told", "due"]) fun _ _ _ _ _ _ us hl => match us, hl with | [_, _], _ => rfl
  have F11 := fun_mk (st := s__law_same) l11 c11 k11
  have b11 := F11.binds (ps := ["told", "due"]) fun _ _ _ _ _ _ us hl => match us, hl with | [_, _], _ => rfl
  have F12 := fun_mk (st := s__law_all) l12 c12 k12
  have b12 := F12.binds (ps := ["pairs"]) fun _ _ _ _ _ _ us hl => match us, hl with | [_], _ => rfl
  have F13 := fun_mk (st := s__law_names) l13 c13 k13
  have b13 := F13.binds (ps := ["deal", "many"]) fun _ _ _ _ _ _ us hl => match us, hl with | [_, _], _ => rfl
  have F14 := fun_mk (st := s__law_near_all) l14 c14 k14
  have b14 := F14.binds (ps := ["near", "points"]) fun _ _ _ _ _ _ us hl => match us, hl with | [_, _], _ => rfl
  have F15 := fun_mk (st := s__law_all_facts) l15 c15 k15
  have b15 := F15.binds (ps := ["kind", "size"]) fun _ _ _ _ _ _ us hl => match us, hl with | [_, _], _ => rfl
  have F16 := fun_mk (st := s__law_drawn_web) l16 c16 k16
  have b16 := F16.binds (ps := ["deal", "kind", "size"]) fun _ _ _ _ _ _ us hl => match us, hl with | [_, _, _], _ => rfl
  have F17 := fun_mk (st := s__law_kind_of) l17 c17 k17
  have b17 := F17.binds (ps := ["kind"]) fun _ _ _ _ _ _ us hl => match us, hl with | [_], _ => rfl
  have F18 := fun_mk (st := s__law_web_of) l18 c18 k18
  have b18 := F18.binds (ps := ["web"]) fun _ _ _ _ _ _ us hl => match us, hl with | [_], _ => rfl
  have F19 := fun_mk (st := s__law_near) l19 c19 k19
  have b19 := F19.binds (ps := ["web"]) fun _ _ _ _ _ _ us hl => match us, hl with | [_], _ => rfl
  have F20 := fun_mk (st := s__law_parts) l20 c20 k20
  have b20 := F20.binds (ps := ["web", "points"]) fun _ _ _ _ _ _ us hl => match us, hl with | [_, _], _ => rfl
  have F21 := fun_mk (st := s__law_kind) l21 c21 k21
  have b21 := F21.binds (ps := ["deal", "names"]) fun _ _ _ _ _ _ us hl => match us, hl with | [_, _], _ => rfl
  have F22 := fun_mk (st := s__law_words) l22 c22 k22
  have b22 := F22.binds (ps := ["deal"]) fun _ _ _ _ _ _ us hl => match us, hl with | [_], _ => rfl
  have F23 := fun_mk (st := s__law_way_down) l23 c23 k23
  have b23 := F23.binds (ps := ["row", "point"]) fun _ _ _ _ _ _ us hl => match us, hl with | [_, _], _ => rfl
  have F24 := fun_mk (st := s__law_is_wood) l24 c24 k24
  have b24 := F24.binds (ps := ["web", "depth", "row"]) fun _ _ _ _ _ _ us hl => match us, hl with | [_, _, _], _ => rfl
  have F25 := fun_mk (st := s__law_wood) l25 c25 k25
  have b25 := F25.binds (ps := ["deal", "web"]) fun _ _ _ _ _ _ us hl => match us, hl with | [_, _], _ => rfl
  have F26 := fun_mk (st := s_law) l26 c26 k26
  have b26 := F26.binds (ps := ["script"]) fun _ _ _ _ _ _ us hl => match us, hl with | [_], _ => rfl
  refine ⟨PySem.W.fnOf "law" "law" (defArgs s_law) (defBody s_law) (defScope s_law) .none kV26 dc26 pm26 an26 cd26 ct26, fun s v => .of_eq rfl, fun base hb hn => ?_⟩
  have G_int : Callee l.prog w K mg base 1 "is_integer" ["value"] sp_is_integer := ⟨f0, _, ok_is_integer F0 T, PySem.W.mg_of X G a0, k0, b0⟩
  have G_tup : Callee l.prog w K mg base 1 "is_tuple" ["value", "many"] sp_is_tuple := ⟨f1, _, ok_is_tuple F1 T, PySem.W.mg_of X G a1, k1, b1⟩
  have G_way : Callee l.prog w K mg base 1 "way_down" ["wood", "point"] sp_way_down := ⟨f2, _, ok_way_down F2 T, PySem.W.mg_of X G a2, k2, b2⟩
  have G_rows : Callee l.prog w K mg base 1 "are_rows_down" ["web", "ways"] (sp_are_rows_down C1) := ⟨f3, _, ok_are_rows_down F3 T TC1, PySem.W.mg_of X G a3, k3, b3⟩
  let G_read : Callee l.prog w K mg base 2 "read_wood" ["web", "depth", "value"] (sp_read_wood C1) := ⟨f4, _, ok_read_wood F4 T TC1 G_int G_tup G_way G_rows, PySem.W.mg_of X G a4, k4, b4⟩
  have M_kind : Maker l.prog w K mg base 1 "Kind" C0 ["self", "marks", "ties", "arrows"] ["marks", "ties", "arrows"] := ⟨f5, _, ⟨mk0, a5, i5, kc0⟩, ok_Kind_init F5 TC0, PySem.W.mg_of X G aC0, b5⟩
  have M_web : Maker l.prog w K mg base 1 "Web" C1 ["self", "kind", "size", "facts"] ["kind", "size", "facts"] := ⟨f6, _, ⟨mk1, a6, i6, kc1⟩, ok_Web_init F6 TC1, PySem.W.mg_of X G aC1, b6⟩
  have GD : DealC l.prog w K mg base := ⟨f7, _, ok__law_dealH F7 T, PySem.W.mg_of X G a7, k7, b7⟩
  have GA : Callee l.prog w K mg base 1 "_law_any" ["deal", "bound"] sp_any := ⟨f8, _, ok__law_any F8 T, PySem.W.mg_of X G a8, k8, b8⟩
  have G_of : Callee l.prog w K mg base 2 "_law_of" ["deal", "some"] sp_of := ⟨f9, _, ok__law_of F9 T GA, PySem.W.mg_of X G a9, k9, b9⟩
  have G_isk : Callee l.prog w K mg base 1 "_law_is_kind" ["told", "due"] sp_same1 := ⟨f10, _, ok__law_is_kind F10 T, PySem.W.mg_of X G a10, k10, b10⟩
  have G_same : Callee l.prog w K mg base 2 "_law_same" ["told", "due"] sp_same1 := ⟨f11, _, ok__law_same F11 T G_isk, PySem.W.mg_of X G a11, k11, b11⟩
  have GL : Callee l.prog w K mg base 3 "_law_all" ["pairs"] sp_all := ⟨f12, _, ok__law_all F12 T G_same, PySem.W.mg_of X G a12, k12, b12⟩
  have G_names : Callee l.prog w K mg base 2 "_law_names" ["deal", "many"] sp_names := ⟨f13, _, ok__law_names F13 T GA, PySem.W.mg_of X G a13, k13, b13⟩
  have G_nall : Callee l.prog w K mg base 1 "_law_near_all" ["near", "points"] sp_near_all := ⟨f14, _, ok__law_near_all F14 T, PySem.W.mg_of X G a14, k14, b14⟩
  have G_facts : Callee l.prog w K mg base 1 "_law_all_facts" ["kind", "size"] sp_all_facts := ⟨f15, _, ok__law_all_facts F15 T, PySem.W.mg_of X G a15, k15, b15⟩
  have GB : Callee l.prog w K mg base 2 "_law_drawn_web" ["deal", "kind", "size"] sp_drawn_web := ⟨f16, _, ok__law_drawn_web F16 T GA G_facts, PySem.W.mg_of X G a16, k16, b16⟩
  have G_ko : Callee l.prog w K mg base 3 "_law_kind_of" ["kind"] (sp_kind_of C0) := ⟨f17, _, ok__law_kind_of F17 M_kind, PySem.W.mg_of X G a17, k17, b17⟩
  have GO : Callee l.prog w K mg base 4 "_law_web_of" ["web"] (sp_web_of C0 C1) := ⟨f18, _, ok__law_web_of F18 M_web G_ko, PySem.W.mg_of X G a18, k18, b18⟩
  have G_near : Callee l.prog w K mg base 1 "_law_near" ["web"] sp_near := ⟨f19, _, ok__law_near F19 T, PySem.W.mg_of X G a19, k19, b19⟩
  have G_parts : Callee l.prog w K mg base 2 "_law_parts" ["web", "points"] sp_parts := ⟨f20, _, ok__law_parts F20 T G_near G_nall, PySem.W.mg_of X G a20, k20, b20⟩
  have GK : Callee l.prog w K mg base 3 "_law_kind" ["deal", "names"] sp_kind := ⟨f21, _, ok__law_kind F21 T G_of, PySem.W.mg_of X G a21, k21, b21⟩
  have GW : Callee l.prog w K mg base 3 "_law_words" ["deal"] sp_words := ⟨f22, _, ok__law_words F22 T G_names, PySem.W.mg_of X G a22, k22, b22⟩
  have GY : Callee l.prog w K mg base 1 "_law_way_down" ["row", "point"] sp_way_down := ⟨f23, _, ok__law_way_down F23 T, PySem.W.mg_of X G a23, k23, b23⟩
  have GI : Callee l.prog w K mg base 2 "_law_is_wood" ["web", "depth", "row"] sp_is_wood := ⟨f24, _, ok__law_is_wood F24 T GY, PySem.W.mg_of X G a24, k24, b24⟩
  have GT : Callee l.prog w K mg base 3 "_law_wood" ["deal", "web"] sp_wood := ⟨f25, _, ok__law_wood F25 T G_of G_parts, PySem.W.mg_of X G a25, k25, b25⟩
  exact ok_law F26 T GD GA GL GK GW GB GO GT GY GI G_read (fun s ws hl => match ws, hl with | [_, _, _], _ => .of_eq rfl)
theorem walk {l : PySem.W.OpenLaw} {q : Program} {loose : List Str} {XP : (Str → Option Value) → Heap → Prop} {YP : World → Heap → Prop} {d : DefRec} {K : Params → PySem.W.Frag} (hn : l.most = some 63) (hdf : d.params.defaults = [])
    (hY : ∀ (w : World) (h : Heap), YP w h → (K w.params).In h)
    (F : ∀ (w : World) (mg : Str → Option Value) (fa : Addr) (h : Heap), (K w.params).In h → h.Ns mainGlobals mg → mg d.name = some (.ref fa) →
      ∃ fd : FuncData, (∀ (s : Shared) (u : Value), BindsTo s fd ⟨[u], []⟩ [("script", u)]) ∧ ∀ base : Heap, (K w.params).In base → base.Ns mainGlobals mg → FnOk l.prog w (K w.params) mg base CX0 5 fa fd ["script"] (spLaw (K w.params))) :
    PySem.W.WalkO q loose XP YP l.row.toRowW d [] (fun f vs => PySem.call f vs) :=
  L2.walk_of (n := 63) (k := 5) (x := "script") (CX := fun _ => CX0) (sp := fun w => spLaw (K w.params)) hn (by decide) hdf ⟨rfl, by decide, by decide⟩ hY F (fun _ _ a ns hl _ hS => ⟨a, ns, rfl, hS, fun _ => rfl⟩) fun _ _ _ _ _ z => z
end K62
open PySem PySem.W PyProof.Rows
set_option maxRecDepth 100000 in
set_option maxHeartbeats 0 in
theorem PySem.Challenge.cw_namesenough_k62_woods_are_judged_holds : PySem.Challenge.rw_namesenough_k62_woods_are_judged.Holds := by
  w_on; o_law; k_head; (case hw => w_witness2)
  k_fill
  refine K62.walk (l := PySem.Challenge.rw_namesenough_k62_woods_are_judged) rfl rfl (fun w h Y => PySem.W.kIn_of Y) ?F
  case F =>
    intro w mg fa h KX G hmg
    refine' K62.all_mk KX G hmg ?a0 ?l0 ?c0 ?k0 ?a1 ?l1 ?c1 ?k1 ?a2 ?l2 ?c2 ?k2 ?a3 ?l3 ?c3 ?k3 ?a4 ?l4 ?c4 ?k4 ?a5 ?i5 ?l5 ?c5 ?k5 ?a6 ?i6 ?l6 ?c6 ?k6 ?a7 ?l7 ?c7 ?k7 ?a8 ?l8 ?c8 ?k8 ?a9 ?l9 ?c9 ?k9 ?a10 ?l10 ?c10 ?k10 ?a11 ?l11 ?c11 ?k11 ?a12 ?l12 ?c12 ?k12 ?a13 ?l13 ?c13 ?k13 ?a14 ?l14 ?c14 ?k14 ?a15 ?l15 ?c15 ?k15 ?a16 ?l16 ?c16 ?k16 ?a17 ?l17 ?c17 ?k17 ?a18 ?l18 ?c18 ?k18 ?a19 ?l19 ?c19 ?k19 ?a20 ?l20 ?c20 ?k20 ?a21 ?l21 ?c21 ?k21 ?a22 ?l22 ?c22 ?k22 ?a23 ?l23 ?c23 ?k23 ?a24 ?l24 ?c24 ?k24 ?a25 ?l25 ?c25 ?k25 ?a26 ?l26 ?c26 ?k26 ?aC0 ?pg0 ?hd0 ?po0 ?sa0 ?mk0 ?kc0 ?n0_0 ?n0_1 ?n0_2 ?aC1 ?pg1 ?hd1 ?po1 ?sa1 ?mk1 ?kc1 ?n1_0 ?n1_1 ?n1_2 ?z0 ?z1 ?z2 ?z3 ?z4 ?z5 ?z6 ?z7 ?z8 ?z9 ?z10 ?z11 ?z12 ?zg
    (case aC0 => k_is); (case aC1 => k_is); (case a0 => k_is); (case l0 => k_is); (case c0 => k_is); (case k0 => k_is); (case a1 => k_is); (case l1 => k_is)
    (case c1 => k_is); (case k1 => k_is); (case a2 => k_is); (case l2 => k_is); (case c2 => k_is); (case k2 => k_is); (case a3 => k_is); (case l3 => k_is)
    (case c3 => k_is); (case k3 => k_is); (case a4 => k_is); (case l4 => k_is); (case c4 => k_is); (case k4 => k_is); (case a5 => k_is); (case i5 => k_is)
    (case l5 => k_is); (case c5 => k_is); (case k5 => k_is); (case a6 => k_is); (case i6 => k_is); (case l6 => k_is); (case c6 => k_is); (case k6 => k_is)
    (case a7 => k_is); (case l7 => k_is); (case c7 => k_is); (case k7 => k_is); (case a8 => k_is); (case l8 => k_is); (case c8 => k_is); (case k8 => k_is)
    (case a9 => k_is); (case l9 => k_is); (case c9 => k_is); (case k9 => k_is); (case a10 => k_is); (case l10 => k_is); (case c10 => k_is); (case k10 => k_is)
    (case a11 => k_is); (case l11 => k_is); (case c11 => k_is); (case k11 => k_is); (case a12 => k_is); (case l12 => k_is); (case c12 => k_is); (case k12 => k_is)
    (case a13 => k_is); (case l13 => k_is); (case c13 => k_is); (case k13 => k_is); (case a14 => k_is); (case l14 => k_is); (case c14 => k_is); (case k14 => k_is)
    (case a15 => k_is); (case l15 => k_is); (case c15 => k_is); (case k15 => k_is); (case a16 => k_is); (case l16 => k_is); (case c16 => k_is); (case k16 => k_is)
    (case a17 => k_is); (case l17 => k_is); (case c17 => k_is); (case k17 => k_is); (case a18 => k_is); (case l18 => k_is); (case c18 => k_is); (case k18 => k_is)
    (case a19 => k_is); (case l19 => k_is); (case c19 => k_is); (case k19 => k_is); (case a20 => k_is); (case l20 => k_is); (case c20 => k_is); (case k20 => k_is)
    (case a21 => k_is); (case l21 => k_is); (case c21 => k_is); (case k21 => k_is); (case a22 => k_is); (case l22 => k_is); (case c22 => k_is); (case k22 => k_is)
    (case a23 => k_is); (case l23 => k_is); (case c23 => k_is); (case k23 => k_is); (case a24 => k_is); (case l24 => k_is); (case c24 => k_is); (case k24 => k_is)
    (case a25 => k_is); (case l25 => k_is); (case c25 => k_is); (case k25 => k_is); (case a26 => k_is); (case l26 => k_is); (case c26 => k_is); (case k26 => k_is)
    (case pg0 => k_is); (case hd0 => k_is); (case po0 => k_is); (case sa0 => k_is); (case mk0 => k_is); (case kc0 => k_is); (case n0_0 => k_is); (case n0_1 => k_is)
    (case n0_2 => k_is); (case pg1 => k_is); (case hd1 => k_is); (case po1 => k_is); (case sa1 => k_is); (case mk1 => k_is); (case kc1 => k_is); (case n1_0 => k_is)
    (case n1_1 => k_is); (case n1_2 => k_is); (case z0 => k_is); (case z1 => k_is); (case z2 => k_is); (case z3 => k_is); (case z4 => k_is); (case z5 => k_is)
    (case z6 => k_is); (case z7 => k_is); (case z8 => k_is); (case z9 => k_is); (case z10 => k_is); (case z11 => k_is); (case z12 => k_is); (case zg => k_is)
