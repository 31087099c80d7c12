import PyProof.Rows.All
import Wide.All
import OpenK.AllK
import Wide.FinOn
import HandS.ForMost
import HandS.Defaults
import HandS.IsInst
import HandS.Text
import HandS.Zip
import HandS.FStr
import HandS.Style
import HandS.Deep
import HandS.TupAny
import HandS.ClsMeth
import HandS.HeadEnd
import HandS.Head0
import HandS.Head1
import HandS.Head2
import HandS.HeadHook1
import HandS.HeadHook2
import PySem.Challenge.RW_shutlines_k72_names_and_kinds
set_option Elab.async false
set_option linter.all false
set_option maxRecDepth 100000
set_option maxHeartbeats 1000000
/-! The data layer: readings told of data (no heap): values by what they hold. -/
namespace PL
open PySem PySem.Spec L2

/-- data: values with what they hold -/
inductive D where
  | non | bl (b : Bool) | int (i : Int) | str (x : Str)
  | lst (xs : List D) | tup (xs : List D)
  | dct (ks : List Key) (vs : List D)
  | obj (C : Addr) (fs : List Str) (vs : List D)
  | con (v : V)

/-- a tuple that stands: tracked, or of the written part -/
def TqT (K : PySem.W.Frag) (H : Hp) (a : Addr) (xs : List V) : Prop :=
  H a = some (.tup xs) ∨ ∃ (o : Obj) (its : Array Value) (n : Nat), K.lookup a = some o ∧ o.cls = .type "tuple" ∧ o.data = .seq its n ∧ its.size ≤ sizeLine ∧ Vals xs its.toList
theorem TqT.sqt {K : PySem.W.Frag} {H : Hp} {a : Addr} {xs : List V} (h : TqT K H a xs) : SqT K H a xs := h.elim (fun h => .inl (.inl h)) .inr
mutual
def Rp (H : Hp) (K : PySem.W.Frag) : D → V → Prop
  | .non, v => v = .non
  | .bl b, v => v = .bl b
  | .int i, v => v = .int i
  | .str x, v => v = .str x
  | .lst xs, v => ∃ a vs, v = .ref a ∧ H a = some (.lst vs) ∧ RpL H K xs vs
  | .tup xs, v => ∃ a vs, v = .ref a ∧ TqT K H a vs ∧ RpL H K xs vs
  | .dct ks ds, v => ∃ a vs, v = .ref a ∧ Rd H a (.dK (ks.zip vs)) ∧ ks.length = vs.length ∧ RpL H K ds vs
  | .obj C fs ds, v => ∃ a dx vs, v = .ref a ∧ H a = some (.ins C dx (fs.zip vs)) ∧ fs.length = vs.length ∧ RpL H K ds vs
  | .con u, v => v = u
def RpL (H : Hp) (K : PySem.W.Frag) : List D → List V → Prop
  | [], vs => vs = []
  | d :: ds, vs => ∃ v vs', vs = v :: vs' ∧ Rp H K d v ∧ RpL H K ds vs'
end

def Ex (H H' : Hp) : Prop := ∀ a o, H a = some o → H' a = some o
theorem Ex.rfl' {H : Hp} : Ex H H := fun _ _ h => h
theorem Ex.trans {H H1 H2 : Hp} (a : Ex H H1) (b : Ex H1 H2) : Ex H H2 := fun c o h => b c o (a c o h)
theorem Ex.rd {H H' : Hp} (e : Ex H H') {a : Addr} {u : HO} (h : Rd H a u) : Rd H' a u := by
  rcases h with h | ⟨o, h⟩
  · exact .inl (e _ _ h)
  · exact .inr ⟨o, e _ _ h⟩
theorem Ex.sqt {K : PySem.W.Frag} {H H' : Hp} (e : Ex H H') {a : Addr} {xs : List V} (h : SqT K H a xs) : SqT K H' a xs := by
  rcases h with h | h
  · exact .inl (e.rd h)
  · exact .inr h
theorem Ex.sql {K : PySem.W.Frag} {H H' : Hp} (e : Ex H H') {a : Addr} {xs : List V} (h : SqL K H a xs) : SqL K H' a xs := by
  rcases h with h | h
  · exact .inl (e.rd h)
  · exact .inr h
mutual
theorem Rp.ex {K : PySem.W.Frag} {H H' : Hp} (e : Ex H H') : ∀ {d : D} {v : V}, Rp H K d v → Rp H' K d v
  | .non, _, h => h
  | .bl _, _, h => h
  | .int _, _, h => h
  | .str _, _, h => h
  | .lst xs, _, h => by
    obtain ⟨a, vs, h1, h2, h3⟩ := h
    exact ⟨a, vs, h1, e _ _ h2, RpL.ex e h3⟩
  | .tup xs, _, h => by
    obtain ⟨a, vs, h1, h2, h3⟩ := h
    exact ⟨a, vs, h1, h2.elim (fun z => .inl (e _ _ z)) .inr, RpL.ex e h3⟩
  | .dct ks ds, _, h => by
    obtain ⟨a, vs, h1, h2, h3, h4⟩ := h
    exact ⟨a, vs, h1, e.rd h2, h3, RpL.ex e h4⟩
  | .obj C fs ds, _, h => by
    obtain ⟨a, dx, vs, h1, h2, h3, h4⟩ := h
    exact ⟨a, dx, vs, h1, e _ _ h2, h3, RpL.ex e h4⟩
  | .con _, _, h => h
theorem RpL.ex {K : PySem.W.Frag} {H H' : Hp} (e : Ex H H') : ∀ {ds : List D} {vs : List V}, RpL H K ds vs → RpL H' K ds vs
  | [], _, h => h
  | d :: ds, _, h => by
    obtain ⟨v, vs', h1, h2, h3⟩ := h
    exact ⟨v, vs', h1, Rp.ex e h2, RpL.ex e h3⟩
end
theorem RpL.len {K : PySem.W.Frag} {H : Hp} : ∀ {ds : List D} {vs : List V}, RpL H K ds vs → ds.length = vs.length
  | [], _, h => by rw [show _ = _ from h]; rfl
  | d :: ds, _, h => by
    obtain ⟨v, vs', h1, h2, h3⟩ := h
    rw [h1, List.length_cons, List.length_cons, RpL.len h3]
theorem RpL.app {K : PySem.W.Frag} {H : Hp} : ∀ {ds es : List D} {vs ws : List V}, RpL H K ds vs → RpL H K es ws → RpL H K (ds ++ es) (vs ++ ws)
  | [], _, _, _, h, k => by rw [show _ = _ from h]; exact k
  | d :: ds, _, _, _, h, k => by
    obtain ⟨v, vs', h1, h2, h3⟩ := h
    subst h1
    exact ⟨v, vs' ++ _, rfl, h2, RpL.app h3 k⟩
theorem RpL.get {K : PySem.W.Frag} {H : Hp} : ∀ {ds : List D} {vs : List V} {i : Nat} {d : D}, RpL H K ds vs → ds[i]? = some d → ∃ v, vs[i]? = some v ∧ Rp H K d v
  | [], _, _, _, _, e => by simp at e
  | d :: ds, _, 0, x, h, e => by
    obtain ⟨v, vs', h1, h2, h3⟩ := h
    subst h1
    simp at e
    subst e
    exact ⟨v, rfl, h2⟩
  | d :: ds, _, i + 1, x, h, e => by
    obtain ⟨v, vs', h1, h2, h3⟩ := h
    subst h1
    obtain ⟨w, e1, e2⟩ := RpL.get (i := i) h3 (by simpa using e)
    exact ⟨w, by simpa using e1, e2⟩
theorem RpL.getV {K : PySem.W.Frag} {H : Hp} : ∀ {ds : List D} {vs : List V} {i : Nat} {v : V}, RpL H K ds vs → vs[i]? = some v → ∃ d, ds[i]? = some d ∧ Rp H K d v
  | [], _, _, _, h, e => by rw [show _ = _ from h] at e; simp at e
  | d :: ds, _, 0, x, h, e => by
    obtain ⟨v, vs', h1, h2, h3⟩ := h
    subst h1
    simp at e
    subst e
    exact ⟨d, rfl, h2⟩
  | d :: ds, _, i + 1, x, h, e => by
    obtain ⟨v, vs', h1, h2, h3⟩ := h
    subst h1
    obtain ⟨w, e1, e2⟩ := RpL.getV (i := i) h3 (by simpa using e)
    exact ⟨w, by simpa using e1, e2⟩
theorem RpL.take {K : PySem.W.Frag} {H : Hp} : ∀ {ds : List D} {vs : List V} (n : Nat), RpL H K ds vs → RpL H K (ds.take n) (vs.take n)
  | _, _, 0, _ => rfl
  | [], _, _ + 1, h => by rw [show _ = _ from h]; rfl
  | d :: ds, _, n + 1, h => by
    obtain ⟨v, vs', h1, h2, h3⟩ := h
    subst h1
    exact ⟨v, vs'.take n, rfl, h2, RpL.take n h3⟩
theorem RpL.drop {K : PySem.W.Frag} {H : Hp} : ∀ {ds : List D} {vs : List V} (n : Nat), RpL H K ds vs → RpL H K (ds.drop n) (vs.drop n)
  | _, _, 0, h => h
  | [], _, _ + 1, h => by rw [show _ = _ from h]; rfl
  | d :: ds, _, n + 1, h => by
    obtain ⟨v, vs', h1, h2, h3⟩ := h
    subst h1
    exact RpL.drop n h3
theorem RpL.cut {K : PySem.W.Frag} {H : Hp} {ds : List D} {vs : List V} (h : RpL H K ds vs) (lo hi : Option Int) :
    RpL H K ((ds.drop (HT.sIx ds.length 0 lo)).take (HT.sIx ds.length ds.length hi - HT.sIx ds.length 0 lo)) (cutV vs lo hi) := by
  unfold cutV
  rw [← h.len]
  exact (h.drop _).take _

/-! ### masks, the feed -/
def hid (H : Hp) (M : List Addr) : Hp := fun a => if a ∈ M then none else H a
theorem hid_in {H : Hp} {M : List Addr} {a : Addr} (h : a ∈ M) : hid H M a = none := if_pos h
theorem hid_out {H : Hp} {M : List Addr} {a : Addr} (h : a ∉ M) : hid H M a = H a := if_neg h
theorem hid_some {H : Hp} {M : List Addr} {a : Addr} {o : HO} (h : hid H M a = some o) : H a = some o ∧ a ∉ M := by
  unfold hid at h
  by_cases q : a ∈ M
  · rw [if_pos q] at h
    cases h
  · rw [if_neg q] at h
    exact ⟨h, q⟩
theorem hid_ex {H : Hp} {M : List Addr} : Ex (hid H M) H := fun _ _ h => (hid_some h).1
theorem hid_sub {H : Hp} {M M' : List Addr} (h : ∀ a ∈ M', a ∈ M) : Ex (hid H M) (hid H M') := fun a o e => by
  obtain ⟨e1, e2⟩ := hid_some e
  rw [hid_out fun z => e2 (h a z)]
  exact e1
theorem hid_upd {H : Hp} {M : List Addr} {p : Addr} {o : HO} (h : p ∉ M) : hid (upd H p o) M = upd (hid H M) p o := by
  funext b
  by_cases hb : b = p
  · subst hb
    rw [hid_out h, upd_same, upd_same]
  · rw [upd_ne hb]
    unfold hid
    rw [upd_ne hb]
/-- the law's feed (its address, its cells' address), if there is one -/
abbrev GG := Option (Addr × Addr)
/-- the feed stands at a: its cells at c, how many are taken, the digits left, the mark -/
def FeedOk (H : Hp) (a c : Addr) : Prop := ∃ (i d m : Int) (ns : List Int), H a = some (.lst [.ref c, .int i, .int d, .int m]) ∧ H c = some (.lst (ns.map V.int)) ∧ c ≠ a ∧ 0 ≤ i
/-- a step: all that was tracked stands but the feed, which is a feed -/
structure Stp (K : PySem.W.Frag) (g : GG) (H H' : Hp) : Prop where
  keep : ∀ a o, (∀ c, g ≠ some (a, c)) → H a = some o → H' a = some o
  feed : ∀ a c, g = some (a, c) → FeedOk H a c → FeedOk H' a c
theorem Stp.refl {K : PySem.W.Frag} {g : GG} {H : Hp} : Stp K g H H := ⟨fun _ _ _ h => h, fun _ _ _ h => h⟩
theorem Stp.trans {K : PySem.W.Frag} {g : GG} {H H1 H2 : Hp} (a : Stp K g H H1) (b : Stp K g H1 H2) : Stp K g H H2 :=
  ⟨fun c o n h => b.keep c o n (a.keep c o n h), fun x c e h => b.feed x c e (a.feed x c e h)⟩
theorem Stp.of_ex {K : PySem.W.Frag} {g : GG} {H H' : Hp} (e : Ex H H') : Stp K g H H' :=
  ⟨fun a o _ h => e a o h, fun a c _ ⟨i, d, m, ns, h1, h2, h3⟩ => ⟨i, d, m, ns, e _ _ h1, e _ _ h2, h3⟩⟩
theorem ex_new {H : Hp} {p : Addr} {o : HO} (h : H p = none) : Ex H (upd H p o) := fun a u e => by rw [upd_ne (ne_of_none e h)]; exact e
theorem Stp.new {K : PySem.W.Frag} {g : GG} {H : Hp} {p : Addr} {o : HO} (h : H p = none) : Stp K g H (upd H p o) := .of_ex (ex_new h)
structure Msk (K : PySem.W.Frag) (g : GG) (M : List Addr) (H : Hp) : Prop where
  some' : ∀ a ∈ M, H a ≠ none
  feed : ∀ a c, g = some (a, c) → a ∈ M ∧ c ∈ M ∧ FeedOk H a c
theorem Msk.ng {K : PySem.W.Frag} {g : GG} {M : List Addr} {H : Hp} (m : Msk K g M H) {p : Addr} (h : p ∉ M) : ∀ c, g ≠ some (p, c) := fun c q => h (m.feed p c q).1
theorem Msk.stp {K : PySem.W.Frag} {g : GG} {M : List Addr} {H H' : Hp} (m : Msk K g M H) (s : Stp K g H H') : Msk K g M H' :=
  ⟨fun a ha => by
    by_cases q : ∃ c, g = some (a, c)
    · obtain ⟨c, q⟩ := q
      obtain ⟨i, d, n, ns, h1, _⟩ := s.feed a c q (m.feed a c q).2.2
      rw [h1]
      simp
    · cases e : H a with
      | none => exact absurd e (m.some' a ha)
      | some o =>
        rw [s.keep a o (fun c z => q ⟨c, z⟩) e]
        simp, fun a c q => ⟨(m.feed a c q).1, (m.feed a c q).2.1, s.feed a c q (m.feed a c q).2.2⟩⟩
theorem Msk.out {K : PySem.W.Frag} {g : GG} {M : List Addr} {H : Hp} (m : Msk K g M H) {p : Addr} (h : H p = none) : p ∉ M := fun z => m.some' p z h
theorem Msk.cons {K : PySem.W.Frag} {g : GG} {M : List Addr} {H : Hp} (m : Msk K g M H) {p : Addr} {o : HO} (h : H p = some o) : Msk K g (p :: M) H :=
  ⟨fun a ha => by
    rcases List.mem_cons.mp ha with rfl | ha
    · rw [h]
      simp
    · exact m.some' a ha, fun a c q => ⟨List.mem_cons_of_mem _ (m.feed a c q).1, List.mem_cons_of_mem _ (m.feed a c q).2.1, (m.feed a c q).2.2⟩⟩
theorem Stp.hid {K : PySem.W.Frag} {g : GG} {M : List Addr} {H H' : Hp} (s : Stp K g H H') (m : Msk K g M H) : Ex (PL.hid H M) (PL.hid H' M) := fun a o e => by
  obtain ⟨e1, e2⟩ := hid_some e
  rw [hid_out e2]
  exact s.keep a o (m.ng e2) e1

/-! ### readings of data -/
abbrev Rho := List (Option D)
abbrev FE := Rho → (D → Prop) → Prop
abbrev FT := Rho → (Bool → Prop) → Prop
abbrev FA := Rho → (List D → Prop) → Prop
structure REnv (K : PySem.W.Frag) (H : Hp) (ρ : Rho) (σ : St) : Prop where
  len : ρ.length = σ.length
  at' : ∀ (i : Nat) (d : D), ρ[i]? = some (some d) → ∃ v, σ[i]? = some (some v) ∧ Rp H K d v
theorem REnv.ex {K : PySem.W.Frag} {H H' : Hp} {ρ : Rho} {σ : St} (e : Ex H H') (r : REnv K H ρ σ) : REnv K H' ρ σ := ⟨r.len, fun i d h => let ⟨v, h1, h2⟩ := r.at' i d h; ⟨v, h1, Rp.ex e h2⟩⟩
theorem REnv.set {K : PySem.W.Frag} {H : Hp} {ρ : Rho} {σ : St} (r : REnv K H ρ σ) {i : Nat} {d : D} {v : V} (h : Rp H K d v) : REnv K H (ρ.set i (some d)) (σ.set i (some v)) where
  len := by rw [List.length_set, List.length_set]; exact r.len
  at' := fun j e q => by
    by_cases hj : i = j
    · subst hj
      by_cases hi : i < ρ.length
      · rw [List.getElem?_set_self hi] at q
        cases q
        exact ⟨v, List.getElem?_set_self (by rw [← r.len]; exact hi), h⟩
      · rw [List.getElem?_eq_none (by simpa using hi)] at q
        cases q
    · rw [List.getElem?_set_ne hj] at q ⊢
      exact r.at' j e q
/-- what is wanted behind a value, a test, arguments -/
def PV (K : PySem.W.Frag) (g : GG) (M : List Addr) (H : Hp) (P : D → Prop) (Q : VK) : Prop := ∀ d v H', P d → Stp K g H H' → Rp (hid H' M) K d v → Q v H'
def PB (K : PySem.W.Frag) (g : GG) (H : Hp) (P : Bool → Prop) (Q : Bool → Hp → Prop) : Prop := ∀ b H', P b → Stp K g H H' → Q b H'
def PL' (K : PySem.W.Frag) (g : GG) (M : List Addr) (H : Hp) (P : List D → Prop) (Q : List V → Hp → Prop) : Prop := ∀ ds vs H', P ds → Stp K g H H' → RpL (hid H' M) K ds vs → Q vs H'
structure DE (X : Cx) (K : PySem.W.Frag) (g : GG) (e : Expr) (t : TE) (F : FE) : Prop where
  pe : PE X e t
  ld : ∀ M ρ σ H P Q, Msk K g M H → REnv K (hid H M) ρ σ → F ρ P → PV K g M H P Q → t σ H Q
structure DT (X : Cx) (K : PySem.W.Frag) (g : GG) (e : Expr) (t : TT) (F : FT) : Prop where
  pt : PT X e t
  ld : ∀ M ρ σ H P Q, Msk K g M H → REnv K (hid H M) ρ σ → F ρ P → PB K g H P Q → t σ H Q
structure DW (X : Cx) (K : PySem.W.Frag) (g : GG) (e : Expr) (t : TT) (F : FT) : Prop where
  pw : PW X e t
  ld : ∀ M ρ σ H P Q, Msk K g M H → REnv K (hid H M) ρ σ → F ρ P → PB K g H P Q → t σ H Q
structure DA (X : Cx) (K : PySem.W.Frag) (g : GG) (es : List Expr) (t : TA) (F : FA) : Prop where
  pa : PA X es t
  ld : ∀ M ρ σ H P Q, Msk K g M H → REnv K (hid H M) ρ σ → F ρ P → PL' K g M H P Q → t σ H Q

section
variable {X : Cx} {g : GG} {a b c e : Expr} {es : List Expr} {ta tb tc te : TE} {Fa Fb Fc Fe : FE} {tA tB' tC' : TT} {pos : Pos}
/-! names and constants -/
def fVar (i : Nat) : FE := fun ρ P => match ρ[i]? with
  | some (some d) => P d
  | _ => False
def fC (d : D) : FE := fun _ P => P d
theorem de_var {i : Nat} (h : PE X e (tVar i)) : DE X K g e (tVar i) (fVar i) := ⟨h, fun M ρ σ H P Q m r f q => by
  unfold fVar at f
  split at f
  · rename_i d e1
    obtain ⟨v, h1, h2⟩ := r.at' i d e1
    exact ⟨v, h1, q d v H f .refl h2⟩
  · exact f.elim⟩
theorem de_con {v : V} {d : D} (h : PE X e (tC v)) (hd : ∀ H, Rp H K d v) : DE X K g e (tC v) (fC d) := ⟨h, fun M ρ σ H P Q m r f q => q d v H f .refl (hd _)⟩
theorem de_int {i j} : DE X K g (.Constant (.int i) j pos) (tC (.int i)) (fC (.int i)) := de_con pe_int fun _ => rfl
theorem de_bl {b j} : DE X K g (.Constant (.bool b) j pos) (tC (.bl b)) (fC (.bl b)) := de_con pe_bl fun _ => rfl
theorem de_non {j} : DE X K g (.Constant .none j pos) (tC .non) (fC .non) := de_con pe_non fun _ => rfl
theorem de_str {x j} : DE X K g (.Constant (.str x) j pos) (tC (.str x)) (fC (.str x)) := de_con pe_str fun _ => rfl
/-! operators on values -/
def OpD (K : PySem.W.Frag) (g : GG) (r : R2) (f : D → D → (D → Prop) → Prop) : Prop :=
  ∀ M H x y vx vy P Q, Msk K g M H → Rp (hid H M) K x vx → Rp (hid H M) K y vy → f x y P → PV K g M H P Q → r vx vy H Q
def fOp (f : D → D → (D → Prop) → Prop) (Fa Fb : FE) : FE := fun ρ P => Fa ρ fun x => Fb ρ fun y => f x y P
theorem PV.stp {K : PySem.W.Frag} {M : List Addr} {H H' : Hp} {P : D → Prop} {Q : VK} (q : PV K g M H P Q) (s : Stp K g H H') : PV K g M H' P Q := fun d v H2 p s2 r => q d v H2 p (s.trans s2) r
theorem PB.stp {K : PySem.W.Frag} {H H' : Hp} {P : Bool → Prop} {Q : Bool → Hp → Prop} (q : PB K g H P Q) (s : Stp K g H H') : PB K g H' P Q := fun d H2 p s2 => q d H2 p (s.trans s2)
theorem PL'.stp {K : PySem.W.Frag} {M : List Addr} {H H' : Hp} {P : List D → Prop} {Q : List V → Hp → Prop} (q : PL' K g M H P Q) (s : Stp K g H H') : PL' K g M H' P Q := fun d v H2 p s2 r => q d v H2 p (s.trans s2) r
theorem ld_op {K : PySem.W.Frag} {r : R2} {f : D → D → (D → Prop) → Prop} (hf : OpD K g r f)
    (la : ∀ M ρ σ H P Q, Msk K g M H → REnv K (hid H M) ρ σ → Fa ρ P → PV K g M H P Q → ta σ H Q)
    (lb : ∀ M ρ σ H P Q, Msk K g M H → REnv K (hid H M) ρ σ → Fb ρ P → PV K g M H P Q → tb σ H Q) :
    ∀ M ρ σ H P Q, Msk K g M H → REnv K (hid H M) ρ σ → fOp f Fa Fb ρ P → PV K g M H P Q → tOp r ta tb σ H Q := fun M ρ σ H P Q m rr ff q =>
  la M ρ σ H _ _ m rr ff fun x v1 H1 p1 s1 r1 =>
    lb M ρ σ H1 _ _ (m.stp s1) (rr.ex (s1.hid m)) p1 fun y v2 H2 p2 s2 r2 =>
      hf M H2 x y v1 v2 P Q ((m.stp s1).stp s2) (Rp.ex (s2.hid (m.stp s1)) r1) r2 p2 (q.stp (s1.trans s2))
theorem de_op {op : Operator} {r : R2} {f : D → D → (D → Prop) → Prop} (ho : OpR X (binaryOp op) r) (hf : OpD K g r f) (ha : DE X K g a ta Fa) (hb : DE X K g b tb Fb) : DE X K g (.BinOp a op b pos) (tOp r ta tb) (fOp f Fa Fb) :=
  ⟨pe_op ho ha.pe hb.pe, ld_op hf ha.ld hb.ld⟩
theorem de_cmp {op : CmpOp} {r : R2} {f : D → D → (D → Prop) → Prop} (ho : OpR X (compareOp op) r) (hf : OpD K g r f) (ha : DE X K g a ta Fa) (hb : DE X K g b tb Fb) (hm : behindInMarks op b = false) : DE X K g (.Compare a [op] [b] pos) (tOp r ta tb) (fOp f Fa Fb) :=
  ⟨pe_cmpR ho ha.pe hb.pe hm, ld_op hf ha.ld hb.ld⟩
/-- a value as a test -/
def fTst (F : FE) : FT := fun ρ P => F ρ fun d => match d with
  | .bl b => P b
  | _ => False
theorem ld_tst {K : PySem.W.Frag} (la : ∀ M ρ σ H P Q, Msk K g M H → REnv K (hid H M) ρ σ → Fa ρ P → PV K g M H P Q → ta σ H Q) :
    ∀ M ρ σ H P Q, Msk K g M H → REnv K (hid H M) ρ σ → fTst Fa ρ P → PB K g H P Q → tTest ta σ H Q := fun M ρ σ H P Q m rr ff q =>
  la M ρ σ H _ _ m rr ff fun x v1 H1 p1 s1 r1 => by
    cases x with
    | bl b => exact ⟨b, r1, q b H1 p1 s1⟩
    | _ => exact p1.elim
theorem dt_cmp {op : CmpOp} {r : R2} {f : D → D → (D → Prop) → Prop} (ho : OpR X (compareOp op) r) (hf : OpD K g r f) (ha : DE X K g a ta Fa) (hb : DE X K g b tb Fb) (hm : behindInMarks op b = false) : DT X K g (.Compare a [op] [b] pos) (tTest (tOp r ta tb)) (fTst (fOp f Fa Fb)) :=
  ⟨pt_cmpR ho ha.pe hb.pe hm, ld_tst (ld_op hf ha.ld hb.ld)⟩
theorem dt_val (h : DE X K g e te Fe) (he : ∀ whole, isTrue e X.env whole = (do let v ← whole; standAt e.pos; holding [v] (truthy v)) := by intro _; rfl) : DT X K g e (tTest te) (fTst Fe) :=
  ⟨pt_val h.pe he, ld_tst h.ld⟩
/-! and, or, not; as tests -/
def fAnd (A B : FT) : FT := fun ρ P => A ρ fun b => if b = true then B ρ P else P false
def fOr (A B : FT) : FT := fun ρ P => A ρ fun b => if b = true then P true else B ρ P
def fNot (A : FT) : FT := fun ρ P => A ρ fun b => P (!b)
variable {A B C : FT} {rest : List Expr}
theorem dw_and1 (ha : DT X K g a tA A) : DW X K g (.BoolOp .And [a] pos) tA A := ⟨pw_and1 ha.pt, ha.ld⟩
theorem dw_or1 (ha : DT X K g a tA A) : DW X K g (.BoolOp .Or [a] pos) tA A := ⟨pw_or1 ha.pt, ha.ld⟩
theorem dw_and (ha : DT X K g a tA A) (hb : DW X K g (.BoolOp .And (b :: rest) pos) tB' B) : DW X K g (.BoolOp .And (a :: b :: rest) pos) (tAnd tA tB') (fAnd A B) :=
  ⟨pw_and ha.pt hb.pw, fun M ρ σ H P Q m rr ff q => ha.ld M ρ σ H _ _ m rr ff fun x H1 p1 s1 => by
    cases x with
    | true => exact hb.ld M ρ σ H1 _ _ (m.stp s1) (rr.ex (s1.hid m)) p1 (q.stp s1)
    | false => exact q false H1 p1 s1⟩
theorem dw_or (ha : DT X K g a tA A) (hb : DW X K g (.BoolOp .Or (b :: rest) pos) tB' B) : DW X K g (.BoolOp .Or (a :: b :: rest) pos) (tOr tA tB') (fOr A B) :=
  ⟨pw_or ha.pt hb.pw, fun M ρ σ H P Q m rr ff q => ha.ld M ρ σ H _ _ m rr ff fun x H1 p1 s1 => by
    cases x with
    | false => exact hb.ld M ρ σ H1 _ _ (m.stp s1) (rr.ex (s1.hid m)) p1 (q.stp s1)
    | true => exact q true H1 p1 s1⟩
theorem DW.dt (h : DW X K g e tA A) : DT X K g e tA A := ⟨h.pw.pt, h.ld⟩
theorem dt_not (ha : DT X K g a tA A) : DT X K g (.UnaryOp .Not a pos) (tNot tA) (fNot A) :=
  ⟨pt_not ha.pt, fun M ρ σ H P Q m rr ff q => ha.ld M ρ σ H _ _ m rr ff fun x H1 p1 s1 => q (!x) H1 p1 s1⟩
/-! as values (bools) -/
def fAndV (Fa Fb : FE) : FE := fun ρ P => Fa ρ fun d => match d with
  | .bl true => Fb ρ P
  | .bl false => P (.bl false)
  | _ => False
def fOrV (Fa Fb : FE) : FE := fun ρ P => Fa ρ fun d => match d with
  | .bl true => P (.bl true)
  | .bl false => Fb ρ P
  | _ => False
def fNotV (Fa : FE) : FE := fun ρ P => Fa ρ fun d => match d with
  | .bl b => P (.bl (!b))
  | _ => False
theorem de_one {op} (h : DE X K g a te Fe) : DE X K g (.BoolOp op [a] pos) te Fe := ⟨pe_one h.pe, h.ld⟩
theorem de_and (ha : DE X K g a ta Fa) (hb : DE X K g (.BoolOp .And (b :: rest) pos) tb Fb) : DE X K g (.BoolOp .And (a :: b :: rest) pos) (tAndV ta tb) (fAndV Fa Fb) :=
  ⟨pe_and ha.pe hb.pe, fun M ρ σ H P Q m rr ff q => ha.ld M ρ σ H _ _ m rr ff fun x v1 H1 p1 s1 r1 => by
    cases x with
    | bl k =>
      cases k with
      | true => exact ⟨true, r1, hb.ld M ρ σ H1 _ _ (m.stp s1) (rr.ex (s1.hid m)) p1 (q.stp s1)⟩
      | false => exact ⟨false, r1, q (.bl false) _ H1 p1 s1 rfl⟩
    | _ => exact p1.elim⟩
theorem de_or (ha : DE X K g a ta Fa) (hb : DE X K g (.BoolOp .Or (b :: rest) pos) tb Fb) : DE X K g (.BoolOp .Or (a :: b :: rest) pos) (tOrV ta tb) (fOrV Fa Fb) :=
  ⟨pe_or ha.pe hb.pe, fun M ρ σ H P Q m rr ff q => ha.ld M ρ σ H _ _ m rr ff fun x v1 H1 p1 s1 r1 => by
    cases x with
    | bl k =>
      cases k with
      | false => exact ⟨false, r1, hb.ld M ρ σ H1 _ _ (m.stp s1) (rr.ex (s1.hid m)) p1 (q.stp s1)⟩
      | true => exact ⟨true, r1, q (.bl true) _ H1 p1 s1 rfl⟩
    | _ => exact p1.elim⟩
theorem de_not (ha : DE X K g a ta Fa) : DE X K g (.UnaryOp .Not a pos) (tNotV ta) (fNotV Fa) :=
  ⟨pe_not ha.pe, fun M ρ σ H P Q m rr ff q => ha.ld M ρ σ H _ _ m rr ff fun x v1 H1 p1 s1 r1 => by
    cases x with
    | bl k => exact ⟨k, r1, q (.bl (!k)) _ H1 p1 s1 rfl⟩
    | _ => exact p1.elim⟩
def fIf (A : FT) (Fa Fb : FE) : FE := fun ρ P => A ρ fun b => if b = true then Fa ρ P else Fb ρ P
theorem de_if (hc : DT X K g c tA A) (ha : DE X K g a ta Fa) (hb : DE X K g b tb Fb) : DE X K g (.IfExp c a b pos) (tIf tA ta tb) (fIf A Fa Fb) :=
  ⟨pe_ifExp hc.pt ha.pe hb.pe, fun M ρ σ H P Q m rr ff q => hc.ld M ρ σ H _ _ m rr ff fun x H1 p1 s1 => by
    cases x with
    | true => exact ha.ld M ρ σ H1 _ _ (m.stp s1) (rr.ex (s1.hid m)) p1 (q.stp s1)
    | false => exact hb.ld M ρ σ H1 _ _ (m.stp s1) (rr.ex (s1.hid m)) p1 (q.stp s1)⟩
/-! arguments, displays -/
def fNil : FA := fun _ P => P []
def fCons (F : FE) (R : FA) : FA := fun ρ P => F ρ fun d => R ρ fun ds => P (d :: ds)
theorem da_nil : DA X K g [] tNil fNil := ⟨pa_nil, fun M ρ σ H P Q m rr ff q => q [] [] H ff .refl rfl⟩
theorem da_cons {t : TA} {R : FA} (ha : DE X K g e te Fe) (hr : DA X K g es t R) (hs : starEach (e :: es) X.env = (false, eval e X.env) :: starEach es X.env := by rfl) : DA X K g (e :: es) (tCons te t) (fCons Fe R) :=
  ⟨pa_cons ha.pe hr.pa hs, fun M ρ σ H P Q m rr ff q => ha.ld M ρ σ H _ _ m rr ff fun x v1 H1 p1 s1 r1 =>
    hr.ld M ρ σ H1 _ _ (m.stp s1) (rr.ex (s1.hid m)) p1 fun ds vs H2 p2 s2 r2 =>
      q (x :: ds) (v1 :: vs) H2 p2 (s1.trans s2) ⟨v1, vs, rfl, Rp.ex (s2.hid (m.stp s1)) r1, r2⟩⟩
def fTup (R : FA) : FE := fun ρ P => R ρ fun ds => ds.length ≤ sizeLine ∧ P (.tup ds)
def fLst (R : FA) : FE := fun ρ P => R ρ fun ds => ds.length ≤ sizeLine ∧ P (.lst ds)
theorem rp_newT {K : PySem.W.Frag} {M : List Addr} {H : Hp} {p : Addr} {ds : List D} {vs : List V} (m : Msk K g M H) (hp : H p = none) (r : RpL (hid H M) K ds vs) : Rp (hid (upd H p (.tup vs)) M) K (.tup ds) (.ref p) := by
  have e := hid_upd (H := H) (o := .tup vs) (m.out hp)
  refine ⟨p, vs, rfl, .inl ?_, RpL.ex ?_ r⟩
  · rw [e]
    exact upd_same
  · rw [e]
    exact ex_new (by rw [hid_out (m.out hp)]; exact hp)
theorem rp_newL {K : PySem.W.Frag} {M : List Addr} {H : Hp} {p : Addr} {ds : List D} {vs : List V} (m : Msk K g M H) (hp : H p = none) (r : RpL (hid H M) K ds vs) : Rp (hid (upd H p (.lst vs)) M) K (.lst ds) (.ref p) := by
  have e := hid_upd (H := H) (o := .lst vs) (m.out hp)
  refine ⟨p, vs, rfl, ?_, RpL.ex ?_ r⟩
  · rw [e]
    exact upd_same
  · rw [e]
    exact ex_new (by rw [hid_out (m.out hp)]; exact hp)
theorem de_tup {x1} {t : TA} {R : FA} (h : DA X K g es t R) : DE X K g (.Tuple es x1 pos) (tTup t) (fTup R) :=
  ⟨pe_tup h.pa, fun M ρ σ H P Q m rr ff q => h.ld M ρ σ H _ _ m rr ff fun ds vs H1 p1 s1 r1 =>
    ⟨by rw [← r1.len]; exact p1.1, fun p hp => q _ _ _ p1.2 (s1.trans (.new hp)) (rp_newT (m.stp s1) hp r1)⟩⟩
theorem de_lst {t : TA} {R : FA} (h : DA X K g es t R) : DE X K g (.List es pos) (tLst t) (fLst R) :=
  ⟨pe_lst h.pa, fun M ρ σ H P Q m rr ff q => h.ld M ρ σ H _ _ m rr ff fun ds vs H1 p1 s1 r1 =>
    ⟨by rw [← r1.len]; exact p1.1, fun p hp => q _ _ _ p1.2 (s1.trans (.new hp)) (rp_newL (m.stp s1) hp r1)⟩⟩
end
end PL

set_option maxHeartbeats 1000000
/-! The data layer: statements. -/
namespace PL
open PySem PySem.Spec L2

/-- what a name of the body owns: a list, a dict, an object that is being made, which nothing else holds -/
inductive OD where
  | lst (ds : List D) | dct (ks : List Key) (ds : List D) | obj (C : Addr) (fs : List Str) (ds : List D)
inductive Sl where
  | no | pu (d : D) | ow (o : OD)
abbrev DSt := List Sl
def OD.d : OD → D
  | .lst ds => .lst ds
  | .dct ks ds => .dct ks ds
  | .obj C fs ds => .obj C fs ds
def Sl.bl : Sl → Option D
  | .pu d => some d
  | _ => none
def Sl.op : Sl → Option D
  | .pu d => some d
  | .ow o => some o.d
  | .no => none
abbrev bln (s : DSt) : Rho := s.map Sl.bl
abbrev opn (s : DSt) : Rho := s.map Sl.op
/-- the owned object stands at p; what it holds is told of the masked heap h -/
def OwnAt (K : PySem.W.Frag) (h H : Hp) (p : Addr) : OD → Prop
  | .lst ds => ∃ vs, H p = some (.lst vs) ∧ RpL h K ds vs
  | .dct ks ds => ∃ vs, H p = some (.dK (ks.zip vs)) ∧ ks.length = vs.length ∧ RpL h K ds vs
  | .obj C fs ds => ∃ dx vs, H p = some (.ins C dx (fs.zip vs)) ∧ fs.length = vs.length ∧ RpL h K ds vs
theorem OwnAt.some' {K : PySem.W.Frag} {h H : Hp} {p : Addr} {o : OD} (x : OwnAt K h H p o) : ∃ u, H p = some u := by
  cases o with
  | lst ds => obtain ⟨vs, e, _⟩ := x; exact ⟨_, e⟩
  | dct ks ds => obtain ⟨vs, e, _⟩ := x; exact ⟨_, e⟩
  | obj C fs ds => obtain ⟨dx, vs, e, _⟩ := x; exact ⟨_, e⟩
theorem OwnAt.mono {K : PySem.W.Frag} {h h' H H' : Hp} {p : Addr} {o : OD} (x : OwnAt K h H p o) (e : Ex h h') (k : ∀ u, H p = some u → H' p = some u) : OwnAt K h' H' p o := by
  cases o with
  | lst ds => obtain ⟨vs, e1, e2⟩ := x; exact ⟨vs, k _ e1, RpL.ex e e2⟩
  | dct ks ds => obtain ⟨vs, e1, e2, e3⟩ := x; exact ⟨vs, k _ e1, e2, RpL.ex e e3⟩
  | obj C fs ds => obtain ⟨dx, vs, e1, e2, e3⟩ := x; exact ⟨dx, vs, k _ e1, e2, RpL.ex e e3⟩
theorem OwnAt.rp {K : PySem.W.Frag} {h H : Hp} {p : Addr} {o : OD} (x : OwnAt K h H p o) {h' : Hp} (e : Ex h h') (k : ∀ u, H p = some u → h' p = some u) : Rp h' K o.d (.ref p) := by
  cases o with
  | lst ds => obtain ⟨vs, e1, e2⟩ := x; exact ⟨p, vs, rfl, k _ e1, RpL.ex e e2⟩
  | dct ks ds => obtain ⟨vs, e1, e2, e3⟩ := x; exact ⟨p, vs, rfl, .inl (k _ e1), e2, RpL.ex e e3⟩
  | obj C fs ds => obtain ⟨dx, vs, e1, e2, e3⟩ := x; exact ⟨p, dx, vs, rfl, k _ e1, e2, RpL.ex e e3⟩

/-- the names' slots as data; pins: further data that stand; He: the heap at the def's entry -/
structure Rep (K : PySem.W.Frag) (g : GG) (He : Hp) (M : List Addr) (pins : List (D × V)) (s : DSt) (σ : St) (H : Hp) (ps : List Addr) : Prop where
  msk : Msk K g (ps ++ M) H
  base : Msk K g M H
  out : ∀ p ∈ ps, p ∉ M
  fresh : ∀ p ∈ ps, He p = none
  stp : Stp K g He H
  len : s.length = σ.length
  pu : ∀ (i : Nat) (d : D), s[i]? = some (.pu d) → ∃ v, σ[i]? = some (some v) ∧ Rp (hid H (ps ++ M)) K d v
  ow : ∀ (i : Nat) (o : OD), s[i]? = some (.ow o) → ∃ p, σ[i]? = some (some (.ref p)) ∧ p ∈ ps ∧ OwnAt K (hid H (ps ++ M)) H p o
  one : ∀ (i j : Nat) (o u : OD) (p : Addr), s[i]? = some (.ow o) → s[j]? = some (.ow u) → σ[i]? = some (some (.ref p)) → σ[j]? = some (some (.ref p)) → i = j
  pin : ∀ x ∈ pins, Rp (hid H (ps ++ M)) K x.1 x.2
def RepS (K : PySem.W.Frag) (g : GG) (He : Hp) (M : List Addr) (pins : List (D × V)) (s : DSt) (σ : St) (H : Hp) : Prop := ∃ ps, Rep K g He M pins s σ H ps
section
variable {K : PySem.W.Frag} {g : GG} {He H H' : Hp} {M ps : List Addr} {pins : List (D × V)} {s : DSt} {σ : St}
theorem Rep.keepO (r : Rep K g He M pins s σ H ps) (st : Stp K g H H') {p : Addr} (hp : p ∈ ps) : ∀ u, H p = some u → H' p = some u := fun u e => st.keep p u (r.base.ng (r.out p hp)) e
theorem Rep.step (r : Rep K g He M pins s σ H ps) (st : Stp K g H H') : Rep K g He M pins s σ H' ps where
  msk := r.msk.stp st
  base := r.base.stp st
  out := r.out
  fresh := r.fresh
  stp := r.stp.trans st
  len := r.len
  pu := fun i d h => let ⟨v, h1, h2⟩ := r.pu i d h; ⟨v, h1, Rp.ex (st.hid r.msk) h2⟩
  ow := fun i o h => let ⟨p, h1, h2, h3⟩ := r.ow i o h; ⟨p, h1, h2, h3.mono (st.hid r.msk) (r.keepO st h2)⟩
  one := r.one
  pin := fun x hx => Rp.ex (st.hid r.msk) (r.pin x hx)
theorem map_get {α β : Type} {f : α → β} {l : List α} {i : Nat} {b : β} (h : (l.map f)[i]? = some b) : ∃ a, l[i]? = some a ∧ f a = b := by
  rw [List.getElem?_map] at h
  cases e : l[i]? with
  | none => rw [e] at h; cases h
  | some a => rw [e] at h; exact ⟨a, rfl, Option.some.inj h⟩
theorem Rep.bln (r : Rep K g He M pins s σ H ps) : REnv K (hid H (ps ++ M)) (bln s) σ := ⟨by rw [List.length_map]; exact r.len, fun i d h => by
  obtain ⟨x, h1, h2⟩ := map_get h
  cases x with
  | pu e => cases h2; exact r.pu i d h1
  | _ => cases h2⟩
theorem Rep.opn (r : Rep K g He M pins s σ H ps) : REnv K (hid H M) (opn s) σ := ⟨by rw [List.length_map]; exact r.len, fun i d h => by
  obtain ⟨x, h1, h2⟩ := map_get h
  have sub : Ex (hid H (ps ++ M)) (hid H M) := hid_sub fun a ha => List.mem_append_right _ ha
  cases x with
  | pu e =>
    cases h2
    obtain ⟨v, e1, e2⟩ := r.pu i d h1
    exact ⟨v, e1, Rp.ex sub e2⟩
  | ow o =>
    cases h2
    obtain ⟨p, e1, e2, e3⟩ := r.ow i o h1
    exact ⟨_, e1, e3.rp sub fun u q => by rw [hid_out (r.out p e2)]; exact q⟩
  | no => cases h2⟩
/-- a name is stored: a plain value -/
theorem set_get {α : Type} {l : List α} {i j : Nat} {x y : α} (h : (l.set i x)[j]? = some y) : (i = j ∧ y = x ∧ i < l.length) ∨ (i ≠ j ∧ l[j]? = some y) := by
  by_cases e : i = j
  · subst e
    by_cases hi : i < l.length
    · rw [List.getElem?_set_self hi] at h
      exact .inl ⟨rfl, (Option.some.inj h).symm, hi⟩
    · rw [List.getElem?_eq_none (by simpa using hi)] at h
      cases h
  · rw [List.getElem?_set_ne e] at h
    exact .inr ⟨e, h⟩
theorem Rep.setP (r : Rep K g He M pins s σ H ps) {i : Nat} {d : D} {v : V} (h : Rp (hid H (ps ++ M)) K d v) : Rep K g He M pins (s.set i (.pu d)) (σ.set i (some v)) H ps where
  msk := r.msk
  base := r.base
  out := r.out
  fresh := r.fresh
  stp := r.stp
  len := by rw [List.length_set, List.length_set]; exact r.len
  pu := fun j e q => by
    rcases set_get q with ⟨rfl, h2, h3⟩ | ⟨h1, h2⟩
    · cases h2
      exact ⟨v, List.getElem?_set_self (by rw [← r.len]; exact h3), h⟩
    · rw [List.getElem?_set_ne h1]
      exact r.pu j e h2
  ow := fun j o q => by
    rcases set_get q with ⟨rfl, h2, h3⟩ | ⟨h1, h2⟩
    · cases h2
    · rw [List.getElem?_set_ne h1]
      exact r.ow j o h2
  one := fun j k o u p q1 q2 q3 q4 => by
    rcases set_get q1 with ⟨rfl, h2, h3⟩ | ⟨h1, h2⟩
    · cases h2
    rcases set_get q2 with ⟨rfl, h4, h5⟩ | ⟨h3, h4⟩
    · cases h4
    rw [List.getElem?_set_ne h1] at q3
    rw [List.getElem?_set_ne h3] at q4
    exact r.one j k o u p h2 h4 q3 q4
  pin := r.pin
/-- a new object is laid: a name owns it -/
theorem Rep.setO (r : Rep K g He M pins s σ H ps) {i : Nat} {o : OD} {p : Addr} {ho : HO} (hp : H p = none) (h : OwnAt K (hid H (ps ++ M)) (upd H p ho) p o) :
    Rep K g He M pins (s.set i (.ow o)) (σ.set i (some (.ref p))) (upd H p ho) (p :: ps) := by
  have hn : p ∉ ps ++ M := r.msk.out hp
  have hb : Msk K g M (upd H p ho) := r.base.stp (.new hp)
  have m1 : Msk K g (ps ++ M) (upd H p ho) := r.msk.stp (.new hp)
  have eh : hid (upd H p ho) (p :: ps ++ M) = hid H (ps ++ M) := by
    funext b
    by_cases hbp : b = p
    · subst hbp
      rw [hid_in (show b ∈ b :: ps ++ M from List.mem_cons_self ..), hid_out hn, hp]
    · unfold hid
      by_cases q : b ∈ ps ++ M
      · rw [if_pos q, if_pos (show b ∈ p :: ps ++ M from List.mem_cons_of_mem _ q)]
      · rw [if_neg q, if_neg (show ¬ b ∈ p :: ps ++ M from fun z => (List.mem_cons.mp z).elim hbp q), upd_ne hbp]
  refine { msk := m1.cons upd_same, base := hb, out := fun q hq => ?_, fresh := fun q hq => ?_, stp := r.stp.trans (.new hp), len := by rw [List.length_set, List.length_set]; exact r.len, pu := fun j e q => ?_, ow := fun j u q => ?_, one := fun j k u w q q1 q2 q3 q4 => ?_, pin := fun x hx => by rw [eh]; exact r.pin x hx }
  · rcases List.mem_cons.mp hq with rfl | hq
    · exact fun z => hn (List.mem_append_right _ z)
    · exact r.out q hq
  · rcases List.mem_cons.mp hq with rfl | hq
    · cases e : He q with
      | none => rfl
      | some u =>
        rw [r.stp.keep q u (r.base.ng fun z => hn (List.mem_append_right _ z)) e] at hp
        cases hp
    · exact r.fresh q hq
  · rw [eh]
    rcases set_get q with ⟨rfl, h2, h3⟩ | ⟨h1, h2⟩
    · cases h2
    · rw [List.getElem?_set_ne h1]
      exact r.pu j e h2
  · rw [eh]
    rcases set_get q with ⟨rfl, h2, h3⟩ | ⟨h1, h2⟩
    · cases h2
      exact ⟨p, List.getElem?_set_self (by rw [← r.len]; exact h3), List.mem_cons_self .., h⟩
    · rw [List.getElem?_set_ne h1]
      obtain ⟨w, e1, e2, e3⟩ := r.ow j u h2
      refine ⟨w, e1, List.mem_cons_of_mem _ e2, e3.mono .rfl' fun z ez => ?_⟩
      rw [upd_ne (ne_of_none ez hp)]
      exact ez
  · have old : ∀ {j : Nat} {u : OD}, s[j]? = some (.ow u) → σ[j]? = some (some (.ref p)) → False := fun {j u} a b => by
      obtain ⟨w, e1, e2, _⟩ := r.ow j u a
      rw [e1] at b
      cases b
      exact hn (List.mem_append_left _ e2)
    rcases set_get q1 with ⟨rfl, h2, h3⟩ | ⟨h1, h2⟩
    · rw [List.getElem?_set_self (by rw [← r.len]; exact h3)] at q3
      cases q3
      rcases set_get q2 with ⟨rfl, h4, h5⟩ | ⟨h4, h5⟩
      · rfl
      · rw [List.getElem?_set_ne h4] at q4
        exact (old h5 q4).elim
    · rw [List.getElem?_set_ne h1] at q3
      rcases set_get q2 with ⟨rfl, h4, h5⟩ | ⟨h4, h5⟩
      · rw [List.getElem?_set_self (by rw [← r.len]; exact h5)] at q4
        cases q4
        exact (old h2 q3).elim
      · rw [List.getElem?_set_ne h4] at q4
        exact r.one j k u w q h2 h5 q3 q4
/-- an owned object is written -/
theorem Rep.write (r : Rep K g He M pins s σ H ps) {i : Nat} {o o' : OD} {p : Addr} {ho : HO} (hi : s[i]? = some (.ow o)) (hσ : σ[i]? = some (some (.ref p))) (h : OwnAt K (hid H (ps ++ M)) (upd H p ho) p o') :
    Rep K g He M pins (s.set i (.ow o')) σ (upd H p ho) ps := by
  obtain ⟨p', e1, hp, e3⟩ := r.ow i o hi
  rw [hσ] at e1
  cases e1
  have hM : p ∉ M := r.out p hp
  have hg : ∀ c, g ≠ some (p, c) := r.base.ng hM
  have eh : hid (upd H p ho) (ps ++ M) = hid H (ps ++ M) := by
    funext b
    unfold hid
    by_cases q : b ∈ ps ++ M
    · rw [if_pos q, if_pos q]
    · rw [if_neg q, if_neg q, upd_ne fun z => q (by rw [z]; exact List.mem_append_left _ hp)]
  have feed : ∀ a c, g = some (a, c) → FeedOk (upd H p ho) a c := fun a c hga => by
    obtain ⟨ha, hc, i', d, m, ns, q1, q2, q3⟩ := r.base.feed a c hga
    exact ⟨i', d, m, ns, by rw [upd_ne (show a ≠ p from fun z => hM (by rw [← z]; exact ha))]; exact q1, by rw [upd_ne (show c ≠ p from fun z => hM (by rw [← z]; exact hc))]; exact q2, q3⟩
  have som : ∀ {a : Addr}, H a ≠ none → upd H p ho a ≠ none := fun {a} h => by
    by_cases e : a = p
    · rw [e, upd_same]; simp
    · rw [upd_ne e]; exact h
  refine { msk := ⟨fun a ha => som (r.msk.some' a ha), fun a c q => ⟨(r.msk.feed a c q).1, (r.msk.feed a c q).2.1, feed a c q⟩⟩, base := ⟨fun a ha => som (r.base.some' a ha), fun a c q => ⟨(r.base.feed a c q).1, (r.base.feed a c q).2.1, feed a c q⟩⟩, out := r.out, fresh := r.fresh, stp := ⟨fun a u n e => ?_, fun a c q _ => feed a c q⟩, len := by rw [List.length_set]; exact r.len, pu := fun j e q => ?_, ow := fun j u q => ?_, one := fun j k u w q q1 q2 q3 q4 => ?_, pin := fun x hx => by rw [eh]; exact r.pin x hx }
  · have ne : a ≠ p := fun z => by rw [z, r.fresh p hp] at e; cases e
    rw [upd_ne ne]
    exact r.stp.keep a u n e
  · rw [eh]
    rcases set_get q with ⟨rfl, h2, h3⟩ | ⟨h1, h2⟩
    · cases h2
    · exact r.pu j e h2
  · rw [eh]
    rcases set_get q with ⟨rfl, h2, h3⟩ | ⟨h1, h2⟩
    · cases h2
      exact ⟨p, hσ, hp, h⟩
    · obtain ⟨w, e1, e2, e4⟩ := r.ow j u h2
      have nw : w ≠ p := fun z => h1 (r.one i j o u p hi h2 hσ (by rw [e1, z]))
      exact ⟨w, e1, e2, e4.mono .rfl' fun z ez => by rw [upd_ne nw]; exact ez⟩
  · have sh : ∀ {j : Nat} {u : OD}, (s.set i (.ow o'))[j]? = some (.ow u) → ∃ u', s[j]? = some (.ow u') := fun {j u} q => by
      rcases set_get q with ⟨rfl, h2, h3⟩ | ⟨h1, h2⟩
      · exact ⟨o, hi⟩
      · exact ⟨u, h2⟩
    obtain ⟨u', z1⟩ := sh q1
    obtain ⟨w', z2⟩ := sh q2
    exact r.one j k u' w' q z1 z2 q3 q4
end
end PL

set_option maxHeartbeats 1000000
/-! The data layer: statements, loops, comprehensions. -/
namespace PL
open PySem PySem.Spec L2

structure DEnds where
  nx : DSt → Prop
  rt : D → Prop
  bk : DSt → Prop := fun _ => False
  ct : DSt → Prop := fun _ => False
abbrev DTS := DEnds → DSt → Prop
structure Lnk (K : PySem.W.Frag) (g : GG) (He : Hp) (M : List Addr) (pins : List (D × V)) (De : DEnds) (Dn : Ends) : Prop where
  nx : ∀ s σ H, RepS K g He M pins s σ H → De.nx s → Dn.nx σ H
  rt : ∀ d v H, De.rt d → Stp K g He H → Rp (hid H M) K d v → Dn.rt v H
  bk : ∀ s σ H, RepS K g He M pins s σ H → De.bk s → Dn.bk σ H
  ct : ∀ s σ H, RepS K g He M pins s σ H → De.ct s → Dn.ct σ H
def LdS (K : PySem.W.Frag) (g : GG) (t : TS) (T : DTS) : Prop := ∀ He M pins s σ H De Dn, RepS K g He M pins s σ H → T De s → Lnk K g He M pins De Dn → t Dn σ H
structure DS (X : Cx) (K : PySem.W.Frag) (g : GG) (st : Stmt) (t : TS) (T : DTS) : Prop where
  ps : PS X st t
  ld : LdS K g t T
structure DSs (X : Cx) (K : PySem.W.Frag) (g : GG) (st : List Stmt) (t : TS) (T : DTS) : Prop where
  ps : PSs X st t
  ld : LdS K g t T
section
variable {X : Cx} {K : PySem.W.Frag} {g : GG} {He H H' : Hp} {M ps : List Addr} {pins : List (D × V)} {s : DSt} {σ : St} {De : DEnds} {Dn : Ends} {st : Stmt} {rest : List Stmt} {t u : TS} {T U : DTS} {e c : Expr} {te : TE} {Fe : FE} {pos : Pos}
theorem Rep.pinned {pl : List (D × V)} (r : Rep K g He M pins s σ H ps) (h : ∀ x ∈ pl, Rp (hid H (ps ++ M)) K x.1 x.2) : Rep K g He M (pl ++ pins) s σ H ps :=
  { r with pin := fun x hx => (List.mem_append.mp hx).elim (h x) (r.pin x) }
theorem Rep.unpin {pl : List (D × V)} (r : Rep K g He M (pl ++ pins) s σ H ps) : Rep K g He M pins s σ H ps := { r with pin := fun y hy => r.pin y (List.mem_append_right _ hy) }
theorem RepS.unpin {pl : List (D × V)} (r : RepS K g He M (pl ++ pins) s σ H) : RepS K g He M pins s σ H := let ⟨ps, r⟩ := r; ⟨ps, r.unpin⟩
/-! blocks -/
def dNext : DTS := fun De s => De.nx s
def dSeq (T U : DTS) : DTS := fun De s => T { De with nx := U De } s
theorem dss_nil : DSs X K g [] tNext dNext := ⟨pss_nil, fun He M pins s σ H De Dn r h l => l.nx s σ H r h⟩
theorem dss_cons (h1 : DS X K g st t T) (h2 : DSs X K g rest u U) : DSs X K g (st :: rest) (tSeq t u) (dSeq T U) :=
  ⟨pss_cons h1.ps h2.ps, fun He M pins s σ H De Dn r h l => h1.ld He M pins s σ H { De with nx := U De } { Dn with nx := u Dn } r h
    ⟨fun s' σ' H' r' h' => h2.ld He M pins s' σ' H' De Dn r' h' l, l.rt, l.bk, l.ct⟩⟩
theorem dss_one (h1 : DS X K g st t T) : DSs X K g [st] t T := ⟨pss_one h1.ps, h1.ld⟩
theorem ds_never : DS X K g st tNever (fun _ _ => False) := ⟨ps_never, fun He M pins s σ H De Dn r h l => h.elim⟩
theorem dss_never : DSs X K g rest tNever (fun _ _ => False) := ⟨pss_never, fun He M pins s σ H De Dn r h l => h.elim⟩
theorem ds_pass : DS X K g (.Pass pos) tNext dNext := ⟨ps_pass, fun He M pins s σ H De Dn r h l => l.nx s σ H r h⟩
theorem ds_break : DS X K g (.Break pos) tBreak (fun De s => De.bk s) := ⟨ps_break, fun He M pins s σ H De Dn r h l => l.bk s σ H r h⟩
theorem ds_cont : DS X K g (.Continue pos) tCont (fun De s => De.ct s) := ⟨ps_continue, fun He M pins s σ H De Dn r h l => l.ct s σ H r h⟩
/-! values in statements: with the owned names out of sight | in sight -/
theorem RepS.bl (r : RepS K g He M pins s σ H) (h : DE X K g e te Fe) {P : D → Prop} {Q : VK} (f : Fe (bln s) P)
    (q : ∀ ps d v H', Rep K g He M pins s σ H' ps → P d → Rp (hid H' (ps ++ M)) K d v → Q v H') : te σ H Q := by
  obtain ⟨ps, r⟩ := r
  exact h.ld (ps ++ M) (bln s) σ H P Q r.msk r.bln f fun d v H' p st rp => q ps d v H' (r.step st) p rp
theorem RepS.opE (r : RepS K g He M pins s σ H) (h : DE X K g e te Fe) {P : D → Prop} {Q : VK} (f : Fe (opn s) P)
    (q : ∀ ps d v H', Rep K g He M pins s σ H' ps → P d → Rp (hid H' M) K d v → Q v H') : te σ H Q := by
  obtain ⟨ps, r⟩ := r
  exact h.ld M (opn s) σ H P Q r.base r.opn f fun d v H' p st rp => q ps d v H' (r.step st) p rp
theorem RepS.opT {A : FT} {tA : TT} (r : RepS K g He M pins s σ H) (h : DT X K g e tA A) {P : Bool → Prop} {Q : Bool → Hp → Prop} (f : A (opn s) P)
    (q : ∀ d H', RepS K g He M pins s σ H' → P d → Q d H') : tA σ H Q := by
  obtain ⟨ps, r⟩ := r
  exact h.ld M (opn s) σ H P Q r.base r.opn f fun d H' p st => q d H' ⟨ps, r.step st⟩ p
def dRet (F : FE) : DTS := fun De s => F (opn s) De.rt
theorem ds_ret (he : DE X K g e te Fe) : DS X K g (.Return (some e) pos) (tRet te) (dRet Fe) :=
  ⟨ps_ret he.pe, fun He M pins s σ H De Dn r h l => r.opE he h fun ps d v H' r' p rp => l.rt d v H' p r'.stp rp⟩
def dRetN : DTS := fun De _ => De.rt .non
theorem ds_retN : DS X K g (.Return none pos) tRetN dRetN :=
  ⟨ps_retN, fun He M pins s σ H De Dn r h l => let ⟨_, r⟩ := r; l.rt .non .non H h r.stp rfl⟩
def dDrop (F : FE) : DTS := fun De s => F (opn s) fun _ => De.nx s
theorem ds_expr (he : DE X K g e te Fe) (hs : swapsWith e none pos.line X.env = pure false := by rfl) : DS X K g (.Expr e pos) (tDrop te) (dDrop Fe) :=
  ⟨ps_expr he.pe hs, fun He M pins s σ H De Dn r h l => r.opE he h fun ps d v H' r' p rp => l.nx s σ H' ⟨ps, r'⟩ p⟩
def dIf (A : FT) (T U : DTS) : DTS := fun De s => A (opn s) fun b => if b = true then T De s else U De s
theorem ds_if {A : FT} {tA : TT} {b1 b2 : List Stmt} (hc : DT X K g c tA A) (ha : DSs X K g b1 t T) (hb : DSs X K g b2 u U) : DS X K g (.If c b1 b2 pos) (tIfS tA t u) (dIf A T U) :=
  ⟨ps_if hc.pt ha.ps hb.ps, fun He M pins s σ H De Dn r h l => r.opT hc h fun b H' r' p => by
    cases b with
    | true => exact ha.ld He M pins s σ H' De Dn r' p l
    | false => exact hb.ld He M pins s σ H' De Dn r' p l⟩
/-! names stored -/
def isSc : D → Bool
  | .non => true
  | .bl _ => true
  | .int _ => true
  | .str _ => true
  | .con _ => true
  | _ => false
theorem Rp.sc {h h' : Hp} {d : D} {v : V} (hs : isSc d = true) (r : Rp h K d v) : Rp h' K d v := by
  cases d <;> first | exact r | cases hs
def dSet (i : Nat) (F : FE) : DTS := fun De s => F (bln s) fun d => De.nx (s.set i (.pu d))
theorem lds_set {i : Nat} (he : DE X K g e te Fe) : LdS K g (tAsg te (gName i)) (dSet i Fe) := fun He M pins s σ H De Dn r h l =>
  r.bl he h fun ps d v H' r' p rp => l.nx _ _ _ ⟨ps, r'.setP rp⟩ p
theorem ds_set {i : Nat} (hp : PS X st (tAsg te (gName i))) (he : DE X K g e te Fe) : DS X K g st (tAsg te (gName i)) (dSet i Fe) := ⟨hp, lds_set he⟩
/-- the value is plain: the owned names are in sight -/
def dSetO (i : Nat) (F : FE) : DTS := fun De s => F (opn s) fun d => isSc d = true ∧ De.nx (s.set i (.pu d))
theorem ds_setO {i : Nat} (hp : PS X st (tAsg te (gName i))) (he : DE X K g e te Fe) : DS X K g st (tAsg te (gName i)) (dSetO i Fe) :=
  ⟨hp, fun He M pins s σ H De Dn r h l => r.opE he h fun ps d v H' r' p rp => l.nx _ _ _ ⟨ps, r'.setP (Rp.sc p.1 rp)⟩ p.2⟩
/-- a new list that the name owns -/
def dOwn (i : Nat) (R : FA) : DTS := fun De s => R (bln s) fun ds => ds.length ≤ sizeLine ∧ De.nx (s.set i (.ow (.lst ds)))
theorem ds_own {i : Nat} {es : List Expr} {ta : TA} {R : FA} (hp : PS X st (tAsg (tLst ta) (gName i))) (ha : DA X K g es ta R) : DS X K g st (tAsg (tLst ta) (gName i)) (dOwn i R) :=
  ⟨hp, fun He M pins s σ H De Dn ⟨ps, r⟩ h l => ha.ld (ps ++ M) (bln s) σ H _ _ r.msk r.bln h fun ds vs H' p st rp =>
    ⟨by rw [← rp.len]; exact p.1, fun a ha' => l.nx _ _ _ ⟨_, (r.step st).setO (o := .lst ds) ha' ⟨vs, upd_same, rp⟩⟩ p.2⟩⟩
/-- an owned name is let go: from here on its list is a value -/
theorem Rep.rel (r : Rep K g He M pins s σ H ps) {i : Nat} {o : OD} (hi : s[i]? = some (.ow o)) : ∃ ps', Rep K g He M pins (s.set i (.pu o.d)) σ H ps' := by
  obtain ⟨p, e1, e2, e3⟩ := r.ow i o hi
  have hil : i < σ.length := by
    rw [← r.len]
    exact (List.getElem?_eq_some_iff.mp hi).1
  refine ⟨ps.filter fun q => decide (q ≠ p), ?_⟩
  have sub : ∀ a, a ∈ (ps.filter fun q => decide (q ≠ p)) ++ M → a ∈ ps ++ M := fun a ha => by
    rcases List.mem_append.mp ha with h | h
    · exact List.mem_append_left _ (List.mem_filter.mp h).1
    · exact List.mem_append_right _ h
  have hx : Ex (hid H (ps ++ M)) (hid H ((ps.filter fun q => decide (q ≠ p)) ++ M)) := hid_sub sub
  have hp : p ∉ (ps.filter fun q => decide (q ≠ p)) ++ M := fun z => by
    rcases List.mem_append.mp z with h | h
    · exact of_decide_eq_true (List.mem_filter.mp h).2 rfl
    · exact r.out p e2 h
  refine { msk := ⟨fun a ha => r.msk.some' a (sub a ha), fun a c q => ⟨List.mem_append_right _ (r.base.feed a c q).1, List.mem_append_right _ (r.base.feed a c q).2.1, (r.base.feed a c q).2.2⟩⟩, base := r.base, out := fun q hq => r.out q (List.mem_filter.mp hq).1, fresh := fun q hq => r.fresh q (List.mem_filter.mp hq).1, stp := r.stp, len := by rw [List.length_set]; exact r.len, pu := fun j e q => ?_, ow := fun j u q => ?_, one := fun j k u w q q1 q2 q3 q4 => ?_, pin := fun x hx' => Rp.ex hx (r.pin x hx') }
  · rcases set_get q with ⟨rfl, h2, h3⟩ | ⟨h1, h2⟩
    · cases h2
      exact ⟨_, e1, e3.rp hx fun u z => by rw [hid_out hp]; exact z⟩
    · obtain ⟨v, q1, q2⟩ := r.pu j e h2
      exact ⟨v, q1, Rp.ex hx q2⟩
  · rcases set_get q with ⟨rfl, h2, h3⟩ | ⟨h1, h2⟩
    · cases h2
    · obtain ⟨w, q1, q2, q3⟩ := r.ow j u h2
      exact ⟨w, q1, List.mem_filter.mpr ⟨q2, decide_eq_true fun z => h1 (r.one i j o u p hi h2 e1 (by rw [q1, z]))⟩, q3.mono hx fun _ z => z⟩
  · rcases set_get q1 with ⟨rfl, h2, h3⟩ | ⟨h1, h2⟩
    · cases h2
    rcases set_get q2 with ⟨rfl, h4, h5⟩ | ⟨h3, h4⟩
    · cases h4
    exact r.one j k u w q h2 h4 q3 q4
/-- T, the name in slot i let go ahead of it -/
def dRel (i : Nat) (T : DTS) : DTS := fun De s => match s[i]? with
  | some (.ow o) => T De (s.set i (.pu o.d))
  | _ => T De s
theorem lds_rel {i : Nat} (h : LdS K g t T) : LdS K g t (dRel i T) := fun He M pins s σ H De Dn r f l => by
  unfold dRel at f
  split at f
  · rename_i o e
    obtain ⟨ps, r⟩ := r
    obtain ⟨ps', r'⟩ := r.rel e
    exact h He M pins _ σ H De Dn ⟨ps', r'⟩ f l
  · exact h He M pins s σ H De Dn r f l
theorem ds_rel {i : Nat} (h : DS X K g st t T) : DS X K g st t (dRel i T) := ⟨h.ps, lds_rel h.ld⟩
theorem dss_rel {i : Nat} (h : DSs X K g rest t T) : DSs X K g rest t (dRel i T) := ⟨h.ps, lds_rel h.ld⟩
/-- xs.append(e), xs owned -/
def dApp (i : Nat) (F : FE) : DTS := fun De s => match s[i]? with
  | some (.ow (.lst ds)) => F (bln s) fun d => ds.length < sizeLine ∧ De.nx (s.set i (.ow (.lst (ds ++ [d]))))
  | _ => False
theorem ds_app {i : Nat} {x : Str} {p1 p2 : Pos} (hx : PE X (.Name x p1) (tVar i)) (he : DE X K g e te Fe) (hs : swapsWith (.Call (.Attribute (.Name x p1) "append" p2) [e] [] pos) none pos.line X.env = pure false := by rfl)
    (hb : PE X (.Call (.Attribute (.Name x p1) "append" p2) [e] [] pos) (tBM K "list" rAppend (tVar i) (tCons te tNil))) : DS X K g (.Expr (.Call (.Attribute (.Name x p1) "append" p2) [e] [] pos) pos) (tDrop (tBM K "list" rAppend (tVar i) (tCons te tNil))) (dApp i Fe) :=
  ⟨ps_expr hb hs, fun He M pins s σ H De Dn r f l => by
    unfold dApp at f
    split at f
    · rename_i ds e0
      obtain ⟨ps, r0⟩ := r
      obtain ⟨p, e1, hp, vs, e2, e3⟩ := r0.ow i _ e0
      refine ⟨_, e1, .inl ⟨rfl, _, SqL.of e2⟩, ?_⟩
      refine RepS.bl ⟨ps, r0⟩ he f fun ps' d v H' r' q rp => ?_
      obtain ⟨p', e1', hp', vs', e2', e3'⟩ := r'.ow i _ e0
      rw [e1] at e1'
      cases e1'
      refine ⟨p, vs', v, rfl, rfl, e2', by rw [← e3'.len]; exact q.1, ?_⟩
      exact l.nx _ _ _ ⟨ps', r'.write (o' := .lst (ds ++ [_])) e0 e1 ⟨vs' ++ [v], upd_same, e3'.app ⟨v, [], rfl, rp, rfl⟩⟩⟩ q.2
    · exact f.elim⟩

/-! targets -/
abbrev Bs := List (Nat × D)
def setE (ρ : Rho) : Bs → Rho
  | [] => ρ
  | (i, d) :: bs => setE (ρ.set i (some d)) bs
def setD (s : DSt) : Bs → DSt
  | [] => s
  | (i, d) :: bs => setD (s.set i (.pu d)) bs
def setS (σ : St) : List (Nat × V) → St
  | [] => σ
  | (i, v) :: ws => setS (σ.set i (some v)) ws
def BR (h : Hp) (K : PySem.W.Frag) : Bs → List (Nat × V) → Prop
  | [], ws => ws = []
  | (i, d) :: bs, ws => ∃ v ws', ws = (i, v) :: ws' ∧ Rp h K d v ∧ BR h K bs ws'
theorem BR.ex {h h' : Hp} (e : Ex h h') : ∀ {bs : Bs} {ws : List (Nat × V)}, BR h K bs ws → BR h' K bs ws
  | [], _, r => r
  | (i, d) :: bs, _, r => by
    obtain ⟨v, ws', e1, e2, e3⟩ := r
    exact ⟨v, ws', e1, Rp.ex e e2, BR.ex e e3⟩
theorem BR.app {h : Hp} : ∀ {bs cs : Bs} {ws zs : List (Nat × V)}, BR h K bs ws → BR h K cs zs → BR h K (bs ++ cs) (ws ++ zs)
  | [], _, _, _, r, q => by rw [show _ = _ from r]; exact q
  | (i, d) :: bs, _, _, _, r, q => by
    obtain ⟨v, ws', e1, e2, e3⟩ := r
    subst e1
    exact ⟨v, ws' ++ _, rfl, e2, BR.app e3 q⟩
theorem setS_app (σ : St) : ∀ (ws zs : List (Nat × V)), setS σ (ws ++ zs) = setS (setS σ ws) zs := by
  intro ws
  induction ws generalizing σ with
  | nil => intro zs; rfl
  | cons p ws ih => intro zs; exact ih _ zs
theorem Rep.setB : ∀ {bs : Bs} {ws : List (Nat × V)} {s : DSt} {σ : St}, Rep K g He M pins s σ H ps → BR (hid H (ps ++ M)) K bs ws → Rep K g He M pins (setD s bs) (setS σ ws) H ps
  | [], _, s, σ, r, b => by rw [show _ = _ from b]; exact r
  | (i, d) :: bs, _, s, σ, r, b => by
    obtain ⟨v, ws', e1, e2, e3⟩ := b
    subst e1
    exact Rep.setB (bs := bs) (s := s.set i (.pu d)) (σ := σ.set i (some v)) (r.setP e2) e3
theorem REnv.setB {h : Hp} : ∀ {bs : Bs} {ws : List (Nat × V)} {ρ : Rho} {σ : St}, REnv K h ρ σ → BR h K bs ws → REnv K h (setE ρ bs) (setS σ ws)
  | [], _, s, σ, r, b => by rw [show _ = _ from b]; exact r
  | (i, d) :: bs, _, s, σ, r, b => by
    obtain ⟨v, ws', e1, e2, e3⟩ := b
    subst e1
    exact REnv.setB (bs := bs) (ρ := s.set i (some d)) (σ := σ.set i (some v)) (r.set e2) e3
structure DG (X : Cx) (K : PySem.W.Frag) (tg : Expr) (t : TG) (G : D → Option Bs) (ix : List Nat) : Prop where
  pg : PG X tg t
  ld : ∀ M H d v bs σ Q, Rp (hid H M) K d v → G d = some bs → (∀ ws, BR (hid H M) K bs ws → (∀ p ∈ ws, p.1 ∈ ix) → Q (setS σ ws) H) → t v σ H Q
structure DGs (X : Cx) (K : PySem.W.Frag) (tgs : List Expr) (t : TGs) (G : List D → Option Bs) (ix : List Nat) : Prop where
  pg : PGs X tgs t
  ld : ∀ M H ds vs bs σ Q, RpL (hid H M) K ds vs → G ds = some bs → (∀ ws, BR (hid H M) K bs ws → (∀ p ∈ ws, p.1 ∈ ix) → Q (setS σ ws) H) → t vs σ H Q
def gtName (i : Nat) : D → Option Bs := fun d => some [(i, d)]
theorem dg_name {i : Nat} {tg : Expr} (h : PG X tg (gName i)) : DG X K tg (gName i) (gtName i) [i] := ⟨h, fun M H d v bs σ Q r e q => by
  cases e
  exact q [(i, v)] ⟨v, [], rfl, r, rfl⟩ fun p hp => by rw [List.mem_singleton.mp hp]; exact List.mem_singleton.mpr rfl⟩
def gtNil : List D → Option Bs
  | [] => some []
  | _ => none
def gtCons (G : D → Option Bs) (R : List D → Option Bs) : List D → Option Bs
  | [] => none
  | d :: ds => match G d, R ds with
    | some a, some b => some (a ++ b)
    | _, _ => none
theorem dgs_nil : DGs X K [] gNil gtNil [] := ⟨pgs_nil, fun M H ds vs bs σ Q r e q => by
  cases ds with
  | nil =>
    cases e
    rw [show _ = _ from r]
    exact ⟨rfl, q [] rfl fun p hp => absurd hp (by simp)⟩
  | cons d ds => cases e⟩
theorem dgs_cons {a : Expr} {es : List Expr} {t : TG} {u : TGs} {G : D → Option Bs} {R : List D → Option Bs} {ix iy : List Nat} (h1 : DG X K a t G ix) (h2 : DGs X K es u R iy)
    (hs : (assignEach (a :: es) X.env).map (·.2) = assign a X.env :: (assignEach es X.env).map (·.2) := by rfl) : DGs X K (a :: es) (gCons t u) (gtCons G R) (ix ++ iy) := ⟨pgs_cons h1.pg h2.pg hs, fun M H ds vs bs σ Q r e q => by
  cases ds with
  | nil => cases e
  | cons d ds =>
    unfold gtCons at e
    simp only at e
    split at e
    · rename_i a1 b1 ea eb
      cases e
      obtain ⟨v, vs', e1, e2, e3⟩ := r
      refine ⟨v, vs', e1, h1.ld M H d v a1 σ _ e2 ea fun ws bw hw => h2.ld M H ds vs' b1 _ _ e3 eb fun zs bz hz => ?_⟩
      rw [← setS_app]
      exact q (ws ++ zs) (bw.app bz) fun p hp => (List.mem_append.mp hp).elim (fun z => List.mem_append_left _ (hw p z)) fun z => List.mem_append_right _ (hz p z)
    · cases e⟩
def gtTup (n : Nat) (R : List D → Option Bs) : D → Option Bs
  | .tup ds => if ds.length = n then R ds else none
  | _ => none
theorem dg_tup {es : List Expr} {k n : Nat} {t : TGs} {R : List D → Option Bs} {ix : List Nat} (hp : PG X (.Tuple es k pos) (gTup K n t)) (h : DGs X K es t R ix) : DG X K (.Tuple es k pos) (gTup K n t) (gtTup n R) ix := ⟨hp, fun M H d v bs σ Q r e q => by
  cases d with
  | tup ds =>
    unfold gtTup at e
    simp only at e
    split at e
    · rename_i hn
      obtain ⟨a, vs, e1, e2, e3⟩ := r
      exact ⟨a, vs, e1, hid_ex.sqt e2.sqt, by rw [← e3.len]; exact hn, h.ld M H ds vs bs σ Q e3 e q⟩
    · cases e
  | _ => cases e⟩
/-- (a, b) = e by a target -/
def dAsg (G : D → Option Bs) (F : FE) : DTS := fun De s => F (bln s) fun d => match G d with
  | some bs => De.nx (setD s bs)
  | none => False
theorem ds_asg {tg : Expr} {tG : TG} {G : D → Option Bs} {ix : List Nat} (hp : PS X st (tAsg te tG)) (hg : DG X K tg tG G ix) (he : DE X K g e te Fe) : DS X K g st (tAsg te tG) (dAsg G Fe) :=
  ⟨hp, fun He M pins s σ H De Dn r h l => r.bl he h fun ps d v H' r' p rp => by
    split at p
    · rename_i bs eg
      exact hg.ld (ps ++ M) H' d v bs σ _ rp eg fun ws bw _ => l.nx _ _ _ ⟨ps, r'.setB bw⟩ p
    · exact p.elim⟩
/-- a, b = x, y -/
def dPar (i j : Nat) (R : FA) : DTS := fun De s => R (bln s) fun ds => match ds with
  | [d, e] => De.nx ((s.set i (.pu d)).set j (.pu e))
  | _ => False
theorem ds_par {i j : Nat} {es : List Expr} {ta : TA} {R : FA} (hp : PS X st (tPar i j ta)) (ha : DA X K g es ta R) : DS X K g st (tPar i j ta) (dPar i j R) :=
  ⟨hp, fun He M pins s σ H De Dn ⟨ps, r⟩ h l => ha.ld (ps ++ M) (bln s) σ H _ _ r.msk r.bln h fun ds vs H' p st rp => by
    split at p
    · obtain ⟨v, vs', rfl, r1, w, ws, rfl, r2, r3⟩ := rp
      rw [show _ = _ from r3]
      exact ⟨v, w, rfl, l.nx _ _ _ ⟨ps, ((r.step st).setP r1).setP r2⟩ p⟩
    · exact p.elim⟩

/-! what is walked -/
structure ItOk (K : PySem.W.Frag) (g : GG) (J : It) (pl : List (D × V)) (ds : List D) : Prop where
  stop : ∀ M H, Msk K g M H → (∀ x ∈ pl, Rp (hid H M) K x.1 x.2) → J.stop ds.length H
  item : ∀ M H i d, Msk K g M H → (∀ x ∈ pl, Rp (hid H M) K x.1 x.2) → ds[i]? = some d → J.go i H ∧ ∀ x H', J.yld i H x H' → Stp K g H H' ∧ Rp (hid H' M) K d x
structure DI (X : Cx) (K : PySem.W.Frag) (g : GG) (tg iter : Expr) (wi : TI) (F : FA) : Prop where
  pi : PI X tg iter wi
  ld : ∀ M ρ σ H P R, Msk K g M H → REnv K (hid H M) ρ σ → F ρ P → (∀ J H' ds pl, P ds → Stp K g H H' → (∀ x ∈ pl, Rp (hid H' M) K x.1 x.2) → ItOk K g J pl ds → R J H') → wi σ H R
def forL (G : D → Option Bs) (B : DTS) (De : DEnds) : List D → DSt → Prop
  | [], s => De.nx s
  | d :: ds, s => match G d with
    | some bs => B { nx := fun s' => forL G B De ds s', rt := De.rt, bk := De.nx, ct := fun s' => forL G B De ds s' } (setD s bs)
    | none => False
def dFor (F : FA) (G : D → Option Bs) (B : DTS) : DTS := fun De s => F (bln s) fun ds => forL G B De ds s
theorem ds_for {tg iter : Expr} {body : List Stmt} {wi : TI} {F : FA} {tG : TG} {G : D → Option Bs} {ix : List Nat} (hp : PassesOwn (model X.prog X.w) X.A X.env X.xe) (hc : X.calm = true) (hi : DI X K g tg iter wi F) (hg : DG X K tg tG G ix) (hb : DSs X K g body t T)
    (hs : ∀ x, foldedSetIterable iter X.env x = pure x := by intro _; rfl) : DS X K g (.For tg iter body [] pos) (tFor wi tG t) (dFor F G T) :=
  ⟨ps_for hp hc hi.pi hg.pg hb.ps hs, fun He M pins s σ H De Dn ⟨ps, r⟩ h l => by
    refine hi.ld (ps ++ M) (bln s) σ H _ _ r.msk r.bln h fun J H1 ds pl p1 s1 rp1 iok => ?_
    refine ⟨fun i m σ H => m = ds.length - i ∧ i ≤ ds.length ∧ ∃ s, RepS K g He M (pl ++ pins) s σ H ∧ forL G T De (ds.drop i) s, ⟨ds.length, by simp, Nat.zero_le _, s, ⟨ps, (r.step s1).pinned rp1⟩, p1⟩, ?_⟩
    rintro i m σ2 H2 ⟨rfl, hi', s2, ⟨ps2, r2⟩, f2⟩
    have rpin : ∀ x ∈ pl, Rp (hid H2 (ps2 ++ M)) K x.1 x.2 := fun x hx => r2.pin x (List.mem_append_left _ hx)
    by_cases hlt : i < ds.length
    · obtain ⟨d, hd⟩ : ∃ d, ds[i]? = some d := ⟨ds[i], by simp [hlt]⟩
      have e : ds.drop i = d :: ds.drop (i + 1) := by
        rw [List.drop_eq_getElem_cons hlt]
        congr 1
        exact (List.getElem?_eq_some_iff.mp hd).2
      rw [e] at f2
      unfold forL at f2
      split at f2
      · rename_i bs eg
        obtain ⟨go, yl⟩ := iok.item (ps2 ++ M) H2 i d r2.msk rpin hd
        refine .inr ⟨go, fun σ' H' => ∃ s', RepS K g He M (pl ++ pins) s' σ' H' ∧ forL G T De (ds.drop (i + 1)) s', fun σ' H' ⟨s', a, b⟩ => ⟨ds.length - (i + 1), by omega, rfl, hlt, s', a, b⟩, fun x H' y => ?_⟩
        obtain ⟨st', rx⟩ := yl x H' y
        refine hg.ld (ps2 ++ M) H' d x bs σ2 _ rx eg fun ws bw _ => ?_
        refine hb.ld He M (pl ++ pins) (setD s2 bs) (setS σ2 ws) H' _ _ ⟨ps2, (r2.step st').setB bw⟩ f2 ⟨fun s' σ' H' a b => ⟨s', a, b⟩, l.rt, fun s' σ' H' a b => l.nx _ _ _ a.unpin b, fun s' σ' H' a b => ⟨s', a, b⟩⟩
      · exact f2.elim
    · have e : i = ds.length := by omega
      subst e
      rw [List.drop_length] at f2
      exact .inl ⟨iok.stop (ps2 ++ M) H2 r2.msk rpin, l.nx _ _ _ ⟨ps2, r2.unpin⟩ f2⟩⟩
/-- a for over a value in sight (the walked list is let go by dRel ahead) is dFor; a while: by an invariant -/
def dWhile (A : FT) (B : DTS) : DTS := fun De s => ∃ W : Nat → DSt → Prop, (∃ m, W m s) ∧ ∀ m s, W m s → A (opn s) fun b => if b = true then B { nx := fun s' => ∃ m', m' < m ∧ W m' s', rt := De.rt, bk := De.nx, ct := fun s' => ∃ m', m' < m ∧ W m' s' } s else De.nx s
theorem ds_while {A : FT} {tA : TT} {body : List Stmt} (hp : PassesOwn (model X.prog X.w) X.A X.env X.xe) (hc : DT X K g c tA A) (hb : DSs X K g body t T) : DS X K g (.While c body [] pos) (tWhile tA t) (dWhile A T) :=
  ⟨ps_while hp hc.pt hb.ps, fun He M pins s σ H De Dn r h l => by
    obtain ⟨W, ⟨m0, w0⟩, turn⟩ := h
    refine ⟨fun m σ H => ∃ s, RepS K g He M pins s σ H ∧ W m s, ⟨m0, s, r, w0⟩, ?_⟩
    rintro m σ2 H2 ⟨s2, r2, w2⟩
    refine r2.opT hc (turn m s2 w2) fun b H3 r3 p => ?_
    cases b with
    | false => exact l.nx _ _ _ r3 p
    | true =>
      refine ⟨fun σ' H' => ∃ s', RepS K g He M pins s' σ' H' ∧ ∃ m', m' < m ∧ W m' s', fun σ' H' ⟨s', a, m', b, c⟩ => ⟨m', b, s', a, c⟩, ?_⟩
      exact hb.ld He M pins s2 σ2 H3 _ _ r3 p ⟨fun s' σ' H' a b => ⟨s', a, b⟩, l.rt, fun s' σ' H' a b => l.nx _ _ _ a b, fun s' σ' H' a b => ⟨s', a, b⟩⟩⟩
end
end PL

set_option maxHeartbeats 1000000
/-! The data layer: iterations, comprehensions, calls, operators. -/
namespace PL
open PySem PySem.Spec L2

section
variable {X : Cx} {K : PySem.W.Frag} {g : GG} {He H H' : Hp} {M ps : List Addr} {pins : List (D × V)} {e c tg : Expr} {te : TE} {Fe : FE} {pos : Pos}
/-! iterations -/
theorem SqL_inj {H : Hp} {a : Addr} {xs ys : List V} (h : H a = some (.lst xs)) (h' : Rd H a (.lst ys)) : ys = xs := by
  rcases h' with h' | ⟨o, h'⟩
  · rw [h] at h'
    cases h'
    rfl
  · rw [h] at h'
    cases h'
def fSeqL (F : FE) : FA := fun ρ P => F ρ fun d => match d with
  | .lst ds => P ds
  | _ => False
def fSeqT (F : FE) : FA := fun ρ P => F ρ fun d => match d with
  | .tup ds => P ds
  | _ => False
/-- what is yielded at turn i of a list that stands: its item (the written part bears no tracked list) -/
theorem it_list {a : Addr} {ds : List D} : ItOk K g (Itl K a) [(.lst ds, .ref a)] ds where
  stop := fun M H m r => by
    obtain ⟨b, vs, e1, e2, e3⟩ := r _ (List.mem_singleton.mpr rfl)
    cases e1
    exact ⟨vs, SqL.of (hid_some e2).1, by rw [e3.len]; exact Nat.le_refl _⟩
  item := fun M H i d m r hd => by
    obtain ⟨b, vs, e1, e2, e3⟩ := r _ (List.mem_singleton.mpr rfl)
    cases e1
    obtain ⟨v, hv, rv⟩ := e3.get hd
    refine ⟨⟨vs, v, SqL.of (hid_some e2).1, hv⟩, fun x H' y => ?_⟩
    obtain ⟨rfl, y⟩ := y
    have q := y vs (SqL.of (hid_some e2).1)
    rw [hv] at q
    cases q
    exact ⟨.refl, rv⟩
theorem it_tup {a : Addr} {ds : List D} : ItOk K g (Itt K a) [(.tup ds, .ref a)] ds where
  stop := fun M H m r => by
    obtain ⟨b, vs, e1, e2, e3⟩ := r _ (List.mem_singleton.mpr rfl)
    cases e1
    exact ⟨vs, hid_ex.sqt e2.sqt, by rw [e3.len]; exact Nat.le_refl _⟩
  item := fun M H i d m r hd => by
    obtain ⟨b, vs, e1, e2, e3⟩ := r _ (List.mem_singleton.mpr rfl)
    cases e1
    obtain ⟨v, hv, rv⟩ := e3.get hd
    refine ⟨⟨vs, v, hid_ex.sqt e2.sqt, hv⟩, fun x H' y => ?_⟩
    obtain ⟨rfl, y⟩ := y
    have q := y vs (hid_ex.sqt e2.sqt)
    rw [hv] at q
    cases q
    exact ⟨.refl, rv⟩
theorem di_list (he : DE X K g e te Fe) (hp : PI X tg e (iList K te)) : DI X K g tg e (iList K te) (fSeqL Fe) := ⟨hp, fun M ρ σ H P R m r f q =>
  he.ld M ρ σ H _ _ m r f fun d v H1 p1 s1 r1 => by
    cases d with
    | lst ds =>
      obtain ⟨a, vs, rfl, e2, e3⟩ := id r1
      exact ⟨a, rfl, ⟨vs, SqL.of (hid_some e2).1⟩, q _ _ ds _ p1 s1 (fun x hx => by rw [List.mem_singleton.mp hx]; exact r1) it_list⟩
    | _ => exact p1.elim⟩
theorem di_tup (he : DE X K g e te Fe) (hp : PI X tg e (iTup K te)) : DI X K g tg e (iTup K te) (fSeqT Fe) := ⟨hp, fun M ρ σ H P R m r f q =>
  he.ld M ρ σ H _ _ m r f fun d v H1 p1 s1 r1 => by
    cases d with
    | tup ds =>
      obtain ⟨a, vs, rfl, e2, e3⟩ := id r1
      exact ⟨a, rfl, ⟨vs, hid_ex.sqt e2.sqt⟩, q _ _ ds _ p1 s1 (fun x hx => by rw [List.mem_singleton.mp hx]; exact r1) it_tup⟩
    | _ => exact p1.elim⟩
/-- the signs of a text -/
def signs (x : Str) : List D := x.cps.toList.map fun c => .str ⟨#[c]⟩
def fSigns (F : FE) : FA := fun ρ P => F ρ fun d => match d with
  | .str x => P (signs x)
  | _ => False
theorem it_str {x : Str} : ItOk K g (Its x) [] (signs x) where
  stop := fun M H m r => by
    show x.cps.size ≤ (signs x).length
    unfold signs
    rw [List.length_map, Array.length_toList]
    exact Nat.le_refl _
  item := fun M H i d m r hd => by
    obtain ⟨c, e1, e2⟩ := map_get hd
    rw [Array.getElem?_toList] at e1
    refine ⟨(Array.getElem?_eq_some_iff.mp e1).1, fun y H' z => ?_⟩
    obtain ⟨rfl, c', e3, e4⟩ := z
    rw [e1] at e3
    cases e3
    subst e4 e2
    exact ⟨.refl, rfl⟩
theorem di_str (he : DE X K g e te Fe) (hp : PI X tg e (iStr te)) : DI X K g tg e (iStr te) (fSigns Fe) := ⟨hp, fun M ρ σ H P R m r f q =>
  he.ld M ρ σ H _ _ m r f fun d v H1 p1 s1 r1 => by
    cases d with
    | str x => exact ⟨x, r1, q _ _ _ [] p1 s1 (fun x hx => absurd hx (by simp)) it_str⟩
    | _ => exact p1.elim⟩
def intsD (lo : Int) (n : Nat) : List D := (List.range n).map fun (i : Nat) => D.int (lo + (i : Int))
theorem it_range {lo : Int} {n : Nat} : ItOk K g (Itr lo n) [] (intsD lo n) where
  stop := fun M H m r => by
    show n ≤ (intsD lo n).length
    unfold intsD
    rw [List.length_map, List.length_range]
    exact Nat.le_refl _
  item := fun M H i d m r hd => by
    obtain ⟨c, e1, e2⟩ := map_get hd
    have hi : i < n := by simpa using (List.getElem?_eq_some_iff.mp e1).1
    refine ⟨hi, fun y H' z => ?_⟩
    obtain ⟨rfl, e3⟩ := z
    subst e3 e2
    rw [List.getElem?_range hi] at e1
    cases e1
    exact ⟨.refl, rfl⟩
def fRng1 (R : FA) : FA := fun ρ P => R ρ fun ds => match ds with
  | [.int j] => j < 2 ^ 62 ∧ -(2 ^ 62) ≤ j ∧ P (intsD 0 j.toNat)
  | _ => False
def fRng2 (R : FA) : FA := fun ρ P => R ρ fun ds => match ds with
  | [.int i, .int j] => (-(2 ^ 62) ≤ i ∧ i < 2 ^ 62 ∧ -(2 ^ 62) ≤ j ∧ j < 2 ^ 62) ∧ P (intsD i (j - i).toNat)
  | _ => False
theorem di_rng1 {es : List Expr} {ta : TA} {R : FA} (ha : DA X K g es ta R) (hp : PI X tg e (iRng1 ta)) : DI X K g tg e (iRng1 ta) (fRng1 R) := ⟨hp, fun M ρ σ H P R' m r f q =>
  ha.ld M ρ σ H _ _ m r f fun ds vs H1 p1 s1 r1 => by
    split at p1
    · obtain ⟨v, vs', rfl, r1, r2⟩ := r1
      obtain rfl := r2
      obtain rfl := r1
      exact ⟨_, rfl, p1.2.1, p1.1, q _ _ _ [] p1.2.2 s1 (fun x hx => absurd hx (by simp)) it_range⟩
    · exact p1.elim⟩
theorem di_rng2 {es : List Expr} {ta : TA} {R : FA} (ha : DA X K g es ta R) (hp : PI X tg e (iRng2 ta)) : DI X K g tg e (iRng2 ta) (fRng2 R) := ⟨hp, fun M ρ σ H P R' m r f q =>
  ha.ld M ρ σ H _ _ m r f fun ds vs H1 p1 s1 r1 => by
    split at p1
    · obtain ⟨v, vs', rfl, r1, w, ws, rfl, r2, r3⟩ := r1
      obtain rfl := r3
      obtain rfl := r2
      obtain rfl := r1
      exact ⟨_, _, rfl, p1.1, q _ _ _ [] p1.2 s1 (fun x hx => absurd hx (by simp)) it_range⟩
    · exact p1.elim⟩
/-- zip of two lists, of two tuples: new pairs -/
def zipD : List D → List D → List D
  | x :: xs, y :: ys => .tup [x, y] :: zipD xs ys
  | _, _ => []
theorem zipD_len : ∀ xs ys : List D, (zipD xs ys).length = min xs.length ys.length
  | [], ys => by simp [zipD]
  | x :: xs, [] => by simp [zipD]
  | x :: xs, y :: ys => by
    show (zipD xs ys).length + 1 = min (xs.length + 1) (ys.length + 1)
    rw [zipD_len xs ys]
    omega
theorem zipD_get : ∀ {xs ys : List D} {i : Nat} {d : D}, (zipD xs ys)[i]? = some d → ∃ x y, xs[i]? = some x ∧ ys[i]? = some y ∧ d = .tup [x, y]
  | [], ys, i, d, h => by simp [zipD] at h
  | x :: xs, [], i, d, h => by simp [zipD] at h
  | x :: xs, y :: ys, 0, d, h => by
    simp [zipD] at h
    exact ⟨x, y, rfl, rfl, h.symm⟩
  | x :: xs, y :: ys, i + 1, d, h => by
    obtain ⟨a, b, h1, h2, h3⟩ := zipD_get (xs := xs) (ys := ys) (i := i) (d := d) (by simpa [zipD] using h)
    exact ⟨a, b, by simpa using h1, by simpa using h2, h3⟩
def fZip (R : FA) : FA := fun ρ P => R ρ fun ds => match ds with
  | [.lst xs, .lst ys] => P (zipD xs ys)
  | [.tup xs, .tup ys] => P (zipD xs ys)
  | _ => False
theorem pair_new {M : List Addr} {H : Hp} {T : Addr} {x y : D} {v w : V} (m : Msk K g M H) (hT : H T = none) (r1 : Rp (hid H M) K x v) (r2 : Rp (hid H M) K y w) : Stp K g H (upd H T (.tup [v, w])) ∧ Rp (hid (upd H T (.tup [v, w])) M) K (.tup [x, y]) (.ref T) :=
  ⟨.new hT, by
    have e := hid_upd (H := H) (o := .tup [v, w]) (m.out hT)
    have ex : Ex (hid H M) (hid (upd H T (.tup [v, w])) M) := by
      rw [e]
      exact ex_new (by rw [hid_out (m.out hT)]; exact hT)
    exact ⟨T, [v, w], rfl, .inl (by rw [e]; exact upd_same), v, [w], rfl, Rp.ex ex r1, w, [], rfl, Rp.ex ex r2, rfl⟩⟩
theorem it_zipL {a b : Addr} {xs ys : List D} : ItOk K g (Itz K a b) [(.lst xs, .ref a), (.lst ys, .ref b)] (zipD xs ys) where
  stop := fun M H m r => by
    obtain ⟨_, vs, e1, e2, e3⟩ := r (.lst xs, .ref a) (by simp)
    obtain ⟨_, ws, q1, q2, q3⟩ := r (.lst ys, .ref b) (by simp)
    cases e1
    cases q1
    refine ⟨vs, ws, SqL.of (hid_some e2).1, SqL.of (hid_some q2).1, ?_⟩
    rw [zipD_len, ← e3.len, ← q3.len]
    omega
  item := fun M H i d m r hd => by
    obtain ⟨_, vs, e1, e2, e3⟩ := r (.lst xs, .ref a) (by simp)
    obtain ⟨_, ws, q1, q2, q3⟩ := r (.lst ys, .ref b) (by simp)
    cases e1
    cases q1
    obtain ⟨x, y, h1, h2, rfl⟩ := zipD_get hd
    obtain ⟨v, hv, rv⟩ := e3.get h1
    obtain ⟨w, hw, rw'⟩ := q3.get h2
    refine ⟨⟨vs, ws, v, w, SqL.of (hid_some e2).1, SqL.of (hid_some q2).1, hv, hw⟩, fun z H' yl => ?_⟩
    obtain ⟨T, v', w', rfl, hT, rfl, k1, k2⟩ := yl
    have a1 := k1 vs (SqL.of (hid_some e2).1)
    have a2 := k2 ws (SqL.of (hid_some q2).1)
    rw [hv] at a1
    rw [hw] at a2
    cases a1
    cases a2
    exact pair_new m hT rv rw'
theorem it_zipT {a b : Addr} {xs ys : List D} : ItOk K g (RZ.ItzT K a b) [(.tup xs, .ref a), (.tup ys, .ref b)] (zipD xs ys) where
  stop := fun M H m r => by
    obtain ⟨_, vs, e1, e2, e3⟩ := r (.tup xs, .ref a) (by simp)
    obtain ⟨_, ws, q1, q2, q3⟩ := r (.tup ys, .ref b) (by simp)
    cases e1
    cases q1
    refine ⟨vs, ws, hid_ex.sqt e2.sqt, hid_ex.sqt q2.sqt, ?_⟩
    rw [zipD_len, ← e3.len, ← q3.len]
    omega
  item := fun M H i d m r hd => by
    obtain ⟨_, vs, e1, e2, e3⟩ := r (.tup xs, .ref a) (by simp)
    obtain ⟨_, ws, q1, q2, q3⟩ := r (.tup ys, .ref b) (by simp)
    cases e1
    cases q1
    obtain ⟨x, y, h1, h2, rfl⟩ := zipD_get hd
    obtain ⟨v, hv, rv⟩ := e3.get h1
    obtain ⟨w, hw, rw'⟩ := q3.get h2
    refine ⟨⟨vs, ws, v, w, hid_ex.sqt e2.sqt, hid_ex.sqt q2.sqt, hv, hw⟩, fun z H' yl => ?_⟩
    obtain ⟨T, v', w', rfl, hT, rfl, k1, k2⟩ := yl
    have a1 := k1 vs (hid_ex.sqt e2.sqt)
    have a2 := k2 ws (hid_ex.sqt q2.sqt)
    rw [hv] at a1
    rw [hw] at a2
    cases a1
    cases a2
    exact pair_new m hT rv rw'
theorem di_zip {es : List Expr} {ta : TA} {R : FA} (ha : DA X K g es ta R) (hp : PI X tg e (RZ.iZipA K ta)) : DI X K g tg e (RZ.iZipA K ta) (fZip R) := ⟨hp, fun M ρ σ H P R' m r f q =>
  ha.ld M ρ σ H _ _ m r f fun ds vs H1 p1 s1 r1 => by
    have pins : ∀ {x y : D} {v w : V}, Rp (hid H1 M) K x v → Rp (hid H1 M) K y w → ∀ z ∈ [(x, v), (y, w)], Rp (hid H1 M) K z.1 z.2 := fun {x y v w} a b z hz => by
      rcases List.mem_cons.mp hz with rfl | hz
      · exact a
      · rw [List.mem_singleton.mp hz]
        exact b
    split at p1
    · obtain ⟨v, vs', rfl, r1, w, ws, rfl, r2, r3⟩ := r1
      obtain rfl := r3
      obtain ⟨a, us, rfl, h1, h2⟩ := id r1
      obtain ⟨b, zs, rfl, h3, h4⟩ := id r2
      exact ⟨a, b, us, zs, rfl, .inl ⟨SqL.of (hid_some h1).1, SqL.of (hid_some h3).1, q _ _ _ _ p1 s1 (pins r1 r2) it_zipL⟩⟩
    · obtain ⟨v, vs', rfl, r1, w, ws, rfl, r2, r3⟩ := r1
      obtain rfl := r3
      obtain ⟨a, us, rfl, h1, h2⟩ := id r1
      obtain ⟨b, zs, rfl, h3, h4⟩ := id r2
      exact ⟨a, b, us, zs, rfl, .inr ⟨hid_ex.sqt h1.sqt, hid_ex.sqt h3.sqt, q _ _ _ _ p1 s1 (pins r1 r2) it_zipT⟩⟩
    · exact p1.elim⟩
/-! comprehensions -/
structure DTt (X : Cx) (K : PySem.W.Frag) (g : GG) (ifs : List Expr) (t : TT) (F : FT) : Prop where
  pt : PTs X ifs t
  ld : ∀ M ρ σ H P Q, Msk K g M H → REnv K (hid H M) ρ σ → F ρ P → PB K g H P Q → t σ H Q
def fYes : FT := fun _ P => P true
theorem dts_nil : DTt X K g [] tYes fYes := ⟨pts_nil, fun M ρ σ H P Q m r f q => q true H f .refl⟩
theorem dts_one {t : TT} {A : FT} (h : DT X K g c t A) : DTt X K g [c] t A := ⟨pts_one h.pt, h.ld⟩
def wipeE (ρ : Rho) : List Nat → Rho
  | [] => ρ
  | v :: vs => (wipeE ρ vs).set v none
theorem wipe_none {σ : St} : ∀ {vs : List Nat} {i : Nat}, i ∈ vs → i < σ.length → (wipe σ vs)[i]? = some none
  | v :: vs, i, h, hl => by
    unfold wipe
    by_cases e : v = i
    · subst e
      rw [List.getElem?_set_self (by rw [wipe_length]; exact hl)]
    · rw [List.getElem?_set_ne e]
      exact wipe_none ((List.mem_cons.mp h).elim (fun z => absurd z.symm e) id) hl
theorem wipe_keep {σ : St} : ∀ {vs : List Nat} {i : Nat}, i ∉ vs → (wipe σ vs)[i]? = σ[i]?
  | [], _, _ => rfl
  | v :: vs, i, h => by
    unfold wipe
    rw [List.getElem?_set_ne fun e => h (by rw [e]; exact List.mem_cons_self ..)]
    exact wipe_keep fun z => h (List.mem_cons_of_mem _ z)
theorem wipe_back {σ τ : St} {vs : List Nat} (hl : τ.length = σ.length) (h : ∀ i, i ∉ vs → τ[i]? = (wipe σ vs)[i]?) : wipe τ vs = wipe σ vs := by
  apply List.ext_getElem?
  intro i
  by_cases hi : i ∈ vs
  · by_cases hs : i < σ.length
    · rw [wipe_none hi hs, wipe_none hi (by rw [hl]; exact hs)]
    · rw [List.getElem?_eq_none (by rw [wipe_length]; omega), List.getElem?_eq_none (by rw [wipe_length]; omega)]
  · rw [wipe_keep hi]
    exact h i hi
theorem setS_len : ∀ (ws : List (Nat × V)) (σ : St), (setS σ ws).length = σ.length
  | [], _ => rfl
  | (i, v) :: ws, σ => by
    unfold setS
    rw [setS_len ws, List.length_set]
theorem setS_keep : ∀ (ws : List (Nat × V)) (σ : St) (i : Nat), (∀ p ∈ ws, p.1 ≠ i) → (setS σ ws)[i]? = σ[i]?
  | [], _, _, _ => rfl
  | (j, v) :: ws, σ, i, h => by
    unfold setS
    rw [setS_keep ws _ i fun p hp => h p (List.mem_cons_of_mem _ hp), List.getElem?_set_ne (h (j, v) (List.mem_cons_self ..))]
theorem wipe_setS {σ : St} {vs : List Nat} {ws : List (Nat × V)} (h : ∀ p ∈ ws, p.1 ∈ vs) : wipe (setS (wipe σ vs) ws) vs = wipe σ vs :=
  wipe_back (by rw [setS_len, wipe_length]) fun i hi => setS_keep ws _ i fun p hp z => hi (z ▸ h p hp)
theorem REnv.wipe {h : Hp} {ρ : Rho} {σ : St} (r : REnv K h ρ σ) : ∀ vs : List Nat, REnv K h (wipeE ρ vs) (L2.wipe σ vs)
  | [] => r
  | v :: vs => ⟨by
    unfold wipeE L2.wipe
    rw [List.length_set, List.length_set]
    exact (REnv.wipe r vs).len, fun i d q => by
    unfold wipeE at q
    unfold L2.wipe
    by_cases e : v = i
    · subst e
      by_cases hv : v < (wipeE ρ vs).length
      · rw [List.getElem?_set_self hv] at q
        cases q
      · rw [List.getElem?_eq_none (by simpa using hv)] at q
        cases q
    · rw [List.getElem?_set_ne e] at q ⊢
      exact (REnv.wipe r vs).at' i d q⟩
def compL (G : D → Option Bs) (A : FT) (E : FE) (ρ : Rho) : List D → List D → (List D → Prop) → Prop
  | [], acc, P => P acc
  | d :: ds, acc, P => match G d with
    | some bs => A (setE ρ bs) fun b => if b = true then E (setE ρ bs) fun y => acc.length < sizeLine ∧ compL G A E ρ ds (acc ++ [y]) P else compL G A E ρ ds acc P
    | none => False
def fLc (F : FA) (G : D → Option Bs) (A : FT) (E : FE) (vs : List Nat) : FE := fun ρ P => F ρ fun ds => compL G A E (wipeE ρ vs) ds [] fun acc => P (.lst acc)
theorem ld_lc {wi : TI} {F : FA} {tG : TG} {G : D → Option Bs} {ix vs : List Nat} {tA : TT} {A : FT} {tE : TE} {E : FE} (hix : ∀ i ∈ ix, i ∈ vs)
    (hi : ∀ M ρ σ H P R, Msk K g M H → REnv K (hid H M) ρ σ → F ρ P → (∀ J H' ds pl, P ds → Stp K g H H' → (∀ x ∈ pl, Rp (hid H' M) K x.1 x.2) → ItOk K g J pl ds → R J H') → wi σ H R)
    (hg : ∀ M H d v bs σ Q, Rp (hid H M) K d v → G d = some bs → (∀ ws, BR (hid H M) K bs ws → (∀ p ∈ ws, p.1 ∈ ix) → Q (setS σ ws) H) → tG v σ H Q)
    (ha : ∀ M ρ σ H P Q, Msk K g M H → REnv K (hid H M) ρ σ → A ρ P → PB K g H P Q → tA σ H Q)
    (he : ∀ M ρ σ H P Q, Msk K g M H → REnv K (hid H M) ρ σ → E ρ P → PV K g M H P Q → tE σ H Q) :
    ∀ M ρ σ H P Q, Msk K g M H → REnv K (hid H M) ρ σ → fLc F G A E vs ρ P → PV K g M H P Q → tLc wi tG tA tE vs σ H Q := by
  intro M ρ σ H P Q m r f q
  refine hi M ρ σ H _ _ m r f fun J H1 ds pl p1 s1 rp1 iok => ?_
  intro D0 hD
  have m1 := m.stp s1
  have r1 := (r.ex (s1.hid m)).wipe vs
  have nD : D0 ∉ M := m1.out hD
  -- the heap as it grows beside the new list
  let I : Hp → List V → Prop := fun H2 vs' => Stp K g H1 H2 ∧ H2 D0 = some (.lst vs')
  have hEx : ∀ {H2 vs'}, I H2 vs' → Ex (hid H1 M) (hid H2 (D0 :: M)) := fun {H2 vs'} i a o e => by
    obtain ⟨e1, e2⟩ := hid_some e
    have na : a ≠ D0 := ne_of_none e1 hD
    rw [hid_out (fun z => (List.mem_cons.mp z).elim na e2)]
    exact i.1.keep a o (m1.ng e2) e1
  refine ⟨fun i n H2 => n = ds.length - i ∧ i ≤ ds.length ∧ ∃ acc vs', I H2 vs' ∧ RpL (hid H2 (D0 :: M)) K acc vs' ∧ compL G A E (wipeE ρ vs) (ds.drop i) acc fun acc => P (.lst acc),
    ⟨ds.length, by simp, Nat.zero_le _, [], [], ⟨.new hD, upd_same⟩, rfl, p1⟩, ?_⟩
  rintro i n H2 ⟨rfl, hi', acc, vs', I2, ra, f2⟩
  have m2 : Msk K g (D0 :: M) H2 := (m1.stp I2.1).cons I2.2
  have rpin : ∀ x ∈ pl, Rp (hid H2 (D0 :: M)) K x.1 x.2 := fun x hx => Rp.ex (hEx I2) (rp1 x hx)
  by_cases hlt : i < ds.length
  · obtain ⟨d, hd⟩ : ∃ d, ds[i]? = some d := ⟨ds[i], by simp [hlt]⟩
    have e : ds.drop i = d :: ds.drop (i + 1) := by
      rw [List.drop_eq_getElem_cons hlt]
      congr 1
      exact (List.getElem?_eq_some_iff.mp hd).2
    rw [e] at f2
    unfold compL at f2
    split at f2
    · rename_i bs eg
      obtain ⟨go, yl⟩ := iok.item (D0 :: M) H2 i d m2 rpin hd
      refine .inr ⟨go, fun H' => ∃ acc vs', I H' vs' ∧ RpL (hid H' (D0 :: M)) K acc vs' ∧ compL G A E (wipeE ρ vs) (ds.drop (i + 1)) acc fun acc => P (.lst acc), fun H' ⟨a, b, c, d', e'⟩ => ⟨ds.length - (i + 1), by omega, rfl, hlt, a, b, c, d', e'⟩, fun x H3 y => ?_⟩
      obtain ⟨s3, rx⟩ := yl x H3 y
      have m3 := m2.stp s3
      have stay : ∀ {Ha Hb : Hp}, (∀ c, g ≠ some (D0, c)) := fun c z => nD (m1.feed _ _ z).1
      have I3 : I H3 vs' := ⟨I2.1.trans s3, s3.keep _ _ (fun c => stay (Ha := H3) (Hb := H3) c) I2.2⟩
      refine hg (D0 :: M) H3 d x bs _ _ rx eg fun ws bw hws => ⟨wipe_setS fun p hp => hix _ (hws p hp), ?_⟩
      have r3 : REnv K (hid H3 (D0 :: M)) (setE (wipeE ρ vs) bs) (setS (wipe σ vs) ws) := REnv.setB (r1.ex (hEx I3)) bw
      refine ha (D0 :: M) _ _ H3 _ _ m3 r3 f2 fun b H4 p4 s4 => ?_
      have I4 : I H4 vs' := ⟨I3.1.trans s4, s4.keep _ _ (fun c => stay (Ha := H3) (Hb := H3) c) I3.2⟩
      have ra4 : RpL (hid H4 (D0 :: M)) K acc vs' := RpL.ex (s4.hid m3) (RpL.ex (s3.hid m2) ra)
      cases b with
      | false => exact ⟨acc, vs', I4, ra4, p4⟩
      | true =>
        refine he (D0 :: M) _ _ H4 _ _ (m3.stp s4) (r3.ex (s4.hid m3)) p4 fun z v H5 p5 s5 r5 => ?_
        have I5 : I H5 vs' := ⟨I4.1.trans s5, s5.keep _ _ (fun c => stay (Ha := H3) (Hb := H3) c) I4.2⟩
        have ra5 : RpL (hid H5 (D0 :: M)) K acc vs' := RpL.ex (s5.hid (m3.stp s4)) ra4
        refine ⟨vs', I5.2, by rw [← ra5.len]; exact p5.1, acc ++ [z], vs' ++ [v], ⟨⟨fun a o n e => ?_, fun a c z k => ?_⟩, upd_same⟩, ?_, p5.2⟩
        · rw [upd_ne (ne_of_none e hD)]
          exact I5.1.keep a o n e
        · obtain ⟨i', d', m', ns, k1, k2, k3⟩ := I5.1.feed a c z k
          obtain ⟨ga, gc, _⟩ := m1.feed a c z
          exact ⟨i', d', m', ns, by rw [upd_ne fun z => nD (by rw [← z]; exact ga)]; exact k1, by rw [upd_ne fun z => nD (by rw [← z]; exact gc)]; exact k2, k3⟩
        · have eh : hid (upd H5 D0 (.lst (vs' ++ [v]))) (D0 :: M) = hid H5 (D0 :: M) := by
            funext b
            unfold hid
            by_cases q : b ∈ D0 :: M
            · rw [if_pos q, if_pos q]
            · rw [if_neg q, if_neg q, upd_ne fun z => q (by rw [z]; exact List.mem_cons_self ..)]
          rw [eh]
          exact ra5.app ⟨v, [], rfl, r5, rfl⟩
    · exact f2.elim
  · have e : i = ds.length := by omega
    subst e
    rw [List.drop_length] at f2
    refine .inl ⟨iok.stop (D0 :: M) H2 m2 rpin, q _ _ _ f2 (s1.trans I2.1) ⟨D0, vs', rfl, by rw [hid_out nD]; exact I2.2, RpL.ex (hid_sub fun a ha => List.mem_cons_of_mem _ ha) ra⟩⟩
end
end PL

set_option maxHeartbeats 1000000
/-! The data layer: defs, calls, built-ins, operators. -/
namespace PL
open PySem PySem.Spec L2
open PyProof.Rows (envOfC)

section
variable {X : Cx} {K : PySem.W.Frag} {g : GG} {He H H' : Hp} {M ps : List Addr} {e c tg iter elt : Expr} {te ta tb tc : TE} {Fe Fa Fb Fc : FE} {pos : Pos} {a b : Expr} {es : List Expr} {t : TA} {R : FA}
/-! comprehensions -/
theorem de_lc {ifs : List Expr} {scope : Scope} {own : List (Str × Nat)} {wi : TI} {F : FA} {tG : TG} {G : D → Option Bs} {ix : List Nat} {tA : TT} {A : FT} {tE : TE} {E : FE} (hi : DI X K g tg iter wi F) (hix : ∀ i ∈ ix, i ∈ own.map (·.2))
    (hg : ∀ (s : Shared) (H : Hp) (C : Addr) (cl : List (Str × Addr)) (fp : List Addr), DG (X.blk s H scope (compEnvC scope cl C X.env) fp) K tg tG G ix)
    (ht : ∀ (s : Shared) (H : Hp) (C : Addr) (cl : List (Str × Addr)) (fp : List Addr), DTt (X.blk s H scope (compEnvC scope cl C X.env) fp) K g ifs tA A)
    (he : ∀ (s : Shared) (H : Hp) (C : Addr) (cl : List (Str × Addr)) (fp : List Addr), DE (X.blk s H scope (compEnvC scope cl C X.env) fp) K g elt tE E)
    (hp : PE X e (tLc wi tG tA tE (own.map (·.2)))) : DE X K g e (tLc wi tG tA tE (own.map (·.2))) (fLc F G A E (own.map (·.2))) :=
  ⟨hp, ld_lc hix hi.ld (hg X.s_0 (fun _ => none) 0 [] []).ld (ht X.s_0 (fun _ => none) 0 [] []).ld (he X.s_0 (fun _ => none) 0 [] []).ld⟩
/-! defs -/
def DFn (K : PySem.W.Frag) (F : GG → List D → (D → Prop) → Prop) : Sp := fun vs H Q _ => ∃ g M ds P, Msk K g M H ∧ RpL (hid H M) K ds vs ∧ F g ds P ∧ PV K g M H P Q
/-- the data of a def's body: its names' slots, the end -/
def body (n : Nat) (N : Nat) (T : DTS) : List D → (D → Prop) → Prop := fun ds P => ds.length = n ∧ T { nx := fun _ => P .non, rt := P } (ds.map Sl.pu ++ List.replicate (N - n) Sl.no)
theorem start_rep {K : PySem.W.Frag} {H : Hp} {M : List Addr} {N : List Str} {ds : List D} {vs : List V} (m : Msk K g M H) (r : RpL (hid H M) K ds vs) : RepS K g H M [] (ds.map Sl.pu ++ List.replicate (N.length - ds.length) Sl.no) (start N vs) H := by
  have hl := r.len
  refine ⟨[], { msk := m, base := m, out := fun p h => absurd h (by simp), fresh := fun p h => absurd h (by simp), stp := .refl, len := ?_, pu := fun i d h => ?_, ow := fun i o h => ?_, one := fun i j o u p h => ?_, pin := fun x h => absurd h (by simp) }⟩
  · unfold L2.start
    simp [hl]
  · unfold L2.start
    rw [List.getElem?_append] at h
    rw [List.getElem?_append]
    split at h
    · rename_i hi
      obtain ⟨d', e1, e2⟩ := map_get h
      cases e2
      obtain ⟨v, q1, q2⟩ := r.get e1
      rw [if_pos (by simpa [← hl] using hi), List.getElem?_map, q1]
      exact ⟨v, rfl, q2⟩
    · have := (List.mem_replicate.mp (List.mem_of_getElem? h)).2
      cases this
  all_goals
    rw [List.getElem?_append] at h
    split at h
    · obtain ⟨d', e1, e2⟩ := map_get h
      cases e2
    · have := (List.mem_replicate.mp (List.mem_of_getElem? h)).2
      cases this
theorem dfn_ok {P : Program} {w : World} {mg : Str → Option Value} {base : Heap} {x qual : Str} {params : Arguments} {bd : List Stmt} {scope : Scope} {dvs : List V} {kws : List (Str × V)} {f : Addr} {fd : FuncData} {N qs : List Str} {k : Nat} {T : GG → DTS}
    (F : FunD K x qual params bd scope dvs kws f fd) (S : FnScope N qs scope)
    (hb : ∀ (cdv : Value) (A : Around) (outer : List PySem.Env) (s : Shared) (H : Hp) (E : XK), Room k (A.deeper (envOfC qual scope s.heap.objs.size f cdv)) →
      ∃ t, ∀ g, DSs (cxOf CX0 P w K mg base N qual scope f cdv A outer s H E).nox K g bd t (T g)) :
    FnOk P w K mg base CX0 (k + 1) f fd qs (DFn K fun g => body qs.length N.length (T g)) := by
  refine F.ok S (fun vs H Q E h => ?_) (fun cdv A outer s H vs Q E hr h => ?_)
  · obtain ⟨g, M, ds, P, m, r, h, q⟩ := h
    rw [← r.len]
    exact h.1
  · obtain ⟨g, M, ds, P', m, r, h, q⟩ := h
    obtain ⟨t, ht⟩ := hb cdv A outer s H E hr
    refine ⟨t, (ht g).ps.nox, (ht g).ld H M [] _ _ H _ _ (start_rep m r) (by rw [h.1]; exact h.2) ⟨fun s' σ' H' r' p => ?_, fun d v H' p st rp => ?_, fun _ _ _ _ (p : False) => p.elim, fun _ _ _ _ (p : False) => p.elim⟩⟩
    · obtain ⟨ps, r'⟩ := r'
      exact q .non .non H' p r'.stp rfl
    · exact q d v H' p st rp
/-! calls of defs -/
def fCall (F : GG → List D → (D → Prop) → Prop) (g : GG) (R : FA) (dd : List D) : FE := fun ρ P => R ρ fun ds => F g (ds ++ dd) P
theorem ld_call {sp : GG → List D → (D → Prop) → Prop} {dvs : List V} {dd : List D} {E : XK} (hd : ∀ h, RpL h K dd dvs)
    (la : ∀ M ρ σ H P Q, Msk K g M H → REnv K (hid H M) ρ σ → R ρ P → PL' K g M H P Q → t σ H Q) :
    ∀ M ρ σ H P Q, Msk K g M H → REnv K (hid H M) ρ σ → fCall sp g R dd ρ P → PV K g M H P Q → tCall (DFn K sp) dvs E t σ H Q := fun M ρ σ H P Q m r f q =>
  la M ρ σ H _ _ m r f fun ds vs H1 p1 s1 r1 => ⟨g, M, ds ++ dd, P, m.stp s1, r1.app (hd _), p1, q.stp s1⟩
theorem de_call {F : GG → List D → (D → Prop) → Prop} {dvs : List V} {dd : List D} {E : XK} (hp : PE X e (tCall (DFn K F) dvs E t)) (ha : DA X K g es t R) (hd : ∀ h, RpL h K dd dvs) : DE X K g e (tCall (DFn K F) dvs E t) (fCall F g R dd) :=
  ⟨hp, ld_call hd ha.ld⟩
/-! built-in calls -/
def CallD (K : PySem.W.Frag) (g : GG) (r : List V → Hp → VK → Prop) (f : List D → (D → Prop) → Prop) : Prop :=
  ∀ M H ds vs P Q, Msk K g M H → RpL (hid H M) K ds vs → f ds P → PV K g M H P Q → r vs H Q
def fCB (f : List D → (D → Prop) → Prop) (R : FA) : FE := fun ρ P => R ρ fun ds => f ds P
theorem de_cb {r : List V → Hp → VK → Prop} {f : List D → (D → Prop) → Prop} (hp : PE X e (tCB r t)) (hf : CallD K g r f) (ha : DA X K g es t R) : DE X K g e (tCB r t) (fCB f R) :=
  ⟨hp, fun M ρ σ H P Q m rr ff q => ha.ld M ρ σ H _ _ m rr ff fun ds vs H1 p1 s1 r1 => hf M H1 ds vs P Q (m.stp s1) r1 p1 (q.stp s1)⟩
/-- len -/
def bLen : List D → (D → Prop) → Prop
  | [.lst ds], P => P (.int (ds.length : Int))
  | [.tup ds], P => P (.int (ds.length : Int))
  | [.str x], P => x.length ≤ sizeLine ∧ P (.int (x.length : Int))
  | _, _ => False
def rLen (K : PySem.W.Frag) : List V → Hp → VK → Prop := fun xs H Q => (∃ p ys, xs = [.ref p] ∧ (SqL K H p ys ∨ SqT K H p ys) ∧ Q (.int ys.length) H) ∨ ∃ z, xs = [.str z] ∧ z.length ≤ sizeLine ∧ Q (.int z.length) H
theorem cr_len (hK : X.K = K := by rfl) : CallR X (.builtin "len") (rLen K) := by
  subst hK
  exact call_len_seq.or call_len_str
theorem rp1 {h : Hp} {d : D} {vs : List V} (r : RpL h K [d] vs) : ∃ v, vs = [v] ∧ Rp h K d v := by
  obtain ⟨v, ws, rfl, r1, r2⟩ := r
  obtain rfl := r2
  exact ⟨v, rfl, r1⟩
theorem rp2 {h : Hp} {d d2 : D} {vs : List V} (r : RpL h K [d, d2] vs) : ∃ v w, vs = [v, w] ∧ Rp h K d v ∧ Rp h K d2 w := by
  obtain ⟨v, ws, rfl, r1, r2⟩ := r
  obtain ⟨w, rfl, r3⟩ := rp1 r2
  exact ⟨v, w, rfl, r1, r3⟩
theorem cd_len : CallD K g (rLen K) bLen := fun M H ds vs P Q m r f q => by
  unfold bLen at f
  split at f
  · obtain ⟨v, rfl, r1⟩ := rp1 r
    obtain ⟨a, ws, rfl, h1, h2⟩ := r1
    exact .inl ⟨a, ws, rfl, .inl (SqL.of (hid_some h1).1), q _ _ _ f .refl (by rw [h2.len]; rfl)⟩
  · obtain ⟨v, rfl, r1⟩ := rp1 r
    obtain ⟨a, ws, rfl, h1, h2⟩ := r1
    exact .inl ⟨a, ws, rfl, .inr (hid_ex.sqt h1.sqt), q _ _ _ f .refl (by rw [h2.len]; rfl)⟩
  · obtain ⟨v, rfl, r1⟩ := rp1 r
    obtain rfl := r1
    exact .inr ⟨_, rfl, f.1, q _ _ _ f.2 .refl rfl⟩
  · exact f.elim
/-- int of an int or a bool -/
def bInt : List D → (D → Prop) → Prop
  | [.int i], P => P (.int i)
  | [.bl k], P => P (.int (if k then 1 else 0))
  | _, _ => False
def rInt : List V → Hp → VK → Prop := fun xs H Q => (∃ i, xs = [.int i] ∧ Q (.int i) H) ∨ ∃ k, xs = [.bl k] ∧ Q (.int (if k then 1 else 0)) H
theorem cr_int : CallR X (.type "int") rInt := call_int1
theorem cd_int : CallD K g rInt bInt := fun M H ds vs P Q m r f q => by
  unfold bInt at f
  split at f
  · obtain ⟨v, rfl, r1⟩ := rp1 r
    obtain rfl := r1
    exact .inl ⟨_, rfl, q _ _ _ f .refl rfl⟩
  · obtain ⟨v, rfl, r1⟩ := rp1 r
    obtain rfl := r1
    exact .inr ⟨_, rfl, q _ _ _ f .refl rfl⟩
  · exact f.elim
def bStr : List D → (D → Prop) → Prop
  | [.int i], P => i.natAbs.log2 < 1920 ∧ P (.str (toString i))
  | _, _ => False
def rStr : List V → Hp → VK → Prop := fun xs H Q => ∃ i, xs = [.int i] ∧ i.natAbs.log2 < 1920 ∧ Q (.str (toString i)) H
theorem cr_str : CallR X (.type "str") rStr := call_str_int
theorem cd_str : CallD K g rStr bStr := fun M H ds vs P Q m r f q => by
  unfold bStr at f
  split at f
  · obtain ⟨v, rfl, r1⟩ := rp1 r
    obtain rfl := r1
    exact ⟨_, rfl, f.1, q _ _ _ f.2 .refl rfl⟩
  · exact f.elim
/-- list(..), tuple(..) -/
def bList : List D → (D → Prop) → Prop
  | [.lst ds], P => P (.lst ds)
  | [.tup ds], P => P (.lst ds)
  | _, _ => False
def bTup : List D → (D → Prop) → Prop
  | [.lst ds], P => P (.tup ds)
  | [.tup ds], P => P (.tup ds)
  | _, _ => False
def rList (K : PySem.W.Frag) : List V → Hp → VK → Prop := fun xs H Q => ∃ p ys, xs = [.ref p] ∧ (SqL K H p ys ∨ SqT K H p ys) ∧ ∀ l, H l = none → Q (.ref l) (upd H l (.lst ys))
theorem cr_list (hK : X.K = K := by rfl) : CallR X (.type "list") (rList K) := by
  subst hK
  exact call_list_of
def rTup (K : PySem.W.Frag) : List V → Hp → VK → Prop := fun xs H Q => ∃ p ys, xs = [.ref p] ∧ ((SqL K H p ys ∧ ∀ l, H l = none → Q (.ref l) (upd H l (.tup ys))) ∨ (SqT K H p ys ∧ Q (.ref p) H))
theorem cr_tup (hK : X.K = K := by rfl) : CallR X (.type "tuple") (rTup K) := by
  subst hK
  exact call_tuple_of
theorem cd_list : CallD K g (rList K) bList := fun M H ds vs P Q m r f q => by
  unfold bList at f
  split at f
  · obtain ⟨v, rfl, r1⟩ := rp1 r
    obtain ⟨a, ws, rfl, h1, h2⟩ := r1
    exact ⟨a, ws, rfl, .inl (SqL.of (hid_some h1).1), fun l hl => q _ _ _ f (.new hl) (rp_newL m hl h2)⟩
  · obtain ⟨v, rfl, r1⟩ := rp1 r
    obtain ⟨a, ws, rfl, h1, h2⟩ := r1
    exact ⟨a, ws, rfl, .inr (hid_ex.sqt h1.sqt), fun l hl => q _ _ _ f (.new hl) (rp_newL m hl h2)⟩
  · exact f.elim
theorem cd_tup : CallD K g (rTup K) bTup := fun M H ds vs P Q m r f q => by
  unfold bTup at f
  split at f
  · obtain ⟨v, rfl, r1⟩ := rp1 r
    obtain ⟨a, ws, rfl, h1, h2⟩ := r1
    exact ⟨a, ws, rfl, .inl ⟨SqL.of (hid_some h1).1, fun l hl => q _ _ _ f (.new hl) (rp_newT m hl h2)⟩⟩
  · obtain ⟨v, rfl, r1⟩ := rp1 r
    obtain ⟨a, ws, e, h1, h2⟩ := id r1
    subst e
    exact ⟨a, ws, rfl, .inr ⟨hid_ex.sqt h1.sqt, q _ _ _ f .refl r1⟩⟩
  · exact f.elim
/-- any, all of a list of truth values -/
def bls : List D → Option (List Bool)
  | [] => some []
  | .bl b :: ds => (bls ds).map (b :: ·)
  | _ => none
theorem bls_rp {h : Hp} : ∀ {ds : List D} {bs : List Bool} {vs : List V}, bls ds = some bs → RpL h K ds vs → vs = bs.map V.bl
  | [], bs, vs, e, r => by
    cases e
    exact r
  | d :: ds, bs, vs, e, r => by
    obtain ⟨v, ws, rfl, r1, r2⟩ := r
    cases d with
    | bl b =>
      unfold bls at e
      cases e1 : bls ds with
      | none => rw [e1] at e; cases e
      | some cs =>
        rw [e1] at e
        cases e
        obtain rfl := r1
        rw [bls_rp e1 r2]
        rfl
    | _ => cases e
def bAny : List D → (D → Prop) → Prop
  | [.lst ds], P => ∃ bs, bls ds = some bs ∧ P (.bl (bs.any id))
  | _, _ => False
def bAll : List D → (D → Prop) → Prop
  | [.lst ds], P => ∃ bs, bls ds = some bs ∧ P (.bl (bs.all id))
  | _, _ => False
theorem cd_any : CallD K g (rAny K) bAny := fun M H ds vs P Q m r f q => by
  unfold bAny at f
  split at f
  · obtain ⟨v, rfl, r1⟩ := rp1 r
    obtain ⟨a, ws, rfl, h1, h2⟩ := r1
    obtain ⟨bs, e1, e2⟩ := f
    obtain rfl := bls_rp e1 h2
    exact ⟨a, bs, rfl, SqL.of (hid_some h1).1, q _ _ _ e2 .refl rfl⟩
  · exact f.elim
theorem cd_all : CallD K g (rAll K) bAll := fun M H ds vs P Q m r f q => by
  unfold bAll at f
  split at f
  · obtain ⟨v, rfl, r1⟩ := rp1 r
    obtain ⟨a, ws, rfl, h1, h2⟩ := r1
    obtain ⟨bs, e1, e2⟩ := f
    obtain rfl := bls_rp e1 h2
    exact ⟨a, bs, rfl, SqL.of (hid_some h1).1, q _ _ _ e2 .refl rfl⟩
  · exact f.elim
/-- isinstance against built-in types -/
def tyN : D → Option String
  | .non => some "NoneType"
  | .bl _ => some "bool"
  | .int _ => some "int"
  | .str _ => some "str"
  | .lst _ => some "list"
  | .tup _ => some "tuple"
  | .dct _ _ => some "dict"
  | _ => none
def isTy (a b : String) : Bool := a == b || (a == "bool" && b == "int")
/-- the built-in types that are asked -/
def tyOk (b : String) : Bool := ["bool", "int", "str", "list", "tuple", "dict"].contains b
theorem kit_isTy {a b : String} (ha : a ∈ ["NoneType", "bool", "int", "str", "list", "tuple", "dict"]) (hb : b ∈ ["bool", "int", "str", "list", "tuple", "dict"]) : PySem.W.kitOne K (.type a) (.type b) = some (isTy a b) := by
  have h : ∀ a ∈ ["NoneType", "bool", "int", "str", "list", "tuple", "dict"], ∀ b ∈ ["bool", "int", "str", "list", "tuple", "dict"], kitB a b = some (isTy a b) := by decide +kernel
  exact kit_ty (h a ha b hb)
theorem tyN_in {d : D} {a : String} (h : tyN d = some a) : a ∈ ["NoneType", "bool", "int", "str", "list", "tuple", "dict"] := by
  cases d <;> first | (cases h; simp) | cases h
theorem tyN_ty {d : D} {v : V} {n : String} (h : tyN d = some n) (r : Rp (hid H M) K d v) : TyX K H v (.type n) := by
  cases d with
  | non => cases h; obtain rfl := r; exact .base .non
  | bl b => cases h; obtain rfl := r; exact .base (.bl b)
  | int i => cases h; obtain rfl := r; exact .base (.int i)
  | str x => cases h; obtain rfl := r; exact .base (.str x)
  | lst ds =>
    cases h
    obtain ⟨a, vs, rfl, h1, h2⟩ := r
    exact .base (.lst (hid_some h1).1)
  | tup ds =>
    cases h
    obtain ⟨a, vs, rfl, h1, h2⟩ := r
    rcases h1 with h1 | ⟨o, its, n, h1, h3, _⟩
    · exact .base (.tup (hid_some h1).1)
    · exact .kTuple h1 h3
  | dct ks ds =>
    cases h
    obtain ⟨a, vs, rfl, h1, h2, h3⟩ := r
    rcases hid_ex.rd h1 with h1 | ⟨o, h1⟩
    · exact .base (.dK h1)
    · exact .fDict h1
  | obj C fs ds => cases h
  | con v => cases h
def bIsi (b : String) : List D → (D → Prop) → Prop
  | [d, .con (.ty c)], P => c = b ∧ tyOk b = true ∧ ∃ a, tyN d = some a ∧ P (.bl (isTy a b))
  | _, _ => False
theorem tyOk_in {b : String} (h : tyOk b = true) : b ∈ ["bool", "int", "str", "list", "tuple", "dict"] := by
  unfold tyOk at h
  exact List.contains_iff_mem.mp h
theorem cd_isi {b : String} : CallD K g (rIsi K) (bIsi b) := fun M H ds vs P Q m r f q => by
  unfold bIsi at f
  split at f
  · obtain ⟨v, w, rfl, r1, r2⟩ := rp2 r
    obtain ⟨rfl, hb, a, e, f⟩ := f
    obtain rfl := r2
    exact ⟨v, _, _, _, _, rfl, .ty _, tyN_ty e r1, kit_isTy (tyN_in e) (tyOk_in hb), q _ _ _ f .refl rfl⟩
  · exact f.elim
def isTys (a : String) (bs : List String) : Bool := bs.any fun b => isTy a b
theorem kit_any {a : String} (ha : a ∈ ["NoneType", "bool", "int", "str", "list", "tuple", "dict"]) : ∀ {bs : List String}, (∀ b ∈ bs, tyOk b = true) → PySem.W.kitAny K (.type a) (bs.map Value.type) = some (isTys a bs)
  | [], _ => rfl
  | b :: bs, h => by
    refine kitAny_cons (kit_isTy ha (tyOk_in (h b (List.mem_cons_self ..)))) (fun e => ?_) (fun e => ?_)
    · rw [kit_any ha fun b hb => h b (List.mem_cons_of_mem _ hb)]
      unfold isTys
      rw [List.any_cons, e, Bool.false_or]
    · unfold isTys
      rw [List.any_cons, e, Bool.true_or]
def tyNames : List D → Option (List String)
  | [] => some []
  | .con (.ty b) :: ds => (tyNames ds).map (b :: ·)
  | _ => none
theorem tyNames_rp {h : Hp} : ∀ {ds : List D} {bs : List String} {vs : List V}, tyNames ds = some bs → RpL h K ds vs → vs = bs.map V.ty
  | [], bs, vs, e, r => by
    cases e
    exact r
  | d :: ds, bs, vs, e, r => by
    obtain ⟨v, ws, rfl, r1, r2⟩ := r
    cases d with
    | con u =>
      cases u with
      | ty b =>
        unfold tyNames at e
        cases e1 : tyNames ds with
        | none => rw [e1] at e; cases e
        | some cs =>
          rw [e1] at e
          cases e
          obtain rfl := r1
          rw [tyNames_rp e1 r2]
          rfl
      | _ => cases e
    | _ => cases e
/-- isinstance(x, (A, B)), the tuple written -/
def bIsiT : List D → (D → Prop) → Prop
  | [d, .tup cs], P => ∃ bs a, tyNames cs = some bs ∧ bs.all tyOk = true ∧ tyN d = some a ∧ P (.bl (isTys a bs))
  | _, _ => False
def rIsiT' (K : PySem.W.Frag) : List V → Hp → VK → Prop := fun xs H Q => rIsiT K xs H Q ∨ rIsiK K xs H Q
theorem cls_all : ∀ bs : List String, Paired ClsV (bs.map V.ty) (bs.map Value.type)
  | [] => .nil
  | b :: bs => .cons (.ty b) (cls_all bs)
theorem cr_isiT (hK : X.K = K := by rfl) : CallR X (.builtin "isinstance") (rIsiT' K) := by
  subst hK
  exact call_isiT.or call_isiK
theorem vals_ty : ∀ {bs : List String} {us : List Value}, Vals (bs.map V.ty) us → us = bs.map Value.type
  | [], _, .nil => rfl
  | b :: bs, _, .cons r t => by
    rw [vals_ty t]
    rw [show _ = _ from r]
    rfl
theorem cd_isiT : CallD K g (rIsiT' K) bIsiT := fun M H ds vs P Q m r f q => by
  unfold bIsiT at f
  split at f
  · obtain ⟨v, w, rfl, r1, r2⟩ := rp2 r
    obtain ⟨bs, a, e1, e2, e3, f⟩ := f
    obtain ⟨p, ws, rfl, h1, h2⟩ := r2
    obtain rfl := tyNames_rp e1 h2
    have hk := kit_any (K := K) (tyN_in e3) (bs := bs) fun b hb => List.all_eq_true.mp e2 b hb
    rcases h1 with h1 | ⟨o, its, n, h1, h3, h4, _, h5⟩
    · exact .inl ⟨v, p, _, _, _, _, rfl, (hid_some h1).1, cls_all bs, tyN_ty e3 r1, hk, q _ _ _ f .refl rfl⟩
    · obtain ⟨oc, od, dt, sl⟩ := o
      simp only at h3 h4
      subst h3 h4
      have e5 : its = (bs.map Value.type).toArray := by
        rw [← vals_ty h5]
      subst e5
      exact .inr ⟨v, p, _, _, _, _, _, _, rfl, h1, tyN_ty e3 r1, hk, q _ _ _ f .refl rfl⟩
  · exact f.elim
end
end PL

set_option maxHeartbeats 1000000
/-! The data layer: operators. -/
namespace PL
open PySem PySem.Spec L2

section
variable {X : Cx} {K : PySem.W.Frag} {g : GG} {He H H' : Hp} {M ps : List Addr} {e c tg iter elt : Expr} {te ta tb tc : TE} {Fe Fa Fb Fc : FE} {pos : Pos} {a b : Expr} {es : List Expr} {t : TA} {R : FA}
/-! arithmetic -/
def dAdd : D → D → (D → Prop) → Prop
  | .int i, .int j, P => P (.int (i + j))
  | .str x, .str y, P => x.length + y.length ≤ sizeLine ∧ P (.str (x ++ y))
  | .lst xs, .lst ys, P => xs.length + ys.length ≤ sizeLine ∧ P (.lst (xs ++ ys))
  | .tup xs, .tup ys, P => xs.length + ys.length ≤ sizeLine ∧ P (.tup (xs ++ ys))
  | _, _, _ => False
def rAddA (K : PySem.W.Frag) : R2 := fun x y H Q => rI0 (fun i j => .int (i + j)) x y H Q ∨ (∃ i j, x = .str i ∧ y = .str j ∧ i.length + j.length ≤ sizeLine ∧ Q (.str (i ++ j)) H) ∨ rCat x y H Q ∨ rCatA K x y H Q
theorem op_addA (hK : X.K = K := by rfl) : OpR X (binaryOp .Add) (rAddA K) := by
  subst hK
  exact op_add.or (op_add_str.or (op_cat.or op_catA))
theorem od_add : OpD K g (rAddA K) dAdd := fun M H x y vx vy P Q m rx ry f q => by
  unfold dAdd at f
  split at f
  · obtain rfl := rx
    obtain rfl := ry
    exact .inl ⟨_, _, rfl, rfl, q _ _ _ f .refl rfl⟩
  · obtain rfl := rx
    obtain rfl := ry
    exact .inr (.inl ⟨_, _, rfl, rfl, f.1, q _ _ _ f.2 .refl rfl⟩)
  · obtain ⟨a, vs, rfl, h1, h2⟩ := rx
    obtain ⟨b, ws, rfl, h3, h4⟩ := ry
    exact .inr (.inr (.inl ⟨a, b, vs, ws, rfl, rfl, (hid_some h1).1, (hid_some h3).1, by rw [← h2.len, ← h4.len]; exact f.1, fun p hp => q _ _ _ f.2 (.new hp) (rp_newL m hp (h2.app h4))⟩))
  · rename_i xs ys
    obtain ⟨a, vs, e1, h1, h2⟩ := id rx
    obtain ⟨b, ws, e2, h3, h4⟩ := id ry
    subst e1 e2
    refine .inr (.inr (.inr ⟨a, b, vs, ws, rfl, rfl, hid_ex.sqt h1.sqt, hid_ex.sqt h3.sqt, by rw [← h2.len, ← h4.len]; exact f.1, fun e => ?_, fun _ e => ?_, fun _ _ p hp => q _ _ _ f.2 (.new hp) (rp_newT m hp (h2.app h4))⟩))
    · have e3 : xs = [] := List.length_eq_zero_iff.mp (by rw [h2.len, e]; rfl)
      subst e3
      exact q _ _ _ f.2 .refl ry
    · have e3 : ys = [] := List.length_eq_zero_iff.mp (by rw [h4.len, e]; rfl)
      subst e3
      rw [List.append_nil] at f
      exact q _ _ _ f.2 .refl rx
  · exact f.elim
def dII (C : Int → Int → Prop) (h : Int → Int → D) : D → D → (D → Prop) → Prop
  | .int i, .int j, P => C i j ∧ P (h i j)
  | _, _, _ => False
def dII0 (h : Int → Int → D) : D → D → (D → Prop) → Prop
  | .int i, .int j, P => P (h i j)
  | _, _, _ => False
theorem od_II {C : Int → Int → Prop} {h : Int → Int → D} {k : Int → Int → V} (hk : ∀ i j z, Rp z K (h i j) (k i j)) : OpD K g (rI C k) (dII C h) := fun M H x y vx vy P Q m rx ry f q => by
  unfold dII at f
  split at f
  · obtain rfl := rx
    obtain rfl := ry
    exact ⟨_, _, rfl, rfl, f.1, q _ _ _ f.2 .refl (hk _ _ _)⟩
  · exact f.elim
theorem od_II0 {h : Int → Int → D} {k : Int → Int → V} (hk : ∀ i j z, Rp z K (h i j) (k i j)) : OpD K g (rI0 k) (dII0 h) := fun M H x y vx vy P Q m rx ry f q => by
  unfold dII0 at f
  split at f
  · obtain rfl := rx
    obtain rfl := ry
    exact ⟨_, _, rfl, rfl, q _ _ _ f .refl (hk _ _ _)⟩
  · exact f.elim
abbrev dSub := dII0 fun i j => .int (i - j)
abbrev dDiv := dII CDiv fun i j => .int (i / j)
abbrev dMod := dII (fun _ j => 0 < j) fun i j => .int (i % j)
abbrev dPow := dII CPow fun i j => .int (i ^ j.toNat)
theorem od_sub : OpD K g (rI0 fun i j => .int (i - j)) dSub := od_II0 fun _ _ _ => rfl
theorem od_div : OpD K g (rI CDiv fun i j => .int (i / j)) dDiv := od_II fun _ _ _ => rfl
theorem od_mod : OpD K g (rI (fun _ j => 0 < j) fun i j => .int (i % j)) dMod := od_II fun _ _ _ => rfl
theorem od_pow : OpD K g (rI CPow fun i j => .int (i ^ j.toNat)) dPow := od_II fun _ _ _ => rfl
/-- product of ints; a list some times -/
def dMul : D → D → (D → Prop) → Prop
  | .int i, .int j, P => CMul i j ∧ P (.int (i * j))
  | .lst xs, .int k, P => (-(2 ^ 63) ≤ k ∧ k < 2 ^ 63 ∧ xs.length * k.toNat ≤ sizeLine) ∧ P (.lst (List.replicate k.toNat xs).flatten)
  | _, _, _ => False
abbrev dLt := dII0 fun i j => .bl (decide (i < j))
abbrev dLe := dII0 fun i j => .bl (decide (i ≤ j))
abbrev dGt := dII0 fun i j => .bl (decide (j < i))
abbrev dGe := dII0 fun i j => .bl (decide (j ≤ i))
theorem od_lt : OpD K g (rI0 fun i j => .bl (decide (i < j))) dLt := od_II0 fun _ _ _ => rfl
theorem od_le : OpD K g (rI0 fun i j => .bl (decide (i ≤ j))) dLe := od_II0 fun _ _ _ => rfl
theorem od_gt : OpD K g (rI0 fun i j => .bl (decide (j < i))) dGt := od_II0 fun _ _ _ => rfl
theorem od_ge : OpD K g (rI0 fun i j => .bl (decide (j ≤ i))) dGe := od_II0 fun _ _ _ => rfl
theorem Rp.rep {h : Hp} {ds : List D} {vs : List V} (r : RpL h K ds vs) : ∀ k : Nat, RpL h K (List.replicate k ds).flatten (List.replicate k vs).flatten
  | 0 => rfl
  | k + 1 => by
    rw [List.replicate_succ, List.replicate_succ, List.flatten_cons, List.flatten_cons]
    exact r.app (Rp.rep r k)
def rMulA : R2 := fun x y H Q => rI CMul (fun i j => .int (i * j)) x y H Q ∨ rRep x y H Q
theorem op_mulA : OpR X (binaryOp .Mult) rMulA := op_mul.or op_rep
theorem od_mul : OpD K g rMulA dMul := fun M H x y vx vy P Q m rx ry f q => by
  unfold dMul at f
  split at f
  · obtain rfl := rx
    obtain rfl := ry
    exact .inl ⟨_, _, rfl, rfl, f.1, q _ _ _ f.2 .refl rfl⟩
  · obtain ⟨a, vs, rfl, h1, h2⟩ := rx
    obtain rfl := ry
    exact .inr ⟨a, _, vs, rfl, rfl, (hid_some h1).1, f.1.1, f.1.2.1, by rw [← h2.len]; exact f.1.2.2, fun p hp => q _ _ _ f.2 (.new hp) (rp_newL m hp (Rp.rep h2 _))⟩
  · exact f.elim
/-! chains of two comparisons (a < b < c), ints -/
def fCh (f h : D → D → (D → Prop) → Prop) (Fa Fb Fc : FE) : FE := fun ρ P => Fa ρ fun x => Fb ρ fun y => f x y fun z => match z with
  | .bl true => Fc ρ fun w => h y w P
  | .bl false => P (.bl false)
  | _ => False
/-! data that == takes -/
mutual
def toP : D → Option PyData
  | .non => some .none
  | .bl b => some (.bool b)
  | .int i => some (.int i)
  | .str x => some (.str x)
  | .lst ds => (toPs ds).map .list
  | .tup ds => (toPs ds).map .tuple
  | _ => none
def toPs : List D → Option (List PyData)
  | [] => some []
  | d :: ds => match toP d, toPs ds with
    | some p, some ps => some (p :: ps)
    | _, _ => none
end
mutual
theorem dp_of : ∀ {d : D} {p : PyData} {v : V}, toP d = some p → Rp (hid H M) K d v → Dp K H v p
  | .non, p, v, e, r => by cases e; obtain rfl := r; exact .non
  | .bl b, p, v, e, r => by cases e; obtain rfl := r; exact .bl b
  | .int i, p, v, e, r => by cases e; obtain rfl := r; exact .int i
  | .str x, p, v, e, r => by cases e; obtain rfl := r; exact .str x
  | .lst ds, p, v, e, r => by
    unfold toP at e
    cases e1 : toPs ds with
    | none => rw [e1] at e; cases e
    | some qs =>
      rw [e1] at e
      cases e
      obtain ⟨a, vs, rfl, h1, h2⟩ := r
      exact .lst (SqL.of (hid_some h1).1) (dps_of e1 h2)
  | .tup ds, p, v, e, r => by
    unfold toP at e
    cases e1 : toPs ds with
    | none => rw [e1] at e; cases e
    | some qs =>
      rw [e1] at e
      cases e
      obtain ⟨a, vs, rfl, h1, h2⟩ := r
      exact .tup (hid_ex.sqt h1.sqt) (dps_of e1 h2)
  | .dct _ _, p, v, e, r => by cases e
  | .obj _ _ _, p, v, e, r => by cases e
  | .con _, p, v, e, r => by cases e
theorem dps_of : ∀ {ds : List D} {ps : List PyData} {vs : List V}, toPs ds = some ps → RpL (hid H M) K ds vs → DpAll K H vs ps
  | [], ps, vs, e, r => by
    cases e
    obtain rfl := r
    exact .nil
  | d :: ds, ps, vs, e, r => by
    unfold toPs at e
    split at e
    · rename_i p qs e1 e2
      cases e
      obtain ⟨v, ws, rfl, r1, r2⟩ := r
      exact .cons (dp_of e1 r1) (dps_of e2 r2)
    · cases e
end
def shD (d : D) : Option PyData := match toP d with
  | some p => if SeqAt.shaped p = true then some p else none
  | none => none
theorem shD_ok {d : D} {p : PyData} (h : shD d = some p) : toP d = some p ∧ SeqAt.shaped p = true := by
  unfold shD at h
  split at h
  · rename_i q e
    split at h
    · rename_i s
      cases h
      exact ⟨e, s⟩
    · cases h
  · cases h
def dEq : D → D → (D → Prop) → Prop := fun x y P => ∃ p q, shD x = some p ∧ shD y = some q ∧ P (.bl (PyData.eqv p q))
def dNe : D → D → (D → Prop) → Prop := fun x y P => ∃ p q, shD x = some p ∧ shD y = some q ∧ P (.bl (!PyData.eqv p q))
theorem od_eq : OpD K g (rEqD K) dEq := fun M H x y vx vy P Q m rx ry ⟨p, p2, e1, e2, f⟩ q =>
  ⟨p, p2, dp_of (shD_ok e1).1 rx, dp_of (shD_ok e2).1 ry, (shD_ok e1).2, (shD_ok e2).2, q _ _ _ f .refl rfl⟩
theorem od_ne : OpD K g (rNeD K) dNe := fun M H x y vx vy P Q m rx ry ⟨p, p2, e1, e2, f⟩ q =>
  ⟨p, p2, dp_of (shD_ok e1).1 rx, dp_of (shD_ok e2).1 ry, (shD_ok e1).2, (shD_ok e2).2, q _ _ _ f .refl rfl⟩
/-! in, not in -/
def scV : D → Option V
  | .non => some .non
  | .bl b => some (.bl b)
  | .int i => some (.int i)
  | .str x => some (.str x)
  | _ => none
def scVs : List D → Option (List V)
  | [] => some []
  | d :: ds => match scV d, scVs ds with
    | some v, some vs => some (v :: vs)
    | _, _ => none
theorem scV_rp {h : Hp} {d : D} {v w : V} (e : scV d = some v) (r : Rp h K d w) : w = v ∧ flatV v = true := by
  cases d <;> first | (cases e; exact ⟨r, rfl⟩) | cases e
theorem scVs_rp {h : Hp} : ∀ {ds : List D} {vs ws : List V}, scVs ds = some vs → RpL h K ds ws → ws = vs ∧ vs.all flatV = true
  | [], vs, ws, e, r => by cases e; exact ⟨r, rfl⟩
  | d :: ds, vs, ws, e, r => by
    unfold scVs at e
    split at e
    · rename_i v us e1 e2
      cases e
      obtain ⟨w, zs, rfl, r1, r2⟩ := r
      obtain ⟨rfl, h1⟩ := scV_rp e1 r1
      obtain ⟨rfl, h2⟩ := scVs_rp e2 r2
      exact ⟨rfl, by simp [h1, h2]⟩
    · cases e
def dIn (neg : Bool) : D → D → (D → Prop) → Prop
  | .str x, .str y, P => P (.bl (if neg then !(!(Builtin.Str.occurrences y x 0 y.length 1).isEmpty) else !(Builtin.Str.occurrences y x 0 y.length 1).isEmpty))
  | x, .lst ds, P => (∃ v vs, scV x = some v ∧ scVs ds = some vs ∧ P (.bl (if neg then !inV v vs else inV v vs))) ∨ ∃ p qs, shD x = some p ∧ shD (.lst ds) = some (.list qs) ∧ P (.bl (if neg then !qs.any fun z => PyData.eqv z p else qs.any fun z => PyData.eqv z p))
  | x, .tup ds, P => ∃ v vs, scV x = some v ∧ scVs ds = some vs ∧ P (.bl (if neg then !inV v vs else inV v vs))
  | _, _, _ => False
def rInA (K : PySem.W.Frag) : R2 := fun x y H Q => (∃ i j, x = .str i ∧ y = .str j ∧ Q (.bl (!(Builtin.Str.occurrences j i 0 j.length 1).isEmpty)) H) ∨ rIn K false x y H Q ∨ rInD K x y H Q
def rNotInA (K : PySem.W.Frag) : R2 := fun x y H Q => (∃ i j, x = .str i ∧ y = .str j ∧ Q (.bl (!(!(Builtin.Str.occurrences j i 0 j.length 1).isEmpty))) H) ∨ rIn K true x y H Q ∨ rNotInD K x y H Q
theorem op_inA (hu : X.A.units + 65 < cLine) (hK : X.K = K := by rfl) : OpR X (compareOp .In) (rInA K) := by
  subst hK
  exact op_in_str.or (op_in_seq.or (op_inD hu))
theorem op_notInA (hu : X.A.units + 65 < cLine) (hK : X.K = K := by rfl) : OpR X (compareOp .NotIn) (rNotInA K) := by
  subst hK
  exact op_notIn_str.or (op_notIn_seq.or (op_notInD hu))
theorem od_in : OpD K g (rInA K) (dIn false) := fun M H x y vx vy P Q m rx ry f q => by
  unfold dIn at f
  split at f
  · obtain rfl := rx
    obtain rfl := ry
    exact .inl ⟨_, _, rfl, rfl, q _ _ _ f .refl rfl⟩
  · rcases f with ⟨v, vs, e1, e2, f⟩ | ⟨p, qs, e1, e2, f⟩
    · obtain ⟨a, ws, rfl, h1, h2⟩ := ry
      obtain ⟨rfl, k1⟩ := scV_rp e1 rx
      obtain ⟨rfl, k2⟩ := scVs_rp e2 h2
      exact .inr (.inl ⟨a, _, rfl, .inl (SqL.of (hid_some h1).1), k1, k2, q _ _ _ f .refl rfl⟩)
    · exact .inr (.inr ⟨p, qs, dp_of (shD_ok e1).1 rx, dp_of (shD_ok e2).1 ry, (shD_ok e1).2, (shD_ok e2).2, q _ _ _ f .refl rfl⟩)
  · obtain ⟨v, vs, e1, e2, f⟩ := f
    obtain ⟨a, ws, rfl, h1, h2⟩ := ry
    obtain ⟨rfl, k1⟩ := scV_rp e1 rx
    obtain ⟨rfl, k2⟩ := scVs_rp e2 h2
    exact .inr (.inl ⟨a, _, rfl, .inr (hid_ex.sqt h1.sqt), k1, k2, q _ _ _ f .refl rfl⟩)
  · exact f.elim
theorem od_notIn : OpD K g (rNotInA K) (dIn true) := fun M H x y vx vy P Q m rx ry f q => by
  unfold dIn at f
  split at f
  · obtain rfl := rx
    obtain rfl := ry
    exact .inl ⟨_, _, rfl, rfl, q _ _ _ f .refl rfl⟩
  · rcases f with ⟨v, vs, e1, e2, f⟩ | ⟨p, qs, e1, e2, f⟩
    · obtain ⟨a, ws, rfl, h1, h2⟩ := ry
      obtain ⟨rfl, k1⟩ := scV_rp e1 rx
      obtain ⟨rfl, k2⟩ := scVs_rp e2 h2
      exact .inr (.inl ⟨a, _, rfl, .inl (SqL.of (hid_some h1).1), k1, k2, q _ _ _ f .refl rfl⟩)
    · exact .inr (.inr ⟨p, qs, dp_of (shD_ok e1).1 rx, dp_of (shD_ok e2).1 ry, (shD_ok e1).2, (shD_ok e2).2, q _ _ _ f .refl rfl⟩)
  · obtain ⟨v, vs, e1, e2, f⟩ := f
    obtain ⟨a, ws, rfl, h1, h2⟩ := ry
    obtain ⟨rfl, k1⟩ := scV_rp e1 rx
    obtain ⟨rfl, k2⟩ := scVs_rp e2 h2
    exact .inr (.inl ⟨a, _, rfl, .inr (hid_ex.sqt h1.sqt), k1, k2, q _ _ _ f .refl rfl⟩)
  · exact f.elim
/-! is None; is True -/
def isNon : D → Bool
  | .non => true
  | _ => false
def dIs (neg : Bool) : D → D → (D → Prop) → Prop
  | .con _, .non, _ => False
  | x, .non, P => P (.bl (if neg then !isNon x else isNon x))
  | .bl a, .bl b, P => P (.bl (if neg then !(a == b) else a == b))
  | _, _, _ => False
theorem isNon_rp {h : Hp} {x : D} {v : V} (hc : ∀ u, x ≠ .con u) (r : Rp h K x v) : decide (v = .non) = isNon x := by
  cases x with
  | non => obtain rfl := r; rfl
  | bl b => obtain rfl := r; rfl
  | int i => obtain rfl := r; rfl
  | str z => obtain rfl := r; rfl
  | lst ds => obtain ⟨a, vs, rfl, _⟩ := r; rfl
  | tup ds => obtain ⟨a, vs, rfl, _⟩ := r; rfl
  | dct ks ds => obtain ⟨a, vs, rfl, _⟩ := r; rfl
  | obj C fs ds => obtain ⟨a, dx, vs, rfl, _⟩ := r; rfl
  | con u => exact absurd rfl (hc u)
def rIsA : R2 := fun x y H Q => (y = .non ∧ Q (.bl (decide (x = .non))) H) ∨ rIsB x y H Q
def rIsNotA : R2 := fun x y H Q => (y = .non ∧ Q (.bl (!decide (x = .non))) H) ∨ rNotB x y H Q
theorem op_isA : OpR X (compareOp .Is) rIsA := op_isN.or op_isBl
theorem op_isNotA : OpR X (compareOp .IsNot) rIsNotA := op_notN.or op_notBl
end
end PL

set_option maxHeartbeats 1000000
/-! The data layer: subscripts, slices, texts, class constants, keywords. -/
namespace PL
open PySem PySem.Spec L2

section
variable {X : Cx} {K : PySem.W.Frag} {g : GG} {He H H' : Hp} {M ps : List Addr} {e c tg iter elt : Expr} {te ta tb tc : TE} {Fe Fa Fb Fc : FE} {pos : Pos} {a b : Expr} {es : List Expr} {t : TA} {R : FA}
theorem od_is : OpD K g rIsA (dIs false) := fun M H x y vx vy P Q m rx ry f q => by
  unfold dIs at f
  split at f
  · exact f.elim
  · rename_i hc
    obtain rfl := ry
    refine .inl ⟨rfl, ?_⟩
    rw [isNon_rp (fun u z => hc u z) rx]
    exact q _ _ _ f .refl rfl
  · obtain rfl := rx
    obtain rfl := ry
    refine .inr ⟨_, _, rfl, rfl, ?_⟩
    rw [← Bool.beq_eq_decide_eq]
    exact q _ _ _ f .refl rfl
  · exact f.elim
theorem od_isNot : OpD K g rIsNotA (dIs true) := fun M H x y vx vy P Q m rx ry f q => by
  unfold dIs at f
  split at f
  · exact f.elim
  · rename_i hc
    obtain rfl := ry
    refine .inl ⟨rfl, ?_⟩
    rw [isNon_rp (fun u z => hc u z) rx]
    exact q _ _ _ f .refl rfl
  · obtain rfl := rx
    obtain rfl := ry
    refine .inr ⟨_, _, rfl, rfl, ?_⟩
    rw [← Bool.beq_eq_decide_eq]
    exact q _ _ _ f .refl rfl
  · exact f.elim
/-! a op b op c -/
theorem ld_chain {r r' : R2} {f h : D → D → (D → Prop) → Prop} (hf : OpD K g r f) (hh : OpD K g r' h)
    (la : ∀ M ρ σ H P Q, Msk K g M H → REnv K (hid H M) ρ σ → Fa ρ P → PV K g M H P Q → ta σ H Q)
    (lb : ∀ M ρ σ H P Q, Msk K g M H → REnv K (hid H M) ρ σ → Fb ρ P → PV K g M H P Q → tb σ H Q)
    (lc : ∀ M ρ σ H P Q, Msk K g M H → REnv K (hid H M) ρ σ → Fc ρ P → PV K g M H P Q → tc σ H Q) :
    ∀ M ρ σ H P Q, Msk K g M H → REnv K (hid H M) ρ σ → fCh f h Fa Fb Fc ρ P → PV K g M H P Q → tChain r r' ta tb tc σ H Q := fun M ρ σ H P Q m rr ff q =>
  la M ρ σ H _ _ m rr ff fun x v1 H1 p1 s1 r1 =>
    lb M ρ σ H1 _ _ (m.stp s1) (rr.ex (s1.hid m)) p1 fun y v2 H2 p2 s2 r2 =>
      hf M H2 x y v1 v2 _ _ ((m.stp s1).stp s2) (Rp.ex (s2.hid (m.stp s1)) r1) r2 p2 fun z v3 H3 p3 s3 r3 => by
        have m3 := ((m.stp s1).stp s2).stp s3
        cases z with
        | bl k =>
          cases k with
          | true =>
            exact ⟨true, r3, lc M ρ σ H3 _ _ m3 (((rr.ex (s1.hid m)).ex (s2.hid (m.stp s1))).ex (s3.hid ((m.stp s1).stp s2))) p3 fun w v4 H4 p4 s4 r4 =>
              hh M H4 y w v2 v4 P Q (m3.stp s4) (Rp.ex (s4.hid m3) (Rp.ex (s3.hid ((m.stp s1).stp s2)) r2)) r4 p4 (q.stp (((s1.trans s2).trans s3).trans s4))⟩
          | false => exact ⟨false, r3, q _ _ _ p3 ((s1.trans s2).trans s3) rfl⟩
        | _ => exact p3.elim
theorem de_chain {op op' : CmpOp} {r r' : R2} {f h : D → D → (D → Prop) → Prop} (ho : OpR X (compareOp op) r) (ho' : OpR X (compareOp op') r') (hf : OpD K g r f) (hh : OpD K g r' h) (ha : DE X K g a ta Fa) (hb : DE X K g b tb Fb) (hc : DE X K g c tc Fc)
    (hm : lastMarks [op, op'] [b, c] = false := by with_unfolding_all rfl) : DE X K g (.Compare a [op, op'] [b, c] pos) (tChain r r' ta tb tc) (fCh f h Fa Fb Fc) := ⟨pe_chain ho ho' ha.pe hb.pe hc.pe hm, ld_chain hf hh ha.ld hb.ld hc.ld⟩
theorem dt_chain {op op' : CmpOp} {r r' : R2} {f h : D → D → (D → Prop) → Prop} (ho : OpR X (compareOp op) r) (ho' : OpR X (compareOp op') r') (hf : OpD K g r f) (hh : OpD K g r' h) (ha : DE X K g a ta Fa) (hb : DE X K g b tb Fb) (hc : DE X K g c tc Fc)
    (hm : lastMarks [op, op'] [b, c] = false := by with_unfolding_all rfl) : DT X K g (.Compare a [op, op'] [b, c] pos) (tTest (tChain r r' ta tb tc)) (fTst (fCh f h Fa Fb Fc)) := ⟨pt_chain ho ho' ha.pe hb.pe hc.pe hm, ld_tst (ld_chain hf hh ha.ld hb.ld hc.ld)⟩
/-! subscripts -/
def dIx : D → D → (D → Prop) → Prop
  | .lst ds, .int i, P => ∃ d, atI ds i = some d ∧ P d
  | .tup ds, .int i, P => ∃ d, atI ds i = some d ∧ P d
  | .str x, .int i, P => x.length ≤ sizeLine ∧ ∃ c, atI x.cps.toList i = some c ∧ P (.str ⟨#[c]⟩)
  | _, _, _ => False
theorem atI_rp {h : Hp} {ds : List D} {vs : List V} {i : Int} {d : D} (r : RpL h K ds vs) (e : atI ds i = some d) : ∃ v, atI vs i = some v ∧ Rp h K d v := by
  unfold atI at e ⊢
  rw [← r.len]
  cases q : ixN ds.length i with
  | none => rw [q] at e; cases e
  | some j =>
    rw [q] at e
    obtain ⟨v, h1, h2⟩ := r.get (show ds[j]? = some d from e)
    exact ⟨v, h1, h2⟩
theorem od_ix : OpD K g (rIx K) dIx := fun M H x y vx vy P Q m rx ry f q => by
  unfold dIx at f
  split at f
  · obtain ⟨d, e, f⟩ := f
    obtain ⟨a, vs, rfl, h1, h2⟩ := rx
    obtain rfl := ry
    obtain ⟨v, e2, r2⟩ := atI_rp h2 e
    exact .inl ⟨a, vs, _, v, rfl, rfl, SqL.of (hid_some h1).1, e2, q _ _ _ f .refl r2⟩
  · obtain ⟨d, e, f⟩ := f
    obtain ⟨a, vs, rfl, h1, h2⟩ := rx
    obtain rfl := ry
    obtain ⟨v, e2, r2⟩ := atI_rp h2 e
    exact .inr (.inl ⟨a, vs, _, v, rfl, rfl, hid_ex.sqt h1.sqt, e2, q _ _ _ f .refl r2⟩)
  · obtain ⟨hz, c, e, f⟩ := f
    obtain rfl := rx
    obtain rfl := ry
    exact .inr (.inr ⟨_, _, c, rfl, rfl, hz, e, q _ _ _ f .refl rfl⟩)
  · exact f.elim
theorem ix_A (hK : X.K = K := by rfl) : IxR X (rIx K) := by
  subst hK
  exact ix_seq
theorem de_ix (ha : DE X K g a ta Fa) (hb : DE X K g b tb Fb) (hs : PlainIx b) (hK : X.K = K := by rfl) : DE X K g (.Subscript a b pos) (tOp (rIx K) ta tb) (fOp dIx Fa Fb) := ⟨pe_ix (ix_A hK) ha.pe hb.pe hs, ld_op od_ix ha.ld hb.ld⟩
/-! slices -/
abbrev FO := Rho → (Option Int → Prop) → Prop
structure DO (X : Cx) (K : PySem.W.Frag) (g : GG) (e : Option Expr) (t : TO) (F : FO) : Prop where
  po : PO X e t
  ld : ∀ M ρ σ H P Q, Msk K g M H → REnv K (hid H M) ρ σ → F ρ P → (∀ o H', P o → Stp K g H H' → Q o H') → t σ H Q
def fNoP : FO := fun _ P => P none
def fPart (F : FE) : FO := fun ρ P => F ρ fun d => match d with
  | .int i => P (some i)
  | _ => False
theorem do_none : DO X K g none tNoPart fNoP := ⟨po_none, fun M ρ σ H P Q m r f q => q none H f .refl⟩
theorem do_some (h : DE X K g e te Fe) : DO X K g (some e) (tPart te) (fPart Fe) := ⟨po_some h.pe, fun M ρ σ H P Q m r f q => h.ld M ρ σ H _ _ m r f fun d v H1 p1 s1 r1 => by
  cases d with
  | int i => exact ⟨i, r1, q _ _ p1 s1⟩
  | _ => exact p1.elim⟩
def cutD (ds : List D) (lo hi : Option Int) : List D := (ds.drop (HT.sIx ds.length 0 lo)).take (HT.sIx ds.length ds.length hi - HT.sIx ds.length 0 lo)
theorem cutD_all {ds : List D} {lo hi : Option Int} (h1 : HT.sIx ds.length 0 lo = 0) (h2 : HT.sIx ds.length ds.length hi = ds.length) : cutD ds lo hi = ds := by
  unfold cutD
  rw [h1, h2, List.drop_zero, Nat.sub_zero, List.take_length]
def dSl : D → Option Int → Option Int → (D → Prop) → Prop
  | .str z, lo, hi, P => z.length ≤ sizeLine ∧ P (.str (cutS z lo hi))
  | .lst ds, lo, hi, P => P (.lst (cutD ds lo hi))
  | .tup ds, lo, hi, P => P (.tup (cutD ds lo hi))
  | _, _, _, _ => False
def rSlZ (K : PySem.W.Frag) : V → Option Int → Option Int → Hp → VK → Prop := fun x lo hi H Q => rSlS x lo hi H Q ∨ rSlL K x lo hi H Q ∨ L2.rSlA K x lo hi H Q
theorem sl_A (hK : X.K = K := by rfl) : SlR X (rSlZ K) := by
  subst hK
  exact sl_str.or (sl_list.or sl_tupA)
def fSl (F : FE) (L U : FO) : FE := fun ρ P => F ρ fun x => L ρ fun lo => U ρ fun hi => dSl x lo hi P
theorem de_sl {lo hi : Option Expr} {tl th : TO} {L U : FO} {p2 : Pos} (he : DE X K g e te Fe) (hl : DO X K g lo tl L) (hu : DO X K g hi th U) (hK : X.K = K := by rfl) : DE X K g (.Subscript e (.Slice lo hi none p2) pos) (tSl (rSlZ K) te tl th) (fSl Fe L U) :=
  ⟨pe_slice (sl_A hK) he.pe hl.po hu.po, fun M ρ σ H P Q m r f q => he.ld M ρ σ H _ _ m r f fun x v H1 p1 s1 r1 =>
    hl.ld M ρ σ H1 _ _ (m.stp s1) (r.ex (s1.hid m)) p1 fun lo H2 p2 s2 => hu.ld M ρ σ H2 _ _ ((m.stp s1).stp s2) ((r.ex (s1.hid m)).ex (s2.hid (m.stp s1))) p2 fun hi H3 p3 s3 => by
      have m3 := ((m.stp s1).stp s2).stp s3
      have r3 : Rp (hid H3 M) K x v := Rp.ex (s3.hid ((m.stp s1).stp s2)) (Rp.ex (s2.hid (m.stp s1)) r1)
      have s := (s1.trans s2).trans s3
      unfold dSl at p3
      split at p3
      · obtain rfl := r3
        exact .inl ⟨_, rfl, p3.1, q _ _ _ p3.2 s rfl⟩
      · obtain ⟨a, vs, rfl, h1, h2⟩ := r3
        exact .inr (.inl ⟨a, vs, rfl, SqL.of (hid_some h1).1, fun p hp => q _ _ _ p3 (s.trans (.new hp)) (rp_newL m3 hp (h2.cut lo hi))⟩)
      · obtain ⟨a, vs, e1, h1, h2⟩ := id r3
        subst e1
        refine .inr (.inr ⟨a, vs, rfl, hid_ex.sqt h1.sqt, ?_⟩)
        have hl := h2.len
        refine ⟨fun hw => ?_, fun _ p hp => q _ _ _ p3 (s.trans (.new hp)) (rp_newT m3 hp (h2.cut lo hi))⟩
        have e : cutD _ lo hi = _ := cutD_all (by rw [hl]; exact hw.1) (by rw [hl]; exact hw.2)
        rw [e] at p3
        exact q _ _ _ p3 s r3
      · exact p3.elim⟩
end
end PL

set_option maxHeartbeats 1000000
/-! The data layer: one rule a construct, for the printed terms. -/
namespace PL
open PySem PySem.Spec L2
open PyProof.Rows (envOfC)

section
variable {X : Cx} {K : PySem.W.Frag} {g : GG} {e c tg iter elt a b : Expr} {te ta tb tc : TE} {Fe Fa Fb Fc : FE} {pos p : Pos} {es : List Expr} {t : TA} {R : FA} {x : Str} {u : TS} {T U : DTS}
/-- a name of the body -/
theorem dv (i : Nat) {x : Str} (hN : X.N[i]? = some x := by rfl) (hv : Vis X.env.scope x := by first | exact Or.inl rfl | exact Or.inr (Or.inl rfl) | exact Or.inr (Or.inr rfl)) (hd : (x == ("__debug__" : Str)) = false := by decide)
    (hcd : (x == ("__classdict__" : Str)) = false := by decide) : DE X K g (.Name x pos) (tVar i) (fVar i) := de_var (pe_var hN hv hd hcd)
/-- a built-in type by its name -/
theorem d_ty {n : String} (hm : X.mg x = none) (hv : bootBuiltins x = some (.type n)) (hg : Gl X x := by rfl) (hn : x ≠ "__name__" := by decide) (hd : (x == ("__debug__" : Str)) = false := by decide) : DE X K g (.Name x pos) (tC (.ty n)) (fC (.con (.ty n))) :=
  de_con (pe_bltn hg hm hv rfl hn hd) fun _ => rfl
/-- a name of the module: a text, an int, a class -/
theorem d_gstr {z : Str} (hm : ∃ t, X.mg x = some (.str z t)) (hg : Gl X x := by rfl) (hd : (x == ("__debug__" : Str)) = false := by decide) : DE X K g (.Name x pos) (tC (.str z)) (fC (.str z)) :=
  let ⟨t, h⟩ := hm
  de_con (pe_glob hg h ⟨t, rfl⟩ hd) fun _ => rfl
theorem d_gint {z : Int} (hm : ∃ t, X.mg x = some (.int z t)) (hg : Gl X x := by rfl) (hd : (x == ("__debug__" : Str)) = false := by decide) : DE X K g (.Name x pos) (tC (.int z)) (fC (.int z)) :=
  let ⟨t, h⟩ := hm
  de_con (pe_glob hg h ⟨t, rfl⟩ hd) fun _ => rfl
theorem d_gref {z : Addr} (hm : X.mg x = some (.ref z)) (hg : Gl X x := by rfl) (hd : (x == ("__debug__" : Str)) = false := by decide) : DE X K g (.Name x pos) (tC (.ref z)) (fC (.con (.ref z))) :=
  de_con (pe_glob hg hm rfl hd) fun _ => rfl
/-- built-in functions and types, called -/
theorem d_callB {id : String} {r : List V → Hp → VK → Prop} {f : List D → (D → Prop) → Prop} (hc : CallR X (.builtin id) r) (hf : CallD K g r f) (hm : X.mg x = none) (hv : bootBuiltins x = some (.builtin id)) (ha : DA X K g (e :: es) t R) (hg : Gl X x := by rfl)
    (hn : x ≠ "__name__" := by decide) (hdb : (x == ("__debug__" : Str)) = false := by decide) (he : starEach (e :: es) X.env = (false, eval e X.env) :: starEach es X.env := by rfl) (hpl : (backTo pos (starEach es X.env)).any (·.1) = false := by rfl) :
    DE X K g (.Call (.Name x p) (e :: es) [] pos) (tCB r t) (fCB f R) := de_cb (pe_callB hc hg hm hv ha.pa hn hdb he hpl) hf ha
theorem d_callT {id : String} {r : List V → Hp → VK → Prop} {f : List D → (D → Prop) → Prop} (hc : CallR X (.type id) r) (hf : CallD K g r f) (hm : X.mg x = none) (hv : bootBuiltins x = some (.type id)) (ha : DA X K g (e :: es) t R) (hg : Gl X x := by rfl)
    (hn : x ≠ "__name__" := by decide) (hdb : (x == ("__debug__" : Str)) = false := by decide) (he : starEach (e :: es) X.env = (false, eval e X.env) :: starEach es X.env := by rfl) (hpl : (backTo pos (starEach es X.env)).any (·.1) = false := by rfl) :
    DE X K g (.Call (.Name x p) (e :: es) [] pos) (tCB r t) (fCB f R) := de_cb (pe_callTy hc hg hm hv ha.pa hn hdb he hpl) hf ha
/-! defs of the text -/
/-- the def at f keeps the promise F, binds its parameters qs (dvs: the values of defaults at the end) -/
structure Cal (P : Program) (w : World) (K : PySem.W.Frag) (mg : Str → Option Value) (base : Heap) (k : Nat) (f : Addr) (qs : List Str) (F : GG → List D → (D → Prop) → Prop) : Prop where
  ex : ∃ fd, FnOk P w K mg base CX0 k f fd qs (DFn K F) ∧ Binds K fd qs []
  kp : PySem.W.keepIn K (.ref f) = true
theorem d_call {k : Nat} {f : Addr} {qs : List Str} {F : GG → List D → (D → Prop) → Prop} (C : Cal X.prog X.w K X.mg X.base k f qs F) (hr : Room k X.A) (hm : X.mg x = some (.ref f)) (ha : DA X K g (e :: es) t R) (hx : Passes CX0 X E0 := by exact pass0) (hK : X.K = K := by rfl)
    (hg : Gl X x := by rfl) (hdb : (x == ("__debug__" : Str)) = false := by decide) (he : starEach (e :: es) X.env = (false, eval e X.env) :: starEach es X.env := by rfl) (hpl : (backTo pos (starEach es X.env)).any (·.1) = false := by rfl) :
    DE X K g (.Call (.Name x p) (e :: es) [] pos) (tCall (DFn K F) [] E0 t) (fCall F g R []) := by
  subst hK
  obtain ⟨fd, h, b⟩ := C.ex
  exact de_call (pe_call h hr hg hm C.kp b .nil hx ha.pa hdb he hpl) ha fun _ => rfl
theorem d_call0 {k : Nat} {f : Addr} {qs : List Str} {F : GG → List D → (D → Prop) → Prop} (C : Cal X.prog X.w K X.mg X.base k f qs F) (hr : Room k X.A) (hm : X.mg x = some (.ref f)) (hx : Passes CX0 X E0 := by exact pass0) (hK : X.K = K := by rfl)
    (hg : Gl X x := by rfl) (hdb : (x == ("__debug__" : Str)) = false := by decide) :
    DE X K g (.Call (.Name x p) [] [] pos) (tCall (DFn K F) [] E0 tNil) (fCall F g fNil []) := by
  subst hK
  obtain ⟨fd, h, b⟩ := C.ex
  exact de_call (pe_call0 h hr hg hm C.kp b .nil hx hdb) da_nil fun _ => rfl
theorem Cal.mono {P : Program} {w : World} {K : PySem.W.Frag} {mg : Str → Option Value} {base : Heap} {k j : Nat} {f : Addr} {qs : List Str} {F : GG → List D → (D → Prop) → Prop} (C : Cal P w K mg base k f qs F) (h : k ≤ j) : Cal P w K mg base j f qs F :=
  ⟨let ⟨fd, a, b⟩ := C.ex; ⟨fd, a.mono h, b⟩, C.kp⟩
theorem cal_of {P : Program} {w : World} {mg : Str → Option Value} {base : Heap} {y qual : Str} {params : Arguments} {bd : List Stmt} {scope : Scope} {f : Addr} {N qs : List Str} {k : Nat} {T : GG → DTS}
    (F : ∃ fd, FunD K y qual params bd scope [] [] f fd) (S : FnScope N qs scope)
    (hb : ∀ (kV doc pm : Value) (an : Option Addr) (cdv ct : Value) (us : List Value), us.length = qs.length → bindArgs (PySem.W.fnOf y qual params bd scope .none kV doc pm an cdv ct) ⟨us, []⟩ = pure (qs.zip us))
    (hT : ∀ (cdv : Value) (A : Around) (outer : List PySem.Env) (s : Shared) (H : Hp) (E : XK), Room k (A.deeper (envOfC qual scope s.heap.objs.size f cdv)) →
      ∃ t, ∀ g, DSs (cxOf CX0 P w K mg base N qual scope f cdv A outer s H E).nox K g bd t (T g)) :
    Cal P w K mg base (k + 1) f qs (fun g => body qs.length N.length (T g)) := by
  obtain ⟨fd, F⟩ := F
  exact ⟨⟨fd, dfn_ok F S hT, F.bindsN hb⟩, F.kp⟩
/-! statements -/
theorem d_set (i : Nat) (hN : X.N.Nodup) (he : DE X K g e te Fe) (hi : X.N[i]? = some x := by rfl) (hx : Loc X.env.scope x := by first | exact Or.inl rfl | exact Or.inr rfl) (hs : swapsWith e (some (.Name x p)) pos.line X.env = pure false := by rfl)
    (hf : X.fn x = true ∨ X.env.scope.names.lookup x = some .local := by first | exact .inl rfl | exact .inr rfl) : DS X K g (.Assign [.Name x p] e pos) (tAsg te (gName i)) (dSet i Fe) := ⟨ps_set hN hi hx he.pe hs hf, lds_set he⟩
theorem d_setO (i : Nat) (hN : X.N.Nodup) (he : DE X K g e te Fe) (hi : X.N[i]? = some x := by rfl) (hx : Loc X.env.scope x := by first | exact Or.inl rfl | exact Or.inr rfl) (hs : swapsWith e (some (.Name x p)) pos.line X.env = pure false := by rfl)
    (hf : X.fn x = true ∨ X.env.scope.names.lookup x = some .local := by first | exact .inl rfl | exact .inr rfl) : DS X K g (.Assign [.Name x p] e pos) (tAsg te (gName i)) (dSetO i Fe) := ds_setO (ps_set hN hi hx he.pe hs hf) he
theorem d_own (i : Nat) (hN : X.N.Nodup) (ha : DA X K g es t R) (hi : X.N[i]? = some x := by rfl) (hx : Loc X.env.scope x := by first | exact Or.inl rfl | exact Or.inr rfl) {p2 : Pos} (hs : swapsWith (.List es p2) (some (.Name x p)) pos.line X.env = pure false := by rfl)
    (hf : X.fn x = true ∨ X.env.scope.names.lookup x = some .local := by first | exact .inl rfl | exact .inr rfl) : DS X K g (.Assign [.Name x p] (.List es p2) pos) (tAsg (tLst t) (gName i)) (dOwn i R) := ds_own (ps_set hN hi hx (pe_lst ha.pa) hs hf) ha
theorem d_app (i : Nat) {p1 p2 : Pos} (he : DE X K g e te Fe) (hN : X.N[i]? = some x := by rfl) (hv : Vis X.env.scope x := by first | exact Or.inl rfl | exact Or.inr (Or.inl rfl) | exact Or.inr (Or.inr rfl)) (hd : (x == ("__debug__" : Str)) = false := by decide)
    (hcd : (x == ("__classdict__" : Str)) = false := by decide) (hst : starEach [e] X.env = (false, eval e X.env) :: starEach [] X.env := by rfl) (hs : swapsWith (.Call (.Attribute (.Name x p1) "append" p2) [e] [] pos) none pos.line X.env = pure false := by rfl)
    (hbase : attributeBase (.Name x p1) "append" X.env (eval (.Name x p1) X.env) = eval (.Name x p1) X.env := by rfl)
    (hfew : ((backTo pos (starEach [e] X.env)).all (fun x => !x.1) && (backToKw pos (keywordEach [] X.env)).all (fun x => x.1.isSome)
      && decide (([e] : List Expr).length + ([] : List Keyword).length + (if ([] : List Keyword).isEmpty then 0 else 1) < 30)) = true := by rfl)
    (hline : (p2.endLine == pos.line) = true := by rfl) (hK : X.K = K := by rfl) : DS X K g (.Expr (.Call (.Attribute (.Name x p1) "append" p2) [e] [] pos) pos) (tDrop (tBM K "list" rAppend (tVar i) (tCons te tNil))) (dApp i Fe) :=
  ds_app (pe_var hN hv hd hcd) he hs (hK ▸ pe_bm PySem.F.plainAttrs_list PySem.F.slot_list_append PySem.F.type_list_append mt_append (pe_var hN hv hd hcd) (pa_cons he.pe pa_nil hst) hbase hfew hline hst)
theorem d_tgt (i : Nat) (hN : X.N.Nodup) (hi : X.N[i]? = some x := by rfl) (hx : Loc X.env.scope x := by first | exact Or.inl rfl | exact Or.inr rfl) (hf : X.fn x = true ∨ X.env.scope.names.lookup x = some .local := by first | exact .inl rfl | exact .inr rfl) :
    DG X K (.Name x pos) (gName i) (gtName i) [i] := dg_name (pg_name hN hi hx hf)
theorem d_tgtT {n k : Nat} {tG : TGs} {G : List D → Option Bs} {ix : List Nat} (hc : X.calm = true) (h : DGs X K es tG G ix) (hn : (assignEach es X.env).length = n := by rfl) (hst : (assignEach es X.env).findIdx? (·.1) = none := by rfl) (hK : X.K = K := by rfl) :
    DG X K (.Tuple es k pos) (gTup K n tG) (gtTup n G) ix := dg_tup (hK ▸ pg_tup hc h.pg hn hst) h
theorem d_for {bd : List Stmt} {wi : TI} {F : FA} {tG : TG} {G : D → Option Bs} {ix : List Nat} (hi : DI X K g tg iter wi F) (hg : DG X K tg tG G ix) (hb : DSs X K g bd u T) (hc : X.calm = true := by rfl) (hp : PassesOwn (model X.prog X.w) X.A X.env X.xe := by exact PassesOwn.never)
    (hs : ∀ x, foldedSetIterable iter X.env x = pure x := by intro _; rfl) : DS X K g (.For tg iter bd [] pos) (tFor wi tG u) (dFor F G T) := ds_for hp hc hi hg hb hs
theorem d_par (i j : Nat) {y : Str} {px py pt pt2 : Pos} {kt k2 : Nat} (hN : X.N.Nodup) (ha : DA X K g [a, b] t R) (hij : i ≠ j := by decide) (hi : X.N[i]? = some x := by rfl) (hj : X.N[j]? = some y := by rfl)
    (hx : X.env.scope.names.lookup x = some .local := by rfl) (hy : X.env.scope.names.lookup y = some .local := by rfl) (hc : X.calm = true := by rfl)
    (hw : swappedStores [.Tuple [.Name x px, .Name y py] kt pt] (.Tuple [a, b] k2 pt2) X.env = pure (some [x, y]) := by rfl)
    (hs : swapsWithSole [.Tuple [.Name x px, .Name y py] kt pt] (.Tuple [a, b] k2 pt2) pos.line X.env = pure false := by rfl) : DS X K g (.Assign [.Tuple [.Name x px, .Name y py] kt pt] (.Tuple [a, b] k2 pt2) pos) (tPar i j t) (dPar i j R) :=
  ds_par (ps_par hc hN hi hj hij hx hy ha.pa hw hs) ha
theorem d_asg {tG : TG} {G : D → Option Bs} {ix : List Nat} (hg : DG X K tg tG G ix) (he : DE X K g e te Fe) (hs : swapsWithSole [tg] e pos.line X.env = pure false := by rfl) (hw : swappedStores [tg] e X.env = pure none := by rfl)
    (h1 : (assignEach [tg] X.env).map (·.2) = [assign tg X.env] := by rfl) : DS X K g (.Assign [tg] e pos) (tAsg te tG) (dAsg G Fe) := ds_asg (ps_asg he.pe hg.pg hs hw h1) hg he
/-! what is walked -/
theorem d_wl (he : DE X K g e te Fe) (hK : X.K = K := by rfl) : DI X K g tg e (iList K te) (fSeqL Fe) := di_list he (hK ▸ pi_list he.pe)
theorem d_wt (he : DE X K g e te Fe) (hK : X.K = K := by rfl) : DI X K g tg e (iTup K te) (fSeqT Fe) := di_tup he (hK ▸ pi_tup he.pe)
theorem d_ws (he : DE X K g e te Fe) : DI X K g tg e (iStr te) (fSigns Fe) := di_str he (pi_str he.pe)
theorem d_wr1 (hm : X.mg "range" = none) (ha : DA X K g [a] t R) (hg : Gl X "range" := by rfl) (hs : starEach [a] X.env = [(false, eval a X.env)] := by rfl) : DI X K g tg (.Call (.Name "range" p) [a] [] pos) (iRng1 t) (fRng1 R) := di_rng1 ha (pi_range1 hg hm ha.pa hs)
theorem d_wz {elts : List Expr} {kk : Nat} {tpos : Pos} (hm : X.mg "zip" = none) (ha : DA X K g [a, b] t R) (hg : Gl X "zip" := by rfl) (hs : starEach [a, b] X.env = (false, eval a X.env) :: starEach [b] X.env := by rfl) (hpl : (backTo pos (starEach [b] X.env)).any (·.1) = false := by rfl) (hK : X.K = K := by rfl) :
    DI X K g (.Tuple elts kk tpos) (.Call (.Name "zip" p) [a, b] [] pos) (RZ.iZipA K t) (fZip R) := di_zip ha (hK ▸ RZ.pi_zipA hg hm ha.pa hs hpl)
/-! comprehensions -/
theorem d_lc {ifs : List Expr} {scope : Scope} {own : List (Str × Nat)} {wi : TI} {F : FA} {tG : TG} {G : D → Option Bs} {ix : List Nat} {tA : TT} {A : FT} {tE : TE} {E : FE} (hN : X.N.Nodup) (ok : BlkOk X.N X.env.scope scope own) (hi : DI X K g tg iter wi F) (hix : ∀ i ∈ ix, i ∈ own.map (·.2))
    (hg : ∀ (s : Shared) (H : Hp) (C : Addr) (cl : List (Str × Addr)) (fp : List Addr), DG (X.blk s H scope (compEnvC scope cl C X.env) fp) K tg tG G ix)
    (ht : ∀ (s : Shared) (H : Hp) (C : Addr) (cl : List (Str × Addr)) (fp : List Addr), DTt (X.blk s H scope (compEnvC scope cl C X.env) fp) K g ifs tA A)
    (he : ∀ (s : Shared) (H : Hp) (C : Addr) (cl : List (Str × Addr)) (fp : List Addr), DE (X.blk s H scope (compEnvC scope cl C X.env) fp) K g elt tE E)
    (hc : X.calm = true := by rfl) (hs : ∀ x, foldedSetIterable iter X.env x = pure x := by intro _; rfl) : DE X K g (.ListComp elt [⟨tg, iter, ifs, 0⟩] scope pos) (tLc wi tG tA tE (own.map (·.2))) (fLc F G A E (own.map (·.2))) :=
  de_lc hi hix hg ht he (pe_lc hc hN hi.pi ok (fun s H C cl fp => (hg s H C cl fp).pg) (fun s H C cl fp => (ht s H C cl fp).pt) (fun s H C cl fp => (he s H C cl fp).pe) hs)
theorem d_setLc (i : Nat) {ifs : List Expr} {scope : Scope} {own : List (Str × Nat)} {wi : TI} {F : FA} {tG : TG} {G : D → Option Bs} {ix : List Nat} {tA : TT} {A : FT} {tE : TE} {E : FE} {p2 : Pos} (hN : X.N.Nodup) (ok : BlkOk X.N X.env.scope scope own) (hi : DI X K g tg iter wi F) (hix : ∀ i ∈ ix, i ∈ own.map (·.2))
    (hg : ∀ (s : Shared) (H : Hp) (C : Addr) (cl : List (Str × Addr)) (fp : List Addr), DG (X.blk s H scope (compEnvC scope cl C X.env) fp) K tg tG G ix)
    (ht : ∀ (s : Shared) (H : Hp) (C : Addr) (cl : List (Str × Addr)) (fp : List Addr), DTt (X.blk s H scope (compEnvC scope cl C X.env) fp) K g ifs tA A)
    (he : ∀ (s : Shared) (H : Hp) (C : Addr) (cl : List (Str × Addr)) (fp : List Addr), DE (X.blk s H scope (compEnvC scope cl C X.env) fp) K g elt tE E)
    (hsw : swapsWith (.ListComp elt [⟨tg, iter, ifs, 0⟩] scope p2) (some (.Name x p)) pos.line X.env = pure true) (hy : X.N[i]? = some x := by rfl) (hyl : X.env.scope.names.lookup x = some .local := by rfl)
    (hc : X.calm = true := by rfl) (hs : ∀ x, foldedSetIterable iter X.env x = pure x := by intro _; rfl) : DS X K g (.Assign [.Name x p] (.ListComp elt [⟨tg, iter, ifs, 0⟩] scope p2) pos) (tAsg (tLc wi tG tA tE (own.map (·.2))) (gName i)) (dSet i (fLc F G A E (own.map (·.2)))) :=
  ⟨ps_setLc hc hN hy hyl hsw hi.pi ok (fun s H C cl fp => (hg s H C cl fp).pg) (fun s H C cl fp => (ht s H C cl fp).pt) (fun s H C cl fp => (he s H C cl fp).pe) hs,
    fun He M pins s σ H De Dn ⟨ps, r⟩ h l => ld_lc hix hi.ld (hg X.s_0 (fun _ => none) 0 [] []).ld (ht X.s_0 (fun _ => none) 0 [] []).ld (he X.s_0 (fun _ => none) 0 [] []).ld (ps ++ M) (bln s) σ H _ _ r.msk r.bln h fun d v H' p st rp =>
      l.nx _ _ _ ⟨ps, (r.step st).setP rp⟩ p⟩
/-! texts -/
theorem u65 {k : Nat} {A : Around} (r : Room k A) : A.units + 65 < cLine := by have := r.un; omega
/-- a constant of a class -/
theorem d_cval {C : Addr} {mc : Value} {f : Str} {v : V} {d : D} {w : Value} {q : Pos} (hm : X.mg x = some (.ref C)) (r : ClX.CRead K C mc) (k : ClX.CVal K C mc f v w) (hd : ∀ h, Rp h K d v) (hg : Gl X x := by rfl) (hdb : (x == ("__debug__" : Str)) = false := by decide)
    (hb : attributeBase (.Name x p) f X.env (eval (.Name x p) X.env) = eval (.Name x p) X.env := by rfl) (hK : X.K = K := by rfl) : DE X K g (.Attribute (.Name x p) f q) (ClX.tCVal K (tC (.ref C)) f) (fC d) :=
  ⟨hK ▸ ClX.pe_cval (pe_glob hg hm rfl hdb) hb, fun M ρ σ H P Q m ρr f q => ⟨C, mc, v, w, rfl, r, k, q d v H f .refl (hd _)⟩⟩
def strsD : List D → Option (List Str)
  | [] => some []
  | .str x :: ds => (strsD ds).map (x :: ·)
  | _ => none
theorem strsD_rp {h : Hp} : ∀ {ds : List D} {bs : List Str} {vs : List V}, strsD ds = some bs → RpL h K ds vs → vs = bs.map V.str
  | [], bs, vs, e, r => by
    cases e
    exact r
  | d :: ds, bs, vs, e, r => by
    obtain ⟨v, ws, rfl, r1, r2⟩ := r
    cases d with
    | str b =>
      unfold strsD at e
      cases e1 : strsD ds with
      | none => rw [e1] at e; cases e
      | some cs =>
        rw [e1] at e
        cases e
        obtain rfl := r1
        rw [strsD_rp e1 r2]
        rfl
    | _ => cases e
def dJoin (z : Str) : D → (D → Prop) → Prop
  | .lst ds, P => ∃ ys, strsD ds = some ys ∧ (ys.map (·.length)).sum + ys.length * z.length ≤ 16777216 ∧ P (.str (PySem.Str.join z ys))
  | .tup ds, P => ∃ ys, strsD ds = some ys ∧ (ys.map (·.length)).sum + ys.length * z.length ≤ 16777216 ∧ P (.str (PySem.Str.join z ys))
  | _, _ => False
/-- a method of a text with one argument -/
def fS1 (f : Str → D → (D → Prop) → Prop) (Fa Fb : FE) : FE := fun ρ P => Fa ρ fun x => match x with
  | .str z => Fb ρ fun y => f z y P
  | _ => False
abbrev rJoin (K : PySem.W.Frag) : V → List V → Hp → VK → Prop := fun x xs H Q => ∃ a p, ∃ ys : List Str, x = .str a ∧ xs = [.ref p] ∧ (SqL K H p (ys.map V.str) ∨ SqT K H p (ys.map V.str)) ∧
  (ys.map (·.length)).sum + ys.length * a.length ≤ 16777216 ∧ Q (.str (PySem.Txt.join a ys)) H
theorem d_join {apos : Pos} (ha : DE X K g a ta Fa) (hb : DE X K g b tb Fb) (hs : starEach [b] X.env = [(false, eval b X.env)] := by rfl) (hbase : attributeBase a "join" X.env (eval a X.env) = eval a X.env := by rfl) (hline : (apos.endLine == pos.line) = true := by rfl) (hK : X.K = K := by rfl) :
    DE X K g (.Call (.Attribute a "join" apos) [b] [] pos) (tM1 (rJoin K) ta tb) (fS1 dJoin Fa Fb) :=
  ⟨hK ▸ pe_join ha.pe hb.pe hs hbase hline, fun M ρ σ H P Q m r f q => ha.ld M ρ σ H _ _ m r f fun x v H1 p1 s1 r1 => by
    cases x with
    | str z =>
      obtain rfl := r1
      refine ⟨⟨z, rfl⟩, hb.ld M ρ σ H1 _ _ (m.stp s1) (r.ex (s1.hid m)) p1 fun y w H2 p2 s2 r2 => ?_⟩
      unfold dJoin at p2
      split at p2
      · obtain ⟨ys, e1, e2, p⟩ := p2
        obtain ⟨a, vs, rfl, h1, h2⟩ := r2
        obtain rfl := strsD_rp e1 h2
        refine ⟨_, a, ys, rfl, rfl, .inl (SqL.of (hid_some h1).1), e2, ?_⟩
        rw [TL.join_eq]
        exact q _ _ _ p (s1.trans s2) rfl
      · obtain ⟨ys, e1, e2, p⟩ := p2
        obtain ⟨a, vs, rfl, h1, h2⟩ := r2
        obtain rfl := strsD_rp e1 h2
        refine ⟨_, a, ys, rfl, rfl, .inr (hid_ex.sqt h1.sqt), e2, ?_⟩
        rw [TL.join_eq]
        exact q _ _ _ p (s1.trans s2) rfl
      · exact p2.elim
    | _ => exact p1.elim⟩
end
end PL

set_option maxHeartbeats 1000000
/-! The data layer: the law's feed, the law's own def. -/
namespace PL
open PySem PySem.Spec L2
open PyProof.Rows (envOfC)

/-- feed(script): a new feed -/
def spFeed (K : PySem.W.Frag) : Sp := fun vs H Q _ => ∃ (a : Addr) (ns : List Int), vs = [.ref a] ∧ SqL K H a (ns.map V.int) ∧ ns.length ≤ 63 ∧
  ∀ (p c : Addr) (H' : Hp), H p = none → H c = none → Ex H H' → FeedOk H' p c → Q (.ref p) H'
def rAd : R2 := rI0 fun i j => .int (i + j)
def rMu : R2 := rI CMul fun i j => .int (i * j)
def rMo : R2 := rI (fun _ j => 0 < j) fun i j => .int (i % j)
def rFd : R2 := rI CDiv fun i j => .int (i / j)
def t_feed (K : PySem.W.Frag) : TS :=
  tSeq (tAsg (tLc (iList K (tSl (rSlL K) (tVar 0) tNoPart (tPart (tC (.int 63))))) (gName 3) tYes (tCB rInt (tCons (tVar 3) tNil)) [3]) (gName 1))
  (tSeq (tAsg (tOp rAd (tC (.int 10006)) (tOp rMu (tC (.int 83)) (tCB (rLen K) (tCons (tVar 1) tNil)))) (gName 2))
  (tSeq (tFor (iList K (tVar 1)) (gName 3) (tAsg (tOp rMo (tCB rInt (tCons (tOp rAd (tOp rMu (tVar 2) (tC (.int 7477))) (tVar 3)) tNil)) (tC (.int 2147483323))) (gName 2)))
  (tRet (tLst (tCons (tVar 1) (tCons (tC (.int 0)) (tCons (tC (.int 0)) (tCons (tVar 2) tNil))))))))
theorem cut_ints (ns : List Int) (lo hi : Option Int) : ∃ ms : List Int, cutV (ns.map V.int) lo hi = ms.map V.int ∧ ms.length ≤ ns.length := by
  unfold cutV
  refine ⟨(ns.drop (HT.sIx ns.length 0 lo)).take (HT.sIx ns.length ns.length hi - HT.sIx ns.length 0 lo), ?_, ?_⟩
  · rw [List.length_map, List.map_take, List.map_drop]
  · rw [List.length_take, List.length_drop]
    omega
theorem get_int {ns : List Int} {i : Nat} {x : V} (h : (ns.map V.int)[i]? = some x) : ∃ z, ns[i]? = some z ∧ x = V.int z := by
  rw [List.getElem?_map] at h
  cases e : ns[i]? with
  | none => rw [e] at h; cases h
  | some z => rw [e] at h; exact ⟨z, rfl, (Option.some.inj h).symm⟩
theorem take_snoc {α : Type} {l : List α} {i : Nat} {x : α} (h : l[i]? = some x) : l.take (i + 1) = l.take i ++ [x] := by
  obtain ⟨hi, e⟩ := List.getElem?_eq_some_iff.mp h
  rw [List.take_add_one, h]
  rfl
theorem pure_feed {K : PySem.W.Frag} (vs : List V) (H : Hp) (Q : VK) (E : XK) (n0 n1 n2 n3 : Str) (h : spFeed K vs H Q E) : t_feed K { nx := fun _ H' => Q .non H', rt := Q } (L2.start [n0, n1, n2, n3] vs) H := by
  obtain ⟨a, ns, rfl, hS, hn, k⟩ := h
  -- the list of the cells
  refine ⟨_, rfl, 63, rfl, a, _, rfl, hS, fun p hp => ?_⟩
  obtain ⟨ms, em, hm⟩ := cut_ints ns none (some 63)
  rw [em]
  have e1 : Ex H (upd H p (.lst (ms.map V.int))) := ex_new hp
  refine ⟨p, rfl, ⟨_, SqL.of upd_same⟩, fun D0 hD => ?_⟩
  have nD : p ≠ D0 := fun z => by
    rw [← z, upd_same] at hD
    cases hD
  have hD0 : H D0 = none := by
    rw [upd_ne (Ne.symm nD)] at hD
    exact hD
  refine lc_list (K := K) (a := p) (xs := ms.map V.int) (fun i H' => Ex H H' ∧ H' p = some (.lst (ms.map V.int)) ∧ H' D0 = some (.lst ((ms.take i).map V.int)))
    ⟨e1.trans (ex_new hD), by rw [upd_ne nD]; exact upd_same, upd_same⟩ (fun i H' _ q => SqL.of q.2.1) (fun i x H' hi q => ?_) fun H' q => ?_
  · obtain ⟨z, hz, rfl⟩ := get_int hi
    refine ⟨rfl, ?_⟩
    unfold tYes
    dsimp only
    rw [if_pos rfl]
    refine ⟨_, rfl, .inl ⟨z, rfl, (ms.take i).map V.int, q.2.2, ?_, ?_⟩⟩
    · rw [List.length_map, List.length_take]
      exact small1000 (by omega)
    · refine ⟨fun b o e => ?_, by rw [upd_ne nD]; exact q.2.1, ?_⟩
      · rw [upd_ne (ne_of_none e hD0)]
        exact q.1 b o e
      · rw [upd_same, take_snoc hz, List.map_append]
        rfl
  · obtain ⟨q1, q2, q3⟩ := q
    rw [List.length_map, List.take_length] at q3
    -- the mark, the loop
    refine ⟨_, rfl, .inl ⟨_, _, rfl, .inl (SqL.of q3), ?_⟩⟩
    refine ⟨_, _, rfl, rfl, .inl ⟨by decide, by decide⟩, _, _, rfl, rfl, ?_⟩
    refine ⟨_, rfl, D0, rfl, ⟨_, SqL.of q3⟩, for_list (K := K) (a := D0) (xs := ms.map V.int) (fun i σ H2 => ∃ (m : Int) (v : Option V), σ = [some (.ref a), some (.ref D0), some (.int m), v] ∧ H2 = H') ⟨_, none, rfl, rfl⟩ (fun i σ H2 _ ⟨_, _, _, e⟩ => by rw [e]; exact SqL.of q3) ?_ ?_⟩
    · rintro i x σ H2 hi ⟨m, v, rfl, rfl⟩
      obtain ⟨z, hz, rfl⟩ := get_int hi
      refine ⟨_, rfl, _, _, rfl, rfl, .inr ⟨by decide, by decide⟩, _, rfl, _, _, rfl, rfl, .inl ⟨_, rfl, _, _, rfl, rfl, (by show (0 : Int) < 2147483323; decide), _, _, rfl, rfl⟩⟩
    · rintro σ H2 ⟨m, v, rfl, rfl⟩
      refine ⟨_, rfl, _, rfl, (by show 4 ≤ sizeLine; decide), fun p2 hp2 => ?_⟩
      have np : H p2 = none := by
        cases e : H p2 with
        | none => rfl
        | some o => rw [q1 _ _ e] at hp2; cases hp2
      refine k p2 D0 _ np hD0 (q1.trans (ex_new hp2)) ⟨0, 0, m, ms, upd_same, ?_, ?_, Int.le_refl _⟩
      · rw [upd_ne (ne_of_none q3 hp2)]
        exact q3
      · exact ne_of_none q3 hp2
/-- take(feed, many): some number below many -/
def m_take : GG → List D → (D → Prop) → Prop := fun g ds P => ∃ (a c : Addr) (n : Int), g = some (a, c) ∧ ds = [.con (.ref a), .int n] ∧ 0 < n ∧ n < 1073741824 ∧ ∀ i : Int, 0 ≤ i → i < n → P (.int i)
def fd (K : PySem.W.Frag) (i : Int) : TE := tOp (rIxL K) (tVar 0) (tC (.int i))
def rGtI : R2 := rI0 fun i j => .bl (decide (j < i))
def rLeI : R2 := rI0 fun i j => .bl (decide (i ≤ j))
def rLtI : R2 := rI0 fun i j => .bl (decide (i < j))
def rPw : R2 := rI CPow fun i j => .int (i ^ j.toNat)
def tMix (x y z : TE) (j k : Int) (md : Int) : TE := tOp rMo (tCB rInt (tCons (tOp rAd (tOp rAd (tOp rMu x (tC (.int j))) (tOp rMu y (tC (.int k)))) z) tNil)) (tC (.int md))
def tI (t : TE) : TE := tCB rInt (tCons t tNil)
def t_take (K : PySem.W.Frag) : TS :=
  tSeq (tIfS (tTest (tOp rLtI (fd K 2) (tC (.int 2))))
    (tSeq (tAsg (tOp rAd (fd K 1) (tC (.int 1))) (gSub (tVar 0) (tC (.int 1)) rSetL))
    (tSeq (tAsg (tOp rAd (fd K 3) (tOp rMu (fd K 1) (tC (.int 9091)))) (gName 2))
    (tSeq (tIfS (tTest (tOp rLeI (fd K 1) (tCB (rLen K) (tCons (fd K 0) tNil)))) (tAsg (tOp (rIxL K) (fd K 0) (tOp (rI0 fun i j => .int (i - j)) (fd K 1) (tC (.int 1)))) (gName 2)) tNext)
    (tSeq (tIfS (tOr (tTest (tOp rGtI (fd K 1) (tCB (rLen K) (tCons (fd K 0) tNil)))) (tTest (tOp rLtI (tVar 2) (tOp rPw (tC (.int 10)) (tC (.int 18))))))
        (tSeq (tAsg (tOp rMo (tI (tOp rAd (tOp rAd (tOp rMu (tVar 2) (tC (.int 45989))) (tOp rMu (fd K 1) (tC (.int 35291)))) (fd K 3))) (tC (.int 2147483647))) (gName 3))
        (tSeq (tAsg (tOp rMo (tI (tOp rAd (tOp rMu (tVar 3) (tVar 3)) (tOp rMu (fd K 1) (tC (.int 50993))))) (tC (.int 998244353))) (gName 4))
        (tRet (tOp rMo (tOp rFd (tOp rMo (tI (tOp rAd (tOp rMu (tVar 4) (tC (.int 47017))) (tVar 3))) (tC (.int 2147483587))) (tC (.int 23))) (tVar 1))))) tNext)
      (tAsg (tVar 2) (gSub (tVar 0) (tC (.int 2)) rSetL)))))) tNext)
  (tSeq (tAsg (tOp rMo (tI (fd K 2)) (tVar 1)) (gName 5))
  (tSeq (tAsg (tOp rFd (tI (fd K 2)) (tVar 1)) (gSub (tVar 0) (tC (.int 2)) rSetL))
  (tRet (tVar 5))))
section
variable {K : PySem.W.Frag} {g : GG} {M : List Addr} {H : Hp} {P : D → Prop} {Q : VK}
/-- the feed written: still a feed -/
theorem stp_feed {a c : Addr} {i d m i' d' m' : Int} {ns : List Int} (hg : g = some (a, c)) (h1 : H a = some (.lst [.ref c, .int i, .int d, .int m])) (h2 : H c = some (.lst (ns.map V.int))) (hc : c ≠ a) (hi : 0 ≤ i') :
    Stp K g H (upd H a (.lst [.ref c, .int i', .int d', .int m'])) :=
  ⟨fun b o n e => by rw [upd_ne (fun z => n c (by rw [hg, z]))]; exact e, fun b e q k => by
    rw [hg] at q
    cases q
    exact ⟨i', d', m', ns, upd_same, by rw [upd_ne hc]; exact h2, hc, hi⟩⟩
end
theorem pure_take {K : PySem.W.Frag} (vs : List V) (H : Hp) (Q : VK) (E : XK) (n0 n1 n2 n3 n4 n5 : Str) (h : DFn K m_take vs H Q E) : t_take K { nx := fun _ H' => Q .non H', rt := Q } (L2.start [n0, n1, n2, n3, n4, n5] vs) H := by
  obtain ⟨g, M, ds, P, msk, r, ⟨a, c, n, hg, rfl, h0, hn, k⟩, q⟩ := h
  obtain ⟨v, w, rfl, r1, r2⟩ := rp2 r
  obtain rfl := r1
  obtain rfl := r2
  obtain ⟨_, _, i, d, m, ns, ha, hc, nca, hi⟩ := msk.feed a c hg
  -- the end: a digit
  have last : ∀ (i d : Int) (s2 s3 s4 : Option V) (H1 : Hp), 0 ≤ i → H1 a = some (.lst [.ref c, .int i, .int d, .int m]) → H1 c = some (.lst (ns.map V.int)) → Stp K g H H1 →
      tSeq (tAsg (tOp rMo (tI (fd K 2)) (tVar 1)) (gName 5)) (tSeq (tAsg (tOp rFd (tI (fd K 2)) (tVar 1)) (gSub (tVar 0) (tC (.int 2)) rSetL)) (tRet (tVar 5))) { nx := fun _ H' => Q .non H', rt := Q } [some (.ref a), some (.int n), s2, s3, s4, none] H1 := by
    intro i d s2 s3 s4 H1 hi1 ha1 hc1 st
    refine ⟨_, rfl, a, _, 2, _, rfl, rfl, SqL.of ha1, rfl, .inl ⟨_, rfl, _, rfl, _, _, rfl, rfl, h0, ?_⟩⟩
    refine ⟨_, rfl, a, _, 2, _, rfl, rfl, SqL.of ha1, rfl, .inl ⟨_, rfl, _, rfl, _, _, rfl, rfl, ⟨h0, hn⟩, ?_⟩⟩
    refine ⟨_, rfl, a, _, _, 2, rfl, rfl, ha1, rfl, _, rfl, ?_⟩
    exact q (.int (d % n)) _ _ (k _ (Int.emod_nonneg _ (by omega)) (Int.emod_lt_of_pos _ h0)) (st.trans (stp_feed hg ha1 hc1 nca hi1)) rfl
  refine ⟨_, rfl, a, _, 2, _, rfl, rfl, SqL.of ha, rfl, _, _, rfl, rfl, _, rfl, ?_⟩
  by_cases c1 : d < 2
  · rw [decide_eq_true c1]
    refine iteT ?_
    refine ⟨_, rfl, a, _, 1, _, rfl, rfl, SqL.of ha, rfl, _, _, rfl, rfl, _, rfl, a, _, _, 1, rfl, rfl, ha, rfl, ?_⟩
    have ha1 : (upd H a (.lst ([V.ref c, .int i, .int d, .int m].set 1 (.int (i + 1))))) a = some (.lst [.ref c, .int (i + 1), .int d, .int m]) := upd_same
    have st1 : Stp K g H (upd H a (.lst ([V.ref c, .int i, .int d, .int m].set 1 (.int (i + 1))))) := stp_feed hg ha hc nca (by omega)
    have hc1 : (upd H a (.lst ([V.ref c, .int i, .int d, .int m].set 1 (.int (i + 1))))) c = some (.lst (ns.map V.int)) := by rw [upd_ne nca]; exact hc
    generalize (upd H a (.lst ([V.ref c, .int i, .int d, .int m].set 1 (.int (i + 1))))) = H1 at ha1 st1 hc1
    -- cell = mark + taken * 9091
    refine ⟨_, rfl, a, _, 3, _, rfl, rfl, SqL.of ha1, rfl, _, rfl, a, _, 1, _, rfl, rfl, SqL.of ha1, rfl, _, _, rfl, rfl, .inr ⟨by decide, by decide⟩, _, _, rfl, rfl, ?_⟩
    -- from the cells, if there is one more
    have rest : ∀ cell : Int, tSeq (tIfS (tOr (tTest (tOp rGtI (fd K 1) (tCB (rLen K) (tCons (fd K 0) tNil)))) (tTest (tOp rLtI (tVar 2) (tOp rPw (tC (.int 10)) (tC (.int 18))))))
        (tSeq (tAsg (tOp rMo (tI (tOp rAd (tOp rAd (tOp rMu (tVar 2) (tC (.int 45989))) (tOp rMu (fd K 1) (tC (.int 35291)))) (fd K 3))) (tC (.int 2147483647))) (gName 3))
        (tSeq (tAsg (tOp rMo (tI (tOp rAd (tOp rMu (tVar 3) (tVar 3)) (tOp rMu (fd K 1) (tC (.int 50993))))) (tC (.int 998244353))) (gName 4))
        (tRet (tOp rMo (tOp rFd (tOp rMo (tI (tOp rAd (tOp rMu (tVar 4) (tC (.int 47017))) (tVar 3))) (tC (.int 2147483587))) (tC (.int 23))) (tVar 1))))) tNext)
      (tAsg (tVar 2) (gSub (tVar 0) (tC (.int 2)) rSetL)) { nx := tSeq (tAsg (tOp rMo (tI (fd K 2)) (tVar 1)) (gName 5)) (tSeq (tAsg (tOp rFd (tI (fd K 2)) (tVar 1)) (gSub (tVar 0) (tC (.int 2)) rSetL)) (tRet (tVar 5))) { nx := fun _ H' => Q .non H', rt := Q }, rt := Q } [some (.ref a), some (.int n), some (.int cell), none, none, none] H1 := by
      intro cell
      have mix : ∀ Nx : St → Hp → Prop, tSeq (tAsg (tOp rMo (tI (tOp rAd (tOp rAd (tOp rMu (tVar 2) (tC (.int 45989))) (tOp rMu (fd K 1) (tC (.int 35291)))) (fd K 3))) (tC (.int 2147483647))) (gName 3))
        (tSeq (tAsg (tOp rMo (tI (tOp rAd (tOp rMu (tVar 3) (tVar 3)) (tOp rMu (fd K 1) (tC (.int 50993))))) (tC (.int 998244353))) (gName 4))
        (tRet (tOp rMo (tOp rFd (tOp rMo (tI (tOp rAd (tOp rMu (tVar 4) (tC (.int 47017))) (tVar 3))) (tC (.int 2147483587))) (tC (.int 23))) (tVar 1))))
        { nx := Nx, rt := Q } [some (.ref a), some (.int n), some (.int cell), none, none, none] H1 := by
        intro Nx
        refine ⟨_, rfl, _, _, rfl, rfl, .inr ⟨by decide, by decide⟩, _, rfl, a, _, 1, _, rfl, rfl, SqL.of ha1, rfl, _, _, rfl, rfl, .inr ⟨by decide, by decide⟩, _, _, rfl, rfl, _, rfl, a, _, 3, _, rfl, rfl, SqL.of ha1, rfl, _, _, rfl, rfl, .inl ⟨_, rfl, _, _, rfl, rfl, (by show (0 : Int) < 2147483647; decide), ?_⟩⟩
        have b1 := Int.emod_nonneg (cell * 45989 + (i + 1) * 35291 + m) (show (2147483647 : Int) ≠ 0 by decide)
        have b2 := Int.emod_lt_of_pos (cell * 45989 + (i + 1) * 35291 + m) (show (0 : Int) < 2147483647 by decide)
        refine ⟨_, rfl, _, rfl, _, _, rfl, rfl, .inl ⟨by omega, by omega⟩, _, rfl, a, _, 1, _, rfl, rfl, SqL.of ha1, rfl, _, _, rfl, rfl, .inr ⟨by decide, by decide⟩, _, _, rfl, rfl, .inl ⟨_, rfl, _, _, rfl, rfl, (by show (0 : Int) < 998244353; decide), ?_⟩⟩
        refine ⟨_, rfl, _, _, rfl, rfl, .inr ⟨by decide, by decide⟩, _, rfl, _, _, rfl, rfl, .inl ⟨_, rfl, _, _, rfl, rfl, (by show (0 : Int) < 2147483587; decide), _, _, rfl, rfl, ⟨by decide, by decide⟩, _, rfl, _, _, rfl, rfl, h0, ?_⟩⟩
        exact q (.int _) _ _ (k _ (Int.emod_nonneg _ (by omega)) (Int.emod_lt_of_pos _ h0)) st1 rfl
      refine ⟨_, rfl, a, _, 1, _, rfl, rfl, SqL.of ha1, rfl, _, rfl, a, _, 0, _, rfl, rfl, SqL.of ha1, rfl, .inl ⟨_, _, rfl, .inl (SqL.of hc1), _, _, rfl, rfl, _, rfl, ?_⟩⟩
      refine ite2 (fun _ => iteT (mix _)) fun _ => ?_
      refine ⟨_, rfl, _, _, rfl, rfl, ⟨by decide, by decide, by decide⟩, _, _, rfl, rfl, _, rfl, ?_⟩
      refine ite2 (fun _ => mix _) fun _ => ?_
      refine ⟨_, rfl, _, rfl, a, _, _, 2, rfl, rfl, ha1, rfl, ?_⟩
      exact last (i + 1) cell _ _ _ _ (by omega) upd_same (by rw [upd_ne nca]; exact hc1) (st1.trans (stp_feed hg ha1 hc1 nca (by omega)))
    refine ⟨_, rfl, a, _, 1, _, rfl, rfl, SqL.of ha1, rfl, _, rfl, a, _, 0, _, rfl, rfl, SqL.of ha1, rfl, .inl ⟨_, _, rfl, .inl (SqL.of hc1), _, _, rfl, rfl, _, rfl, ?_⟩⟩
    refine ite2 (fun cl => ?_) fun _ => rest _
    have hlt : (i + 1 - 1).toNat < ns.length := by
      have := of_decide_eq_true cl
      rw [List.length_map] at this
      omega
    refine ⟨_, rfl, a, _, 0, _, rfl, rfl, SqL.of ha1, rfl, _, rfl, a, _, 1, _, rfl, rfl, SqL.of ha1, rfl, _, _, rfl, rfl, c, _, _, V.int (ns[(i + 1 - 1).toNat]), rfl, rfl, SqL.of hc1, ?_, rest _⟩
    have e : (i + 1 - 1 : Int) = (((i + 1 - 1).toNat : Nat) : Int) := by omega
    refine (congrArg (atI (ns.map V.int)) e).trans (atI_nat ?_)
    rw [List.getElem?_map, List.getElem?_eq_getElem (by omega)]
    simp
  · rw [decide_eq_false c1]
    refine iteF ?_
    exact last i d none none none H hi ha hc .refl
/-! ### the law -/
def spLaw (K : PySem.W.Frag) : Sp := fun vs H Q _ => ∃ (a : Addr) (ns : List Int), vs = [.ref a] ∧ SqL K H a (ns.map V.int) ∧ ns.length ≤ 63 ∧ ∀ H', Q (.bl true) H'
def lawE : DEnds := { nx := fun _ => False, rt := fun d => d = .bl true }
theorem rep_feed {K : PySem.W.Frag} {H : Hp} {a c : Addr} {N i : Nat} {σ : St} (hf : FeedOk H a c) (hl : σ.length = N) : RepS K (some (a, c)) H [a, c] [] ((List.replicate N Sl.no).set i (.pu (.con (.ref a)))) (σ.set i (some (.ref a))) H := by
  have m : Msk K (some (a, c)) [a, c] H := ⟨fun b hb => by
    obtain ⟨i', d, m', ns, h1, h2, _⟩ := hf
    rcases List.mem_cons.mp hb with rfl | hb
    · rw [h1]; simp
    · rw [List.mem_singleton.mp hb, h2]; simp, fun x y e => by
    cases e
    exact ⟨List.mem_cons_self .., List.mem_cons_of_mem _ (List.mem_singleton.mpr rfl), hf⟩⟩
  have only : ∀ {j : Nat} {x : Sl}, ((List.replicate N Sl.no).set i (.pu (.con (.ref a))))[j]? = some x → x = .no ∨ (j = i ∧ x = .pu (.con (.ref a)) ∧ i < N) := fun {j x} h => by
    rcases set_get h with ⟨rfl, h2, h3⟩ | ⟨h1, h2⟩
    · exact .inr ⟨rfl, h2, by simpa using h3⟩
    · exact .inl (List.mem_replicate.mp (List.mem_of_getElem? h2)).2
  refine ⟨[], { msk := m, base := m, out := fun p h => absurd h (by simp), fresh := fun p h => absurd h (by simp), stp := .refl, len := by simp [hl], pu := fun j d h => ?_, ow := fun j o h => ?_, one := fun j k o u p h => ?_, pin := fun x h => absurd h (by simp) }⟩
  · rcases only h with e | ⟨rfl, e, hi⟩
    · cases e
    · cases e
      exact ⟨_, List.getElem?_set_self (by omega), rfl⟩
  · rcases only h with e | ⟨_, e, _⟩ <;> cases e
  · rcases only h with e | ⟨_, e, _⟩ <;> cases e
theorem law_ok {P : Program} {w : World} {K : PySem.W.Frag} {mg : Str → Option Value} {base : Heap} {x qual : Str} {params : Arguments} {st0 : Stmt} {rest : List Stmt} {scope : Scope} {f : Addr} {fd : FuncData} {N qs : List Str} {k i : Nat} {T : GG → DTS}
    (F : FunD K x qual params (st0 :: rest) scope [] [] f fd) (S : FnScope N qs scope) (hq : qs.length = 1) (hN : 1 ≤ N.length)
    (hb : ∀ (cdv : Value) (A : Around) (outer : List PySem.Env) (s : Shared) (H : Hp) (E : XK), Room k (A.deeper (envOfC qual scope s.heap.objs.size f cdv)) →
      PS (cxOf CX0 P w K mg base N qual scope f cdv A outer s H E).nox st0 (tAsg (tCall (spFeed K) [] E0 (tCons (tVar 0) tNil)) (gName i)) ∧ ∃ u, ∀ g, DSs (cxOf CX0 P w K mg base N qual scope f cdv A outer s H E).nox K g rest u (T g))
    (hT : ∀ a c : Addr, T (some (a, c)) lawE ((List.replicate N.length Sl.no).set i (.pu (.con (.ref a))))) : FnOk P w K mg base CX0 (k + 1) f fd qs (spLaw K) := by
  refine F.ok S (fun vs H Q E h => ?_) (fun cdv A outer s H vs Q E hr h => ?_)
  · obtain ⟨a, ns, rfl, _⟩ := h
    exact hq.symm
  · obtain ⟨a, ns, rfl, hS, hn, q⟩ := h
    obtain ⟨h0, u, hu⟩ := hb cdv A outer s H E hr
    refine ⟨tSeq (tAsg (tCall (spFeed K) [] E0 (tCons (tVar 0) tNil)) (gName i)) u, (pss_cons h0 (hu none).ps).nox, ?_⟩
    refine ⟨_, rfl, a, ns, rfl, hS, hn, fun p c H' hp hc e hf => ?_⟩
    have hl : (L2.start N [V.ref a]).length = N.length := by
      unfold L2.start
      rw [List.length_append, List.length_map, List.length_replicate]
      show 1 + (N.length - 1) = N.length
      omega
    refine (hu (some (p, c))).ld H' [p, c] [] _ _ H' lawE _ (rep_feed hf hl) (hT p c) ⟨fun s' σ' H2 r2 z => z.elim, fun d v H2 z st rp => ?_, fun _ _ _ _ (z : False) => z.elim, fun _ _ _ _ (z : False) => z.elim⟩
    have z2 : d = .bl true := z
    subst z2
    obtain rfl := rp
    exact q H2
end PL

set_option maxHeartbeats 1000000
/-! The data layer: calls by keywords; the terms of feed and take. -/
namespace PL
open PySem PySem.Spec L2
open PyProof.Rows (envOfC)

section
variable {X : Cx} {K : PySem.W.Frag} {g : GG} {e a b c : Expr} {te : TE} {Fe : FE} {pos p kpos : Pos} {es : List Expr} {kws : List Keyword} {t tk : TA} {R S : FA} {x : Str} {nm : Option Str}
structure DK (X : Cx) (K : PySem.W.Frag) (g : GG) (kws : List Keyword) (t : TA) (F : FA) : Prop where
  pk : PK X kws t
  ld : ∀ M ρ σ H P Q, Msk K g M H → REnv K (hid H M) ρ σ → F ρ P → PL' K g M H P Q → t σ H Q
theorem dk_nil : DK X K g [] tNil fNil := ⟨pk_nil, fun M ρ σ H P Q m rr ff q => q [] [] H ff .refl rfl⟩
theorem dk_cons (ha : DE X K g e te Fe) (hr : DK X K g kws t R) : DK X K g (⟨nm, e, kpos⟩ :: kws) (tCons te t) (fCons Fe R) :=
  ⟨pk_cons ha.pe hr.pk, fun M ρ σ H P Q m rr ff q => ha.ld M ρ σ H _ _ m rr ff fun x v1 H1 p1 s1 r1 =>
    hr.ld M ρ σ H1 _ _ (m.stp s1) (rr.ex (s1.hid m)) p1 fun ds vs H2 p2 s2 r2 =>
      q (x :: ds) (v1 :: vs) H2 p2 (s1.trans s2) ⟨v1, vs, rfl, Rp.ex (s2.hid (m.stp s1)) r1, r2⟩⟩
/-- all parameters by their names, in the parameters' order -/
def gK {α : Type} (us ws : List α) : List α := match us with
  | [] => ws
  | _ => []
structure CalK (P : Program) (w : World) (K : PySem.W.Frag) (mg : Str → Option Value) (base : Heap) (k : Nat) (f : Addr) (qs : List Str) (F : GG → List D → (D → Prop) → Prop) : Prop where
  ex : ∃ fd, FnOk P w K mg base CX0 k f fd qs (DFn K F) ∧ KBinds K fd qs qs gK gK
  kp : PySem.W.keepIn K (.ref f) = true
theorem calK_of {P : Program} {w : World} {mg : Str → Option Value} {base : Heap} {y qual : Str} {params : Arguments} {bd : List Stmt} {scope : Scope} {f : Addr} {N qs : List Str} {k : Nat} {T : GG → DTS}
    (F : ∃ fd, FunD K y qual params bd scope [] [] f fd) (S : FnScope N qs scope) (hq : qs ≠ [])
    (hb : ∀ (kV doc pm : Value) (an : Option Addr) (cdv ct : Value) (ws : List Value), ws.length = qs.length → bindArgs (PySem.W.fnOf y qual params bd scope .none kV doc pm an cdv ct) ⟨[], qs.zip ws⟩ = pure (qs.zip ws))
    (hT : ∀ (cdv : Value) (A : Around) (outer : List PySem.Env) (s : Shared) (H : Hp) (E : XK), Room k (A.deeper (envOfC qual scope s.heap.objs.size f cdv)) →
      ∃ t, ∀ g, DSs (cxOf CX0 P w K mg base N qual scope f cdv A outer s H E).nox K g bd t (T g)) :
    CalK P w K mg base (k + 1) f qs (fun g => body qs.length N.length (T g)) := by
  obtain ⟨fd, F⟩ := F
  refine ⟨⟨fd, dfn_ok F S hT, ⟨fun s us ws _ hl => ?_, fun {vs us zs ws} r1 r2 => ?_⟩⟩, F.kp⟩
  · cases us with
    | cons u us =>
      have : qs.length = 0 := hl.symm
      exact absurd (List.length_eq_zero_iff.mp this) hq
    | nil =>
      obtain ⟨oc, od, dV, kV, doc, pm, an, cdv, ct, osl, rfl, lk, hcd, hD, hK⟩ := F.ex
      rcases hD with ⟨_, rfl⟩ | ⟨e, _⟩
      · exact .of_eq (hb kV doc pm an cdv ct ws hl)
      · exact absurd rfl e
  · cases r1 with
    | nil => exact r2
    | cons _ _ => exact .nil
theorem pe_callK0 (hK : X.K = K) {k : Nat} {f : Addr} {fd : FuncData} {qs ks : List Str} {sp : Sp} {gg : List Value → List Value → List Value} {gV : List V → List V → List V} {E : XK} {CX : CXT} (F : FnOk X.prog X.w K X.mg X.base CX k f fd qs sp) (hr : Room k X.A) (hg : Gl X x) (hm : X.mg x = some (.ref f)) (hk : PySem.W.keepIn K (.ref f) = true) (hb : KBinds K fd qs ks gg gV) (hx : Passes CX X E)
    (hkw : PK X kws tk) (hall : (backToKw pos (keywordEach kws X.env)).all (·.1.isSome) = true := by rfl) (hks : (backToKw pos (keywordEach kws X.env)).filterMap (·.1) = ks := by rfl)
    (hdb : (x == ("__debug__" : Str)) = false := by decide) (hpl : ((backTo pos (starEach [] X.env)).any (·.1) || (backToKw pos (keywordEach kws X.env)).any (·.1.isNone)) = false := by rfl) :
    PE X (.Call (.Name x p) [] kws pos) (tCallK sp gV E tNil tk) := by
  subst hK
  refine ⟨fun pins s σ H Q I h => ?_⟩
  refine wpAny_Call_Name_kw (ld_glob I hg hm ?_ hdb)
  refine PySem.W.callWith_KW0 (h₀ := X.base) I.ok.mod.kin hk hall (thn (hkw.run pos pins _ σ H _ (I.tok _) h) fun ws s2 ⟨zs, H2, I2, rz, q2⟩ => ⟨I2.kIn, ?_⟩) hpl
  rw [hks]
  exact run_fnk F hr hb hx I2 .nil rz q2
theorem d_callK {k : Nat} {f : Addr} {qs : List Str} {F : GG → List D → (D → Prop) → Prop} (C : CalK X.prog X.w K X.mg X.base k f qs F) (hr : Room k X.A) (hm : X.mg x = some (.ref f)) (ha : DK X K g kws t R) (hx : Passes CX0 X E0 := by exact pass0) (hK : X.K = K := by rfl)
    (hg : Gl X x := by rfl) (hall : (backToKw pos (keywordEach kws X.env)).all (·.1.isSome) = true := by rfl) (hks : (backToKw pos (keywordEach kws X.env)).filterMap (·.1) = qs := by rfl)
    (hdb : (x == ("__debug__" : Str)) = false := by decide) (hpl : ((backTo pos (starEach [] X.env)).any (·.1) || (backToKw pos (keywordEach kws X.env)).any (·.1.isNone)) = false := by rfl) :
    DE X K g (.Call (.Name x p) [] kws pos) (tCallK (DFn K F) gK E0 tNil t) (fCall F g R []) := by
  subst hK
  obtain ⟨fd, h, b⟩ := C.ex
  exact ⟨pe_callK0 rfl h hr hg hm C.kp b hx ha.pk hall hks hdb hpl, fun M ρ σ H P Q m r f q => ha.ld M ρ σ H _ _ m r f fun ds vs H1 p1 s1 r1 => ⟨g, M, ds ++ [], P, m.stp s1, by rw [List.append_nil]; exact r1, p1, q.stp s1⟩⟩
end
theorem take_len {K : PySem.W.Frag} {vs : List V} {H : Hp} {Q : VK} {E : XK} (h : DFn K m_take vs H Q E) : vs.length = 2 := by
  obtain ⟨g, M, ds, P, _, r, ⟨a, c, n, _, rfl, _⟩, _⟩ := h
  exact r.len.symm
theorem feed_len {K : PySem.W.Frag} {vs : List V} {H : Hp} {Q : VK} {E : XK} (h : spFeed K vs H Q E) : vs.length = 1 := by
  obtain ⟨a, ns, rfl, _⟩ := h
  rfl
end PL

set_option maxHeartbeats 1000000
/-! The head's facts: tests of the written part, by their places. -/
namespace PL
open PySem PySem.Spec L2

abbrev Tst := PySem.W.Frag → Bool
def obsP (fs : List Tst) (fn : List He.DefD) (K : PySem.W.Frag) : Bool × List He.FnW := ((fs.all fun f => f K) && fn.all fun d => d.ok K, fn.map fun d => He.fnW K d.at_)
def SaysP (fs : List Tst) (fn : List He.DefD) (K : PySem.W.Frag) : Prop := obsP fs fn K = (true, fn.map He.DefD.val)
def obsPG (n : Nat) (fs : List Tst) (fn : List He.DefD) (g : Addr → Option Obj) : Bool × List He.FnW := obsP fs fn (He.frG g (PySem.cStatics :: He.asD g n))
def hookP (n : Nat) (fs : List Tst) (fn : List He.DefD) : PySem.W.Hook :=
  { α := Bool × List He.FnW
    obs := fun s => obsPG n fs fn s.heap.get?
    val := fun _ => (true, fn.map He.DefD.val)
    says := fun _ h => ∃ K : PySem.W.Frag, K.In h ∧ SaysP fs fn K
    of := fun _ _ e => ⟨He.frG _ _, He.frG_in, e⟩
    keeps := fun _ _ _ z k => let ⟨K, hK, c⟩ := z; ⟨K, hK.keeps k, c⟩ }
theorem obsPG_eq {n : Nat} {fs : List Tst} {fn : List He.DefD} {g : Addr → Option Obj} {s : Shared} (h : ∀ a, g a = s.heap.get? a) : obsPG n fs fn g = (hookP n fs fn).obs s := by
  rw [show g = s.heap.get? from funext h]
  rfl
theorem SaysP.fact {fs : List Tst} {fn : List He.DefD} {K : PySem.W.Frag} (c : SaysP fs fn K) (i : Nat) {f : Tst} (h : fs[i]? = some f) : f K = true := by
  have c1 := (Bool.and_eq_true_iff.mp (show ((fs.all fun f => f K) && fn.all fun d => d.ok K) = true from congrArg Prod.fst c)).1
  exact List.all_eq_true.mp c1 f (List.mem_of_getElem? h)
theorem SaysP.defn {fs : List Tst} {fn : List He.DefD} {K : PySem.W.Frag} (c : SaysP fs fn K) (i : Nat) {d : He.DefD} (h : fn[i]? = some d) : ∃ fd, FunD K d.name d.qual d.params d.body d.scope (d.dvs K) (d.kws K) (He.fAd K d.at_) fd := by
  have c2 := (Bool.and_eq_true_iff.mp (show ((fs.all fun f => f K) && fn.all fun d => d.ok K) = true from congrArg Prod.fst c)).2
  have e2 : (fn.map fun d => He.fnW K d.at_)[i]? = (fn.map He.DefD.val)[i]? := by rw [show fn.map (fun d => He.fnW K d.at_) = fn.map He.DefD.val from congrArg Prod.snd c]
  rw [List.getElem?_map, List.getElem?_map, h] at e2
  exact He.DefD.funD (Option.some.inj e2) (List.all_eq_true.mp c2 d (List.mem_of_getElem? h))
/-! tests -/
def tGlo (x : Str) : Tst := fun K => (He.Fa.glo x).ok K
def tFree (x : Str) : Tst := fun K => (He.Fa.free x).ok K
def tInt (x : Str) (i : Int) : Tst := fun K => (He.Fa.int x i).ok K
def tStr (x z : Str) : Tst := fun K => (He.Fa.str x z).ok K
def tRead (x : Str) : Tst := fun K => PySem.W.readsIn K (He.ga K x) (.type "type") && He.eqO (PySem.W.specialIn K (.ref (He.ga K x)) "__getattribute__") (some (some (.builtin "type.__getattribute__")))
theorem tRead_ok {K : PySem.W.Frag} {x : Str} (h : tRead x K = true) : ClX.CRead K (He.ga K x) (.type "type") := by
  obtain ⟨h1, h2⟩ := Bool.and_eq_true_iff.mp h
  exact ⟨h1, He.eqO_ok h2⟩
def tCvS (x f z : Str) : Tst := fun K => match PySem.W.findCls K (.ref (He.ga K x)) (.type "type") f with
  | some (.val (.str y _)) => decide (y = z)
  | _ => false
theorem tCvS_ok {K : PySem.W.Frag} {x f z : Str} (h : tCvS x f z K = true) : ∃ u, ClX.CVal K (He.ga K x) (.type "type") f (.str z) u := by
  unfold tCvS at h
  split at h
  · rename_i y t e
    have := of_decide_eq_true h
    subst this
    exact ⟨_, e, _, rfl⟩
  · cases h
end PL

set_option maxHeartbeats 1000000
/-! Plain lemmas on data. -/
namespace PL
open PySem PySem.Spec L2

section
variable {P : D → Prop}
theorem vq_isi_non  {b : String} : bIsi b [.non, .con (.ty b)] P = (tyOk b = true ∧ P (.bl (isTy "NoneType" b))) := propext ⟨fun ⟨_, h, a, e, q⟩ => by cases e; exact ⟨h, q⟩, fun ⟨h, q⟩ => ⟨rfl, h, _, rfl, q⟩⟩
theorem vq_isiT_non  : bIsiT [.non, .tup [.con (.ty "int"), .con (.ty "str")]] P = P (.bl (isTy "NoneType" "int" || isTy "NoneType" "str")) := propext ⟨fun ⟨bs, a, h, h2, e, q⟩ => by cases e; cases h; simpa [isTys] using q, fun q => ⟨_, _, rfl, rfl, rfl, by simpa [isTys] using q⟩⟩
theorem vq_is_non  : dIs false .non .non P = P (.bl true) := rfl
theorem vq_isN_non  : dIs true .non .non P = P (.bl false) := rfl
theorem vq_ty_non_bool : isTy "NoneType" "bool" = false := rfl
theorem vq_ty_non_int : isTy "NoneType" "int" = false := rfl
theorem vq_ty_non_str : isTy "NoneType" "str" = false := rfl
theorem vq_ty_non_list : isTy "NoneType" "list" = false := rfl
theorem vq_ty_non_tuple : isTy "NoneType" "tuple" = false := rfl
theorem vq_ty_non_dict : isTy "NoneType" "dict" = false := rfl
theorem vq_isi_bl {x : Bool} {b : String} : bIsi b [(.bl x), .con (.ty b)] P = (tyOk b = true ∧ P (.bl (isTy "bool" b))) := propext ⟨fun ⟨_, h, a, e, q⟩ => by cases e; exact ⟨h, q⟩, fun ⟨h, q⟩ => ⟨rfl, h, _, rfl, q⟩⟩
theorem vq_isiT_bl {x : Bool} : bIsiT [(.bl x), .tup [.con (.ty "int"), .con (.ty "str")]] P = P (.bl (isTy "bool" "int" || isTy "bool" "str")) := propext ⟨fun ⟨bs, a, h, h2, e, q⟩ => by cases e; cases h; simpa [isTys] using q, fun q => ⟨_, _, rfl, rfl, rfl, by simpa [isTys] using q⟩⟩
theorem vq_is_bl {x : Bool} : dIs false (.bl x) .non P = P (.bl false) := rfl
theorem vq_isN_bl {x : Bool} : dIs true (.bl x) .non P = P (.bl true) := rfl
theorem vq_ty_bl_bool : isTy "bool" "bool" = true := rfl
theorem vq_ty_bl_int : isTy "bool" "int" = true := rfl
theorem vq_ty_bl_str : isTy "bool" "str" = false := rfl
theorem vq_ty_bl_list : isTy "bool" "list" = false := rfl
theorem vq_ty_bl_tuple : isTy "bool" "tuple" = false := rfl
theorem vq_ty_bl_dict : isTy "bool" "dict" = false := rfl
theorem vq_isi_int {x : Int} {b : String} : bIsi b [(.int x), .con (.ty b)] P = (tyOk b = true ∧ P (.bl (isTy "int" b))) := propext ⟨fun ⟨_, h, a, e, q⟩ => by cases e; exact ⟨h, q⟩, fun ⟨h, q⟩ => ⟨rfl, h, _, rfl, q⟩⟩
theorem vq_isiT_int {x : Int} : bIsiT [(.int x), .tup [.con (.ty "int"), .con (.ty "str")]] P = P (.bl (isTy "int" "int" || isTy "int" "str")) := propext ⟨fun ⟨bs, a, h, h2, e, q⟩ => by cases e; cases h; simpa [isTys] using q, fun q => ⟨_, _, rfl, rfl, rfl, by simpa [isTys] using q⟩⟩
theorem vq_is_int {x : Int} : dIs false (.int x) .non P = P (.bl false) := rfl
theorem vq_isN_int {x : Int} : dIs true (.int x) .non P = P (.bl true) := rfl
theorem vq_ty_int_bool : isTy "int" "bool" = false := rfl
theorem vq_ty_int_int : isTy "int" "int" = true := rfl
theorem vq_ty_int_str : isTy "int" "str" = false := rfl
theorem vq_ty_int_list : isTy "int" "list" = false := rfl
theorem vq_ty_int_tuple : isTy "int" "tuple" = false := rfl
theorem vq_ty_int_dict : isTy "int" "dict" = false := rfl
theorem vq_isi_str {x : Str} {b : String} : bIsi b [(.str x), .con (.ty b)] P = (tyOk b = true ∧ P (.bl (isTy "str" b))) := propext ⟨fun ⟨_, h, a, e, q⟩ => by cases e; exact ⟨h, q⟩, fun ⟨h, q⟩ => ⟨rfl, h, _, rfl, q⟩⟩
theorem vq_isiT_str {x : Str} : bIsiT [(.str x), .tup [.con (.ty "int"), .con (.ty "str")]] P = P (.bl (isTy "str" "int" || isTy "str" "str")) := propext ⟨fun ⟨bs, a, h, h2, e, q⟩ => by cases e; cases h; simpa [isTys] using q, fun q => ⟨_, _, rfl, rfl, rfl, by simpa [isTys] using q⟩⟩
theorem vq_is_str {x : Str} : dIs false (.str x) .non P = P (.bl false) := rfl
theorem vq_isN_str {x : Str} : dIs true (.str x) .non P = P (.bl true) := rfl
theorem vq_ty_str_bool : isTy "str" "bool" = false := rfl
theorem vq_ty_str_int : isTy "str" "int" = false := rfl
theorem vq_ty_str_str : isTy "str" "str" = true := rfl
theorem vq_ty_str_list : isTy "str" "list" = false := rfl
theorem vq_ty_str_tuple : isTy "str" "tuple" = false := rfl
theorem vq_ty_str_dict : isTy "str" "dict" = false := rfl
theorem vq_isi_lst {x : List D} {b : String} : bIsi b [(.lst x), .con (.ty b)] P = (tyOk b = true ∧ P (.bl (isTy "list" b))) := propext ⟨fun ⟨_, h, a, e, q⟩ => by cases e; exact ⟨h, q⟩, fun ⟨h, q⟩ => ⟨rfl, h, _, rfl, q⟩⟩
theorem vq_isiT_lst {x : List D} : bIsiT [(.lst x), .tup [.con (.ty "int"), .con (.ty "str")]] P = P (.bl (isTy "list" "int" || isTy "list" "str")) := propext ⟨fun ⟨bs, a, h, h2, e, q⟩ => by cases e; cases h; simpa [isTys] using q, fun q => ⟨_, _, rfl, rfl, rfl, by simpa [isTys] using q⟩⟩
theorem vq_is_lst {x : List D} : dIs false (.lst x) .non P = P (.bl false) := rfl
theorem vq_isN_lst {x : List D} : dIs true (.lst x) .non P = P (.bl true) := rfl
theorem vq_ty_lst_bool : isTy "list" "bool" = false := rfl
theorem vq_ty_lst_int : isTy "list" "int" = false := rfl
theorem vq_ty_lst_str : isTy "list" "str" = false := rfl
theorem vq_ty_lst_list : isTy "list" "list" = true := rfl
theorem vq_ty_lst_tuple : isTy "list" "tuple" = false := rfl
theorem vq_ty_lst_dict : isTy "list" "dict" = false := rfl
theorem vq_isi_tup {x : List D} {b : String} : bIsi b [(.tup x), .con (.ty b)] P = (tyOk b = true ∧ P (.bl (isTy "tuple" b))) := propext ⟨fun ⟨_, h, a, e, q⟩ => by cases e; exact ⟨h, q⟩, fun ⟨h, q⟩ => ⟨rfl, h, _, rfl, q⟩⟩
theorem vq_isiT_tup {x : List D} : bIsiT [(.tup x), .tup [.con (.ty "int"), .con (.ty "str")]] P = P (.bl (isTy "tuple" "int" || isTy "tuple" "str")) := propext ⟨fun ⟨bs, a, h, h2, e, q⟩ => by cases e; cases h; simpa [isTys] using q, fun q => ⟨_, _, rfl, rfl, rfl, by simpa [isTys] using q⟩⟩
theorem vq_is_tup {x : List D} : dIs false (.tup x) .non P = P (.bl false) := rfl
theorem vq_isN_tup {x : List D} : dIs true (.tup x) .non P = P (.bl true) := rfl
theorem vq_ty_tup_bool : isTy "tuple" "bool" = false := rfl
theorem vq_ty_tup_int : isTy "tuple" "int" = false := rfl
theorem vq_ty_tup_str : isTy "tuple" "str" = false := rfl
theorem vq_ty_tup_list : isTy "tuple" "list" = false := rfl
theorem vq_ty_tup_tuple : isTy "tuple" "tuple" = true := rfl
theorem vq_ty_tup_dict : isTy "tuple" "dict" = false := rfl
theorem vq_tyOk_bool : tyOk "bool" = true := rfl
theorem vq_tyOk_int : tyOk "int" = true := rfl
theorem vq_tyOk_str : tyOk "str" = true := rfl
theorem vq_tyOk_list : tyOk "list" = true := rfl
theorem vq_tyOk_tuple : tyOk "tuple" = true := rfl
theorem vq_tyOk_dict : tyOk "dict" = true := rfl
theorem vq_eq_bl {x y : Bool} : dEq (.bl x) (.bl y) P = P (.bl ((x == y))) := propext ⟨fun ⟨p, q, e1, e2, h⟩ => by cases e1; cases e2; exact h, fun h => ⟨_, _, rfl, rfl, h⟩⟩
theorem vq_eq_int {x y : Int} : dEq (.int x) (.int y) P = P (.bl ((x == y))) := propext ⟨fun ⟨p, q, e1, e2, h⟩ => by cases e1; cases e2; exact h, fun h => ⟨_, _, rfl, rfl, h⟩⟩
theorem vq_ne_bl {x y : Bool} : dNe (.bl x) (.bl y) P = P (.bl (!(x == y))) := propext ⟨fun ⟨p, q, e1, e2, h⟩ => by cases e1; cases e2; exact h, fun h => ⟨_, _, rfl, rfl, h⟩⟩
theorem vq_ne_int {x y : Int} : dNe (.int x) (.int y) P = P (.bl (!(x == y))) := propext ⟨fun ⟨p, q, e1, e2, h⟩ => by cases e1; cases e2; exact h, fun h => ⟨_, _, rfl, rfl, h⟩⟩
theorem vq_len_lst {ds : List D} : bLen [.lst ds] P = P (.int (ds.length : Int)) := rfl
theorem vq_len_tup {ds : List D} : bLen [.tup ds] P = P (.int (ds.length : Int)) := rfl
theorem vq_len_str {x : Str} : bLen [.str x] P = (x.length ≤ sizeLine ∧ P (.int (x.length : Int))) := rfl
theorem vq_c_lt {x y : Int} : dLt (.int x) (.int y) P = P (.bl (decide (x < y))) := rfl
theorem vq_c_le {x y : Int} : dLe (.int x) (.int y) P = P (.bl (decide (x ≤ y))) := rfl
theorem vq_c_gt {x y : Int} : dGt (.int x) (.int y) P = P (.bl (decide (y < x))) := rfl
theorem vq_c_ge {x y : Int} : dGe (.int x) (.int y) P = P (.bl (decide (y ≤ x))) := rfl
theorem vq_a_int {x y : Int} : dAdd (.int x) (.int y) P = P (.int (x + y)) := rfl
theorem vq_a_str {x y : Str} : dAdd (.str x) (.str y) P = (x.length + y.length ≤ sizeLine ∧ P (.str (x ++ y))) := rfl
theorem vq_a_lst {x y : List D} : dAdd (.lst x) (.lst y) P = (x.length + y.length ≤ sizeLine ∧ P (.lst (x ++ y))) := rfl
theorem vq_a_tup {x y : List D} : dAdd (.tup x) (.tup y) P = (x.length + y.length ≤ sizeLine ∧ P (.tup (x ++ y))) := rfl
theorem vq_s_int {x y : Int} : dSub (.int x) (.int y) P = P (.int (x - y)) := rfl
theorem vq_ix_lst {ds : List D} {i : Int} : dIx (.lst ds) (.int i) P = ∃ d, atI ds i = some d ∧ P d := rfl
theorem vq_ix_tup {ds : List D} {i : Int} : dIx (.tup ds) (.int i) P = ∃ d, atI ds i = some d ∧ P d := rfl
theorem vq_m_int {x y : Int} : dMul (.int x) (.int y) P = (CMul x y ∧ P (.int (x * y))) := rfl
theorem vq_o_int {x y : Int} : dMod (.int x) (.int y) P = (0 < y ∧ P (.int (x % y))) := rfl
theorem vq_f_int {x y : Int} : dDiv (.int x) (.int y) P = (CDiv x y ∧ P (.int (x / y))) := rfl
theorem vq_int_int {x : Int} : bInt [.int x] P = P (.int x) := rfl
theorem vq_int_bl {x : Bool} : bInt [.bl x] P = P (.int (if x then 1 else 0)) := rfl
theorem vq_str_int {x : Int} : bStr [.int x] P = (x.natAbs.log2 < 1920 ∧ P (.str (toString x))) := rfl
theorem vq_ix_str {x : Str} {i : Int} : dIx (.str x) (.int i) P = (x.length ≤ sizeLine ∧ ∃ c, atI x.cps.toList i = some c ∧ P (.str ⟨#[c]⟩)) := rfl
theorem vq_sl_strD {x : Str} {lo hi : Option Int} : dSl (.str x) lo hi P = (x.length ≤ sizeLine ∧ P (.str (cutS x lo hi))) := rfl
theorem vq_sl_lstD {x : List D} {lo hi : Option Int} : dSl (.lst x) lo hi P = P (.lst (cutD x lo hi)) := rfl
theorem vq_sl_tupD {x : List D} {lo hi : Option Int} : dSl (.tup x) lo hi P = P (.tup (cutD x lo hi)) := rfl
end

theorem atI_in {α : Type} {ds : List α} {i : Int} (h0 : 0 ≤ i) (h1 : i < ds.length) : ∃ d, atI ds i = some d ∧ ds[i.toNat]? = some d ∧ d ∈ ds := by
  have hj : i.toNat < ds.length := by omega
  refine ⟨ds[i.toNat], ?_, List.getElem?_eq_getElem hj, List.getElem_mem hj⟩
  unfold atI ixN
  rw [if_pos h0, if_pos h1]
  exact List.getElem?_eq_getElem hj
/-- a comprehension by an invariant -/
theorem compL_rule {G : D → Option Bs} {A : FT} {E : FE} {ρ : Rho} {P : List D → Prop} (ds : List D) (R : Nat → List D → Prop)
    (h : ∀ i d acc (k : List D → Prop), ds[i]? = some d → R i acc → (∀ acc', R (i + 1) acc' → k acc') → match G d with
      | some bs => A (setE ρ bs) fun b => if b = true then E (setE ρ bs) fun y => acc.length < sizeLine ∧ k (acc ++ [y]) else k acc
      | none => False) (h0 : R 0 []) (hP : ∀ acc, R ds.length acc → P acc) : compL G A E ρ ds [] P := by
  suffices H : ∀ (rest : List D) (i : Nat) (acc : List D), ds.drop i = rest → i ≤ ds.length → R i acc → compL G A E ρ rest acc P from H ds 0 [] rfl (Nat.zero_le _) h0
  intro rest
  induction rest with
  | nil =>
    intro i acc e hi r
    have : i = ds.length := by
      have := congrArg List.length e
      rw [List.length_drop] at this
      simp at this
      omega
    subst this
    exact hP acc r
  | cons d rest ih =>
    intro i acc e hi r
    have hd : ds[i]? = some d := by
      have : (ds.drop i)[0]? = some d := by rw [e]; rfl
      rwa [List.getElem?_drop] at this
    have hl : i < ds.length := (List.getElem?_eq_some_iff.mp hd).1
    have e2 : ds.drop (i + 1) = rest := by
      have : (ds.drop i).drop 1 = rest := by rw [e]; rfl
      rwa [List.drop_drop] at this
    exact h i d acc (fun acc' => compL G A E ρ rest acc' P) hd r fun acc' r' => ih (i + 1) acc' e2 hl r'
/-- a for loop by an invariant; its body falls through or goes on -/
theorem forL_rule {G : D → Option Bs} {B : DTS} {De : DEnds} (ds : List D) (R : Nat → DSt → Prop)
    (h : ∀ i d s (k : DSt → Prop), ds[i]? = some d → R i s → (∀ s', R (i + 1) s' → k s') → match G d with
      | some bs => B { nx := k, rt := De.rt, bk := De.nx, ct := k } (setD s bs)
      | none => False) {s : DSt} (h0 : R 0 s) (hP : ∀ s, R ds.length s → De.nx s) : forL G B De ds s := by
  suffices H : ∀ (rest : List D) (i : Nat) (s : DSt), ds.drop i = rest → i ≤ ds.length → R i s → forL G B De rest s from H ds 0 s rfl (Nat.zero_le _) h0
  intro rest
  induction rest with
  | nil =>
    intro i acc e hi r
    have : i = ds.length := by
      have := congrArg List.length e
      rw [List.length_drop] at this
      simp at this
      omega
    subst this
    exact hP acc r
  | cons d rest ih =>
    intro i acc e hi r
    have hd : ds[i]? = some d := by
      have : (ds.drop i)[0]? = some d := by rw [e]; rfl
      rwa [List.getElem?_drop] at this
    have hl : i < ds.length := (List.getElem?_eq_some_iff.mp hd).1
    have e2 : ds.drop (i + 1) = rest := by
      have : (ds.drop i).drop 1 = rest := by rw [e]; rfl
      rwa [List.drop_drop] at this
    exact h i d acc (fun s' => forL G B De rest s') hd r fun acc' r' => ih (i + 1) acc' e2 hl r'

/-! a list compared with a list, by == (texts, numbers, truth values) -/
def mOf (K : PySem.W.Frag) : GG → List D → (D → Prop) → Prop := fun g => body 2 2 ((dRet (fOp dIx (fVar 1) (fCall m_take g (fCons (fVar 0) (fCons (fCB bLen (fCons (fVar 1) fNil)) fNil)) []))))
section
variable {K : PySem.W.Frag} {a c : Addr} {P : D → Prop}
theorem take_ok {n : Int} (h0 : 0 < n) (h1 : n < 1073741824) (h : ∀ i : Int, 0 ≤ i → i < n → P (.int i)) : m_take (some (a, c)) [.con (.ref a), .int n] P := ⟨a, c, n, rfl, rfl, h0, h1, h⟩
theorem of_lst {ds : List D} (h0 : ds ≠ []) (h1 : ds.length < 1073741824) (h : ∀ d ∈ ds, P d) : mOf K (some (a, c)) [.con (.ref a), .lst ds] P := by
  refine ⟨rfl, ?_⟩
  simp only [body, dNext, dSeq, dRet, dRetN, dDrop, dIf, dSet, dSetO, dOwn, dRel, dApp, dAsg, dPar, dFor, fVar, fC, fNil, fCons, fCall, fCB, fOp, fTst, fAnd, fOr, fNot, fAndV, fOrV, fNotV, fIf, fTup, fLst, fCh, fSl, fNoP, fPart, fSeqL, fSeqT, fSigns, fRng1, fZip, fLc, fS1, fYes, opn, bln, Sl.op, Sl.bl, OD.d, List.map_cons, List.map_nil, List.append_nil, List.nil_append, List.cons_append, List.replicate, List.length_cons, List.length_nil, List.getElem?_cons_zero, List.getElem?_cons_succ, List.set_cons_zero, List.set_cons_succ, Nat.reduceAdd, Nat.reduceSub, if_true, ite_true, if_false, Bool.false_eq_true, Bool.not_true, Bool.not_false, true_and, wipeE, gtName, gtTup, gtCons, gtNil, setE, setD, reduceIte, Bool.or_true, Bool.true_or, Bool.or_false, Bool.false_or, Bool.and_true, Bool.and_false, Bool.or_self, Bool.true_and, Bool.false_and, beq_self_eq_true, vq_isi_non, vq_isiT_non, vq_is_non, vq_isN_non, vq_ty_non_bool, vq_ty_non_int, vq_ty_non_str, vq_ty_non_list, vq_ty_non_tuple, vq_ty_non_dict, vq_isi_bl, vq_isiT_bl, vq_is_bl, vq_isN_bl, vq_ty_bl_bool, vq_ty_bl_int, vq_ty_bl_str, vq_ty_bl_list, vq_ty_bl_tuple, vq_ty_bl_dict, vq_isi_int, vq_isiT_int, vq_is_int, vq_isN_int, vq_ty_int_bool, vq_ty_int_int, vq_ty_int_str, vq_ty_int_list, vq_ty_int_tuple, vq_ty_int_dict, vq_isi_str, vq_isiT_str, vq_is_str, vq_isN_str, vq_ty_str_bool, vq_ty_str_int, vq_ty_str_str, vq_ty_str_list, vq_ty_str_tuple, vq_ty_str_dict, vq_isi_lst, vq_isiT_lst, vq_is_lst, vq_isN_lst, vq_ty_lst_bool, vq_ty_lst_int, vq_ty_lst_str, vq_ty_lst_list, vq_ty_lst_tuple, vq_ty_lst_dict, vq_isi_tup, vq_isiT_tup, vq_is_tup, vq_isN_tup, vq_ty_tup_bool, vq_ty_tup_int, vq_ty_tup_str, vq_ty_tup_list, vq_ty_tup_tuple, vq_ty_tup_dict, vq_tyOk_bool, vq_tyOk_int, vq_tyOk_str, vq_tyOk_list, vq_tyOk_tuple, vq_tyOk_dict, vq_eq_bl, vq_eq_int, vq_ne_bl, vq_ne_int, vq_len_lst, vq_len_tup, vq_len_str, vq_c_lt, vq_c_le, vq_c_gt, vq_c_ge, vq_a_int, vq_a_str, vq_a_lst, vq_a_tup, vq_s_int, vq_ix_lst, vq_ix_tup, vq_m_int, vq_o_int, vq_f_int, vq_int_int, vq_int_bl, vq_str_int, vq_ix_str, vq_sl_strD, vq_sl_lstD, vq_sl_tupD]
  have := List.length_pos_iff.mpr h0
  refine take_ok (by omega) (by omega) fun i h2 h3 => ?_
  obtain ⟨d, e1, e2, e3⟩ := atI_in h2 h3
  exact ⟨d, e1, h d e3⟩
theorem of_tup {ds : List D} (h0 : ds ≠ []) (h1 : ds.length < 1073741824) (h : ∀ d ∈ ds, P d) : mOf K (some (a, c)) [.con (.ref a), .tup ds] P := by
  refine ⟨rfl, ?_⟩
  simp only [body, dNext, dSeq, dRet, dRetN, dDrop, dIf, dSet, dSetO, dOwn, dRel, dApp, dAsg, dPar, dFor, fVar, fC, fNil, fCons, fCall, fCB, fOp, fTst, fAnd, fOr, fNot, fAndV, fOrV, fNotV, fIf, fTup, fLst, fCh, fSl, fNoP, fPart, fSeqL, fSeqT, fSigns, fRng1, fZip, fLc, fS1, fYes, opn, bln, Sl.op, Sl.bl, OD.d, List.map_cons, List.map_nil, List.append_nil, List.nil_append, List.cons_append, List.replicate, List.length_cons, List.length_nil, List.getElem?_cons_zero, List.getElem?_cons_succ, List.set_cons_zero, List.set_cons_succ, Nat.reduceAdd, Nat.reduceSub, if_true, ite_true, if_false, Bool.false_eq_true, Bool.not_true, Bool.not_false, true_and, wipeE, gtName, gtTup, gtCons, gtNil, setE, setD, reduceIte, Bool.or_true, Bool.true_or, Bool.or_false, Bool.false_or, Bool.and_true, Bool.and_false, Bool.or_self, Bool.true_and, Bool.false_and, beq_self_eq_true, vq_isi_non, vq_isiT_non, vq_is_non, vq_isN_non, vq_ty_non_bool, vq_ty_non_int, vq_ty_non_str, vq_ty_non_list, vq_ty_non_tuple, vq_ty_non_dict, vq_isi_bl, vq_isiT_bl, vq_is_bl, vq_isN_bl, vq_ty_bl_bool, vq_ty_bl_int, vq_ty_bl_str, vq_ty_bl_list, vq_ty_bl_tuple, vq_ty_bl_dict, vq_isi_int, vq_isiT_int, vq_is_int, vq_isN_int, vq_ty_int_bool, vq_ty_int_int, vq_ty_int_str, vq_ty_int_list, vq_ty_int_tuple, vq_ty_int_dict, vq_isi_str, vq_isiT_str, vq_is_str, vq_isN_str, vq_ty_str_bool, vq_ty_str_int, vq_ty_str_str, vq_ty_str_list, vq_ty_str_tuple, vq_ty_str_dict, vq_isi_lst, vq_isiT_lst, vq_is_lst, vq_isN_lst, vq_ty_lst_bool, vq_ty_lst_int, vq_ty_lst_str, vq_ty_lst_list, vq_ty_lst_tuple, vq_ty_lst_dict, vq_isi_tup, vq_isiT_tup, vq_is_tup, vq_isN_tup, vq_ty_tup_bool, vq_ty_tup_int, vq_ty_tup_str, vq_ty_tup_list, vq_ty_tup_tuple, vq_ty_tup_dict, vq_tyOk_bool, vq_tyOk_int, vq_tyOk_str, vq_tyOk_list, vq_tyOk_tuple, vq_tyOk_dict, vq_eq_bl, vq_eq_int, vq_ne_bl, vq_ne_int, vq_len_lst, vq_len_tup, vq_len_str, vq_c_lt, vq_c_le, vq_c_gt, vq_c_ge, vq_a_int, vq_a_str, vq_a_lst, vq_a_tup, vq_s_int, vq_ix_lst, vq_ix_tup, vq_m_int, vq_o_int, vq_f_int, vq_int_int, vq_int_bl, vq_str_int, vq_ix_str, vq_sl_strD, vq_sl_lstD, vq_sl_tupD]
  have := List.length_pos_iff.mpr h0
  refine take_ok (by omega) (by omega) fun i h2 h3 => ?_
  obtain ⟨d, e1, e2, e3⟩ := atI_in h2 h3
  exact ⟨d, e1, h d e3⟩
theorem of_str {x : Str} (h0 : 0 < x.length) (h1 : x.length < 65536) (h : ∀ c ∈ x.cps.toList, P (.str ⟨#[c]⟩)) : mOf K (some (a, c)) [.con (.ref a), .str x] P := by
  refine ⟨rfl, ?_⟩
  simp only [body, dNext, dSeq, dRet, dRetN, dDrop, dIf, dSet, dSetO, dOwn, dRel, dApp, dAsg, dPar, dFor, fVar, fC, fNil, fCons, fCall, fCB, fOp, fTst, fAnd, fOr, fNot, fAndV, fOrV, fNotV, fIf, fTup, fLst, fCh, fSl, fNoP, fPart, fSeqL, fSeqT, fSigns, fRng1, fZip, fLc, fS1, fYes, opn, bln, Sl.op, Sl.bl, OD.d, List.map_cons, List.map_nil, List.append_nil, List.nil_append, List.cons_append, List.replicate, List.length_cons, List.length_nil, List.getElem?_cons_zero, List.getElem?_cons_succ, List.set_cons_zero, List.set_cons_succ, Nat.reduceAdd, Nat.reduceSub, if_true, ite_true, if_false, Bool.false_eq_true, Bool.not_true, Bool.not_false, true_and, wipeE, gtName, gtTup, gtCons, gtNil, setE, setD, reduceIte, Bool.or_true, Bool.true_or, Bool.or_false, Bool.false_or, Bool.and_true, Bool.and_false, Bool.or_self, Bool.true_and, Bool.false_and, beq_self_eq_true, vq_isi_non, vq_isiT_non, vq_is_non, vq_isN_non, vq_ty_non_bool, vq_ty_non_int, vq_ty_non_str, vq_ty_non_list, vq_ty_non_tuple, vq_ty_non_dict, vq_isi_bl, vq_isiT_bl, vq_is_bl, vq_isN_bl, vq_ty_bl_bool, vq_ty_bl_int, vq_ty_bl_str, vq_ty_bl_list, vq_ty_bl_tuple, vq_ty_bl_dict, vq_isi_int, vq_isiT_int, vq_is_int, vq_isN_int, vq_ty_int_bool, vq_ty_int_int, vq_ty_int_str, vq_ty_int_list, vq_ty_int_tuple, vq_ty_int_dict, vq_isi_str, vq_isiT_str, vq_is_str, vq_isN_str, vq_ty_str_bool, vq_ty_str_int, vq_ty_str_str, vq_ty_str_list, vq_ty_str_tuple, vq_ty_str_dict, vq_isi_lst, vq_isiT_lst, vq_is_lst, vq_isN_lst, vq_ty_lst_bool, vq_ty_lst_int, vq_ty_lst_str, vq_ty_lst_list, vq_ty_lst_tuple, vq_ty_lst_dict, vq_isi_tup, vq_isiT_tup, vq_is_tup, vq_isN_tup, vq_ty_tup_bool, vq_ty_tup_int, vq_ty_tup_str, vq_ty_tup_list, vq_ty_tup_tuple, vq_ty_tup_dict, vq_tyOk_bool, vq_tyOk_int, vq_tyOk_str, vq_tyOk_list, vq_tyOk_tuple, vq_tyOk_dict, vq_eq_bl, vq_eq_int, vq_ne_bl, vq_ne_int, vq_len_lst, vq_len_tup, vq_len_str, vq_c_lt, vq_c_le, vq_c_gt, vq_c_ge, vq_a_int, vq_a_str, vq_a_lst, vq_a_tup, vq_s_int, vq_ix_lst, vq_ix_tup, vq_m_int, vq_o_int, vq_f_int, vq_int_int, vq_int_bl, vq_str_int, vq_ix_str, vq_sl_strD, vq_sl_lstD, vq_sl_tupD]
  have hz : x.length ≤ sizeLine := by unfold sizeLine; omega
  refine ⟨hz, take_ok (n := (x.length : Int)) (by omega) (by omega) fun i h2 h3 => ?_⟩
  obtain ⟨d, e1, e2, e3⟩ := atI_in (ds := x.cps.toList) h2 (by rw [Array.length_toList]; exact h3)
  exact ⟨hz, d, e1, h d e3⟩
/-- _law_same; no dicts -/
def mSame (K : PySem.W.Frag) : Nat → GG → List D → (D → Prop) → Prop
  | 0 => fun _ _ _ => False
  | n + 1 => fun g => body 2 5 ((dSeq (dIf (fTst (fOp (dIs false) (fVar 1) (fC .non))) (dRet (fOp (dIs false) (fVar 0) (fC .non))) dNext)
    (dSeq (dIf (fOr (fTst (fCB (bIsi "bool") (fCons (fVar 1) (fCons (fC (.con (.ty "bool"))) fNil)))) (fTst (fCB (bIsi "bool") (fCons (fVar 0) (fCons (fC (.con (.ty "bool"))) fNil))))) (dRet (fAndV (fCB (bIsi "bool") (fCons (fVar 1) (fCons (fC (.con (.ty "bool"))) fNil))) (fAndV (fCB (bIsi "bool") (fCons (fVar 0) (fCons (fC (.con (.ty "bool"))) fNil))) (fOp dEq (fVar 0) (fVar 1))))) dNext)
    (dSeq (dIf (fTst (fCB bIsiT (fCons (fVar 1) (fCons (fTup (fCons (fC (.con (.ty "int"))) (fCons (fC (.con (.ty "str"))) fNil))) fNil)))) (dRet (fAndV (fCB bIsiT (fCons (fVar 0) (fCons (fTup (fCons (fC (.con (.ty "int"))) (fCons (fC (.con (.ty "str"))) fNil))) fNil))) (fAndV (fOp dEq (fCB (bIsi "int") (fCons (fVar 0) (fCons (fC (.con (.ty "int"))) fNil))) (fCB (bIsi "int") (fCons (fVar 1) (fCons (fC (.con (.ty "int"))) fNil)))) (fOp dEq (fVar 0) (fVar 1))))) dNext)
    (dSeq (dIf (fTst (fCB (bIsi "dict") (fCons (fVar 1) (fCons (fC (.con (.ty "dict"))) fNil)))) (fun _ _ => False) dNext)
    (dSeq (dIf (fOr (fTst (fOp dNe (fCB (bIsi "list") (fCons (fVar 1) (fCons (fC (.con (.ty "list"))) fNil))) (fCB (bIsi "list") (fCons (fVar 0) (fCons (fC (.con (.ty "list"))) fNil))))) (fTst (fOp dNe (fCB (bIsi "tuple") (fCons (fVar 1) (fCons (fC (.con (.ty "tuple"))) fNil))) (fCB (bIsi "tuple") (fCons (fVar 0) (fCons (fC (.con (.ty "tuple"))) fNil)))))) (dRet (fC (.bl false))) dNext)
    (dRet (fAndV (fOp dEq (fCB bLen (fCons (fVar 0) fNil)) (fCB bLen (fCons (fVar 1) fNil))) (fCB bAll (fCons (fLc (fZip (fCons (fVar 0) (fCons (fVar 1) fNil))) (gtTup 2 (gtCons (gtName 3) (gtCons (gtName 4) gtNil))) fYes (fCall (mSame K n) g (fCons (fVar 3) (fCons (fVar 4) fNil)) []) [3, 4]) fNil))))))))))
variable {g : GG}
theorem same_bl {n : Nat} {x y : Bool} (h : P (.bl (x == y))) : mSame K (n + 1) g [.bl x, .bl y] P := by
  refine ⟨rfl, ?_⟩
  simp only [body, dNext, dSeq, dRet, dRetN, dDrop, dIf, dSet, dSetO, dOwn, dRel, dApp, dAsg, dPar, dFor, fVar, fC, fNil, fCons, fCall, fCB, fOp, fTst, fAnd, fOr, fNot, fAndV, fOrV, fNotV, fIf, fTup, fLst, fCh, fSl, fNoP, fPart, fSeqL, fSeqT, fSigns, fRng1, fZip, fLc, fS1, fYes, opn, bln, Sl.op, Sl.bl, OD.d, List.map_cons, List.map_nil, List.append_nil, List.nil_append, List.cons_append, List.replicate, List.length_cons, List.length_nil, List.getElem?_cons_zero, List.getElem?_cons_succ, List.set_cons_zero, List.set_cons_succ, Nat.reduceAdd, Nat.reduceSub, if_true, ite_true, if_false, Bool.false_eq_true, Bool.not_true, Bool.not_false, true_and, wipeE, gtName, gtTup, gtCons, gtNil, setE, setD, reduceIte, Bool.or_true, Bool.true_or, Bool.or_false, Bool.false_or, Bool.and_true, Bool.and_false, Bool.or_self, Bool.true_and, Bool.false_and, beq_self_eq_true, vq_isi_non, vq_isiT_non, vq_is_non, vq_isN_non, vq_ty_non_bool, vq_ty_non_int, vq_ty_non_str, vq_ty_non_list, vq_ty_non_tuple, vq_ty_non_dict, vq_isi_bl, vq_isiT_bl, vq_is_bl, vq_isN_bl, vq_ty_bl_bool, vq_ty_bl_int, vq_ty_bl_str, vq_ty_bl_list, vq_ty_bl_tuple, vq_ty_bl_dict, vq_isi_int, vq_isiT_int, vq_is_int, vq_isN_int, vq_ty_int_bool, vq_ty_int_int, vq_ty_int_str, vq_ty_int_list, vq_ty_int_tuple, vq_ty_int_dict, vq_isi_str, vq_isiT_str, vq_is_str, vq_isN_str, vq_ty_str_bool, vq_ty_str_int, vq_ty_str_str, vq_ty_str_list, vq_ty_str_tuple, vq_ty_str_dict, vq_isi_lst, vq_isiT_lst, vq_is_lst, vq_isN_lst, vq_ty_lst_bool, vq_ty_lst_int, vq_ty_lst_str, vq_ty_lst_list, vq_ty_lst_tuple, vq_ty_lst_dict, vq_isi_tup, vq_isiT_tup, vq_is_tup, vq_isN_tup, vq_ty_tup_bool, vq_ty_tup_int, vq_ty_tup_str, vq_ty_tup_list, vq_ty_tup_tuple, vq_ty_tup_dict, vq_tyOk_bool, vq_tyOk_int, vq_tyOk_str, vq_tyOk_list, vq_tyOk_tuple, vq_tyOk_dict, vq_eq_bl, vq_eq_int, vq_ne_bl, vq_ne_int, vq_len_lst, vq_len_tup, vq_len_str, vq_c_lt, vq_c_le, vq_c_gt, vq_c_ge, vq_a_int, vq_a_str, vq_a_lst, vq_a_tup, vq_s_int, vq_ix_lst, vq_ix_tup, vq_m_int, vq_o_int, vq_f_int, vq_int_int, vq_int_bl, vq_str_int, vq_ix_str, vq_sl_strD, vq_sl_lstD, vq_sl_tupD]
  exact h
theorem sz2 : 2 ≤ sizeLine := by unfold sizeLine; omega
theorem same_str {n : Nat} {x y : Str} (h : dEq (.str x) (.str y) P) : mSame K (n + 1) g [.str x, .str y] P := by
  refine ⟨rfl, ?_⟩
  simp only [body, dNext, dSeq, dRet, dRetN, dDrop, dIf, dSet, dSetO, dOwn, dRel, dApp, dAsg, dPar, dFor, fVar, fC, fNil, fCons, fCall, fCB, fOp, fTst, fAnd, fOr, fNot, fAndV, fOrV, fNotV, fIf, fTup, fLst, fCh, fSl, fNoP, fPart, fSeqL, fSeqT, fSigns, fRng1, fZip, fLc, fS1, fYes, opn, bln, Sl.op, Sl.bl, OD.d, List.map_cons, List.map_nil, List.append_nil, List.nil_append, List.cons_append, List.replicate, List.length_cons, List.length_nil, List.getElem?_cons_zero, List.getElem?_cons_succ, List.set_cons_zero, List.set_cons_succ, Nat.reduceAdd, Nat.reduceSub, if_true, ite_true, if_false, Bool.false_eq_true, Bool.not_true, Bool.not_false, true_and, wipeE, gtName, gtTup, gtCons, gtNil, setE, setD, reduceIte, Bool.or_true, Bool.true_or, Bool.or_false, Bool.false_or, Bool.and_true, Bool.and_false, Bool.or_self, Bool.true_and, Bool.false_and, beq_self_eq_true, vq_isi_non, vq_isiT_non, vq_is_non, vq_isN_non, vq_ty_non_bool, vq_ty_non_int, vq_ty_non_str, vq_ty_non_list, vq_ty_non_tuple, vq_ty_non_dict, vq_isi_bl, vq_isiT_bl, vq_is_bl, vq_isN_bl, vq_ty_bl_bool, vq_ty_bl_int, vq_ty_bl_str, vq_ty_bl_list, vq_ty_bl_tuple, vq_ty_bl_dict, vq_isi_int, vq_isiT_int, vq_is_int, vq_isN_int, vq_ty_int_bool, vq_ty_int_int, vq_ty_int_str, vq_ty_int_list, vq_ty_int_tuple, vq_ty_int_dict, vq_isi_str, vq_isiT_str, vq_is_str, vq_isN_str, vq_ty_str_bool, vq_ty_str_int, vq_ty_str_str, vq_ty_str_list, vq_ty_str_tuple, vq_ty_str_dict, vq_isi_lst, vq_isiT_lst, vq_is_lst, vq_isN_lst, vq_ty_lst_bool, vq_ty_lst_int, vq_ty_lst_str, vq_ty_lst_list, vq_ty_lst_tuple, vq_ty_lst_dict, vq_isi_tup, vq_isiT_tup, vq_is_tup, vq_isN_tup, vq_ty_tup_bool, vq_ty_tup_int, vq_ty_tup_str, vq_ty_tup_list, vq_ty_tup_tuple, vq_ty_tup_dict, vq_tyOk_bool, vq_tyOk_int, vq_tyOk_str, vq_tyOk_list, vq_tyOk_tuple, vq_tyOk_dict, vq_eq_bl, vq_eq_int, vq_ne_bl, vq_ne_int, vq_len_lst, vq_len_tup, vq_len_str, vq_c_lt, vq_c_le, vq_c_gt, vq_c_ge, vq_a_int, vq_a_str, vq_a_lst, vq_a_tup, vq_s_int, vq_ix_lst, vq_ix_tup, vq_m_int, vq_o_int, vq_f_int, vq_int_int, vq_int_bl, vq_str_int, vq_ix_str, vq_sl_strD, vq_sl_lstD, vq_sl_tupD]
  exact ⟨sz2, sz2, h⟩
theorem same_int {n : Nat} {x y : Int} (h : P (.bl (x == y))) : mSame K (n + 1) g [.int x, .int y] P := by
  refine ⟨rfl, ?_⟩
  simp only [body, dNext, dSeq, dRet, dRetN, dDrop, dIf, dSet, dSetO, dOwn, dRel, dApp, dAsg, dPar, dFor, fVar, fC, fNil, fCons, fCall, fCB, fOp, fTst, fAnd, fOr, fNot, fAndV, fOrV, fNotV, fIf, fTup, fLst, fCh, fSl, fNoP, fPart, fSeqL, fSeqT, fSigns, fRng1, fZip, fLc, fS1, fYes, opn, bln, Sl.op, Sl.bl, OD.d, List.map_cons, List.map_nil, List.append_nil, List.nil_append, List.cons_append, List.replicate, List.length_cons, List.length_nil, List.getElem?_cons_zero, List.getElem?_cons_succ, List.set_cons_zero, List.set_cons_succ, Nat.reduceAdd, Nat.reduceSub, if_true, ite_true, if_false, Bool.false_eq_true, Bool.not_true, Bool.not_false, true_and, wipeE, gtName, gtTup, gtCons, gtNil, setE, setD, reduceIte, Bool.or_true, Bool.true_or, Bool.or_false, Bool.false_or, Bool.and_true, Bool.and_false, Bool.or_self, Bool.true_and, Bool.false_and, beq_self_eq_true, vq_isi_non, vq_isiT_non, vq_is_non, vq_isN_non, vq_ty_non_bool, vq_ty_non_int, vq_ty_non_str, vq_ty_non_list, vq_ty_non_tuple, vq_ty_non_dict, vq_isi_bl, vq_isiT_bl, vq_is_bl, vq_isN_bl, vq_ty_bl_bool, vq_ty_bl_int, vq_ty_bl_str, vq_ty_bl_list, vq_ty_bl_tuple, vq_ty_bl_dict, vq_isi_int, vq_isiT_int, vq_is_int, vq_isN_int, vq_ty_int_bool, vq_ty_int_int, vq_ty_int_str, vq_ty_int_list, vq_ty_int_tuple, vq_ty_int_dict, vq_isi_str, vq_isiT_str, vq_is_str, vq_isN_str, vq_ty_str_bool, vq_ty_str_int, vq_ty_str_str, vq_ty_str_list, vq_ty_str_tuple, vq_ty_str_dict, vq_isi_lst, vq_isiT_lst, vq_is_lst, vq_isN_lst, vq_ty_lst_bool, vq_ty_lst_int, vq_ty_lst_str, vq_ty_lst_list, vq_ty_lst_tuple, vq_ty_lst_dict, vq_isi_tup, vq_isiT_tup, vq_is_tup, vq_isN_tup, vq_ty_tup_bool, vq_ty_tup_int, vq_ty_tup_str, vq_ty_tup_list, vq_ty_tup_tuple, vq_ty_tup_dict, vq_tyOk_bool, vq_tyOk_int, vq_tyOk_str, vq_tyOk_list, vq_tyOk_tuple, vq_tyOk_dict, vq_eq_bl, vq_eq_int, vq_ne_bl, vq_ne_int, vq_len_lst, vq_len_tup, vq_len_str, vq_c_lt, vq_c_le, vq_c_gt, vq_c_ge, vq_a_int, vq_a_str, vq_a_lst, vq_a_tup, vq_s_int, vq_ix_lst, vq_ix_tup, vq_m_int, vq_o_int, vq_f_int, vq_int_int, vq_int_bl, vq_str_int, vq_ix_str, vq_sl_strD, vq_sl_lstD, vq_sl_tupD]
  exact ⟨sz2, sz2, h⟩
theorem same_non {n : Nat} (h : P (.bl true)) : mSame K (n + 1) g [.non, .non] P := by
  refine ⟨rfl, ?_⟩
  simp only [body, dNext, dSeq, dRet, dRetN, dDrop, dIf, dSet, dSetO, dOwn, dRel, dApp, dAsg, dPar, dFor, fVar, fC, fNil, fCons, fCall, fCB, fOp, fTst, fAnd, fOr, fNot, fAndV, fOrV, fNotV, fIf, fTup, fLst, fCh, fSl, fNoP, fPart, fSeqL, fSeqT, fSigns, fRng1, fZip, fLc, fS1, fYes, opn, bln, Sl.op, Sl.bl, OD.d, List.map_cons, List.map_nil, List.append_nil, List.nil_append, List.cons_append, List.replicate, List.length_cons, List.length_nil, List.getElem?_cons_zero, List.getElem?_cons_succ, List.set_cons_zero, List.set_cons_succ, Nat.reduceAdd, Nat.reduceSub, if_true, ite_true, if_false, Bool.false_eq_true, Bool.not_true, Bool.not_false, true_and, wipeE, gtName, gtTup, gtCons, gtNil, setE, setD, reduceIte, Bool.or_true, Bool.true_or, Bool.or_false, Bool.false_or, Bool.and_true, Bool.and_false, Bool.or_self, Bool.true_and, Bool.false_and, beq_self_eq_true, vq_isi_non, vq_isiT_non, vq_is_non, vq_isN_non, vq_ty_non_bool, vq_ty_non_int, vq_ty_non_str, vq_ty_non_list, vq_ty_non_tuple, vq_ty_non_dict, vq_isi_bl, vq_isiT_bl, vq_is_bl, vq_isN_bl, vq_ty_bl_bool, vq_ty_bl_int, vq_ty_bl_str, vq_ty_bl_list, vq_ty_bl_tuple, vq_ty_bl_dict, vq_isi_int, vq_isiT_int, vq_is_int, vq_isN_int, vq_ty_int_bool, vq_ty_int_int, vq_ty_int_str, vq_ty_int_list, vq_ty_int_tuple, vq_ty_int_dict, vq_isi_str, vq_isiT_str, vq_is_str, vq_isN_str, vq_ty_str_bool, vq_ty_str_int, vq_ty_str_str, vq_ty_str_list, vq_ty_str_tuple, vq_ty_str_dict, vq_isi_lst, vq_isiT_lst, vq_is_lst, vq_isN_lst, vq_ty_lst_bool, vq_ty_lst_int, vq_ty_lst_str, vq_ty_lst_list, vq_ty_lst_tuple, vq_ty_lst_dict, vq_isi_tup, vq_isiT_tup, vq_is_tup, vq_isN_tup, vq_ty_tup_bool, vq_ty_tup_int, vq_ty_tup_str, vq_ty_tup_list, vq_ty_tup_tuple, vq_ty_tup_dict, vq_tyOk_bool, vq_tyOk_int, vq_tyOk_str, vq_tyOk_list, vq_tyOk_tuple, vq_tyOk_dict, vq_eq_bl, vq_eq_int, vq_ne_bl, vq_ne_int, vq_len_lst, vq_len_tup, vq_len_str, vq_c_lt, vq_c_le, vq_c_gt, vq_c_ge, vq_a_int, vq_a_str, vq_a_lst, vq_a_tup, vq_s_int, vq_ix_lst, vq_ix_tup, vq_m_int, vq_o_int, vq_f_int, vq_int_int, vq_int_bl, vq_str_int, vq_ix_str, vq_sl_strD, vq_sl_lstD, vq_sl_tupD]
  exact h
theorem same_str_eq {n : Nat} {x : Str} (hs : SeqAt.shaped (.str x) = true) (h : P (.bl true)) : mSame K (n + 1) g [.str x, .str x] P := same_str ⟨.str x, .str x, by unfold shD toP; simp [hs], by unfold shD toP; simp [hs], by simpa [PyData.eqv] using h⟩
/-- what is the same, told of all ends -/
def SameT (K : PySem.W.Frag) (g : GG) (n : Nat) (x y : D) : Prop := ∀ P : D → Prop, P (.bl true) → mSame K n g [x, y] P
theorem bls_rep : ∀ n : Nat, bls (List.replicate n (.bl true)) = some (List.replicate n true)
  | 0 => rfl
  | n + 1 => by rw [List.replicate_succ, bls, bls_rep n]; rfl
theorem comp_same {n : Nat} {x y : List D} {ρ : Rho} (hz : x.length ≤ sizeLine) (h : ∀ (i : Nat) (d e : D), x[i]? = some d → y[i]? = some e → SameT K g n d e)
    (hρ : ρ.length = 5) (hP : ∀ k, bAll [.lst (List.replicate k (.bl true))] P) :
    compL (gtTup 2 (gtCons (gtName 3) (gtCons (gtName 4) gtNil))) fYes (fCall (mSame K n) g (fCons (fVar 3) (fCons (fVar 4) fNil)) []) ρ (zipD x y) [] fun acc => bAll [.lst acc] P := by
  refine compL_rule _ (fun (i : Nat) (acc : List D) => acc = List.replicate i (D.bl true)) (fun i d acc k hd hr hk => ?_) rfl fun acc hr => by rw [hr]; exact hP _
  have hi : i < (zipD x y).length := (List.getElem?_eq_some_iff.mp hd).1
  rw [zipD_len] at hi
  obtain ⟨a, b, e1, e2, rfl⟩ := zipD_get hd
  match ρ, hρ with
  | [r0, r1, r2, r3, r4], _ =>
    simp only [body, dNext, dSeq, dRet, dRetN, dDrop, dIf, dSet, dSetO, dOwn, dRel, dApp, dAsg, dPar, dFor, fVar, fC, fNil, fCons, fCall, fCB, fOp, fTst, fAnd, fOr, fNot, fAndV, fOrV, fNotV, fIf, fTup, fLst, fCh, fSl, fNoP, fPart, fSeqL, fSeqT, fSigns, fRng1, fZip, fLc, fS1, fYes, opn, bln, Sl.op, Sl.bl, OD.d, List.map_cons, List.map_nil, List.append_nil, List.nil_append, List.cons_append, List.replicate, List.length_cons, List.length_nil, List.getElem?_cons_zero, List.getElem?_cons_succ, List.set_cons_zero, List.set_cons_succ, Nat.reduceAdd, Nat.reduceSub, if_true, ite_true, if_false, Bool.false_eq_true, Bool.not_true, Bool.not_false, true_and, wipeE, gtName, gtTup, gtCons, gtNil, setE, setD, reduceIte, Bool.or_true, Bool.true_or, Bool.or_false, Bool.false_or, Bool.and_true, Bool.and_false, Bool.or_self, Bool.true_and, Bool.false_and, beq_self_eq_true, vq_isi_non, vq_isiT_non, vq_is_non, vq_isN_non, vq_ty_non_bool, vq_ty_non_int, vq_ty_non_str, vq_ty_non_list, vq_ty_non_tuple, vq_ty_non_dict, vq_isi_bl, vq_isiT_bl, vq_is_bl, vq_isN_bl, vq_ty_bl_bool, vq_ty_bl_int, vq_ty_bl_str, vq_ty_bl_list, vq_ty_bl_tuple, vq_ty_bl_dict, vq_isi_int, vq_isiT_int, vq_is_int, vq_isN_int, vq_ty_int_bool, vq_ty_int_int, vq_ty_int_str, vq_ty_int_list, vq_ty_int_tuple, vq_ty_int_dict, vq_isi_str, vq_isiT_str, vq_is_str, vq_isN_str, vq_ty_str_bool, vq_ty_str_int, vq_ty_str_str, vq_ty_str_list, vq_ty_str_tuple, vq_ty_str_dict, vq_isi_lst, vq_isiT_lst, vq_is_lst, vq_isN_lst, vq_ty_lst_bool, vq_ty_lst_int, vq_ty_lst_str, vq_ty_lst_list, vq_ty_lst_tuple, vq_ty_lst_dict, vq_isi_tup, vq_isiT_tup, vq_is_tup, vq_isN_tup, vq_ty_tup_bool, vq_ty_tup_int, vq_ty_tup_str, vq_ty_tup_list, vq_ty_tup_tuple, vq_ty_tup_dict, vq_tyOk_bool, vq_tyOk_int, vq_tyOk_str, vq_tyOk_list, vq_tyOk_tuple, vq_tyOk_dict, vq_eq_bl, vq_eq_int, vq_ne_bl, vq_ne_int, vq_len_lst, vq_len_tup, vq_len_str, vq_c_lt, vq_c_le, vq_c_gt, vq_c_ge, vq_a_int, vq_a_str, vq_a_lst, vq_a_tup, vq_s_int, vq_ix_lst, vq_ix_tup, vq_m_int, vq_o_int, vq_f_int, vq_int_int, vq_int_bl, vq_str_int, vq_ix_str, vq_sl_strD, vq_sl_lstD, vq_sl_tupD]
    refine h i a b e1 e2 _ ⟨by rw [hr, List.length_replicate]; omega, hk _ ?_⟩
    rw [hr, ← List.replicate_succ']
theorem same_lst {n : Nat} {x y : List D} (hl : x.length = y.length) (hz : x.length ≤ sizeLine) (h : ∀ (i : Nat) (d e : D), x[i]? = some d → y[i]? = some e → SameT K g n d e) : SameT K g (n + 1) (.lst x) (.lst y) := fun P hP => by
  refine ⟨rfl, ?_⟩
  simp only [body, dNext, dSeq, dRet, dRetN, dDrop, dIf, dSet, dSetO, dOwn, dRel, dApp, dAsg, dPar, dFor, fVar, fC, fNil, fCons, fCall, fCB, fOp, fTst, fAnd, fOr, fNot, fAndV, fOrV, fNotV, fIf, fTup, fLst, fCh, fSl, fNoP, fPart, fSeqL, fSeqT, fSigns, fRng1, fZip, fLc, fS1, fYes, opn, bln, Sl.op, Sl.bl, OD.d, List.map_cons, List.map_nil, List.append_nil, List.nil_append, List.cons_append, List.replicate, List.length_cons, List.length_nil, List.getElem?_cons_zero, List.getElem?_cons_succ, List.set_cons_zero, List.set_cons_succ, Nat.reduceAdd, Nat.reduceSub, if_true, ite_true, if_false, Bool.false_eq_true, Bool.not_true, Bool.not_false, true_and, wipeE, gtName, gtTup, gtCons, gtNil, setE, setD, reduceIte, Bool.or_true, Bool.true_or, Bool.or_false, Bool.false_or, Bool.and_true, Bool.and_false, Bool.or_self, Bool.true_and, Bool.false_and, beq_self_eq_true, vq_isi_non, vq_isiT_non, vq_is_non, vq_isN_non, vq_ty_non_bool, vq_ty_non_int, vq_ty_non_str, vq_ty_non_list, vq_ty_non_tuple, vq_ty_non_dict, vq_isi_bl, vq_isiT_bl, vq_is_bl, vq_isN_bl, vq_ty_bl_bool, vq_ty_bl_int, vq_ty_bl_str, vq_ty_bl_list, vq_ty_bl_tuple, vq_ty_bl_dict, vq_isi_int, vq_isiT_int, vq_is_int, vq_isN_int, vq_ty_int_bool, vq_ty_int_int, vq_ty_int_str, vq_ty_int_list, vq_ty_int_tuple, vq_ty_int_dict, vq_isi_str, vq_isiT_str, vq_is_str, vq_isN_str, vq_ty_str_bool, vq_ty_str_int, vq_ty_str_str, vq_ty_str_list, vq_ty_str_tuple, vq_ty_str_dict, vq_isi_lst, vq_isiT_lst, vq_is_lst, vq_isN_lst, vq_ty_lst_bool, vq_ty_lst_int, vq_ty_lst_str, vq_ty_lst_list, vq_ty_lst_tuple, vq_ty_lst_dict, vq_isi_tup, vq_isiT_tup, vq_is_tup, vq_isN_tup, vq_ty_tup_bool, vq_ty_tup_int, vq_ty_tup_str, vq_ty_tup_list, vq_ty_tup_tuple, vq_ty_tup_dict, vq_tyOk_bool, vq_tyOk_int, vq_tyOk_str, vq_tyOk_list, vq_tyOk_tuple, vq_tyOk_dict, vq_eq_bl, vq_eq_int, vq_ne_bl, vq_ne_int, vq_len_lst, vq_len_tup, vq_len_str, vq_c_lt, vq_c_le, vq_c_gt, vq_c_ge, vq_a_int, vq_a_str, vq_a_lst, vq_a_tup, vq_s_int, vq_ix_lst, vq_ix_tup, vq_m_int, vq_o_int, vq_f_int, vq_int_int, vq_int_bl, vq_str_int, vq_ix_str, vq_sl_strD, vq_sl_lstD, vq_sl_tupD]
  rw [hl]
  simp only [body, dNext, dSeq, dRet, dRetN, dDrop, dIf, dSet, dSetO, dOwn, dRel, dApp, dAsg, dPar, dFor, fVar, fC, fNil, fCons, fCall, fCB, fOp, fTst, fAnd, fOr, fNot, fAndV, fOrV, fNotV, fIf, fTup, fLst, fCh, fSl, fNoP, fPart, fSeqL, fSeqT, fSigns, fRng1, fZip, fLc, fS1, fYes, opn, bln, Sl.op, Sl.bl, OD.d, List.map_cons, List.map_nil, List.append_nil, List.nil_append, List.cons_append, List.replicate, List.length_cons, List.length_nil, List.getElem?_cons_zero, List.getElem?_cons_succ, List.set_cons_zero, List.set_cons_succ, Nat.reduceAdd, Nat.reduceSub, if_true, ite_true, if_false, Bool.false_eq_true, Bool.not_true, Bool.not_false, true_and, wipeE, gtName, gtTup, gtCons, gtNil, setE, setD, reduceIte, Bool.or_true, Bool.true_or, Bool.or_false, Bool.false_or, Bool.and_true, Bool.and_false, Bool.or_self, Bool.true_and, Bool.false_and, beq_self_eq_true, vq_isi_non, vq_isiT_non, vq_is_non, vq_isN_non, vq_ty_non_bool, vq_ty_non_int, vq_ty_non_str, vq_ty_non_list, vq_ty_non_tuple, vq_ty_non_dict, vq_isi_bl, vq_isiT_bl, vq_is_bl, vq_isN_bl, vq_ty_bl_bool, vq_ty_bl_int, vq_ty_bl_str, vq_ty_bl_list, vq_ty_bl_tuple, vq_ty_bl_dict, vq_isi_int, vq_isiT_int, vq_is_int, vq_isN_int, vq_ty_int_bool, vq_ty_int_int, vq_ty_int_str, vq_ty_int_list, vq_ty_int_tuple, vq_ty_int_dict, vq_isi_str, vq_isiT_str, vq_is_str, vq_isN_str, vq_ty_str_bool, vq_ty_str_int, vq_ty_str_str, vq_ty_str_list, vq_ty_str_tuple, vq_ty_str_dict, vq_isi_lst, vq_isiT_lst, vq_is_lst, vq_isN_lst, vq_ty_lst_bool, vq_ty_lst_int, vq_ty_lst_str, vq_ty_lst_list, vq_ty_lst_tuple, vq_ty_lst_dict, vq_isi_tup, vq_isiT_tup, vq_is_tup, vq_isN_tup, vq_ty_tup_bool, vq_ty_tup_int, vq_ty_tup_str, vq_ty_tup_list, vq_ty_tup_tuple, vq_ty_tup_dict, vq_tyOk_bool, vq_tyOk_int, vq_tyOk_str, vq_tyOk_list, vq_tyOk_tuple, vq_tyOk_dict, vq_eq_bl, vq_eq_int, vq_ne_bl, vq_ne_int, vq_len_lst, vq_len_tup, vq_len_str, vq_c_lt, vq_c_le, vq_c_gt, vq_c_ge, vq_a_int, vq_a_str, vq_a_lst, vq_a_tup, vq_s_int, vq_ix_lst, vq_ix_tup, vq_m_int, vq_o_int, vq_f_int, vq_int_int, vq_int_bl, vq_str_int, vq_ix_str, vq_sl_strD, vq_sl_lstD, vq_sl_tupD]
  exact ⟨sz2, comp_same hz h rfl fun k => ⟨_, bls_rep k, by simpa using hP⟩⟩
theorem same_tup {n : Nat} {x y : List D} (hl : x.length = y.length) (hz : x.length ≤ sizeLine) (h : ∀ (i : Nat) (d e : D), x[i]? = some d → y[i]? = some e → SameT K g n d e) : SameT K g (n + 1) (.tup x) (.tup y) := fun P hP => by
  refine ⟨rfl, ?_⟩
  simp only [body, dNext, dSeq, dRet, dRetN, dDrop, dIf, dSet, dSetO, dOwn, dRel, dApp, dAsg, dPar, dFor, fVar, fC, fNil, fCons, fCall, fCB, fOp, fTst, fAnd, fOr, fNot, fAndV, fOrV, fNotV, fIf, fTup, fLst, fCh, fSl, fNoP, fPart, fSeqL, fSeqT, fSigns, fRng1, fZip, fLc, fS1, fYes, opn, bln, Sl.op, Sl.bl, OD.d, List.map_cons, List.map_nil, List.append_nil, List.nil_append, List.cons_append, List.replicate, List.length_cons, List.length_nil, List.getElem?_cons_zero, List.getElem?_cons_succ, List.set_cons_zero, List.set_cons_succ, Nat.reduceAdd, Nat.reduceSub, if_true, ite_true, if_false, Bool.false_eq_true, Bool.not_true, Bool.not_false, true_and, wipeE, gtName, gtTup, gtCons, gtNil, setE, setD, reduceIte, Bool.or_true, Bool.true_or, Bool.or_false, Bool.false_or, Bool.and_true, Bool.and_false, Bool.or_self, Bool.true_and, Bool.false_and, beq_self_eq_true, vq_isi_non, vq_isiT_non, vq_is_non, vq_isN_non, vq_ty_non_bool, vq_ty_non_int, vq_ty_non_str, vq_ty_non_list, vq_ty_non_tuple, vq_ty_non_dict, vq_isi_bl, vq_isiT_bl, vq_is_bl, vq_isN_bl, vq_ty_bl_bool, vq_ty_bl_int, vq_ty_bl_str, vq_ty_bl_list, vq_ty_bl_tuple, vq_ty_bl_dict, vq_isi_int, vq_isiT_int, vq_is_int, vq_isN_int, vq_ty_int_bool, vq_ty_int_int, vq_ty_int_str, vq_ty_int_list, vq_ty_int_tuple, vq_ty_int_dict, vq_isi_str, vq_isiT_str, vq_is_str, vq_isN_str, vq_ty_str_bool, vq_ty_str_int, vq_ty_str_str, vq_ty_str_list, vq_ty_str_tuple, vq_ty_str_dict, vq_isi_lst, vq_isiT_lst, vq_is_lst, vq_isN_lst, vq_ty_lst_bool, vq_ty_lst_int, vq_ty_lst_str, vq_ty_lst_list, vq_ty_lst_tuple, vq_ty_lst_dict, vq_isi_tup, vq_isiT_tup, vq_is_tup, vq_isN_tup, vq_ty_tup_bool, vq_ty_tup_int, vq_ty_tup_str, vq_ty_tup_list, vq_ty_tup_tuple, vq_ty_tup_dict, vq_tyOk_bool, vq_tyOk_int, vq_tyOk_str, vq_tyOk_list, vq_tyOk_tuple, vq_tyOk_dict, vq_eq_bl, vq_eq_int, vq_ne_bl, vq_ne_int, vq_len_lst, vq_len_tup, vq_len_str, vq_c_lt, vq_c_le, vq_c_gt, vq_c_ge, vq_a_int, vq_a_str, vq_a_lst, vq_a_tup, vq_s_int, vq_ix_lst, vq_ix_tup, vq_m_int, vq_o_int, vq_f_int, vq_int_int, vq_int_bl, vq_str_int, vq_ix_str, vq_sl_strD, vq_sl_lstD, vq_sl_tupD]
  rw [hl]
  simp only [body, dNext, dSeq, dRet, dRetN, dDrop, dIf, dSet, dSetO, dOwn, dRel, dApp, dAsg, dPar, dFor, fVar, fC, fNil, fCons, fCall, fCB, fOp, fTst, fAnd, fOr, fNot, fAndV, fOrV, fNotV, fIf, fTup, fLst, fCh, fSl, fNoP, fPart, fSeqL, fSeqT, fSigns, fRng1, fZip, fLc, fS1, fYes, opn, bln, Sl.op, Sl.bl, OD.d, List.map_cons, List.map_nil, List.append_nil, List.nil_append, List.cons_append, List.replicate, List.length_cons, List.length_nil, List.getElem?_cons_zero, List.getElem?_cons_succ, List.set_cons_zero, List.set_cons_succ, Nat.reduceAdd, Nat.reduceSub, if_true, ite_true, if_false, Bool.false_eq_true, Bool.not_true, Bool.not_false, true_and, wipeE, gtName, gtTup, gtCons, gtNil, setE, setD, reduceIte, Bool.or_true, Bool.true_or, Bool.or_false, Bool.false_or, Bool.and_true, Bool.and_false, Bool.or_self, Bool.true_and, Bool.false_and, beq_self_eq_true, vq_isi_non, vq_isiT_non, vq_is_non, vq_isN_non, vq_ty_non_bool, vq_ty_non_int, vq_ty_non_str, vq_ty_non_list, vq_ty_non_tuple, vq_ty_non_dict, vq_isi_bl, vq_isiT_bl, vq_is_bl, vq_isN_bl, vq_ty_bl_bool, vq_ty_bl_int, vq_ty_bl_str, vq_ty_bl_list, vq_ty_bl_tuple, vq_ty_bl_dict, vq_isi_int, vq_isiT_int, vq_is_int, vq_isN_int, vq_ty_int_bool, vq_ty_int_int, vq_ty_int_str, vq_ty_int_list, vq_ty_int_tuple, vq_ty_int_dict, vq_isi_str, vq_isiT_str, vq_is_str, vq_isN_str, vq_ty_str_bool, vq_ty_str_int, vq_ty_str_str, vq_ty_str_list, vq_ty_str_tuple, vq_ty_str_dict, vq_isi_lst, vq_isiT_lst, vq_is_lst, vq_isN_lst, vq_ty_lst_bool, vq_ty_lst_int, vq_ty_lst_str, vq_ty_lst_list, vq_ty_lst_tuple, vq_ty_lst_dict, vq_isi_tup, vq_isiT_tup, vq_is_tup, vq_isN_tup, vq_ty_tup_bool, vq_ty_tup_int, vq_ty_tup_str, vq_ty_tup_list, vq_ty_tup_tuple, vq_ty_tup_dict, vq_tyOk_bool, vq_tyOk_int, vq_tyOk_str, vq_tyOk_list, vq_tyOk_tuple, vq_tyOk_dict, vq_eq_bl, vq_eq_int, vq_ne_bl, vq_ne_int, vq_len_lst, vq_len_tup, vq_len_str, vq_c_lt, vq_c_le, vq_c_gt, vq_c_ge, vq_a_int, vq_a_str, vq_a_lst, vq_a_tup, vq_s_int, vq_ix_lst, vq_ix_tup, vq_m_int, vq_o_int, vq_f_int, vq_int_int, vq_int_bl, vq_str_int, vq_ix_str, vq_sl_strD, vq_sl_lstD, vq_sl_tupD]
  exact ⟨sz2, comp_same hz h rfl fun k => ⟨_, bls_rep k, by simpa using hP⟩⟩
def rfd : Nat → D → Bool
  | 0, _ => false
  | _ + 1, .non => true
  | _ + 1, .bl _ => true
  | _ + 1, .int _ => true
  | _ + 1, .str x => SeqAt.shaped (.str x)
  | n + 1, .lst ds => decide (ds.length ≤ 1000) && ds.all (rfd n)
  | n + 1, .tup ds => decide (ds.length ≤ 1000) && ds.all (rfd n)
  | _ + 1, _ => false
theorem same_refl : ∀ {n : Nat} {d : D}, rfd n d = true → SameT K g n d d
  | 0, _, h => by cases h
  | n + 1, .non, h => fun P p => same_non p
  | n + 1, .bl b, h => fun P p => same_bl (by simpa using p)
  | n + 1, .int i, h => fun P p => same_int (by simpa using p)
  | n + 1, .str x, h => fun P p => same_str_eq (by simpa [rfd] using h) p
  | n + 1, .lst ds, h => by
    simp only [rfd, Bool.and_eq_true, decide_eq_true_eq, List.all_eq_true] at h
    refine same_lst rfl (Nat.le_trans h.1 (by decide +kernel)) fun i d e h1 h2 => ?_
    rw [h1] at h2
    cases h2
    exact same_refl (h.2 d (List.mem_of_getElem? h1))
  | n + 1, .tup ds, h => by
    simp only [rfd, Bool.and_eq_true, decide_eq_true_eq, List.all_eq_true] at h
    refine same_tup rfl (Nat.le_trans h.1 (by decide +kernel)) fun i d e h1 h2 => ?_
    rw [h1] at h2
    cases h2
    exact same_refl (h.2 d (List.mem_of_getElem? h1))
  | n + 1, .dct _ _, h => by cases h
  | n + 1, .obj _ _ _, h => by cases h
  | n + 1, .con _, h => by cases h
end
end PL

set_option maxHeartbeats 1000000
/-! Plain lemmas on texts and comprehensions. -/
namespace PL
open PySem PySem.Spec L2
open TL (tl tl_append tl_join joinL)

theorem len_tl (x : Str) : x.length = (tl x).length := by
  show x.cps.size = x.cps.toList.length
  rw [Array.length_toList]
theorem str_ext {x y : Str} (h : tl x = tl y) : x = y := by
  obtain ⟨x⟩ := x
  obtain ⟨y⟩ := y
  have : x = y := Array.toList_inj.mp h
  rw [this]
theorem tl_cut (z : Str) (lo hi : Option Int) : tl (cutS z lo hi) = ((tl z).drop (HT.sIx (tl z).length 0 lo)).take (HT.sIx (tl z).length (tl z).length hi - HT.sIx (tl z).length 0 lo) := by
  rw [← len_tl]
  rfl
theorem tl_cut_to (z : Str) (k : Nat) : tl (cutS z none (some (k : Int))) = (tl z).take k := by
  rw [tl_cut, HT.sIx_nat, HT.sIx_none, List.drop_zero, Nat.sub_zero]
  by_cases h : k ≤ (tl z).length
  · rw [Nat.min_eq_left h]
  · rw [Nat.min_eq_right (by omega), List.take_length, List.take_of_length_le (by omega)]
theorem tl_cut_from (z : Str) (k : Nat) : tl (cutS z (some (k : Int)) none) = (tl z).drop k := by
  rw [tl_cut, HT.sIx_nat, HT.sIx_none]
  by_cases h : k ≤ (tl z).length
  · rw [Nat.min_eq_left h, List.take_of_length_le (by rw [List.length_drop]; omega)]
  · rw [Nat.min_eq_right (by omega), List.drop_length, List.drop_eq_nil_of_le (by omega)]
    simp
theorem tl_cut_toI (z : Str) {k : Int} (h : 0 ≤ k) : tl (cutS z none (some k)) = (tl z).take k.toNat := by
  rw [← tl_cut_to]
  congr
  omega
theorem tl_cut_fromI (z : Str) {k : Int} (h : 0 ≤ k) : tl (cutS z (some k) none) = (tl z).drop k.toNat := by
  rw [← tl_cut_from]
  congr
  omega
theorem tl_join0 : ∀ ys : List Str, tl (Str.join "" ys) = (ys.map tl).flatten := fun ys => by
  rw [tl_join]
  have : tl ("" : Str) = [] := rfl
  rw [this]
  induction ys with
  | nil => rfl
  | cons y ys ih =>
    cases ys with
    | nil => simp [joinL]
    | cons z zs =>
      rw [List.map_cons, List.flatten_cons, ← ih]
      simp [joinL]
theorem in_sign {c : Nat} {y : Str} {P : D → Prop} : dIn false (.str ⟨#[c]⟩) (.str y) P = P (.bl (decide (c ∈ tl y))) := by
  show P (.bl (!(Builtin.Str.occurrences y ⟨#[c]⟩ 0 y.length 1).isEmpty)) = _
  rw [PySem.StrLaws.found_one]
theorem notin_sign {c : Nat} {y : Str} {P : D → Prop} : dIn true (.str ⟨#[c]⟩) (.str y) P = P (.bl (!decide (c ∈ tl y))) := by
  show P (.bl (!(!(Builtin.Str.occurrences y ⟨#[c]⟩ 0 y.length 1).isEmpty))) = _
  rw [PySem.StrLaws.found_one]
/-- each item gives one thing -/
theorem compL_map {G : D → Option Bs} {E : FE} {ρ : Rho} {P : List D → Prop} {f : D → D} (ds : List D) (hz : ds.length ≤ sizeLine) (h : ∀ d ∈ ds, ∀ k : D → Prop, k (f d) → match G d with
      | some bs => E (setE ρ bs) k
      | none => False) (hP : P (ds.map f)) : compL G fYes E ρ ds [] P := by
  refine compL_rule ds (fun i acc => acc = (ds.take i).map f) (fun i d acc k hd hr hk => ?_) rfl fun acc hr => by rw [hr, List.take_length]; exact hP
  have hl := (List.getElem?_eq_some_iff.mp hd).1
  have q := h d (List.mem_of_getElem? hd) fun y => acc.length < sizeLine ∧ k (acc ++ [y])
  have q2 := q ⟨by rw [hr, List.length_map, List.length_take]; omega, hk _ (by rw [hr, take_snoc hd, List.map_append]; rfl)⟩
  split
  · rename_i bs e
    rw [e] at q2
    exact q2
  · rename_i e
    rw [e] at q2
    exact q2
/-- each item gives something of R -/
theorem compL_all {G : D → Option Bs} {E : FE} {ρ : Rho} {P : List D → Prop} {R : Nat → D → Prop} (ds : List D) (hz : ds.length ≤ sizeLine) (h : ∀ i d, ds[i]? = some d → ∀ k : D → Prop, (∀ y, R i y → k y) → match G d with
      | some bs => E (setE ρ bs) k
      | none => False) (hP : ∀ acc : List D, acc.length = ds.length → (∀ (i : Nat) y, acc[i]? = some y → R i y) → P acc) : compL G fYes E ρ ds [] P := by
  refine compL_rule ds (fun i acc => acc.length = i ∧ ∀ (j : Nat) y, acc[j]? = some y → R j y) (fun i d acc k hd hr hk => ?_) ⟨rfl, fun j y e => by simp at e⟩ fun acc hr => hP acc hr.1 hr.2
  have hl := (List.getElem?_eq_some_iff.mp hd).1
  have q2 := h i d hd (fun y => acc.length < sizeLine ∧ k (acc ++ [y])) fun y hy => ⟨by omega, hk _ ⟨by rw [List.length_append, hr.1]; rfl, fun j z e => by
    rw [List.getElem?_append] at e
    split at e
    · exact hr.2 j z e
    · rename_i hj
      have : j = i := by
        have := (List.getElem?_eq_some_iff.mp e).1
        simp at this
        omega
      subst this
      rw [hr.1, Nat.sub_self] at e
      cases e
      exact hy⟩⟩
  split
  · rename_i bs e
    rw [e] at q2
    exact q2
  · rename_i e
    rw [e] at q2
    exact q2
/-- each item that passes gives one thing -/
theorem compL_filter {G : D → Option Bs} {A : FT} {E : FE} {ρ : Rho} {P : List D → Prop} {f : D → D} {t : D → Bool} (ds : List D) (hz : ds.length ≤ sizeLine) (h : ∀ d ∈ ds, match G d with
      | some bs => (∀ k : Bool → Prop, k (t d) → A (setE ρ bs) k) ∧ ∀ k : D → Prop, k (f d) → E (setE ρ bs) k
      | none => False) (hP : P ((ds.filter t).map f)) : compL G A E ρ ds [] P := by
  refine compL_rule ds (fun i acc => acc = ((ds.take i).filter t).map f) (fun i d acc k hd hr hk => ?_) rfl fun acc hr => by rw [hr, List.take_length]; exact hP
  have hl := (List.getElem?_eq_some_iff.mp hd).1
  have q := h d (List.mem_of_getElem? hd)
  split
  · rename_i bs e
    rw [e] at q
    obtain ⟨q1, q2⟩ := q
    refine q1 _ ?_
    cases ht : t d with
    | true =>
      rw [if_pos rfl]
      refine q2 _ ⟨?_, hk _ ?_⟩
      · rw [hr, List.length_map]
        have := List.length_filter_le t (ds.take i)
        rw [List.length_take] at this
        omega
      · rw [hr, take_snoc hd, List.filter_append, List.map_append]
        simp [ht]
    | false =>
      rw [if_neg (by simp)]
      refine hk _ ?_
      rw [hr, take_snoc hd, List.filter_append, List.map_append]
      simp [ht]
  · rename_i e
    rw [e] at q
    exact q
theorem signs_len (x : Str) : (signs x).length = x.length := by
  unfold signs
  rw [List.length_map, len_tl]
theorem signs_mem {x : Str} {d : D} (h : d ∈ signs x) : ∃ c ∈ tl x, d = .str ⟨#[c]⟩ := by
  obtain ⟨c, h1, h2⟩ := List.mem_map.mp h
  exact ⟨c, h1, h2.symm⟩
theorem ints_len (lo : Int) (n : Nat) : (intsD lo n).length = n := by
  unfold intsD
  rw [List.length_map, List.length_range]
theorem ints_get {lo : Int} {n i : Nat} {d : D} (h : (intsD lo n)[i]? = some d) : i < n ∧ d = .int (lo + (i : Int)) := by
  unfold intsD at h
  rw [List.getElem?_map] at h
  by_cases hi : i < n
  · rw [List.getElem?_range hi] at h
    cases h
    exact ⟨hi, rfl⟩
  · rw [List.getElem?_eq_none (by simpa using hi)] at h
    cases h
end PL

set_option maxHeartbeats 1000000
/-! One rule a construct of the data; st steps by them. -/
namespace PL
open PySem PySem.Spec L2
section
variable {ρ : Rho} {P : D → Prop} {g : GG} {s : DSt} {De : DEnds}
theorem i_c {d : D} (h : P d) : fC d ρ P := h
theorem i_op {f : D → D → (D → Prop) → Prop} {F G : FE} (h : F ρ fun x => G ρ fun y => f x y P) : fOp f F G ρ P := h
theorem i_tst {F : FE} {B : Bool → Prop} (h : F ρ fun d => match d with | .bl b => B b | _ => False) : fTst F ρ B := h
theorem i_and {S T : FT} {B : Bool → Prop} (h : S ρ fun b => if b = true then T ρ B else B false) : fAnd S T ρ B := h
theorem i_or {S T : FT} {B : Bool → Prop} (h : S ρ fun b => if b = true then B true else T ρ B) : fOr S T ρ B := h
theorem i_not {S : FT} {B : Bool → Prop} (h : S ρ fun b => B (!b)) : fNot S ρ B := h
theorem i_andV {F G : FE} (h : F ρ fun d => match d with | .bl true => G ρ P | .bl false => P (.bl false) | _ => False) : fAndV F G ρ P := h
theorem i_orV {F G : FE} (h : F ρ fun d => match d with | .bl true => P (.bl true) | .bl false => G ρ P | _ => False) : fOrV F G ρ P := h
theorem i_notV {F : FE} (h : F ρ fun d => match d with | .bl b => P (.bl (!b)) | _ => False) : fNotV F ρ P := h
theorem i_if {S : FT} {F G : FE} (h : S ρ fun b => if b = true then F ρ P else G ρ P) : fIf S F G ρ P := h
theorem i_nil {Q : List D → Prop} (h : Q []) : fNil ρ Q := h
theorem i_cons {F : FE} {S : FA} {Q : List D → Prop} (h : F ρ fun d => S ρ fun ds => Q (d :: ds)) : fCons F S ρ Q := h
theorem i_tup {S : FA} (h : S ρ fun ds => ds.length ≤ sizeLine ∧ P (.tup ds)) : fTup S ρ P := h
theorem i_lst {S : FA} (h : S ρ fun ds => ds.length ≤ sizeLine ∧ P (.lst ds)) : fLst S ρ P := h
theorem i_cb {f : List D → (D → Prop) → Prop} {S : FA} (h : S ρ fun ds => f ds P) : fCB f S ρ P := h
theorem i_call {f : GG → List D → (D → Prop) → Prop} {S : FA} (h : S ρ fun ds => f g ds P) : fCall f g S [] ρ P := by simpa only [fCall, List.append_nil] using h
theorem i_ch {f h' : D → D → (D → Prop) → Prop} {F G H : FE} (h : F ρ fun x => G ρ fun y => f x y fun z => match z with | .bl true => H ρ fun w => h' y w P | .bl false => P (.bl false) | _ => False) : fCh f h' F G H ρ P := h
theorem i_sl {F : FE} {L U : FO} (h : F ρ fun x => L ρ fun lo => U ρ fun hi => dSl x lo hi P) : fSl F L U ρ P := h
theorem i_noP {O : Option Int → Prop} (h : O none) : fNoP ρ O := h
theorem i_part {F : FE} {O : Option Int → Prop} (h : F ρ fun d => match d with | .int i => O (some i) | _ => False) : fPart F ρ O := h
theorem i_s1 {f : Str → D → (D → Prop) → Prop} {F G : FE} (h : F ρ fun x => match x with | .str z => G ρ fun y => f z y P | _ => False) : fS1 f F G ρ P := h
theorem i_seqL {F : FE} {Q : List D → Prop} (h : F ρ fun d => match d with | .lst ds => Q ds | _ => False) : fSeqL F ρ Q := h
theorem i_seqT {F : FE} {Q : List D → Prop} (h : F ρ fun d => match d with | .tup ds => Q ds | _ => False) : fSeqT F ρ Q := h
theorem i_signs {F : FE} {Q : List D → Prop} (h : F ρ fun d => match d with | .str x => Q (signs x) | _ => False) : fSigns F ρ Q := h
theorem i_rng1 {S : FA} {Q : List D → Prop} (h : S ρ fun ds => match ds with | [.int j] => j < 2 ^ 62 ∧ -(2 ^ 62) ≤ j ∧ Q (intsD 0 j.toNat) | _ => False) : fRng1 S ρ Q := h
theorem i_zip {S : FA} {Q : List D → Prop} (h : S ρ fun ds => match ds with | [.lst xs, .lst ys] => Q (zipD xs ys) | [.tup xs, .tup ys] => Q (zipD xs ys) | _ => False) : fZip S ρ Q := h
theorem i_lc {F : FA} {G : D → Option Bs} {A : FT} {E : FE} {vs : List Nat} (h : F ρ fun ds => compL G A E (wipeE ρ vs) ds [] fun acc => P (.lst acc)) : fLc F G A E vs ρ P := h
theorem i_yes {B : Bool → Prop} (h : B true) : fYes ρ B := h
theorem i_next  (h : De.nx s) : dNext De s := h
theorem i_seq {T U : DTS} (h : T { De with nx := U De } s) : dSeq T U De s := h
theorem i_ret {F : FE} (h : F (opn s) De.rt) : dRet F De s := h
theorem i_retN  (h : De.rt .non) : dRetN De s := h
theorem i_drop {F : FE} (h : F (opn s) fun _ => De.nx s) : dDrop F De s := h
theorem i_ifS {A : FT} {T U : DTS} (h : A (opn s) fun b => if b = true then T De s else U De s) : dIf A T U De s := h
theorem i_set {i : Nat} {F : FE} (h : F (bln s) fun d => De.nx (s.set i (.pu d))) : dSet i F De s := h
theorem i_setO {i : Nat} {F : FE} (h : F (opn s) fun d => isSc d = true ∧ De.nx (s.set i (.pu d))) : dSetO i F De s := h
theorem i_own {i : Nat} {S : FA} (h : S (bln s) fun ds => ds.length ≤ sizeLine ∧ De.nx (s.set i (.ow (.lst ds)))) : dOwn i S De s := h
theorem i_asg {G : D → Option Bs} {F : FE} (h : F (bln s) fun d => match G d with | some bs => De.nx (setD s bs) | none => False) : dAsg G F De s := h
theorem i_par {i j : Nat} {S : FA} (h : S (bln s) fun ds => match ds with | [d, e] => De.nx ((s.set i (.pu d)).set j (.pu e)) | _ => False) : dPar i j S De s := h
theorem i_for {F : FA} {G : D → Option Bs} {B : DTS} (h : F (bln s) fun ds => forL G B De ds s) : dFor F G B De s := h
theorem i_ifT {a b : Prop} (h : a) : if true = true then a else b := by rw [if_pos rfl]; exact h
theorem i_ifF {a b : Prop} (h : b) : if false = true then a else b := by rw [if_neg (by simp)]; exact h
theorem i_var {i : Nat} {d : D} (e : ρ[i]? = some (some d)) (h : P d) : fVar i ρ P := by
  unfold fVar
  rw [e]
  exact h
theorem i_app {i : Nat} {F : FE} {ds : List D} (e : s[i]? = some (.ow (.lst ds))) (h : F (bln s) fun d => ds.length < sizeLine ∧ De.nx (s.set i (.ow (.lst (ds ++ [d]))))) : dApp i F De s := by
  unfold dApp
  rw [e]
  exact h
theorem i_rel {i : Nat} {T : DTS} {o : OD} (e : s[i]? = some (.ow o)) (h : T De (s.set i (.pu o.d))) : dRel i T De s := by
  unfold dRel
  rw [e]
  exact h
theorem i_rel0 {i : Nat} {T : DTS} {x : Sl} (e : s[i]? = some x) (hx : ∀ o, x ≠ .ow o) (h : T De s) : dRel i T De s := by
  unfold dRel
  rw [e]
  split
  · rename_i o e2
    cases e2
    exact absurd rfl (hx o)
  · exact h
theorem i_szl {n : Nat} {a : Prop} (hn : n ≤ 1000) (h : a) : n ≤ sizeLine ∧ a := ⟨Nat.le_trans hn (by decide +kernel), h⟩
theorem i_tyok {b : String} {a : Prop} (hb : tyOk b = true) (h : a) : tyOk b = true ∧ a := ⟨hb, h⟩
end
end PL

set_option maxHeartbeats 4000000
namespace K72
open PySem PySem.Spec L2 PL
open PyProof.Rows (envOfC)
def top (i : Nat) : Stmt := PySem.Challenge.pw_shutlines_k72_names_and_kinds.main.body.getD i (.Pass ⟨0, 0, 0, 0⟩)
abbrev s_is_name : Stmt := top 9
theorem sc_is_name : FnScope ["value", "letter"] ["value"] (defScope s_is_name) := ⟨rfl, rfl, rfl, by decide +kernel, rfl, by decide +kernel, by decide +kernel⟩
abbrev s__law_feed : Stmt := top 33
theorem sc__law_feed : FnScope ["_law_script", "_law_cells", "_law_mark", "_law_cell"] ["_law_script"] (defScope s__law_feed) := ⟨rfl, rfl, rfl, by decide +kernel, rfl, by decide +kernel, by decide +kernel⟩
abbrev s__law_take : Stmt := top 34
theorem sc__law_take : FnScope ["_law_feed_here", "_law_many", "_law_cell", "_law_early", "_law_late", "_law_drawn"] ["_law_feed_here", "_law_many"] (defScope s__law_take) := ⟨rfl, rfl, rfl, by decide +kernel, rfl, by decide +kernel, by decide +kernel⟩
abbrev s__law_of : Stmt := top 35
theorem sc__law_of : FnScope ["_law_feed_here", "_law_items"] ["_law_feed_here", "_law_items"] (defScope s__law_of) := ⟨rfl, rfl, rfl, by decide +kernel, rfl, by decide +kernel, by decide +kernel⟩
abbrev s__law_same : Stmt := top 36
theorem sc__law_same : FnScope ["_law_found", "_law_due", "_law_key", "_law_one", "_law_two"] ["_law_found", "_law_due"] (defScope s__law_same) := ⟨rfl, rfl, rfl, by decide +kernel, rfl, by decide +kernel, by decide +kernel⟩
abbrev s__law_new_names : Stmt := top 37
theorem sc__law_new_names : FnScope ["_law_feed_here", "_law_many", "_law_letters", "_law_stem", "_law_at", "_law_first", "_law_k"] ["_law_feed_here", "_law_many"] (defScope s__law_new_names) := ⟨rfl, rfl, rfl, by decide +kernel, rfl, by decide +kernel, by decide +kernel⟩
abbrev s__law_odd : Stmt := top 38
theorem sc__law_odd : FnScope ["_law_feed_here"] ["_law_feed_here"] (defScope s__law_odd) := ⟨rfl, rfl, rfl, by decide +kernel, rfl, by decide +kernel, by decide +kernel⟩
abbrev s_law : Stmt := top 39
theorem sc_law : FnScope ["_law_script", "_law_feed_here", "_law_letters", "_law_turn", "_law_word", "_law_at", "_law_sign", "_law_bent", "_law_good", "_law_found", "_law_due", "_law_letter"] ["_law_script"] (defScope s_law) := ⟨rfl, rfl, rfl, by decide +kernel, rfl, by decide +kernel, by decide +kernel⟩
def m_is_name (K : PySem.W.Frag) : GG → List D → (D → Prop) → Prop := fun g => body 1 2 ((dSeq (dIf (fOr (fNot (fTst (fCB (bIsi "str") (fCons (fVar 0) (fCons (fC (.con (.ty "str"))) fNil))))) (fNot (fTst (fCh dLe dLe (fC (.int 1)) (fCB bLen (fCons (fVar 0) fNil)) (fC (.int 6)))))) (dRet (fC (.bl false))) dNext)
    (dRet (fCB bAll (fCons (fLc (fSigns (fVar 0)) (gtName 1) fYes (fOp (dIn false) (fVar 1) (fC (.str "abcdefghijklmnopqrstuvwxyz"))) [1]) fNil)))))
abbrev m__law_take (K : PySem.W.Frag) := m_take
abbrev m__law_of (K : PySem.W.Frag) := PL.mOf K
abbrev m__law_same (K : PySem.W.Frag) (n : Nat) := PL.mSame K n
def m__law_new_names (K : PySem.W.Frag) : GG → List D → (D → Prop) → Prop := fun g => body 2 7 ((dSeq (dSet 2 (fC (.str "abcdefghijklmnopqrstuvwxyz")))
    (dSeq (dSet 3 (fS1 dJoin (fC (.str "")) (fLc (fRng1 (fCons (fCall (m__law_take K) g (fCons (fVar 0) (fCons (fC (.int 5)) fNil)) []) fNil)) (gtName 6) fYes (fCall (m__law_of K) g (fCons (fVar 0) (fCons (fVar 2) fNil)) []) [6])))
    (dSeq (dAsg (gtTup 2 (gtCons (gtName 4) (gtCons (gtName 5) gtNil))) (fTup (fCons (fCall (m__law_take K) g (fCons (fVar 0) (fCons (fOp dAdd (fCB bLen (fCons (fVar 3) fNil)) (fC (.int 1))) fNil)) []) (fCons (fCall (m__law_take K) g (fCons (fVar 0) (fCons (fC (.int 26)) fNil)) []) fNil))))
    (dRet (fLc (fRng1 (fCons (fVar 1) fNil)) (gtName 6) fYes (fOp dAdd (fOp dAdd (fSl (fVar 3) fNoP (fPart (fVar 4))) (fOp dIx (fVar 2) (fOp dMod (fCB bInt (fCons (fOp dAdd (fVar 5) (fOp dMul (fC (.int 7)) (fVar 6))) fNil)) (fC (.int 26))))) (fSl (fVar 3) (fPart (fVar 4)) fNoP)) [6]))))))
def m__law_odd (K : PySem.W.Frag) : GG → List D → (D → Prop) → Prop := fun g => body 1 1 ((dRet (fCall (m__law_of K) g (fCons (fVar 0) (fCons (fLst (fCons (fC (.str "")) (fCons (fC (.str "A")) (fCons (fC (.str "a b")) (fCons (fC (.str "sevenab")) (fCons (fC .non) (fCons (fC (.int 3)) (fCons (fC (.bl true)) (fCons (fTup (fCons (fC (.str "a")) fNil)) (fCons (fLst (fCons (fC (.str "a")) fNil)) (fCons (fC (.str "a1")) (fCons (fC (.str "-")) fNil)))))))))))) fNil)) [])))
def m_law (K : PySem.W.Frag) (g : GG) : DTS :=
  (dSeq (dSet 2 (fC (.str "abcdefghijklmnopqrstuvwxyz")))
    (dSeq (dFor (fRng1 (fCons (fC (.int 8)) fNil)) (gtName 3) (dSeq (dSet 4 (fOp dAdd (fOp dIx (fCall (m__law_new_names K) g (fCons (fVar 1) (fCons (fC (.int 1)) fNil)) []) (fC (.int 0))) (fCall (m__law_of K) g (fCons (fVar 1) (fCons (fLst (fCons (fC (.str "")) (fCons (fC (.str "z")) fNil))) fNil)) [])))
    (dSeq (dPar 5 6 (fCons (fCall (m__law_take K) g (fCons (fVar 1) (fCons (fOp dAdd (fCB bLen (fCons (fVar 4) fNil)) (fC (.int 1))) fNil)) []) (fCons (fCall (m__law_of K) g (fCons (fVar 1) (fCons (fLst (fCons (fC (.str "")) (fCons (fC (.str "a")) (fCons (fC (.str "A")) (fCons (fC (.str "1")) (fCons (fC (.str " ")) (fCons (fC (.str "-")) (fCons (fC (.str "_")) (fCons (fC (.str "zzzzz")) (fCons (fC (.str "abcdef")) fNil)))))))))) fNil)) []) fNil)))
    (dSeq (dSet 7 (fOp dAdd (fOp dAdd (fSl (fVar 4) fNoP (fPart (fVar 5))) (fVar 6)) (fSl (fVar 4) (fPart (fOp dAdd (fVar 5) (fCall (m__law_take K) g (fCons (fVar 1) (fCons (fC (.int 2)) fNil)) []))) fNoP)))
    (dSeq (dSet 8 (fAndV (fCh dLe dLe (fC (.int 1)) (fCB bLen (fCons (fVar 7) fNil)) (fC (.int 6))) (fOp dEq (fLc (fSigns (fVar 7)) (gtName 11) (fTst (fOp (dIn true) (fVar 11) (fVar 2))) (fVar 11) [11]) (fLst fNil))))
    (dIf (fNot (fTst (fCall (m__law_same K 8) g (fCons (fLst (fCons (fCall (m_is_name K) g (fCons (fVar 4) fNil) []) (fCons (fCall (m_is_name K) g (fCons (fVar 7) fNil) []) (fCons (fCall (m_is_name K) g (fCons (fLst (fCons (fVar 4) fNil)) fNil) []) (fCons (fCall (m_is_name K) g (fCons (fCall (m__law_odd K) g (fCons (fVar 1) fNil) []) fNil) []) fNil))))) (fCons (fLst (fCons (fC (.bl true)) (fCons (fVar 8) (fCons (fC (.bl false)) (fCons (fC (.bl false)) fNil))))) fNil)) []))) (dRet (fC (.bl false))) dNext))))))
    (dSeq (dSet 9 (fLst (fCons (fC (.str "step")) (fCons (fC (.str "move")) (fCons (fC (.str "wash")) (fCons (fC (.str "open")) (fCons (fC (.str "run")) (fCons (fC (.str "kept")) (fCons (fC (.str "open")) (fCons (fC (.str "apart")) (fCons (fC (.str "leak")) fNil)))))))))))
    (dSeq (dSet 10 (fLst (fCons (fC (.str "step")) (fCons (fC (.str "move")) (fCons (fC (.str "wash")) (fCons (fC (.str "open")) (fCons (fC (.str "run")) (fCons (fC (.str "kept")) (fCons (fC (.str "open")) (fCons (fC (.str "apart")) (fCons (fC (.str "leak")) fNil)))))))))))
    (dSeq (dIf (fNot (fTst (fCall (m__law_same K 8) g (fCons (fOp dAdd (fVar 9) (fLst (fCons (fC (.str "open")) (fCons (fC (.str "relieved")) (fCons (fC (.str "shutin")) fNil))))) (fCons (fOp dAdd (fVar 10) (fLst (fCons (fC (.str "open")) (fCons (fC (.str "relieved")) (fCons (fC (.str "shutin")) fNil))))) fNil)) []))) (dRet (fC (.bl false))) dNext)
    (dRet (fCall (m__law_same K 8) g (fCons (fLst (fCons (fCall (m_is_name K) g (fCons (fC (.str "abcdef")) fNil) []) (fCons (fCall (m_is_name K) g (fCons (fC (.str "abcdefg")) fNil) []) (fCons (fCall (m_is_name K) g (fCons (fC (.str "")) fNil) []) (fCons (fCall (m_is_name K) g (fCons (fC .non) fNil) []) (fCons (fCall (m_is_name K) g (fCons (fC (.str "z")) fNil) []) fNil)))))) (fCons (fLst (fCons (fC (.bl true)) (fCons (fC (.bl false)) (fCons (fC (.bl false)) (fCons (fC (.bl false)) (fCons (fC (.bl true)) fNil)))))) fNil)) [])))))))
structure Txt (K : PySem.W.Frag) (mg : Str → Option Value) : Prop where
  b_all : mg "all" = none
  b_bool : mg "bool" = none
  b_dict : mg "dict" = none
  b_int : mg "int" = none
  b_isinstance : mg "isinstance" = none
  b_len : mg "len" = none
  b_list : mg "list" = none
  b_range : mg "range" = none
  b_str : mg "str" = none
  b_tuple : mg "tuple" = none
  b_zip : mg "zip" = none
  c_LETTERS : ∃ t, mg "LETTERS" = some (.str "abcdefghijklmnopqrstuvwxyz" t)
  c_MOST_LETTERS : ∃ t, mg "MOST_LETTERS" = some (.int 6 t)
  g_Apart : mg "Apart" = some (.ref (He.ga K "Apart"))
  g_Barrier : mg "Barrier" = some (.ref (He.ga K "Barrier"))
  g_Kept : mg "Kept" = some (.ref (He.ga K "Kept"))
  g_Leak : mg "Leak" = some (.ref (He.ga K "Leak"))
  g_Move : mg "Move" = some (.ref (He.ga K "Move"))
  g_Paper : mg "Paper" = some (.ref (He.ga K "Paper"))
  g_Relief : mg "Relief" = some (.ref (He.ga K "Relief"))
  g_Relieved : mg "Relieved" = some (.ref (He.ga K "Relieved"))
  g_Run : mg "Run" = some (.ref (He.ga K "Run"))
  g_ShutIn : mg "ShutIn" = some (.ref (He.ga K "ShutIn"))
  g_Step : mg "Step" = some (.ref (He.ga K "Step"))
  g_Wash : mg "Wash" = some (.ref (He.ga K "Wash"))
  g__law_feed : mg "_law_feed" = some (.ref (He.ga K "_law_feed"))
  g__law_new_names : mg "_law_new_names" = some (.ref (He.ga K "_law_new_names"))
  g__law_odd : mg "_law_odd" = some (.ref (He.ga K "_law_odd"))
  g__law_of : mg "_law_of" = some (.ref (He.ga K "_law_of"))
  g__law_same : mg "_law_same" = some (.ref (He.ga K "_law_same"))
  g__law_take : mg "_law_take" = some (.ref (He.ga K "_law_take"))
  g_is_name : mg "is_name" = some (.ref (He.ga K "is_name"))
  g_law : mg "law" = some (.ref (He.ga K "law"))
  r_Apart : ClX.CRead K (He.ga K "Apart") (.type "type")
  r_Barrier : ClX.CRead K (He.ga K "Barrier") (.type "type")
  r_Kept : ClX.CRead K (He.ga K "Kept") (.type "type")
  r_Leak : ClX.CRead K (He.ga K "Leak") (.type "type")
  r_Move : ClX.CRead K (He.ga K "Move") (.type "type")
  r_Paper : ClX.CRead K (He.ga K "Paper") (.type "type")
  r_Relief : ClX.CRead K (He.ga K "Relief") (.type "type")
  r_Relieved : ClX.CRead K (He.ga K "Relieved") (.type "type")
  r_Run : ClX.CRead K (He.ga K "Run") (.type "type")
  r_ShutIn : ClX.CRead K (He.ga K "ShutIn") (.type "type")
  r_Step : ClX.CRead K (He.ga K "Step") (.type "type")
  r_Wash : ClX.CRead K (He.ga K "Wash") (.type "type")
  v_Apart_KIND : ∃ u, ClX.CVal K (He.ga K "Apart") (.type "type") "KIND" (.str "apart") u
  v_Barrier_KIND : ∃ u, ClX.CVal K (He.ga K "Barrier") (.type "type") "KIND" (.str "open") u
  v_Kept_KIND : ∃ u, ClX.CVal K (He.ga K "Kept") (.type "type") "KIND" (.str "kept") u
  v_Leak_KIND : ∃ u, ClX.CVal K (He.ga K "Leak") (.type "type") "KIND" (.str "leak") u
  v_Move_KIND : ∃ u, ClX.CVal K (He.ga K "Move") (.type "type") "KIND" (.str "move") u
  v_Paper_KIND : ∃ u, ClX.CVal K (He.ga K "Paper") (.type "type") "KIND" (.str "open") u
  v_Relief_KIND : ∃ u, ClX.CVal K (He.ga K "Relief") (.type "type") "KIND" (.str "open") u
  v_Relieved_KIND : ∃ u, ClX.CVal K (He.ga K "Relieved") (.type "type") "KIND" (.str "relieved") u
  v_Run_KIND : ∃ u, ClX.CVal K (He.ga K "Run") (.type "type") "KIND" (.str "run") u
  v_ShutIn_KIND : ∃ u, ClX.CVal K (He.ga K "ShutIn") (.type "type") "KIND" (.str "shutin") u
  v_Step_KIND : ∃ u, ClX.CVal K (He.ga K "Step") (.type "type") "KIND" (.str "step") u
  v_Wash_KIND : ∃ u, ClX.CVal K (He.ga K "Wash") (.type "type") "KIND" (.str "wash") u
  F_is_name : ∃ fd, FunD K "is_name" "is_name" (defArgs s_is_name) (defBody s_is_name) (defScope s_is_name) [] [] (He.ga K "is_name") fd
  F__law_feed : ∃ fd, FunD K "_law_feed" "_law_feed" (defArgs s__law_feed) (defBody s__law_feed) (defScope s__law_feed) [] [] (He.ga K "_law_feed") fd
  F__law_take : ∃ fd, FunD K "_law_take" "_law_take" (defArgs s__law_take) (defBody s__law_take) (defScope s__law_take) [] [] (He.ga K "_law_take") fd
  F__law_of : ∃ fd, FunD K "_law_of" "_law_of" (defArgs s__law_of) (defBody s__law_of) (defScope s__law_of) [] [] (He.ga K "_law_of") fd
  F__law_same : ∃ fd, FunD K "_law_same" "_law_same" (defArgs s__law_same) (defBody s__law_same) (defScope s__law_same) [] [] (He.ga K "_law_same") fd
  F__law_new_names : ∃ fd, FunD K "_law_new_names" "_law_new_names" (defArgs s__law_new_names) (defBody s__law_new_names) (defScope s__law_new_names) [] [] (He.ga K "_law_new_names") fd
  F__law_odd : ∃ fd, FunD K "_law_odd" "_law_odd" (defArgs s__law_odd) (defBody s__law_odd) (defScope s__law_odd) [] [] (He.ga K "_law_odd") fd
  F_law : ∃ fd, FunD K "law" "law" (defArgs s_law) (defBody s_law) (defScope s_law) [] [] (He.ga K "law") fd
section
variable {P : Program} {w : World} {K : PySem.W.Frag} {mg : Str → Option Value} {base : Heap}
theorem C_is_name (T : Txt K mg) : Cal P w K mg base 1 (He.ga K "is_name") ["value"] (m_is_name K) := by
  have nd := sc_is_name.nd
  exact cal_of T.F_is_name sc_is_name (fun _ _ _ _ _ _ us hl => match us, hl with | [_], _ => rfl) (fun cdv A outer s H E hr => ⟨_, fun g => (dss_cons (ds_if (dw_or (dt_not (dt_val (d_callB call_isi (cd_isi (b := "str")) T.b_isinstance PyProof.Rows.boot_isinstance (da_cons (dv 0) (da_cons (d_ty T.b_str PyProof.Rows.boot_str) da_nil))))) (dw_or1 (dt_not (dt_chain op_le op_le od_le od_le de_int (d_callB cr_len cd_len T.b_len PySem.boot_len (da_cons (dv 0) da_nil)) (d_gint T.c_MOST_LETTERS))))).dt (dss_one (ds_ret de_bl)) dss_nil)
      (dss_one (ds_ret (d_callB (cr_all rfl) cd_all T.b_all PyProof.Rows.boot_all (da_cons (d_lc (own := [("letter", 1)]) nd (blkOk_by (N := ["value", "letter"]) (sc := defScope s_is_name) (own := [("letter", 1)]) (by decide +kernel)) (d_ws (dv 0)) (by decide) (fun _ _ _ _ _ => (d_tgt 1 nd)) (fun _ _ _ _ _ => dts_nil) (fun _ _ _ _ _ => (de_cmp (op_inA (u65 hr)) od_in (dv 1) (d_gstr T.c_LETTERS) rfl))) da_nil)))))⟩)
theorem CK_is_name (T : Txt K mg) : CalK P w K mg base 1 (He.ga K "is_name") ["value"] (m_is_name K) := by
  have nd := sc_is_name.nd
  exact calK_of T.F_is_name sc_is_name (by simp) (fun _ _ _ _ _ _ us hl => match us, hl with | [_], _ => rfl) (fun cdv A outer s H E hr => ⟨_, fun g => (dss_cons (ds_if (dw_or (dt_not (dt_val (d_callB call_isi (cd_isi (b := "str")) T.b_isinstance PyProof.Rows.boot_isinstance (da_cons (dv 0) (da_cons (d_ty T.b_str PyProof.Rows.boot_str) da_nil))))) (dw_or1 (dt_not (dt_chain op_le op_le od_le od_le de_int (d_callB cr_len cd_len T.b_len PySem.boot_len (da_cons (dv 0) da_nil)) (d_gint T.c_MOST_LETTERS))))).dt (dss_one (ds_ret de_bl)) dss_nil)
      (dss_one (ds_ret (d_callB (cr_all rfl) cd_all T.b_all PyProof.Rows.boot_all (da_cons (d_lc (own := [("letter", 1)]) nd (blkOk_by (N := ["value", "letter"]) (sc := defScope s_is_name) (own := [("letter", 1)]) (by decide +kernel)) (d_ws (dv 0)) (by decide) (fun _ _ _ _ _ => (d_tgt 1 nd)) (fun _ _ _ _ _ => dts_nil) (fun _ _ _ _ _ => (de_cmp (op_inA (u65 hr)) od_in (dv 1) (d_gstr T.c_LETTERS) rfl))) da_nil)))))⟩)
theorem C__law_feed (T : Txt K mg) : ∃ fd, FnOk P w K mg base CX0 1 (He.ga K "_law_feed") fd ["_law_script"] (spFeed K) ∧ Binds K fd ["_law_script"] [] := by
  obtain ⟨fd, F⟩ := T.F__law_feed
  have nd := sc__law_feed.nd
  refine ⟨fd, F.ok sc__law_feed (fun vs H Q E h => feed_len h) (fun cdv A outer s H vs Q E hr h => ⟨t_feed K, PSs.nox ?_, pure_feed vs H Q E _ _ _ _ h⟩), F.bindsN fun _ _ _ _ _ _ us hl => match us, hl with | [_], _ => rfl⟩
  exact pss_cons (ps_setLc (i := 1) (own := [("_law_cell", 3)]) rfl nd rfl rfl (sw_true rfl rfl rfl (by decide +kernel)) (pi_list (pe_slice sl_list (pv 0) po_none (po_some pe_int))) (blkOk_by (N := ["_law_script", "_law_cells", "_law_mark", "_law_cell"]) (sc := defScope s__law_feed) (own := [("_law_cell", 3)]) (by decide +kernel))
      (fun _ _ _ _ _ => pg_name (i := 3) nd rfl (Or.inl rfl)) (fun _ _ _ _ _ => pts_nil) (fun _ _ _ _ _ => pe_callTy cr_int rfl T.b_int PyProof.Rows.boot_int (pa_cons (pv 3) pa_nil)))
    (pss_cons (ps_set (i := 2) nd rfl (Or.inl rfl) (pe_op op_add pe_int (pe_op op_mul pe_int (pe_callB (cr_len (by rfl)) (by rfl) T.b_len PySem.boot_len (pa_cons (pv 1) pa_nil)))))
    (pss_cons (ps_for PassesOwn.never rfl (pi_list (pv 1)) (pg_name (i := 3) nd rfl (Or.inl rfl)) (pss_one (ps_set (i := 2) nd rfl (Or.inl rfl) (pe_op op_mod (pe_callTy cr_int rfl T.b_int PyProof.Rows.boot_int (pa_cons (pe_op op_add (pe_op op_mul (pv 2) pe_int) (pv 3)) pa_nil)) pe_int))))
    (pss_one (ps_ret (pe_lst (pa_cons (pv 1) (pa_cons pe_int (pa_cons pe_int (pa_cons (pv 2) pa_nil)))))))))
theorem C__law_take (T : Txt K mg) : Cal P w K mg base 1 (He.ga K "_law_take") ["_law_feed_here", "_law_many"] (m__law_take K) := by
  obtain ⟨fd, F⟩ := T.F__law_take
  have nd := sc__law_take.nd
  refine ⟨⟨fd, F.ok sc__law_take (fun vs H Q E h => take_len h) (fun cdv A outer s H vs Q E hr h => ⟨t_take K, PSs.nox ?_, pure_take vs H Q E _ _ _ _ _ _ h⟩), F.bindsN fun _ _ _ _ _ _ us hl => match us, hl with | [_, _], _ => rfl⟩, F.kp⟩
  exact pss_cons (ps_if (pt_cmpR op_lt (pe_ix ix_list (pv 0) pe_int (fun _ _ => rfl)) pe_int (nomark _))
      (pss_cons (ps_asg (pe_op op_add (pe_ix ix_list (pv 0) pe_int (fun _ _ => rfl)) pe_int) (pg_sub (pv 0) pe_int set_list))
      (pss_cons (ps_set (i := 2) nd rfl (Or.inl rfl) (pe_op op_add (pe_ix ix_list (pv 0) pe_int (fun _ _ => rfl)) (pe_op op_mul (pe_ix ix_list (pv 0) pe_int (fun _ _ => rfl)) pe_int)))
      (pss_cons (ps_if (pt_cmpR op_le (pe_ix ix_list (pv 0) pe_int (fun _ _ => rfl)) (pe_callB (cr_len (by rfl)) (by rfl) T.b_len PySem.boot_len (pa_cons (pe_ix ix_list (pv 0) pe_int (fun _ _ => rfl)) pa_nil)) (nomark _)) (pss_one (ps_set (i := 2) nd rfl (Or.inl rfl) (pe_ix ix_list (pe_ix ix_list (pv 0) pe_int (fun _ _ => rfl)) (pe_op op_sub (pe_ix ix_list (pv 0) pe_int (fun _ _ => rfl)) pe_int) (fun _ _ => rfl)))) pss_nil)
      (pss_cons (ps_if (pw_or (pt_cmpR op_gt (pe_ix ix_list (pv 0) pe_int (fun _ _ => rfl)) (pe_callB (cr_len (by rfl)) (by rfl) T.b_len PySem.boot_len (pa_cons (pe_ix ix_list (pv 0) pe_int (fun _ _ => rfl)) pa_nil)) (nomark _)) (pw_or1 (pt_cmpR op_lt (pv 2) (pe_op op_pow pe_int pe_int) (nomark _)))).pt
        (pss_cons (ps_set (i := 3) nd rfl (Or.inl rfl) (pe_op op_mod (pe_callTy cr_int rfl T.b_int PyProof.Rows.boot_int (pa_cons (pe_op op_add (pe_op op_add (pe_op op_mul (pv 2) pe_int) (pe_op op_mul (pe_ix ix_list (pv 0) pe_int (fun _ _ => rfl)) pe_int)) (pe_ix ix_list (pv 0) pe_int (fun _ _ => rfl))) pa_nil)) pe_int))
        (pss_cons (ps_set (i := 4) nd rfl (Or.inl rfl) (pe_op op_mod (pe_callTy cr_int rfl T.b_int PyProof.Rows.boot_int (pa_cons (pe_op op_add (pe_op op_mul (pv 3) (pv 3)) (pe_op op_mul (pe_ix ix_list (pv 0) pe_int (fun _ _ => rfl)) pe_int)) pa_nil)) pe_int))
        (pss_one (ps_ret (pe_op op_mod (pe_op op_fdiv (pe_op op_mod (pe_callTy cr_int rfl T.b_int PyProof.Rows.boot_int (pa_cons (pe_op op_add (pe_op op_mul (pv 4) pe_int) (pv 3)) pa_nil)) pe_int) pe_int) (pv 1)))))) pss_nil)
      (pss_one (ps_asg (pv 2) (pg_sub (pv 0) pe_int set_list))))))) pss_nil)
    (pss_cons (ps_set (i := 5) nd rfl (Or.inl rfl) (pe_op op_mod (pe_callTy cr_int rfl T.b_int PyProof.Rows.boot_int (pa_cons (pe_ix ix_list (pv 0) pe_int (fun _ _ => rfl)) pa_nil)) (pv 1)))
    (pss_cons (ps_asg (pe_op op_fdiv (pe_callTy cr_int rfl T.b_int PyProof.Rows.boot_int (pa_cons (pe_ix ix_list (pv 0) pe_int (fun _ _ => rfl)) pa_nil)) (pv 1)) (pg_sub (pv 0) pe_int set_list))
    (pss_one (ps_ret (pv 5)))))
theorem C__law_of (T : Txt K mg) : Cal P w K mg base 2 (He.ga K "_law_of") ["_law_feed_here", "_law_items"] (m__law_of K) := by
  have nd := sc__law_of.nd
  have C__law_take := C__law_take (P := P) (w := w) (base := base) T
  exact cal_of T.F__law_of sc__law_of (fun _ _ _ _ _ _ us hl => match us, hl with | [_, _], _ => rfl) (fun cdv A outer s H E hr => ⟨_, fun g => (dss_one (ds_ret (de_ix (dv 1) (d_call C__law_take (hr.mono (by decide)) T.g__law_take (da_cons (dv 0) (da_cons (d_callB cr_len cd_len T.b_len PySem.boot_len (da_cons (dv 1) da_nil)) da_nil))) (fun _ _ => rfl))))⟩)
theorem C__law_same (T : Txt K mg) : ∀ n, Cal P w K mg base (n + 1) (He.ga K "_law_same") ["_law_found", "_law_due"] (m__law_same K n)
  | 0 => by
    obtain ⟨fd, F⟩ := T.F__law_same
    exact ⟨⟨fd, ⟨fun vs H Q E h => by obtain ⟨_, _, _, _, _, _, h, _⟩ := h; exact h.elim, fun A outer s H args us vs Q E _ _ _ _ h => by obtain ⟨_, _, _, _, _, _, h, _⟩ := h; exact h.elim⟩, F.bindsN fun _ _ _ _ _ _ us hl => match us, hl with | [_, _], _ => rfl⟩, F.kp⟩
  | n + 1 => by
    have nd := sc__law_same.nd
    have C__law_same := C__law_same T n
    exact cal_of T.F__law_same sc__law_same (fun _ _ _ _ _ _ us hl => match us, hl with | [_, _], _ => rfl) (fun cdv A outer s H E hr => ⟨_, fun g => (dss_cons (ds_if (dt_cmp op_isA od_is (dv 1) de_non (nomark _)) (dss_one (ds_ret (de_cmp op_isA od_is (dv 0) de_non (nomark _)))) dss_nil)
      (dss_cons (ds_if (dw_or (dt_val (d_callB call_isi (cd_isi (b := "bool")) T.b_isinstance PyProof.Rows.boot_isinstance (da_cons (dv 1) (da_cons (d_ty T.b_bool PyProof.Rows.boot_bool) da_nil)))) (dw_or1 (dt_val (d_callB call_isi (cd_isi (b := "bool")) T.b_isinstance PyProof.Rows.boot_isinstance (da_cons (dv 0) (da_cons (d_ty T.b_bool PyProof.Rows.boot_bool) da_nil)))))).dt (dss_one (ds_ret (de_and (d_callB call_isi (cd_isi (b := "bool")) T.b_isinstance PyProof.Rows.boot_isinstance (da_cons (dv 1) (da_cons (d_ty T.b_bool PyProof.Rows.boot_bool) da_nil))) (de_and (d_callB call_isi (cd_isi (b := "bool")) T.b_isinstance PyProof.Rows.boot_isinstance (da_cons (dv 0) (da_cons (d_ty T.b_bool PyProof.Rows.boot_bool) da_nil))) (de_one (de_cmp (op_eqD hr.units) od_eq (dv 0) (dv 1) (nomark _))))))) dss_nil)
      (dss_cons (ds_if (dt_val (d_callB cr_isiT cd_isiT T.b_isinstance PyProof.Rows.boot_isinstance (da_cons (dv 1) (da_cons (de_tup (da_cons (d_ty T.b_int PyProof.Rows.boot_int) (da_cons (d_ty T.b_str PyProof.Rows.boot_str) da_nil))) da_nil)))) (dss_one (ds_ret (de_and (d_callB cr_isiT cd_isiT T.b_isinstance PyProof.Rows.boot_isinstance (da_cons (dv 0) (da_cons (de_tup (da_cons (d_ty T.b_int PyProof.Rows.boot_int) (da_cons (d_ty T.b_str PyProof.Rows.boot_str) da_nil))) da_nil))) (de_and (de_cmp (op_eqD hr.units) od_eq (d_callB call_isi (cd_isi (b := "int")) T.b_isinstance PyProof.Rows.boot_isinstance (da_cons (dv 0) (da_cons (d_ty T.b_int PyProof.Rows.boot_int) da_nil))) (d_callB call_isi (cd_isi (b := "int")) T.b_isinstance PyProof.Rows.boot_isinstance (da_cons (dv 1) (da_cons (d_ty T.b_int PyProof.Rows.boot_int) da_nil))) (nomark _)) (de_one (de_cmp (op_eqD hr.units) od_eq (dv 0) (dv 1) (nomark _))))))) dss_nil)
      (dss_cons (ds_if (dt_val (d_callB call_isi (cd_isi (b := "dict")) T.b_isinstance PyProof.Rows.boot_isinstance (da_cons (dv 1) (da_cons (d_ty T.b_dict PyProof.Rows.boot_dict) da_nil)))) dss_never dss_nil)
      (dss_cons (ds_if (dw_or (dt_cmp (op_neD hr.units) od_ne (d_callB call_isi (cd_isi (b := "list")) T.b_isinstance PyProof.Rows.boot_isinstance (da_cons (dv 1) (da_cons (d_ty T.b_list PyProof.Rows.boot_list) da_nil))) (d_callB call_isi (cd_isi (b := "list")) T.b_isinstance PyProof.Rows.boot_isinstance (da_cons (dv 0) (da_cons (d_ty T.b_list PyProof.Rows.boot_list) da_nil))) (nomark _)) (dw_or1 (dt_cmp (op_neD hr.units) od_ne (d_callB call_isi (cd_isi (b := "tuple")) T.b_isinstance PyProof.Rows.boot_isinstance (da_cons (dv 1) (da_cons (d_ty T.b_tuple PyProof.Rows.boot_tuple) da_nil))) (d_callB call_isi (cd_isi (b := "tuple")) T.b_isinstance PyProof.Rows.boot_isinstance (da_cons (dv 0) (da_cons (d_ty T.b_tuple PyProof.Rows.boot_tuple) da_nil))) (nomark _)))).dt (dss_one (ds_ret de_bl)) dss_nil)
      (dss_one (ds_ret (de_and (de_cmp (op_eqD hr.units) od_eq (d_callB cr_len cd_len T.b_len PySem.boot_len (da_cons (dv 0) da_nil)) (d_callB cr_len cd_len T.b_len PySem.boot_len (da_cons (dv 1) da_nil)) (nomark _)) (de_one (d_callB (cr_all rfl) cd_all T.b_all PyProof.Rows.boot_all (da_cons (d_lc (own := [("_law_one", 3), ("_law_two", 4)]) nd (blkOk_by (N := ["_law_found", "_law_due", "_law_key", "_law_one", "_law_two"]) (sc := defScope s__law_same) (own := [("_law_one", 3), ("_law_two", 4)]) (by decide +kernel)) (d_wz T.b_zip (da_cons (dv 0) (da_cons (dv 1) da_nil))) (by decide) (fun _ _ _ _ _ => (d_tgtT rfl (dgs_cons (d_tgt 3 nd) (dgs_cons (d_tgt 4 nd) dgs_nil)))) (fun _ _ _ _ _ => dts_nil) (fun _ _ _ _ _ => (d_call C__law_same (hr.mono (Nat.le_refl _)) T.g__law_same (da_cons (dv 3) (da_cons (dv 4) da_nil))))) da_nil)))))))))))⟩)
theorem C__law_new_names (T : Txt K mg) : Cal P w K mg base 3 (He.ga K "_law_new_names") ["_law_feed_here", "_law_many"] (m__law_new_names K) := by
  have nd := sc__law_new_names.nd
  have C__law_of := C__law_of (P := P) (w := w) (base := base) T
  have C__law_take := C__law_take (P := P) (w := w) (base := base) T
  exact cal_of T.F__law_new_names sc__law_new_names (fun _ _ _ _ _ _ us hl => match us, hl with | [_, _], _ => rfl) (fun cdv A outer s H E hr => ⟨_, fun g => (dss_cons (d_set 2 nd de_str)
      (dss_cons (d_set 3 nd (d_join de_str (d_lc (own := [("_law_k", 6)]) nd (blkOk_by (N := ["_law_feed_here", "_law_many", "_law_letters", "_law_stem", "_law_at", "_law_first", "_law_k"]) (sc := defScope s__law_new_names) (own := [("_law_k", 6)]) (by decide +kernel)) (d_wr1 T.b_range (da_cons (d_call C__law_take (hr.mono (by decide)) T.g__law_take (da_cons (dv 0) (da_cons de_int da_nil))) da_nil)) (by decide) (fun _ _ _ _ _ => (d_tgt 6 nd)) (fun _ _ _ _ _ => dts_nil) (fun _ _ _ _ _ => (d_call C__law_of (hr.mono (by decide)) T.g__law_of (da_cons (dv 0) (da_cons (dv 2) da_nil)))))))
      (dss_cons (d_asg (d_tgtT rfl (dgs_cons (d_tgt 4 nd) (dgs_cons (d_tgt 5 nd) dgs_nil))) (de_tup (da_cons (d_call C__law_take (hr.mono (by decide)) T.g__law_take (da_cons (dv 0) (da_cons (de_op op_addA od_add (d_callB cr_len cd_len T.b_len PySem.boot_len (da_cons (dv 3) da_nil)) de_int) da_nil))) (da_cons (d_call C__law_take (hr.mono (by decide)) T.g__law_take (da_cons (dv 0) (da_cons de_int da_nil))) da_nil))))
      (dss_one (ds_ret (d_lc (own := [("_law_k", 6)]) nd (blkOk_by (N := ["_law_feed_here", "_law_many", "_law_letters", "_law_stem", "_law_at", "_law_first", "_law_k"]) (sc := defScope s__law_new_names) (own := [("_law_k", 6)]) (by decide +kernel)) (d_wr1 T.b_range (da_cons (dv 1) da_nil)) (by decide) (fun _ _ _ _ _ => (d_tgt 6 nd)) (fun _ _ _ _ _ => dts_nil) (fun _ _ _ _ _ => (de_op op_addA od_add (de_op op_addA od_add (de_sl (dv 3) do_none (do_some (dv 4))) (de_ix (dv 2) (de_op op_mod od_mod (d_callT cr_int cd_int T.b_int PyProof.Rows.boot_int (da_cons (de_op op_addA od_add (dv 5) (de_op op_mulA od_mul de_int (dv 6))) da_nil)) de_int) (fun _ _ => rfl))) (de_sl (dv 3) (do_some (dv 4)) do_none)))))))))⟩)
theorem C__law_odd (T : Txt K mg) : Cal P w K mg base 3 (He.ga K "_law_odd") ["_law_feed_here"] (m__law_odd K) := by
  have nd := sc__law_odd.nd
  have C__law_of := C__law_of (P := P) (w := w) (base := base) T
  exact cal_of T.F__law_odd sc__law_odd (fun _ _ _ _ _ _ us hl => match us, hl with | [_], _ => rfl) (fun cdv A outer s H E hr => ⟨_, fun g => (dss_one (ds_ret (d_call C__law_of (hr.mono (by decide)) T.g__law_of (da_cons (dv 0) (da_cons (de_lst (da_cons de_str (da_cons de_str (da_cons de_str (da_cons de_str (da_cons de_non (da_cons de_int (da_cons de_bl (da_cons (de_tup (da_cons de_str da_nil)) (da_cons (de_lst (da_cons de_str da_nil)) (da_cons de_str (da_cons de_str da_nil)))))))))))) da_nil)))))⟩)
theorem C_law (T : Txt K mg) (hT : ∀ a c : Addr, m_law K (some (a, c)) lawE ((List.replicate 12 Sl.no).set 1 (.pu (.con (.ref a))))) {fd : FuncData} (F : FunD K "law" "law" (defArgs s_law) (defBody s_law) (defScope s_law) [] [] (He.ga K "law") fd) : FnOk P w K mg base CX0 11 (He.ga K "law") fd ["_law_script"] (spLaw K) := by
  have nd := sc_law.nd
  have C__law_new_names := C__law_new_names (P := P) (w := w) (base := base) T
  have C__law_odd := C__law_odd (P := P) (w := w) (base := base) T
  have C__law_of := C__law_of (P := P) (w := w) (base := base) T
  have C__law_take := C__law_take (P := P) (w := w) (base := base) T
  have C_is_name := C_is_name (P := P) (w := w) (base := base) T
  have CK_is_name := CK_is_name (P := P) (w := w) (base := base) T
  have C__law_same := C__law_same (P := P) (w := w) (base := base) T
  obtain ⟨fe, Ff, Fb⟩ := C__law_feed (P := P) (w := w) (base := base) T
  obtain ⟨_, Fx⟩ := T.F__law_feed
  exact law_ok (i := 1) (k := 10) (T := m_law K) F sc_law rfl (by decide) (fun cdv A outer s H E hr => ⟨ps_set nd rfl (by first | exact Or.inl rfl | exact Or.inr rfl) (pe_call Ff (hr.mono (by decide)) rfl T.g__law_feed Fx.kp Fb .nil pass0 (pa_cons (pv 0) pa_nil)), _, fun g => (dss_cons (d_set 2 nd de_str)
      (dss_cons (d_for (d_wr1 T.b_range (da_cons de_int da_nil)) (d_tgt 3 nd) (dss_cons (d_set 4 nd (de_op op_addA od_add (de_ix (d_call C__law_new_names (hr.mono (by decide)) T.g__law_new_names (da_cons (dv 1) (da_cons de_int da_nil))) de_int (fun _ _ => rfl)) (d_call C__law_of (hr.mono (by decide)) T.g__law_of (da_cons (dv 1) (da_cons (de_lst (da_cons de_str (da_cons de_str da_nil))) da_nil)))))
      (dss_cons (d_par 5 6 nd (da_cons (d_call C__law_take (hr.mono (by decide)) T.g__law_take (da_cons (dv 1) (da_cons (de_op op_addA od_add (d_callB cr_len cd_len T.b_len PySem.boot_len (da_cons (dv 4) da_nil)) de_int) da_nil))) (da_cons (d_call C__law_of (hr.mono (by decide)) T.g__law_of (da_cons (dv 1) (da_cons (de_lst (da_cons de_str (da_cons de_str (da_cons de_str (da_cons de_str (da_cons de_str (da_cons de_str (da_cons de_str (da_cons de_str (da_cons de_str da_nil)))))))))) da_nil))) da_nil)))
      (dss_cons (d_set 7 nd (de_op op_addA od_add (de_op op_addA od_add (de_sl (dv 4) do_none (do_some (dv 5))) (dv 6)) (de_sl (dv 4) (do_some (de_op op_addA od_add (dv 5) (d_call C__law_take (hr.mono (by decide)) T.g__law_take (da_cons (dv 1) (da_cons de_int da_nil))))) do_none)))
      (dss_cons (d_set 8 nd (de_and (de_chain op_le op_le od_le od_le de_int (d_callB cr_len cd_len T.b_len PySem.boot_len (da_cons (dv 7) da_nil)) de_int) (de_one (de_cmp (op_eqD hr.units) od_eq (d_lc (own := [("_law_letter", 11)]) nd (blkOk_by (N := ["_law_script", "_law_feed_here", "_law_letters", "_law_turn", "_law_word", "_law_at", "_law_sign", "_law_bent", "_law_good", "_law_found", "_law_due", "_law_letter"]) (sc := defScope s_law) (own := [("_law_letter", 11)]) (by decide +kernel)) (d_ws (dv 7)) (by decide) (fun _ _ _ _ _ => (d_tgt 11 nd)) (fun _ _ _ _ _ => dts_one (dt_cmp (op_notInA (u65 hr)) od_notIn (dv 11) (dv 2) rfl)) (fun _ _ _ _ _ => (dv 11))) (de_lst da_nil) (nomark _)))))
      (dss_one (ds_if (dt_not (dt_val (d_call (C__law_same 8) (hr.mono (by decide)) T.g__law_same (da_cons (de_lst (da_cons (d_call C_is_name (hr.mono (by decide)) T.g_is_name (da_cons (dv 4) da_nil)) (da_cons (d_callK CK_is_name (hr.mono (by decide)) T.g_is_name (dk_cons (dv 7) dk_nil)) (da_cons (d_call C_is_name (hr.mono (by decide)) T.g_is_name (da_cons (de_lst (da_cons (dv 4) da_nil)) da_nil)) (da_cons (d_call C_is_name (hr.mono (by decide)) T.g_is_name (da_cons (d_call C__law_odd (hr.mono (by decide)) T.g__law_odd (da_cons (dv 1) da_nil)) da_nil)) da_nil))))) (da_cons (de_lst (da_cons de_bl (da_cons (dv 8) (da_cons de_bl (da_cons de_bl da_nil))))) da_nil))))) (dss_one (ds_ret de_bl)) dss_nil)))))))
      (dss_cons (d_set 9 nd (de_lst (da_cons (d_cval T.g_Step T.r_Step T.v_Step_KIND.choose_spec (fun _ => rfl)) (da_cons (d_cval T.g_Move T.r_Move T.v_Move_KIND.choose_spec (fun _ => rfl)) (da_cons (d_cval T.g_Wash T.r_Wash T.v_Wash_KIND.choose_spec (fun _ => rfl)) (da_cons (d_cval T.g_Paper T.r_Paper T.v_Paper_KIND.choose_spec (fun _ => rfl)) (da_cons (d_cval T.g_Run T.r_Run T.v_Run_KIND.choose_spec (fun _ => rfl)) (da_cons (d_cval T.g_Kept T.r_Kept T.v_Kept_KIND.choose_spec (fun _ => rfl)) (da_cons (d_cval T.g_Barrier T.r_Barrier T.v_Barrier_KIND.choose_spec (fun _ => rfl)) (da_cons (d_cval T.g_Apart T.r_Apart T.v_Apart_KIND.choose_spec (fun _ => rfl)) (da_cons (d_cval T.g_Leak T.r_Leak T.v_Leak_KIND.choose_spec (fun _ => rfl)) da_nil)))))))))))
      (dss_cons (d_set 10 nd (de_lst (da_cons de_str (da_cons de_str (da_cons de_str (da_cons de_str (da_cons de_str (da_cons de_str (da_cons de_str (da_cons de_str (da_cons de_str da_nil)))))))))))
      (dss_cons (ds_if (dt_not (dt_val (d_call (C__law_same 8) (hr.mono (by decide)) T.g__law_same (da_cons (de_op op_addA od_add (dv 9) (de_lst (da_cons (d_cval T.g_Relief T.r_Relief T.v_Relief_KIND.choose_spec (fun _ => rfl)) (da_cons (d_cval T.g_Relieved T.r_Relieved T.v_Relieved_KIND.choose_spec (fun _ => rfl)) (da_cons (d_cval T.g_ShutIn T.r_ShutIn T.v_ShutIn_KIND.choose_spec (fun _ => rfl)) da_nil))))) (da_cons (de_op op_addA od_add (dv 10) (de_lst (da_cons de_str (da_cons de_str (da_cons de_str da_nil))))) da_nil))))) (dss_one (ds_ret de_bl)) dss_nil)
      (dss_one (ds_ret (d_call (C__law_same 8) (hr.mono (by decide)) T.g__law_same (da_cons (de_lst (da_cons (d_call C_is_name (hr.mono (by decide)) T.g_is_name (da_cons de_str da_nil)) (da_cons (d_call C_is_name (hr.mono (by decide)) T.g_is_name (da_cons de_str da_nil)) (da_cons (d_call C_is_name (hr.mono (by decide)) T.g_is_name (da_cons de_str da_nil)) (da_cons (d_call C_is_name (hr.mono (by decide)) T.g_is_name (da_cons de_non da_nil)) (da_cons (d_call C_is_name (hr.mono (by decide)) T.g_is_name (da_cons de_str da_nil)) da_nil)))))) (da_cons (de_lst (da_cons de_bl (da_cons de_bl (da_cons de_bl (da_cons de_bl (da_cons de_bl da_nil)))))) da_nil))))))))))⟩) hT
end
def fs : List Tst := [tFree "all", tFree "bool", tFree "dict", tFree "int", tFree "isinstance", tFree "len", tFree "list", tFree "range", tFree "str", tFree "tuple", tFree "zip", tStr "LETTERS" "abcdefghijklmnopqrstuvwxyz", tInt "MOST_LETTERS" 6, tGlo "Apart", tGlo "Barrier", tGlo "Kept", tGlo "Leak", tGlo "Move", tGlo "Paper", tGlo "Relief", tGlo "Relieved", tGlo "Run", tGlo "ShutIn", tGlo "Step", tGlo "Wash", tGlo "_law_feed", tGlo "_law_new_names", tGlo "_law_odd", tGlo "_law_of", tGlo "_law_same", tGlo "_law_take", tGlo "is_name", tGlo "law", tRead "Apart", tRead "Barrier", tRead "Kept", tRead "Leak", tRead "Move", tRead "Paper", tRead "Relief", tRead "Relieved", tRead "Run", tRead "ShutIn", tRead "Step", tRead "Wash", tCvS "Apart" "KIND" "apart", tCvS "Barrier" "KIND" "open", tCvS "Kept" "KIND" "kept", tCvS "Leak" "KIND" "leak", tCvS "Move" "KIND" "move", tCvS "Paper" "KIND" "open", tCvS "Relief" "KIND" "open", tCvS "Relieved" "KIND" "relieved", tCvS "Run" "KIND" "run", tCvS "ShutIn" "KIND" "shutin", tCvS "Step" "KIND" "step", tCvS "Wash" "KIND" "wash"]
def fn : List He.DefD := [⟨("is_name", none), "is_name", "is_name", defArgs s_is_name, defBody s_is_name, defScope s_is_name, [], []⟩, ⟨("_law_feed", none), "_law_feed", "_law_feed", defArgs s__law_feed, defBody s__law_feed, defScope s__law_feed, [], []⟩, ⟨("_law_take", none), "_law_take", "_law_take", defArgs s__law_take, defBody s__law_take, defScope s__law_take, [], []⟩, ⟨("_law_of", none), "_law_of", "_law_of", defArgs s__law_of, defBody s__law_of, defScope s__law_of, [], []⟩, ⟨("_law_same", none), "_law_same", "_law_same", defArgs s__law_same, defBody s__law_same, defScope s__law_same, [], []⟩, ⟨("_law_new_names", none), "_law_new_names", "_law_new_names", defArgs s__law_new_names, defBody s__law_new_names, defScope s__law_new_names, [], []⟩, ⟨("_law_odd", none), "_law_odd", "_law_odd", defArgs s__law_odd, defBody s__law_odd, defScope s__law_odd, [], []⟩, ⟨("law", none), "law", "law", defArgs s_law, defBody s_law, defScope s_law, [], []⟩]
theorem txt_of {K : PySem.W.Frag} {mg : Str → Option Value} {h : Heap} (X : K.In h) (G : h.Ns mainGlobals mg) (c : SaysP fs fn K) : Txt K mg where
  b_all := He.free_ok X G (c.fact 0 rfl)
  b_bool := He.free_ok X G (c.fact 1 rfl)
  b_dict := He.free_ok X G (c.fact 2 rfl)
  b_int := He.free_ok X G (c.fact 3 rfl)
  b_isinstance := He.free_ok X G (c.fact 4 rfl)
  b_len := He.free_ok X G (c.fact 5 rfl)
  b_list := He.free_ok X G (c.fact 6 rfl)
  b_range := He.free_ok X G (c.fact 7 rfl)
  b_str := He.free_ok X G (c.fact 8 rfl)
  b_tuple := He.free_ok X G (c.fact 9 rfl)
  b_zip := He.free_ok X G (c.fact 10 rfl)
  c_LETTERS := He.str_ok X G (c.fact 11 rfl)
  c_MOST_LETTERS := He.int_ok X G (c.fact 12 rfl)
  g_Apart := He.glo_ok X G (c.fact 13 rfl)
  g_Barrier := He.glo_ok X G (c.fact 14 rfl)
  g_Kept := He.glo_ok X G (c.fact 15 rfl)
  g_Leak := He.glo_ok X G (c.fact 16 rfl)
  g_Move := He.glo_ok X G (c.fact 17 rfl)
  g_Paper := He.glo_ok X G (c.fact 18 rfl)
  g_Relief := He.glo_ok X G (c.fact 19 rfl)
  g_Relieved := He.glo_ok X G (c.fact 20 rfl)
  g_Run := He.glo_ok X G (c.fact 21 rfl)
  g_ShutIn := He.glo_ok X G (c.fact 22 rfl)
  g_Step := He.glo_ok X G (c.fact 23 rfl)
  g_Wash := He.glo_ok X G (c.fact 24 rfl)
  g__law_feed := He.glo_ok X G (c.fact 25 rfl)
  g__law_new_names := He.glo_ok X G (c.fact 26 rfl)
  g__law_odd := He.glo_ok X G (c.fact 27 rfl)
  g__law_of := He.glo_ok X G (c.fact 28 rfl)
  g__law_same := He.glo_ok X G (c.fact 29 rfl)
  g__law_take := He.glo_ok X G (c.fact 30 rfl)
  g_is_name := He.glo_ok X G (c.fact 31 rfl)
  g_law := He.glo_ok X G (c.fact 32 rfl)
  r_Apart := tRead_ok (c.fact 33 rfl)
  r_Barrier := tRead_ok (c.fact 34 rfl)
  r_Kept := tRead_ok (c.fact 35 rfl)
  r_Leak := tRead_ok (c.fact 36 rfl)
  r_Move := tRead_ok (c.fact 37 rfl)
  r_Paper := tRead_ok (c.fact 38 rfl)
  r_Relief := tRead_ok (c.fact 39 rfl)
  r_Relieved := tRead_ok (c.fact 40 rfl)
  r_Run := tRead_ok (c.fact 41 rfl)
  r_ShutIn := tRead_ok (c.fact 42 rfl)
  r_Step := tRead_ok (c.fact 43 rfl)
  r_Wash := tRead_ok (c.fact 44 rfl)
  v_Apart_KIND := tCvS_ok (c.fact 45 rfl)
  v_Barrier_KIND := tCvS_ok (c.fact 46 rfl)
  v_Kept_KIND := tCvS_ok (c.fact 47 rfl)
  v_Leak_KIND := tCvS_ok (c.fact 48 rfl)
  v_Move_KIND := tCvS_ok (c.fact 49 rfl)
  v_Paper_KIND := tCvS_ok (c.fact 50 rfl)
  v_Relief_KIND := tCvS_ok (c.fact 51 rfl)
  v_Relieved_KIND := tCvS_ok (c.fact 52 rfl)
  v_Run_KIND := tCvS_ok (c.fact 53 rfl)
  v_ShutIn_KIND := tCvS_ok (c.fact 54 rfl)
  v_Step_KIND := tCvS_ok (c.fact 55 rfl)
  v_Wash_KIND := tCvS_ok (c.fact 56 rfl)
  F_is_name := c.defn 0 rfl
  F__law_feed := c.defn 1 rfl
  F__law_take := c.defn 2 rfl
  F__law_of := c.defn 3 rfl
  F__law_same := c.defn 4 rfl
  F__law_new_names := c.defn 5 rfl
  F__law_odd := c.defn 6 rfl
  F_law := c.defn 7 rfl
end K72

set_option maxHeartbeats 100000
namespace K72
open PySem PySem.Spec L2 PL
open TL (tl tl_append)
def LET : Str := "abcdefghijklmnopqrstuvwxyz"
def isL (c : Nat) : Bool := decide (c ∈ tl LET)
def isn : D → Bool
  | .str x => decide (1 ≤ x.length) && (decide (x.length ≤ 6) && (tl x).all isL)
  | _ => false
def okD : D → Bool
  | .non => true
  | .bl _ => true
  | .int _ => true
  | .str x => decide (x.length ≤ sizeLine)
  | .lst _ => true
  | .tup _ => true
  | _ => false
section
variable {K : PySem.W.Frag} {g : GG} {a c : Addr} {P : D → Prop}
theorem bls_map {f : Nat → Bool} : ∀ l : List Nat, bls ((l.map fun c => D.str ⟨#[c]⟩).map fun d => match d with | .str x => .bl ((tl x).all f) | _ => .non) = some (l.map f)
  | [] => rfl
  | x :: l => by
    rw [List.map_cons, List.map_cons, List.map_cons, bls, bls_map l]
    simp [tl]
theorem is_name_ok {d : D} (hd : okD d = true) (h : P (.bl (isn d))) : m_is_name K g [d] P := by
  refine ⟨rfl, ?_⟩
  cases d with
  | str x =>
    have hz : x.length ≤ sizeLine := of_decide_eq_true hd
    simp only [body, dNext, dSeq, dRet, dRetN, dDrop, dIf, dSet, dSetO, dOwn, dRel, dApp, dAsg, dPar, dFor, fVar, fC, fNil, fCons, fCall, fCB, fOp, fTst, fAnd, fOr, fNot, fAndV, fOrV, fNotV, fIf, fTup, fLst, fCh, fSl, fNoP, fPart, fSeqL, fSeqT, fSigns, fRng1, fZip, fLc, fS1, fYes, opn, bln, Sl.op, Sl.bl, OD.d, List.map_cons, List.map_nil, List.append_nil, List.nil_append, List.cons_append, List.replicate, List.length_cons, List.length_nil, List.getElem?_cons_zero, List.getElem?_cons_succ, List.set_cons_zero, List.set_cons_succ, Nat.reduceAdd, Nat.reduceSub, if_true, ite_true, if_false, Bool.false_eq_true, Bool.not_true, Bool.not_false, true_and, wipeE, gtName, gtTup, gtCons, gtNil, setE, setD, reduceIte, Bool.or_true, Bool.true_or, Bool.or_false, Bool.false_or, Bool.and_true, Bool.and_false, Bool.or_self, Bool.true_and, Bool.false_and, beq_self_eq_true, vq_isi_non, vq_isiT_non, vq_is_non, vq_isN_non, vq_ty_non_bool, vq_ty_non_int, vq_ty_non_str, vq_ty_non_list, vq_ty_non_tuple, vq_ty_non_dict, vq_isi_bl, vq_isiT_bl, vq_is_bl, vq_isN_bl, vq_ty_bl_bool, vq_ty_bl_int, vq_ty_bl_str, vq_ty_bl_list, vq_ty_bl_tuple, vq_ty_bl_dict, vq_isi_int, vq_isiT_int, vq_is_int, vq_isN_int, vq_ty_int_bool, vq_ty_int_int, vq_ty_int_str, vq_ty_int_list, vq_ty_int_tuple, vq_ty_int_dict, vq_isi_str, vq_isiT_str, vq_is_str, vq_isN_str, vq_ty_str_bool, vq_ty_str_int, vq_ty_str_str, vq_ty_str_list, vq_ty_str_tuple, vq_ty_str_dict, vq_isi_lst, vq_isiT_lst, vq_is_lst, vq_isN_lst, vq_ty_lst_bool, vq_ty_lst_int, vq_ty_lst_str, vq_ty_lst_list, vq_ty_lst_tuple, vq_ty_lst_dict, vq_isi_tup, vq_isiT_tup, vq_is_tup, vq_isN_tup, vq_ty_tup_bool, vq_ty_tup_int, vq_ty_tup_str, vq_ty_tup_list, vq_ty_tup_tuple, vq_ty_tup_dict, vq_tyOk_bool, vq_tyOk_int, vq_tyOk_str, vq_tyOk_list, vq_tyOk_tuple, vq_tyOk_dict, vq_eq_bl, vq_eq_int, vq_ne_bl, vq_ne_int, vq_len_lst, vq_len_tup, vq_len_str, vq_c_lt, vq_c_le, vq_c_gt, vq_c_ge, vq_a_int, vq_a_str, vq_a_lst, vq_a_tup, vq_s_int, vq_ix_lst, vq_ix_tup, vq_m_int, vq_o_int, vq_f_int, vq_int_int, vq_int_bl, vq_str_int, vq_ix_str, vq_sl_strD, vq_sl_lstD, vq_sl_tupD]
    simp only [isn] at h
    cases h1 : decide (1 ≤ x.length) with
    | false =>
      rw [h1] at h
      have : decide ((1 : Int) ≤ (x.length : Int)) = false := by
        have := of_decide_eq_false h1
        exact decide_eq_false (by omega)
      rw [this]
      exact ⟨hz, h⟩
    | true =>
      rw [h1] at h
      have : decide ((1 : Int) ≤ (x.length : Int)) = true := by
        have := of_decide_eq_true h1
        exact decide_eq_true (by omega)
      rw [this]
      refine ⟨hz, ?_⟩
      cases h2 : decide (x.length ≤ 6) with
      | false =>
        rw [h2] at h
        have : decide ((x.length : Int) ≤ (6 : Int)) = false := by
          have := of_decide_eq_false h2
          exact decide_eq_false (by omega)
        simp only [body, dNext, dSeq, dRet, dRetN, dDrop, dIf, dSet, dSetO, dOwn, dRel, dApp, dAsg, dPar, dFor, fVar, fC, fNil, fCons, fCall, fCB, fOp, fTst, fAnd, fOr, fNot, fAndV, fOrV, fNotV, fIf, fTup, fLst, fCh, fSl, fNoP, fPart, fSeqL, fSeqT, fSigns, fRng1, fZip, fLc, fS1, fYes, opn, bln, Sl.op, Sl.bl, OD.d, List.map_cons, List.map_nil, List.append_nil, List.nil_append, List.cons_append, List.replicate, List.length_cons, List.length_nil, List.getElem?_cons_zero, List.getElem?_cons_succ, List.set_cons_zero, List.set_cons_succ, Nat.reduceAdd, Nat.reduceSub, if_true, ite_true, if_false, Bool.false_eq_true, Bool.not_true, Bool.not_false, true_and, wipeE, gtName, gtTup, gtCons, gtNil, setE, setD, reduceIte, Bool.or_true, Bool.true_or, Bool.or_false, Bool.false_or, Bool.and_true, Bool.and_false, Bool.or_self, Bool.true_and, Bool.false_and, beq_self_eq_true, vq_isi_non, vq_isiT_non, vq_is_non, vq_isN_non, vq_ty_non_bool, vq_ty_non_int, vq_ty_non_str, vq_ty_non_list, vq_ty_non_tuple, vq_ty_non_dict, vq_isi_bl, vq_isiT_bl, vq_is_bl, vq_isN_bl, vq_ty_bl_bool, vq_ty_bl_int, vq_ty_bl_str, vq_ty_bl_list, vq_ty_bl_tuple, vq_ty_bl_dict, vq_isi_int, vq_isiT_int, vq_is_int, vq_isN_int, vq_ty_int_bool, vq_ty_int_int, vq_ty_int_str, vq_ty_int_list, vq_ty_int_tuple, vq_ty_int_dict, vq_isi_str, vq_isiT_str, vq_is_str, vq_isN_str, vq_ty_str_bool, vq_ty_str_int, vq_ty_str_str, vq_ty_str_list, vq_ty_str_tuple, vq_ty_str_dict, vq_isi_lst, vq_isiT_lst, vq_is_lst, vq_isN_lst, vq_ty_lst_bool, vq_ty_lst_int, vq_ty_lst_str, vq_ty_lst_list, vq_ty_lst_tuple, vq_ty_lst_dict, vq_isi_tup, vq_isiT_tup, vq_is_tup, vq_isN_tup, vq_ty_tup_bool, vq_ty_tup_int, vq_ty_tup_str, vq_ty_tup_list, vq_ty_tup_tuple, vq_ty_tup_dict, vq_tyOk_bool, vq_tyOk_int, vq_tyOk_str, vq_tyOk_list, vq_tyOk_tuple, vq_tyOk_dict, vq_eq_bl, vq_eq_int, vq_ne_bl, vq_ne_int, vq_len_lst, vq_len_tup, vq_len_str, vq_c_lt, vq_c_le, vq_c_gt, vq_c_ge, vq_a_int, vq_a_str, vq_a_lst, vq_a_tup, vq_s_int, vq_ix_lst, vq_ix_tup, vq_m_int, vq_o_int, vq_f_int, vq_int_int, vq_int_bl, vq_str_int, vq_ix_str, vq_sl_strD, vq_sl_lstD, vq_sl_tupD]
        rw [this]
        exact h
      | true =>
        rw [h2] at h
        have : decide ((x.length : Int) ≤ (6 : Int)) = true := by
          have := of_decide_eq_true h2
          exact decide_eq_true (by omega)
        simp only [body, dNext, dSeq, dRet, dRetN, dDrop, dIf, dSet, dSetO, dOwn, dRel, dApp, dAsg, dPar, dFor, fVar, fC, fNil, fCons, fCall, fCB, fOp, fTst, fAnd, fOr, fNot, fAndV, fOrV, fNotV, fIf, fTup, fLst, fCh, fSl, fNoP, fPart, fSeqL, fSeqT, fSigns, fRng1, fZip, fLc, fS1, fYes, opn, bln, Sl.op, Sl.bl, OD.d, List.map_cons, List.map_nil, List.append_nil, List.nil_append, List.cons_append, List.replicate, List.length_cons, List.length_nil, List.getElem?_cons_zero, List.getElem?_cons_succ, List.set_cons_zero, List.set_cons_succ, Nat.reduceAdd, Nat.reduceSub, if_true, ite_true, if_false, Bool.false_eq_true, Bool.not_true, Bool.not_false, true_and, wipeE, gtName, gtTup, gtCons, gtNil, setE, setD, reduceIte, Bool.or_true, Bool.true_or, Bool.or_false, Bool.false_or, Bool.and_true, Bool.and_false, Bool.or_self, Bool.true_and, Bool.false_and, beq_self_eq_true, vq_isi_non, vq_isiT_non, vq_is_non, vq_isN_non, vq_ty_non_bool, vq_ty_non_int, vq_ty_non_str, vq_ty_non_list, vq_ty_non_tuple, vq_ty_non_dict, vq_isi_bl, vq_isiT_bl, vq_is_bl, vq_isN_bl, vq_ty_bl_bool, vq_ty_bl_int, vq_ty_bl_str, vq_ty_bl_list, vq_ty_bl_tuple, vq_ty_bl_dict, vq_isi_int, vq_isiT_int, vq_is_int, vq_isN_int, vq_ty_int_bool, vq_ty_int_int, vq_ty_int_str, vq_ty_int_list, vq_ty_int_tuple, vq_ty_int_dict, vq_isi_str, vq_isiT_str, vq_is_str, vq_isN_str, vq_ty_str_bool, vq_ty_str_int, vq_ty_str_str, vq_ty_str_list, vq_ty_str_tuple, vq_ty_str_dict, vq_isi_lst, vq_isiT_lst, vq_is_lst, vq_isN_lst, vq_ty_lst_bool, vq_ty_lst_int, vq_ty_lst_str, vq_ty_lst_list, vq_ty_lst_tuple, vq_ty_lst_dict, vq_isi_tup, vq_isiT_tup, vq_is_tup, vq_isN_tup, vq_ty_tup_bool, vq_ty_tup_int, vq_ty_tup_str, vq_ty_tup_list, vq_ty_tup_tuple, vq_ty_tup_dict, vq_tyOk_bool, vq_tyOk_int, vq_tyOk_str, vq_tyOk_list, vq_tyOk_tuple, vq_tyOk_dict, vq_eq_bl, vq_eq_int, vq_ne_bl, vq_ne_int, vq_len_lst, vq_len_tup, vq_len_str, vq_c_lt, vq_c_le, vq_c_gt, vq_c_ge, vq_a_int, vq_a_str, vq_a_lst, vq_a_tup, vq_s_int, vq_ix_lst, vq_ix_tup, vq_m_int, vq_o_int, vq_f_int, vq_int_int, vq_int_bl, vq_str_int, vq_ix_str, vq_sl_strD, vq_sl_lstD, vq_sl_tupD]
        rw [this]
        refine compL_map (f := fun d => match d with | .str x => .bl ((tl x).all isL) | _ => .non) _ (by rw [signs_len]; exact hz) (fun d hd k hk => ?_) ⟨_, bls_map _, ?_⟩
        · obtain ⟨c, h1, rfl⟩ := signs_mem hd
          simp only [body, dNext, dSeq, dRet, dRetN, dDrop, dIf, dSet, dSetO, dOwn, dRel, dApp, dAsg, dPar, dFor, fVar, fC, fNil, fCons, fCall, fCB, fOp, fTst, fAnd, fOr, fNot, fAndV, fOrV, fNotV, fIf, fTup, fLst, fCh, fSl, fNoP, fPart, fSeqL, fSeqT, fSigns, fRng1, fZip, fLc, fS1, fYes, opn, bln, Sl.op, Sl.bl, OD.d, List.map_cons, List.map_nil, List.append_nil, List.nil_append, List.cons_append, List.replicate, List.length_cons, List.length_nil, List.getElem?_cons_zero, List.getElem?_cons_succ, List.set_cons_zero, List.set_cons_succ, Nat.reduceAdd, Nat.reduceSub, if_true, ite_true, if_false, Bool.false_eq_true, Bool.not_true, Bool.not_false, true_and, wipeE, gtName, gtTup, gtCons, gtNil, setE, setD, reduceIte, Bool.or_true, Bool.true_or, Bool.or_false, Bool.false_or, Bool.and_true, Bool.and_false, Bool.or_self, Bool.true_and, Bool.false_and, beq_self_eq_true, vq_isi_non, vq_isiT_non, vq_is_non, vq_isN_non, vq_ty_non_bool, vq_ty_non_int, vq_ty_non_str, vq_ty_non_list, vq_ty_non_tuple, vq_ty_non_dict, vq_isi_bl, vq_isiT_bl, vq_is_bl, vq_isN_bl, vq_ty_bl_bool, vq_ty_bl_int, vq_ty_bl_str, vq_ty_bl_list, vq_ty_bl_tuple, vq_ty_bl_dict, vq_isi_int, vq_isiT_int, vq_is_int, vq_isN_int, vq_ty_int_bool, vq_ty_int_int, vq_ty_int_str, vq_ty_int_list, vq_ty_int_tuple, vq_ty_int_dict, vq_isi_str, vq_isiT_str, vq_is_str, vq_isN_str, vq_ty_str_bool, vq_ty_str_int, vq_ty_str_str, vq_ty_str_list, vq_ty_str_tuple, vq_ty_str_dict, vq_isi_lst, vq_isiT_lst, vq_is_lst, vq_isN_lst, vq_ty_lst_bool, vq_ty_lst_int, vq_ty_lst_str, vq_ty_lst_list, vq_ty_lst_tuple, vq_ty_lst_dict, vq_isi_tup, vq_isiT_tup, vq_is_tup, vq_isN_tup, vq_ty_tup_bool, vq_ty_tup_int, vq_ty_tup_str, vq_ty_tup_list, vq_ty_tup_tuple, vq_ty_tup_dict, vq_tyOk_bool, vq_tyOk_int, vq_tyOk_str, vq_tyOk_list, vq_tyOk_tuple, vq_tyOk_dict, vq_eq_bl, vq_eq_int, vq_ne_bl, vq_ne_int, vq_len_lst, vq_len_tup, vq_len_str, vq_c_lt, vq_c_le, vq_c_gt, vq_c_ge, vq_a_int, vq_a_str, vq_a_lst, vq_a_tup, vq_s_int, vq_ix_lst, vq_ix_tup, vq_m_int, vq_o_int, vq_f_int, vq_int_int, vq_int_bl, vq_str_int, vq_ix_str, vq_sl_strD, vq_sl_lstD, vq_sl_tupD]
          rw [in_sign]
          simpa [tl, isL, LET] using hk
        · simpa using h
  | non => simp only [body, dNext, dSeq, dRet, dRetN, dDrop, dIf, dSet, dSetO, dOwn, dRel, dApp, dAsg, dPar, dFor, fVar, fC, fNil, fCons, fCall, fCB, fOp, fTst, fAnd, fOr, fNot, fAndV, fOrV, fNotV, fIf, fTup, fLst, fCh, fSl, fNoP, fPart, fSeqL, fSeqT, fSigns, fRng1, fZip, fLc, fS1, fYes, opn, bln, Sl.op, Sl.bl, OD.d, List.map_cons, List.map_nil, List.append_nil, List.nil_append, List.cons_append, List.replicate, List.length_cons, List.length_nil, List.getElem?_cons_zero, List.getElem?_cons_succ, List.set_cons_zero, List.set_cons_succ, Nat.reduceAdd, Nat.reduceSub, if_true, ite_true, if_false, Bool.false_eq_true, Bool.not_true, Bool.not_false, true_and, wipeE, gtName, gtTup, gtCons, gtNil, setE, setD, reduceIte, Bool.or_true, Bool.true_or, Bool.or_false, Bool.false_or, Bool.and_true, Bool.and_false, Bool.or_self, Bool.true_and, Bool.false_and, beq_self_eq_true, vq_isi_non, vq_isiT_non, vq_is_non, vq_isN_non, vq_ty_non_bool, vq_ty_non_int, vq_ty_non_str, vq_ty_non_list, vq_ty_non_tuple, vq_ty_non_dict, vq_isi_bl, vq_isiT_bl, vq_is_bl, vq_isN_bl, vq_ty_bl_bool, vq_ty_bl_int, vq_ty_bl_str, vq_ty_bl_list, vq_ty_bl_tuple, vq_ty_bl_dict, vq_isi_int, vq_isiT_int, vq_is_int, vq_isN_int, vq_ty_int_bool, vq_ty_int_int, vq_ty_int_str, vq_ty_int_list, vq_ty_int_tuple, vq_ty_int_dict, vq_isi_str, vq_isiT_str, vq_is_str, vq_isN_str, vq_ty_str_bool, vq_ty_str_int, vq_ty_str_str, vq_ty_str_list, vq_ty_str_tuple, vq_ty_str_dict, vq_isi_lst, vq_isiT_lst, vq_is_lst, vq_isN_lst, vq_ty_lst_bool, vq_ty_lst_int, vq_ty_lst_str, vq_ty_lst_list, vq_ty_lst_tuple, vq_ty_lst_dict, vq_isi_tup, vq_isiT_tup, vq_is_tup, vq_isN_tup, vq_ty_tup_bool, vq_ty_tup_int, vq_ty_tup_str, vq_ty_tup_list, vq_ty_tup_tuple, vq_ty_tup_dict, vq_tyOk_bool, vq_tyOk_int, vq_tyOk_str, vq_tyOk_list, vq_tyOk_tuple, vq_tyOk_dict, vq_eq_bl, vq_eq_int, vq_ne_bl, vq_ne_int, vq_len_lst, vq_len_tup, vq_len_str, vq_c_lt, vq_c_le, vq_c_gt, vq_c_ge, vq_a_int, vq_a_str, vq_a_lst, vq_a_tup, vq_s_int, vq_ix_lst, vq_ix_tup, vq_m_int, vq_o_int, vq_f_int, vq_int_int, vq_int_bl, vq_str_int, vq_ix_str, vq_sl_strD, vq_sl_lstD, vq_sl_tupD]; exact h
  | bl b => simp only [body, dNext, dSeq, dRet, dRetN, dDrop, dIf, dSet, dSetO, dOwn, dRel, dApp, dAsg, dPar, dFor, fVar, fC, fNil, fCons, fCall, fCB, fOp, fTst, fAnd, fOr, fNot, fAndV, fOrV, fNotV, fIf, fTup, fLst, fCh, fSl, fNoP, fPart, fSeqL, fSeqT, fSigns, fRng1, fZip, fLc, fS1, fYes, opn, bln, Sl.op, Sl.bl, OD.d, List.map_cons, List.map_nil, List.append_nil, List.nil_append, List.cons_append, List.replicate, List.length_cons, List.length_nil, List.getElem?_cons_zero, List.getElem?_cons_succ, List.set_cons_zero, List.set_cons_succ, Nat.reduceAdd, Nat.reduceSub, if_true, ite_true, if_false, Bool.false_eq_true, Bool.not_true, Bool.not_false, true_and, wipeE, gtName, gtTup, gtCons, gtNil, setE, setD, reduceIte, Bool.or_true, Bool.true_or, Bool.or_false, Bool.false_or, Bool.and_true, Bool.and_false, Bool.or_self, Bool.true_and, Bool.false_and, beq_self_eq_true, vq_isi_non, vq_isiT_non, vq_is_non, vq_isN_non, vq_ty_non_bool, vq_ty_non_int, vq_ty_non_str, vq_ty_non_list, vq_ty_non_tuple, vq_ty_non_dict, vq_isi_bl, vq_isiT_bl, vq_is_bl, vq_isN_bl, vq_ty_bl_bool, vq_ty_bl_int, vq_ty_bl_str, vq_ty_bl_list, vq_ty_bl_tuple, vq_ty_bl_dict, vq_isi_int, vq_isiT_int, vq_is_int, vq_isN_int, vq_ty_int_bool, vq_ty_int_int, vq_ty_int_str, vq_ty_int_list, vq_ty_int_tuple, vq_ty_int_dict, vq_isi_str, vq_isiT_str, vq_is_str, vq_isN_str, vq_ty_str_bool, vq_ty_str_int, vq_ty_str_str, vq_ty_str_list, vq_ty_str_tuple, vq_ty_str_dict, vq_isi_lst, vq_isiT_lst, vq_is_lst, vq_isN_lst, vq_ty_lst_bool, vq_ty_lst_int, vq_ty_lst_str, vq_ty_lst_list, vq_ty_lst_tuple, vq_ty_lst_dict, vq_isi_tup, vq_isiT_tup, vq_is_tup, vq_isN_tup, vq_ty_tup_bool, vq_ty_tup_int, vq_ty_tup_str, vq_ty_tup_list, vq_ty_tup_tuple, vq_ty_tup_dict, vq_tyOk_bool, vq_tyOk_int, vq_tyOk_str, vq_tyOk_list, vq_tyOk_tuple, vq_tyOk_dict, vq_eq_bl, vq_eq_int, vq_ne_bl, vq_ne_int, vq_len_lst, vq_len_tup, vq_len_str, vq_c_lt, vq_c_le, vq_c_gt, vq_c_ge, vq_a_int, vq_a_str, vq_a_lst, vq_a_tup, vq_s_int, vq_ix_lst, vq_ix_tup, vq_m_int, vq_o_int, vq_f_int, vq_int_int, vq_int_bl, vq_str_int, vq_ix_str, vq_sl_strD, vq_sl_lstD, vq_sl_tupD]; exact h
  | int b => simp only [body, dNext, dSeq, dRet, dRetN, dDrop, dIf, dSet, dSetO, dOwn, dRel, dApp, dAsg, dPar, dFor, fVar, fC, fNil, fCons, fCall, fCB, fOp, fTst, fAnd, fOr, fNot, fAndV, fOrV, fNotV, fIf, fTup, fLst, fCh, fSl, fNoP, fPart, fSeqL, fSeqT, fSigns, fRng1, fZip, fLc, fS1, fYes, opn, bln, Sl.op, Sl.bl, OD.d, List.map_cons, List.map_nil, List.append_nil, List.nil_append, List.cons_append, List.replicate, List.length_cons, List.length_nil, List.getElem?_cons_zero, List.getElem?_cons_succ, List.set_cons_zero, List.set_cons_succ, Nat.reduceAdd, Nat.reduceSub, if_true, ite_true, if_false, Bool.false_eq_true, Bool.not_true, Bool.not_false, true_and, wipeE, gtName, gtTup, gtCons, gtNil, setE, setD, reduceIte, Bool.or_true, Bool.true_or, Bool.or_false, Bool.false_or, Bool.and_true, Bool.and_false, Bool.or_self, Bool.true_and, Bool.false_and, beq_self_eq_true, vq_isi_non, vq_isiT_non, vq_is_non, vq_isN_non, vq_ty_non_bool, vq_ty_non_int, vq_ty_non_str, vq_ty_non_list, vq_ty_non_tuple, vq_ty_non_dict, vq_isi_bl, vq_isiT_bl, vq_is_bl, vq_isN_bl, vq_ty_bl_bool, vq_ty_bl_int, vq_ty_bl_str, vq_ty_bl_list, vq_ty_bl_tuple, vq_ty_bl_dict, vq_isi_int, vq_isiT_int, vq_is_int, vq_isN_int, vq_ty_int_bool, vq_ty_int_int, vq_ty_int_str, vq_ty_int_list, vq_ty_int_tuple, vq_ty_int_dict, vq_isi_str, vq_isiT_str, vq_is_str, vq_isN_str, vq_ty_str_bool, vq_ty_str_int, vq_ty_str_str, vq_ty_str_list, vq_ty_str_tuple, vq_ty_str_dict, vq_isi_lst, vq_isiT_lst, vq_is_lst, vq_isN_lst, vq_ty_lst_bool, vq_ty_lst_int, vq_ty_lst_str, vq_ty_lst_list, vq_ty_lst_tuple, vq_ty_lst_dict, vq_isi_tup, vq_isiT_tup, vq_is_tup, vq_isN_tup, vq_ty_tup_bool, vq_ty_tup_int, vq_ty_tup_str, vq_ty_tup_list, vq_ty_tup_tuple, vq_ty_tup_dict, vq_tyOk_bool, vq_tyOk_int, vq_tyOk_str, vq_tyOk_list, vq_tyOk_tuple, vq_tyOk_dict, vq_eq_bl, vq_eq_int, vq_ne_bl, vq_ne_int, vq_len_lst, vq_len_tup, vq_len_str, vq_c_lt, vq_c_le, vq_c_gt, vq_c_ge, vq_a_int, vq_a_str, vq_a_lst, vq_a_tup, vq_s_int, vq_ix_lst, vq_ix_tup, vq_m_int, vq_o_int, vq_f_int, vq_int_int, vq_int_bl, vq_str_int, vq_ix_str, vq_sl_strD, vq_sl_lstD, vq_sl_tupD]; exact h
  | lst b => simp only [body, dNext, dSeq, dRet, dRetN, dDrop, dIf, dSet, dSetO, dOwn, dRel, dApp, dAsg, dPar, dFor, fVar, fC, fNil, fCons, fCall, fCB, fOp, fTst, fAnd, fOr, fNot, fAndV, fOrV, fNotV, fIf, fTup, fLst, fCh, fSl, fNoP, fPart, fSeqL, fSeqT, fSigns, fRng1, fZip, fLc, fS1, fYes, opn, bln, Sl.op, Sl.bl, OD.d, List.map_cons, List.map_nil, List.append_nil, List.nil_append, List.cons_append, List.replicate, List.length_cons, List.length_nil, List.getElem?_cons_zero, List.getElem?_cons_succ, List.set_cons_zero, List.set_cons_succ, Nat.reduceAdd, Nat.reduceSub, if_true, ite_true, if_false, Bool.false_eq_true, Bool.not_true, Bool.not_false, true_and, wipeE, gtName, gtTup, gtCons, gtNil, setE, setD, reduceIte, Bool.or_true, Bool.true_or, Bool.or_false, Bool.false_or, Bool.and_true, Bool.and_false, Bool.or_self, Bool.true_and, Bool.false_and, beq_self_eq_true, vq_isi_non, vq_isiT_non, vq_is_non, vq_isN_non, vq_ty_non_bool, vq_ty_non_int, vq_ty_non_str, vq_ty_non_list, vq_ty_non_tuple, vq_ty_non_dict, vq_isi_bl, vq_isiT_bl, vq_is_bl, vq_isN_bl, vq_ty_bl_bool, vq_ty_bl_int, vq_ty_bl_str, vq_ty_bl_list, vq_ty_bl_tuple, vq_ty_bl_dict, vq_isi_int, vq_isiT_int, vq_is_int, vq_isN_int, vq_ty_int_bool, vq_ty_int_int, vq_ty_int_str, vq_ty_int_list, vq_ty_int_tuple, vq_ty_int_dict, vq_isi_str, vq_isiT_str, vq_is_str, vq_isN_str, vq_ty_str_bool, vq_ty_str_int, vq_ty_str_str, vq_ty_str_list, vq_ty_str_tuple, vq_ty_str_dict, vq_isi_lst, vq_isiT_lst, vq_is_lst, vq_isN_lst, vq_ty_lst_bool, vq_ty_lst_int, vq_ty_lst_str, vq_ty_lst_list, vq_ty_lst_tuple, vq_ty_lst_dict, vq_isi_tup, vq_isiT_tup, vq_is_tup, vq_isN_tup, vq_ty_tup_bool, vq_ty_tup_int, vq_ty_tup_str, vq_ty_tup_list, vq_ty_tup_tuple, vq_ty_tup_dict, vq_tyOk_bool, vq_tyOk_int, vq_tyOk_str, vq_tyOk_list, vq_tyOk_tuple, vq_tyOk_dict, vq_eq_bl, vq_eq_int, vq_ne_bl, vq_ne_int, vq_len_lst, vq_len_tup, vq_len_str, vq_c_lt, vq_c_le, vq_c_gt, vq_c_ge, vq_a_int, vq_a_str, vq_a_lst, vq_a_tup, vq_s_int, vq_ix_lst, vq_ix_tup, vq_m_int, vq_o_int, vq_f_int, vq_int_int, vq_int_bl, vq_str_int, vq_ix_str, vq_sl_strD, vq_sl_lstD, vq_sl_tupD]; exact h
  | tup b => simp only [body, dNext, dSeq, dRet, dRetN, dDrop, dIf, dSet, dSetO, dOwn, dRel, dApp, dAsg, dPar, dFor, fVar, fC, fNil, fCons, fCall, fCB, fOp, fTst, fAnd, fOr, fNot, fAndV, fOrV, fNotV, fIf, fTup, fLst, fCh, fSl, fNoP, fPart, fSeqL, fSeqT, fSigns, fRng1, fZip, fLc, fS1, fYes, opn, bln, Sl.op, Sl.bl, OD.d, List.map_cons, List.map_nil, List.append_nil, List.nil_append, List.cons_append, List.replicate, List.length_cons, List.length_nil, List.getElem?_cons_zero, List.getElem?_cons_succ, List.set_cons_zero, List.set_cons_succ, Nat.reduceAdd, Nat.reduceSub, if_true, ite_true, if_false, Bool.false_eq_true, Bool.not_true, Bool.not_false, true_and, wipeE, gtName, gtTup, gtCons, gtNil, setE, setD, reduceIte, Bool.or_true, Bool.true_or, Bool.or_false, Bool.false_or, Bool.and_true, Bool.and_false, Bool.or_self, Bool.true_and, Bool.false_and, beq_self_eq_true, vq_isi_non, vq_isiT_non, vq_is_non, vq_isN_non, vq_ty_non_bool, vq_ty_non_int, vq_ty_non_str, vq_ty_non_list, vq_ty_non_tuple, vq_ty_non_dict, vq_isi_bl, vq_isiT_bl, vq_is_bl, vq_isN_bl, vq_ty_bl_bool, vq_ty_bl_int, vq_ty_bl_str, vq_ty_bl_list, vq_ty_bl_tuple, vq_ty_bl_dict, vq_isi_int, vq_isiT_int, vq_is_int, vq_isN_int, vq_ty_int_bool, vq_ty_int_int, vq_ty_int_str, vq_ty_int_list, vq_ty_int_tuple, vq_ty_int_dict, vq_isi_str, vq_isiT_str, vq_is_str, vq_isN_str, vq_ty_str_bool, vq_ty_str_int, vq_ty_str_str, vq_ty_str_list, vq_ty_str_tuple, vq_ty_str_dict, vq_isi_lst, vq_isiT_lst, vq_is_lst, vq_isN_lst, vq_ty_lst_bool, vq_ty_lst_int, vq_ty_lst_str, vq_ty_lst_list, vq_ty_lst_tuple, vq_ty_lst_dict, vq_isi_tup, vq_isiT_tup, vq_is_tup, vq_isN_tup, vq_ty_tup_bool, vq_ty_tup_int, vq_ty_tup_str, vq_ty_tup_list, vq_ty_tup_tuple, vq_ty_tup_dict, vq_tyOk_bool, vq_tyOk_int, vq_tyOk_str, vq_tyOk_list, vq_tyOk_tuple, vq_tyOk_dict, vq_eq_bl, vq_eq_int, vq_ne_bl, vq_ne_int, vq_len_lst, vq_len_tup, vq_len_str, vq_c_lt, vq_c_le, vq_c_gt, vq_c_ge, vq_a_int, vq_a_str, vq_a_lst, vq_a_tup, vq_s_int, vq_ix_lst, vq_ix_tup, vq_m_int, vq_o_int, vq_f_int, vq_int_int, vq_int_bl, vq_str_int, vq_ix_str, vq_sl_strD, vq_sl_lstD, vq_sl_tupD]; exact h
  | _ => cases hd
/-- a word of letters -/
def Lw (lo hi : Nat) (w : Str) : Prop := lo ≤ w.length ∧ w.length ≤ hi ∧ ∀ c ∈ tl w, c ∈ tl LET
theorem len26 : LET.length = 26 := rfl
theorem sl1 : 1000 ≤ sizeLine := by decide
theorem strsD_of {R : Nat → D → Prop} {acc : List D} (h : ∀ (i : Nat) y, acc[i]? = some y → ∃ c ∈ tl LET, y = .str ⟨#[c]⟩) : ∃ cs : List Nat, acc = cs.map (fun c => D.str ⟨#[c]⟩) ∧ ∀ c ∈ cs, c ∈ tl LET := by
  induction acc with
  | nil => exact ⟨[], rfl, fun c h => absurd h (by simp)⟩
  | cons d acc ih =>
    obtain ⟨cs, h1, h2⟩ := ih fun i y e => h (i + 1) y (by simpa using e)
    obtain ⟨c, h3, h4⟩ := h 0 d rfl
    exact ⟨c :: cs, by rw [h4, h1]; rfl, fun x hx => (List.mem_cons.mp hx).elim (fun z => z ▸ h3) (h2 x)⟩
theorem strsD_map : ∀ xs : List Str, strsD (xs.map D.str) = some xs
  | [] => rfl
  | x :: xs => by rw [List.map_cons, strsD, strsD_map xs]; rfl
theorem strsD_one (cs : List Nat) : strsD (cs.map fun c => D.str ⟨#[c]⟩) = some (cs.map fun c => (⟨#[c]⟩ : Str)) := by
  rw [← strsD_map, List.map_map]
  rfl
theorem sum_one (cs : List Nat) : ((cs.map fun c => (⟨#[c]⟩ : Str)).map fun x => x.length).sum = cs.length := by
  induction cs with
  | nil => rfl
  | cons c cs ih =>
    rw [List.map_cons, List.map_cons, List.sum_cons, ih, List.length_cons]
    show 1 + cs.length = _
    omega
theorem join_one (cs : List Nat) : tl (Str.join "" (cs.map fun c => (⟨#[c]⟩ : Str))) = cs := by
  rw [tl_join0, List.map_map]
  induction cs with
  | nil => rfl
  | cons c cs ih =>
    rw [List.map_cons, List.flatten_cons, ih]
    rfl
theorem new_names_ok {n : Int} (h0 : 0 ≤ n) (h1 : n < 1000) (h : ∀ ws : List D, ws.length = n.toNat → (∀ d ∈ ws, ∃ w, d = .str w ∧ Lw 1 5 w) → P (.lst ws)) : m__law_new_names K (some (a, c)) [.con (.ref a), .int n] P := by
  have hs := sl1
  refine ⟨rfl, ?_⟩
  simp only [body, dNext, dSeq, dRet, dRetN, dDrop, dIf, dSet, dSetO, dOwn, dRel, dApp, dAsg, dPar, dFor, fVar, fC, fNil, fCons, fCall, fCB, fOp, fTst, fAnd, fOr, fNot, fAndV, fOrV, fNotV, fIf, fTup, fLst, fCh, fSl, fNoP, fPart, fSeqL, fSeqT, fSigns, fRng1, fZip, fLc, fS1, fYes, opn, bln, Sl.op, Sl.bl, OD.d, List.map_cons, List.map_nil, List.append_nil, List.nil_append, List.cons_append, List.replicate, List.length_cons, List.length_nil, List.getElem?_cons_zero, List.getElem?_cons_succ, List.set_cons_zero, List.set_cons_succ, Nat.reduceAdd, Nat.reduceSub, if_true, ite_true, if_false, Bool.false_eq_true, Bool.not_true, Bool.not_false, true_and, wipeE, gtName, gtTup, gtCons, gtNil, setE, setD, reduceIte, Bool.or_true, Bool.true_or, Bool.or_false, Bool.false_or, Bool.and_true, Bool.and_false, Bool.or_self, Bool.true_and, Bool.false_and, beq_self_eq_true, vq_isi_non, vq_isiT_non, vq_is_non, vq_isN_non, vq_ty_non_bool, vq_ty_non_int, vq_ty_non_str, vq_ty_non_list, vq_ty_non_tuple, vq_ty_non_dict, vq_isi_bl, vq_isiT_bl, vq_is_bl, vq_isN_bl, vq_ty_bl_bool, vq_ty_bl_int, vq_ty_bl_str, vq_ty_bl_list, vq_ty_bl_tuple, vq_ty_bl_dict, vq_isi_int, vq_isiT_int, vq_is_int, vq_isN_int, vq_ty_int_bool, vq_ty_int_int, vq_ty_int_str, vq_ty_int_list, vq_ty_int_tuple, vq_ty_int_dict, vq_isi_str, vq_isiT_str, vq_is_str, vq_isN_str, vq_ty_str_bool, vq_ty_str_int, vq_ty_str_str, vq_ty_str_list, vq_ty_str_tuple, vq_ty_str_dict, vq_isi_lst, vq_isiT_lst, vq_is_lst, vq_isN_lst, vq_ty_lst_bool, vq_ty_lst_int, vq_ty_lst_str, vq_ty_lst_list, vq_ty_lst_tuple, vq_ty_lst_dict, vq_isi_tup, vq_isiT_tup, vq_is_tup, vq_isN_tup, vq_ty_tup_bool, vq_ty_tup_int, vq_ty_tup_str, vq_ty_tup_list, vq_ty_tup_tuple, vq_ty_tup_dict, vq_tyOk_bool, vq_tyOk_int, vq_tyOk_str, vq_tyOk_list, vq_tyOk_tuple, vq_tyOk_dict, vq_eq_bl, vq_eq_int, vq_ne_bl, vq_ne_int, vq_len_lst, vq_len_tup, vq_len_str, vq_c_lt, vq_c_le, vq_c_gt, vq_c_ge, vq_a_int, vq_a_str, vq_a_lst, vq_a_tup, vq_s_int, vq_ix_lst, vq_ix_tup, vq_m_int, vq_o_int, vq_f_int, vq_int_int, vq_int_bl, vq_str_int, vq_ix_str, vq_sl_strD, vq_sl_lstD, vq_sl_tupD]
  refine take_ok (by omega) (by omega) fun m hm0 hm1 => ⟨by omega, by omega, ?_⟩
  refine compL_all (R := fun _ y => ∃ c ∈ tl LET, y = .str ⟨#[c]⟩) _ (by rw [ints_len]; omega) (fun i d hd k hk => ?_) fun acc hl hr => ?_
  · simp only [body, dNext, dSeq, dRet, dRetN, dDrop, dIf, dSet, dSetO, dOwn, dRel, dApp, dAsg, dPar, dFor, fVar, fC, fNil, fCons, fCall, fCB, fOp, fTst, fAnd, fOr, fNot, fAndV, fOrV, fNotV, fIf, fTup, fLst, fCh, fSl, fNoP, fPart, fSeqL, fSeqT, fSigns, fRng1, fZip, fLc, fS1, fYes, opn, bln, Sl.op, Sl.bl, OD.d, List.map_cons, List.map_nil, List.append_nil, List.nil_append, List.cons_append, List.replicate, List.length_cons, List.length_nil, List.getElem?_cons_zero, List.getElem?_cons_succ, List.set_cons_zero, List.set_cons_succ, Nat.reduceAdd, Nat.reduceSub, if_true, ite_true, if_false, Bool.false_eq_true, Bool.not_true, Bool.not_false, true_and, wipeE, gtName, gtTup, gtCons, gtNil, setE, setD, reduceIte, Bool.or_true, Bool.true_or, Bool.or_false, Bool.false_or, Bool.and_true, Bool.and_false, Bool.or_self, Bool.true_and, Bool.false_and, beq_self_eq_true, vq_isi_non, vq_isiT_non, vq_is_non, vq_isN_non, vq_ty_non_bool, vq_ty_non_int, vq_ty_non_str, vq_ty_non_list, vq_ty_non_tuple, vq_ty_non_dict, vq_isi_bl, vq_isiT_bl, vq_is_bl, vq_isN_bl, vq_ty_bl_bool, vq_ty_bl_int, vq_ty_bl_str, vq_ty_bl_list, vq_ty_bl_tuple, vq_ty_bl_dict, vq_isi_int, vq_isiT_int, vq_is_int, vq_isN_int, vq_ty_int_bool, vq_ty_int_int, vq_ty_int_str, vq_ty_int_list, vq_ty_int_tuple, vq_ty_int_dict, vq_isi_str, vq_isiT_str, vq_is_str, vq_isN_str, vq_ty_str_bool, vq_ty_str_int, vq_ty_str_str, vq_ty_str_list, vq_ty_str_tuple, vq_ty_str_dict, vq_isi_lst, vq_isiT_lst, vq_is_lst, vq_isN_lst, vq_ty_lst_bool, vq_ty_lst_int, vq_ty_lst_str, vq_ty_lst_list, vq_ty_lst_tuple, vq_ty_lst_dict, vq_isi_tup, vq_isiT_tup, vq_is_tup, vq_isN_tup, vq_ty_tup_bool, vq_ty_tup_int, vq_ty_tup_str, vq_ty_tup_list, vq_ty_tup_tuple, vq_ty_tup_dict, vq_tyOk_bool, vq_tyOk_int, vq_tyOk_str, vq_tyOk_list, vq_tyOk_tuple, vq_tyOk_dict, vq_eq_bl, vq_eq_int, vq_ne_bl, vq_ne_int, vq_len_lst, vq_len_tup, vq_len_str, vq_c_lt, vq_c_le, vq_c_gt, vq_c_ge, vq_a_int, vq_a_str, vq_a_lst, vq_a_tup, vq_s_int, vq_ix_lst, vq_ix_tup, vq_m_int, vq_o_int, vq_f_int, vq_int_int, vq_int_bl, vq_str_int, vq_ix_str, vq_sl_strD, vq_sl_lstD, vq_sl_tupD]
    exact of_str (by decide) (by decide) fun x hx => hk _ ⟨x, hx, rfl⟩
  obtain ⟨cs, rfl, hcs⟩ := strsD_of (R := fun _ _ => True) hr
  rw [List.length_map, ints_len] at hl
  refine ⟨_, strsD_one cs, ?_, ?_⟩
  · rw [sum_one, List.length_map, show (Str.length "") = 0 from rfl]
    omega
  generalize hstem : Str.join "" (cs.map fun c => (⟨#[c]⟩ : Str)) = stem
  have ht : tl stem = cs := by rw [← hstem]; exact join_one cs
  have hsl : stem.length = cs.length := by rw [len_tl, ht]
  simp only [body, dNext, dSeq, dRet, dRetN, dDrop, dIf, dSet, dSetO, dOwn, dRel, dApp, dAsg, dPar, dFor, fVar, fC, fNil, fCons, fCall, fCB, fOp, fTst, fAnd, fOr, fNot, fAndV, fOrV, fNotV, fIf, fTup, fLst, fCh, fSl, fNoP, fPart, fSeqL, fSeqT, fSigns, fRng1, fZip, fLc, fS1, fYes, opn, bln, Sl.op, Sl.bl, OD.d, List.map_cons, List.map_nil, List.append_nil, List.nil_append, List.cons_append, List.replicate, List.length_cons, List.length_nil, List.getElem?_cons_zero, List.getElem?_cons_succ, List.set_cons_zero, List.set_cons_succ, Nat.reduceAdd, Nat.reduceSub, if_true, ite_true, if_false, Bool.false_eq_true, Bool.not_true, Bool.not_false, true_and, wipeE, gtName, gtTup, gtCons, gtNil, setE, setD, reduceIte, Bool.or_true, Bool.true_or, Bool.or_false, Bool.false_or, Bool.and_true, Bool.and_false, Bool.or_self, Bool.true_and, Bool.false_and, beq_self_eq_true, vq_isi_non, vq_isiT_non, vq_is_non, vq_isN_non, vq_ty_non_bool, vq_ty_non_int, vq_ty_non_str, vq_ty_non_list, vq_ty_non_tuple, vq_ty_non_dict, vq_isi_bl, vq_isiT_bl, vq_is_bl, vq_isN_bl, vq_ty_bl_bool, vq_ty_bl_int, vq_ty_bl_str, vq_ty_bl_list, vq_ty_bl_tuple, vq_ty_bl_dict, vq_isi_int, vq_isiT_int, vq_is_int, vq_isN_int, vq_ty_int_bool, vq_ty_int_int, vq_ty_int_str, vq_ty_int_list, vq_ty_int_tuple, vq_ty_int_dict, vq_isi_str, vq_isiT_str, vq_is_str, vq_isN_str, vq_ty_str_bool, vq_ty_str_int, vq_ty_str_str, vq_ty_str_list, vq_ty_str_tuple, vq_ty_str_dict, vq_isi_lst, vq_isiT_lst, vq_is_lst, vq_isN_lst, vq_ty_lst_bool, vq_ty_lst_int, vq_ty_lst_str, vq_ty_lst_list, vq_ty_lst_tuple, vq_ty_lst_dict, vq_isi_tup, vq_isiT_tup, vq_is_tup, vq_isN_tup, vq_ty_tup_bool, vq_ty_tup_int, vq_ty_tup_str, vq_ty_tup_list, vq_ty_tup_tuple, vq_ty_tup_dict, vq_tyOk_bool, vq_tyOk_int, vq_tyOk_str, vq_tyOk_list, vq_tyOk_tuple, vq_tyOk_dict, vq_eq_bl, vq_eq_int, vq_ne_bl, vq_ne_int, vq_len_lst, vq_len_tup, vq_len_str, vq_c_lt, vq_c_le, vq_c_gt, vq_c_ge, vq_a_int, vq_a_str, vq_a_lst, vq_a_tup, vq_s_int, vq_ix_lst, vq_ix_tup, vq_m_int, vq_o_int, vq_f_int, vq_int_int, vq_int_bl, vq_str_int, vq_ix_str, vq_sl_strD, vq_sl_lstD, vq_sl_tupD]
  refine ⟨by omega, take_ok (by omega) (by omega) fun at_ ha0 ha1 => ?_⟩
  refine take_ok (by omega) (by omega) fun fi hf0 hf1 => ⟨sz2, ?_⟩
  refine ⟨by omega, by omega, ?_⟩
  refine compL_all (R := fun _ y => ∃ w, y = .str w ∧ Lw 1 5 w) _ (by rw [ints_len]; omega) (fun i d hd k hk => ?_) fun acc hl2 hr2 => ?_
  · obtain ⟨hi, rfl⟩ := ints_get hd
    simp only [body, dNext, dSeq, dRet, dRetN, dDrop, dIf, dSet, dSetO, dOwn, dRel, dApp, dAsg, dPar, dFor, fVar, fC, fNil, fCons, fCall, fCB, fOp, fTst, fAnd, fOr, fNot, fAndV, fOrV, fNotV, fIf, fTup, fLst, fCh, fSl, fNoP, fPart, fSeqL, fSeqT, fSigns, fRng1, fZip, fLc, fS1, fYes, opn, bln, Sl.op, Sl.bl, OD.d, List.map_cons, List.map_nil, List.append_nil, List.nil_append, List.cons_append, List.replicate, List.length_cons, List.length_nil, List.getElem?_cons_zero, List.getElem?_cons_succ, List.set_cons_zero, List.set_cons_succ, Nat.reduceAdd, Nat.reduceSub, if_true, ite_true, if_false, Bool.false_eq_true, Bool.not_true, Bool.not_false, true_and, wipeE, gtName, gtTup, gtCons, gtNil, setE, setD, reduceIte, Bool.or_true, Bool.true_or, Bool.or_false, Bool.false_or, Bool.and_true, Bool.and_false, Bool.or_self, Bool.true_and, Bool.false_and, beq_self_eq_true, vq_isi_non, vq_isiT_non, vq_is_non, vq_isN_non, vq_ty_non_bool, vq_ty_non_int, vq_ty_non_str, vq_ty_non_list, vq_ty_non_tuple, vq_ty_non_dict, vq_isi_bl, vq_isiT_bl, vq_is_bl, vq_isN_bl, vq_ty_bl_bool, vq_ty_bl_int, vq_ty_bl_str, vq_ty_bl_list, vq_ty_bl_tuple, vq_ty_bl_dict, vq_isi_int, vq_isiT_int, vq_is_int, vq_isN_int, vq_ty_int_bool, vq_ty_int_int, vq_ty_int_str, vq_ty_int_list, vq_ty_int_tuple, vq_ty_int_dict, vq_isi_str, vq_isiT_str, vq_is_str, vq_isN_str, vq_ty_str_bool, vq_ty_str_int, vq_ty_str_str, vq_ty_str_list, vq_ty_str_tuple, vq_ty_str_dict, vq_isi_lst, vq_isiT_lst, vq_is_lst, vq_isN_lst, vq_ty_lst_bool, vq_ty_lst_int, vq_ty_lst_str, vq_ty_lst_list, vq_ty_lst_tuple, vq_ty_lst_dict, vq_isi_tup, vq_isiT_tup, vq_is_tup, vq_isN_tup, vq_ty_tup_bool, vq_ty_tup_int, vq_ty_tup_str, vq_ty_tup_list, vq_ty_tup_tuple, vq_ty_tup_dict, vq_tyOk_bool, vq_tyOk_int, vq_tyOk_str, vq_tyOk_list, vq_tyOk_tuple, vq_tyOk_dict, vq_eq_bl, vq_eq_int, vq_ne_bl, vq_ne_int, vq_len_lst, vq_len_tup, vq_len_str, vq_c_lt, vq_c_le, vq_c_gt, vq_c_ge, vq_a_int, vq_a_str, vq_a_lst, vq_a_tup, vq_s_int, vq_ix_lst, vq_ix_tup, vq_m_int, vq_o_int, vq_f_int, vq_int_int, vq_int_bl, vq_str_int, vq_ix_str, vq_sl_strD, vq_sl_lstD, vq_sl_tupD]
    refine ⟨by omega, Or.inl ⟨by omega, by omega⟩, by omega, by decide, ?_⟩
    have e0 : 0 ≤ (fi + 7 * (0 + (i : Int))) % 26 := Int.emod_nonneg _ (by omega)
    have e1 : (fi + 7 * (0 + (i : Int))) % 26 < 26 := Int.emod_lt_of_pos _ (by omega)
    obtain ⟨x, h1, _, h3⟩ := atI_in (ds := tl LET) e0 (by rw [← len_tl, len26]; exact e1)
    refine ⟨x, h1, ?_⟩
    have q1 : tl (cutS stem none (some at_)) = cs.take at_.toNat := by rw [tl_cut_toI _ ha0, ht]
    have q2 : tl (cutS stem (some at_) none) = cs.drop at_.toNat := by rw [tl_cut_fromI _ ha0, ht]
    have l1 : (cutS stem none (some at_)).length = min at_.toNat cs.length := by rw [len_tl, q1, List.length_take]
    have l2 : (cutS stem (some at_) none).length = cs.length - at_.toNat := by rw [len_tl, q2, List.length_drop]
    have l3 : Str.length ⟨#[x]⟩ = 1 := rfl
    have q3 : tl (cutS stem none (some at_) ++ ⟨#[x]⟩ ++ cutS stem (some at_) none) = cs.take at_.toNat ++ [x] ++ cs.drop at_.toNat := by rw [tl_append, tl_append, q1, q2]
    have l4 : (cutS stem none (some at_) ++ ⟨#[x]⟩).length = min at_.toNat cs.length + 1 := by rw [len_tl, tl_append, q1, List.length_append, List.length_take]; rfl
    have l5 : (cs.take at_.toNat ++ [x] ++ cs.drop at_.toNat).length = cs.length + 1 := by simp only [List.length_append, List.length_take, List.length_drop, List.length_cons, List.length_nil]; omega
    refine ⟨by omega, by omega, by omega, hk _ ⟨_, rfl, ?_, ?_, ?_⟩⟩
    · rw [len_tl, q3, l5]; omega
    · rw [len_tl, q3, l5]; omega
    · rw [q3]
      intro y hy
      simp only [List.mem_append, List.mem_singleton] at hy
      rcases hy with (hy | rfl) | hy
      · exact hcs y (List.mem_of_mem_take hy)
      · exact h3
      · exact hcs y (List.mem_of_mem_drop hy)
  · rw [ints_len] at hl2
    refine h acc (by simpa using hl2) fun d hd => ?_
    obtain ⟨i, hi, e⟩ := List.getElem_of_mem hd
    exact hr2 i d (by rw [← e]; exact List.getElem?_eq_getElem hi)
theorem okS {x : Str} (h : x.length ≤ 1000) : okD (.str x) = true := decide_eq_true (Nat.le_trans h sl1)
theorem odd_ok (h : ∀ d, okD d = true → isn d = false → P d) : m__law_odd K (some (a, c)) [.con (.ref a)] P := by
  refine ⟨rfl, ?_⟩
  repeat (first | with_reducible refine i_c ?_ | with_reducible refine i_op ?_ | with_reducible refine i_tst ?_ | with_reducible refine i_and ?_ | with_reducible refine i_or ?_ | with_reducible refine i_not ?_ | with_reducible refine i_andV ?_ | with_reducible refine i_orV ?_ | with_reducible refine i_notV ?_ | with_reducible refine i_if ?_ | with_reducible refine i_nil ?_ | with_reducible refine i_cons ?_ | with_reducible refine i_tup ?_ | with_reducible refine i_lst ?_ | with_reducible refine i_cb ?_ | with_reducible refine i_call ?_ | with_reducible refine i_ch ?_ | with_reducible refine i_sl ?_ | with_reducible refine i_noP ?_ | with_reducible refine i_part ?_ | with_reducible refine i_s1 ?_ | with_reducible refine i_seqL ?_ | with_reducible refine i_seqT ?_ | with_reducible refine i_signs ?_ | with_reducible refine i_rng1 ?_ | with_reducible refine i_zip ?_ | with_reducible refine i_lc ?_ | with_reducible refine i_yes ?_ | with_reducible refine i_next ?_ | with_reducible refine i_seq ?_ | with_reducible refine i_ret ?_ | with_reducible refine i_retN ?_ | with_reducible refine i_drop ?_ | with_reducible refine i_ifS ?_ | with_reducible refine i_set ?_ | with_reducible refine i_setO ?_ | with_reducible refine i_own ?_ | with_reducible refine i_asg ?_ | with_reducible refine i_par ?_ | with_reducible refine i_for ?_ | with_reducible refine i_ifT ?_ | with_reducible refine i_ifF ?_ | ((with_reducible apply i_var); · rfl) | ((with_reducible apply i_rel); · rfl) | ((with_reducible apply i_app); · rfl) | with_reducible refine (vq_isi_non).mpr ?_ | with_reducible refine (vq_isiT_non).mpr ?_ | with_reducible refine (vq_is_non).mpr ?_ | with_reducible refine (vq_isN_non).mpr ?_ | with_reducible refine (vq_isi_bl).mpr ?_ | with_reducible refine (vq_isiT_bl).mpr ?_ | with_reducible refine (vq_is_bl).mpr ?_ | with_reducible refine (vq_isN_bl).mpr ?_ | with_reducible refine (vq_isi_int).mpr ?_ | with_reducible refine (vq_isiT_int).mpr ?_ | with_reducible refine (vq_is_int).mpr ?_ | with_reducible refine (vq_isN_int).mpr ?_ | with_reducible refine (vq_isi_str).mpr ?_ | with_reducible refine (vq_isiT_str).mpr ?_ | with_reducible refine (vq_is_str).mpr ?_ | with_reducible refine (vq_isN_str).mpr ?_ | with_reducible refine (vq_isi_lst).mpr ?_ | with_reducible refine (vq_isiT_lst).mpr ?_ | with_reducible refine (vq_is_lst).mpr ?_ | with_reducible refine (vq_isN_lst).mpr ?_ | with_reducible refine (vq_isi_tup).mpr ?_ | with_reducible refine (vq_isiT_tup).mpr ?_ | with_reducible refine (vq_is_tup).mpr ?_ | with_reducible refine (vq_isN_tup).mpr ?_ | with_reducible refine (vq_eq_bl).mpr ?_ | with_reducible refine (vq_eq_int).mpr ?_ | with_reducible refine (vq_ne_bl).mpr ?_ | with_reducible refine (vq_ne_int).mpr ?_ | with_reducible refine (vq_len_lst).mpr ?_ | with_reducible refine (vq_len_tup).mpr ?_ | with_reducible refine (vq_len_str).mpr ?_ | with_reducible refine (vq_c_lt).mpr ?_ | with_reducible refine (vq_c_le).mpr ?_ | with_reducible refine (vq_c_gt).mpr ?_ | with_reducible refine (vq_c_ge).mpr ?_ | with_reducible refine (vq_a_int).mpr ?_ | with_reducible refine (vq_a_str).mpr ?_ | with_reducible refine (vq_a_lst).mpr ?_ | with_reducible refine (vq_a_tup).mpr ?_ | with_reducible refine (vq_s_int).mpr ?_ | with_reducible refine (vq_ix_lst).mpr ?_ | with_reducible refine (vq_ix_tup).mpr ?_ | with_reducible refine (vq_m_int).mpr ?_ | with_reducible refine (vq_o_int).mpr ?_ | with_reducible refine (vq_f_int).mpr ?_ | with_reducible refine (vq_int_int).mpr ?_ | with_reducible refine (vq_int_bl).mpr ?_ | with_reducible refine (vq_str_int).mpr ?_ | with_reducible refine (vq_ix_str).mpr ?_ | with_reducible refine (vq_sl_strD).mpr ?_ | with_reducible refine (vq_sl_lstD).mpr ?_ | with_reducible refine (vq_sl_tupD).mpr ?_ | ((with_reducible apply i_tyok); · rfl) | ((with_reducible refine i_szl ?_ ?_); · (first | decide | omega | (simp only [List.length_cons, List.length_nil]; omega))) | dsimp only [List.cons_append, List.nil_append, List.append_nil, gtName, gtTup, gtCons, gtNil, setE, setD, Bool.not_true, Bool.not_false, if_true, if_false, List.length_cons, List.length_nil, Nat.reduceAdd, vq_ty_non_bool, vq_ty_non_int, vq_ty_non_str, vq_ty_non_list, vq_ty_non_tuple, vq_ty_non_dict, vq_ty_bl_bool, vq_ty_bl_int, vq_ty_bl_str, vq_ty_bl_list, vq_ty_bl_tuple, vq_ty_bl_dict, vq_ty_int_bool, vq_ty_int_int, vq_ty_int_str, vq_ty_int_list, vq_ty_int_tuple, vq_ty_int_dict, vq_ty_str_bool, vq_ty_str_int, vq_ty_str_str, vq_ty_str_list, vq_ty_str_tuple, vq_ty_str_dict, vq_ty_lst_bool, vq_ty_lst_int, vq_ty_lst_str, vq_ty_lst_list, vq_ty_lst_tuple, vq_ty_lst_dict, vq_ty_tup_bool, vq_ty_tup_int, vq_ty_tup_str, vq_ty_tup_list, vq_ty_tup_tuple, vq_ty_tup_dict, vq_tyOk_bool, vq_tyOk_int, vq_tyOk_str, vq_tyOk_list, vq_tyOk_tuple, vq_tyOk_dict])
  refine of_lst (by simp) (by simp only [List.length_cons, List.length_nil]; omega) fun d hd => ?_
  simp only [List.mem_cons, List.not_mem_nil, or_false] at hd
  rcases hd with rfl | rfl | rfl | rfl | rfl | rfl | rfl | rfl | rfl | rfl | rfl <;> first | exact h _ (okS (by decide +kernel)) (by decide +kernel) | exact h _ rfl rfl
theorem shs {l : List Nat} (h : ∀ x ∈ l, x < 128) : toPs (l.map fun c => D.str ⟨#[c]⟩) = some (l.map fun c => PyData.str ⟨#[c]⟩) ∧ PyData.canLayAll0 (l.map fun c => PyData.str ⟨#[c]⟩) = true ∧ PyData.depthAll (l.map fun c => PyData.str ⟨#[c]⟩) = 0 := by
  induction l with
  | nil => exact ⟨rfl, rfl, rfl⟩
  | cons x l ih =>
    obtain ⟨h1, h2, h3⟩ := ih fun y hy => h y (List.mem_cons_of_mem _ hy)
    have hx := h x (List.mem_cons_self ..)
    refine ⟨?_, ?_, ?_⟩
    · rw [List.map_cons, toPs, toP, h1, List.map_cons]
    · rw [List.map_cons, PyData.canLayAll0, h2, PyData.canLay0, PyData.strOk]
      simp
      omega
    · rw [List.map_cons, PyData.depthAll, h3, PyData.depth]
      rfl
theorem eq_nil {l : List Nat} (h : ∀ x ∈ l, x < 128) (q : P (.bl l.isEmpty)) : dEq (.lst (l.map fun c => D.str ⟨#[c]⟩)) (.lst []) P := by
  obtain ⟨h1, h2, h3⟩ := shs h
  refine ⟨.list (l.map fun c => PyData.str ⟨#[c]⟩), .list [], ?_, ?_, ?_⟩
  · unfold shD toP
    rw [h1]
    simp only [Option.map_some, SeqAt.shaped, PyData.canLay0, h2, PyData.depth, h3]
    rfl
  · rfl
  · cases l with
    | nil => exact q
    | cons x l => exact q
theorem Lw.add {w t : Str} {lo hi k : Nat} (h : Lw lo hi w) (ht : t.length ≤ k) (hl : ∀ c ∈ tl t, c ∈ tl LET) : Lw lo (hi + k) (w ++ t) := by
  have e : (w ++ t).length = w.length + t.length := by rw [len_tl, len_tl w, len_tl t, tl_append, List.length_append]
  refine ⟨by rw [e]; exact Nat.le_trans h.1 (Nat.le_add_right _ _), by rw [e]; exact Nat.add_le_add h.2.1 ht, fun c hc => ?_⟩
  rw [tl_append] at hc
  exact (List.mem_append.mp hc).elim (h.2.2 c) (hl c)
theorem isn_lw {w : Str} (h : Lw 1 6 w) : isn (.str w) = true := by
  have h1 := h.1
  have h2 := h.2.1
  simp only [isn, decide_eq_true h1, decide_eq_true h2, Bool.true_and]
  exact List.all_eq_true.mpr fun c hc => decide_eq_true (h.2.2 c hc)
theorem add_len (x y : Str) : (x ++ y).length = x.length + y.length := by rw [len_tl, len_tl x, len_tl y, tl_append, List.length_append]
def T1 (t : Str) : Prop := t.length ≤ 6 ∧ ∀ c ∈ tl t, c < 128
theorem let128 : ∀ c ∈ tl LET, c < 128 := by decide +kernel
theorem filt_signs (x : Str) : ((signs x).filter (fun d => match d with | .str x => (tl x).all fun c => !isL c | _ => false)).map id = ((tl x).filter fun c => !isL c).map fun c => D.str ⟨#[c]⟩ := by
  unfold signs
  rw [List.map_id, List.filter_map]
  congr 1
  refine List.filter_congr fun c _ => ?_
  simp [tl]
theorem all_filt (l : List Nat) : l.all isL = (l.filter fun c => !isL c).isEmpty := by
  induction l with
  | nil => rfl
  | cons x l ih =>
    rw [List.all_cons, List.filter_cons]
    cases h : isL x with
    | true => simpa using ih
    | false => simp
/-- the end of a turn -/
def body8 (K : PySem.W.Frag) (g : GG) (k : DSt → Prop) : DSt → Prop := dIf (fNot (fTst (fCall (m__law_same K 8) g (fCons (fLst (fCons (fCall (m_is_name K) g (fCons (fVar 4) fNil) []) (fCons (fCall (m_is_name K) g (fCons (fVar 7) fNil) []) (fCons (fCall (m_is_name K) g (fCons (fLst (fCons (fVar 4) fNil)) fNil) []) (fCons (fCall (m_is_name K) g (fCons (fCall (m__law_odd K) g (fCons (fVar 1) fNil) []) fNil) []) fNil))))) (fCons (fLst (fCons (fC (.bl true)) (fCons (fVar 8) (fCons (fC (.bl false)) (fCons (fC (.bl false)) fNil))))) fNil)) []))) (dRet (fC (.bl false))) dNext { nx := k, rt := lawE.rt }
theorem hT (K : PySem.W.Frag) (a c : Addr) : m_law K (some (a, c)) lawE ((List.replicate 12 Sl.no).set 1 (.pu (.con (.ref a)))) := by
  unfold m_law
  repeat (first | with_reducible refine i_c ?_ | with_reducible refine i_op ?_ | with_reducible refine i_tst ?_ | with_reducible refine i_and ?_ | with_reducible refine i_or ?_ | with_reducible refine i_not ?_ | with_reducible refine i_andV ?_ | with_reducible refine i_orV ?_ | with_reducible refine i_notV ?_ | with_reducible refine i_if ?_ | with_reducible refine i_nil ?_ | with_reducible refine i_cons ?_ | with_reducible refine i_tup ?_ | with_reducible refine i_lst ?_ | with_reducible refine i_cb ?_ | with_reducible refine i_call ?_ | with_reducible refine i_ch ?_ | with_reducible refine i_sl ?_ | with_reducible refine i_noP ?_ | with_reducible refine i_part ?_ | with_reducible refine i_s1 ?_ | with_reducible refine i_seqL ?_ | with_reducible refine i_seqT ?_ | with_reducible refine i_signs ?_ | with_reducible refine i_rng1 ?_ | with_reducible refine i_zip ?_ | with_reducible refine i_lc ?_ | with_reducible refine i_yes ?_ | with_reducible refine i_next ?_ | with_reducible refine i_seq ?_ | with_reducible refine i_ret ?_ | with_reducible refine i_retN ?_ | with_reducible refine i_drop ?_ | with_reducible refine i_ifS ?_ | with_reducible refine i_set ?_ | with_reducible refine i_setO ?_ | with_reducible refine i_own ?_ | with_reducible refine i_asg ?_ | with_reducible refine i_par ?_ | with_reducible refine i_for ?_ | with_reducible refine i_ifT ?_ | with_reducible refine i_ifF ?_ | ((with_reducible apply i_var); · rfl) | ((with_reducible apply i_rel); · rfl) | ((with_reducible apply i_app); · rfl) | with_reducible refine (vq_isi_non).mpr ?_ | with_reducible refine (vq_isiT_non).mpr ?_ | with_reducible refine (vq_is_non).mpr ?_ | with_reducible refine (vq_isN_non).mpr ?_ | with_reducible refine (vq_isi_bl).mpr ?_ | with_reducible refine (vq_isiT_bl).mpr ?_ | with_reducible refine (vq_is_bl).mpr ?_ | with_reducible refine (vq_isN_bl).mpr ?_ | with_reducible refine (vq_isi_int).mpr ?_ | with_reducible refine (vq_isiT_int).mpr ?_ | with_reducible refine (vq_is_int).mpr ?_ | with_reducible refine (vq_isN_int).mpr ?_ | with_reducible refine (vq_isi_str).mpr ?_ | with_reducible refine (vq_isiT_str).mpr ?_ | with_reducible refine (vq_is_str).mpr ?_ | with_reducible refine (vq_isN_str).mpr ?_ | with_reducible refine (vq_isi_lst).mpr ?_ | with_reducible refine (vq_isiT_lst).mpr ?_ | with_reducible refine (vq_is_lst).mpr ?_ | with_reducible refine (vq_isN_lst).mpr ?_ | with_reducible refine (vq_isi_tup).mpr ?_ | with_reducible refine (vq_isiT_tup).mpr ?_ | with_reducible refine (vq_is_tup).mpr ?_ | with_reducible refine (vq_isN_tup).mpr ?_ | with_reducible refine (vq_eq_bl).mpr ?_ | with_reducible refine (vq_eq_int).mpr ?_ | with_reducible refine (vq_ne_bl).mpr ?_ | with_reducible refine (vq_ne_int).mpr ?_ | with_reducible refine (vq_len_lst).mpr ?_ | with_reducible refine (vq_len_tup).mpr ?_ | with_reducible refine (vq_len_str).mpr ?_ | with_reducible refine (vq_c_lt).mpr ?_ | with_reducible refine (vq_c_le).mpr ?_ | with_reducible refine (vq_c_gt).mpr ?_ | with_reducible refine (vq_c_ge).mpr ?_ | with_reducible refine (vq_a_int).mpr ?_ | with_reducible refine (vq_a_str).mpr ?_ | with_reducible refine (vq_a_lst).mpr ?_ | with_reducible refine (vq_a_tup).mpr ?_ | with_reducible refine (vq_s_int).mpr ?_ | with_reducible refine (vq_ix_lst).mpr ?_ | with_reducible refine (vq_ix_tup).mpr ?_ | with_reducible refine (vq_m_int).mpr ?_ | with_reducible refine (vq_o_int).mpr ?_ | with_reducible refine (vq_f_int).mpr ?_ | with_reducible refine (vq_int_int).mpr ?_ | with_reducible refine (vq_int_bl).mpr ?_ | with_reducible refine (vq_str_int).mpr ?_ | with_reducible refine (vq_ix_str).mpr ?_ | with_reducible refine (vq_sl_strD).mpr ?_ | with_reducible refine (vq_sl_lstD).mpr ?_ | with_reducible refine (vq_sl_tupD).mpr ?_ | ((with_reducible apply i_tyok); · rfl) | ((with_reducible refine i_szl ?_ ?_); · (first | decide | omega | (simp only [List.length_cons, List.length_nil]; omega))) | dsimp only [List.cons_append, List.nil_append, List.append_nil, gtName, gtTup, gtCons, gtNil, setE, setD, Bool.not_true, Bool.not_false, if_true, if_false, List.length_cons, List.length_nil, Nat.reduceAdd, vq_ty_non_bool, vq_ty_non_int, vq_ty_non_str, vq_ty_non_list, vq_ty_non_tuple, vq_ty_non_dict, vq_ty_bl_bool, vq_ty_bl_int, vq_ty_bl_str, vq_ty_bl_list, vq_ty_bl_tuple, vq_ty_bl_dict, vq_ty_int_bool, vq_ty_int_int, vq_ty_int_str, vq_ty_int_list, vq_ty_int_tuple, vq_ty_int_dict, vq_ty_str_bool, vq_ty_str_int, vq_ty_str_str, vq_ty_str_list, vq_ty_str_tuple, vq_ty_str_dict, vq_ty_lst_bool, vq_ty_lst_int, vq_ty_lst_str, vq_ty_lst_list, vq_ty_lst_tuple, vq_ty_lst_dict, vq_ty_tup_bool, vq_ty_tup_int, vq_ty_tup_str, vq_ty_tup_list, vq_ty_tup_tuple, vq_ty_tup_dict, vq_tyOk_bool, vq_tyOk_int, vq_tyOk_str, vq_tyOk_list, vq_tyOk_tuple, vq_tyOk_dict])
  refine ⟨by omega, by omega, ?_⟩
  refine forL_rule _ (fun _ s => ∃ x3 x4 x5 x6 x7 x8, s = [.no, .pu (.con (.ref a)), .pu (.str LET), x3, x4, x5, x6, x7, x8, .no, .no, .no]) (fun i d s k hd hs hk => ?_) ⟨_, _, _, _, _, _, rfl⟩ fun s hs => ?_
  · obtain ⟨x3, x4, x5, x6, x7, x8, rfl⟩ := hs
    repeat (first | with_reducible refine i_c ?_ | with_reducible refine i_op ?_ | with_reducible refine i_tst ?_ | with_reducible refine i_and ?_ | with_reducible refine i_or ?_ | with_reducible refine i_not ?_ | with_reducible refine i_andV ?_ | with_reducible refine i_orV ?_ | with_reducible refine i_notV ?_ | with_reducible refine i_if ?_ | with_reducible refine i_nil ?_ | with_reducible refine i_cons ?_ | with_reducible refine i_tup ?_ | with_reducible refine i_lst ?_ | with_reducible refine i_cb ?_ | with_reducible refine i_call ?_ | with_reducible refine i_ch ?_ | with_reducible refine i_sl ?_ | with_reducible refine i_noP ?_ | with_reducible refine i_part ?_ | with_reducible refine i_s1 ?_ | with_reducible refine i_seqL ?_ | with_reducible refine i_seqT ?_ | with_reducible refine i_signs ?_ | with_reducible refine i_rng1 ?_ | with_reducible refine i_zip ?_ | with_reducible refine i_lc ?_ | with_reducible refine i_yes ?_ | with_reducible refine i_next ?_ | with_reducible refine i_seq ?_ | with_reducible refine i_ret ?_ | with_reducible refine i_retN ?_ | with_reducible refine i_drop ?_ | with_reducible refine i_ifS ?_ | with_reducible refine i_set ?_ | with_reducible refine i_setO ?_ | with_reducible refine i_own ?_ | with_reducible refine i_asg ?_ | with_reducible refine i_par ?_ | with_reducible refine i_for ?_ | with_reducible refine i_ifT ?_ | with_reducible refine i_ifF ?_ | ((with_reducible apply i_var); · rfl) | ((with_reducible apply i_rel); · rfl) | ((with_reducible apply i_app); · rfl) | with_reducible refine (vq_isi_non).mpr ?_ | with_reducible refine (vq_isiT_non).mpr ?_ | with_reducible refine (vq_is_non).mpr ?_ | with_reducible refine (vq_isN_non).mpr ?_ | with_reducible refine (vq_isi_bl).mpr ?_ | with_reducible refine (vq_isiT_bl).mpr ?_ | with_reducible refine (vq_is_bl).mpr ?_ | with_reducible refine (vq_isN_bl).mpr ?_ | with_reducible refine (vq_isi_int).mpr ?_ | with_reducible refine (vq_isiT_int).mpr ?_ | with_reducible refine (vq_is_int).mpr ?_ | with_reducible refine (vq_isN_int).mpr ?_ | with_reducible refine (vq_isi_str).mpr ?_ | with_reducible refine (vq_isiT_str).mpr ?_ | with_reducible refine (vq_is_str).mpr ?_ | with_reducible refine (vq_isN_str).mpr ?_ | with_reducible refine (vq_isi_lst).mpr ?_ | with_reducible refine (vq_isiT_lst).mpr ?_ | with_reducible refine (vq_is_lst).mpr ?_ | with_reducible refine (vq_isN_lst).mpr ?_ | with_reducible refine (vq_isi_tup).mpr ?_ | with_reducible refine (vq_isiT_tup).mpr ?_ | with_reducible refine (vq_is_tup).mpr ?_ | with_reducible refine (vq_isN_tup).mpr ?_ | with_reducible refine (vq_eq_bl).mpr ?_ | with_reducible refine (vq_eq_int).mpr ?_ | with_reducible refine (vq_ne_bl).mpr ?_ | with_reducible refine (vq_ne_int).mpr ?_ | with_reducible refine (vq_len_lst).mpr ?_ | with_reducible refine (vq_len_tup).mpr ?_ | with_reducible refine (vq_len_str).mpr ?_ | with_reducible refine (vq_c_lt).mpr ?_ | with_reducible refine (vq_c_le).mpr ?_ | with_reducible refine (vq_c_gt).mpr ?_ | with_reducible refine (vq_c_ge).mpr ?_ | with_reducible refine (vq_a_int).mpr ?_ | with_reducible refine (vq_a_str).mpr ?_ | with_reducible refine (vq_a_lst).mpr ?_ | with_reducible refine (vq_a_tup).mpr ?_ | with_reducible refine (vq_s_int).mpr ?_ | with_reducible refine (vq_ix_lst).mpr ?_ | with_reducible refine (vq_ix_tup).mpr ?_ | with_reducible refine (vq_m_int).mpr ?_ | with_reducible refine (vq_o_int).mpr ?_ | with_reducible refine (vq_f_int).mpr ?_ | with_reducible refine (vq_int_int).mpr ?_ | with_reducible refine (vq_int_bl).mpr ?_ | with_reducible refine (vq_str_int).mpr ?_ | with_reducible refine (vq_ix_str).mpr ?_ | with_reducible refine (vq_sl_strD).mpr ?_ | with_reducible refine (vq_sl_lstD).mpr ?_ | with_reducible refine (vq_sl_tupD).mpr ?_ | ((with_reducible apply i_tyok); · rfl) | ((with_reducible refine i_szl ?_ ?_); · (first | decide | omega | (simp only [List.length_cons, List.length_nil]; omega))) | dsimp only [List.cons_append, List.nil_append, List.append_nil, gtName, gtTup, gtCons, gtNil, setE, setD, Bool.not_true, Bool.not_false, if_true, if_false, List.length_cons, List.length_nil, Nat.reduceAdd, vq_ty_non_bool, vq_ty_non_int, vq_ty_non_str, vq_ty_non_list, vq_ty_non_tuple, vq_ty_non_dict, vq_ty_bl_bool, vq_ty_bl_int, vq_ty_bl_str, vq_ty_bl_list, vq_ty_bl_tuple, vq_ty_bl_dict, vq_ty_int_bool, vq_ty_int_int, vq_ty_int_str, vq_ty_int_list, vq_ty_int_tuple, vq_ty_int_dict, vq_ty_str_bool, vq_ty_str_int, vq_ty_str_str, vq_ty_str_list, vq_ty_str_tuple, vq_ty_str_dict, vq_ty_lst_bool, vq_ty_lst_int, vq_ty_lst_str, vq_ty_lst_list, vq_ty_lst_tuple, vq_ty_lst_dict, vq_ty_tup_bool, vq_ty_tup_int, vq_ty_tup_str, vq_ty_tup_list, vq_ty_tup_tuple, vq_ty_tup_dict, vq_tyOk_bool, vq_tyOk_int, vq_tyOk_str, vq_tyOk_list, vq_tyOk_tuple, vq_tyOk_dict])
    refine new_names_ok (by omega) (by omega) fun ws hl hw => ?_
    obtain ⟨d0, rfl⟩ : ∃ d0, ws = [d0] := List.length_eq_one_iff.mp (by simpa using hl)
    obtain ⟨w, rfl, hw0⟩ := hw d0 (List.mem_cons_self ..)
    have hw2 := hw0.2.1
    repeat (first | with_reducible refine i_c ?_ | with_reducible refine i_op ?_ | with_reducible refine i_tst ?_ | with_reducible refine i_and ?_ | with_reducible refine i_or ?_ | with_reducible refine i_not ?_ | with_reducible refine i_andV ?_ | with_reducible refine i_orV ?_ | with_reducible refine i_notV ?_ | with_reducible refine i_if ?_ | with_reducible refine i_nil ?_ | with_reducible refine i_cons ?_ | with_reducible refine i_tup ?_ | with_reducible refine i_lst ?_ | with_reducible refine i_cb ?_ | with_reducible refine i_call ?_ | with_reducible refine i_ch ?_ | with_reducible refine i_sl ?_ | with_reducible refine i_noP ?_ | with_reducible refine i_part ?_ | with_reducible refine i_s1 ?_ | with_reducible refine i_seqL ?_ | with_reducible refine i_seqT ?_ | with_reducible refine i_signs ?_ | with_reducible refine i_rng1 ?_ | with_reducible refine i_zip ?_ | with_reducible refine i_lc ?_ | with_reducible refine i_yes ?_ | with_reducible refine i_next ?_ | with_reducible refine i_seq ?_ | with_reducible refine i_ret ?_ | with_reducible refine i_retN ?_ | with_reducible refine i_drop ?_ | with_reducible refine i_ifS ?_ | with_reducible refine i_set ?_ | with_reducible refine i_setO ?_ | with_reducible refine i_own ?_ | with_reducible refine i_asg ?_ | with_reducible refine i_par ?_ | with_reducible refine i_for ?_ | with_reducible refine i_ifT ?_ | with_reducible refine i_ifF ?_ | ((with_reducible apply i_var); · rfl) | ((with_reducible apply i_rel); · rfl) | ((with_reducible apply i_app); · rfl) | with_reducible refine (vq_isi_non).mpr ?_ | with_reducible refine (vq_isiT_non).mpr ?_ | with_reducible refine (vq_is_non).mpr ?_ | with_reducible refine (vq_isN_non).mpr ?_ | with_reducible refine (vq_isi_bl).mpr ?_ | with_reducible refine (vq_isiT_bl).mpr ?_ | with_reducible refine (vq_is_bl).mpr ?_ | with_reducible refine (vq_isN_bl).mpr ?_ | with_reducible refine (vq_isi_int).mpr ?_ | with_reducible refine (vq_isiT_int).mpr ?_ | with_reducible refine (vq_is_int).mpr ?_ | with_reducible refine (vq_isN_int).mpr ?_ | with_reducible refine (vq_isi_str).mpr ?_ | with_reducible refine (vq_isiT_str).mpr ?_ | with_reducible refine (vq_is_str).mpr ?_ | with_reducible refine (vq_isN_str).mpr ?_ | with_reducible refine (vq_isi_lst).mpr ?_ | with_reducible refine (vq_isiT_lst).mpr ?_ | with_reducible refine (vq_is_lst).mpr ?_ | with_reducible refine (vq_isN_lst).mpr ?_ | with_reducible refine (vq_isi_tup).mpr ?_ | with_reducible refine (vq_isiT_tup).mpr ?_ | with_reducible refine (vq_is_tup).mpr ?_ | with_reducible refine (vq_isN_tup).mpr ?_ | with_reducible refine (vq_eq_bl).mpr ?_ | with_reducible refine (vq_eq_int).mpr ?_ | with_reducible refine (vq_ne_bl).mpr ?_ | with_reducible refine (vq_ne_int).mpr ?_ | with_reducible refine (vq_len_lst).mpr ?_ | with_reducible refine (vq_len_tup).mpr ?_ | with_reducible refine (vq_len_str).mpr ?_ | with_reducible refine (vq_c_lt).mpr ?_ | with_reducible refine (vq_c_le).mpr ?_ | with_reducible refine (vq_c_gt).mpr ?_ | with_reducible refine (vq_c_ge).mpr ?_ | with_reducible refine (vq_a_int).mpr ?_ | with_reducible refine (vq_a_str).mpr ?_ | with_reducible refine (vq_a_lst).mpr ?_ | with_reducible refine (vq_a_tup).mpr ?_ | with_reducible refine (vq_s_int).mpr ?_ | with_reducible refine (vq_ix_lst).mpr ?_ | with_reducible refine (vq_ix_tup).mpr ?_ | with_reducible refine (vq_m_int).mpr ?_ | with_reducible refine (vq_o_int).mpr ?_ | with_reducible refine (vq_f_int).mpr ?_ | with_reducible refine (vq_int_int).mpr ?_ | with_reducible refine (vq_int_bl).mpr ?_ | with_reducible refine (vq_str_int).mpr ?_ | with_reducible refine (vq_ix_str).mpr ?_ | with_reducible refine (vq_sl_strD).mpr ?_ | with_reducible refine (vq_sl_lstD).mpr ?_ | with_reducible refine (vq_sl_tupD).mpr ?_ | ((with_reducible apply i_tyok); · rfl) | ((with_reducible refine i_szl ?_ ?_); · (first | decide | omega | (simp only [List.length_cons, List.length_nil]; omega))) | dsimp only [List.cons_append, List.nil_append, List.append_nil, gtName, gtTup, gtCons, gtNil, setE, setD, Bool.not_true, Bool.not_false, if_true, if_false, List.length_cons, List.length_nil, Nat.reduceAdd, vq_ty_non_bool, vq_ty_non_int, vq_ty_non_str, vq_ty_non_list, vq_ty_non_tuple, vq_ty_non_dict, vq_ty_bl_bool, vq_ty_bl_int, vq_ty_bl_str, vq_ty_bl_list, vq_ty_bl_tuple, vq_ty_bl_dict, vq_ty_int_bool, vq_ty_int_int, vq_ty_int_str, vq_ty_int_list, vq_ty_int_tuple, vq_ty_int_dict, vq_ty_str_bool, vq_ty_str_int, vq_ty_str_str, vq_ty_str_list, vq_ty_str_tuple, vq_ty_str_dict, vq_ty_lst_bool, vq_ty_lst_int, vq_ty_lst_str, vq_ty_lst_list, vq_ty_lst_tuple, vq_ty_lst_dict, vq_ty_tup_bool, vq_ty_tup_int, vq_ty_tup_str, vq_ty_tup_list, vq_ty_tup_tuple, vq_ty_tup_dict, vq_tyOk_bool, vq_tyOk_int, vq_tyOk_str, vq_tyOk_list, vq_tyOk_tuple, vq_tyOk_dict])
    refine ⟨_, rfl, ?_⟩
    repeat (first | with_reducible refine i_c ?_ | with_reducible refine i_op ?_ | with_reducible refine i_tst ?_ | with_reducible refine i_and ?_ | with_reducible refine i_or ?_ | with_reducible refine i_not ?_ | with_reducible refine i_andV ?_ | with_reducible refine i_orV ?_ | with_reducible refine i_notV ?_ | with_reducible refine i_if ?_ | with_reducible refine i_nil ?_ | with_reducible refine i_cons ?_ | with_reducible refine i_tup ?_ | with_reducible refine i_lst ?_ | with_reducible refine i_cb ?_ | with_reducible refine i_call ?_ | with_reducible refine i_ch ?_ | with_reducible refine i_sl ?_ | with_reducible refine i_noP ?_ | with_reducible refine i_part ?_ | with_reducible refine i_s1 ?_ | with_reducible refine i_seqL ?_ | with_reducible refine i_seqT ?_ | with_reducible refine i_signs ?_ | with_reducible refine i_rng1 ?_ | with_reducible refine i_zip ?_ | with_reducible refine i_lc ?_ | with_reducible refine i_yes ?_ | with_reducible refine i_next ?_ | with_reducible refine i_seq ?_ | with_reducible refine i_ret ?_ | with_reducible refine i_retN ?_ | with_reducible refine i_drop ?_ | with_reducible refine i_ifS ?_ | with_reducible refine i_set ?_ | with_reducible refine i_setO ?_ | with_reducible refine i_own ?_ | with_reducible refine i_asg ?_ | with_reducible refine i_par ?_ | with_reducible refine i_for ?_ | with_reducible refine i_ifT ?_ | with_reducible refine i_ifF ?_ | ((with_reducible apply i_var); · rfl) | ((with_reducible apply i_rel); · rfl) | ((with_reducible apply i_app); · rfl) | with_reducible refine (vq_isi_non).mpr ?_ | with_reducible refine (vq_isiT_non).mpr ?_ | with_reducible refine (vq_is_non).mpr ?_ | with_reducible refine (vq_isN_non).mpr ?_ | with_reducible refine (vq_isi_bl).mpr ?_ | with_reducible refine (vq_isiT_bl).mpr ?_ | with_reducible refine (vq_is_bl).mpr ?_ | with_reducible refine (vq_isN_bl).mpr ?_ | with_reducible refine (vq_isi_int).mpr ?_ | with_reducible refine (vq_isiT_int).mpr ?_ | with_reducible refine (vq_is_int).mpr ?_ | with_reducible refine (vq_isN_int).mpr ?_ | with_reducible refine (vq_isi_str).mpr ?_ | with_reducible refine (vq_isiT_str).mpr ?_ | with_reducible refine (vq_is_str).mpr ?_ | with_reducible refine (vq_isN_str).mpr ?_ | with_reducible refine (vq_isi_lst).mpr ?_ | with_reducible refine (vq_isiT_lst).mpr ?_ | with_reducible refine (vq_is_lst).mpr ?_ | with_reducible refine (vq_isN_lst).mpr ?_ | with_reducible refine (vq_isi_tup).mpr ?_ | with_reducible refine (vq_isiT_tup).mpr ?_ | with_reducible refine (vq_is_tup).mpr ?_ | with_reducible refine (vq_isN_tup).mpr ?_ | with_reducible refine (vq_eq_bl).mpr ?_ | with_reducible refine (vq_eq_int).mpr ?_ | with_reducible refine (vq_ne_bl).mpr ?_ | with_reducible refine (vq_ne_int).mpr ?_ | with_reducible refine (vq_len_lst).mpr ?_ | with_reducible refine (vq_len_tup).mpr ?_ | with_reducible refine (vq_len_str).mpr ?_ | with_reducible refine (vq_c_lt).mpr ?_ | with_reducible refine (vq_c_le).mpr ?_ | with_reducible refine (vq_c_gt).mpr ?_ | with_reducible refine (vq_c_ge).mpr ?_ | with_reducible refine (vq_a_int).mpr ?_ | with_reducible refine (vq_a_str).mpr ?_ | with_reducible refine (vq_a_lst).mpr ?_ | with_reducible refine (vq_a_tup).mpr ?_ | with_reducible refine (vq_s_int).mpr ?_ | with_reducible refine (vq_ix_lst).mpr ?_ | with_reducible refine (vq_ix_tup).mpr ?_ | with_reducible refine (vq_m_int).mpr ?_ | with_reducible refine (vq_o_int).mpr ?_ | with_reducible refine (vq_f_int).mpr ?_ | with_reducible refine (vq_int_int).mpr ?_ | with_reducible refine (vq_int_bl).mpr ?_ | with_reducible refine (vq_str_int).mpr ?_ | with_reducible refine (vq_ix_str).mpr ?_ | with_reducible refine (vq_sl_strD).mpr ?_ | with_reducible refine (vq_sl_lstD).mpr ?_ | with_reducible refine (vq_sl_tupD).mpr ?_ | ((with_reducible apply i_tyok); · rfl) | ((with_reducible refine i_szl ?_ ?_); · (first | decide | omega | (simp only [List.length_cons, List.length_nil]; omega))) | dsimp only [List.cons_append, List.nil_append, List.append_nil, gtName, gtTup, gtCons, gtNil, setE, setD, Bool.not_true, Bool.not_false, if_true, if_false, List.length_cons, List.length_nil, Nat.reduceAdd, vq_ty_non_bool, vq_ty_non_int, vq_ty_non_str, vq_ty_non_list, vq_ty_non_tuple, vq_ty_non_dict, vq_ty_bl_bool, vq_ty_bl_int, vq_ty_bl_str, vq_ty_bl_list, vq_ty_bl_tuple, vq_ty_bl_dict, vq_ty_int_bool, vq_ty_int_int, vq_ty_int_str, vq_ty_int_list, vq_ty_int_tuple, vq_ty_int_dict, vq_ty_str_bool, vq_ty_str_int, vq_ty_str_str, vq_ty_str_list, vq_ty_str_tuple, vq_ty_str_dict, vq_ty_lst_bool, vq_ty_lst_int, vq_ty_lst_str, vq_ty_lst_list, vq_ty_lst_tuple, vq_ty_lst_dict, vq_ty_tup_bool, vq_ty_tup_int, vq_ty_tup_str, vq_ty_tup_list, vq_ty_tup_tuple, vq_ty_tup_dict, vq_tyOk_bool, vq_tyOk_int, vq_tyOk_str, vq_tyOk_list, vq_tyOk_tuple, vq_tyOk_dict])
    refine of_lst (by simp) (by simp only [List.length_cons, List.length_nil]; omega) fun d1 hd1 => ?_
    obtain ⟨t, rfl, ht, htl⟩ : ∃ t : Str, d1 = .str t ∧ t.length ≤ 1 ∧ ∀ c ∈ tl t, c ∈ tl LET := by
      simp only [List.mem_cons, List.not_mem_nil, or_false] at hd1
      rcases hd1 with rfl | rfl
      · exact ⟨_, rfl, by decide +kernel, by decide +kernel⟩
      · exact ⟨_, rfl, by decide +kernel, by decide +kernel⟩
    have hW := hw0.add ht htl
    repeat (first | with_reducible refine i_c ?_ | with_reducible refine i_op ?_ | with_reducible refine i_tst ?_ | with_reducible refine i_and ?_ | with_reducible refine i_or ?_ | with_reducible refine i_not ?_ | with_reducible refine i_andV ?_ | with_reducible refine i_orV ?_ | with_reducible refine i_notV ?_ | with_reducible refine i_if ?_ | with_reducible refine i_nil ?_ | with_reducible refine i_cons ?_ | with_reducible refine i_tup ?_ | with_reducible refine i_lst ?_ | with_reducible refine i_cb ?_ | with_reducible refine i_call ?_ | with_reducible refine i_ch ?_ | with_reducible refine i_sl ?_ | with_reducible refine i_noP ?_ | with_reducible refine i_part ?_ | with_reducible refine i_s1 ?_ | with_reducible refine i_seqL ?_ | with_reducible refine i_seqT ?_ | with_reducible refine i_signs ?_ | with_reducible refine i_rng1 ?_ | with_reducible refine i_zip ?_ | with_reducible refine i_lc ?_ | with_reducible refine i_yes ?_ | with_reducible refine i_next ?_ | with_reducible refine i_seq ?_ | with_reducible refine i_ret ?_ | with_reducible refine i_retN ?_ | with_reducible refine i_drop ?_ | with_reducible refine i_ifS ?_ | with_reducible refine i_set ?_ | with_reducible refine i_setO ?_ | with_reducible refine i_own ?_ | with_reducible refine i_asg ?_ | with_reducible refine i_par ?_ | with_reducible refine i_for ?_ | with_reducible refine i_ifT ?_ | with_reducible refine i_ifF ?_ | ((with_reducible apply i_var); · rfl) | ((with_reducible apply i_rel); · rfl) | ((with_reducible apply i_app); · rfl) | with_reducible refine (vq_isi_non).mpr ?_ | with_reducible refine (vq_isiT_non).mpr ?_ | with_reducible refine (vq_is_non).mpr ?_ | with_reducible refine (vq_isN_non).mpr ?_ | with_reducible refine (vq_isi_bl).mpr ?_ | with_reducible refine (vq_isiT_bl).mpr ?_ | with_reducible refine (vq_is_bl).mpr ?_ | with_reducible refine (vq_isN_bl).mpr ?_ | with_reducible refine (vq_isi_int).mpr ?_ | with_reducible refine (vq_isiT_int).mpr ?_ | with_reducible refine (vq_is_int).mpr ?_ | with_reducible refine (vq_isN_int).mpr ?_ | with_reducible refine (vq_isi_str).mpr ?_ | with_reducible refine (vq_isiT_str).mpr ?_ | with_reducible refine (vq_is_str).mpr ?_ | with_reducible refine (vq_isN_str).mpr ?_ | with_reducible refine (vq_isi_lst).mpr ?_ | with_reducible refine (vq_isiT_lst).mpr ?_ | with_reducible refine (vq_is_lst).mpr ?_ | with_reducible refine (vq_isN_lst).mpr ?_ | with_reducible refine (vq_isi_tup).mpr ?_ | with_reducible refine (vq_isiT_tup).mpr ?_ | with_reducible refine (vq_is_tup).mpr ?_ | with_reducible refine (vq_isN_tup).mpr ?_ | with_reducible refine (vq_eq_bl).mpr ?_ | with_reducible refine (vq_eq_int).mpr ?_ | with_reducible refine (vq_ne_bl).mpr ?_ | with_reducible refine (vq_ne_int).mpr ?_ | with_reducible refine (vq_len_lst).mpr ?_ | with_reducible refine (vq_len_tup).mpr ?_ | with_reducible refine (vq_len_str).mpr ?_ | with_reducible refine (vq_c_lt).mpr ?_ | with_reducible refine (vq_c_le).mpr ?_ | with_reducible refine (vq_c_gt).mpr ?_ | with_reducible refine (vq_c_ge).mpr ?_ | with_reducible refine (vq_a_int).mpr ?_ | with_reducible refine (vq_a_str).mpr ?_ | with_reducible refine (vq_a_lst).mpr ?_ | with_reducible refine (vq_a_tup).mpr ?_ | with_reducible refine (vq_s_int).mpr ?_ | with_reducible refine (vq_ix_lst).mpr ?_ | with_reducible refine (vq_ix_tup).mpr ?_ | with_reducible refine (vq_m_int).mpr ?_ | with_reducible refine (vq_o_int).mpr ?_ | with_reducible refine (vq_f_int).mpr ?_ | with_reducible refine (vq_int_int).mpr ?_ | with_reducible refine (vq_int_bl).mpr ?_ | with_reducible refine (vq_str_int).mpr ?_ | with_reducible refine (vq_ix_str).mpr ?_ | with_reducible refine (vq_sl_strD).mpr ?_ | with_reducible refine (vq_sl_lstD).mpr ?_ | with_reducible refine (vq_sl_tupD).mpr ?_ | ((with_reducible apply i_tyok); · rfl) | ((with_reducible refine i_szl ?_ ?_); · (first | decide | omega | (simp only [List.length_cons, List.length_nil]; omega))) | dsimp only [List.cons_append, List.nil_append, List.append_nil, gtName, gtTup, gtCons, gtNil, setE, setD, Bool.not_true, Bool.not_false, if_true, if_false, List.length_cons, List.length_nil, Nat.reduceAdd, vq_ty_non_bool, vq_ty_non_int, vq_ty_non_str, vq_ty_non_list, vq_ty_non_tuple, vq_ty_non_dict, vq_ty_bl_bool, vq_ty_bl_int, vq_ty_bl_str, vq_ty_bl_list, vq_ty_bl_tuple, vq_ty_bl_dict, vq_ty_int_bool, vq_ty_int_int, vq_ty_int_str, vq_ty_int_list, vq_ty_int_tuple, vq_ty_int_dict, vq_ty_str_bool, vq_ty_str_int, vq_ty_str_str, vq_ty_str_list, vq_ty_str_tuple, vq_ty_str_dict, vq_ty_lst_bool, vq_ty_lst_int, vq_ty_lst_str, vq_ty_lst_list, vq_ty_lst_tuple, vq_ty_lst_dict, vq_ty_tup_bool, vq_ty_tup_int, vq_ty_tup_str, vq_ty_tup_list, vq_ty_tup_tuple, vq_ty_tup_dict, vq_tyOk_bool, vq_tyOk_int, vq_tyOk_str, vq_tyOk_list, vq_tyOk_tuple, vq_tyOk_dict])
    generalize w ++ t = word at hW ⊢
    have hW1 := hW.1
    have hW2 := hW.2.1
    repeat (first | with_reducible refine i_c ?_ | with_reducible refine i_op ?_ | with_reducible refine i_tst ?_ | with_reducible refine i_and ?_ | with_reducible refine i_or ?_ | with_reducible refine i_not ?_ | with_reducible refine i_andV ?_ | with_reducible refine i_orV ?_ | with_reducible refine i_notV ?_ | with_reducible refine i_if ?_ | with_reducible refine i_nil ?_ | with_reducible refine i_cons ?_ | with_reducible refine i_tup ?_ | with_reducible refine i_lst ?_ | with_reducible refine i_cb ?_ | with_reducible refine i_call ?_ | with_reducible refine i_ch ?_ | with_reducible refine i_sl ?_ | with_reducible refine i_noP ?_ | with_reducible refine i_part ?_ | with_reducible refine i_s1 ?_ | with_reducible refine i_seqL ?_ | with_reducible refine i_seqT ?_ | with_reducible refine i_signs ?_ | with_reducible refine i_rng1 ?_ | with_reducible refine i_zip ?_ | with_reducible refine i_lc ?_ | with_reducible refine i_yes ?_ | with_reducible refine i_next ?_ | with_reducible refine i_seq ?_ | with_reducible refine i_ret ?_ | with_reducible refine i_retN ?_ | with_reducible refine i_drop ?_ | with_reducible refine i_ifS ?_ | with_reducible refine i_set ?_ | with_reducible refine i_setO ?_ | with_reducible refine i_own ?_ | with_reducible refine i_asg ?_ | with_reducible refine i_par ?_ | with_reducible refine i_for ?_ | with_reducible refine i_ifT ?_ | with_reducible refine i_ifF ?_ | ((with_reducible apply i_var); · rfl) | ((with_reducible apply i_rel); · rfl) | ((with_reducible apply i_app); · rfl) | with_reducible refine (vq_isi_non).mpr ?_ | with_reducible refine (vq_isiT_non).mpr ?_ | with_reducible refine (vq_is_non).mpr ?_ | with_reducible refine (vq_isN_non).mpr ?_ | with_reducible refine (vq_isi_bl).mpr ?_ | with_reducible refine (vq_isiT_bl).mpr ?_ | with_reducible refine (vq_is_bl).mpr ?_ | with_reducible refine (vq_isN_bl).mpr ?_ | with_reducible refine (vq_isi_int).mpr ?_ | with_reducible refine (vq_isiT_int).mpr ?_ | with_reducible refine (vq_is_int).mpr ?_ | with_reducible refine (vq_isN_int).mpr ?_ | with_reducible refine (vq_isi_str).mpr ?_ | with_reducible refine (vq_isiT_str).mpr ?_ | with_reducible refine (vq_is_str).mpr ?_ | with_reducible refine (vq_isN_str).mpr ?_ | with_reducible refine (vq_isi_lst).mpr ?_ | with_reducible refine (vq_isiT_lst).mpr ?_ | with_reducible refine (vq_is_lst).mpr ?_ | with_reducible refine (vq_isN_lst).mpr ?_ | with_reducible refine (vq_isi_tup).mpr ?_ | with_reducible refine (vq_isiT_tup).mpr ?_ | with_reducible refine (vq_is_tup).mpr ?_ | with_reducible refine (vq_isN_tup).mpr ?_ | with_reducible refine (vq_eq_bl).mpr ?_ | with_reducible refine (vq_eq_int).mpr ?_ | with_reducible refine (vq_ne_bl).mpr ?_ | with_reducible refine (vq_ne_int).mpr ?_ | with_reducible refine (vq_len_lst).mpr ?_ | with_reducible refine (vq_len_tup).mpr ?_ | with_reducible refine (vq_len_str).mpr ?_ | with_reducible refine (vq_c_lt).mpr ?_ | with_reducible refine (vq_c_le).mpr ?_ | with_reducible refine (vq_c_gt).mpr ?_ | with_reducible refine (vq_c_ge).mpr ?_ | with_reducible refine (vq_a_int).mpr ?_ | with_reducible refine (vq_a_str).mpr ?_ | with_reducible refine (vq_a_lst).mpr ?_ | with_reducible refine (vq_a_tup).mpr ?_ | with_reducible refine (vq_s_int).mpr ?_ | with_reducible refine (vq_ix_lst).mpr ?_ | with_reducible refine (vq_ix_tup).mpr ?_ | with_reducible refine (vq_m_int).mpr ?_ | with_reducible refine (vq_o_int).mpr ?_ | with_reducible refine (vq_f_int).mpr ?_ | with_reducible refine (vq_int_int).mpr ?_ | with_reducible refine (vq_int_bl).mpr ?_ | with_reducible refine (vq_str_int).mpr ?_ | with_reducible refine (vq_ix_str).mpr ?_ | with_reducible refine (vq_sl_strD).mpr ?_ | with_reducible refine (vq_sl_lstD).mpr ?_ | with_reducible refine (vq_sl_tupD).mpr ?_ | ((with_reducible apply i_tyok); · rfl) | ((with_reducible refine i_szl ?_ ?_); · (first | decide | omega | (simp only [List.length_cons, List.length_nil]; omega))) | dsimp only [List.cons_append, List.nil_append, List.append_nil, gtName, gtTup, gtCons, gtNil, setE, setD, Bool.not_true, Bool.not_false, if_true, if_false, List.length_cons, List.length_nil, Nat.reduceAdd, vq_ty_non_bool, vq_ty_non_int, vq_ty_non_str, vq_ty_non_list, vq_ty_non_tuple, vq_ty_non_dict, vq_ty_bl_bool, vq_ty_bl_int, vq_ty_bl_str, vq_ty_bl_list, vq_ty_bl_tuple, vq_ty_bl_dict, vq_ty_int_bool, vq_ty_int_int, vq_ty_int_str, vq_ty_int_list, vq_ty_int_tuple, vq_ty_int_dict, vq_ty_str_bool, vq_ty_str_int, vq_ty_str_str, vq_ty_str_list, vq_ty_str_tuple, vq_ty_str_dict, vq_ty_lst_bool, vq_ty_lst_int, vq_ty_lst_str, vq_ty_lst_list, vq_ty_lst_tuple, vq_ty_lst_dict, vq_ty_tup_bool, vq_ty_tup_int, vq_ty_tup_str, vq_ty_tup_list, vq_ty_tup_tuple, vq_ty_tup_dict, vq_tyOk_bool, vq_tyOk_int, vq_tyOk_str, vq_tyOk_list, vq_tyOk_tuple, vq_tyOk_dict])
    refine take_ok (by omega) (by omega) fun at_ ha0 ha1 => ?_
    repeat (first | with_reducible refine i_c ?_ | with_reducible refine i_op ?_ | with_reducible refine i_tst ?_ | with_reducible refine i_and ?_ | with_reducible refine i_or ?_ | with_reducible refine i_not ?_ | with_reducible refine i_andV ?_ | with_reducible refine i_orV ?_ | with_reducible refine i_notV ?_ | with_reducible refine i_if ?_ | with_reducible refine i_nil ?_ | with_reducible refine i_cons ?_ | with_reducible refine i_tup ?_ | with_reducible refine i_lst ?_ | with_reducible refine i_cb ?_ | with_reducible refine i_call ?_ | with_reducible refine i_ch ?_ | with_reducible refine i_sl ?_ | with_reducible refine i_noP ?_ | with_reducible refine i_part ?_ | with_reducible refine i_s1 ?_ | with_reducible refine i_seqL ?_ | with_reducible refine i_seqT ?_ | with_reducible refine i_signs ?_ | with_reducible refine i_rng1 ?_ | with_reducible refine i_zip ?_ | with_reducible refine i_lc ?_ | with_reducible refine i_yes ?_ | with_reducible refine i_next ?_ | with_reducible refine i_seq ?_ | with_reducible refine i_ret ?_ | with_reducible refine i_retN ?_ | with_reducible refine i_drop ?_ | with_reducible refine i_ifS ?_ | with_reducible refine i_set ?_ | with_reducible refine i_setO ?_ | with_reducible refine i_own ?_ | with_reducible refine i_asg ?_ | with_reducible refine i_par ?_ | with_reducible refine i_for ?_ | with_reducible refine i_ifT ?_ | with_reducible refine i_ifF ?_ | ((with_reducible apply i_var); · rfl) | ((with_reducible apply i_rel); · rfl) | ((with_reducible apply i_app); · rfl) | with_reducible refine (vq_isi_non).mpr ?_ | with_reducible refine (vq_isiT_non).mpr ?_ | with_reducible refine (vq_is_non).mpr ?_ | with_reducible refine (vq_isN_non).mpr ?_ | with_reducible refine (vq_isi_bl).mpr ?_ | with_reducible refine (vq_isiT_bl).mpr ?_ | with_reducible refine (vq_is_bl).mpr ?_ | with_reducible refine (vq_isN_bl).mpr ?_ | with_reducible refine (vq_isi_int).mpr ?_ | with_reducible refine (vq_isiT_int).mpr ?_ | with_reducible refine (vq_is_int).mpr ?_ | with_reducible refine (vq_isN_int).mpr ?_ | with_reducible refine (vq_isi_str).mpr ?_ | with_reducible refine (vq_isiT_str).mpr ?_ | with_reducible refine (vq_is_str).mpr ?_ | with_reducible refine (vq_isN_str).mpr ?_ | with_reducible refine (vq_isi_lst).mpr ?_ | with_reducible refine (vq_isiT_lst).mpr ?_ | with_reducible refine (vq_is_lst).mpr ?_ | with_reducible refine (vq_isN_lst).mpr ?_ | with_reducible refine (vq_isi_tup).mpr ?_ | with_reducible refine (vq_isiT_tup).mpr ?_ | with_reducible refine (vq_is_tup).mpr ?_ | with_reducible refine (vq_isN_tup).mpr ?_ | with_reducible refine (vq_eq_bl).mpr ?_ | with_reducible refine (vq_eq_int).mpr ?_ | with_reducible refine (vq_ne_bl).mpr ?_ | with_reducible refine (vq_ne_int).mpr ?_ | with_reducible refine (vq_len_lst).mpr ?_ | with_reducible refine (vq_len_tup).mpr ?_ | with_reducible refine (vq_len_str).mpr ?_ | with_reducible refine (vq_c_lt).mpr ?_ | with_reducible refine (vq_c_le).mpr ?_ | with_reducible refine (vq_c_gt).mpr ?_ | with_reducible refine (vq_c_ge).mpr ?_ | with_reducible refine (vq_a_int).mpr ?_ | with_reducible refine (vq_a_str).mpr ?_ | with_reducible refine (vq_a_lst).mpr ?_ | with_reducible refine (vq_a_tup).mpr ?_ | with_reducible refine (vq_s_int).mpr ?_ | with_reducible refine (vq_ix_lst).mpr ?_ | with_reducible refine (vq_ix_tup).mpr ?_ | with_reducible refine (vq_m_int).mpr ?_ | with_reducible refine (vq_o_int).mpr ?_ | with_reducible refine (vq_f_int).mpr ?_ | with_reducible refine (vq_int_int).mpr ?_ | with_reducible refine (vq_int_bl).mpr ?_ | with_reducible refine (vq_str_int).mpr ?_ | with_reducible refine (vq_ix_str).mpr ?_ | with_reducible refine (vq_sl_strD).mpr ?_ | with_reducible refine (vq_sl_lstD).mpr ?_ | with_reducible refine (vq_sl_tupD).mpr ?_ | ((with_reducible apply i_tyok); · rfl) | ((with_reducible refine i_szl ?_ ?_); · (first | decide | omega | (simp only [List.length_cons, List.length_nil]; omega))) | dsimp only [List.cons_append, List.nil_append, List.append_nil, gtName, gtTup, gtCons, gtNil, setE, setD, Bool.not_true, Bool.not_false, if_true, if_false, List.length_cons, List.length_nil, Nat.reduceAdd, vq_ty_non_bool, vq_ty_non_int, vq_ty_non_str, vq_ty_non_list, vq_ty_non_tuple, vq_ty_non_dict, vq_ty_bl_bool, vq_ty_bl_int, vq_ty_bl_str, vq_ty_bl_list, vq_ty_bl_tuple, vq_ty_bl_dict, vq_ty_int_bool, vq_ty_int_int, vq_ty_int_str, vq_ty_int_list, vq_ty_int_tuple, vq_ty_int_dict, vq_ty_str_bool, vq_ty_str_int, vq_ty_str_str, vq_ty_str_list, vq_ty_str_tuple, vq_ty_str_dict, vq_ty_lst_bool, vq_ty_lst_int, vq_ty_lst_str, vq_ty_lst_list, vq_ty_lst_tuple, vq_ty_lst_dict, vq_ty_tup_bool, vq_ty_tup_int, vq_ty_tup_str, vq_ty_tup_list, vq_ty_tup_tuple, vq_ty_tup_dict, vq_tyOk_bool, vq_tyOk_int, vq_tyOk_str, vq_tyOk_list, vq_tyOk_tuple, vq_tyOk_dict])
    refine of_lst (by simp) (by simp only [List.length_cons, List.length_nil]; omega) fun d1 hd1 => ?_
    obtain ⟨sg, rfl, hsl, hs2⟩ : ∃ t : Str, d1 = .str t ∧ t.length ≤ 6 ∧ ∀ c ∈ tl t, c < 128 := by
      simp only [List.mem_cons, List.not_mem_nil, or_false] at hd1
      rcases hd1 with rfl | rfl | rfl | rfl | rfl | rfl | rfl | rfl | rfl <;> exact ⟨_, rfl, by decide +kernel, by decide +kernel⟩
    have q1 : (cutS word none (some at_)).length ≤ 6 := by rw [len_tl, tl_cut_toI _ ha0, List.length_take, ← len_tl]; omega
    repeat (first | with_reducible refine i_c ?_ | with_reducible refine i_op ?_ | with_reducible refine i_tst ?_ | with_reducible refine i_and ?_ | with_reducible refine i_or ?_ | with_reducible refine i_not ?_ | with_reducible refine i_andV ?_ | with_reducible refine i_orV ?_ | with_reducible refine i_notV ?_ | with_reducible refine i_if ?_ | with_reducible refine i_nil ?_ | with_reducible refine i_cons ?_ | with_reducible refine i_tup ?_ | with_reducible refine i_lst ?_ | with_reducible refine i_cb ?_ | with_reducible refine i_call ?_ | with_reducible refine i_ch ?_ | with_reducible refine i_sl ?_ | with_reducible refine i_noP ?_ | with_reducible refine i_part ?_ | with_reducible refine i_s1 ?_ | with_reducible refine i_seqL ?_ | with_reducible refine i_seqT ?_ | with_reducible refine i_signs ?_ | with_reducible refine i_rng1 ?_ | with_reducible refine i_zip ?_ | with_reducible refine i_lc ?_ | with_reducible refine i_yes ?_ | with_reducible refine i_next ?_ | with_reducible refine i_seq ?_ | with_reducible refine i_ret ?_ | with_reducible refine i_retN ?_ | with_reducible refine i_drop ?_ | with_reducible refine i_ifS ?_ | with_reducible refine i_set ?_ | with_reducible refine i_setO ?_ | with_reducible refine i_own ?_ | with_reducible refine i_asg ?_ | with_reducible refine i_par ?_ | with_reducible refine i_for ?_ | with_reducible refine i_ifT ?_ | with_reducible refine i_ifF ?_ | ((with_reducible apply i_var); · rfl) | ((with_reducible apply i_rel); · rfl) | ((with_reducible apply i_app); · rfl) | with_reducible refine (vq_isi_non).mpr ?_ | with_reducible refine (vq_isiT_non).mpr ?_ | with_reducible refine (vq_is_non).mpr ?_ | with_reducible refine (vq_isN_non).mpr ?_ | with_reducible refine (vq_isi_bl).mpr ?_ | with_reducible refine (vq_isiT_bl).mpr ?_ | with_reducible refine (vq_is_bl).mpr ?_ | with_reducible refine (vq_isN_bl).mpr ?_ | with_reducible refine (vq_isi_int).mpr ?_ | with_reducible refine (vq_isiT_int).mpr ?_ | with_reducible refine (vq_is_int).mpr ?_ | with_reducible refine (vq_isN_int).mpr ?_ | with_reducible refine (vq_isi_str).mpr ?_ | with_reducible refine (vq_isiT_str).mpr ?_ | with_reducible refine (vq_is_str).mpr ?_ | with_reducible refine (vq_isN_str).mpr ?_ | with_reducible refine (vq_isi_lst).mpr ?_ | with_reducible refine (vq_isiT_lst).mpr ?_ | with_reducible refine (vq_is_lst).mpr ?_ | with_reducible refine (vq_isN_lst).mpr ?_ | with_reducible refine (vq_isi_tup).mpr ?_ | with_reducible refine (vq_isiT_tup).mpr ?_ | with_reducible refine (vq_is_tup).mpr ?_ | with_reducible refine (vq_isN_tup).mpr ?_ | with_reducible refine (vq_eq_bl).mpr ?_ | with_reducible refine (vq_eq_int).mpr ?_ | with_reducible refine (vq_ne_bl).mpr ?_ | with_reducible refine (vq_ne_int).mpr ?_ | with_reducible refine (vq_len_lst).mpr ?_ | with_reducible refine (vq_len_tup).mpr ?_ | with_reducible refine (vq_len_str).mpr ?_ | with_reducible refine (vq_c_lt).mpr ?_ | with_reducible refine (vq_c_le).mpr ?_ | with_reducible refine (vq_c_gt).mpr ?_ | with_reducible refine (vq_c_ge).mpr ?_ | with_reducible refine (vq_a_int).mpr ?_ | with_reducible refine (vq_a_str).mpr ?_ | with_reducible refine (vq_a_lst).mpr ?_ | with_reducible refine (vq_a_tup).mpr ?_ | with_reducible refine (vq_s_int).mpr ?_ | with_reducible refine (vq_ix_lst).mpr ?_ | with_reducible refine (vq_ix_tup).mpr ?_ | with_reducible refine (vq_m_int).mpr ?_ | with_reducible refine (vq_o_int).mpr ?_ | with_reducible refine (vq_f_int).mpr ?_ | with_reducible refine (vq_int_int).mpr ?_ | with_reducible refine (vq_int_bl).mpr ?_ | with_reducible refine (vq_str_int).mpr ?_ | with_reducible refine (vq_ix_str).mpr ?_ | with_reducible refine (vq_sl_strD).mpr ?_ | with_reducible refine (vq_sl_lstD).mpr ?_ | with_reducible refine (vq_sl_tupD).mpr ?_ | ((with_reducible apply i_tyok); · rfl) | ((with_reducible refine i_szl ?_ ?_); · (first | decide | omega | (simp only [List.length_cons, List.length_nil]; omega))) | dsimp only [List.cons_append, List.nil_append, List.append_nil, gtName, gtTup, gtCons, gtNil, setE, setD, Bool.not_true, Bool.not_false, if_true, if_false, List.length_cons, List.length_nil, Nat.reduceAdd, vq_ty_non_bool, vq_ty_non_int, vq_ty_non_str, vq_ty_non_list, vq_ty_non_tuple, vq_ty_non_dict, vq_ty_bl_bool, vq_ty_bl_int, vq_ty_bl_str, vq_ty_bl_list, vq_ty_bl_tuple, vq_ty_bl_dict, vq_ty_int_bool, vq_ty_int_int, vq_ty_int_str, vq_ty_int_list, vq_ty_int_tuple, vq_ty_int_dict, vq_ty_str_bool, vq_ty_str_int, vq_ty_str_str, vq_ty_str_list, vq_ty_str_tuple, vq_ty_str_dict, vq_ty_lst_bool, vq_ty_lst_int, vq_ty_lst_str, vq_ty_lst_list, vq_ty_lst_tuple, vq_ty_lst_dict, vq_ty_tup_bool, vq_ty_tup_int, vq_ty_tup_str, vq_ty_tup_list, vq_ty_tup_tuple, vq_ty_tup_dict, vq_tyOk_bool, vq_tyOk_int, vq_tyOk_str, vq_tyOk_list, vq_tyOk_tuple, vq_tyOk_dict])
    refine take_ok (by omega) (by omega) fun j hj0 hj1 => ?_
    have q2 : (cutS word (some (at_ + j)) none).length ≤ 6 := by rw [len_tl, tl_cut_fromI _ (by omega), List.length_drop, ← len_tl]; omega
    have q3 : (cutS word none (some at_) ++ sg).length ≤ 12 := by rw [add_len]; omega
    repeat (first | with_reducible refine i_c ?_ | with_reducible refine i_op ?_ | with_reducible refine i_tst ?_ | with_reducible refine i_and ?_ | with_reducible refine i_or ?_ | with_reducible refine i_not ?_ | with_reducible refine i_andV ?_ | with_reducible refine i_orV ?_ | with_reducible refine i_notV ?_ | with_reducible refine i_if ?_ | with_reducible refine i_nil ?_ | with_reducible refine i_cons ?_ | with_reducible refine i_tup ?_ | with_reducible refine i_lst ?_ | with_reducible refine i_cb ?_ | with_reducible refine i_call ?_ | with_reducible refine i_ch ?_ | with_reducible refine i_sl ?_ | with_reducible refine i_noP ?_ | with_reducible refine i_part ?_ | with_reducible refine i_s1 ?_ | with_reducible refine i_seqL ?_ | with_reducible refine i_seqT ?_ | with_reducible refine i_signs ?_ | with_reducible refine i_rng1 ?_ | with_reducible refine i_zip ?_ | with_reducible refine i_lc ?_ | with_reducible refine i_yes ?_ | with_reducible refine i_next ?_ | with_reducible refine i_seq ?_ | with_reducible refine i_ret ?_ | with_reducible refine i_retN ?_ | with_reducible refine i_drop ?_ | with_reducible refine i_ifS ?_ | with_reducible refine i_set ?_ | with_reducible refine i_setO ?_ | with_reducible refine i_own ?_ | with_reducible refine i_asg ?_ | with_reducible refine i_par ?_ | with_reducible refine i_for ?_ | with_reducible refine i_ifT ?_ | with_reducible refine i_ifF ?_ | ((with_reducible apply i_var); · rfl) | ((with_reducible apply i_rel); · rfl) | ((with_reducible apply i_app); · rfl) | with_reducible refine (vq_isi_non).mpr ?_ | with_reducible refine (vq_isiT_non).mpr ?_ | with_reducible refine (vq_is_non).mpr ?_ | with_reducible refine (vq_isN_non).mpr ?_ | with_reducible refine (vq_isi_bl).mpr ?_ | with_reducible refine (vq_isiT_bl).mpr ?_ | with_reducible refine (vq_is_bl).mpr ?_ | with_reducible refine (vq_isN_bl).mpr ?_ | with_reducible refine (vq_isi_int).mpr ?_ | with_reducible refine (vq_isiT_int).mpr ?_ | with_reducible refine (vq_is_int).mpr ?_ | with_reducible refine (vq_isN_int).mpr ?_ | with_reducible refine (vq_isi_str).mpr ?_ | with_reducible refine (vq_isiT_str).mpr ?_ | with_reducible refine (vq_is_str).mpr ?_ | with_reducible refine (vq_isN_str).mpr ?_ | with_reducible refine (vq_isi_lst).mpr ?_ | with_reducible refine (vq_isiT_lst).mpr ?_ | with_reducible refine (vq_is_lst).mpr ?_ | with_reducible refine (vq_isN_lst).mpr ?_ | with_reducible refine (vq_isi_tup).mpr ?_ | with_reducible refine (vq_isiT_tup).mpr ?_ | with_reducible refine (vq_is_tup).mpr ?_ | with_reducible refine (vq_isN_tup).mpr ?_ | with_reducible refine (vq_eq_bl).mpr ?_ | with_reducible refine (vq_eq_int).mpr ?_ | with_reducible refine (vq_ne_bl).mpr ?_ | with_reducible refine (vq_ne_int).mpr ?_ | with_reducible refine (vq_len_lst).mpr ?_ | with_reducible refine (vq_len_tup).mpr ?_ | with_reducible refine (vq_len_str).mpr ?_ | with_reducible refine (vq_c_lt).mpr ?_ | with_reducible refine (vq_c_le).mpr ?_ | with_reducible refine (vq_c_gt).mpr ?_ | with_reducible refine (vq_c_ge).mpr ?_ | with_reducible refine (vq_a_int).mpr ?_ | with_reducible refine (vq_a_str).mpr ?_ | with_reducible refine (vq_a_lst).mpr ?_ | with_reducible refine (vq_a_tup).mpr ?_ | with_reducible refine (vq_s_int).mpr ?_ | with_reducible refine (vq_ix_lst).mpr ?_ | with_reducible refine (vq_ix_tup).mpr ?_ | with_reducible refine (vq_m_int).mpr ?_ | with_reducible refine (vq_o_int).mpr ?_ | with_reducible refine (vq_f_int).mpr ?_ | with_reducible refine (vq_int_int).mpr ?_ | with_reducible refine (vq_int_bl).mpr ?_ | with_reducible refine (vq_str_int).mpr ?_ | with_reducible refine (vq_ix_str).mpr ?_ | with_reducible refine (vq_sl_strD).mpr ?_ | with_reducible refine (vq_sl_lstD).mpr ?_ | with_reducible refine (vq_sl_tupD).mpr ?_ | ((with_reducible apply i_tyok); · rfl) | ((with_reducible refine i_szl ?_ ?_); · (first | decide | omega | (simp only [List.length_cons, List.length_nil]; omega))) | dsimp only [List.cons_append, List.nil_append, List.append_nil, gtName, gtTup, gtCons, gtNil, setE, setD, Bool.not_true, Bool.not_false, if_true, if_false, List.length_cons, List.length_nil, Nat.reduceAdd, vq_ty_non_bool, vq_ty_non_int, vq_ty_non_str, vq_ty_non_list, vq_ty_non_tuple, vq_ty_non_dict, vq_ty_bl_bool, vq_ty_bl_int, vq_ty_bl_str, vq_ty_bl_list, vq_ty_bl_tuple, vq_ty_bl_dict, vq_ty_int_bool, vq_ty_int_int, vq_ty_int_str, vq_ty_int_list, vq_ty_int_tuple, vq_ty_int_dict, vq_ty_str_bool, vq_ty_str_int, vq_ty_str_str, vq_ty_str_list, vq_ty_str_tuple, vq_ty_str_dict, vq_ty_lst_bool, vq_ty_lst_int, vq_ty_lst_str, vq_ty_lst_list, vq_ty_lst_tuple, vq_ty_lst_dict, vq_ty_tup_bool, vq_ty_tup_int, vq_ty_tup_str, vq_ty_tup_list, vq_ty_tup_tuple, vq_ty_tup_dict, vq_tyOk_bool, vq_tyOk_int, vq_tyOk_str, vq_tyOk_list, vq_tyOk_tuple, vq_tyOk_dict])
    have qb : ∀ c ∈ tl (cutS word none (some at_) ++ sg ++ cutS word (some (at_ + j)) none), c < 128 := fun x hx => by
      rw [tl_append, tl_append, tl_cut_toI _ ha0, tl_cut_fromI _ (by omega)] at hx
      rcases List.mem_append.mp hx with hx | hx
      · rcases List.mem_append.mp hx with hx | hx
        · exact let128 x (hW.2.2 x (List.mem_of_mem_take hx))
        · exact hs2 x hx
      · exact let128 x (hW.2.2 x (List.mem_of_mem_drop hx))
    have ql : (cutS word none (some at_) ++ sg ++ cutS word (some (at_ + j)) none).length ≤ 18 := by rw [add_len]; omega
    generalize cutS word none (some at_) ++ sg ++ cutS word (some (at_ + j)) none = bent at qb ql ⊢
    repeat (first | with_reducible refine i_c ?_ | with_reducible refine i_op ?_ | with_reducible refine i_tst ?_ | with_reducible refine i_and ?_ | with_reducible refine i_or ?_ | with_reducible refine i_not ?_ | with_reducible refine i_andV ?_ | with_reducible refine i_orV ?_ | with_reducible refine i_notV ?_ | with_reducible refine i_if ?_ | with_reducible refine i_nil ?_ | with_reducible refine i_cons ?_ | with_reducible refine i_tup ?_ | with_reducible refine i_lst ?_ | with_reducible refine i_cb ?_ | with_reducible refine i_call ?_ | with_reducible refine i_ch ?_ | with_reducible refine i_sl ?_ | with_reducible refine i_noP ?_ | with_reducible refine i_part ?_ | with_reducible refine i_s1 ?_ | with_reducible refine i_seqL ?_ | with_reducible refine i_seqT ?_ | with_reducible refine i_signs ?_ | with_reducible refine i_rng1 ?_ | with_reducible refine i_zip ?_ | with_reducible refine i_lc ?_ | with_reducible refine i_yes ?_ | with_reducible refine i_next ?_ | with_reducible refine i_seq ?_ | with_reducible refine i_ret ?_ | with_reducible refine i_retN ?_ | with_reducible refine i_drop ?_ | with_reducible refine i_ifS ?_ | with_reducible refine i_set ?_ | with_reducible refine i_setO ?_ | with_reducible refine i_own ?_ | with_reducible refine i_asg ?_ | with_reducible refine i_par ?_ | with_reducible refine i_for ?_ | with_reducible refine i_ifT ?_ | with_reducible refine i_ifF ?_ | ((with_reducible apply i_var); · rfl) | ((with_reducible apply i_rel); · rfl) | ((with_reducible apply i_app); · rfl) | with_reducible refine (vq_isi_non).mpr ?_ | with_reducible refine (vq_isiT_non).mpr ?_ | with_reducible refine (vq_is_non).mpr ?_ | with_reducible refine (vq_isN_non).mpr ?_ | with_reducible refine (vq_isi_bl).mpr ?_ | with_reducible refine (vq_isiT_bl).mpr ?_ | with_reducible refine (vq_is_bl).mpr ?_ | with_reducible refine (vq_isN_bl).mpr ?_ | with_reducible refine (vq_isi_int).mpr ?_ | with_reducible refine (vq_isiT_int).mpr ?_ | with_reducible refine (vq_is_int).mpr ?_ | with_reducible refine (vq_isN_int).mpr ?_ | with_reducible refine (vq_isi_str).mpr ?_ | with_reducible refine (vq_isiT_str).mpr ?_ | with_reducible refine (vq_is_str).mpr ?_ | with_reducible refine (vq_isN_str).mpr ?_ | with_reducible refine (vq_isi_lst).mpr ?_ | with_reducible refine (vq_isiT_lst).mpr ?_ | with_reducible refine (vq_is_lst).mpr ?_ | with_reducible refine (vq_isN_lst).mpr ?_ | with_reducible refine (vq_isi_tup).mpr ?_ | with_reducible refine (vq_isiT_tup).mpr ?_ | with_reducible refine (vq_is_tup).mpr ?_ | with_reducible refine (vq_isN_tup).mpr ?_ | with_reducible refine (vq_eq_bl).mpr ?_ | with_reducible refine (vq_eq_int).mpr ?_ | with_reducible refine (vq_ne_bl).mpr ?_ | with_reducible refine (vq_ne_int).mpr ?_ | with_reducible refine (vq_len_lst).mpr ?_ | with_reducible refine (vq_len_tup).mpr ?_ | with_reducible refine (vq_len_str).mpr ?_ | with_reducible refine (vq_c_lt).mpr ?_ | with_reducible refine (vq_c_le).mpr ?_ | with_reducible refine (vq_c_gt).mpr ?_ | with_reducible refine (vq_c_ge).mpr ?_ | with_reducible refine (vq_a_int).mpr ?_ | with_reducible refine (vq_a_str).mpr ?_ | with_reducible refine (vq_a_lst).mpr ?_ | with_reducible refine (vq_a_tup).mpr ?_ | with_reducible refine (vq_s_int).mpr ?_ | with_reducible refine (vq_ix_lst).mpr ?_ | with_reducible refine (vq_ix_tup).mpr ?_ | with_reducible refine (vq_m_int).mpr ?_ | with_reducible refine (vq_o_int).mpr ?_ | with_reducible refine (vq_f_int).mpr ?_ | with_reducible refine (vq_int_int).mpr ?_ | with_reducible refine (vq_int_bl).mpr ?_ | with_reducible refine (vq_str_int).mpr ?_ | with_reducible refine (vq_ix_str).mpr ?_ | with_reducible refine (vq_sl_strD).mpr ?_ | with_reducible refine (vq_sl_lstD).mpr ?_ | with_reducible refine (vq_sl_tupD).mpr ?_ | ((with_reducible apply i_tyok); · rfl) | ((with_reducible refine i_szl ?_ ?_); · (first | decide | omega | (simp only [List.length_cons, List.length_nil]; omega))) | dsimp only [List.cons_append, List.nil_append, List.append_nil, gtName, gtTup, gtCons, gtNil, setE, setD, Bool.not_true, Bool.not_false, if_true, if_false, List.length_cons, List.length_nil, Nat.reduceAdd, vq_ty_non_bool, vq_ty_non_int, vq_ty_non_str, vq_ty_non_list, vq_ty_non_tuple, vq_ty_non_dict, vq_ty_bl_bool, vq_ty_bl_int, vq_ty_bl_str, vq_ty_bl_list, vq_ty_bl_tuple, vq_ty_bl_dict, vq_ty_int_bool, vq_ty_int_int, vq_ty_int_str, vq_ty_int_list, vq_ty_int_tuple, vq_ty_int_dict, vq_ty_str_bool, vq_ty_str_int, vq_ty_str_str, vq_ty_str_list, vq_ty_str_tuple, vq_ty_str_dict, vq_ty_lst_bool, vq_ty_lst_int, vq_ty_lst_str, vq_ty_lst_list, vq_ty_lst_tuple, vq_ty_lst_dict, vq_ty_tup_bool, vq_ty_tup_int, vq_ty_tup_str, vq_ty_tup_list, vq_ty_tup_tuple, vq_ty_tup_dict, vq_tyOk_bool, vq_tyOk_int, vq_tyOk_str, vq_tyOk_list, vq_tyOk_tuple, vq_tyOk_dict])
    have fin : ∀ (v : Bool) (s0 : DSt), isn (.str bent) = v → s0 = [Sl.no, Sl.pu (D.con (V.ref a)), Sl.pu (D.str LET), .pu d, .pu (.str word), .pu (.int at_), .pu (.str sg), .pu (.str bent), .pu (.bl v), .no, .no, .no] → body8 K (some (a, c)) k s0 := fun v s0 hv hs0 => by
      subst hs0
      unfold body8
      repeat (first | with_reducible refine i_c ?_ | with_reducible refine i_op ?_ | with_reducible refine i_tst ?_ | with_reducible refine i_and ?_ | with_reducible refine i_or ?_ | with_reducible refine i_not ?_ | with_reducible refine i_andV ?_ | with_reducible refine i_orV ?_ | with_reducible refine i_notV ?_ | with_reducible refine i_if ?_ | with_reducible refine i_nil ?_ | with_reducible refine i_cons ?_ | with_reducible refine i_tup ?_ | with_reducible refine i_lst ?_ | with_reducible refine i_cb ?_ | with_reducible refine i_call ?_ | with_reducible refine i_ch ?_ | with_reducible refine i_sl ?_ | with_reducible refine i_noP ?_ | with_reducible refine i_part ?_ | with_reducible refine i_s1 ?_ | with_reducible refine i_seqL ?_ | with_reducible refine i_seqT ?_ | with_reducible refine i_signs ?_ | with_reducible refine i_rng1 ?_ | with_reducible refine i_zip ?_ | with_reducible refine i_lc ?_ | with_reducible refine i_yes ?_ | with_reducible refine i_next ?_ | with_reducible refine i_seq ?_ | with_reducible refine i_ret ?_ | with_reducible refine i_retN ?_ | with_reducible refine i_drop ?_ | with_reducible refine i_ifS ?_ | with_reducible refine i_set ?_ | with_reducible refine i_setO ?_ | with_reducible refine i_own ?_ | with_reducible refine i_asg ?_ | with_reducible refine i_par ?_ | with_reducible refine i_for ?_ | with_reducible refine i_ifT ?_ | with_reducible refine i_ifF ?_ | ((with_reducible apply i_var); · rfl) | ((with_reducible apply i_rel); · rfl) | ((with_reducible apply i_app); · rfl) | with_reducible refine (vq_isi_non).mpr ?_ | with_reducible refine (vq_isiT_non).mpr ?_ | with_reducible refine (vq_is_non).mpr ?_ | with_reducible refine (vq_isN_non).mpr ?_ | with_reducible refine (vq_isi_bl).mpr ?_ | with_reducible refine (vq_isiT_bl).mpr ?_ | with_reducible refine (vq_is_bl).mpr ?_ | with_reducible refine (vq_isN_bl).mpr ?_ | with_reducible refine (vq_isi_int).mpr ?_ | with_reducible refine (vq_isiT_int).mpr ?_ | with_reducible refine (vq_is_int).mpr ?_ | with_reducible refine (vq_isN_int).mpr ?_ | with_reducible refine (vq_isi_str).mpr ?_ | with_reducible refine (vq_isiT_str).mpr ?_ | with_reducible refine (vq_is_str).mpr ?_ | with_reducible refine (vq_isN_str).mpr ?_ | with_reducible refine (vq_isi_lst).mpr ?_ | with_reducible refine (vq_isiT_lst).mpr ?_ | with_reducible refine (vq_is_lst).mpr ?_ | with_reducible refine (vq_isN_lst).mpr ?_ | with_reducible refine (vq_isi_tup).mpr ?_ | with_reducible refine (vq_isiT_tup).mpr ?_ | with_reducible refine (vq_is_tup).mpr ?_ | with_reducible refine (vq_isN_tup).mpr ?_ | with_reducible refine (vq_eq_bl).mpr ?_ | with_reducible refine (vq_eq_int).mpr ?_ | with_reducible refine (vq_ne_bl).mpr ?_ | with_reducible refine (vq_ne_int).mpr ?_ | with_reducible refine (vq_len_lst).mpr ?_ | with_reducible refine (vq_len_tup).mpr ?_ | with_reducible refine (vq_len_str).mpr ?_ | with_reducible refine (vq_c_lt).mpr ?_ | with_reducible refine (vq_c_le).mpr ?_ | with_reducible refine (vq_c_gt).mpr ?_ | with_reducible refine (vq_c_ge).mpr ?_ | with_reducible refine (vq_a_int).mpr ?_ | with_reducible refine (vq_a_str).mpr ?_ | with_reducible refine (vq_a_lst).mpr ?_ | with_reducible refine (vq_a_tup).mpr ?_ | with_reducible refine (vq_s_int).mpr ?_ | with_reducible refine (vq_ix_lst).mpr ?_ | with_reducible refine (vq_ix_tup).mpr ?_ | with_reducible refine (vq_m_int).mpr ?_ | with_reducible refine (vq_o_int).mpr ?_ | with_reducible refine (vq_f_int).mpr ?_ | with_reducible refine (vq_int_int).mpr ?_ | with_reducible refine (vq_int_bl).mpr ?_ | with_reducible refine (vq_str_int).mpr ?_ | with_reducible refine (vq_ix_str).mpr ?_ | with_reducible refine (vq_sl_strD).mpr ?_ | with_reducible refine (vq_sl_lstD).mpr ?_ | with_reducible refine (vq_sl_tupD).mpr ?_ | ((with_reducible apply i_tyok); · rfl) | ((with_reducible refine i_szl ?_ ?_); · (first | decide | omega | (simp only [List.length_cons, List.length_nil]; omega))) | dsimp only [List.cons_append, List.nil_append, List.append_nil, gtName, gtTup, gtCons, gtNil, setE, setD, Bool.not_true, Bool.not_false, if_true, if_false, List.length_cons, List.length_nil, Nat.reduceAdd, vq_ty_non_bool, vq_ty_non_int, vq_ty_non_str, vq_ty_non_list, vq_ty_non_tuple, vq_ty_non_dict, vq_ty_bl_bool, vq_ty_bl_int, vq_ty_bl_str, vq_ty_bl_list, vq_ty_bl_tuple, vq_ty_bl_dict, vq_ty_int_bool, vq_ty_int_int, vq_ty_int_str, vq_ty_int_list, vq_ty_int_tuple, vq_ty_int_dict, vq_ty_str_bool, vq_ty_str_int, vq_ty_str_str, vq_ty_str_list, vq_ty_str_tuple, vq_ty_str_dict, vq_ty_lst_bool, vq_ty_lst_int, vq_ty_lst_str, vq_ty_lst_list, vq_ty_lst_tuple, vq_ty_lst_dict, vq_ty_tup_bool, vq_ty_tup_int, vq_ty_tup_str, vq_ty_tup_list, vq_ty_tup_tuple, vq_ty_tup_dict, vq_tyOk_bool, vq_tyOk_int, vq_tyOk_str, vq_tyOk_list, vq_tyOk_tuple, vq_tyOk_dict])
      refine is_name_ok (K := K) (g := some (a, c)) (okS (by omega)) ?_
      rw [isn_lw hW]
      repeat (first | with_reducible refine i_c ?_ | with_reducible refine i_op ?_ | with_reducible refine i_tst ?_ | with_reducible refine i_and ?_ | with_reducible refine i_or ?_ | with_reducible refine i_not ?_ | with_reducible refine i_andV ?_ | with_reducible refine i_orV ?_ | with_reducible refine i_notV ?_ | with_reducible refine i_if ?_ | with_reducible refine i_nil ?_ | with_reducible refine i_cons ?_ | with_reducible refine i_tup ?_ | with_reducible refine i_lst ?_ | with_reducible refine i_cb ?_ | with_reducible refine i_call ?_ | with_reducible refine i_ch ?_ | with_reducible refine i_sl ?_ | with_reducible refine i_noP ?_ | with_reducible refine i_part ?_ | with_reducible refine i_s1 ?_ | with_reducible refine i_seqL ?_ | with_reducible refine i_seqT ?_ | with_reducible refine i_signs ?_ | with_reducible refine i_rng1 ?_ | with_reducible refine i_zip ?_ | with_reducible refine i_lc ?_ | with_reducible refine i_yes ?_ | with_reducible refine i_next ?_ | with_reducible refine i_seq ?_ | with_reducible refine i_ret ?_ | with_reducible refine i_retN ?_ | with_reducible refine i_drop ?_ | with_reducible refine i_ifS ?_ | with_reducible refine i_set ?_ | with_reducible refine i_setO ?_ | with_reducible refine i_own ?_ | with_reducible refine i_asg ?_ | with_reducible refine i_par ?_ | with_reducible refine i_for ?_ | with_reducible refine i_ifT ?_ | with_reducible refine i_ifF ?_ | ((with_reducible apply i_var); · rfl) | ((with_reducible apply i_rel); · rfl) | ((with_reducible apply i_app); · rfl) | with_reducible refine (vq_isi_non).mpr ?_ | with_reducible refine (vq_isiT_non).mpr ?_ | with_reducible refine (vq_is_non).mpr ?_ | with_reducible refine (vq_isN_non).mpr ?_ | with_reducible refine (vq_isi_bl).mpr ?_ | with_reducible refine (vq_isiT_bl).mpr ?_ | with_reducible refine (vq_is_bl).mpr ?_ | with_reducible refine (vq_isN_bl).mpr ?_ | with_reducible refine (vq_isi_int).mpr ?_ | with_reducible refine (vq_isiT_int).mpr ?_ | with_reducible refine (vq_is_int).mpr ?_ | with_reducible refine (vq_isN_int).mpr ?_ | with_reducible refine (vq_isi_str).mpr ?_ | with_reducible refine (vq_isiT_str).mpr ?_ | with_reducible refine (vq_is_str).mpr ?_ | with_reducible refine (vq_isN_str).mpr ?_ | with_reducible refine (vq_isi_lst).mpr ?_ | with_reducible refine (vq_isiT_lst).mpr ?_ | with_reducible refine (vq_is_lst).mpr ?_ | with_reducible refine (vq_isN_lst).mpr ?_ | with_reducible refine (vq_isi_tup).mpr ?_ | with_reducible refine (vq_isiT_tup).mpr ?_ | with_reducible refine (vq_is_tup).mpr ?_ | with_reducible refine (vq_isN_tup).mpr ?_ | with_reducible refine (vq_eq_bl).mpr ?_ | with_reducible refine (vq_eq_int).mpr ?_ | with_reducible refine (vq_ne_bl).mpr ?_ | with_reducible refine (vq_ne_int).mpr ?_ | with_reducible refine (vq_len_lst).mpr ?_ | with_reducible refine (vq_len_tup).mpr ?_ | with_reducible refine (vq_len_str).mpr ?_ | with_reducible refine (vq_c_lt).mpr ?_ | with_reducible refine (vq_c_le).mpr ?_ | with_reducible refine (vq_c_gt).mpr ?_ | with_reducible refine (vq_c_ge).mpr ?_ | with_reducible refine (vq_a_int).mpr ?_ | with_reducible refine (vq_a_str).mpr ?_ | with_reducible refine (vq_a_lst).mpr ?_ | with_reducible refine (vq_a_tup).mpr ?_ | with_reducible refine (vq_s_int).mpr ?_ | with_reducible refine (vq_ix_lst).mpr ?_ | with_reducible refine (vq_ix_tup).mpr ?_ | with_reducible refine (vq_m_int).mpr ?_ | with_reducible refine (vq_o_int).mpr ?_ | with_reducible refine (vq_f_int).mpr ?_ | with_reducible refine (vq_int_int).mpr ?_ | with_reducible refine (vq_int_bl).mpr ?_ | with_reducible refine (vq_str_int).mpr ?_ | with_reducible refine (vq_ix_str).mpr ?_ | with_reducible refine (vq_sl_strD).mpr ?_ | with_reducible refine (vq_sl_lstD).mpr ?_ | with_reducible refine (vq_sl_tupD).mpr ?_ | ((with_reducible apply i_tyok); · rfl) | ((with_reducible refine i_szl ?_ ?_); · (first | decide | omega | (simp only [List.length_cons, List.length_nil]; omega))) | dsimp only [List.cons_append, List.nil_append, List.append_nil, gtName, gtTup, gtCons, gtNil, setE, setD, Bool.not_true, Bool.not_false, if_true, if_false, List.length_cons, List.length_nil, Nat.reduceAdd, vq_ty_non_bool, vq_ty_non_int, vq_ty_non_str, vq_ty_non_list, vq_ty_non_tuple, vq_ty_non_dict, vq_ty_bl_bool, vq_ty_bl_int, vq_ty_bl_str, vq_ty_bl_list, vq_ty_bl_tuple, vq_ty_bl_dict, vq_ty_int_bool, vq_ty_int_int, vq_ty_int_str, vq_ty_int_list, vq_ty_int_tuple, vq_ty_int_dict, vq_ty_str_bool, vq_ty_str_int, vq_ty_str_str, vq_ty_str_list, vq_ty_str_tuple, vq_ty_str_dict, vq_ty_lst_bool, vq_ty_lst_int, vq_ty_lst_str, vq_ty_lst_list, vq_ty_lst_tuple, vq_ty_lst_dict, vq_ty_tup_bool, vq_ty_tup_int, vq_ty_tup_str, vq_ty_tup_list, vq_ty_tup_tuple, vq_ty_tup_dict, vq_tyOk_bool, vq_tyOk_int, vq_tyOk_str, vq_tyOk_list, vq_tyOk_tuple, vq_tyOk_dict])
      refine is_name_ok (K := K) (g := some (a, c)) (okS (by omega)) ?_
      rw [hv]
      repeat (first | with_reducible refine i_c ?_ | with_reducible refine i_op ?_ | with_reducible refine i_tst ?_ | with_reducible refine i_and ?_ | with_reducible refine i_or ?_ | with_reducible refine i_not ?_ | with_reducible refine i_andV ?_ | with_reducible refine i_orV ?_ | with_reducible refine i_notV ?_ | with_reducible refine i_if ?_ | with_reducible refine i_nil ?_ | with_reducible refine i_cons ?_ | with_reducible refine i_tup ?_ | with_reducible refine i_lst ?_ | with_reducible refine i_cb ?_ | with_reducible refine i_call ?_ | with_reducible refine i_ch ?_ | with_reducible refine i_sl ?_ | with_reducible refine i_noP ?_ | with_reducible refine i_part ?_ | with_reducible refine i_s1 ?_ | with_reducible refine i_seqL ?_ | with_reducible refine i_seqT ?_ | with_reducible refine i_signs ?_ | with_reducible refine i_rng1 ?_ | with_reducible refine i_zip ?_ | with_reducible refine i_lc ?_ | with_reducible refine i_yes ?_ | with_reducible refine i_next ?_ | with_reducible refine i_seq ?_ | with_reducible refine i_ret ?_ | with_reducible refine i_retN ?_ | with_reducible refine i_drop ?_ | with_reducible refine i_ifS ?_ | with_reducible refine i_set ?_ | with_reducible refine i_setO ?_ | with_reducible refine i_own ?_ | with_reducible refine i_asg ?_ | with_reducible refine i_par ?_ | with_reducible refine i_for ?_ | with_reducible refine i_ifT ?_ | with_reducible refine i_ifF ?_ | ((with_reducible apply i_var); · rfl) | ((with_reducible apply i_rel); · rfl) | ((with_reducible apply i_app); · rfl) | with_reducible refine (vq_isi_non).mpr ?_ | with_reducible refine (vq_isiT_non).mpr ?_ | with_reducible refine (vq_is_non).mpr ?_ | with_reducible refine (vq_isN_non).mpr ?_ | with_reducible refine (vq_isi_bl).mpr ?_ | with_reducible refine (vq_isiT_bl).mpr ?_ | with_reducible refine (vq_is_bl).mpr ?_ | with_reducible refine (vq_isN_bl).mpr ?_ | with_reducible refine (vq_isi_int).mpr ?_ | with_reducible refine (vq_isiT_int).mpr ?_ | with_reducible refine (vq_is_int).mpr ?_ | with_reducible refine (vq_isN_int).mpr ?_ | with_reducible refine (vq_isi_str).mpr ?_ | with_reducible refine (vq_isiT_str).mpr ?_ | with_reducible refine (vq_is_str).mpr ?_ | with_reducible refine (vq_isN_str).mpr ?_ | with_reducible refine (vq_isi_lst).mpr ?_ | with_reducible refine (vq_isiT_lst).mpr ?_ | with_reducible refine (vq_is_lst).mpr ?_ | with_reducible refine (vq_isN_lst).mpr ?_ | with_reducible refine (vq_isi_tup).mpr ?_ | with_reducible refine (vq_isiT_tup).mpr ?_ | with_reducible refine (vq_is_tup).mpr ?_ | with_reducible refine (vq_isN_tup).mpr ?_ | with_reducible refine (vq_eq_bl).mpr ?_ | with_reducible refine (vq_eq_int).mpr ?_ | with_reducible refine (vq_ne_bl).mpr ?_ | with_reducible refine (vq_ne_int).mpr ?_ | with_reducible refine (vq_len_lst).mpr ?_ | with_reducible refine (vq_len_tup).mpr ?_ | with_reducible refine (vq_len_str).mpr ?_ | with_reducible refine (vq_c_lt).mpr ?_ | with_reducible refine (vq_c_le).mpr ?_ | with_reducible refine (vq_c_gt).mpr ?_ | with_reducible refine (vq_c_ge).mpr ?_ | with_reducible refine (vq_a_int).mpr ?_ | with_reducible refine (vq_a_str).mpr ?_ | with_reducible refine (vq_a_lst).mpr ?_ | with_reducible refine (vq_a_tup).mpr ?_ | with_reducible refine (vq_s_int).mpr ?_ | with_reducible refine (vq_ix_lst).mpr ?_ | with_reducible refine (vq_ix_tup).mpr ?_ | with_reducible refine (vq_m_int).mpr ?_ | with_reducible refine (vq_o_int).mpr ?_ | with_reducible refine (vq_f_int).mpr ?_ | with_reducible refine (vq_int_int).mpr ?_ | with_reducible refine (vq_int_bl).mpr ?_ | with_reducible refine (vq_str_int).mpr ?_ | with_reducible refine (vq_ix_str).mpr ?_ | with_reducible refine (vq_sl_strD).mpr ?_ | with_reducible refine (vq_sl_lstD).mpr ?_ | with_reducible refine (vq_sl_tupD).mpr ?_ | ((with_reducible apply i_tyok); · rfl) | ((with_reducible refine i_szl ?_ ?_); · (first | decide | omega | (simp only [List.length_cons, List.length_nil]; omega))) | dsimp only [List.cons_append, List.nil_append, List.append_nil, gtName, gtTup, gtCons, gtNil, setE, setD, Bool.not_true, Bool.not_false, if_true, if_false, List.length_cons, List.length_nil, Nat.reduceAdd, vq_ty_non_bool, vq_ty_non_int, vq_ty_non_str, vq_ty_non_list, vq_ty_non_tuple, vq_ty_non_dict, vq_ty_bl_bool, vq_ty_bl_int, vq_ty_bl_str, vq_ty_bl_list, vq_ty_bl_tuple, vq_ty_bl_dict, vq_ty_int_bool, vq_ty_int_int, vq_ty_int_str, vq_ty_int_list, vq_ty_int_tuple, vq_ty_int_dict, vq_ty_str_bool, vq_ty_str_int, vq_ty_str_str, vq_ty_str_list, vq_ty_str_tuple, vq_ty_str_dict, vq_ty_lst_bool, vq_ty_lst_int, vq_ty_lst_str, vq_ty_lst_list, vq_ty_lst_tuple, vq_ty_lst_dict, vq_ty_tup_bool, vq_ty_tup_int, vq_ty_tup_str, vq_ty_tup_list, vq_ty_tup_tuple, vq_ty_tup_dict, vq_tyOk_bool, vq_tyOk_int, vq_tyOk_str, vq_tyOk_list, vq_tyOk_tuple, vq_tyOk_dict])
      refine is_name_ok (K := K) (g := some (a, c)) rfl ?_
      repeat (first | with_reducible refine i_c ?_ | with_reducible refine i_op ?_ | with_reducible refine i_tst ?_ | with_reducible refine i_and ?_ | with_reducible refine i_or ?_ | with_reducible refine i_not ?_ | with_reducible refine i_andV ?_ | with_reducible refine i_orV ?_ | with_reducible refine i_notV ?_ | with_reducible refine i_if ?_ | with_reducible refine i_nil ?_ | with_reducible refine i_cons ?_ | with_reducible refine i_tup ?_ | with_reducible refine i_lst ?_ | with_reducible refine i_cb ?_ | with_reducible refine i_call ?_ | with_reducible refine i_ch ?_ | with_reducible refine i_sl ?_ | with_reducible refine i_noP ?_ | with_reducible refine i_part ?_ | with_reducible refine i_s1 ?_ | with_reducible refine i_seqL ?_ | with_reducible refine i_seqT ?_ | with_reducible refine i_signs ?_ | with_reducible refine i_rng1 ?_ | with_reducible refine i_zip ?_ | with_reducible refine i_lc ?_ | with_reducible refine i_yes ?_ | with_reducible refine i_next ?_ | with_reducible refine i_seq ?_ | with_reducible refine i_ret ?_ | with_reducible refine i_retN ?_ | with_reducible refine i_drop ?_ | with_reducible refine i_ifS ?_ | with_reducible refine i_set ?_ | with_reducible refine i_setO ?_ | with_reducible refine i_own ?_ | with_reducible refine i_asg ?_ | with_reducible refine i_par ?_ | with_reducible refine i_for ?_ | with_reducible refine i_ifT ?_ | with_reducible refine i_ifF ?_ | ((with_reducible apply i_var); · rfl) | ((with_reducible apply i_rel); · rfl) | ((with_reducible apply i_app); · rfl) | with_reducible refine (vq_isi_non).mpr ?_ | with_reducible refine (vq_isiT_non).mpr ?_ | with_reducible refine (vq_is_non).mpr ?_ | with_reducible refine (vq_isN_non).mpr ?_ | with_reducible refine (vq_isi_bl).mpr ?_ | with_reducible refine (vq_isiT_bl).mpr ?_ | with_reducible refine (vq_is_bl).mpr ?_ | with_reducible refine (vq_isN_bl).mpr ?_ | with_reducible refine (vq_isi_int).mpr ?_ | with_reducible refine (vq_isiT_int).mpr ?_ | with_reducible refine (vq_is_int).mpr ?_ | with_reducible refine (vq_isN_int).mpr ?_ | with_reducible refine (vq_isi_str).mpr ?_ | with_reducible refine (vq_isiT_str).mpr ?_ | with_reducible refine (vq_is_str).mpr ?_ | with_reducible refine (vq_isN_str).mpr ?_ | with_reducible refine (vq_isi_lst).mpr ?_ | with_reducible refine (vq_isiT_lst).mpr ?_ | with_reducible refine (vq_is_lst).mpr ?_ | with_reducible refine (vq_isN_lst).mpr ?_ | with_reducible refine (vq_isi_tup).mpr ?_ | with_reducible refine (vq_isiT_tup).mpr ?_ | with_reducible refine (vq_is_tup).mpr ?_ | with_reducible refine (vq_isN_tup).mpr ?_ | with_reducible refine (vq_eq_bl).mpr ?_ | with_reducible refine (vq_eq_int).mpr ?_ | with_reducible refine (vq_ne_bl).mpr ?_ | with_reducible refine (vq_ne_int).mpr ?_ | with_reducible refine (vq_len_lst).mpr ?_ | with_reducible refine (vq_len_tup).mpr ?_ | with_reducible refine (vq_len_str).mpr ?_ | with_reducible refine (vq_c_lt).mpr ?_ | with_reducible refine (vq_c_le).mpr ?_ | with_reducible refine (vq_c_gt).mpr ?_ | with_reducible refine (vq_c_ge).mpr ?_ | with_reducible refine (vq_a_int).mpr ?_ | with_reducible refine (vq_a_str).mpr ?_ | with_reducible refine (vq_a_lst).mpr ?_ | with_reducible refine (vq_a_tup).mpr ?_ | with_reducible refine (vq_s_int).mpr ?_ | with_reducible refine (vq_ix_lst).mpr ?_ | with_reducible refine (vq_ix_tup).mpr ?_ | with_reducible refine (vq_m_int).mpr ?_ | with_reducible refine (vq_o_int).mpr ?_ | with_reducible refine (vq_f_int).mpr ?_ | with_reducible refine (vq_int_int).mpr ?_ | with_reducible refine (vq_int_bl).mpr ?_ | with_reducible refine (vq_str_int).mpr ?_ | with_reducible refine (vq_ix_str).mpr ?_ | with_reducible refine (vq_sl_strD).mpr ?_ | with_reducible refine (vq_sl_lstD).mpr ?_ | with_reducible refine (vq_sl_tupD).mpr ?_ | ((with_reducible apply i_tyok); · rfl) | ((with_reducible refine i_szl ?_ ?_); · (first | decide | omega | (simp only [List.length_cons, List.length_nil]; omega))) | dsimp only [List.cons_append, List.nil_append, List.append_nil, gtName, gtTup, gtCons, gtNil, setE, setD, Bool.not_true, Bool.not_false, if_true, if_false, List.length_cons, List.length_nil, Nat.reduceAdd, vq_ty_non_bool, vq_ty_non_int, vq_ty_non_str, vq_ty_non_list, vq_ty_non_tuple, vq_ty_non_dict, vq_ty_bl_bool, vq_ty_bl_int, vq_ty_bl_str, vq_ty_bl_list, vq_ty_bl_tuple, vq_ty_bl_dict, vq_ty_int_bool, vq_ty_int_int, vq_ty_int_str, vq_ty_int_list, vq_ty_int_tuple, vq_ty_int_dict, vq_ty_str_bool, vq_ty_str_int, vq_ty_str_str, vq_ty_str_list, vq_ty_str_tuple, vq_ty_str_dict, vq_ty_lst_bool, vq_ty_lst_int, vq_ty_lst_str, vq_ty_lst_list, vq_ty_lst_tuple, vq_ty_lst_dict, vq_ty_tup_bool, vq_ty_tup_int, vq_ty_tup_str, vq_ty_tup_list, vq_ty_tup_tuple, vq_ty_tup_dict, vq_tyOk_bool, vq_tyOk_int, vq_tyOk_str, vq_tyOk_list, vq_tyOk_tuple, vq_tyOk_dict])
      refine odd_ok (K := K) fun d2 h1 h2 => ?_
      repeat (first | with_reducible refine i_c ?_ | with_reducible refine i_op ?_ | with_reducible refine i_tst ?_ | with_reducible refine i_and ?_ | with_reducible refine i_or ?_ | with_reducible refine i_not ?_ | with_reducible refine i_andV ?_ | with_reducible refine i_orV ?_ | with_reducible refine i_notV ?_ | with_reducible refine i_if ?_ | with_reducible refine i_nil ?_ | with_reducible refine i_cons ?_ | with_reducible refine i_tup ?_ | with_reducible refine i_lst ?_ | with_reducible refine i_cb ?_ | with_reducible refine i_call ?_ | with_reducible refine i_ch ?_ | with_reducible refine i_sl ?_ | with_reducible refine i_noP ?_ | with_reducible refine i_part ?_ | with_reducible refine i_s1 ?_ | with_reducible refine i_seqL ?_ | with_reducible refine i_seqT ?_ | with_reducible refine i_signs ?_ | with_reducible refine i_rng1 ?_ | with_reducible refine i_zip ?_ | with_reducible refine i_lc ?_ | with_reducible refine i_yes ?_ | with_reducible refine i_next ?_ | with_reducible refine i_seq ?_ | with_reducible refine i_ret ?_ | with_reducible refine i_retN ?_ | with_reducible refine i_drop ?_ | with_reducible refine i_ifS ?_ | with_reducible refine i_set ?_ | with_reducible refine i_setO ?_ | with_reducible refine i_own ?_ | with_reducible refine i_asg ?_ | with_reducible refine i_par ?_ | with_reducible refine i_for ?_ | with_reducible refine i_ifT ?_ | with_reducible refine i_ifF ?_ | ((with_reducible apply i_var); · rfl) | ((with_reducible apply i_rel); · rfl) | ((with_reducible apply i_app); · rfl) | with_reducible refine (vq_isi_non).mpr ?_ | with_reducible refine (vq_isiT_non).mpr ?_ | with_reducible refine (vq_is_non).mpr ?_ | with_reducible refine (vq_isN_non).mpr ?_ | with_reducible refine (vq_isi_bl).mpr ?_ | with_reducible refine (vq_isiT_bl).mpr ?_ | with_reducible refine (vq_is_bl).mpr ?_ | with_reducible refine (vq_isN_bl).mpr ?_ | with_reducible refine (vq_isi_int).mpr ?_ | with_reducible refine (vq_isiT_int).mpr ?_ | with_reducible refine (vq_is_int).mpr ?_ | with_reducible refine (vq_isN_int).mpr ?_ | with_reducible refine (vq_isi_str).mpr ?_ | with_reducible refine (vq_isiT_str).mpr ?_ | with_reducible refine (vq_is_str).mpr ?_ | with_reducible refine (vq_isN_str).mpr ?_ | with_reducible refine (vq_isi_lst).mpr ?_ | with_reducible refine (vq_isiT_lst).mpr ?_ | with_reducible refine (vq_is_lst).mpr ?_ | with_reducible refine (vq_isN_lst).mpr ?_ | with_reducible refine (vq_isi_tup).mpr ?_ | with_reducible refine (vq_isiT_tup).mpr ?_ | with_reducible refine (vq_is_tup).mpr ?_ | with_reducible refine (vq_isN_tup).mpr ?_ | with_reducible refine (vq_eq_bl).mpr ?_ | with_reducible refine (vq_eq_int).mpr ?_ | with_reducible refine (vq_ne_bl).mpr ?_ | with_reducible refine (vq_ne_int).mpr ?_ | with_reducible refine (vq_len_lst).mpr ?_ | with_reducible refine (vq_len_tup).mpr ?_ | with_reducible refine (vq_len_str).mpr ?_ | with_reducible refine (vq_c_lt).mpr ?_ | with_reducible refine (vq_c_le).mpr ?_ | with_reducible refine (vq_c_gt).mpr ?_ | with_reducible refine (vq_c_ge).mpr ?_ | with_reducible refine (vq_a_int).mpr ?_ | with_reducible refine (vq_a_str).mpr ?_ | with_reducible refine (vq_a_lst).mpr ?_ | with_reducible refine (vq_a_tup).mpr ?_ | with_reducible refine (vq_s_int).mpr ?_ | with_reducible refine (vq_ix_lst).mpr ?_ | with_reducible refine (vq_ix_tup).mpr ?_ | with_reducible refine (vq_m_int).mpr ?_ | with_reducible refine (vq_o_int).mpr ?_ | with_reducible refine (vq_f_int).mpr ?_ | with_reducible refine (vq_int_int).mpr ?_ | with_reducible refine (vq_int_bl).mpr ?_ | with_reducible refine (vq_str_int).mpr ?_ | with_reducible refine (vq_ix_str).mpr ?_ | with_reducible refine (vq_sl_strD).mpr ?_ | with_reducible refine (vq_sl_lstD).mpr ?_ | with_reducible refine (vq_sl_tupD).mpr ?_ | ((with_reducible apply i_tyok); · rfl) | ((with_reducible refine i_szl ?_ ?_); · (first | decide | omega | (simp only [List.length_cons, List.length_nil]; omega))) | dsimp only [List.cons_append, List.nil_append, List.append_nil, gtName, gtTup, gtCons, gtNil, setE, setD, Bool.not_true, Bool.not_false, if_true, if_false, List.length_cons, List.length_nil, Nat.reduceAdd, vq_ty_non_bool, vq_ty_non_int, vq_ty_non_str, vq_ty_non_list, vq_ty_non_tuple, vq_ty_non_dict, vq_ty_bl_bool, vq_ty_bl_int, vq_ty_bl_str, vq_ty_bl_list, vq_ty_bl_tuple, vq_ty_bl_dict, vq_ty_int_bool, vq_ty_int_int, vq_ty_int_str, vq_ty_int_list, vq_ty_int_tuple, vq_ty_int_dict, vq_ty_str_bool, vq_ty_str_int, vq_ty_str_str, vq_ty_str_list, vq_ty_str_tuple, vq_ty_str_dict, vq_ty_lst_bool, vq_ty_lst_int, vq_ty_lst_str, vq_ty_lst_list, vq_ty_lst_tuple, vq_ty_lst_dict, vq_ty_tup_bool, vq_ty_tup_int, vq_ty_tup_str, vq_ty_tup_list, vq_ty_tup_tuple, vq_ty_tup_dict, vq_tyOk_bool, vq_tyOk_int, vq_tyOk_str, vq_tyOk_list, vq_tyOk_tuple, vq_tyOk_dict])
      refine is_name_ok (K := K) (g := some (a, c)) h1 ?_
      rw [h2]
      repeat (first | with_reducible refine i_c ?_ | with_reducible refine i_op ?_ | with_reducible refine i_tst ?_ | with_reducible refine i_and ?_ | with_reducible refine i_or ?_ | with_reducible refine i_not ?_ | with_reducible refine i_andV ?_ | with_reducible refine i_orV ?_ | with_reducible refine i_notV ?_ | with_reducible refine i_if ?_ | with_reducible refine i_nil ?_ | with_reducible refine i_cons ?_ | with_reducible refine i_tup ?_ | with_reducible refine i_lst ?_ | with_reducible refine i_cb ?_ | with_reducible refine i_call ?_ | with_reducible refine i_ch ?_ | with_reducible refine i_sl ?_ | with_reducible refine i_noP ?_ | with_reducible refine i_part ?_ | with_reducible refine i_s1 ?_ | with_reducible refine i_seqL ?_ | with_reducible refine i_seqT ?_ | with_reducible refine i_signs ?_ | with_reducible refine i_rng1 ?_ | with_reducible refine i_zip ?_ | with_reducible refine i_lc ?_ | with_reducible refine i_yes ?_ | with_reducible refine i_next ?_ | with_reducible refine i_seq ?_ | with_reducible refine i_ret ?_ | with_reducible refine i_retN ?_ | with_reducible refine i_drop ?_ | with_reducible refine i_ifS ?_ | with_reducible refine i_set ?_ | with_reducible refine i_setO ?_ | with_reducible refine i_own ?_ | with_reducible refine i_asg ?_ | with_reducible refine i_par ?_ | with_reducible refine i_for ?_ | with_reducible refine i_ifT ?_ | with_reducible refine i_ifF ?_ | ((with_reducible apply i_var); · rfl) | ((with_reducible apply i_rel); · rfl) | ((with_reducible apply i_app); · rfl) | with_reducible refine (vq_isi_non).mpr ?_ | with_reducible refine (vq_isiT_non).mpr ?_ | with_reducible refine (vq_is_non).mpr ?_ | with_reducible refine (vq_isN_non).mpr ?_ | with_reducible refine (vq_isi_bl).mpr ?_ | with_reducible refine (vq_isiT_bl).mpr ?_ | with_reducible refine (vq_is_bl).mpr ?_ | with_reducible refine (vq_isN_bl).mpr ?_ | with_reducible refine (vq_isi_int).mpr ?_ | with_reducible refine (vq_isiT_int).mpr ?_ | with_reducible refine (vq_is_int).mpr ?_ | with_reducible refine (vq_isN_int).mpr ?_ | with_reducible refine (vq_isi_str).mpr ?_ | with_reducible refine (vq_isiT_str).mpr ?_ | with_reducible refine (vq_is_str).mpr ?_ | with_reducible refine (vq_isN_str).mpr ?_ | with_reducible refine (vq_isi_lst).mpr ?_ | with_reducible refine (vq_isiT_lst).mpr ?_ | with_reducible refine (vq_is_lst).mpr ?_ | with_reducible refine (vq_isN_lst).mpr ?_ | with_reducible refine (vq_isi_tup).mpr ?_ | with_reducible refine (vq_isiT_tup).mpr ?_ | with_reducible refine (vq_is_tup).mpr ?_ | with_reducible refine (vq_isN_tup).mpr ?_ | with_reducible refine (vq_eq_bl).mpr ?_ | with_reducible refine (vq_eq_int).mpr ?_ | with_reducible refine (vq_ne_bl).mpr ?_ | with_reducible refine (vq_ne_int).mpr ?_ | with_reducible refine (vq_len_lst).mpr ?_ | with_reducible refine (vq_len_tup).mpr ?_ | with_reducible refine (vq_len_str).mpr ?_ | with_reducible refine (vq_c_lt).mpr ?_ | with_reducible refine (vq_c_le).mpr ?_ | with_reducible refine (vq_c_gt).mpr ?_ | with_reducible refine (vq_c_ge).mpr ?_ | with_reducible refine (vq_a_int).mpr ?_ | with_reducible refine (vq_a_str).mpr ?_ | with_reducible refine (vq_a_lst).mpr ?_ | with_reducible refine (vq_a_tup).mpr ?_ | with_reducible refine (vq_s_int).mpr ?_ | with_reducible refine (vq_ix_lst).mpr ?_ | with_reducible refine (vq_ix_tup).mpr ?_ | with_reducible refine (vq_m_int).mpr ?_ | with_reducible refine (vq_o_int).mpr ?_ | with_reducible refine (vq_f_int).mpr ?_ | with_reducible refine (vq_int_int).mpr ?_ | with_reducible refine (vq_int_bl).mpr ?_ | with_reducible refine (vq_str_int).mpr ?_ | with_reducible refine (vq_ix_str).mpr ?_ | with_reducible refine (vq_sl_strD).mpr ?_ | with_reducible refine (vq_sl_lstD).mpr ?_ | with_reducible refine (vq_sl_tupD).mpr ?_ | ((with_reducible apply i_tyok); · rfl) | ((with_reducible refine i_szl ?_ ?_); · (first | decide | omega | (simp only [List.length_cons, List.length_nil]; omega))) | dsimp only [List.cons_append, List.nil_append, List.append_nil, gtName, gtTup, gtCons, gtNil, setE, setD, Bool.not_true, Bool.not_false, if_true, if_false, List.length_cons, List.length_nil, Nat.reduceAdd, vq_ty_non_bool, vq_ty_non_int, vq_ty_non_str, vq_ty_non_list, vq_ty_non_tuple, vq_ty_non_dict, vq_ty_bl_bool, vq_ty_bl_int, vq_ty_bl_str, vq_ty_bl_list, vq_ty_bl_tuple, vq_ty_bl_dict, vq_ty_int_bool, vq_ty_int_int, vq_ty_int_str, vq_ty_int_list, vq_ty_int_tuple, vq_ty_int_dict, vq_ty_str_bool, vq_ty_str_int, vq_ty_str_str, vq_ty_str_list, vq_ty_str_tuple, vq_ty_str_dict, vq_ty_lst_bool, vq_ty_lst_int, vq_ty_lst_str, vq_ty_lst_list, vq_ty_lst_tuple, vq_ty_lst_dict, vq_ty_tup_bool, vq_ty_tup_int, vq_ty_tup_str, vq_ty_tup_list, vq_ty_tup_tuple, vq_ty_tup_dict, vq_tyOk_bool, vq_tyOk_int, vq_tyOk_str, vq_tyOk_list, vq_tyOk_tuple, vq_tyOk_dict])
      refine same_refl (n := 8) (d := .lst [.bl true, .bl v, .bl false, .bl false]) rfl _ ?_
      repeat (first | with_reducible refine i_c ?_ | with_reducible refine i_op ?_ | with_reducible refine i_tst ?_ | with_reducible refine i_and ?_ | with_reducible refine i_or ?_ | with_reducible refine i_not ?_ | with_reducible refine i_andV ?_ | with_reducible refine i_orV ?_ | with_reducible refine i_notV ?_ | with_reducible refine i_if ?_ | with_reducible refine i_nil ?_ | with_reducible refine i_cons ?_ | with_reducible refine i_tup ?_ | with_reducible refine i_lst ?_ | with_reducible refine i_cb ?_ | with_reducible refine i_call ?_ | with_reducible refine i_ch ?_ | with_reducible refine i_sl ?_ | with_reducible refine i_noP ?_ | with_reducible refine i_part ?_ | with_reducible refine i_s1 ?_ | with_reducible refine i_seqL ?_ | with_reducible refine i_seqT ?_ | with_reducible refine i_signs ?_ | with_reducible refine i_rng1 ?_ | with_reducible refine i_zip ?_ | with_reducible refine i_lc ?_ | with_reducible refine i_yes ?_ | with_reducible refine i_next ?_ | with_reducible refine i_seq ?_ | with_reducible refine i_ret ?_ | with_reducible refine i_retN ?_ | with_reducible refine i_drop ?_ | with_reducible refine i_ifS ?_ | with_reducible refine i_set ?_ | with_reducible refine i_setO ?_ | with_reducible refine i_own ?_ | with_reducible refine i_asg ?_ | with_reducible refine i_par ?_ | with_reducible refine i_for ?_ | with_reducible refine i_ifT ?_ | with_reducible refine i_ifF ?_ | ((with_reducible apply i_var); · rfl) | ((with_reducible apply i_rel); · rfl) | ((with_reducible apply i_app); · rfl) | with_reducible refine (vq_isi_non).mpr ?_ | with_reducible refine (vq_isiT_non).mpr ?_ | with_reducible refine (vq_is_non).mpr ?_ | with_reducible refine (vq_isN_non).mpr ?_ | with_reducible refine (vq_isi_bl).mpr ?_ | with_reducible refine (vq_isiT_bl).mpr ?_ | with_reducible refine (vq_is_bl).mpr ?_ | with_reducible refine (vq_isN_bl).mpr ?_ | with_reducible refine (vq_isi_int).mpr ?_ | with_reducible refine (vq_isiT_int).mpr ?_ | with_reducible refine (vq_is_int).mpr ?_ | with_reducible refine (vq_isN_int).mpr ?_ | with_reducible refine (vq_isi_str).mpr ?_ | with_reducible refine (vq_isiT_str).mpr ?_ | with_reducible refine (vq_is_str).mpr ?_ | with_reducible refine (vq_isN_str).mpr ?_ | with_reducible refine (vq_isi_lst).mpr ?_ | with_reducible refine (vq_isiT_lst).mpr ?_ | with_reducible refine (vq_is_lst).mpr ?_ | with_reducible refine (vq_isN_lst).mpr ?_ | with_reducible refine (vq_isi_tup).mpr ?_ | with_reducible refine (vq_isiT_tup).mpr ?_ | with_reducible refine (vq_is_tup).mpr ?_ | with_reducible refine (vq_isN_tup).mpr ?_ | with_reducible refine (vq_eq_bl).mpr ?_ | with_reducible refine (vq_eq_int).mpr ?_ | with_reducible refine (vq_ne_bl).mpr ?_ | with_reducible refine (vq_ne_int).mpr ?_ | with_reducible refine (vq_len_lst).mpr ?_ | with_reducible refine (vq_len_tup).mpr ?_ | with_reducible refine (vq_len_str).mpr ?_ | with_reducible refine (vq_c_lt).mpr ?_ | with_reducible refine (vq_c_le).mpr ?_ | with_reducible refine (vq_c_gt).mpr ?_ | with_reducible refine (vq_c_ge).mpr ?_ | with_reducible refine (vq_a_int).mpr ?_ | with_reducible refine (vq_a_str).mpr ?_ | with_reducible refine (vq_a_lst).mpr ?_ | with_reducible refine (vq_a_tup).mpr ?_ | with_reducible refine (vq_s_int).mpr ?_ | with_reducible refine (vq_ix_lst).mpr ?_ | with_reducible refine (vq_ix_tup).mpr ?_ | with_reducible refine (vq_m_int).mpr ?_ | with_reducible refine (vq_o_int).mpr ?_ | with_reducible refine (vq_f_int).mpr ?_ | with_reducible refine (vq_int_int).mpr ?_ | with_reducible refine (vq_int_bl).mpr ?_ | with_reducible refine (vq_str_int).mpr ?_ | with_reducible refine (vq_ix_str).mpr ?_ | with_reducible refine (vq_sl_strD).mpr ?_ | with_reducible refine (vq_sl_lstD).mpr ?_ | with_reducible refine (vq_sl_tupD).mpr ?_ | ((with_reducible apply i_tyok); · rfl) | ((with_reducible refine i_szl ?_ ?_); · (first | decide | omega | (simp only [List.length_cons, List.length_nil]; omega))) | dsimp only [List.cons_append, List.nil_append, List.append_nil, gtName, gtTup, gtCons, gtNil, setE, setD, Bool.not_true, Bool.not_false, if_true, if_false, List.length_cons, List.length_nil, Nat.reduceAdd, vq_ty_non_bool, vq_ty_non_int, vq_ty_non_str, vq_ty_non_list, vq_ty_non_tuple, vq_ty_non_dict, vq_ty_bl_bool, vq_ty_bl_int, vq_ty_bl_str, vq_ty_bl_list, vq_ty_bl_tuple, vq_ty_bl_dict, vq_ty_int_bool, vq_ty_int_int, vq_ty_int_str, vq_ty_int_list, vq_ty_int_tuple, vq_ty_int_dict, vq_ty_str_bool, vq_ty_str_int, vq_ty_str_str, vq_ty_str_list, vq_ty_str_tuple, vq_ty_str_dict, vq_ty_lst_bool, vq_ty_lst_int, vq_ty_lst_str, vq_ty_lst_list, vq_ty_lst_tuple, vq_ty_lst_dict, vq_ty_tup_bool, vq_ty_tup_int, vq_ty_tup_str, vq_ty_tup_list, vq_ty_tup_tuple, vq_ty_tup_dict, vq_tyOk_bool, vq_tyOk_int, vq_tyOk_str, vq_tyOk_list, vq_tyOk_tuple, vq_tyOk_dict])
      exact hk _ ⟨_, _, _, _, _, _, rfl⟩
    cases h1 : decide (1 ≤ (bent.length : Int)) with
    | false =>
      repeat (first | with_reducible refine i_c ?_ | with_reducible refine i_op ?_ | with_reducible refine i_tst ?_ | with_reducible refine i_and ?_ | with_reducible refine i_or ?_ | with_reducible refine i_not ?_ | with_reducible refine i_andV ?_ | with_reducible refine i_orV ?_ | with_reducible refine i_notV ?_ | with_reducible refine i_if ?_ | with_reducible refine i_nil ?_ | with_reducible refine i_cons ?_ | with_reducible refine i_tup ?_ | with_reducible refine i_lst ?_ | with_reducible refine i_cb ?_ | with_reducible refine i_call ?_ | with_reducible refine i_ch ?_ | with_reducible refine i_sl ?_ | with_reducible refine i_noP ?_ | with_reducible refine i_part ?_ | with_reducible refine i_s1 ?_ | with_reducible refine i_seqL ?_ | with_reducible refine i_seqT ?_ | with_reducible refine i_signs ?_ | with_reducible refine i_rng1 ?_ | with_reducible refine i_zip ?_ | with_reducible refine i_lc ?_ | with_reducible refine i_yes ?_ | with_reducible refine i_next ?_ | with_reducible refine i_seq ?_ | with_reducible refine i_ret ?_ | with_reducible refine i_retN ?_ | with_reducible refine i_drop ?_ | with_reducible refine i_ifS ?_ | with_reducible refine i_set ?_ | with_reducible refine i_setO ?_ | with_reducible refine i_own ?_ | with_reducible refine i_asg ?_ | with_reducible refine i_par ?_ | with_reducible refine i_for ?_ | with_reducible refine i_ifT ?_ | with_reducible refine i_ifF ?_ | ((with_reducible apply i_var); · rfl) | ((with_reducible apply i_rel); · rfl) | ((with_reducible apply i_app); · rfl) | with_reducible refine (vq_isi_non).mpr ?_ | with_reducible refine (vq_isiT_non).mpr ?_ | with_reducible refine (vq_is_non).mpr ?_ | with_reducible refine (vq_isN_non).mpr ?_ | with_reducible refine (vq_isi_bl).mpr ?_ | with_reducible refine (vq_isiT_bl).mpr ?_ | with_reducible refine (vq_is_bl).mpr ?_ | with_reducible refine (vq_isN_bl).mpr ?_ | with_reducible refine (vq_isi_int).mpr ?_ | with_reducible refine (vq_isiT_int).mpr ?_ | with_reducible refine (vq_is_int).mpr ?_ | with_reducible refine (vq_isN_int).mpr ?_ | with_reducible refine (vq_isi_str).mpr ?_ | with_reducible refine (vq_isiT_str).mpr ?_ | with_reducible refine (vq_is_str).mpr ?_ | with_reducible refine (vq_isN_str).mpr ?_ | with_reducible refine (vq_isi_lst).mpr ?_ | with_reducible refine (vq_isiT_lst).mpr ?_ | with_reducible refine (vq_is_lst).mpr ?_ | with_reducible refine (vq_isN_lst).mpr ?_ | with_reducible refine (vq_isi_tup).mpr ?_ | with_reducible refine (vq_isiT_tup).mpr ?_ | with_reducible refine (vq_is_tup).mpr ?_ | with_reducible refine (vq_isN_tup).mpr ?_ | with_reducible refine (vq_eq_bl).mpr ?_ | with_reducible refine (vq_eq_int).mpr ?_ | with_reducible refine (vq_ne_bl).mpr ?_ | with_reducible refine (vq_ne_int).mpr ?_ | with_reducible refine (vq_len_lst).mpr ?_ | with_reducible refine (vq_len_tup).mpr ?_ | with_reducible refine (vq_len_str).mpr ?_ | with_reducible refine (vq_c_lt).mpr ?_ | with_reducible refine (vq_c_le).mpr ?_ | with_reducible refine (vq_c_gt).mpr ?_ | with_reducible refine (vq_c_ge).mpr ?_ | with_reducible refine (vq_a_int).mpr ?_ | with_reducible refine (vq_a_str).mpr ?_ | with_reducible refine (vq_a_lst).mpr ?_ | with_reducible refine (vq_a_tup).mpr ?_ | with_reducible refine (vq_s_int).mpr ?_ | with_reducible refine (vq_ix_lst).mpr ?_ | with_reducible refine (vq_ix_tup).mpr ?_ | with_reducible refine (vq_m_int).mpr ?_ | with_reducible refine (vq_o_int).mpr ?_ | with_reducible refine (vq_f_int).mpr ?_ | with_reducible refine (vq_int_int).mpr ?_ | with_reducible refine (vq_int_bl).mpr ?_ | with_reducible refine (vq_str_int).mpr ?_ | with_reducible refine (vq_ix_str).mpr ?_ | with_reducible refine (vq_sl_strD).mpr ?_ | with_reducible refine (vq_sl_lstD).mpr ?_ | with_reducible refine (vq_sl_tupD).mpr ?_ | ((with_reducible apply i_tyok); · rfl) | ((with_reducible refine i_szl ?_ ?_); · (first | decide | omega | (simp only [List.length_cons, List.length_nil]; omega))) | dsimp only [List.cons_append, List.nil_append, List.append_nil, gtName, gtTup, gtCons, gtNil, setE, setD, Bool.not_true, Bool.not_false, if_true, if_false, List.length_cons, List.length_nil, Nat.reduceAdd, vq_ty_non_bool, vq_ty_non_int, vq_ty_non_str, vq_ty_non_list, vq_ty_non_tuple, vq_ty_non_dict, vq_ty_bl_bool, vq_ty_bl_int, vq_ty_bl_str, vq_ty_bl_list, vq_ty_bl_tuple, vq_ty_bl_dict, vq_ty_int_bool, vq_ty_int_int, vq_ty_int_str, vq_ty_int_list, vq_ty_int_tuple, vq_ty_int_dict, vq_ty_str_bool, vq_ty_str_int, vq_ty_str_str, vq_ty_str_list, vq_ty_str_tuple, vq_ty_str_dict, vq_ty_lst_bool, vq_ty_lst_int, vq_ty_lst_str, vq_ty_lst_list, vq_ty_lst_tuple, vq_ty_lst_dict, vq_ty_tup_bool, vq_ty_tup_int, vq_ty_tup_str, vq_ty_tup_list, vq_ty_tup_tuple, vq_ty_tup_dict, vq_tyOk_bool, vq_tyOk_int, vq_tyOk_str, vq_tyOk_list, vq_tyOk_tuple, vq_tyOk_dict])
      exact fin false _ (by simp only [isn]; rw [show decide (1 ≤ bent.length) = false from decide_eq_false (by have := of_decide_eq_false h1; omega)]; rfl) rfl
    | true =>
      have h1 := of_decide_eq_true h1
      repeat (first | with_reducible refine i_c ?_ | with_reducible refine i_op ?_ | with_reducible refine i_tst ?_ | with_reducible refine i_and ?_ | with_reducible refine i_or ?_ | with_reducible refine i_not ?_ | with_reducible refine i_andV ?_ | with_reducible refine i_orV ?_ | with_reducible refine i_notV ?_ | with_reducible refine i_if ?_ | with_reducible refine i_nil ?_ | with_reducible refine i_cons ?_ | with_reducible refine i_tup ?_ | with_reducible refine i_lst ?_ | with_reducible refine i_cb ?_ | with_reducible refine i_call ?_ | with_reducible refine i_ch ?_ | with_reducible refine i_sl ?_ | with_reducible refine i_noP ?_ | with_reducible refine i_part ?_ | with_reducible refine i_s1 ?_ | with_reducible refine i_seqL ?_ | with_reducible refine i_seqT ?_ | with_reducible refine i_signs ?_ | with_reducible refine i_rng1 ?_ | with_reducible refine i_zip ?_ | with_reducible refine i_lc ?_ | with_reducible refine i_yes ?_ | with_reducible refine i_next ?_ | with_reducible refine i_seq ?_ | with_reducible refine i_ret ?_ | with_reducible refine i_retN ?_ | with_reducible refine i_drop ?_ | with_reducible refine i_ifS ?_ | with_reducible refine i_set ?_ | with_reducible refine i_setO ?_ | with_reducible refine i_own ?_ | with_reducible refine i_asg ?_ | with_reducible refine i_par ?_ | with_reducible refine i_for ?_ | with_reducible refine i_ifT ?_ | with_reducible refine i_ifF ?_ | ((with_reducible apply i_var); · rfl) | ((with_reducible apply i_rel); · rfl) | ((with_reducible apply i_app); · rfl) | with_reducible refine (vq_isi_non).mpr ?_ | with_reducible refine (vq_isiT_non).mpr ?_ | with_reducible refine (vq_is_non).mpr ?_ | with_reducible refine (vq_isN_non).mpr ?_ | with_reducible refine (vq_isi_bl).mpr ?_ | with_reducible refine (vq_isiT_bl).mpr ?_ | with_reducible refine (vq_is_bl).mpr ?_ | with_reducible refine (vq_isN_bl).mpr ?_ | with_reducible refine (vq_isi_int).mpr ?_ | with_reducible refine (vq_isiT_int).mpr ?_ | with_reducible refine (vq_is_int).mpr ?_ | with_reducible refine (vq_isN_int).mpr ?_ | with_reducible refine (vq_isi_str).mpr ?_ | with_reducible refine (vq_isiT_str).mpr ?_ | with_reducible refine (vq_is_str).mpr ?_ | with_reducible refine (vq_isN_str).mpr ?_ | with_reducible refine (vq_isi_lst).mpr ?_ | with_reducible refine (vq_isiT_lst).mpr ?_ | with_reducible refine (vq_is_lst).mpr ?_ | with_reducible refine (vq_isN_lst).mpr ?_ | with_reducible refine (vq_isi_tup).mpr ?_ | with_reducible refine (vq_isiT_tup).mpr ?_ | with_reducible refine (vq_is_tup).mpr ?_ | with_reducible refine (vq_isN_tup).mpr ?_ | with_reducible refine (vq_eq_bl).mpr ?_ | with_reducible refine (vq_eq_int).mpr ?_ | with_reducible refine (vq_ne_bl).mpr ?_ | with_reducible refine (vq_ne_int).mpr ?_ | with_reducible refine (vq_len_lst).mpr ?_ | with_reducible refine (vq_len_tup).mpr ?_ | with_reducible refine (vq_len_str).mpr ?_ | with_reducible refine (vq_c_lt).mpr ?_ | with_reducible refine (vq_c_le).mpr ?_ | with_reducible refine (vq_c_gt).mpr ?_ | with_reducible refine (vq_c_ge).mpr ?_ | with_reducible refine (vq_a_int).mpr ?_ | with_reducible refine (vq_a_str).mpr ?_ | with_reducible refine (vq_a_lst).mpr ?_ | with_reducible refine (vq_a_tup).mpr ?_ | with_reducible refine (vq_s_int).mpr ?_ | with_reducible refine (vq_ix_lst).mpr ?_ | with_reducible refine (vq_ix_tup).mpr ?_ | with_reducible refine (vq_m_int).mpr ?_ | with_reducible refine (vq_o_int).mpr ?_ | with_reducible refine (vq_f_int).mpr ?_ | with_reducible refine (vq_int_int).mpr ?_ | with_reducible refine (vq_int_bl).mpr ?_ | with_reducible refine (vq_str_int).mpr ?_ | with_reducible refine (vq_ix_str).mpr ?_ | with_reducible refine (vq_sl_strD).mpr ?_ | with_reducible refine (vq_sl_lstD).mpr ?_ | with_reducible refine (vq_sl_tupD).mpr ?_ | ((with_reducible apply i_tyok); · rfl) | ((with_reducible refine i_szl ?_ ?_); · (first | decide | omega | (simp only [List.length_cons, List.length_nil]; omega))) | dsimp only [List.cons_append, List.nil_append, List.append_nil, gtName, gtTup, gtCons, gtNil, setE, setD, Bool.not_true, Bool.not_false, if_true, if_false, List.length_cons, List.length_nil, Nat.reduceAdd, vq_ty_non_bool, vq_ty_non_int, vq_ty_non_str, vq_ty_non_list, vq_ty_non_tuple, vq_ty_non_dict, vq_ty_bl_bool, vq_ty_bl_int, vq_ty_bl_str, vq_ty_bl_list, vq_ty_bl_tuple, vq_ty_bl_dict, vq_ty_int_bool, vq_ty_int_int, vq_ty_int_str, vq_ty_int_list, vq_ty_int_tuple, vq_ty_int_dict, vq_ty_str_bool, vq_ty_str_int, vq_ty_str_str, vq_ty_str_list, vq_ty_str_tuple, vq_ty_str_dict, vq_ty_lst_bool, vq_ty_lst_int, vq_ty_lst_str, vq_ty_lst_list, vq_ty_lst_tuple, vq_ty_lst_dict, vq_ty_tup_bool, vq_ty_tup_int, vq_ty_tup_str, vq_ty_tup_list, vq_ty_tup_tuple, vq_ty_tup_dict, vq_tyOk_bool, vq_tyOk_int, vq_tyOk_str, vq_tyOk_list, vq_tyOk_tuple, vq_tyOk_dict])
      cases h2 : decide ((bent.length : Int) ≤ 6) with
      | false =>
        repeat (first | with_reducible refine i_c ?_ | with_reducible refine i_op ?_ | with_reducible refine i_tst ?_ | with_reducible refine i_and ?_ | with_reducible refine i_or ?_ | with_reducible refine i_not ?_ | with_reducible refine i_andV ?_ | with_reducible refine i_orV ?_ | with_reducible refine i_notV ?_ | with_reducible refine i_if ?_ | with_reducible refine i_nil ?_ | with_reducible refine i_cons ?_ | with_reducible refine i_tup ?_ | with_reducible refine i_lst ?_ | with_reducible refine i_cb ?_ | with_reducible refine i_call ?_ | with_reducible refine i_ch ?_ | with_reducible refine i_sl ?_ | with_reducible refine i_noP ?_ | with_reducible refine i_part ?_ | with_reducible refine i_s1 ?_ | with_reducible refine i_seqL ?_ | with_reducible refine i_seqT ?_ | with_reducible refine i_signs ?_ | with_reducible refine i_rng1 ?_ | with_reducible refine i_zip ?_ | with_reducible refine i_lc ?_ | with_reducible refine i_yes ?_ | with_reducible refine i_next ?_ | with_reducible refine i_seq ?_ | with_reducible refine i_ret ?_ | with_reducible refine i_retN ?_ | with_reducible refine i_drop ?_ | with_reducible refine i_ifS ?_ | with_reducible refine i_set ?_ | with_reducible refine i_setO ?_ | with_reducible refine i_own ?_ | with_reducible refine i_asg ?_ | with_reducible refine i_par ?_ | with_reducible refine i_for ?_ | with_reducible refine i_ifT ?_ | with_reducible refine i_ifF ?_ | ((with_reducible apply i_var); · rfl) | ((with_reducible apply i_rel); · rfl) | ((with_reducible apply i_app); · rfl) | with_reducible refine (vq_isi_non).mpr ?_ | with_reducible refine (vq_isiT_non).mpr ?_ | with_reducible refine (vq_is_non).mpr ?_ | with_reducible refine (vq_isN_non).mpr ?_ | with_reducible refine (vq_isi_bl).mpr ?_ | with_reducible refine (vq_isiT_bl).mpr ?_ | with_reducible refine (vq_is_bl).mpr ?_ | with_reducible refine (vq_isN_bl).mpr ?_ | with_reducible refine (vq_isi_int).mpr ?_ | with_reducible refine (vq_isiT_int).mpr ?_ | with_reducible refine (vq_is_int).mpr ?_ | with_reducible refine (vq_isN_int).mpr ?_ | with_reducible refine (vq_isi_str).mpr ?_ | with_reducible refine (vq_isiT_str).mpr ?_ | with_reducible refine (vq_is_str).mpr ?_ | with_reducible refine (vq_isN_str).mpr ?_ | with_reducible refine (vq_isi_lst).mpr ?_ | with_reducible refine (vq_isiT_lst).mpr ?_ | with_reducible refine (vq_is_lst).mpr ?_ | with_reducible refine (vq_isN_lst).mpr ?_ | with_reducible refine (vq_isi_tup).mpr ?_ | with_reducible refine (vq_isiT_tup).mpr ?_ | with_reducible refine (vq_is_tup).mpr ?_ | with_reducible refine (vq_isN_tup).mpr ?_ | with_reducible refine (vq_eq_bl).mpr ?_ | with_reducible refine (vq_eq_int).mpr ?_ | with_reducible refine (vq_ne_bl).mpr ?_ | with_reducible refine (vq_ne_int).mpr ?_ | with_reducible refine (vq_len_lst).mpr ?_ | with_reducible refine (vq_len_tup).mpr ?_ | with_reducible refine (vq_len_str).mpr ?_ | with_reducible refine (vq_c_lt).mpr ?_ | with_reducible refine (vq_c_le).mpr ?_ | with_reducible refine (vq_c_gt).mpr ?_ | with_reducible refine (vq_c_ge).mpr ?_ | with_reducible refine (vq_a_int).mpr ?_ | with_reducible refine (vq_a_str).mpr ?_ | with_reducible refine (vq_a_lst).mpr ?_ | with_reducible refine (vq_a_tup).mpr ?_ | with_reducible refine (vq_s_int).mpr ?_ | with_reducible refine (vq_ix_lst).mpr ?_ | with_reducible refine (vq_ix_tup).mpr ?_ | with_reducible refine (vq_m_int).mpr ?_ | with_reducible refine (vq_o_int).mpr ?_ | with_reducible refine (vq_f_int).mpr ?_ | with_reducible refine (vq_int_int).mpr ?_ | with_reducible refine (vq_int_bl).mpr ?_ | with_reducible refine (vq_str_int).mpr ?_ | with_reducible refine (vq_ix_str).mpr ?_ | with_reducible refine (vq_sl_strD).mpr ?_ | with_reducible refine (vq_sl_lstD).mpr ?_ | with_reducible refine (vq_sl_tupD).mpr ?_ | ((with_reducible apply i_tyok); · rfl) | ((with_reducible refine i_szl ?_ ?_); · (first | decide | omega | (simp only [List.length_cons, List.length_nil]; omega))) | dsimp only [List.cons_append, List.nil_append, List.append_nil, gtName, gtTup, gtCons, gtNil, setE, setD, Bool.not_true, Bool.not_false, if_true, if_false, List.length_cons, List.length_nil, Nat.reduceAdd, vq_ty_non_bool, vq_ty_non_int, vq_ty_non_str, vq_ty_non_list, vq_ty_non_tuple, vq_ty_non_dict, vq_ty_bl_bool, vq_ty_bl_int, vq_ty_bl_str, vq_ty_bl_list, vq_ty_bl_tuple, vq_ty_bl_dict, vq_ty_int_bool, vq_ty_int_int, vq_ty_int_str, vq_ty_int_list, vq_ty_int_tuple, vq_ty_int_dict, vq_ty_str_bool, vq_ty_str_int, vq_ty_str_str, vq_ty_str_list, vq_ty_str_tuple, vq_ty_str_dict, vq_ty_lst_bool, vq_ty_lst_int, vq_ty_lst_str, vq_ty_lst_list, vq_ty_lst_tuple, vq_ty_lst_dict, vq_ty_tup_bool, vq_ty_tup_int, vq_ty_tup_str, vq_ty_tup_list, vq_ty_tup_tuple, vq_ty_tup_dict, vq_tyOk_bool, vq_tyOk_int, vq_tyOk_str, vq_tyOk_list, vq_tyOk_tuple, vq_tyOk_dict])
        exact fin false _ (by simp only [isn]; rw [show decide (bent.length ≤ 6) = false from decide_eq_false (by have := of_decide_eq_false h2; omega), Bool.false_and, Bool.and_false]) rfl
      | true =>
        have h2 := of_decide_eq_true h2
        repeat (first | with_reducible refine i_c ?_ | with_reducible refine i_op ?_ | with_reducible refine i_tst ?_ | with_reducible refine i_and ?_ | with_reducible refine i_or ?_ | with_reducible refine i_not ?_ | with_reducible refine i_andV ?_ | with_reducible refine i_orV ?_ | with_reducible refine i_notV ?_ | with_reducible refine i_if ?_ | with_reducible refine i_nil ?_ | with_reducible refine i_cons ?_ | with_reducible refine i_tup ?_ | with_reducible refine i_lst ?_ | with_reducible refine i_cb ?_ | with_reducible refine i_call ?_ | with_reducible refine i_ch ?_ | with_reducible refine i_sl ?_ | with_reducible refine i_noP ?_ | with_reducible refine i_part ?_ | with_reducible refine i_s1 ?_ | with_reducible refine i_seqL ?_ | with_reducible refine i_seqT ?_ | with_reducible refine i_signs ?_ | with_reducible refine i_rng1 ?_ | with_reducible refine i_zip ?_ | with_reducible refine i_lc ?_ | with_reducible refine i_yes ?_ | with_reducible refine i_next ?_ | with_reducible refine i_seq ?_ | with_reducible refine i_ret ?_ | with_reducible refine i_retN ?_ | with_reducible refine i_drop ?_ | with_reducible refine i_ifS ?_ | with_reducible refine i_set ?_ | with_reducible refine i_setO ?_ | with_reducible refine i_own ?_ | with_reducible refine i_asg ?_ | with_reducible refine i_par ?_ | with_reducible refine i_for ?_ | with_reducible refine i_ifT ?_ | with_reducible refine i_ifF ?_ | ((with_reducible apply i_var); · rfl) | ((with_reducible apply i_rel); · rfl) | ((with_reducible apply i_app); · rfl) | with_reducible refine (vq_isi_non).mpr ?_ | with_reducible refine (vq_isiT_non).mpr ?_ | with_reducible refine (vq_is_non).mpr ?_ | with_reducible refine (vq_isN_non).mpr ?_ | with_reducible refine (vq_isi_bl).mpr ?_ | with_reducible refine (vq_isiT_bl).mpr ?_ | with_reducible refine (vq_is_bl).mpr ?_ | with_reducible refine (vq_isN_bl).mpr ?_ | with_reducible refine (vq_isi_int).mpr ?_ | with_reducible refine (vq_isiT_int).mpr ?_ | with_reducible refine (vq_is_int).mpr ?_ | with_reducible refine (vq_isN_int).mpr ?_ | with_reducible refine (vq_isi_str).mpr ?_ | with_reducible refine (vq_isiT_str).mpr ?_ | with_reducible refine (vq_is_str).mpr ?_ | with_reducible refine (vq_isN_str).mpr ?_ | with_reducible refine (vq_isi_lst).mpr ?_ | with_reducible refine (vq_isiT_lst).mpr ?_ | with_reducible refine (vq_is_lst).mpr ?_ | with_reducible refine (vq_isN_lst).mpr ?_ | with_reducible refine (vq_isi_tup).mpr ?_ | with_reducible refine (vq_isiT_tup).mpr ?_ | with_reducible refine (vq_is_tup).mpr ?_ | with_reducible refine (vq_isN_tup).mpr ?_ | with_reducible refine (vq_eq_bl).mpr ?_ | with_reducible refine (vq_eq_int).mpr ?_ | with_reducible refine (vq_ne_bl).mpr ?_ | with_reducible refine (vq_ne_int).mpr ?_ | with_reducible refine (vq_len_lst).mpr ?_ | with_reducible refine (vq_len_tup).mpr ?_ | with_reducible refine (vq_len_str).mpr ?_ | with_reducible refine (vq_c_lt).mpr ?_ | with_reducible refine (vq_c_le).mpr ?_ | with_reducible refine (vq_c_gt).mpr ?_ | with_reducible refine (vq_c_ge).mpr ?_ | with_reducible refine (vq_a_int).mpr ?_ | with_reducible refine (vq_a_str).mpr ?_ | with_reducible refine (vq_a_lst).mpr ?_ | with_reducible refine (vq_a_tup).mpr ?_ | with_reducible refine (vq_s_int).mpr ?_ | with_reducible refine (vq_ix_lst).mpr ?_ | with_reducible refine (vq_ix_tup).mpr ?_ | with_reducible refine (vq_m_int).mpr ?_ | with_reducible refine (vq_o_int).mpr ?_ | with_reducible refine (vq_f_int).mpr ?_ | with_reducible refine (vq_int_int).mpr ?_ | with_reducible refine (vq_int_bl).mpr ?_ | with_reducible refine (vq_str_int).mpr ?_ | with_reducible refine (vq_ix_str).mpr ?_ | with_reducible refine (vq_sl_strD).mpr ?_ | with_reducible refine (vq_sl_lstD).mpr ?_ | with_reducible refine (vq_sl_tupD).mpr ?_ | ((with_reducible apply i_tyok); · rfl) | ((with_reducible refine i_szl ?_ ?_); · (first | decide | omega | (simp only [List.length_cons, List.length_nil]; omega))) | dsimp only [List.cons_append, List.nil_append, List.append_nil, gtName, gtTup, gtCons, gtNil, setE, setD, Bool.not_true, Bool.not_false, if_true, if_false, List.length_cons, List.length_nil, Nat.reduceAdd, vq_ty_non_bool, vq_ty_non_int, vq_ty_non_str, vq_ty_non_list, vq_ty_non_tuple, vq_ty_non_dict, vq_ty_bl_bool, vq_ty_bl_int, vq_ty_bl_str, vq_ty_bl_list, vq_ty_bl_tuple, vq_ty_bl_dict, vq_ty_int_bool, vq_ty_int_int, vq_ty_int_str, vq_ty_int_list, vq_ty_int_tuple, vq_ty_int_dict, vq_ty_str_bool, vq_ty_str_int, vq_ty_str_str, vq_ty_str_list, vq_ty_str_tuple, vq_ty_str_dict, vq_ty_lst_bool, vq_ty_lst_int, vq_ty_lst_str, vq_ty_lst_list, vq_ty_lst_tuple, vq_ty_lst_dict, vq_ty_tup_bool, vq_ty_tup_int, vq_ty_tup_str, vq_ty_tup_list, vq_ty_tup_tuple, vq_ty_tup_dict, vq_tyOk_bool, vq_tyOk_int, vq_tyOk_str, vq_tyOk_list, vq_tyOk_tuple, vq_tyOk_dict])
        have hz := sl1
        refine compL_filter (t := fun d => match d with | .str x => (tl x).all fun c => !isL c | _ => false) (f := id) _ (by rw [signs_len]; omega) (fun d hd => ?_) ?_
        · obtain ⟨x, hx, rfl⟩ := signs_mem hd
          refine ⟨fun k hk => ?_, fun k hk => ?_⟩
          · repeat (first | with_reducible refine i_c ?_ | with_reducible refine i_op ?_ | with_reducible refine i_tst ?_ | with_reducible refine i_and ?_ | with_reducible refine i_or ?_ | with_reducible refine i_not ?_ | with_reducible refine i_andV ?_ | with_reducible refine i_orV ?_ | with_reducible refine i_notV ?_ | with_reducible refine i_if ?_ | with_reducible refine i_nil ?_ | with_reducible refine i_cons ?_ | with_reducible refine i_tup ?_ | with_reducible refine i_lst ?_ | with_reducible refine i_cb ?_ | with_reducible refine i_call ?_ | with_reducible refine i_ch ?_ | with_reducible refine i_sl ?_ | with_reducible refine i_noP ?_ | with_reducible refine i_part ?_ | with_reducible refine i_s1 ?_ | with_reducible refine i_seqL ?_ | with_reducible refine i_seqT ?_ | with_reducible refine i_signs ?_ | with_reducible refine i_rng1 ?_ | with_reducible refine i_zip ?_ | with_reducible refine i_lc ?_ | with_reducible refine i_yes ?_ | with_reducible refine i_next ?_ | with_reducible refine i_seq ?_ | with_reducible refine i_ret ?_ | with_reducible refine i_retN ?_ | with_reducible refine i_drop ?_ | with_reducible refine i_ifS ?_ | with_reducible refine i_set ?_ | with_reducible refine i_setO ?_ | with_reducible refine i_own ?_ | with_reducible refine i_asg ?_ | with_reducible refine i_par ?_ | with_reducible refine i_for ?_ | with_reducible refine i_ifT ?_ | with_reducible refine i_ifF ?_ | ((with_reducible apply i_var); · rfl) | ((with_reducible apply i_rel); · rfl) | ((with_reducible apply i_app); · rfl) | with_reducible refine (vq_isi_non).mpr ?_ | with_reducible refine (vq_isiT_non).mpr ?_ | with_reducible refine (vq_is_non).mpr ?_ | with_reducible refine (vq_isN_non).mpr ?_ | with_reducible refine (vq_isi_bl).mpr ?_ | with_reducible refine (vq_isiT_bl).mpr ?_ | with_reducible refine (vq_is_bl).mpr ?_ | with_reducible refine (vq_isN_bl).mpr ?_ | with_reducible refine (vq_isi_int).mpr ?_ | with_reducible refine (vq_isiT_int).mpr ?_ | with_reducible refine (vq_is_int).mpr ?_ | with_reducible refine (vq_isN_int).mpr ?_ | with_reducible refine (vq_isi_str).mpr ?_ | with_reducible refine (vq_isiT_str).mpr ?_ | with_reducible refine (vq_is_str).mpr ?_ | with_reducible refine (vq_isN_str).mpr ?_ | with_reducible refine (vq_isi_lst).mpr ?_ | with_reducible refine (vq_isiT_lst).mpr ?_ | with_reducible refine (vq_is_lst).mpr ?_ | with_reducible refine (vq_isN_lst).mpr ?_ | with_reducible refine (vq_isi_tup).mpr ?_ | with_reducible refine (vq_isiT_tup).mpr ?_ | with_reducible refine (vq_is_tup).mpr ?_ | with_reducible refine (vq_isN_tup).mpr ?_ | with_reducible refine (vq_eq_bl).mpr ?_ | with_reducible refine (vq_eq_int).mpr ?_ | with_reducible refine (vq_ne_bl).mpr ?_ | with_reducible refine (vq_ne_int).mpr ?_ | with_reducible refine (vq_len_lst).mpr ?_ | with_reducible refine (vq_len_tup).mpr ?_ | with_reducible refine (vq_len_str).mpr ?_ | with_reducible refine (vq_c_lt).mpr ?_ | with_reducible refine (vq_c_le).mpr ?_ | with_reducible refine (vq_c_gt).mpr ?_ | with_reducible refine (vq_c_ge).mpr ?_ | with_reducible refine (vq_a_int).mpr ?_ | with_reducible refine (vq_a_str).mpr ?_ | with_reducible refine (vq_a_lst).mpr ?_ | with_reducible refine (vq_a_tup).mpr ?_ | with_reducible refine (vq_s_int).mpr ?_ | with_reducible refine (vq_ix_lst).mpr ?_ | with_reducible refine (vq_ix_tup).mpr ?_ | with_reducible refine (vq_m_int).mpr ?_ | with_reducible refine (vq_o_int).mpr ?_ | with_reducible refine (vq_f_int).mpr ?_ | with_reducible refine (vq_int_int).mpr ?_ | with_reducible refine (vq_int_bl).mpr ?_ | with_reducible refine (vq_str_int).mpr ?_ | with_reducible refine (vq_ix_str).mpr ?_ | with_reducible refine (vq_sl_strD).mpr ?_ | with_reducible refine (vq_sl_lstD).mpr ?_ | with_reducible refine (vq_sl_tupD).mpr ?_ | ((with_reducible apply i_tyok); · rfl) | ((with_reducible refine i_szl ?_ ?_); · (first | decide | omega | (simp only [List.length_cons, List.length_nil]; omega))) | dsimp only [List.cons_append, List.nil_append, List.append_nil, gtName, gtTup, gtCons, gtNil, setE, setD, Bool.not_true, Bool.not_false, if_true, if_false, List.length_cons, List.length_nil, Nat.reduceAdd, vq_ty_non_bool, vq_ty_non_int, vq_ty_non_str, vq_ty_non_list, vq_ty_non_tuple, vq_ty_non_dict, vq_ty_bl_bool, vq_ty_bl_int, vq_ty_bl_str, vq_ty_bl_list, vq_ty_bl_tuple, vq_ty_bl_dict, vq_ty_int_bool, vq_ty_int_int, vq_ty_int_str, vq_ty_int_list, vq_ty_int_tuple, vq_ty_int_dict, vq_ty_str_bool, vq_ty_str_int, vq_ty_str_str, vq_ty_str_list, vq_ty_str_tuple, vq_ty_str_dict, vq_ty_lst_bool, vq_ty_lst_int, vq_ty_lst_str, vq_ty_lst_list, vq_ty_lst_tuple, vq_ty_lst_dict, vq_ty_tup_bool, vq_ty_tup_int, vq_ty_tup_str, vq_ty_tup_list, vq_ty_tup_tuple, vq_ty_tup_dict, vq_tyOk_bool, vq_tyOk_int, vq_tyOk_str, vq_tyOk_list, vq_tyOk_tuple, vq_tyOk_dict])
            rw [notin_sign]
            simpa [tl, isL, LET] using hk
          · repeat (first | with_reducible refine i_c ?_ | with_reducible refine i_op ?_ | with_reducible refine i_tst ?_ | with_reducible refine i_and ?_ | with_reducible refine i_or ?_ | with_reducible refine i_not ?_ | with_reducible refine i_andV ?_ | with_reducible refine i_orV ?_ | with_reducible refine i_notV ?_ | with_reducible refine i_if ?_ | with_reducible refine i_nil ?_ | with_reducible refine i_cons ?_ | with_reducible refine i_tup ?_ | with_reducible refine i_lst ?_ | with_reducible refine i_cb ?_ | with_reducible refine i_call ?_ | with_reducible refine i_ch ?_ | with_reducible refine i_sl ?_ | with_reducible refine i_noP ?_ | with_reducible refine i_part ?_ | with_reducible refine i_s1 ?_ | with_reducible refine i_seqL ?_ | with_reducible refine i_seqT ?_ | with_reducible refine i_signs ?_ | with_reducible refine i_rng1 ?_ | with_reducible refine i_zip ?_ | with_reducible refine i_lc ?_ | with_reducible refine i_yes ?_ | with_reducible refine i_next ?_ | with_reducible refine i_seq ?_ | with_reducible refine i_ret ?_ | with_reducible refine i_retN ?_ | with_reducible refine i_drop ?_ | with_reducible refine i_ifS ?_ | with_reducible refine i_set ?_ | with_reducible refine i_setO ?_ | with_reducible refine i_own ?_ | with_reducible refine i_asg ?_ | with_reducible refine i_par ?_ | with_reducible refine i_for ?_ | with_reducible refine i_ifT ?_ | with_reducible refine i_ifF ?_ | ((with_reducible apply i_var); · rfl) | ((with_reducible apply i_rel); · rfl) | ((with_reducible apply i_app); · rfl) | with_reducible refine (vq_isi_non).mpr ?_ | with_reducible refine (vq_isiT_non).mpr ?_ | with_reducible refine (vq_is_non).mpr ?_ | with_reducible refine (vq_isN_non).mpr ?_ | with_reducible refine (vq_isi_bl).mpr ?_ | with_reducible refine (vq_isiT_bl).mpr ?_ | with_reducible refine (vq_is_bl).mpr ?_ | with_reducible refine (vq_isN_bl).mpr ?_ | with_reducible refine (vq_isi_int).mpr ?_ | with_reducible refine (vq_isiT_int).mpr ?_ | with_reducible refine (vq_is_int).mpr ?_ | with_reducible refine (vq_isN_int).mpr ?_ | with_reducible refine (vq_isi_str).mpr ?_ | with_reducible refine (vq_isiT_str).mpr ?_ | with_reducible refine (vq_is_str).mpr ?_ | with_reducible refine (vq_isN_str).mpr ?_ | with_reducible refine (vq_isi_lst).mpr ?_ | with_reducible refine (vq_isiT_lst).mpr ?_ | with_reducible refine (vq_is_lst).mpr ?_ | with_reducible refine (vq_isN_lst).mpr ?_ | with_reducible refine (vq_isi_tup).mpr ?_ | with_reducible refine (vq_isiT_tup).mpr ?_ | with_reducible refine (vq_is_tup).mpr ?_ | with_reducible refine (vq_isN_tup).mpr ?_ | with_reducible refine (vq_eq_bl).mpr ?_ | with_reducible refine (vq_eq_int).mpr ?_ | with_reducible refine (vq_ne_bl).mpr ?_ | with_reducible refine (vq_ne_int).mpr ?_ | with_reducible refine (vq_len_lst).mpr ?_ | with_reducible refine (vq_len_tup).mpr ?_ | with_reducible refine (vq_len_str).mpr ?_ | with_reducible refine (vq_c_lt).mpr ?_ | with_reducible refine (vq_c_le).mpr ?_ | with_reducible refine (vq_c_gt).mpr ?_ | with_reducible refine (vq_c_ge).mpr ?_ | with_reducible refine (vq_a_int).mpr ?_ | with_reducible refine (vq_a_str).mpr ?_ | with_reducible refine (vq_a_lst).mpr ?_ | with_reducible refine (vq_a_tup).mpr ?_ | with_reducible refine (vq_s_int).mpr ?_ | with_reducible refine (vq_ix_lst).mpr ?_ | with_reducible refine (vq_ix_tup).mpr ?_ | with_reducible refine (vq_m_int).mpr ?_ | with_reducible refine (vq_o_int).mpr ?_ | with_reducible refine (vq_f_int).mpr ?_ | with_reducible refine (vq_int_int).mpr ?_ | with_reducible refine (vq_int_bl).mpr ?_ | with_reducible refine (vq_str_int).mpr ?_ | with_reducible refine (vq_ix_str).mpr ?_ | with_reducible refine (vq_sl_strD).mpr ?_ | with_reducible refine (vq_sl_lstD).mpr ?_ | with_reducible refine (vq_sl_tupD).mpr ?_ | ((with_reducible apply i_tyok); · rfl) | ((with_reducible refine i_szl ?_ ?_); · (first | decide | omega | (simp only [List.length_cons, List.length_nil]; omega))) | dsimp only [List.cons_append, List.nil_append, List.append_nil, gtName, gtTup, gtCons, gtNil, setE, setD, Bool.not_true, Bool.not_false, if_true, if_false, List.length_cons, List.length_nil, Nat.reduceAdd, vq_ty_non_bool, vq_ty_non_int, vq_ty_non_str, vq_ty_non_list, vq_ty_non_tuple, vq_ty_non_dict, vq_ty_bl_bool, vq_ty_bl_int, vq_ty_bl_str, vq_ty_bl_list, vq_ty_bl_tuple, vq_ty_bl_dict, vq_ty_int_bool, vq_ty_int_int, vq_ty_int_str, vq_ty_int_list, vq_ty_int_tuple, vq_ty_int_dict, vq_ty_str_bool, vq_ty_str_int, vq_ty_str_str, vq_ty_str_list, vq_ty_str_tuple, vq_ty_str_dict, vq_ty_lst_bool, vq_ty_lst_int, vq_ty_lst_str, vq_ty_lst_list, vq_ty_lst_tuple, vq_ty_lst_dict, vq_ty_tup_bool, vq_ty_tup_int, vq_ty_tup_str, vq_ty_tup_list, vq_ty_tup_tuple, vq_ty_tup_dict, vq_tyOk_bool, vq_tyOk_int, vq_tyOk_str, vq_tyOk_list, vq_tyOk_tuple, vq_tyOk_dict])
            exact hk
        · rw [show ((signs bent).filter (fun d => match d with | .str x => (tl x).all fun c => !isL c | _ => false)).map id = ((tl bent).filter fun c => !isL c).map fun c => D.str ⟨#[c]⟩ from filt_signs bent]
          repeat (first | with_reducible refine i_c ?_ | with_reducible refine i_op ?_ | with_reducible refine i_tst ?_ | with_reducible refine i_and ?_ | with_reducible refine i_or ?_ | with_reducible refine i_not ?_ | with_reducible refine i_andV ?_ | with_reducible refine i_orV ?_ | with_reducible refine i_notV ?_ | with_reducible refine i_if ?_ | with_reducible refine i_nil ?_ | with_reducible refine i_cons ?_ | with_reducible refine i_tup ?_ | with_reducible refine i_lst ?_ | with_reducible refine i_cb ?_ | with_reducible refine i_call ?_ | with_reducible refine i_ch ?_ | with_reducible refine i_sl ?_ | with_reducible refine i_noP ?_ | with_reducible refine i_part ?_ | with_reducible refine i_s1 ?_ | with_reducible refine i_seqL ?_ | with_reducible refine i_seqT ?_ | with_reducible refine i_signs ?_ | with_reducible refine i_rng1 ?_ | with_reducible refine i_zip ?_ | with_reducible refine i_lc ?_ | with_reducible refine i_yes ?_ | with_reducible refine i_next ?_ | with_reducible refine i_seq ?_ | with_reducible refine i_ret ?_ | with_reducible refine i_retN ?_ | with_reducible refine i_drop ?_ | with_reducible refine i_ifS ?_ | with_reducible refine i_set ?_ | with_reducible refine i_setO ?_ | with_reducible refine i_own ?_ | with_reducible refine i_asg ?_ | with_reducible refine i_par ?_ | with_reducible refine i_for ?_ | with_reducible refine i_ifT ?_ | with_reducible refine i_ifF ?_ | ((with_reducible apply i_var); · rfl) | ((with_reducible apply i_rel); · rfl) | ((with_reducible apply i_app); · rfl) | with_reducible refine (vq_isi_non).mpr ?_ | with_reducible refine (vq_isiT_non).mpr ?_ | with_reducible refine (vq_is_non).mpr ?_ | with_reducible refine (vq_isN_non).mpr ?_ | with_reducible refine (vq_isi_bl).mpr ?_ | with_reducible refine (vq_isiT_bl).mpr ?_ | with_reducible refine (vq_is_bl).mpr ?_ | with_reducible refine (vq_isN_bl).mpr ?_ | with_reducible refine (vq_isi_int).mpr ?_ | with_reducible refine (vq_isiT_int).mpr ?_ | with_reducible refine (vq_is_int).mpr ?_ | with_reducible refine (vq_isN_int).mpr ?_ | with_reducible refine (vq_isi_str).mpr ?_ | with_reducible refine (vq_isiT_str).mpr ?_ | with_reducible refine (vq_is_str).mpr ?_ | with_reducible refine (vq_isN_str).mpr ?_ | with_reducible refine (vq_isi_lst).mpr ?_ | with_reducible refine (vq_isiT_lst).mpr ?_ | with_reducible refine (vq_is_lst).mpr ?_ | with_reducible refine (vq_isN_lst).mpr ?_ | with_reducible refine (vq_isi_tup).mpr ?_ | with_reducible refine (vq_isiT_tup).mpr ?_ | with_reducible refine (vq_is_tup).mpr ?_ | with_reducible refine (vq_isN_tup).mpr ?_ | with_reducible refine (vq_eq_bl).mpr ?_ | with_reducible refine (vq_eq_int).mpr ?_ | with_reducible refine (vq_ne_bl).mpr ?_ | with_reducible refine (vq_ne_int).mpr ?_ | with_reducible refine (vq_len_lst).mpr ?_ | with_reducible refine (vq_len_tup).mpr ?_ | with_reducible refine (vq_len_str).mpr ?_ | with_reducible refine (vq_c_lt).mpr ?_ | with_reducible refine (vq_c_le).mpr ?_ | with_reducible refine (vq_c_gt).mpr ?_ | with_reducible refine (vq_c_ge).mpr ?_ | with_reducible refine (vq_a_int).mpr ?_ | with_reducible refine (vq_a_str).mpr ?_ | with_reducible refine (vq_a_lst).mpr ?_ | with_reducible refine (vq_a_tup).mpr ?_ | with_reducible refine (vq_s_int).mpr ?_ | with_reducible refine (vq_ix_lst).mpr ?_ | with_reducible refine (vq_ix_tup).mpr ?_ | with_reducible refine (vq_m_int).mpr ?_ | with_reducible refine (vq_o_int).mpr ?_ | with_reducible refine (vq_f_int).mpr ?_ | with_reducible refine (vq_int_int).mpr ?_ | with_reducible refine (vq_int_bl).mpr ?_ | with_reducible refine (vq_str_int).mpr ?_ | with_reducible refine (vq_ix_str).mpr ?_ | with_reducible refine (vq_sl_strD).mpr ?_ | with_reducible refine (vq_sl_lstD).mpr ?_ | with_reducible refine (vq_sl_tupD).mpr ?_ | ((with_reducible apply i_tyok); · rfl) | ((with_reducible refine i_szl ?_ ?_); · (first | decide | omega | (simp only [List.length_cons, List.length_nil]; omega))) | dsimp only [List.cons_append, List.nil_append, List.append_nil, gtName, gtTup, gtCons, gtNil, setE, setD, Bool.not_true, Bool.not_false, if_true, if_false, List.length_cons, List.length_nil, Nat.reduceAdd, vq_ty_non_bool, vq_ty_non_int, vq_ty_non_str, vq_ty_non_list, vq_ty_non_tuple, vq_ty_non_dict, vq_ty_bl_bool, vq_ty_bl_int, vq_ty_bl_str, vq_ty_bl_list, vq_ty_bl_tuple, vq_ty_bl_dict, vq_ty_int_bool, vq_ty_int_int, vq_ty_int_str, vq_ty_int_list, vq_ty_int_tuple, vq_ty_int_dict, vq_ty_str_bool, vq_ty_str_int, vq_ty_str_str, vq_ty_str_list, vq_ty_str_tuple, vq_ty_str_dict, vq_ty_lst_bool, vq_ty_lst_int, vq_ty_lst_str, vq_ty_lst_list, vq_ty_lst_tuple, vq_ty_lst_dict, vq_ty_tup_bool, vq_ty_tup_int, vq_ty_tup_str, vq_ty_tup_list, vq_ty_tup_tuple, vq_ty_tup_dict, vq_tyOk_bool, vq_tyOk_int, vq_tyOk_str, vq_tyOk_list, vq_tyOk_tuple, vq_tyOk_dict])
          refine eq_nil (fun x hx => qb x (List.mem_filter.mp hx).1) ?_
          repeat (first | with_reducible refine i_c ?_ | with_reducible refine i_op ?_ | with_reducible refine i_tst ?_ | with_reducible refine i_and ?_ | with_reducible refine i_or ?_ | with_reducible refine i_not ?_ | with_reducible refine i_andV ?_ | with_reducible refine i_orV ?_ | with_reducible refine i_notV ?_ | with_reducible refine i_if ?_ | with_reducible refine i_nil ?_ | with_reducible refine i_cons ?_ | with_reducible refine i_tup ?_ | with_reducible refine i_lst ?_ | with_reducible refine i_cb ?_ | with_reducible refine i_call ?_ | with_reducible refine i_ch ?_ | with_reducible refine i_sl ?_ | with_reducible refine i_noP ?_ | with_reducible refine i_part ?_ | with_reducible refine i_s1 ?_ | with_reducible refine i_seqL ?_ | with_reducible refine i_seqT ?_ | with_reducible refine i_signs ?_ | with_reducible refine i_rng1 ?_ | with_reducible refine i_zip ?_ | with_reducible refine i_lc ?_ | with_reducible refine i_yes ?_ | with_reducible refine i_next ?_ | with_reducible refine i_seq ?_ | with_reducible refine i_ret ?_ | with_reducible refine i_retN ?_ | with_reducible refine i_drop ?_ | with_reducible refine i_ifS ?_ | with_reducible refine i_set ?_ | with_reducible refine i_setO ?_ | with_reducible refine i_own ?_ | with_reducible refine i_asg ?_ | with_reducible refine i_par ?_ | with_reducible refine i_for ?_ | with_reducible refine i_ifT ?_ | with_reducible refine i_ifF ?_ | ((with_reducible apply i_var); · rfl) | ((with_reducible apply i_rel); · rfl) | ((with_reducible apply i_app); · rfl) | with_reducible refine (vq_isi_non).mpr ?_ | with_reducible refine (vq_isiT_non).mpr ?_ | with_reducible refine (vq_is_non).mpr ?_ | with_reducible refine (vq_isN_non).mpr ?_ | with_reducible refine (vq_isi_bl).mpr ?_ | with_reducible refine (vq_isiT_bl).mpr ?_ | with_reducible refine (vq_is_bl).mpr ?_ | with_reducible refine (vq_isN_bl).mpr ?_ | with_reducible refine (vq_isi_int).mpr ?_ | with_reducible refine (vq_isiT_int).mpr ?_ | with_reducible refine (vq_is_int).mpr ?_ | with_reducible refine (vq_isN_int).mpr ?_ | with_reducible refine (vq_isi_str).mpr ?_ | with_reducible refine (vq_isiT_str).mpr ?_ | with_reducible refine (vq_is_str).mpr ?_ | with_reducible refine (vq_isN_str).mpr ?_ | with_reducible refine (vq_isi_lst).mpr ?_ | with_reducible refine (vq_isiT_lst).mpr ?_ | with_reducible refine (vq_is_lst).mpr ?_ | with_reducible refine (vq_isN_lst).mpr ?_ | with_reducible refine (vq_isi_tup).mpr ?_ | with_reducible refine (vq_isiT_tup).mpr ?_ | with_reducible refine (vq_is_tup).mpr ?_ | with_reducible refine (vq_isN_tup).mpr ?_ | with_reducible refine (vq_eq_bl).mpr ?_ | with_reducible refine (vq_eq_int).mpr ?_ | with_reducible refine (vq_ne_bl).mpr ?_ | with_reducible refine (vq_ne_int).mpr ?_ | with_reducible refine (vq_len_lst).mpr ?_ | with_reducible refine (vq_len_tup).mpr ?_ | with_reducible refine (vq_len_str).mpr ?_ | with_reducible refine (vq_c_lt).mpr ?_ | with_reducible refine (vq_c_le).mpr ?_ | with_reducible refine (vq_c_gt).mpr ?_ | with_reducible refine (vq_c_ge).mpr ?_ | with_reducible refine (vq_a_int).mpr ?_ | with_reducible refine (vq_a_str).mpr ?_ | with_reducible refine (vq_a_lst).mpr ?_ | with_reducible refine (vq_a_tup).mpr ?_ | with_reducible refine (vq_s_int).mpr ?_ | with_reducible refine (vq_ix_lst).mpr ?_ | with_reducible refine (vq_ix_tup).mpr ?_ | with_reducible refine (vq_m_int).mpr ?_ | with_reducible refine (vq_o_int).mpr ?_ | with_reducible refine (vq_f_int).mpr ?_ | with_reducible refine (vq_int_int).mpr ?_ | with_reducible refine (vq_int_bl).mpr ?_ | with_reducible refine (vq_str_int).mpr ?_ | with_reducible refine (vq_ix_str).mpr ?_ | with_reducible refine (vq_sl_strD).mpr ?_ | with_reducible refine (vq_sl_lstD).mpr ?_ | with_reducible refine (vq_sl_tupD).mpr ?_ | ((with_reducible apply i_tyok); · rfl) | ((with_reducible refine i_szl ?_ ?_); · (first | decide | omega | (simp only [List.length_cons, List.length_nil]; omega))) | dsimp only [List.cons_append, List.nil_append, List.append_nil, gtName, gtTup, gtCons, gtNil, setE, setD, Bool.not_true, Bool.not_false, if_true, if_false, List.length_cons, List.length_nil, Nat.reduceAdd, vq_ty_non_bool, vq_ty_non_int, vq_ty_non_str, vq_ty_non_list, vq_ty_non_tuple, vq_ty_non_dict, vq_ty_bl_bool, vq_ty_bl_int, vq_ty_bl_str, vq_ty_bl_list, vq_ty_bl_tuple, vq_ty_bl_dict, vq_ty_int_bool, vq_ty_int_int, vq_ty_int_str, vq_ty_int_list, vq_ty_int_tuple, vq_ty_int_dict, vq_ty_str_bool, vq_ty_str_int, vq_ty_str_str, vq_ty_str_list, vq_ty_str_tuple, vq_ty_str_dict, vq_ty_lst_bool, vq_ty_lst_int, vq_ty_lst_str, vq_ty_lst_list, vq_ty_lst_tuple, vq_ty_lst_dict, vq_ty_tup_bool, vq_ty_tup_int, vq_ty_tup_str, vq_ty_tup_list, vq_ty_tup_tuple, vq_ty_tup_dict, vq_tyOk_bool, vq_tyOk_int, vq_tyOk_str, vq_tyOk_list, vq_tyOk_tuple, vq_tyOk_dict])
          refine fin _ _ ?_ rfl
          simp only [isn]
          rw [decide_eq_true (show 1 ≤ bent.length by omega), decide_eq_true (show bent.length ≤ 6 by omega), Bool.true_and, Bool.true_and, all_filt]
  · obtain ⟨x3, x4, x5, x6, x7, x8, rfl⟩ := hs
    repeat (first | with_reducible refine i_c ?_ | with_reducible refine i_op ?_ | with_reducible refine i_tst ?_ | with_reducible refine i_and ?_ | with_reducible refine i_or ?_ | with_reducible refine i_not ?_ | with_reducible refine i_andV ?_ | with_reducible refine i_orV ?_ | with_reducible refine i_notV ?_ | with_reducible refine i_if ?_ | with_reducible refine i_nil ?_ | with_reducible refine i_cons ?_ | with_reducible refine i_tup ?_ | with_reducible refine i_lst ?_ | with_reducible refine i_cb ?_ | with_reducible refine i_call ?_ | with_reducible refine i_ch ?_ | with_reducible refine i_sl ?_ | with_reducible refine i_noP ?_ | with_reducible refine i_part ?_ | with_reducible refine i_s1 ?_ | with_reducible refine i_seqL ?_ | with_reducible refine i_seqT ?_ | with_reducible refine i_signs ?_ | with_reducible refine i_rng1 ?_ | with_reducible refine i_zip ?_ | with_reducible refine i_lc ?_ | with_reducible refine i_yes ?_ | with_reducible refine i_next ?_ | with_reducible refine i_seq ?_ | with_reducible refine i_ret ?_ | with_reducible refine i_retN ?_ | with_reducible refine i_drop ?_ | with_reducible refine i_ifS ?_ | with_reducible refine i_set ?_ | with_reducible refine i_setO ?_ | with_reducible refine i_own ?_ | with_reducible refine i_asg ?_ | with_reducible refine i_par ?_ | with_reducible refine i_for ?_ | with_reducible refine i_ifT ?_ | with_reducible refine i_ifF ?_ | ((with_reducible apply i_var); · rfl) | ((with_reducible apply i_rel); · rfl) | ((with_reducible apply i_app); · rfl) | with_reducible refine (vq_isi_non).mpr ?_ | with_reducible refine (vq_isiT_non).mpr ?_ | with_reducible refine (vq_is_non).mpr ?_ | with_reducible refine (vq_isN_non).mpr ?_ | with_reducible refine (vq_isi_bl).mpr ?_ | with_reducible refine (vq_isiT_bl).mpr ?_ | with_reducible refine (vq_is_bl).mpr ?_ | with_reducible refine (vq_isN_bl).mpr ?_ | with_reducible refine (vq_isi_int).mpr ?_ | with_reducible refine (vq_isiT_int).mpr ?_ | with_reducible refine (vq_is_int).mpr ?_ | with_reducible refine (vq_isN_int).mpr ?_ | with_reducible refine (vq_isi_str).mpr ?_ | with_reducible refine (vq_isiT_str).mpr ?_ | with_reducible refine (vq_is_str).mpr ?_ | with_reducible refine (vq_isN_str).mpr ?_ | with_reducible refine (vq_isi_lst).mpr ?_ | with_reducible refine (vq_isiT_lst).mpr ?_ | with_reducible refine (vq_is_lst).mpr ?_ | with_reducible refine (vq_isN_lst).mpr ?_ | with_reducible refine (vq_isi_tup).mpr ?_ | with_reducible refine (vq_isiT_tup).mpr ?_ | with_reducible refine (vq_is_tup).mpr ?_ | with_reducible refine (vq_isN_tup).mpr ?_ | with_reducible refine (vq_eq_bl).mpr ?_ | with_reducible refine (vq_eq_int).mpr ?_ | with_reducible refine (vq_ne_bl).mpr ?_ | with_reducible refine (vq_ne_int).mpr ?_ | with_reducible refine (vq_len_lst).mpr ?_ | with_reducible refine (vq_len_tup).mpr ?_ | with_reducible refine (vq_len_str).mpr ?_ | with_reducible refine (vq_c_lt).mpr ?_ | with_reducible refine (vq_c_le).mpr ?_ | with_reducible refine (vq_c_gt).mpr ?_ | with_reducible refine (vq_c_ge).mpr ?_ | with_reducible refine (vq_a_int).mpr ?_ | with_reducible refine (vq_a_str).mpr ?_ | with_reducible refine (vq_a_lst).mpr ?_ | with_reducible refine (vq_a_tup).mpr ?_ | with_reducible refine (vq_s_int).mpr ?_ | with_reducible refine (vq_ix_lst).mpr ?_ | with_reducible refine (vq_ix_tup).mpr ?_ | with_reducible refine (vq_m_int).mpr ?_ | with_reducible refine (vq_o_int).mpr ?_ | with_reducible refine (vq_f_int).mpr ?_ | with_reducible refine (vq_int_int).mpr ?_ | with_reducible refine (vq_int_bl).mpr ?_ | with_reducible refine (vq_str_int).mpr ?_ | with_reducible refine (vq_ix_str).mpr ?_ | with_reducible refine (vq_sl_strD).mpr ?_ | with_reducible refine (vq_sl_lstD).mpr ?_ | with_reducible refine (vq_sl_tupD).mpr ?_ | ((with_reducible apply i_tyok); · rfl) | ((with_reducible refine i_szl ?_ ?_); · (first | decide | omega | (simp only [List.length_cons, List.length_nil]; omega))) | dsimp only [List.cons_append, List.nil_append, List.append_nil, gtName, gtTup, gtCons, gtNil, setE, setD, Bool.not_true, Bool.not_false, if_true, if_false, List.length_cons, List.length_nil, Nat.reduceAdd, vq_ty_non_bool, vq_ty_non_int, vq_ty_non_str, vq_ty_non_list, vq_ty_non_tuple, vq_ty_non_dict, vq_ty_bl_bool, vq_ty_bl_int, vq_ty_bl_str, vq_ty_bl_list, vq_ty_bl_tuple, vq_ty_bl_dict, vq_ty_int_bool, vq_ty_int_int, vq_ty_int_str, vq_ty_int_list, vq_ty_int_tuple, vq_ty_int_dict, vq_ty_str_bool, vq_ty_str_int, vq_ty_str_str, vq_ty_str_list, vq_ty_str_tuple, vq_ty_str_dict, vq_ty_lst_bool, vq_ty_lst_int, vq_ty_lst_str, vq_ty_lst_list, vq_ty_lst_tuple, vq_ty_lst_dict, vq_ty_tup_bool, vq_ty_tup_int, vq_ty_tup_str, vq_ty_tup_list, vq_ty_tup_tuple, vq_ty_tup_dict, vq_tyOk_bool, vq_tyOk_int, vq_tyOk_str, vq_tyOk_list, vq_tyOk_tuple, vq_tyOk_dict])
    refine same_refl (by decide +kernel) _ ?_
    repeat (first | with_reducible refine i_c ?_ | with_reducible refine i_op ?_ | with_reducible refine i_tst ?_ | with_reducible refine i_and ?_ | with_reducible refine i_or ?_ | with_reducible refine i_not ?_ | with_reducible refine i_andV ?_ | with_reducible refine i_orV ?_ | with_reducible refine i_notV ?_ | with_reducible refine i_if ?_ | with_reducible refine i_nil ?_ | with_reducible refine i_cons ?_ | with_reducible refine i_tup ?_ | with_reducible refine i_lst ?_ | with_reducible refine i_cb ?_ | with_reducible refine i_call ?_ | with_reducible refine i_ch ?_ | with_reducible refine i_sl ?_ | with_reducible refine i_noP ?_ | with_reducible refine i_part ?_ | with_reducible refine i_s1 ?_ | with_reducible refine i_seqL ?_ | with_reducible refine i_seqT ?_ | with_reducible refine i_signs ?_ | with_reducible refine i_rng1 ?_ | with_reducible refine i_zip ?_ | with_reducible refine i_lc ?_ | with_reducible refine i_yes ?_ | with_reducible refine i_next ?_ | with_reducible refine i_seq ?_ | with_reducible refine i_ret ?_ | with_reducible refine i_retN ?_ | with_reducible refine i_drop ?_ | with_reducible refine i_ifS ?_ | with_reducible refine i_set ?_ | with_reducible refine i_setO ?_ | with_reducible refine i_own ?_ | with_reducible refine i_asg ?_ | with_reducible refine i_par ?_ | with_reducible refine i_for ?_ | with_reducible refine i_ifT ?_ | with_reducible refine i_ifF ?_ | ((with_reducible apply i_var); · rfl) | ((with_reducible apply i_rel); · rfl) | ((with_reducible apply i_app); · rfl) | with_reducible refine (vq_isi_non).mpr ?_ | with_reducible refine (vq_isiT_non).mpr ?_ | with_reducible refine (vq_is_non).mpr ?_ | with_reducible refine (vq_isN_non).mpr ?_ | with_reducible refine (vq_isi_bl).mpr ?_ | with_reducible refine (vq_isiT_bl).mpr ?_ | with_reducible refine (vq_is_bl).mpr ?_ | with_reducible refine (vq_isN_bl).mpr ?_ | with_reducible refine (vq_isi_int).mpr ?_ | with_reducible refine (vq_isiT_int).mpr ?_ | with_reducible refine (vq_is_int).mpr ?_ | with_reducible refine (vq_isN_int).mpr ?_ | with_reducible refine (vq_isi_str).mpr ?_ | with_reducible refine (vq_isiT_str).mpr ?_ | with_reducible refine (vq_is_str).mpr ?_ | with_reducible refine (vq_isN_str).mpr ?_ | with_reducible refine (vq_isi_lst).mpr ?_ | with_reducible refine (vq_isiT_lst).mpr ?_ | with_reducible refine (vq_is_lst).mpr ?_ | with_reducible refine (vq_isN_lst).mpr ?_ | with_reducible refine (vq_isi_tup).mpr ?_ | with_reducible refine (vq_isiT_tup).mpr ?_ | with_reducible refine (vq_is_tup).mpr ?_ | with_reducible refine (vq_isN_tup).mpr ?_ | with_reducible refine (vq_eq_bl).mpr ?_ | with_reducible refine (vq_eq_int).mpr ?_ | with_reducible refine (vq_ne_bl).mpr ?_ | with_reducible refine (vq_ne_int).mpr ?_ | with_reducible refine (vq_len_lst).mpr ?_ | with_reducible refine (vq_len_tup).mpr ?_ | with_reducible refine (vq_len_str).mpr ?_ | with_reducible refine (vq_c_lt).mpr ?_ | with_reducible refine (vq_c_le).mpr ?_ | with_reducible refine (vq_c_gt).mpr ?_ | with_reducible refine (vq_c_ge).mpr ?_ | with_reducible refine (vq_a_int).mpr ?_ | with_reducible refine (vq_a_str).mpr ?_ | with_reducible refine (vq_a_lst).mpr ?_ | with_reducible refine (vq_a_tup).mpr ?_ | with_reducible refine (vq_s_int).mpr ?_ | with_reducible refine (vq_ix_lst).mpr ?_ | with_reducible refine (vq_ix_tup).mpr ?_ | with_reducible refine (vq_m_int).mpr ?_ | with_reducible refine (vq_o_int).mpr ?_ | with_reducible refine (vq_f_int).mpr ?_ | with_reducible refine (vq_int_int).mpr ?_ | with_reducible refine (vq_int_bl).mpr ?_ | with_reducible refine (vq_str_int).mpr ?_ | with_reducible refine (vq_ix_str).mpr ?_ | with_reducible refine (vq_sl_strD).mpr ?_ | with_reducible refine (vq_sl_lstD).mpr ?_ | with_reducible refine (vq_sl_tupD).mpr ?_ | ((with_reducible apply i_tyok); · rfl) | ((with_reducible refine i_szl ?_ ?_); · (first | decide | omega | (simp only [List.length_cons, List.length_nil]; omega))) | dsimp only [List.cons_append, List.nil_append, List.append_nil, gtName, gtTup, gtCons, gtNil, setE, setD, Bool.not_true, Bool.not_false, if_true, if_false, List.length_cons, List.length_nil, Nat.reduceAdd, vq_ty_non_bool, vq_ty_non_int, vq_ty_non_str, vq_ty_non_list, vq_ty_non_tuple, vq_ty_non_dict, vq_ty_bl_bool, vq_ty_bl_int, vq_ty_bl_str, vq_ty_bl_list, vq_ty_bl_tuple, vq_ty_bl_dict, vq_ty_int_bool, vq_ty_int_int, vq_ty_int_str, vq_ty_int_list, vq_ty_int_tuple, vq_ty_int_dict, vq_ty_str_bool, vq_ty_str_int, vq_ty_str_str, vq_ty_str_list, vq_ty_str_tuple, vq_ty_str_dict, vq_ty_lst_bool, vq_ty_lst_int, vq_ty_lst_str, vq_ty_lst_list, vq_ty_lst_tuple, vq_ty_lst_dict, vq_ty_tup_bool, vq_ty_tup_int, vq_ty_tup_str, vq_ty_tup_list, vq_ty_tup_tuple, vq_ty_tup_dict, vq_tyOk_bool, vq_tyOk_int, vq_tyOk_str, vq_tyOk_list, vq_tyOk_tuple, vq_tyOk_dict])
    refine is_name_ok (K := K) (g := some (a, c)) (okS (by decide +kernel)) ?_
    repeat (first | with_reducible refine i_c ?_ | with_reducible refine i_op ?_ | with_reducible refine i_tst ?_ | with_reducible refine i_and ?_ | with_reducible refine i_or ?_ | with_reducible refine i_not ?_ | with_reducible refine i_andV ?_ | with_reducible refine i_orV ?_ | with_reducible refine i_notV ?_ | with_reducible refine i_if ?_ | with_reducible refine i_nil ?_ | with_reducible refine i_cons ?_ | with_reducible refine i_tup ?_ | with_reducible refine i_lst ?_ | with_reducible refine i_cb ?_ | with_reducible refine i_call ?_ | with_reducible refine i_ch ?_ | with_reducible refine i_sl ?_ | with_reducible refine i_noP ?_ | with_reducible refine i_part ?_ | with_reducible refine i_s1 ?_ | with_reducible refine i_seqL ?_ | with_reducible refine i_seqT ?_ | with_reducible refine i_signs ?_ | with_reducible refine i_rng1 ?_ | with_reducible refine i_zip ?_ | with_reducible refine i_lc ?_ | with_reducible refine i_yes ?_ | with_reducible refine i_next ?_ | with_reducible refine i_seq ?_ | with_reducible refine i_ret ?_ | with_reducible refine i_retN ?_ | with_reducible refine i_drop ?_ | with_reducible refine i_ifS ?_ | with_reducible refine i_set ?_ | with_reducible refine i_setO ?_ | with_reducible refine i_own ?_ | with_reducible refine i_asg ?_ | with_reducible refine i_par ?_ | with_reducible refine i_for ?_ | with_reducible refine i_ifT ?_ | with_reducible refine i_ifF ?_ | ((with_reducible apply i_var); · rfl) | ((with_reducible apply i_rel); · rfl) | ((with_reducible apply i_app); · rfl) | with_reducible refine (vq_isi_non).mpr ?_ | with_reducible refine (vq_isiT_non).mpr ?_ | with_reducible refine (vq_is_non).mpr ?_ | with_reducible refine (vq_isN_non).mpr ?_ | with_reducible refine (vq_isi_bl).mpr ?_ | with_reducible refine (vq_isiT_bl).mpr ?_ | with_reducible refine (vq_is_bl).mpr ?_ | with_reducible refine (vq_isN_bl).mpr ?_ | with_reducible refine (vq_isi_int).mpr ?_ | with_reducible refine (vq_isiT_int).mpr ?_ | with_reducible refine (vq_is_int).mpr ?_ | with_reducible refine (vq_isN_int).mpr ?_ | with_reducible refine (vq_isi_str).mpr ?_ | with_reducible refine (vq_isiT_str).mpr ?_ | with_reducible refine (vq_is_str).mpr ?_ | with_reducible refine (vq_isN_str).mpr ?_ | with_reducible refine (vq_isi_lst).mpr ?_ | with_reducible refine (vq_isiT_lst).mpr ?_ | with_reducible refine (vq_is_lst).mpr ?_ | with_reducible refine (vq_isN_lst).mpr ?_ | with_reducible refine (vq_isi_tup).mpr ?_ | with_reducible refine (vq_isiT_tup).mpr ?_ | with_reducible refine (vq_is_tup).mpr ?_ | with_reducible refine (vq_isN_tup).mpr ?_ | with_reducible refine (vq_eq_bl).mpr ?_ | with_reducible refine (vq_eq_int).mpr ?_ | with_reducible refine (vq_ne_bl).mpr ?_ | with_reducible refine (vq_ne_int).mpr ?_ | with_reducible refine (vq_len_lst).mpr ?_ | with_reducible refine (vq_len_tup).mpr ?_ | with_reducible refine (vq_len_str).mpr ?_ | with_reducible refine (vq_c_lt).mpr ?_ | with_reducible refine (vq_c_le).mpr ?_ | with_reducible refine (vq_c_gt).mpr ?_ | with_reducible refine (vq_c_ge).mpr ?_ | with_reducible refine (vq_a_int).mpr ?_ | with_reducible refine (vq_a_str).mpr ?_ | with_reducible refine (vq_a_lst).mpr ?_ | with_reducible refine (vq_a_tup).mpr ?_ | with_reducible refine (vq_s_int).mpr ?_ | with_reducible refine (vq_ix_lst).mpr ?_ | with_reducible refine (vq_ix_tup).mpr ?_ | with_reducible refine (vq_m_int).mpr ?_ | with_reducible refine (vq_o_int).mpr ?_ | with_reducible refine (vq_f_int).mpr ?_ | with_reducible refine (vq_int_int).mpr ?_ | with_reducible refine (vq_int_bl).mpr ?_ | with_reducible refine (vq_str_int).mpr ?_ | with_reducible refine (vq_ix_str).mpr ?_ | with_reducible refine (vq_sl_strD).mpr ?_ | with_reducible refine (vq_sl_lstD).mpr ?_ | with_reducible refine (vq_sl_tupD).mpr ?_ | ((with_reducible apply i_tyok); · rfl) | ((with_reducible refine i_szl ?_ ?_); · (first | decide | omega | (simp only [List.length_cons, List.length_nil]; omega))) | dsimp only [List.cons_append, List.nil_append, List.append_nil, gtName, gtTup, gtCons, gtNil, setE, setD, Bool.not_true, Bool.not_false, if_true, if_false, List.length_cons, List.length_nil, Nat.reduceAdd, vq_ty_non_bool, vq_ty_non_int, vq_ty_non_str, vq_ty_non_list, vq_ty_non_tuple, vq_ty_non_dict, vq_ty_bl_bool, vq_ty_bl_int, vq_ty_bl_str, vq_ty_bl_list, vq_ty_bl_tuple, vq_ty_bl_dict, vq_ty_int_bool, vq_ty_int_int, vq_ty_int_str, vq_ty_int_list, vq_ty_int_tuple, vq_ty_int_dict, vq_ty_str_bool, vq_ty_str_int, vq_ty_str_str, vq_ty_str_list, vq_ty_str_tuple, vq_ty_str_dict, vq_ty_lst_bool, vq_ty_lst_int, vq_ty_lst_str, vq_ty_lst_list, vq_ty_lst_tuple, vq_ty_lst_dict, vq_ty_tup_bool, vq_ty_tup_int, vq_ty_tup_str, vq_ty_tup_list, vq_ty_tup_tuple, vq_ty_tup_dict, vq_tyOk_bool, vq_tyOk_int, vq_tyOk_str, vq_tyOk_list, vq_tyOk_tuple, vq_tyOk_dict])
    refine is_name_ok (K := K) (g := some (a, c)) (okS (by decide +kernel)) ?_
    repeat (first | with_reducible refine i_c ?_ | with_reducible refine i_op ?_ | with_reducible refine i_tst ?_ | with_reducible refine i_and ?_ | with_reducible refine i_or ?_ | with_reducible refine i_not ?_ | with_reducible refine i_andV ?_ | with_reducible refine i_orV ?_ | with_reducible refine i_notV ?_ | with_reducible refine i_if ?_ | with_reducible refine i_nil ?_ | with_reducible refine i_cons ?_ | with_reducible refine i_tup ?_ | with_reducible refine i_lst ?_ | with_reducible refine i_cb ?_ | with_reducible refine i_call ?_ | with_reducible refine i_ch ?_ | with_reducible refine i_sl ?_ | with_reducible refine i_noP ?_ | with_reducible refine i_part ?_ | with_reducible refine i_s1 ?_ | with_reducible refine i_seqL ?_ | with_reducible refine i_seqT ?_ | with_reducible refine i_signs ?_ | with_reducible refine i_rng1 ?_ | with_reducible refine i_zip ?_ | with_reducible refine i_lc ?_ | with_reducible refine i_yes ?_ | with_reducible refine i_next ?_ | with_reducible refine i_seq ?_ | with_reducible refine i_ret ?_ | with_reducible refine i_retN ?_ | with_reducible refine i_drop ?_ | with_reducible refine i_ifS ?_ | with_reducible refine i_set ?_ | with_reducible refine i_setO ?_ | with_reducible refine i_own ?_ | with_reducible refine i_asg ?_ | with_reducible refine i_par ?_ | with_reducible refine i_for ?_ | with_reducible refine i_ifT ?_ | with_reducible refine i_ifF ?_ | ((with_reducible apply i_var); · rfl) | ((with_reducible apply i_rel); · rfl) | ((with_reducible apply i_app); · rfl) | with_reducible refine (vq_isi_non).mpr ?_ | with_reducible refine (vq_isiT_non).mpr ?_ | with_reducible refine (vq_is_non).mpr ?_ | with_reducible refine (vq_isN_non).mpr ?_ | with_reducible refine (vq_isi_bl).mpr ?_ | with_reducible refine (vq_isiT_bl).mpr ?_ | with_reducible refine (vq_is_bl).mpr ?_ | with_reducible refine (vq_isN_bl).mpr ?_ | with_reducible refine (vq_isi_int).mpr ?_ | with_reducible refine (vq_isiT_int).mpr ?_ | with_reducible refine (vq_is_int).mpr ?_ | with_reducible refine (vq_isN_int).mpr ?_ | with_reducible refine (vq_isi_str).mpr ?_ | with_reducible refine (vq_isiT_str).mpr ?_ | with_reducible refine (vq_is_str).mpr ?_ | with_reducible refine (vq_isN_str).mpr ?_ | with_reducible refine (vq_isi_lst).mpr ?_ | with_reducible refine (vq_isiT_lst).mpr ?_ | with_reducible refine (vq_is_lst).mpr ?_ | with_reducible refine (vq_isN_lst).mpr ?_ | with_reducible refine (vq_isi_tup).mpr ?_ | with_reducible refine (vq_isiT_tup).mpr ?_ | with_reducible refine (vq_is_tup).mpr ?_ | with_reducible refine (vq_isN_tup).mpr ?_ | with_reducible refine (vq_eq_bl).mpr ?_ | with_reducible refine (vq_eq_int).mpr ?_ | with_reducible refine (vq_ne_bl).mpr ?_ | with_reducible refine (vq_ne_int).mpr ?_ | with_reducible refine (vq_len_lst).mpr ?_ | with_reducible refine (vq_len_tup).mpr ?_ | with_reducible refine (vq_len_str).mpr ?_ | with_reducible refine (vq_c_lt).mpr ?_ | with_reducible refine (vq_c_le).mpr ?_ | with_reducible refine (vq_c_gt).mpr ?_ | with_reducible refine (vq_c_ge).mpr ?_ | with_reducible refine (vq_a_int).mpr ?_ | with_reducible refine (vq_a_str).mpr ?_ | with_reducible refine (vq_a_lst).mpr ?_ | with_reducible refine (vq_a_tup).mpr ?_ | with_reducible refine (vq_s_int).mpr ?_ | with_reducible refine (vq_ix_lst).mpr ?_ | with_reducible refine (vq_ix_tup).mpr ?_ | with_reducible refine (vq_m_int).mpr ?_ | with_reducible refine (vq_o_int).mpr ?_ | with_reducible refine (vq_f_int).mpr ?_ | with_reducible refine (vq_int_int).mpr ?_ | with_reducible refine (vq_int_bl).mpr ?_ | with_reducible refine (vq_str_int).mpr ?_ | with_reducible refine (vq_ix_str).mpr ?_ | with_reducible refine (vq_sl_strD).mpr ?_ | with_reducible refine (vq_sl_lstD).mpr ?_ | with_reducible refine (vq_sl_tupD).mpr ?_ | ((with_reducible apply i_tyok); · rfl) | ((with_reducible refine i_szl ?_ ?_); · (first | decide | omega | (simp only [List.length_cons, List.length_nil]; omega))) | dsimp only [List.cons_append, List.nil_append, List.append_nil, gtName, gtTup, gtCons, gtNil, setE, setD, Bool.not_true, Bool.not_false, if_true, if_false, List.length_cons, List.length_nil, Nat.reduceAdd, vq_ty_non_bool, vq_ty_non_int, vq_ty_non_str, vq_ty_non_list, vq_ty_non_tuple, vq_ty_non_dict, vq_ty_bl_bool, vq_ty_bl_int, vq_ty_bl_str, vq_ty_bl_list, vq_ty_bl_tuple, vq_ty_bl_dict, vq_ty_int_bool, vq_ty_int_int, vq_ty_int_str, vq_ty_int_list, vq_ty_int_tuple, vq_ty_int_dict, vq_ty_str_bool, vq_ty_str_int, vq_ty_str_str, vq_ty_str_list, vq_ty_str_tuple, vq_ty_str_dict, vq_ty_lst_bool, vq_ty_lst_int, vq_ty_lst_str, vq_ty_lst_list, vq_ty_lst_tuple, vq_ty_lst_dict, vq_ty_tup_bool, vq_ty_tup_int, vq_ty_tup_str, vq_ty_tup_list, vq_ty_tup_tuple, vq_ty_tup_dict, vq_tyOk_bool, vq_tyOk_int, vq_tyOk_str, vq_tyOk_list, vq_tyOk_tuple, vq_tyOk_dict])
    refine is_name_ok (K := K) (g := some (a, c)) (okS (by decide +kernel)) ?_
    repeat (first | with_reducible refine i_c ?_ | with_reducible refine i_op ?_ | with_reducible refine i_tst ?_ | with_reducible refine i_and ?_ | with_reducible refine i_or ?_ | with_reducible refine i_not ?_ | with_reducible refine i_andV ?_ | with_reducible refine i_orV ?_ | with_reducible refine i_notV ?_ | with_reducible refine i_if ?_ | with_reducible refine i_nil ?_ | with_reducible refine i_cons ?_ | with_reducible refine i_tup ?_ | with_reducible refine i_lst ?_ | with_reducible refine i_cb ?_ | with_reducible refine i_call ?_ | with_reducible refine i_ch ?_ | with_reducible refine i_sl ?_ | with_reducible refine i_noP ?_ | with_reducible refine i_part ?_ | with_reducible refine i_s1 ?_ | with_reducible refine i_seqL ?_ | with_reducible refine i_seqT ?_ | with_reducible refine i_signs ?_ | with_reducible refine i_rng1 ?_ | with_reducible refine i_zip ?_ | with_reducible refine i_lc ?_ | with_reducible refine i_yes ?_ | with_reducible refine i_next ?_ | with_reducible refine i_seq ?_ | with_reducible refine i_ret ?_ | with_reducible refine i_retN ?_ | with_reducible refine i_drop ?_ | with_reducible refine i_ifS ?_ | with_reducible refine i_set ?_ | with_reducible refine i_setO ?_ | with_reducible refine i_own ?_ | with_reducible refine i_asg ?_ | with_reducible refine i_par ?_ | with_reducible refine i_for ?_ | with_reducible refine i_ifT ?_ | with_reducible refine i_ifF ?_ | ((with_reducible apply i_var); · rfl) | ((with_reducible apply i_rel); · rfl) | ((with_reducible apply i_app); · rfl) | with_reducible refine (vq_isi_non).mpr ?_ | with_reducible refine (vq_isiT_non).mpr ?_ | with_reducible refine (vq_is_non).mpr ?_ | with_reducible refine (vq_isN_non).mpr ?_ | with_reducible refine (vq_isi_bl).mpr ?_ | with_reducible refine (vq_isiT_bl).mpr ?_ | with_reducible refine (vq_is_bl).mpr ?_ | with_reducible refine (vq_isN_bl).mpr ?_ | with_reducible refine (vq_isi_int).mpr ?_ | with_reducible refine (vq_isiT_int).mpr ?_ | with_reducible refine (vq_is_int).mpr ?_ | with_reducible refine (vq_isN_int).mpr ?_ | with_reducible refine (vq_isi_str).mpr ?_ | with_reducible refine (vq_isiT_str).mpr ?_ | with_reducible refine (vq_is_str).mpr ?_ | with_reducible refine (vq_isN_str).mpr ?_ | with_reducible refine (vq_isi_lst).mpr ?_ | with_reducible refine (vq_isiT_lst).mpr ?_ | with_reducible refine (vq_is_lst).mpr ?_ | with_reducible refine (vq_isN_lst).mpr ?_ | with_reducible refine (vq_isi_tup).mpr ?_ | with_reducible refine (vq_isiT_tup).mpr ?_ | with_reducible refine (vq_is_tup).mpr ?_ | with_reducible refine (vq_isN_tup).mpr ?_ | with_reducible refine (vq_eq_bl).mpr ?_ | with_reducible refine (vq_eq_int).mpr ?_ | with_reducible refine (vq_ne_bl).mpr ?_ | with_reducible refine (vq_ne_int).mpr ?_ | with_reducible refine (vq_len_lst).mpr ?_ | with_reducible refine (vq_len_tup).mpr ?_ | with_reducible refine (vq_len_str).mpr ?_ | with_reducible refine (vq_c_lt).mpr ?_ | with_reducible refine (vq_c_le).mpr ?_ | with_reducible refine (vq_c_gt).mpr ?_ | with_reducible refine (vq_c_ge).mpr ?_ | with_reducible refine (vq_a_int).mpr ?_ | with_reducible refine (vq_a_str).mpr ?_ | with_reducible refine (vq_a_lst).mpr ?_ | with_reducible refine (vq_a_tup).mpr ?_ | with_reducible refine (vq_s_int).mpr ?_ | with_reducible refine (vq_ix_lst).mpr ?_ | with_reducible refine (vq_ix_tup).mpr ?_ | with_reducible refine (vq_m_int).mpr ?_ | with_reducible refine (vq_o_int).mpr ?_ | with_reducible refine (vq_f_int).mpr ?_ | with_reducible refine (vq_int_int).mpr ?_ | with_reducible refine (vq_int_bl).mpr ?_ | with_reducible refine (vq_str_int).mpr ?_ | with_reducible refine (vq_ix_str).mpr ?_ | with_reducible refine (vq_sl_strD).mpr ?_ | with_reducible refine (vq_sl_lstD).mpr ?_ | with_reducible refine (vq_sl_tupD).mpr ?_ | ((with_reducible apply i_tyok); · rfl) | ((with_reducible refine i_szl ?_ ?_); · (first | decide | omega | (simp only [List.length_cons, List.length_nil]; omega))) | dsimp only [List.cons_append, List.nil_append, List.append_nil, gtName, gtTup, gtCons, gtNil, setE, setD, Bool.not_true, Bool.not_false, if_true, if_false, List.length_cons, List.length_nil, Nat.reduceAdd, vq_ty_non_bool, vq_ty_non_int, vq_ty_non_str, vq_ty_non_list, vq_ty_non_tuple, vq_ty_non_dict, vq_ty_bl_bool, vq_ty_bl_int, vq_ty_bl_str, vq_ty_bl_list, vq_ty_bl_tuple, vq_ty_bl_dict, vq_ty_int_bool, vq_ty_int_int, vq_ty_int_str, vq_ty_int_list, vq_ty_int_tuple, vq_ty_int_dict, vq_ty_str_bool, vq_ty_str_int, vq_ty_str_str, vq_ty_str_list, vq_ty_str_tuple, vq_ty_str_dict, vq_ty_lst_bool, vq_ty_lst_int, vq_ty_lst_str, vq_ty_lst_list, vq_ty_lst_tuple, vq_ty_lst_dict, vq_ty_tup_bool, vq_ty_tup_int, vq_ty_tup_str, vq_ty_tup_list, vq_ty_tup_tuple, vq_ty_tup_dict, vq_tyOk_bool, vq_tyOk_int, vq_tyOk_str, vq_tyOk_list, vq_tyOk_tuple, vq_tyOk_dict])
    refine is_name_ok (K := K) (g := some (a, c)) rfl ?_
    repeat (first | with_reducible refine i_c ?_ | with_reducible refine i_op ?_ | with_reducible refine i_tst ?_ | with_reducible refine i_and ?_ | with_reducible refine i_or ?_ | with_reducible refine i_not ?_ | with_reducible refine i_andV ?_ | with_reducible refine i_orV ?_ | with_reducible refine i_notV ?_ | with_reducible refine i_if ?_ | with_reducible refine i_nil ?_ | with_reducible refine i_cons ?_ | with_reducible refine i_tup ?_ | with_reducible refine i_lst ?_ | with_reducible refine i_cb ?_ | with_reducible refine i_call ?_ | with_reducible refine i_ch ?_ | with_reducible refine i_sl ?_ | with_reducible refine i_noP ?_ | with_reducible refine i_part ?_ | with_reducible refine i_s1 ?_ | with_reducible refine i_seqL ?_ | with_reducible refine i_seqT ?_ | with_reducible refine i_signs ?_ | with_reducible refine i_rng1 ?_ | with_reducible refine i_zip ?_ | with_reducible refine i_lc ?_ | with_reducible refine i_yes ?_ | with_reducible refine i_next ?_ | with_reducible refine i_seq ?_ | with_reducible refine i_ret ?_ | with_reducible refine i_retN ?_ | with_reducible refine i_drop ?_ | with_reducible refine i_ifS ?_ | with_reducible refine i_set ?_ | with_reducible refine i_setO ?_ | with_reducible refine i_own ?_ | with_reducible refine i_asg ?_ | with_reducible refine i_par ?_ | with_reducible refine i_for ?_ | with_reducible refine i_ifT ?_ | with_reducible refine i_ifF ?_ | ((with_reducible apply i_var); · rfl) | ((with_reducible apply i_rel); · rfl) | ((with_reducible apply i_app); · rfl) | with_reducible refine (vq_isi_non).mpr ?_ | with_reducible refine (vq_isiT_non).mpr ?_ | with_reducible refine (vq_is_non).mpr ?_ | with_reducible refine (vq_isN_non).mpr ?_ | with_reducible refine (vq_isi_bl).mpr ?_ | with_reducible refine (vq_isiT_bl).mpr ?_ | with_reducible refine (vq_is_bl).mpr ?_ | with_reducible refine (vq_isN_bl).mpr ?_ | with_reducible refine (vq_isi_int).mpr ?_ | with_reducible refine (vq_isiT_int).mpr ?_ | with_reducible refine (vq_is_int).mpr ?_ | with_reducible refine (vq_isN_int).mpr ?_ | with_reducible refine (vq_isi_str).mpr ?_ | with_reducible refine (vq_isiT_str).mpr ?_ | with_reducible refine (vq_is_str).mpr ?_ | with_reducible refine (vq_isN_str).mpr ?_ | with_reducible refine (vq_isi_lst).mpr ?_ | with_reducible refine (vq_isiT_lst).mpr ?_ | with_reducible refine (vq_is_lst).mpr ?_ | with_reducible refine (vq_isN_lst).mpr ?_ | with_reducible refine (vq_isi_tup).mpr ?_ | with_reducible refine (vq_isiT_tup).mpr ?_ | with_reducible refine (vq_is_tup).mpr ?_ | with_reducible refine (vq_isN_tup).mpr ?_ | with_reducible refine (vq_eq_bl).mpr ?_ | with_reducible refine (vq_eq_int).mpr ?_ | with_reducible refine (vq_ne_bl).mpr ?_ | with_reducible refine (vq_ne_int).mpr ?_ | with_reducible refine (vq_len_lst).mpr ?_ | with_reducible refine (vq_len_tup).mpr ?_ | with_reducible refine (vq_len_str).mpr ?_ | with_reducible refine (vq_c_lt).mpr ?_ | with_reducible refine (vq_c_le).mpr ?_ | with_reducible refine (vq_c_gt).mpr ?_ | with_reducible refine (vq_c_ge).mpr ?_ | with_reducible refine (vq_a_int).mpr ?_ | with_reducible refine (vq_a_str).mpr ?_ | with_reducible refine (vq_a_lst).mpr ?_ | with_reducible refine (vq_a_tup).mpr ?_ | with_reducible refine (vq_s_int).mpr ?_ | with_reducible refine (vq_ix_lst).mpr ?_ | with_reducible refine (vq_ix_tup).mpr ?_ | with_reducible refine (vq_m_int).mpr ?_ | with_reducible refine (vq_o_int).mpr ?_ | with_reducible refine (vq_f_int).mpr ?_ | with_reducible refine (vq_int_int).mpr ?_ | with_reducible refine (vq_int_bl).mpr ?_ | with_reducible refine (vq_str_int).mpr ?_ | with_reducible refine (vq_ix_str).mpr ?_ | with_reducible refine (vq_sl_strD).mpr ?_ | with_reducible refine (vq_sl_lstD).mpr ?_ | with_reducible refine (vq_sl_tupD).mpr ?_ | ((with_reducible apply i_tyok); · rfl) | ((with_reducible refine i_szl ?_ ?_); · (first | decide | omega | (simp only [List.length_cons, List.length_nil]; omega))) | dsimp only [List.cons_append, List.nil_append, List.append_nil, gtName, gtTup, gtCons, gtNil, setE, setD, Bool.not_true, Bool.not_false, if_true, if_false, List.length_cons, List.length_nil, Nat.reduceAdd, vq_ty_non_bool, vq_ty_non_int, vq_ty_non_str, vq_ty_non_list, vq_ty_non_tuple, vq_ty_non_dict, vq_ty_bl_bool, vq_ty_bl_int, vq_ty_bl_str, vq_ty_bl_list, vq_ty_bl_tuple, vq_ty_bl_dict, vq_ty_int_bool, vq_ty_int_int, vq_ty_int_str, vq_ty_int_list, vq_ty_int_tuple, vq_ty_int_dict, vq_ty_str_bool, vq_ty_str_int, vq_ty_str_str, vq_ty_str_list, vq_ty_str_tuple, vq_ty_str_dict, vq_ty_lst_bool, vq_ty_lst_int, vq_ty_lst_str, vq_ty_lst_list, vq_ty_lst_tuple, vq_ty_lst_dict, vq_ty_tup_bool, vq_ty_tup_int, vq_ty_tup_str, vq_ty_tup_list, vq_ty_tup_tuple, vq_ty_tup_dict, vq_tyOk_bool, vq_tyOk_int, vq_tyOk_str, vq_tyOk_list, vq_tyOk_tuple, vq_tyOk_dict])
    refine is_name_ok (K := K) (g := some (a, c)) (okS (by decide +kernel)) ?_
    repeat (first | with_reducible refine i_c ?_ | with_reducible refine i_op ?_ | with_reducible refine i_tst ?_ | with_reducible refine i_and ?_ | with_reducible refine i_or ?_ | with_reducible refine i_not ?_ | with_reducible refine i_andV ?_ | with_reducible refine i_orV ?_ | with_reducible refine i_notV ?_ | with_reducible refine i_if ?_ | with_reducible refine i_nil ?_ | with_reducible refine i_cons ?_ | with_reducible refine i_tup ?_ | with_reducible refine i_lst ?_ | with_reducible refine i_cb ?_ | with_reducible refine i_call ?_ | with_reducible refine i_ch ?_ | with_reducible refine i_sl ?_ | with_reducible refine i_noP ?_ | with_reducible refine i_part ?_ | with_reducible refine i_s1 ?_ | with_reducible refine i_seqL ?_ | with_reducible refine i_seqT ?_ | with_reducible refine i_signs ?_ | with_reducible refine i_rng1 ?_ | with_reducible refine i_zip ?_ | with_reducible refine i_lc ?_ | with_reducible refine i_yes ?_ | with_reducible refine i_next ?_ | with_reducible refine i_seq ?_ | with_reducible refine i_ret ?_ | with_reducible refine i_retN ?_ | with_reducible refine i_drop ?_ | with_reducible refine i_ifS ?_ | with_reducible refine i_set ?_ | with_reducible refine i_setO ?_ | with_reducible refine i_own ?_ | with_reducible refine i_asg ?_ | with_reducible refine i_par ?_ | with_reducible refine i_for ?_ | with_reducible refine i_ifT ?_ | with_reducible refine i_ifF ?_ | ((with_reducible apply i_var); · rfl) | ((with_reducible apply i_rel); · rfl) | ((with_reducible apply i_app); · rfl) | with_reducible refine (vq_isi_non).mpr ?_ | with_reducible refine (vq_isiT_non).mpr ?_ | with_reducible refine (vq_is_non).mpr ?_ | with_reducible refine (vq_isN_non).mpr ?_ | with_reducible refine (vq_isi_bl).mpr ?_ | with_reducible refine (vq_isiT_bl).mpr ?_ | with_reducible refine (vq_is_bl).mpr ?_ | with_reducible refine (vq_isN_bl).mpr ?_ | with_reducible refine (vq_isi_int).mpr ?_ | with_reducible refine (vq_isiT_int).mpr ?_ | with_reducible refine (vq_is_int).mpr ?_ | with_reducible refine (vq_isN_int).mpr ?_ | with_reducible refine (vq_isi_str).mpr ?_ | with_reducible refine (vq_isiT_str).mpr ?_ | with_reducible refine (vq_is_str).mpr ?_ | with_reducible refine (vq_isN_str).mpr ?_ | with_reducible refine (vq_isi_lst).mpr ?_ | with_reducible refine (vq_isiT_lst).mpr ?_ | with_reducible refine (vq_is_lst).mpr ?_ | with_reducible refine (vq_isN_lst).mpr ?_ | with_reducible refine (vq_isi_tup).mpr ?_ | with_reducible refine (vq_isiT_tup).mpr ?_ | with_reducible refine (vq_is_tup).mpr ?_ | with_reducible refine (vq_isN_tup).mpr ?_ | with_reducible refine (vq_eq_bl).mpr ?_ | with_reducible refine (vq_eq_int).mpr ?_ | with_reducible refine (vq_ne_bl).mpr ?_ | with_reducible refine (vq_ne_int).mpr ?_ | with_reducible refine (vq_len_lst).mpr ?_ | with_reducible refine (vq_len_tup).mpr ?_ | with_reducible refine (vq_len_str).mpr ?_ | with_reducible refine (vq_c_lt).mpr ?_ | with_reducible refine (vq_c_le).mpr ?_ | with_reducible refine (vq_c_gt).mpr ?_ | with_reducible refine (vq_c_ge).mpr ?_ | with_reducible refine (vq_a_int).mpr ?_ | with_reducible refine (vq_a_str).mpr ?_ | with_reducible refine (vq_a_lst).mpr ?_ | with_reducible refine (vq_a_tup).mpr ?_ | with_reducible refine (vq_s_int).mpr ?_ | with_reducible refine (vq_ix_lst).mpr ?_ | with_reducible refine (vq_ix_tup).mpr ?_ | with_reducible refine (vq_m_int).mpr ?_ | with_reducible refine (vq_o_int).mpr ?_ | with_reducible refine (vq_f_int).mpr ?_ | with_reducible refine (vq_int_int).mpr ?_ | with_reducible refine (vq_int_bl).mpr ?_ | with_reducible refine (vq_str_int).mpr ?_ | with_reducible refine (vq_ix_str).mpr ?_ | with_reducible refine (vq_sl_strD).mpr ?_ | with_reducible refine (vq_sl_lstD).mpr ?_ | with_reducible refine (vq_sl_tupD).mpr ?_ | ((with_reducible apply i_tyok); · rfl) | ((with_reducible refine i_szl ?_ ?_); · (first | decide | omega | (simp only [List.length_cons, List.length_nil]; omega))) | dsimp only [List.cons_append, List.nil_append, List.append_nil, gtName, gtTup, gtCons, gtNil, setE, setD, Bool.not_true, Bool.not_false, if_true, if_false, List.length_cons, List.length_nil, Nat.reduceAdd, vq_ty_non_bool, vq_ty_non_int, vq_ty_non_str, vq_ty_non_list, vq_ty_non_tuple, vq_ty_non_dict, vq_ty_bl_bool, vq_ty_bl_int, vq_ty_bl_str, vq_ty_bl_list, vq_ty_bl_tuple, vq_ty_bl_dict, vq_ty_int_bool, vq_ty_int_int, vq_ty_int_str, vq_ty_int_list, vq_ty_int_tuple, vq_ty_int_dict, vq_ty_str_bool, vq_ty_str_int, vq_ty_str_str, vq_ty_str_list, vq_ty_str_tuple, vq_ty_str_dict, vq_ty_lst_bool, vq_ty_lst_int, vq_ty_lst_str, vq_ty_lst_list, vq_ty_lst_tuple, vq_ty_lst_dict, vq_ty_tup_bool, vq_ty_tup_int, vq_ty_tup_str, vq_ty_tup_list, vq_ty_tup_tuple, vq_ty_tup_dict, vq_tyOk_bool, vq_tyOk_int, vq_tyOk_str, vq_tyOk_list, vq_tyOk_tuple, vq_tyOk_dict])
    refine same_refl (n := 8) (d := .lst [.bl true, .bl false, .bl false, .bl false, .bl true]) rfl _ ?_
    rfl
end
end K72

set_option maxHeartbeats 0
namespace K72
open PySem PySem.Spec L2 PL
abbrev R : PySem.W.OpenRow := PySem.W.OpenLaw.row PySem.Challenge.rw_shutlines_k72_names_and_kinds
abbrev hk : PySem.W.Hook := hookP 3 fs fn
def ob (s : PySem.W.SharedT) := obsPG 3 fs fn (HandSHeadRun.getT s)
theorem ob_eq (s : PySem.W.SharedT) : ob s = hk.obs s.abs := obsPG_eq (HandSHeadRun.getT_eq s)
def loose : List Str := [("_wall" : Str), ("__name__" : Str), ("PlantError" : Str), ("InvalidName" : Str), ("DuplicateName" : Str), ("InvalidNumber" : Str), ("LETTERS" : Str), ("MOST_LETTERS" : Str), ("is_name" : Str), ("LEAST_WAY" : Str), ("MOST_WAY" : Str), ("Step" : Str), ("Move" : Str), ("Wash" : Str), ("Paper" : Str), ("Run" : Str), ("copied" : Str), ("renewed" : Str), ("Kept" : Str), ("Barrier" : Str), ("Apart" : Str), ("Leak" : Str), ("is_hop" : Str), ("shut_on" : Str), ("Relief" : Str), ("Relieved" : Str), ("ShutIn" : Str), ("_law_feed" : Str), ("_law_take" : Str), ("_law_of" : Str), ("_law_same" : Str), ("_law_new_names" : Str), ("_law_odd" : Str)]
theorem run (w : World) : HandSHeadRun.RunEq R (PySem.W.view R.prog [39]) hk ob 20000 loose w := by
  intro os
  kernel_rfl
end K72
open PySem PySem.W PySem.Calls PyProof.Rows
theorem PySem.Challenge.cw_shutlines_k72_names_and_kinds_holds : PySem.Challenge.rw_shutlines_k72_names_and_kinds.Holds := by
  w_on; o_law
  refine HandSHeadRun.head_any (r := OpenLaw.row PySem.Challenge.rw_shutlines_k72_names_and_kinds) (q := view (OpenLaw.row PySem.Challenge.rw_shutlines_k72_names_and_kinds).prog [39]) (H := K72.hk) (ob := K72.ob) (M := 20000) (loose := K72.loose) (d := HandSHeadRun.topDef (OpenLaw.row PySem.Challenge.rw_shutlines_k72_names_and_kinds).prog 39) (kwd := []) K72.ob_eq
    (by kernel_rfl) (fun s => by kernel_rfl) K72.run (by kernel_rfl) (by kernel_rfl) (by kernel_rfl) (by rfl) (by first | assumption | decide +kernel) (by decide +kernel) ⟨rfl, rfl, rfl, rfl, rfl, by decide +kernel⟩ ?hw ?hc
  case hw => w_witness2
  case hc =>
    refine L2.walk_ofE (l := PySem.Challenge.rw_shutlines_k72_names_and_kinds) (n := 63) (k := 11) (x := "_law_script") (CX := L2.CX0) rfl (by decide) (by kernel_rfl) ⟨rfl, by decide, by decide⟩ ?F (fun _ _ _ _ z => z)
    intro w mg fa h Y G hmg0
    obtain ⟨K, KX, c⟩ := Y
    have hmg : mg ("law" : PySem.Str) = some (.ref fa) := by
      have e : (HandSHeadRun.topDef (OpenLaw.row PySem.Challenge.rw_shutlines_k72_names_and_kinds).prog 39).name = ("law" : PySem.Str) := by kernel_rfl
      rw [← e]
      exact hmg0
    have T := K72.txt_of KX G c
    have ea := hmg.symm.trans T.g_law
    cases ea
    obtain ⟨fd, F⟩ := T.F_law
    refine ⟨K, fd, PL.spLaw K, KX, fun s v => (L2.FunD.bindsA (ps := ["_law_script"]) F fun _ _ _ _ _ _ us hl => match us, hl with | [_], _ => rfl) s [v] rfl, fun H a ns hl _ hS => ⟨a, ns, rfl, hS, hl, fun _ => rfl⟩, fun base _ _ => ?_⟩
    exact K72.C_law T (K72.hT K) F
