import PyProof.Rows.All
import Wide.All
import OpenK.AllK
import Wide.FinOn
import HandS.ForMost
import HandS.IsInst
import HandS.EndBits
import HandS.TupAny
import HandS.Deep
import HandS.Wide
import HandS.Style
import KE.SortData
import HandS.Strs
import HandS.Zip
import HandS.SetFor
import HandS.Small
import PyProof.Rows.TupDisplay
import KE.KDictPairs
import HandS.More
import HandS.Conv
import HandS.TupLen
import KE.IntBitsLaws
import PySem.Challenge.RW_talkplans_k03_small_plans
set_option Elab.async false
set_option linter.all false
set_option maxRecDepth 100000
set_option maxHeartbeats 4000000
/-! Core: data values, the frozen region, own slots; readings by plain functions. -/
namespace TP
open PySem PySem.Spec PyProof.Rows L2

abbrev D := PyData

def keyD : Key → D
  | .inl i => .int i
  | .inr x => .str x

/-! ### data in a region -/
/-- a pair of a text and a whole number -/
def isWay : D → Option Str
  | .tuple [.str w, .int _] => some w
  | _ => none
def risD : Option Str → List D → Bool
  | _, [] => true
  | u, d :: ds => match isWay d with
    | some w => (match u with | none => true | some u => decide (u.cps.toList < w.cps.toList)) && risD (some w) ds
    | none => false
/-- tuples of rising pairs: these stand locked -/
def needF (ds : List D) : Bool := !ds.isEmpty && risD none ds
def Rw (R : Hp) (a : Addr) (vs : List V) (ds : List D) : Prop := if needF ds = true then ∃ od : Obj, R a = some (.frz od (.tup vs)) ∧ od.dict = none else R a = some (.tup vs)
mutual
inductive Rp (R : Hp) : V → D → Prop
  | non : Rp R .non .none
  | bl (b : Bool) : Rp R (.bl b) (.bool b)
  | int (i : Int) : Rp R (.int i) (.int i)
  | str (x : Str) : Rp R (.str x) (.str x)
  | lst {a : Addr} {vs : List V} {ds : List D} : R a = some (.lst vs) → RpAll R vs ds → Rp R (.ref a) (.list ds)
  | tup {a : Addr} {vs : List V} {ds : List D} : Rw R a vs ds → RpAll R vs ds → Rp R (.ref a) (.tuple ds)
  | dk {a : Addr} {ks : List (Key × V)} {ds : List (D × D)} : Rd R a (.dK ks) → RpK R ks ds → Rp R (.ref a) (.dict ds)
  | dt {a : Addr} {ks : List (List Key × V)} {ds : List (D × D)} : Rd R a (.dT ks) → RpT R ks ds → Rp R (.ref a) (.dict ((.none, .none) :: ds))
inductive RpAll (R : Hp) : List V → List D → Prop
  | nil : RpAll R [] []
  | cons {v : V} {vs : List V} {d : D} {ds : List D} : Rp R v d → RpAll R vs ds → RpAll R (v :: vs) (d :: ds)
inductive RpK (R : Hp) : List (Key × V) → List (D × D) → Prop
  | nil : RpK R [] []
  | cons {k : Key} {v : V} {ks : List (Key × V)} {d : D} {ds : List (D × D)} : Rp R v d → RpK R ks ds → RpK R ((k, v) :: ks) ((keyD k, d) :: ds)
inductive RpT (R : Hp) : List (List Key × V) → List (D × D) → Prop
  | nil : RpT R [] []
  | cons {k : List Key} {v : V} {ks : List (List Key × V)} {d : D} {ds : List (D × D)} : Rp R v d → RpT R ks ds → RpT R ((k, v) :: ks) ((.tuple (k.map keyD), d) :: ds)
end

def isDic : HO → Bool
  | .dK _ => true
  | .dT _ => true
  | _ => false
def isTup : HO → Bool
  | .tup _ => true
  | _ => false
def Sub (R H : Hp) : Prop := ∀ a o, R a = some o → H a = some o
def Gr (R R' : Hp) : Prop := ∀ a o, R a = some o → R' a = some o ∨ (isDic o = true ∧ ∃ od, R' a = some (.frz od o))
theorem Sub.refl (R : Hp) : Sub R R := fun _ _ h => h
theorem Sub.trans {R H H' : Hp} (a : Sub R H) (b : Sub H H') : Sub R H' := fun x o h => b x o (a x o h)
theorem Sub.gr {R H : Hp} (h : Sub R H) : Gr R H := fun a o e => .inl (h a o e)
theorem Gr.refl (R : Hp) : Gr R R := (Sub.refl R).gr
theorem Gr.trans {R R1 R2 : Hp} (g : Gr R R1) (g2 : Gr R1 R2) : Gr R R2 := fun a o e => by
  rcases g a o e with h | ⟨d, od, h⟩
  · exact g2 a o h
  · rcases g2 a _ h with h2 | ⟨d2, _⟩
    · exact .inr ⟨d, od, h2⟩
    · exact absurd (show false = true from d2) Bool.false_ne_true
theorem Gr.lst {R R' : Hp} (g : Gr R R') {a : Addr} {vs : List V} (e : R a = some (.lst vs)) : R' a = some (.lst vs) := by
  rcases g a _ e with h | ⟨d, _⟩
  · exact h
  · exact absurd (show false = true from d) Bool.false_ne_true
theorem Gr.tup {R R' : Hp} (g : Gr R R') {a : Addr} {vs : List V} (e : R a = some (.tup vs)) : R' a = some (.tup vs) := by
  rcases g a _ e with h | ⟨d, _⟩
  · exact h
  · exact absurd (show false = true from d) Bool.false_ne_true
theorem Gr.frz {R R' : Hp} (g : Gr R R') {a : Addr} {od : Obj} {u : HO} (e : R a = some (.frz od u)) : R' a = some (.frz od u) := by
  rcases g a _ e with h | ⟨d, _⟩
  · exact h
  · exact absurd (show false = true from d) Bool.false_ne_true
theorem Gr.rd {R R' : Hp} (g : Gr R R') {a : Addr} {u : HO} (e : Rd R a u) : Rd R' a u := by
  rcases e with e | ⟨od, e⟩
  · rcases g a _ e with h | ⟨_, od, h⟩
    · exact .inl h
    · exact .inr ⟨od, h⟩
  · exact .inr ⟨od, g.frz e⟩
theorem Gr.some {R R' : Hp} (g : Gr R R') {a : Addr} {o : HO} (e : R a = some o) : ∃ o', R' a = some o' := by
  rcases g a _ e with h | ⟨_, od, h⟩
  · exact ⟨_, h⟩
  · exact ⟨_, h⟩

theorem Rw.gr {R R' : Hp} {a : Addr} {vs : List V} {ds : List D} (e : Rw R a vs ds) (g : Gr R R') : Rw R' a vs ds := by
  unfold Rw at e ⊢
  split
  · rename_i h
    rw [if_pos h] at e
    obtain ⟨od, e, n⟩ := e
    exact ⟨od, g.frz e, n⟩
  · rename_i h
    rw [if_neg h] at e
    exact g.tup e
theorem Rw.rd {R : Hp} {a : Addr} {vs : List V} {ds : List D} (e : Rw R a vs ds) : Rd R a (.tup vs) := by
  unfold Rw at e
  split at e
  · obtain ⟨od, e, n⟩ := e
    exact .inr ⟨od, e⟩
  · exact .inl e
theorem Rw.plain {R : Hp} {a : Addr} {vs : List V} {ds : List D} (e : Rw R a vs ds) (n : needF ds = false) : R a = some (.tup vs) := by
  unfold Rw at e
  rw [n] at e
  exact e
theorem Rw.mk {R : Hp} {a : Addr} {vs : List V} {ds : List D} (n : needF ds = false) (e : R a = some (.tup vs)) : Rw R a vs ds := by
  unfold Rw
  rw [n]
  exact e
theorem Rw.sub {R H : Hp} {a : Addr} {vs : List V} {ds : List D} (e : Rw R a vs ds) (s : Sub R H) : Rd H a (.tup vs) := s.gr.rd e.rd
theorem nf_keys (k : List Key) : needF (k.map keyD) = false := by
  cases k with
  | nil => rfl
  | cons a k => cases a <;> rfl
mutual
theorem Rp.gr {R R' : Hp} (g : Gr R R') : ∀ (d : D) (v : V), Rp R v d → Rp R' v d
  | .none, _, h => by cases h; exact .non
  | .bool _, _, h => by cases h; exact .bl _
  | .int _, _, h => by cases h; exact .int _
  | .str _, _, h => by cases h; exact .str _
  | .list ds, _, h => by
    cases h with
    | lst e r => exact .lst (g.lst e) (RpAll.gr g ds _ r)
  | .tuple ds, _, h => by
    cases h with
    | tup e r => exact .tup (e.gr g) (RpAll.gr g ds _ r)
  | .dict ds, _, h => by
    cases h with
    | dk e r => exact .dk (g.rd e) (RpK.gr g ds _ r)
    | dt e r => exact .dt (g.rd e) (RpT.gr g _ _ r)
theorem RpAll.gr {R R' : Hp} (g : Gr R R') : ∀ (ds : List D) (vs : List V), RpAll R vs ds → RpAll R' vs ds
  | [], _, h => by cases h; exact .nil
  | d :: ds, _, h => by
    cases h with
    | cons h1 h2 => exact .cons (Rp.gr g d _ h1) (RpAll.gr g ds _ h2)
theorem RpK.gr {R R' : Hp} (g : Gr R R') : ∀ (ds : List (D × D)) (vs : List (Key × V)), RpK R vs ds → RpK R' vs ds
  | [], _, h => by cases h; exact .nil
  | (_, d) :: ds, _, h => by
    cases h with
    | cons h1 h2 => exact .cons (Rp.gr g d _ h1) (RpK.gr g ds _ h2)
theorem RpT.gr {R R' : Hp} (g : Gr R R') : ∀ (ds : List (D × D)) (vs : List (List Key × V)), RpT R vs ds → RpT R' vs ds
  | [], _, h => by cases h; exact .nil
  | (_, d) :: ds, _, h => by
    cases h with
    | cons h1 h2 => exact .cons (Rp.gr g d _ h1) (RpT.gr g ds _ h2)
end
theorem Rp.mono {R R' : Hp} {d : D} {v : V} (h : Rp R v d) (g : Gr R R') : Rp R' v d := Rp.gr g d v h
theorem RpAll.mono {R R' : Hp} {ds : List D} {vs : List V} (h : RpAll R vs ds) (g : Gr R R') : RpAll R' vs ds := RpAll.gr g ds vs h
theorem RpK.mono {R R' : Hp} {ds : List (D × D)} {vs : List (Key × V)} (h : RpK R vs ds) (g : Gr R R') : RpK R' vs ds := RpK.gr g ds vs h
theorem RpT.mono {R R' : Hp} {ds : List (D × D)} {vs : List (List Key × V)} (h : RpT R vs ds) (g : Gr R R') : RpT R' vs ds := RpT.gr g ds vs h

theorem RpAll.length {R : Hp} : ∀ {vs : List V} {ds : List D}, RpAll R vs ds → vs.length = ds.length
  | _, _, .nil => rfl
  | _, _, .cons _ t => by rw [List.length_cons, List.length_cons, t.length]
theorem RpAll.get {R : Hp} : ∀ {vs : List V} {ds : List D} {i : Nat} {d : D}, RpAll R vs ds → ds[i]? = some d → ∃ v, vs[i]? = some v ∧ Rp R v d
  | _, _, _, _, .nil, e => by simp at e
  | _, _, 0, _, .cons r _, e => by simp at e; subst e; exact ⟨_, rfl, r⟩
  | _, _, i + 1, d, .cons _ t, e => by
    obtain ⟨v, h1, h2⟩ := t.get (i := i) (d := d) (by simpa using e)
    exact ⟨v, by simpa using h1, h2⟩
theorem RpAll.getV {R : Hp} : ∀ {vs : List V} {ds : List D} {i : Nat} {v : V}, RpAll R vs ds → vs[i]? = some v → ∃ d, ds[i]? = some d ∧ Rp R v d
  | _, _, _, _, .nil, e => by simp at e
  | _, _, 0, _, .cons r _, e => by simp at e; subst e; exact ⟨_, rfl, r⟩
  | _, _, i + 1, d, .cons _ t, e => by
    obtain ⟨v, h1, h2⟩ := t.getV (i := i) (v := d) (by simpa using e)
    exact ⟨v, by simpa using h1, h2⟩
theorem RpAll.append {R : Hp} : ∀ {vs ws : List V} {ds es : List D}, RpAll R vs ds → RpAll R ws es → RpAll R (vs ++ ws) (ds ++ es)
  | _, _, _, _, .nil, h => h
  | _, _, _, _, .cons r t, h => .cons r (t.append h)
theorem RpAll.take {R : Hp} : ∀ {vs : List V} {ds : List D} (n : Nat), RpAll R vs ds → RpAll R (vs.take n) (ds.take n)
  | _, _, 0, _ => .nil
  | _, _, _ + 1, .nil => .nil
  | _, _, n + 1, .cons r t => .cons r (t.take n)
theorem RpAll.drop {R : Hp} : ∀ {vs : List V} {ds : List D} (n : Nat), RpAll R vs ds → RpAll R (vs.drop n) (ds.drop n)
  | _, _, 0, r => r
  | _, _, _ + 1, .nil => .nil
  | _, _, n + 1, .cons _ t => t.drop n
theorem RpAll.set {R : Hp} {v : V} {d : D} (r : Rp R v d) : ∀ {vs : List V} {ds : List D} (i : Nat), RpAll R vs ds → RpAll R (vs.set i v) (ds.set i d)
  | _, _, _, .nil => .nil
  | _, _, 0, .cons _ t => .cons r t
  | _, _, i + 1, .cons q t => .cons q (t.set r i)
theorem RpAll.eraseIdx {R : Hp} : ∀ {vs : List V} {ds : List D} (i : Nat), RpAll R vs ds → RpAll R (vs.eraseIdx i) (ds.eraseIdx i)
  | _, _, _, .nil => .nil
  | _, _, 0, .cons _ t => t
  | _, _, i + 1, .cons q t => .cons q (t.eraseIdx i)
theorem RpAll.rep {R : Hp} {v : V} {d : D} (r : Rp R v d) : ∀ n : Nat, RpAll R (List.replicate n v) (List.replicate n d)
  | 0 => .nil
  | n + 1 => .cons r (RpAll.rep r n)

/-! ### own values -/
inductive O where
  | dat (d : D)
  | lst (xs : List D)
  | lls (xss : List (List D))
  | dK (kvs : List (D × D))
  | dT (kvs : List (D × D))
  | pr (d : D) (xs : List D)
  | scr (ns : List Int)

def O.data : O → Option D
  | .dat d => some d
  | .lst xs => some (.list xs)
  | .lls xss => some (.list (xss.map .list))
  | .dK kvs => some (.dict kvs)
  | .dT kvs => some (.dict ((.none, .none) :: kvs))
  | .pr _ _ => none
  | .scr _ => none

/-- the value v is o, its own objects at fp; data lie in R -/
def Ow (K : PySem.W.Frag) (R H : Hp) (v : V) : O → List Addr → Prop
  | .dat d, fp => fp = [] ∧ Rp R v d
  | .lst xs, fp => ∃ a vs, v = .ref a ∧ fp = [a] ∧ H a = some (.lst vs) ∧ RpAll R vs xs
  | .lls xss, fp => ∃ a bs, v = .ref a ∧ fp = a :: bs ∧ (a :: bs).Nodup ∧ H a = some (.lst (bs.map .ref)) ∧ Paired (fun b xs => ∃ vs, H b = some (.lst vs) ∧ RpAll R vs xs) bs xss
  | .dK kvs, fp => ∃ a ks, v = .ref a ∧ fp = [a] ∧ H a = some (.dK ks) ∧ RpK R ks kvs
  | .dT kvs, fp => ∃ a ks, v = .ref a ∧ fp = [a] ∧ H a = some (.dT ks) ∧ RpT R ks kvs
  | .pr d xs, fp => ∃ a b v0 vs, v = .ref a ∧ fp = [b] ∧ H a = some (.tup [v0, .ref b]) ∧ H b = some (.lst vs) ∧ Rp R v0 d ∧ RpAll R vs xs
  | .scr ns, fp => fp = [] ∧ ∃ a, v = .ref a ∧ SqL K R a (ns.map V.int)

/-- one step of evaluation: the region grows, what lies outside of it stays -/
structure Stp (R H R' H' : Hp) : Prop where
  sub : Sub R' H'
  gr : Gr R R'
  out : ∀ a o, H a = some o → R a = none → H' a = some o ∧ (R' a = none ∨ isTup o = true)
theorem isTup_eq {o : HO} (h : isTup o = true) : ∃ vs, o = .tup vs := by
  cases o with
  | tup vs => exact ⟨vs, rfl⟩
  | _ => exact absurd (show false = true from h) Bool.false_ne_true
theorem Stp.tups {R H R' H' : Hp} (s : Stp R H R' H') (h : Sub R H) {a : Addr} {vs : List V} (e : H a = some (.tup vs)) : H' a = some (.tup vs) := by
  cases q : R a with
  | none => exact (s.out a _ e q).1
  | some o =>
    have e2 := h a o q
    rw [e] at e2; cases e2
    exact s.sub a _ (s.gr.tup q)
theorem Stp.refl {R H : Hp} (h : Sub R H) : Stp R H R H := ⟨h, Gr.refl R, fun _ _ e n => ⟨e, .inl n⟩⟩
theorem Stp.trans {R H R1 H1 R2 H2 : Hp} (a : Stp R H R1 H1) (b : Stp R1 H1 R2 H2) : Stp R H R2 H2 :=
  ⟨b.sub, a.gr.trans b.gr, fun x o e n => by
    obtain ⟨h1, h2⟩ := a.out x o e n
    rcases h2 with h2 | h2
    · exact b.out x o h1 h2
    · obtain ⟨vs, rfl⟩ := isTup_eq h2
      exact ⟨b.tups a.sub h1, .inr rfl⟩⟩
/-- a tuple that stands is taken into the region -/
theorem Stp.adopt {R H : Hp} {q : Addr} {vs : List V} (h : Sub R H) (e : H q = some (.tup vs)) : Stp R H (upd R q (.tup vs)) H := by
  refine ⟨fun a u k => ?_, fun a u k => .inl ?_, fun a u k m => ⟨k, ?_⟩⟩
  · by_cases ha : a = q
    · subst ha; rw [upd_same] at k; cases k; exact e
    · rw [upd_ne ha] at k; exact h a u k
  · by_cases ha : a = q
    · subst ha; have e2 := h a u k; rw [e] at e2; cases e2; exact upd_same
    · rw [upd_ne ha]; exact k
  · by_cases ha : a = q
    · subst ha; rw [e] at k; cases k; exact .inr rfl
    · rw [upd_ne ha]; exact .inl m
/-- a new object is laid into the region -/
theorem Stp.lay {R H : Hp} {p : Addr} {o : HO} (h : Sub R H) (n : H p = none) : Stp R H (upd R p o) (upd H p o) := by
  have nR : R p = none := by
    cases e : R p with
    | none => rfl
    | some u => rw [h p u e] at n; cases n
  refine ⟨fun a u e => ?_, fun a u e => .inl ?_, fun a u e m => ⟨?_, ?_⟩⟩
  · by_cases ha : a = p
    · subst ha; rw [upd_same] at e ⊢; exact e
    · rw [upd_ne ha] at e ⊢; exact h a u e
  · rw [upd_ne (ne_of_none e nR)]; exact e
  · rw [upd_ne (ne_of_none e n)]; exact e
  · rw [upd_ne (ne_of_none e n)]; exact .inl m
/-- a new object is laid outside of it -/
theorem Stp.lay' {R H : Hp} {p : Addr} {o : HO} (h : Sub R H) (n : H p = none) : Stp R H R (upd H p o) :=
  ⟨fun a u e => by rw [upd_ne (ne_of_none (h a u e) n)]; exact h a u e, Gr.refl R, fun a u e m => ⟨by rw [upd_ne (ne_of_none e n)]; exact e, .inl m⟩⟩
theorem Sub.none {R H : Hp} (h : Sub R H) {p : Addr} (n : H p = none) : R p = none := by
  cases e : R p with
  | none => rfl
  | some u => rw [h p u e] at n; cases n
theorem Stp.none {R H R' H' : Hp} (s : Stp R H R' H') (h : Sub R H) {p : Addr} (n : H' p = none) : H p = none := by
  cases e : H p with
  | none => rfl
  | some u =>
    cases e2 : R p with
    | none => rw [(s.out p u e e2).1] at n; cases n
    | some w =>
      obtain ⟨w', h2⟩ := s.gr.some e2
      rw [s.sub p w' h2] at n; cases n

section
variable {K : PySem.W.Frag} {R H R' H' F : Hp} {v : V} {o : O} {fp : List Addr}
theorem Ow.some : ∀ {o : O}, Ow K R H v o fp → ∀ a ∈ fp, ∃ ob, H a = some ob ∧ isTup ob = false
  | .dat d, h, a, m => by rw [h.1] at m; cases m
  | .lst xs, h, a, m => by
    obtain ⟨p, vs, _, rfl, e, _⟩ := h
    rw [List.mem_singleton.mp m]; exact ⟨_, e, rfl⟩
  | .lls xss, h, a, m => by
    obtain ⟨p, bs, _, rfl, _, e, q⟩ := h
    rcases List.mem_cons.mp m with rfl | m
    · exact ⟨_, e, rfl⟩
    · have all : ∀ {bs : List Addr} {xss : List (List D)}, Paired (fun b xs => ∃ vs, H b = some (.lst vs) ∧ RpAll R vs xs) bs xss → a ∈ bs → ∃ ob, H a = some ob ∧ isTup ob = false := by
        intro bs xss q
        induction q with
        | nil => intro z; cases z
        | cons h _ ih =>
          intro z
          rcases List.mem_cons.mp z with rfl | z
          · obtain ⟨vs, e, _⟩ := h; exact ⟨_, e, rfl⟩
          · exact ih z
      exact all q m
  | .dK kvs, h, a, m => by
    obtain ⟨p, vs, _, rfl, e, _⟩ := h
    rw [List.mem_singleton.mp m]; exact ⟨_, e, rfl⟩
  | .dT kvs, h, a, m => by
    obtain ⟨p, vs, _, rfl, e, _⟩ := h
    rw [List.mem_singleton.mp m]; exact ⟨_, e, rfl⟩
  | .pr d xs, h, a, m => by
    obtain ⟨p, b, v0, vs, _, rfl, e, e2, _⟩ := h
    rw [List.mem_singleton.mp m]; exact ⟨_, e2, rfl⟩
  | .scr ns, h, a, m => by rw [h.1] at m; cases m
theorem sqL_gr {a : Addr} {xs : List V} (g : Gr R R') (h : SqL K R a xs) : SqL K R' a xs := by
  rcases h with h | h
  · exact .inl (g.rd h)
  · exact .inr h
theorem pair_mono {α β : Type} {F G : α → β → Prop} : ∀ {l₁ : List α} {l₂ : List β}, Paired F l₁ l₂ → (∀ a b, a ∈ l₁ → F a b → G a b) → Paired G l₁ l₂
  | _, _, .nil, _ => .nil
  | _, _, .cons r t, f => .cons (f _ _ List.mem_cons_self r) (pair_mono t fun a b h => f a b (List.mem_cons_of_mem _ h))
/-- the own objects stay, the region grows -/
theorem Ow.keep : ∀ {o : O}, Ow K R H v o fp → Gr R R' → (∀ a ∈ fp, ∀ ob, H a = Option.some ob → H' a = Option.some ob) → (∀ a vs, H a = Option.some (.tup vs) → H' a = Option.some (.tup vs)) → Ow K R' H' v o fp
  | .dat d, h, g, _, _ => ⟨h.1, h.2.mono g⟩
  | .lst xs, h, g, k, _ => by
    obtain ⟨p, vs, rfl, rfl, e, q⟩ := h
    exact ⟨p, vs, rfl, rfl, k p List.mem_cons_self _ e, q.mono g⟩
  | .lls xss, h, g, k, _ => by
    obtain ⟨p, bs, rfl, rfl, nd, e, q⟩ := h
    exact ⟨p, bs, rfl, rfl, nd, k p List.mem_cons_self _ e, pair_mono q fun b xs m ⟨vs, e1, e2⟩ => ⟨vs, k b (List.mem_cons_of_mem _ m) _ e1, e2.mono g⟩⟩
  | .dK kvs, h, g, k, _ => by
    obtain ⟨p, vs, rfl, rfl, e, q⟩ := h
    exact ⟨p, vs, rfl, rfl, k p List.mem_cons_self _ e, q.mono g⟩
  | .dT kvs, h, g, k, _ => by
    obtain ⟨p, vs, rfl, rfl, e, q⟩ := h
    exact ⟨p, vs, rfl, rfl, k p List.mem_cons_self _ e, q.mono g⟩
  | .pr d xs, h, g, k, t => by
    obtain ⟨p, b, v0, vs, rfl, rfl, e, e2, q1, q2⟩ := h
    exact ⟨p, b, v0, vs, rfl, rfl, t p _ e, k b List.mem_cons_self _ e2, q1.mono g, q2.mono g⟩
  | .scr ns, h, g, _, _ => by
    obtain ⟨rfl, a, rfl, q⟩ := h
    exact ⟨rfl, a, rfl, sqL_gr g q⟩
theorem Ow.stp (h : Ow K R H v o fp) (n : ∀ a ∈ fp, R a = none) (hs : Sub R H) (s : Stp R H R' H') : Ow K R' H' v o fp ∧ ∀ a ∈ fp, R' a = none :=
  ⟨h.keep s.gr (fun a m ob e => (s.out a ob e (n a m)).1) fun a vs e => s.tups hs e, fun a m => by
    obtain ⟨ob, e, nt⟩ := h.some a m
    rcases (s.out a ob e (n a m)).2 with h2 | h2
    · exact h2
    · rw [nt] at h2; cases h2⟩
/-- read in the whole heap -/
theorem Ow.rp : ∀ {o : O} {d : D}, Ow K R H v o fp → Sub R H → o.data = Option.some d → Rp H v d
  | .dat d, _, h, s, e => by cases e; exact h.2.mono s.gr
  | .lst xs, _, h, s, e => by
    cases e
    obtain ⟨p, vs, rfl, rfl, e, q⟩ := h
    exact .lst e (q.mono s.gr)
  | .lls xss, _, h, s, e => by
    cases e
    obtain ⟨p, bs, rfl, rfl, nd, e, q⟩ := h
    refine .lst e ?_
    clear e nd
    induction q with
    | nil => exact .nil
    | cons h _ ih =>
      obtain ⟨vs, e1, e2⟩ := h
      exact .cons (.lst e1 (e2.mono s.gr)) ih
  | .dK kvs, _, h, s, e => by
    cases e
    obtain ⟨p, vs, rfl, rfl, e, q⟩ := h
    exact .dk (.inl e) (q.mono s.gr)
  | .dT kvs, _, h, s, e => by
    cases e
    obtain ⟨p, vs, rfl, rfl, e, q⟩ := h
    exact .dt (.inl e) (q.mono s.gr)
  | .pr d xs, _, h, s, e => by cases e
  | .scr ns, _, h, s, e => by cases e

/-- the region with the own objects -/
def mrg (R H : Hp) (fp : List Addr) : Hp := fun a => if a ∈ fp then H a else R a
theorem mrg_sub (s : Sub R H) : Sub (mrg R H fp) H := fun a o e => by
  unfold mrg at e
  split at e
  · exact e
  · exact s a o e
theorem mrg_gr (n : ∀ a ∈ fp, R a = none) : Gr R (mrg R H fp) := fun a o e => .inl (by
  unfold mrg
  rw [if_neg]
  · exact e
  · intro m
    rw [n a m] at e; cases e)
theorem Ow.frz : ∀ {o : O} {d : D}, Ow K R H v o fp → (∀ a ∈ fp, R a = none) → o.data = Option.some d → Rp (mrg R H fp) v d
  | .dat d, _, h, n, e => by cases e; exact h.2.mono (mrg_gr n)
  | .lst xs, _, h, n, e => by
    cases e
    obtain ⟨p, vs, rfl, rfl, e, q⟩ := h
    exact .lst (by unfold mrg; rw [if_pos List.mem_cons_self]; exact e) (q.mono (mrg_gr n))
  | .lls xss, _, h, n, e => by
    cases e
    obtain ⟨p, bs, rfl, rfl, nd, e, q⟩ := h
    refine .lst (by unfold mrg; rw [if_pos List.mem_cons_self]; exact e) ?_
    have g := mrg_gr (H := H) n
    have all : ∀ {cs : List Addr} {xss : List (List D)}, (∀ b ∈ cs, b ∈ bs) → Paired (fun b xs => ∃ vs, H b = Option.some (.lst vs) ∧ RpAll R vs xs) cs xss → RpAll (mrg R H (p :: bs)) (cs.map V.ref) (xss.map PyData.list) := by
      intro cs xss m q
      induction q with
      | nil => exact .nil
      | @cons b xs l1 l2 h _ ih =>
        obtain ⟨vs, e1, e2⟩ := h
        refine .cons (.lst ?_ (e2.mono g)) (ih fun b hb => m b (List.mem_cons_of_mem _ hb))
        unfold mrg
        rw [if_pos (List.mem_cons_of_mem _ (m b List.mem_cons_self))]
        exact e1
    exact all (fun _ h => h) q
  | .dK kvs, _, h, n, e => by
    cases e
    obtain ⟨p, vs, rfl, rfl, e, q⟩ := h
    exact .dk (.inl (by unfold mrg; rw [if_pos List.mem_cons_self]; exact e)) (q.mono (mrg_gr n))
  | .dT kvs, _, h, n, e => by
    cases e
    obtain ⟨p, vs, rfl, rfl, e, q⟩ := h
    exact .dt (.inl (by unfold mrg; rw [if_pos List.mem_cons_self]; exact e)) (q.mono (mrg_gr n))
  | .pr d xs, _, h, n, e => by cases e
  | .scr ns, _, h, n, e => by cases e
end

/-! ### slots -/
inductive Sl where
  | un
  | shr (o : O)
  | own (o : O)
abbrev En := List Sl

def SlR (K : PySem.W.Frag) (F R H : Hp) (x : Option V) (l : Sl) (fp : List Addr) : Prop := match l with
  | .un => fp = []
  | .shr o => fp = [] ∧ ∃ v fp', x = some v ∧ Ow K R H v o fp' ∧ ∀ a ∈ fp', (∃ ob, F a = some ob) ∧ R a = none
  | .own o => ∃ v, x = some v ∧ Ow K R H v o fp ∧ ∀ a ∈ fp, F a = none ∧ R a = none

structure StR (K : PySem.W.Frag) (F : Hp) (σ : L2.St) (R H : Hp) (env : En) : Prop where
  len : σ.length = env.length
  fH : Sub F H
  rH : Sub R H
  fR : ∀ a o, F a = some o → R a = none ∨ isTup o = true
  sl : ∃ fps : Nat → List Addr, (∀ i l, env[i]? = some l → ∃ x, σ[i]? = some x ∧ SlR K F R H x l (fps i)) ∧ (∀ i, env[i]? = none → fps i = []) ∧ ∀ i j a, i ≠ j → a ∈ fps i → a ∉ fps j

section
variable {K : PySem.W.Frag} {F R H R' H' : Hp} {σ : L2.St} {env : En} {v : V} {o : O} {fp : List Addr} {d : D}
theorem SlR.stp {x : Option V} {l : Sl} (h : SlR K F R H x l fp) (hs : Sub R H) (s : Stp R H R' H') : SlR K F R' H' x l fp := by
  cases l with
  | un => exact h
  | shr o =>
    obtain ⟨e, v, fp', ev, ow, hf⟩ := h
    obtain ⟨ow2, n2⟩ := ow.stp (fun a m => (hf a m).2) hs s
    exact ⟨e, v, fp', ev, ow2, fun a m => ⟨(hf a m).1, n2 a m⟩⟩
  | own o =>
    obtain ⟨v, ev, ow, hf⟩ := h
    obtain ⟨ow2, n2⟩ := ow.stp (fun a m => (hf a m).2) hs s
    exact ⟨v, ev, ow2, fun a m => ⟨(hf a m).1, n2 a m⟩⟩
theorem StR.fStp (h : StR K F σ R H env) (s : Stp R H R' H') {a : Addr} {o : HO} (e : F a = some o) : H' a = some o ∧ (R' a = none ∨ isTup o = true) := by
  rcases h.fR a o e with n | t
  · exact s.out a o (h.fH a o e) n
  · obtain ⟨vs, rfl⟩ := isTup_eq t
    exact ⟨s.tups h.rH (h.fH a _ e), .inr rfl⟩
theorem StR.stp (h : StR K F σ R H env) (s : Stp R H R' H') : StR K F σ R' H' env := by
  obtain ⟨fps, h1, h2, h3⟩ := h.sl
  refine ⟨h.len, fun a o e => (h.fStp s e).1, s.sub, fun a o e => (h.fStp s e).2, fps, fun i l e => ?_, h2, h3⟩
  obtain ⟨x, ex, q⟩ := h1 i l e
  exact ⟨x, ex, q.stp h.rH s⟩
/-- what a slot holds -/
theorem StR.get {i : Nat} (h : StR K F σ R H env) : (env[i]? = some (.shr o) ∨ env[i]? = some (.own o)) → ∃ v fp, σ[i]? = some (some v) ∧ Ow K R H v o fp ∧ ∀ a ∈ fp, R a = none := by
  obtain ⟨fps, h1, _, _⟩ := h.sl
  rintro (e | e)
  · obtain ⟨x, ex, _, v, fp', rfl, ow, hf⟩ := h1 i _ e
    exact ⟨v, fp', ex, ow, fun a m => (hf a m).2⟩
  · obtain ⟨x, ex, v, rfl, ow, hf⟩ := h1 i _ e
    exact ⟨v, fps i, ex, ow, fun a m => (hf a m).2⟩
def updF (f : Nat → List Addr) (i : Nat) (fp : List Addr) : Nat → List Addr := fun j => if j = i then fp else f j
theorem updF_same {f : Nat → List Addr} {i : Nat} : updF f i fp i = fp := if_pos rfl
theorem updF_ne {f : Nat → List Addr} {i j : Nat} (h : j ≠ i) : updF f i fp j = f j := if_neg h
/-- a slot is set -/
theorem StR.setS (h : StR K F σ R H env) {i : Nat} (hi : i < env.length) {x : Option V} {l : Sl} (q : SlR K F R H x l fp) (ap : ∀ fps : Nat → List Addr, (∀ i l, env[i]? = some l → ∃ x, σ[i]? = some x ∧ SlR K F R H x l (fps i)) → (∀ i, env[i]? = none → fps i = []) → ∀ a ∈ fp, ∀ j, j ≠ i → a ∉ fps j) : StR K F (σ.set i x) R H (env.set i l) := by
  obtain ⟨fps, h1, h2, h3⟩ := h.sl
  refine ⟨by rw [List.length_set, List.length_set]; exact h.len, h.fH, h.rH, h.fR, updF fps i fp, fun j l' e => ?_, fun j e => ?_, fun j k a hjk hj hk => ?_⟩
  · by_cases hj : j = i
    · subst hj
      rw [List.getElem?_set_self hi] at e
      cases e
      exact ⟨x, by rw [List.getElem?_set_self (by rw [h.len]; exact hi)], by rw [updF_same]; exact q⟩
    · rw [List.getElem?_set_ne (Ne.symm hj)] at e
      obtain ⟨y, ey, q'⟩ := h1 j l' e
      exact ⟨y, by rw [List.getElem?_set_ne (Ne.symm hj)]; exact ey, by rw [updF_ne hj]; exact q'⟩
  · have hj : j ≠ i := fun z => by
      subst z
      rw [List.getElem?_set_self hi] at e; cases e
    rw [List.getElem?_set_ne (Ne.symm hj)] at e
    rw [updF_ne hj]; exact h2 j e
  · by_cases hj' : j = i
    · subst hj'
      rw [updF_same] at hj
      rw [updF_ne (Ne.symm hjk)] at hk
      exact ap fps h1 h2 a hj k (Ne.symm hjk) hk
    · rw [updF_ne hj'] at hj
      by_cases hk' : k = i
      · subst hk'
        rw [updF_same] at hk
        exact ap fps h1 h2 a hk j hj' hj
      · rw [updF_ne hk'] at hk
        exact h3 j k a hjk hj hk
theorem StR.setD (h : StR K F σ R H env) {i : Nat} (hi : i < env.length) (q : Rp R v d) : StR K F (σ.set i (some v)) R H (env.set i (.shr (.dat d))) :=
  h.setS (fp := []) hi ⟨rfl, v, [], rfl, ⟨rfl, q⟩, fun a m => by cases m⟩ fun _ _ _ a m => by cases m
theorem StR.setU (h : StR K F σ R H env) {i : Nat} (hi : i < env.length) {x : Option V} : StR K F (σ.set i x) R H (env.set i .un) :=
  h.setS (fp := []) hi rfl fun _ _ _ a m => by cases m
theorem SlR.fp_some {x : Option V} {l : Sl} (h : SlR K F R H x l fp) : ∀ a ∈ fp, ∃ ob, H a = some ob := by
  cases l with
  | un => intro a m; rw [show fp = [] from h] at m; cases m
  | shr o => intro a m; rw [show fp = [] from h.1] at m; cases m
  | own o =>
    obtain ⟨v, _, ow, _⟩ := h
    exact fun a m => let ⟨ob, e, _⟩ := ow.some a m; ⟨ob, e⟩
/-- a new own value goes into a slot -/
theorem StR.setO {R0 H0 : Hp} (h : StR K F σ R0 H0 env) (s : Stp R0 H0 R H) {i : Nat} (hi : i < env.length) (q : Ow K R H v o fp) (n : ∀ a ∈ fp, R a = none ∧ H0 a = none) : StR K F (σ.set i (some v)) R H (env.set i (.own o)) := by
  obtain ⟨fps, h1, h2, h3⟩ := h.sl
  have hs := h.stp s
  refine ⟨by rw [List.length_set, List.length_set]; exact h.len, hs.fH, hs.rH, hs.fR, updF fps i fp, fun j l' e => ?_, fun j e => ?_, fun j k a hjk hj hk => ?_⟩
  · by_cases hj : j = i
    · subst hj
      rw [List.getElem?_set_self hi] at e
      cases e
      refine ⟨some v, by rw [List.getElem?_set_self (by rw [h.len]; exact hi)], ?_⟩
      rw [updF_same]
      exact ⟨v, rfl, q, fun a m => ⟨(h.fH).none (n a m).2, (n a m).1⟩⟩
    · rw [List.getElem?_set_ne (Ne.symm hj)] at e
      obtain ⟨y, ey, q'⟩ := h1 j l' e
      exact ⟨y, by rw [List.getElem?_set_ne (Ne.symm hj)]; exact ey, by rw [updF_ne hj]; exact q'.stp h.rH s⟩
  · have hj : j ≠ i := fun z => by
      subst z
      rw [List.getElem?_set_self hi] at e; cases e
    rw [List.getElem?_set_ne (Ne.symm hj)] at e
    rw [updF_ne hj]; exact h2 j e
  · have some_of : ∀ k, a ∈ fps k → ∃ ob, H0 a = some ob := fun k m => by
      cases e : env[k]? with
      | none => rw [h2 k e] at m; cases m
      | some l =>
        obtain ⟨x, _, q'⟩ := h1 k l e
        exact q'.fp_some a m
    have apart : ∀ k, a ∈ fp → a ∉ fps k := fun k m m' => by
      obtain ⟨ob, e⟩ := some_of k m'
      rw [(n a m).2] at e; cases e
    by_cases hj' : j = i
    · subst hj'
      rw [updF_same] at hj
      rw [updF_ne (Ne.symm hjk)] at hk
      exact apart k hj hk
    · rw [updF_ne hj'] at hj
      by_cases hk' : k = i
      · subst hk'
        rw [updF_same] at hk
        exact apart j hk hj
      · rw [updF_ne hk'] at hk
        exact h3 j k a hjk hj hk
/-- an own object of a slot is changed -/
theorem StR.mut (h : StR K F σ R H env) {i : Nat} (hi : env[i]? = some (.own o)) {o' : O} (hm : ∀ v fp, σ[i]? = some (some v) → Ow K R H v o fp → (∀ a ∈ fp, R a = none) → ∃ p ∈ fp, (∀ b, b ≠ p → H' b = H b) ∧ Ow K R H' v o' fp) : StR K F σ R H' (env.set i (.own o')) := by
  obtain ⟨fps, h1, h2, h3⟩ := h.sl
  obtain ⟨x, ex, v, rfl, ow, hf⟩ := h1 i _ hi
  obtain ⟨p, hp, same, ow'⟩ := hm v (fps i) ex ow fun a m => (hf a m).2
  obtain ⟨obp, eobp, ntp⟩ := ow.some p hp
  have tups : ∀ a vs, H a = some (.tup vs) → H' a = some (.tup vs) := fun a vs e => by
    have : a ≠ p := fun z => by subst z; rw [e] at eobp; cases eobp; cases ntp
    rw [same a this]; exact e
  have hil : i < env.length := (List.getElem?_eq_some_iff.mp hi).1
  have pF : F p = none := (hf p hp).1
  have pR : R p = none := (hf p hp).2
  have ne_p : ∀ {a : Addr} {u : HO}, F a = some u → a ≠ p := fun {a u} e z => by subst z; rw [pF] at e; cases e
  refine ⟨by rw [List.length_set]; exact h.len, fun a u e => by rw [same a (ne_p e)]; exact h.fH a u e, fun a u e => ?_, h.fR, fps, fun j l' e => ?_, fun j e => ?_, h3⟩
  · have : a ≠ p := fun z => by subst z; rw [pR] at e; cases e
    rw [same a this]; exact h.rH a u e
  · by_cases hj : j = i
    · subst hj
      rw [List.getElem?_set_self hil] at e
      cases e
      exact ⟨some v, ex, v, rfl, ow', hf⟩
    · rw [List.getElem?_set_ne (Ne.symm hj)] at e
      obtain ⟨y, ey, q'⟩ := h1 j l' e
      refine ⟨y, ey, ?_⟩
      cases l' with
      | un => exact q'
      | shr u =>
        obtain ⟨z, w, fp', ew, owu, hfu⟩ := q'
        exact ⟨z, w, fp', ew, owu.keep (Gr.refl R) (fun a m ob e => by
          obtain ⟨⟨of, ef⟩, _⟩ := hfu a m
          rw [same a (ne_p ef)]; exact e) tups, hfu⟩
      | own u =>
        obtain ⟨w, ew, owu, hfu⟩ := q'
        exact ⟨w, ew, owu.keep (Gr.refl R) (fun a m ob e => by
          have : a ≠ p := fun z => by subst z; exact h3 i j a (Ne.symm hj) hp m
          rw [same a this]; exact e) tups, hfu⟩
  · have hj : j ≠ i := fun z => by
      subst z
      rw [List.getElem?_set_self hil] at e; cases e
    rw [List.getElem?_set_ne (Ne.symm hj)] at e
    exact h2 j e
/-- an own slot goes into the region -/
theorem StR.freeze (h : StR K F σ R H env) {i : Nat} (hi : env[i]? = some (.own o)) (hd : o.data = some d) : ∃ R', Gr R R' ∧ StR K F σ R' H (env.set i (.shr (.dat d))) := by
  obtain ⟨fps, h1, h2, h3⟩ := h.sl
  obtain ⟨x, ex, v, rfl, ow, hf⟩ := h1 i _ hi
  have hil : i < env.length := (List.getElem?_eq_some_iff.mp hi).1
  have n : ∀ a ∈ fps i, R a = none := fun a m => (hf a m).2
  have g : Gr R (mrg R H (fps i)) := mrg_gr n
  have hs := mrg_sub (fp := fps i) h.rH
  have fn : ∀ a u, F a = some u → a ∉ fps i := fun a u e m => by rw [(hf a m).1] at e; cases e
  refine ⟨_, g, ⟨by rw [List.length_set]; exact h.len, h.fH, hs, fun a u e => ?_, updF fps i [], fun j l' e => ?_, fun j e => ?_, fun j k a hjk hj hk => ?_⟩⟩
  · unfold mrg
    rw [if_neg (fn a u e)]
    exact h.fR a u e
  · by_cases hj : j = i
    · subst hj
      rw [List.getElem?_set_self hil] at e
      cases e
      refine ⟨some v, ex, ?_⟩
      rw [updF_same]
      exact ⟨rfl, v, [], rfl, ⟨rfl, ow.frz n hd⟩, fun a m => by cases m⟩
    · rw [List.getElem?_set_ne (Ne.symm hj)] at e
      obtain ⟨y, ey, q'⟩ := h1 j l' e
      refine ⟨y, ey, ?_⟩
      rw [updF_ne hj]
      cases l' with
      | un => exact q'
      | shr u =>
        obtain ⟨z, w, fp', ew, owu, hfu⟩ := q'
        refine ⟨z, w, fp', ew, owu.keep g (fun a m ob e => e) fun _ _ e => e, fun a m => ⟨(hfu a m).1, ?_⟩⟩
        obtain ⟨ob, eF⟩ := (hfu a m).1
        unfold mrg
        rw [if_neg (fn a ob eF)]
        exact (hfu a m).2
      | own u =>
        obtain ⟨w, ew, owu, hfu⟩ := q'
        refine ⟨w, ew, owu.keep g (fun a m ob e => e) fun _ _ e => e, fun a m => ⟨(hfu a m).1, ?_⟩⟩
        unfold mrg
        rw [if_neg (h3 j i a hj m)]
        exact (hfu a m).2
  · have hj : j ≠ i := fun z => by
      subst z
      rw [List.getElem?_set_self hil] at e; cases e
    rw [List.getElem?_set_ne (Ne.symm hj)] at e
    rw [updF_ne hj]; exact h2 j e
  · by_cases hj' : j = i
    · subst hj'
      rw [updF_same] at hj; cases hj
    · rw [updF_ne hj'] at hj
      by_cases hk' : k = i
      · subst hk'
        rw [updF_same] at hk; cases hk
      · rw [updF_ne hk'] at hk
        exact h3 j k a hjk hj hk
end
end TP

/-! Read: the canonical readings of plain functions; expressions, tests, arguments, statements, loops, calls. -/
namespace TP
open PySem PySem.Spec PyProof.Rows L2

abbrev Ex := En → Option O
abbrev Exs := En → Option (List O)

/-- values with their meanings -/
def OwL (K : PySem.W.Frag) (R H : Hp) : List V → List O → Prop := Paired fun v o => ∃ fp, Ow K R H v o fp ∧ ∀ a ∈ fp, R a = none
theorem OwL.stp {K : PySem.W.Frag} {R H R' H' : Hp} (hs : Sub R H) (s : Stp R H R' H') : ∀ {vs : List V} {os : List O}, OwL K R H vs os → OwL K R' H' vs os
  | _, _, .nil => .nil
  | _, _, .cons ⟨fp, w, n⟩ t => .cons ⟨fp, w.stp n hs s⟩ (OwL.stp hs s t)

def rX (K : PySem.W.Frag) (f : Ex) : TE := fun σ H Q => ∃ F R env o, StR K F σ R H env ∧ f env = some o ∧ ∀ x R' H' fp, Stp R H R' H' → Ow K R' H' x o fp → (∀ a ∈ fp, R' a = none) → Q x H'
def rF (K : PySem.W.Frag) (f : Ex) : TE := fun σ H Q => ∃ F R env o, StR K F σ R H env ∧ f env = some o ∧ ∀ x R' H' fp, Stp R H R' H' → Ow K R' H' x o fp → (∀ a ∈ fp, R' a = none ∧ H a = none) → Q x H'
def rT (K : PySem.W.Frag) (f : Ex) : TT := fun σ H Q => ∃ F R env b, StR K F σ R H env ∧ f env = some (.dat (.bool b)) ∧ ∀ R' H', Stp R H R' H' → Q b H'
def rA (K : PySem.W.Frag) (f : Exs) : TA := fun σ H Q => ∃ F R env os, StR K F σ R H env ∧ f env = some os ∧ ∀ xs R' H', Stp R H R' H' → OwL K R' H' xs os → Q xs H'

abbrev PX (X : Cx) (e : Expr) (f : Ex) : Prop := PE X e (rX X.K f)
abbrev PF (X : Cx) (e : Expr) (f : Ex) : Prop := PE X e (rF X.K f)
abbrev PC' (X : Cx) (e : Expr) (f : Ex) : Prop := PT X e (rT X.K f)
abbrev PAs (X : Cx) (es : List Expr) (f : Exs) : Prop := PA X es (rA X.K f)

section
variable {X : Cx} {e a b c : Expr} {es : List Expr} {pos : Pos} {t t' : TE} {f g h : Ex}
theorem PE.weak (p : PE X e t) (w : ∀ σ H Q, t' σ H Q → t σ H Q) : PE X e t' := ⟨fun pins s σ H Q I q => p.run pins s σ H Q I (w σ H Q q)⟩
theorem PT.weak {t t' : TT} (p : PT X e t) (w : ∀ σ H Q, t' σ H Q → t σ H Q) : PT X e t' := ⟨fun pins s σ H Q I q => p.run pins s σ H Q I (w σ H Q q)⟩
theorem PW.weak {t t' : TT} (p : PW X e t) (w : ∀ σ H Q, t' σ H Q → t σ H Q) : PW X e t' := ⟨fun wh pins s σ H Q I q => p.run wh pins s σ H Q I (w σ H Q q)⟩
theorem PA.weak {t t' : TA} (p : PA X es t) (w : ∀ σ H Q, t' σ H Q → t σ H Q) : PA X es t' := ⟨fun pos pins s σ H Q I q => p.run pos pins s σ H Q I (w σ H Q q)⟩
theorem PS.weak {st : Stmt} {t t' : TS} (p : PS X st t) (w : ∀ D σ H, t' D σ H → t D σ H) : PS X st t' := ⟨fun pins s σ H D I q => p.run pins s σ H D I (w D σ H q)⟩
theorem PSs.weak {st : List Stmt} {t t' : TS} (p : PSs X st t) (w : ∀ D σ H, t' D σ H → t D σ H) : PSs X st t' := ⟨fun pins s σ H D I q => p.run pins s σ H D I (w D σ H q)⟩
theorem PG.weak {t t' : TG} (p : PG X e t) (w : ∀ v σ H Q, t' v σ H Q → t v σ H Q) : PG X e t' := ⟨fun pins s σ H v u Q I r q => p.run pins s σ H v u Q I r (w v σ H Q q)⟩
theorem PI.weak {t t' : TI} (p : PI X a e t) (w : ∀ σ H R, t' σ H R → t σ H R) : PI X a e t' := ⟨fun pins s σ H R I q => p.run pins s σ H R I (w σ H R q)⟩

theorem rX_rF {K : PySem.W.Frag} (σ : L2.St) (H : Hp) (Q : VK) (q : rX K f σ H Q) : rF K f σ H Q := by
  obtain ⟨F, R, env, o, st, ef, k⟩ := q
  exact ⟨F, R, env, o, st, ef, fun x R' H' fp s w n => k x R' H' fp s w fun a m => (n a m).1⟩
theorem pf_x (p : PF X e f) : PX X e f := PE.weak p rX_rF

/-- use of a reading within another -/
theorem rX.use {K : PySem.W.Frag} {σ : L2.St} {F R H : Hp} {env : En} {o : O} {Q : VK} (st : StR K F σ R H env) (ef : f env = some o)
    (k : ∀ x R' H' fp, Stp R H R' H' → Ow K R' H' x o fp → (∀ a ∈ fp, R' a = none) → Q x H') : rX K f σ H Q := ⟨F, R, env, o, st, ef, k⟩
theorem rF.use {K : PySem.W.Frag} {σ : L2.St} {F R H : Hp} {env : En} {o : O} {Q : VK} (st : StR K F σ R H env) (ef : f env = some o)
    (k : ∀ x R' H' fp, Stp R H R' H' → Ow K R' H' x o fp → (∀ a ∈ fp, R' a = none ∧ H a = none) → Q x H') : rF K f σ H Q := ⟨F, R, env, o, st, ef, k⟩
theorem dat_done {K : PySem.W.Frag} {R H : Hp} {Q : VK} {x : V} {d : D} (hs : Sub R H) (k : ∀ x R' H' fp, Stp R H R' H' → Ow K R' H' x (.dat d) fp → (∀ a ∈ fp, R' a = none ∧ H a = none) → Q x H') (r : Rp R x d) : Q x H :=
  k x R H [] (Stp.refl hs) ⟨rfl, r⟩ fun a m => by cases m

/-! ### names, constants -/
def eVar (i : Nat) : Ex := fun env => match env[i]? with
  | some (.shr o) => some o
  | some (.own o) => some o
  | _ => none
def eDat (i : Nat) : Ex := fun env => match env[i]? with
  | some (.shr (.dat d)) => some (.dat d)
  | _ => none
def eC (d : D) : Ex := fun _ => some (.dat d)
theorem px_var {i : Nat} {x : Str} (hN : X.N[i]? = some x := by rfl) (hv : Vis X.env.scope x := by first | exact Or.inl rfl | exact Or.inr (Or.inl rfl) | exact Or.inr (Or.inr rfl)) (hd : (x == ("__debug__" : Str)) = false := by decide)
    (hcd : (x == ("__classdict__" : Str)) = false := by decide) : PX X (.Name x pos) (eVar i) := by
  refine PE.weak (pe_var hN hv hd hcd) fun σ H Q q => ?_
  obtain ⟨F, R, env, o, st, ef, k⟩ := q
  have hg : env[i]? = some (.shr o) ∨ env[i]? = some (.own o) := by
    unfold eVar at ef
    split at ef
    · rename_i e; cases ef; exact .inl e
    · rename_i e; cases ef; exact .inr e
    · cases ef
  obtain ⟨v, fp, ev, ow, n⟩ := st.get hg
  exact ⟨v, ev, k v R H fp (Stp.refl st.rH) ow n⟩
theorem pf_dat {i : Nat} {x : Str} (hN : X.N[i]? = some x := by rfl) (hv : Vis X.env.scope x := by first | exact Or.inl rfl | exact Or.inr (Or.inl rfl) | exact Or.inr (Or.inr rfl)) (hd : (x == ("__debug__" : Str)) = false := by decide)
    (hcd : (x == ("__classdict__" : Str)) = false := by decide) : PF X (.Name x pos) (eDat i) := by
  refine PE.weak (pe_var hN hv hd hcd) fun σ H Q q => ?_
  obtain ⟨F, R, env, o, st, ef, k⟩ := q
  have hg : ∃ d, env[i]? = some (.shr (.dat d)) ∧ o = .dat d := by
    unfold eDat at ef
    split at ef
    · rename_i d e; cases ef; exact ⟨d, e, rfl⟩
    · cases ef
  obtain ⟨d, hg, rfl⟩ := hg
  obtain ⟨v, fp, ev, ow, n⟩ := st.get (.inl hg)
  exact ⟨v, ev, dat_done st.rH k ow.2⟩
theorem pf_c {v : V} {d : D} (p : PE X e (tC v)) (r : ∀ R, Rp R v d) : PF X e (eC d) := by
  refine PE.weak p fun σ H Q q => ?_
  obtain ⟨F, R, env, o, st, ef, k⟩ := q
  cases ef
  exact dat_done st.rH k (r R)
theorem pf_int {i j} : PF X (.Constant (.int i) j pos) (eC (.int i)) := pf_c pe_int fun _ => .int i
theorem pf_bl {i j} : PF X (.Constant (.bool i) j pos) (eC (.bool i)) := pf_c pe_bl fun _ => .bl i
theorem pf_str {i j} : PF X (.Constant (.str i) j pos) (eC (.str i)) := pf_c pe_str fun _ => .str i
theorem pf_non {j} : PF X (.Constant .none j pos) (eC .none) := pf_c pe_non fun _ => .non
/-- a module's constant -/
theorem pf_glob {x : Str} {v : V} {u : Value} {d : D} (hg : Gl X x) (hm : X.mg x = some u) (r : RelV v u) (rd : ∀ R, Rp R v d) (hd : (x == ("__debug__" : Str)) = false := by decide) : PF X (.Name x pos) (eC d) := pf_c (pe_glob hg hm r hd) rd
/-- -k, k written -/
def eNeg (f : Ex) : Ex := fun env => match f env with
  | some (.dat (.int i)) => some (.dat (.int (-i)))
  | _ => none
theorem pf_neg (ha : PX X a f) : PF X (.UnaryOp .USub a pos) (eNeg f) := by
  refine PE.weak (pe_un un_neg ha) fun σ H Q q => ?_
  obtain ⟨F, R, env, o, st, ef, k⟩ := q
  unfold eNeg at ef
  split at ef
  · rename_i i e
    cases ef
    refine rX.use st e fun x R1 H1 fp s w n => ?_
    obtain ⟨_, w⟩ := w
    cases w
    exact ⟨i, rfl, k _ R1 H1 [] s ⟨rfl, .int _⟩ fun a m => by cases m⟩
  · cases ef

/-! ### two operands -/
def e2 (g : O → O → Option O) (f1 f2 : Ex) : Ex := fun env => (f1 env).bind fun x => (f2 env).bind fun y => g x y
def OpOk (K : PySem.W.Frag) (r : R2) (g : O → O → Option O) : Prop := ∀ R H x y o1 o2 fp1 fp2 o Q, Sub R H → Ow K R H x o1 fp1 → (∀ a ∈ fp1, R a = none) → Ow K R H y o2 fp2 → (∀ a ∈ fp2, R a = none) → g o1 o2 = some o →
  (∀ z R' H' fp, Stp R H R' H' → Ow K R' H' z o fp → (∀ a ∈ fp, R' a = none ∧ H a = none) → Q z H') → r x y H Q
theorem OpOk.or {K : PySem.W.Frag} {r r' : R2} {g g' : O → O → Option O} (h : OpOk K r g) (h' : OpOk K r' g') : OpOk K (fun x y H Q => r x y H Q ∨ r' x y H Q) (fun x y => (g x y).or (g' x y)) :=
  fun R H x y o1 o2 fp1 fp2 o Q hs w1 n1 w2 n2 e k => by
    have e : (g o1 o2).or (g' o1 o2) = some o := e
    cases q : g o1 o2 with
    | some u =>
      rw [q] at e
      cases e
      exact .inl (h R H x y o1 o2 fp1 fp2 _ Q hs w1 n1 w2 n2 q k)
    | none =>
      rw [q] at e
      exact .inr (h' R H x y o1 o2 fp1 fp2 o Q hs w1 n1 w2 n2 e k)
theorem r2_use {K : PySem.W.Frag} {r : R2} {g : O → O → Option O} {f1 f2 : Ex} (hr : OpOk K r g) (σ : L2.St) (H : Hp) (Q : VK) (q : rF K (e2 g f1 f2) σ H Q) : tOp r (rX K f1) (rX K f2) σ H Q := by
  obtain ⟨F, R, env, o, st, ef, k⟩ := q
  unfold e2 at ef
  obtain ⟨o1, e1, ef⟩ := Option.bind_eq_some_iff.mp ef
  obtain ⟨o2, e2, ef⟩ := Option.bind_eq_some_iff.mp ef
  refine rX.use st e1 fun x R1 H1 fp1 s1 w1 n1 => ?_
  refine rX.use (st.stp s1) e2 fun y R2 H2 fp2 s2 w2 n2 => ?_
  obtain ⟨w1', n1'⟩ := w1.stp n1 s1.sub s2
  exact hr R2 H2 x y o1 o2 fp1 fp2 o Q s2.sub w1' n1' w2 n2 ef fun z R' H' fp s w n => k z R' H' fp ((s1.trans s2).trans s) w fun a m => ⟨(n a m).1, (s1.trans s2).none st.rH (n a m).2⟩
theorem pf_op {op : Operator} {r : R2} {g : O → O → Option O} {f1 f2 : Ex} (ho : OpR X (binaryOp op) r) (hr : OpOk X.K r g) (ha : PX X a f1) (hb : PX X b f2) : PF X (.BinOp a op b pos) (e2 g f1 f2) :=
  PE.weak (pe_op ho ha hb) (r2_use hr)
theorem pf_cmp {op : CmpOp} {r : R2} {g : O → O → Option O} {f1 f2 : Ex} (ho : OpR X (compareOp op) r) (hr : OpOk X.K r g) (ha : PX X a f1) (hb : PX X b f2) (hm : behindInMarks op b = false := by first | exact nobehind _ (by decide) (by decide) | rfl) : PF X (.Compare a [op] [b] pos) (e2 g f1 f2) :=
  PE.weak (pe_cmpR ho ha hb hm) (r2_use hr)
theorem pf_ix {r : R2} {g : O → O → Option O} {f1 f2 : Ex} (ho : IxR X r) (hr : OpOk X.K r g) (ha : PX X a f1) (hb : PX X b f2) (hs : PlainIx b := by intro _ _; rfl) : PF X (.Subscript a b pos) (e2 g f1 f2) :=
  PE.weak (pe_ix ho ha hb hs) (r2_use hr)

/-! ### tests -/
theorem rT.use {K : PySem.W.Frag} {σ : L2.St} {F R H : Hp} {env : En} {b : Bool} {Q : Bool → Hp → Prop} (st : StR K F σ R H env) (ef : f env = some (.dat (.bool b)))
    (k : ∀ R' H', Stp R H R' H' → Q b H') : rT K f σ H Q := ⟨F, R, env, b, st, ef, k⟩
theorem tt_of (σ : L2.St) (H : Hp) (Q : Bool → Hp → Prop) (q : rT X.K f σ H Q) : tB (rX X.K f) σ H Q := by
  obtain ⟨F, R, env, b, st, ef, k⟩ := q
  refine rX.use st ef fun x R' H' fp s w n => ?_
  obtain ⟨_, w⟩ := w
  cases w
  exact ⟨b, rfl, k R' H' s⟩
/-- a bool's expression as a test -/
theorem pt_of (p : PX X e f) (he : ∀ whole, isTrue e X.env whole = (do let v ← whole; standAt e.pos; holding [v] (truthy v)) := by intro _; rfl) : PC' X e f := PT.weak (pt_val p he) tt_of
theorem ptf_of (p : PF X e f) (he : ∀ whole, isTrue e X.env whole = (do let v ← whole; standAt e.pos; holding [v] (truthy v)) := by intro _; rfl) : PC' X e f := PT.weak (pt_val (pf_x p) he) tt_of
theorem ptc_cmp {op : CmpOp} {r : R2} {g : O → O → Option O} {f1 f2 : Ex} (ho : OpR X (compareOp op) r) (hr : OpOk X.K r g) (ha : PX X a f1) (hb : PX X b f2) (hm : behindInMarks op b = false := by first | exact nobehind _ (by decide) (by decide) | rfl) : PC' X (.Compare a [op] [b] pos) (e2 g f1 f2) := by
  refine PT.weak (pt_cmpR ho ha hb hm) fun σ H Q q => ?_
  obtain ⟨F, R, env, k0, st, ef, k⟩ := q
  refine r2_use hr σ H _ ⟨F, R, env, _, st, ef, fun x R' H' fp s w n => ?_⟩
  obtain ⟨_, w⟩ := w
  cases w
  exact ⟨k0, rfl, k R' H' s⟩

def asB : O → Option Bool
  | .dat (.bool b) => some b
  | _ => none
def eAnd (f g : Ex) : Ex := fun env => (f env).bind fun x => match x with
  | .dat (.bool true) => g env
  | .dat (.bool false) => some (.dat (.bool false))
  | _ => none
def eOr (f g : Ex) : Ex := fun env => (f env).bind fun x => match x with
  | .dat (.bool true) => some (.dat (.bool true))
  | .dat (.bool false) => g env
  | _ => none
def eNot (f : Ex) : Ex := fun env => (f env).bind fun x => match x with
  | .dat (.bool b) => some (.dat (.bool (!b)))
  | _ => none
def eIf (c f g : Ex) : Ex := fun env => (c env).bind fun x => match x with
  | .dat (.bool true) => f env
  | .dat (.bool false) => g env
  | _ => none
theorem and_use {K : PySem.W.Frag} (σ : L2.St) (H : Hp) (Q : Bool → Hp → Prop) (q : rT K (eAnd f g) σ H Q) : tAnd (rT K f) (rT K g) σ H Q := by
  obtain ⟨F, R, env, b, st, ef, k⟩ := q
  unfold eAnd at ef
  obtain ⟨o, e1, ef⟩ := Option.bind_eq_some_iff.mp ef
  split at ef
  · exact rT.use st e1 fun R1 H1 s1 => by
      rw [if_pos rfl]
      exact rT.use (st.stp s1) ef fun R2 H2 s2 => k R2 H2 (s1.trans s2)
  · cases ef
    exact rT.use st e1 fun R1 H1 s1 => by
      rw [if_neg Bool.false_ne_true]
      exact k R1 H1 s1
  · cases ef
theorem or_use {K : PySem.W.Frag} (σ : L2.St) (H : Hp) (Q : Bool → Hp → Prop) (q : rT K (eOr f g) σ H Q) : tOr (rT K f) (rT K g) σ H Q := by
  obtain ⟨F, R, env, b, st, ef, k⟩ := q
  unfold eOr at ef
  obtain ⟨o, e1, ef⟩ := Option.bind_eq_some_iff.mp ef
  split at ef
  · cases ef
    exact rT.use st e1 fun R1 H1 s1 => by
      rw [if_pos rfl]
      exact k R1 H1 s1
  · exact rT.use st e1 fun R1 H1 s1 => by
      rw [if_neg Bool.false_ne_true]
      exact rT.use (st.stp s1) ef fun R2 H2 s2 => k R2 H2 (s1.trans s2)
  · cases ef
theorem ptw_and1 (ha : PC' X a f) : PW X (.BoolOp .And [a] pos) (rT X.K f) := pw_and1 ha
theorem ptw_or1 (ha : PC' X a f) : PW X (.BoolOp .Or [a] pos) (rT X.K f) := pw_or1 ha
theorem ptw_and {rest : List Expr} (ha : PC' X a f) (hb : PW X (.BoolOp .And (b :: rest) pos) (rT X.K g)) : PW X (.BoolOp .And (a :: b :: rest) pos) (rT X.K (eAnd f g)) := PW.weak (pw_and ha hb) and_use
theorem ptw_or {rest : List Expr} (ha : PC' X a f) (hb : PW X (.BoolOp .Or (b :: rest) pos) (rT X.K g)) : PW X (.BoolOp .Or (a :: b :: rest) pos) (rT X.K (eOr f g)) := PW.weak (pw_or ha hb) or_use
theorem ptc_w (h : PW X e (rT X.K f)) : PC' X e f := h.pt
theorem ptc_not (ha : PC' X a f) : PC' X (.UnaryOp .Not a pos) (eNot f) := by
  refine PT.weak (pt_not ha) fun σ H Q q => ?_
  obtain ⟨F, R, env, b, st, ef, k⟩ := q
  unfold eNot at ef
  obtain ⟨o, e1, ef⟩ := Option.bind_eq_some_iff.mp ef
  split at ef
  · cases ef
    exact rT.use st e1 k
  · cases ef
/-- .. as values -/
theorem pf_one {op} (h : PF X a f) : PF X (.BoolOp op [a] pos) f := pe_one h
theorem pf_and {rest : List Expr} (ha : PX X a f) (hb : PF X (.BoolOp .And (b :: rest) pos) g) : PF X (.BoolOp .And (a :: b :: rest) pos) (eAnd f g) := by
  refine PE.weak (pe_and ha hb) fun σ H Q q => ?_
  obtain ⟨F, R, env, o, st, ef, k⟩ := q
  unfold eAnd at ef
  obtain ⟨o1, e1, ef⟩ := Option.bind_eq_some_iff.mp ef
  refine rX.use st e1 fun x R1 H1 fp s1 w n => ?_
  split at ef
  · obtain ⟨_, w⟩ := w
    cases w
    refine ⟨true, rfl, ?_⟩
    rw [if_pos rfl]
    exact rF.use (st.stp s1) ef fun x R2 H2 fp s2 w n => k x R2 H2 fp (s1.trans s2) w fun a m => ⟨(n a m).1, s1.none st.rH (n a m).2⟩
  · obtain ⟨_, w⟩ := w
    cases w
    cases ef
    refine ⟨false, rfl, ?_⟩
    rw [if_neg Bool.false_ne_true]
    exact k _ R1 H1 [] s1 ⟨rfl, .bl false⟩ fun a m => by cases m
  · cases ef
theorem pf_or {rest : List Expr} (ha : PX X a f) (hb : PF X (.BoolOp .Or (b :: rest) pos) g) : PF X (.BoolOp .Or (a :: b :: rest) pos) (eOr f g) := by
  refine PE.weak (pe_or ha hb) fun σ H Q q => ?_
  obtain ⟨F, R, env, o, st, ef, k⟩ := q
  unfold eOr at ef
  obtain ⟨o1, e1, ef⟩ := Option.bind_eq_some_iff.mp ef
  refine rX.use st e1 fun x R1 H1 fp s1 w n => ?_
  split at ef
  · obtain ⟨_, w⟩ := w
    cases w
    cases ef
    refine ⟨true, rfl, ?_⟩
    rw [if_pos rfl]
    exact k _ R1 H1 [] s1 ⟨rfl, .bl true⟩ fun a m => by cases m
  · obtain ⟨_, w⟩ := w
    cases w
    refine ⟨false, rfl, ?_⟩
    rw [if_neg Bool.false_ne_true]
    exact rF.use (st.stp s1) ef fun x R2 H2 fp s2 w n => k x R2 H2 fp (s1.trans s2) w fun a m => ⟨(n a m).1, s1.none st.rH (n a m).2⟩
  · cases ef
theorem pf_not (ha : PX X a f) : PF X (.UnaryOp .Not a pos) (eNot f) := by
  refine PE.weak (pe_not ha) fun σ H Q q => ?_
  obtain ⟨F, R, env, o, st, ef, k⟩ := q
  unfold eNot at ef
  obtain ⟨o1, e1, ef⟩ := Option.bind_eq_some_iff.mp ef
  refine rX.use st e1 fun x R1 H1 fp s1 w n => ?_
  split at ef
  · obtain ⟨_, w⟩ := w
    cases w
    cases ef
    exact ⟨_, rfl, k _ R1 H1 [] s1 ⟨rfl, .bl _⟩ fun a m => by cases m⟩
  · cases ef
theorem pf_if {c : Expr} {c' : Ex} (hc : PC' X c c') (ha : PF X a f) (hb : PF X b g) : PF X (.IfExp c a b pos) (eIf c' f g) := by
  refine PE.weak (pe_ifExp hc ha hb) fun σ H Q q => ?_
  obtain ⟨F, R, env, o, st, ef, k⟩ := q
  unfold eIf at ef
  obtain ⟨o1, e1, ef⟩ := Option.bind_eq_some_iff.mp ef
  split at ef
  · refine rT.use st e1 fun R1 H1 s1 => ?_
    rw [if_pos rfl]
    exact rF.use (st.stp s1) ef fun x R2 H2 fp s2 w n => k x R2 H2 fp (s1.trans s2) w fun a m => ⟨(n a m).1, s1.none st.rH (n a m).2⟩
  · refine rT.use st e1 fun R1 H1 s1 => ?_
    rw [if_neg Bool.false_ne_true]
    exact rF.use (st.stp s1) ef fun x R2 H2 fp s2 w n => k x R2 H2 fp (s1.trans s2) w fun a m => ⟨(n a m).1, s1.none st.rH (n a m).2⟩
  · cases ef

/-! ### freezing what is new -/
def eFrz (f : Ex) : Ex := fun env => (f env).bind fun o => o.data.map .dat
theorem pf_frz (ha : PF X e f) : PF X e (eFrz f) := by
  refine PE.weak ha fun σ H Q q => ?_
  obtain ⟨F, R, env, o, st, ef, k⟩ := q
  unfold eFrz at ef
  obtain ⟨o1, e1, ef⟩ := Option.bind_eq_some_iff.mp ef
  obtain ⟨d, ed, ef⟩ := Option.map_eq_some_iff.mp ef
  subst ef
  refine rF.use st e1 fun x R1 H1 fp s1 w n => ?_
  have nR : ∀ a ∈ fp, R1 a = none := fun a m => (n a m).1
  have fresh : ∀ a ∈ fp, ∀ u, H a ≠ some u := fun a m u e => by rw [(n a m).2] at e; cases e
  refine k x (mrg R1 H1 fp) H1 [] ⟨mrg_sub s1.sub, s1.gr.trans (mrg_gr nR), fun a u e m => ?_⟩ ⟨rfl, w.frz nR ed⟩ fun a m => by cases m
  obtain ⟨h1, h2⟩ := s1.out a u e m
  refine ⟨h1, ?_⟩
  unfold mrg
  rw [if_neg (fun z => fresh a z u e)]
  exact h2

/-! ### arguments, displays -/
def eNil : Exs := fun _ => some []
def eCons (f : Ex) (r : Exs) : Exs := fun env => (f env).bind fun o => (r env).map fun os => o :: os
theorem pas_nil : PAs X [] eNil := by
  refine PA.weak pa_nil fun σ H Q q => ?_
  obtain ⟨F, R, env, os, st, ef, k⟩ := q
  cases ef
  exact k [] R H (Stp.refl st.rH) .nil
theorem cons_use {K : PySem.W.Frag} {r : Exs} (σ : L2.St) (H : Hp) (Q : List V → Hp → Prop) (q : rA K (eCons f r) σ H Q) : tCons (rX K f) (rA K r) σ H Q := by
  obtain ⟨F, R, env, os, st, ef, k⟩ := q
  unfold eCons at ef
  obtain ⟨o, e1, ef⟩ := Option.bind_eq_some_iff.mp ef
  obtain ⟨os', e2, ef⟩ := Option.map_eq_some_iff.mp ef
  subst ef
  refine rX.use st e1 fun x R1 H1 fp s1 w n => ⟨F, R1, env, os', st.stp s1, e2, fun xs R2 H2 s2 ws => ?_⟩
  exact k (x :: xs) R2 H2 (s1.trans s2) (.cons ⟨fp, w.stp n s1.sub s2⟩ ws)
theorem pas_cons {r : Exs} (ha : PX X e f) (hr : PAs X es r) (hs : starEach (e :: es) X.env = (false, eval e X.env) :: starEach es X.env := by rfl) : PAs X (e :: es) (eCons f r) := PA.weak (pa_cons ha hr hs) cons_use
def datL : List O → Option (List D)
  | [] => some []
  | .dat d :: r => (datL r).map fun ds => d :: ds
  | _ :: _ => none
theorem datL_rp {K : PySem.W.Frag} {R H : Hp} : ∀ {os : List O} {xs : List V} {ds : List D}, OwL K R H xs os → datL os = some ds → RpAll R xs ds
  | [], _, _, .nil, e => by cases e; exact .nil
  | .dat d :: r, _, _, .cons h t, e => by
    obtain ⟨ds', e1, rfl⟩ := Option.map_eq_some_iff.mp e
    obtain ⟨fp, w, _⟩ := h
    exact .cons w.2 (datL_rp t e1)
  | .lst _ :: _, _, _, _, e => by cases e
  | .lls _ :: _, _, _, _, e => by cases e
  | .dK _ :: _, _, _, _, e => by cases e
  | .dT _ :: _, _, _, _, e => by cases e
  | .pr _ _ :: _, _, _, _, e => by cases e
  | .scr _ :: _, _, _, _, e => by cases e
def small (n : Nat) : Bool := decide (n ≤ 1000000)
theorem small_le {n : Nat} (h : small n = true) : n ≤ sizeLine := Nat.le_trans (of_decide_eq_true h) (by decide)
theorem small_lt {n : Nat} (h : small n = true) : n < sizeLine := Nat.lt_of_le_of_lt (of_decide_eq_true h) (by decide)
def eTup (fs : Exs) : Ex := fun env => (fs env).bind fun os => (datL os).bind fun ds => if small ds.length = true then some (.dat (.tuple ds)) else none
def eLst (fs : Exs) : Ex := fun env => (fs env).bind fun os => (datL os).bind fun ds => if small ds.length = true then some (.lst ds) else none
/-- a new tuple, of which the walk may say that it stands locked -/
def tTupW (t : TA) : TE := fun σ H Q => t σ H fun xs H1 => xs.length ≤ sizeLine ∧ ∀ p od, H1 p = none → od.dict = none → ∃ o : HO, (o = .tup xs ∨ o = .frz od (.tup xs)) ∧ Q (.ref p) (upd H1 p o)
theorem obj_tup {P : Program} {w : World} {H : Hp} {h : Heap} {xs : List V} {its : List Value} {a : Addr} {od : Obj} {o : HO} (z : xs.length ≤ sizeLine) (r : Vals xs its) (e : od = { cls := .type "tuple", data := .seq its.toArray }) (got : h.get? a = some od) (ho : o = .tup xs ∨ o = .frz od (.tup xs)) : ObjOk P w H h a o := by
  subst e
  rcases ho with rfl | rfl
  · exact ⟨z, its, r, ⟨_, got, rfl, _, rfl⟩⟩
  · exact ⟨got, z, its, r, ⟨_, got, rfl, _, rfl⟩⟩
theorem pe_tupW {X : Cx} {t : TA} {es : List Expr} {pos : Pos} {x1} (h : PA X es t) : PE X (.Tuple es x1 pos) (tTupW t) := by
  refine ⟨fun pins s σ H Q I hq => ?_⟩
  refine wpAny_Tuple_spliced (thn (h.run pos pins s σ H _ I hq) fun us s1 ⟨xs, H1, I1, r, z, q⟩ => ⟨by rw [← r.length]; exact z, ?_⟩)
  obtain ⟨o, ho, q⟩ := q s1.heap.objs.size { cls := .type "tuple", data := .seq us.toArray } (I1.hok.fresh (Nat.le_refl _)) rfl
  exact ⟨.ref s1.heap.objs.size, _, I1.laid (t' := s1.toks) (o := o) (fun b u e => Heap.get?_push_of_some _ e) (Nat.le_refl _) (obj_tup z r rfl (Heap.get?_push_size _ rfl) ho), rfl, q⟩
theorem done_tw {R H : Hp} {Q : VK} {p : Addr} {vs : List V} {ds : List D} {od : Obj} {K : PySem.W.Frag} (hs : Sub R H) (np : H p = none) (hd : od.dict = none) (r : RpAll R vs ds) (k : ∀ z R' H' fp, Stp R H R' H' → Ow K R' H' z (.dat (.tuple ds)) fp → (∀ a ∈ fp, R' a = none ∧ H a = none) → Q z H') :
    ∃ o : HO, (o = .tup vs ∨ o = .frz od (.tup vs)) ∧ Q (.ref p) (upd H p o) := by
  cases nf : needF ds with
  | true =>
    have s2 : Stp R H (upd R p (.frz od (.tup vs))) (upd H p (.frz od (.tup vs))) := Stp.lay hs np
    exact ⟨_, .inr rfl, k (.ref p) _ _ [] s2 ⟨rfl, .tup (by unfold Rw; rw [if_pos nf]; exact ⟨od, upd_same, hd⟩) (r.mono s2.gr)⟩ fun c m => by cases m⟩
  | false =>
    have s2 : Stp R H (upd R p (.tup vs)) (upd H p (.tup vs)) := Stp.lay hs np
    exact ⟨_, .inl rfl, k (.ref p) _ _ [] s2 ⟨rfl, .tup (.mk nf upd_same) (r.mono s2.gr)⟩ fun c m => by cases m⟩
theorem pf_tup {fs : Exs} {x1} (h : PAs X es fs) : PF X (.Tuple es x1 pos) (eTup fs) := by
  refine PE.weak (pe_tupW h) fun σ H Q q => ?_
  obtain ⟨F, R, env, o, st, ef, k⟩ := q
  unfold eTup at ef
  obtain ⟨os, e1, ef⟩ := Option.bind_eq_some_iff.mp ef
  obtain ⟨ds, e2, ef⟩ := Option.bind_eq_some_iff.mp ef
  split at ef
  · rename_i sm
    cases ef
    refine ⟨F, R, env, os, st, e1, fun xs R1 H1 s1 ws => ?_⟩
    have r := datL_rp ws e2
    refine ⟨by rw [r.length]; exact small_le sm, fun p od np hd => ?_⟩
    exact done_tw s1.sub np hd r fun z R2 H2 fp st2 w2 n2 => k z R2 H2 fp (s1.trans st2) w2 fun b m => ⟨(n2 b m).1, s1.none st.rH (n2 b m).2⟩
  · cases ef
theorem pf_lst {fs : Exs} (h : PAs X es fs) : PF X (.List es pos) (eLst fs) := by
  refine PE.weak (pe_lst h) fun σ H Q q => ?_
  obtain ⟨F, R, env, o, st, ef, k⟩ := q
  unfold eLst at ef
  obtain ⟨os, e1, ef⟩ := Option.bind_eq_some_iff.mp ef
  obtain ⟨ds, e2, ef⟩ := Option.bind_eq_some_iff.mp ef
  split at ef
  · rename_i sm
    cases ef
    refine ⟨F, R, env, os, st, e1, fun xs R1 H1 s1 ws => ?_⟩
    have r := datL_rp ws e2
    refine ⟨by rw [r.length]; exact small_le sm, fun p np => ?_⟩
    have s2 : Stp R1 H1 R1 (upd H1 p (.lst xs)) := Stp.lay' s1.sub np
    refine k (.ref p) _ _ [p] (s1.trans s2) ⟨p, xs, rfl, rfl, upd_same, r⟩ fun a m => ?_
    rw [List.mem_singleton.mp m]
    exact ⟨s1.sub.none np, s1.none st.rH np⟩
  · cases ef

/-! ### calls by values -/
def CaOk (K : PySem.W.Frag) (r : List V → Hp → VK → Prop) (g : List O → Option O) : Prop := ∀ R H xs os o Q, Sub R H → OwL K R H xs os → g os = some o →
  (∀ z R' H' fp, Stp R H R' H' → Ow K R' H' z o fp → (∀ a ∈ fp, R' a = none ∧ H a = none) → Q z H') → r xs H Q
theorem CaOk.or {K : PySem.W.Frag} {r r' : List V → Hp → VK → Prop} {g g' : List O → Option O} (h : CaOk K r g) (h' : CaOk K r' g') : CaOk K (fun xs H Q => r xs H Q ∨ r' xs H Q) (fun x => (g x).or (g' x)) :=
  fun R H xs os o Q hs w e k => by
    have e : (g os).or (g' os) = some o := e
    cases q : g os with
    | some u =>
      rw [q] at e
      cases e
      exact .inl (h R H xs os _ Q hs w q k)
    | none =>
      rw [q] at e
      exact .inr (h' R H xs os o Q hs w e k)
def eCall (g : List O → Option O) (fs : Exs) : Ex := fun env => (fs env).bind g
theorem ca_use {K : PySem.W.Frag} {r : List V → Hp → VK → Prop} {g : List O → Option O} {fs : Exs} (hr : CaOk K r g) (σ : L2.St) (H : Hp) (Q : VK) (q : rF K (eCall g fs) σ H Q) : tCB r (rA K fs) σ H Q := by
  obtain ⟨F, R, env, o, st, ef, k⟩ := q
  obtain ⟨os, e1, ef⟩ := Option.bind_eq_some_iff.mp ef
  refine ⟨F, R, env, os, st, e1, fun xs R1 H1 s1 ws => ?_⟩
  exact hr R1 H1 xs os o Q s1.sub ws ef fun z R' H' fp s w n => k z R' H' fp (s1.trans s) w fun a m => ⟨(n a m).1, s1.none st.rH (n a m).2⟩
theorem pf_callB {x : Str} {p : Pos} {id : String} {r : List V → Hp → VK → Prop} {g : List O → Option O} {fs : Exs} (hc : CallR X (.builtin id) r) (hr : CaOk X.K r g) (hg : Gl X x) (hm : X.mg x = none) (hv : bootBuiltins x = some (.builtin id)) (ha : PAs X (e :: es) fs) (hn : x ≠ "__name__" := by decide) (hdb : (x == ("__debug__" : Str)) = false := by decide)
    (he : starEach (e :: es) X.env = (false, eval e X.env) :: starEach es X.env := by rfl) (hpl : (backTo pos (starEach es X.env)).any (·.1) = false := by rfl) : PF X (.Call (.Name x p) (e :: es) [] pos) (eCall g fs) :=
  PE.weak (pe_callB hc hg hm hv ha hn hdb he hpl) (ca_use hr)
theorem pf_callTy {x : Str} {p : Pos} {T : String} {r : List V → Hp → VK → Prop} {g : List O → Option O} {fs : Exs} (hc : CallR X (.type T) r) (hr : CaOk X.K r g) (hg : Gl X x) (hm : X.mg x = none) (hv : bootBuiltins x = some (.type T)) (ha : PAs X (e :: es) fs) (hn : x ≠ "__name__" := by decide) (hdb : (x == ("__debug__" : Str)) = false := by decide)
    (he : starEach (e :: es) X.env = (false, eval e X.env) :: starEach es X.env := by rfl) (hpl : (backTo pos (starEach es X.env)).any (·.1) = false := by rfl) : PF X (.Call (.Name x p) (e :: es) [] pos) (eCall g fs) :=
  PE.weak (pe_callTy hc hg hm hv ha hn hdb he hpl) (ca_use hr)

/-- the promise of a def by its plain function -/
def SpF (K : PySem.W.Frag) (n : Nat) (m : List O → Option O) : Sp := fun vs H Q _ => ∃ R os o, Sub R H ∧ OwL K R H vs os ∧ m os = some o ∧ os.length = n ∧ ∀ x R' H' fp, Stp R H R' H' → Ow K R' H' x o fp → (∀ a ∈ fp, R' a = none ∧ H a = none) → Q x H'
theorem OwL.length {K : PySem.W.Frag} {R H : Hp} {vs : List V} {os : List O} (h : OwL K R H vs os) : vs.length = os.length := Paired.length h
def eFn (n : Nat) (m : List O → Option O) (fs : Exs) : Ex := fun env => (fs env).bind fun os => if os.length = n then m os else none
theorem pf_call {x : Str} {p : Pos} {k n : Nat} {fa : Addr} {fd : FuncData} {ps : List Str} {m : List O → Option O} {fs : Exs} (G : FnOk X.prog X.w X.K X.mg X.base CX0 k fa fd ps (SpF X.K n m)) (hr : Room k X.A) (hg : Gl X x) (hm : X.mg x = some (.ref fa)) (hk : PySem.W.keepIn X.K (.ref fa) = true) (hb : Binds X.K fd ps [])
    (ha : PAs X (e :: es) fs) (hdb : (x == ("__debug__" : Str)) = false := by decide) (he : starEach (e :: es) X.env = (false, eval e X.env) :: starEach es X.env := by rfl) (hpl : (backTo pos (starEach es X.env)).any (·.1) = false := by rfl) :
    PF X (.Call (.Name x p) (e :: es) [] pos) (eFn n m fs) := by
  refine PE.weak (pe_call (E := E0) G hr hg hm hk hb .nil pass0 ha hdb he hpl) fun σ H Q q => ?_
  obtain ⟨F, R, env, o, st, ef, k⟩ := q
  obtain ⟨os, e1, ef⟩ := Option.bind_eq_some_iff.mp ef
  split at ef
  · rename_i hl
    refine ⟨F, R, env, os, st, e1, fun xs R1 H1 s1 ws => ⟨R1, os, o, s1.sub, ?_, ef, hl, fun x R' H' fp s w nn => k x R' H' fp (s1.trans s) w fun a m => ⟨(nn a m).1, s1.none st.rH (nn a m).2⟩⟩⟩
    rw [List.append_nil]
    exact ws
  · cases ef
end

/-! ### statements -/
inductive Out where
  | nx (env : En)
  | rt (o : O)
  | bk (env : En)
  | ct (env : En)
abbrev Sx := En → Option Out
def Post (K : PySem.W.Frag) (F R : Hp) (Dn : Ends) : Out → Prop
  | .nx env => ∀ σ' R' H', StR K F σ' R' H' env → Gr R R' → Dn.nx σ' H'
  | .bk env => ∀ σ' R' H', StR K F σ' R' H' env → Gr R R' → Dn.bk σ' H'
  | .ct env => ∀ σ' R' H', StR K F σ' R' H' env → Gr R R' → Dn.ct σ' H'
  | .rt o => ∀ x R' H' fp, Sub R' H' → Sub F H' → (∀ a u, F a = some u → R' a = none ∨ isTup u = true) → Gr R R' → Ow K R' H' x o fp → (∀ a ∈ fp, R' a = none ∧ F a = none) → Dn.rt x H'
def rS (K : PySem.W.Frag) (f : Sx) : TS := fun Dn σ H => ∃ F R env out, StR K F σ R H env ∧ f env = some out ∧ Post K F R Dn out
abbrev PSx (X : Cx) (st : Stmt) (f : Sx) : Prop := PS X st (rS X.K f)
abbrev PSSx (X : Cx) (st : List Stmt) (f : Sx) : Prop := PSs X st (rS X.K f)
theorem rS.use {K : PySem.W.Frag} {f : Sx} {Dn : Ends} {σ : L2.St} {F R H : Hp} {env : En} {out : Out} (st : StR K F σ R H env) (ef : f env = some out) (k : Post K F R Dn out) : rS K f Dn σ H := ⟨F, R, env, out, st, ef, k⟩
/-- the wish may ask for less: another base of the region -/
theorem Post.gr {K : PySem.W.Frag} {F R R' : Hp} {Dn : Ends} {out : Out} (k : Post K F R Dn out) (g : Gr R R') : Post K F R' Dn out := by
  cases out with
  | nx env => exact fun σ' R2 H2 st g2 => k σ' R2 H2 st (g.trans g2)
  | bk env => exact fun σ' R2 H2 st g2 => k σ' R2 H2 st (g.trans g2)
  | ct env => exact fun σ' R2 H2 st g2 => k σ' R2 H2 st (g.trans g2)
  | rt o => exact fun x R2 H2 fp h1 h2 h3 g2 => k x R2 H2 fp h1 h2 h3 (g.trans g2)

section
variable {X : Cx} {e a b c : Expr} {es : List Expr} {pos : Pos} {f g h : Ex} {st : Stmt} {rest body : List Stmt} {u v : Sx}
def sNil : Sx := fun env => some (.nx env)
def sSeq (u v : Sx) : Sx := fun env => (u env).bind fun out => match out with
  | .nx env' => v env'
  | o => some o
theorem psx_nil : PSSx X [] sNil := by
  refine PSs.weak pss_nil fun Dn σ H q => ?_
  obtain ⟨F, R, env, out, st, ef, k⟩ := q
  cases ef
  exact k σ R H st (Gr.refl R)
theorem seq_use {K : PySem.W.Frag} (Dn : Ends) (σ : L2.St) (H : Hp) (q : rS K (sSeq u v) Dn σ H) : tSeq (rS K u) (rS K v) Dn σ H := by
  obtain ⟨F, R, env, out, st, ef, k⟩ := q
  unfold sSeq at ef
  obtain ⟨o1, e1, ef⟩ := Option.bind_eq_some_iff.mp ef
  refine ⟨F, R, env, o1, st, e1, ?_⟩
  cases o1 with
  | nx env1 => exact fun σ' R' H' st' g => ⟨F, R', env1, out, st', ef, k.gr g⟩
  | bk env1 => cases ef; exact k
  | ct env1 => cases ef; exact k
  | rt o => cases ef; exact k
theorem psx_cons (h1 : PSx X st u) (h2 : PSSx X rest v) : PSSx X (st :: rest) (sSeq u v) := PSs.weak (pss_cons h1 h2) seq_use
theorem psx_one (h1 : PSx X st u) : PSSx X [st] u := pss_one h1
/-- a step that no row of the text makes: an own slot is frozen -/
def sFrz (i : Nat) : Sx := fun env => match env[i]? with
  | some (.own o) => o.data.map fun d => .nx (env.set i (.shr (.dat d)))
  | _ => none
theorem frz_use {K : PySem.W.Frag} {i : Nat} (Dn : Ends) (σ : L2.St) (H : Hp) (q : rS K (sSeq (sFrz i) v) Dn σ H) : rS K v Dn σ H := by
  obtain ⟨F, R, env, out, st, ef, k⟩ := q
  unfold sSeq at ef
  obtain ⟨o1, e1, ef⟩ := Option.bind_eq_some_iff.mp ef
  unfold sFrz at e1
  split at e1
  · rename_i o eo
    obtain ⟨d, ed, e1⟩ := Option.map_eq_some_iff.mp e1
    subst e1
    obtain ⟨R', g, st'⟩ := st.freeze eo ed
    exact ⟨F, R', _, out, st', ef, k.gr g⟩
  · cases e1
theorem psx_frz {i : Nat} (h1 : PSSx X rest v) : PSSx X rest (sSeq (sFrz i) v) := PSs.weak h1 frz_use
def sIf (c : Ex) (u v : Sx) : Sx := fun env => (c env).bind fun x => match x with
  | .dat (.bool true) => u env
  | .dat (.bool false) => v env
  | _ => none
theorem psx_if {c : Expr} {c' : Ex} {s1 s2 : List Stmt} (hc : PC' X c c') (ha : PSSx X s1 u) (hb : PSSx X s2 v) : PSx X (.If c s1 s2 pos) (sIf c' u v) := by
  refine PS.weak (ps_if hc ha hb) fun Dn σ H q => ?_
  obtain ⟨F, R, env, out, st, ef, k⟩ := q
  unfold sIf at ef
  obtain ⟨o1, e1, ef⟩ := Option.bind_eq_some_iff.mp ef
  split at ef
  · exact rT.use st e1 fun R1 H1 s1 => by
      rw [if_pos rfl]
      exact ⟨F, R1, env, out, st.stp s1, ef, k.gr s1.gr⟩
  · exact rT.use st e1 fun R1 H1 s1 => by
      rw [if_neg Bool.false_ne_true]
      exact ⟨F, R1, env, out, st.stp s1, ef, k.gr s1.gr⟩
  · cases ef
def sBrk : Sx := fun env => some (.bk env)
def sCnt : Sx := fun env => some (.ct env)
theorem psx_break : PSx X (.Break pos) sBrk := by
  refine PS.weak ps_break fun Dn σ H q => ?_
  obtain ⟨F, R, env, out, st, ef, k⟩ := q
  cases ef
  exact k σ R H st (Gr.refl R)
theorem psx_cont : PSx X (.Continue pos) sCnt := by
  refine PS.weak ps_continue fun Dn σ H q => ?_
  obtain ⟨F, R, env, out, st, ef, k⟩ := q
  cases ef
  exact k σ R H st (Gr.refl R)
theorem psx_pass : PSx X (.Pass pos) sNil := by
  refine PS.weak ps_pass fun Dn σ H q => ?_
  obtain ⟨F, R, env, out, st, ef, k⟩ := q
  cases ef
  exact k σ R H st (Gr.refl R)
def sNever : Sx := fun _ => none
theorem psx_never : PSx X st sNever := PS.weak ps_never fun Dn σ H q => by
  obtain ⟨_, _, _, _, _, ef, _⟩ := q
  cases ef
/-- what is handed back: new, or a datum -/
def sRet (f : Ex) : Sx := fun env => (f env).map .rt
theorem psx_ret (he : PF X e f) : PSx X (.Return (some e) pos) (sRet f) := by
  refine PS.weak (ps_ret he) fun Dn σ H q => ?_
  obtain ⟨F, R, env, out, st, ef, k⟩ := q
  obtain ⟨o, e1, ef⟩ := Option.map_eq_some_iff.mp ef
  subst ef
  refine rF.use st e1 fun x R1 H1 fp s w n => ?_
  have st1 := st.stp s
  exact k x R1 H1 fp s.sub st1.fH st1.fR s.gr w fun a m => ⟨(n a m).1, st.fH.none (n a m).2⟩
def sRetN : Sx := fun _ => some (.rt (.dat .none))
theorem psx_retN : PSx X (.Return none pos) sRetN := by
  refine PS.weak ps_retN fun Dn σ H q => ?_
  obtain ⟨F, R, env, out, st, ef, k⟩ := q
  cases ef
  exact k .non R H [] st.rH st.fH st.fR (Gr.refl R) ⟨rfl, .non⟩ fun a m => by cases m
/-- an own name is handed back -/
def sRetV (i : Nat) : Sx := fun env => match env[i]? with
  | some (.own o) => some (.rt o)
  | some (.shr (.dat d)) => some (.rt (.dat d))
  | _ => none
theorem psx_retV {i : Nat} {x : Str} {pos' : Pos} (hN : X.N[i]? = some x := by rfl) (hv : Vis X.env.scope x := by first | exact Or.inl rfl | exact Or.inr (Or.inl rfl) | exact Or.inr (Or.inr rfl)) (hd : (x == ("__debug__" : Str)) = false := by decide)
    (hcd : (x == ("__classdict__" : Str)) = false := by decide) : PSx X (.Return (some (.Name x pos')) pos) (sRetV i) := by
  refine PS.weak (ps_ret (pe_var hN hv hd hcd)) fun Dn σ H q => ?_
  obtain ⟨F, R, env, out, st, ef, k⟩ := q
  unfold sRetV at ef
  split at ef
  · rename_i o eo
    cases ef
    obtain ⟨fps, h1, _, _⟩ := st.sl
    obtain ⟨y, ex, v, rfl, ow, hf⟩ := h1 i _ eo
    exact ⟨v, ex, k v R H (fps i) st.rH st.fH st.fR (Gr.refl R) ow fun a m => ⟨(hf a m).2, (hf a m).1⟩⟩
  · rename_i d eo
    cases ef
    obtain ⟨v, fp, ev, ow, n⟩ := st.get (.inl eo)
    exact ⟨v, ev, k v R H [] st.rH st.fH st.fR (Gr.refl R) ⟨rfl, ow.2⟩ fun a m => by cases m⟩
  · cases ef
/-- an expression alone -/
def sExp (f : Ex) : Sx := fun env => (f env).map fun _ => .nx env
theorem psx_exp (he : PX X e f) (hs : swapsWith e none pos.line X.env = pure false := by rfl) : PSx X (.Expr e pos) (sExp f) := by
  refine PS.weak (ps_expr he hs) fun Dn σ H q => ?_
  obtain ⟨F, R, env, out, st, ef, k⟩ := q
  obtain ⟨o, e1, ef⟩ := Option.map_eq_some_iff.mp ef
  subst ef
  exact rX.use st e1 fun x R1 H1 fp s w n => k σ R1 H1 (st.stp s) s.gr

/-! ### targets -/
abbrev Tg := D → En → Option En
def rG (K : PySem.W.Frag) (sl : List Nat) (tg : Tg) : TG := fun v σ H Q => ∃ F R env d env', StR K F σ R H env ∧ Rp R v d ∧ tg d env = some env' ∧ ∀ σ', StR K F σ' R H env' → σ'.length = σ.length → (∀ j, j ∉ sl → σ'[j]? = σ[j]?) → Q σ' H
def tgN (i : Nat) : Tg := fun d env => if i < env.length then some (env.set i (.shr (.dat d))) else none
theorem pgx_name {i : Nat} {x : Str} (hN : X.N.Nodup) (hi : X.N[i]? = some x := by rfl) (hx : Loc X.env.scope x := by first | exact .inl rfl | exact .inr rfl) (hf : X.fn x = true ∨ X.env.scope.names.lookup x = some .local := by first | exact .inl rfl | exact .inr rfl | assumption) : PG X (.Name x pos) (rG X.K [i] (tgN i)) := by
  refine PG.weak (pg_name hN hi hx hf) fun v σ H Q q => ?_
  obtain ⟨F, R, env, d, env', st, r, et, k⟩ := q
  unfold tgN at et
  split at et
  · rename_i hl
    cases et
    exact k _ (st.setD hl r) (List.length_set ..) fun j hj => List.getElem?_set_ne fun z => hj (by rw [z]; exact List.mem_cons_self)
  · cases et
def tg2 (i j : Nat) : Tg := fun d env => match d with
  | .tuple [x, y] => if i < env.length ∧ j < env.length then some ((env.set i (.shr (.dat x))).set j (.shr (.dat y))) else none
  | _ => none
def tg3 (i j l : Nat) : Tg := fun d env => match d with
  | .tuple [x, y, z] => if i < env.length ∧ j < env.length ∧ l < env.length then some (((env.set i (.shr (.dat x))).set j (.shr (.dat y))).set l (.shr (.dat z))) else none
  | _ => none
theorem pgx_tup2 {i j : Nat} {x y : Str} {px py : Pos} {kk : Nat} (hc : X.calm = true := by rfl) (hN : X.N.Nodup) (hi : X.N[i]? = some x := by rfl) (hj : X.N[j]? = some y := by rfl) (hx : Loc X.env.scope x := by first | exact .inl rfl | exact .inr rfl) (hy : Loc X.env.scope y := by first | exact .inl rfl | exact .inr rfl)
    (hfx : X.fn x = true ∨ X.env.scope.names.lookup x = some .local := by first | exact .inl rfl | exact .inr rfl | assumption) (hfy : X.fn y = true ∨ X.env.scope.names.lookup y = some .local := by first | exact .inl rfl | exact .inr rfl | assumption) :
    PG X (.Tuple [.Name x px, .Name y py] kk pos) (rG X.K [i, j] (tg2 i j)) := by
  refine PG.weak (pg_tup (n := 2) hc (pgs_cons (pg_name hN hi hx hfx) (pgs_cons (pg_name hN hj hy hfy) pgs_nil))) fun v σ H Q q => ?_
  obtain ⟨F, R, env, d, env', st, r, et, k⟩ := q
  unfold tg2 at et
  split at et
  · rename_i dx dy
    split at et
    · rename_i hl
      cases et
      cases r with
      | tup ea ra =>
        cases ra with
        | cons r1 ra =>
          cases ra with
          | cons r2 ra =>
            cases ra
            rename_i a vx vy
            refine ⟨a, _, rfl, .inl (ea.sub st.rH), rfl, vx, [vy], rfl, vy, [], rfl, rfl, ?_⟩
            refine k _ ((st.setD hl.1 r1).setD (by rw [List.length_set]; exact hl.2) r2) (by rw [List.length_set, List.length_set]) fun m hm => ?_
            rw [List.getElem?_set_ne fun z => hm (by rw [z]; exact List.mem_cons_of_mem _ List.mem_cons_self), List.getElem?_set_ne fun z => hm (by rw [z]; exact List.mem_cons_self)]
    · cases et
  · cases et
theorem pgx_tup3 {i j l : Nat} {x y z : Str} {px py pz : Pos} {kk : Nat} (hc : X.calm = true := by rfl) (hN : X.N.Nodup) (hi : X.N[i]? = some x := by rfl) (hj : X.N[j]? = some y := by rfl) (hl : X.N[l]? = some z := by rfl) (hx : Loc X.env.scope x := by first | exact .inl rfl | exact .inr rfl) (hy : Loc X.env.scope y := by first | exact .inl rfl | exact .inr rfl) (hz : Loc X.env.scope z := by first | exact .inl rfl | exact .inr rfl)
    (hfx : X.fn x = true ∨ X.env.scope.names.lookup x = some .local := by first | exact .inl rfl | exact .inr rfl | assumption) (hfy : X.fn y = true ∨ X.env.scope.names.lookup y = some .local := by first | exact .inl rfl | exact .inr rfl | assumption) (hfz : X.fn z = true ∨ X.env.scope.names.lookup z = some .local := by first | exact .inl rfl | exact .inr rfl | assumption) :
    PG X (.Tuple [.Name x px, .Name y py, .Name z pz] kk pos) (rG X.K [i, j, l] (tg3 i j l)) := by
  refine PG.weak (pg_tup (n := 3) hc (pgs_cons (pg_name hN hi hx hfx) (pgs_cons (pg_name hN hj hy hfy) (pgs_cons (pg_name hN hl hz hfz) pgs_nil)))) fun v σ H Q q => ?_
  obtain ⟨F, R, env, d, env', st, r, et, k⟩ := q
  unfold tg3 at et
  split at et
  · rename_i dx dy dz
    split at et
    · rename_i hl
      cases et
      cases r with
      | tup ea ra =>
        cases ra with
        | cons r1 ra =>
          cases ra with
          | cons r2 ra =>
            cases ra with
            | cons r3 ra =>
              cases ra
              rename_i a vx vy vz
              refine ⟨a, _, rfl, .inl (ea.sub st.rH), rfl, vx, [vy, vz], rfl, vy, [vz], rfl, vz, [], rfl, rfl, ?_⟩
              refine k _ (((st.setD hl.1 r1).setD (by rw [List.length_set]; exact hl.2.1) r2).setD (by rw [List.length_set, List.length_set]; exact hl.2.2) r3) (by rw [List.length_set, List.length_set, List.length_set]) fun m hm => ?_
              rw [List.getElem?_set_ne fun z => hm (by rw [z]; exact List.mem_cons_of_mem _ (List.mem_cons_of_mem _ List.mem_cons_self)), List.getElem?_set_ne fun z => hm (by rw [z]; exact List.mem_cons_of_mem _ List.mem_cons_self), List.getElem?_set_ne fun z => hm (by rw [z]; exact List.mem_cons_self)]
    · cases et
  · cases et

/-! ### assignments -/
def asD : O → Option D
  | .dat d => some d
  | _ => none
def sAsg (tg : Tg) (f : Ex) : Sx := fun env => (f env).bind fun o => (asD o).bind fun d => (tg d env).map .nx
theorem asg_use {K : PySem.W.Frag} {sl : List Nat} {tg : Tg} (Dn : Ends) (σ : L2.St) (H : Hp) (q : rS K (sAsg tg f) Dn σ H) : tAsg (rF K f) (rG K sl tg) Dn σ H := by
  obtain ⟨F, R, env, out, st, ef, k⟩ := q
  unfold sAsg at ef
  obtain ⟨o, e1, ef⟩ := Option.bind_eq_some_iff.mp ef
  obtain ⟨d, e2, ef⟩ := Option.bind_eq_some_iff.mp ef
  obtain ⟨env', e3, ef⟩ := Option.map_eq_some_iff.mp ef
  subst ef
  refine rF.use st e1 fun x R1 H1 fp s w n => ?_
  have eo : o = .dat d := by
    cases o <;> cases e2
    rfl
  subst eo
  exact ⟨F, R1, env, d, env', st.stp s, w.2, e3, fun σ' st' _ _ => k σ' R1 H1 st' s.gr⟩
theorem psx_asg {t : Expr} {sl : List Nat} {tg : Tg} (he : PF X e f) (hg : PG X t (rG X.K sl tg)) (hs : swapsWithSole [t] e pos.line X.env = pure false := by rfl) (hw : swappedStores [t] e X.env = pure none := by rfl)
    (h1 : (assignEach [t] X.env).map (·.2) = [assign t X.env] := by rfl) : PSx X (.Assign [t] e pos) (sAsg tg f) := PS.weak (ps_asg he hg hs hw h1) asg_use
/-- name = [..], the list's comprehension on the same row -/
theorem psx_setLc {i : Nat} {y : Str} {py : Pos} {e : Expr} {f : Ex} (p : PS X (.Assign [.Name y py] e pos) (tAsg (rF X.K f) (gName i))) : PSx X (.Assign [.Name y py] e pos) (sAsg (tgN i) f) := by
  refine PS.weak p fun Dn σ H q => ?_
  obtain ⟨F, R, env, out, st, ef, k⟩ := q
  unfold sAsg at ef
  obtain ⟨o, e1, ef⟩ := Option.bind_eq_some_iff.mp ef
  obtain ⟨d, e2, ef⟩ := Option.bind_eq_some_iff.mp ef
  obtain ⟨env', e3, ef⟩ := Option.map_eq_some_iff.mp ef
  subst ef
  refine rF.use st e1 fun x R1 H1 fp s w n => ?_
  have eo : o = .dat d := by
    cases o <;> cases e2
    rfl
  subst eo
  unfold tgN at e3
  split at e3
  · rename_i hl
    cases e3
    exact k _ R1 H1 ((st.stp s).setD hl w.2) s.gr
  · cases e3
/-- name = e, e new, kept as the name's own -/
def sOwn (i : Nat) (f : Ex) : Sx := fun env => (f env).bind fun o => if i < env.length then some (.nx (env.set i (.own o))) else none
theorem own_use {K : PySem.W.Frag} {i : Nat} (Dn : Ends) (σ : L2.St) (H : Hp) (q : rS K (sOwn i f) Dn σ H) : tAsg (rF K f) (gName i) Dn σ H := by
  obtain ⟨F, R, env, out, st, ef, k⟩ := q
  unfold sOwn at ef
  obtain ⟨o, e1, ef⟩ := Option.bind_eq_some_iff.mp ef
  split at ef
  · rename_i hl
    cases ef
    exact rF.use st e1 fun x R1 H1 fp s w n => k _ R1 H1 (st.setO s hl w n) s.gr
  · cases ef
theorem psx_own {i : Nat} {x : Str} {pos' : Pos} (he : PF X e f) (hN : X.N.Nodup) (hi : X.N[i]? = some x := by rfl) (hx : Loc X.env.scope x := by first | exact .inl rfl | exact .inr rfl) (hs : swapsWith e (some (.Name x pos')) pos.line X.env = pure false := by rfl) (hf : X.fn x = true ∨ X.env.scope.names.lookup x = some .local := by first | exact .inl rfl | exact .inr rfl | assumption) :
    PSx X (.Assign [.Name x pos'] e pos) (sOwn i f) := PS.weak (ps_set hN hi hx he hs hf) own_use
theorem psx_set {i : Nat} {x : Str} {pos' : Pos} (he : PF X e f) (hN : X.N.Nodup) (hi : X.N[i]? = some x := by rfl) (hx : Loc X.env.scope x := by first | exact .inl rfl | exact .inr rfl) (hs : swapsWith e (some (.Name x pos')) pos.line X.env = pure false := by rfl) (hf : X.fn x = true ∨ X.env.scope.names.lookup x = some .local := by first | exact .inl rfl | exact .inr rfl | assumption) :
    PSx X (.Assign [.Name x pos'] e pos) (sAsg (tgN i) f) := psx_setLc (ps_set hN hi hx he hs hf)
theorem psx_ownLc {i : Nat} {y : Str} {py : Pos} {e : Expr} {f : Ex} (p : PS X (.Assign [.Name y py] e pos) (tAsg (rF X.K f) (gName i))) : PSx X (.Assign [.Name y py] e pos) (sOwn i f) := PS.weak p own_use
end
end TP

/-! Loop: what is walked, for, while, comprehensions; a def from its body's plain function. -/
namespace TP
open PySem PySem.Spec PyProof.Rows L2

abbrev Its' := En → Option (List D)
/-- the iterator J gives the data ds, whatever grows meanwhile -/
def Yld (F : Hp) (J : It) (R1 : Hp) (ds : List D) : Prop := ∀ R H, Gr R1 R → Sub R H → (∀ a o, F a = some o → H a = some o) → ∀ i,
  (∀ d, ds[i]? = some d → J.go i H ∧ ∀ x H', J.yld i H x H' → ∃ R', Stp R H R' H' ∧ Rp R' x d) ∧ (i = ds.length → J.stop i H)
def rIt (K : PySem.W.Frag) (it : Its') : TI := fun σ H R => ∃ F R0 env ds, StR K F σ R0 H env ∧ it env = some ds ∧ ∀ J R1 H1, Stp R0 H R1 H1 → Yld F J R1 ds → R J H1
abbrev PIx (X : Cx) (tg e : Expr) (it : Its') : Prop := PI X tg e (rIt X.K it)

section
variable {X : Cx} {tg e a b c : Expr} {es : List Expr} {pos : Pos} {f g h : Ex} {st : Stmt} {rest body : List Stmt} {u v : Sx} {K : PySem.W.Frag} {F R H : Hp}
theorem PI.orr {w w' : TI} (p : PI X tg e w) (p' : PI X tg e w') : PI X tg e (fun σ H R => w σ H R ∨ w' σ H R) := ⟨fun pins s σ H R I q => by
  rcases q with q | q
  · exact p.run pins s σ H R I q
  · exact p'.run pins s σ H R I q⟩

theorem at_none {α : Type} {l : List α} {i : Nat} (h : i = l.length) : l[i]? = none := List.getElem?_eq_none (by omega)
theorem yld_list {ad : Addr} {vs : List V} {ds : List D} {R1 : Hp} (hl : ∀ R H, Gr R1 R → Sub R H → (∀ a o, F a = some o → H a = some o) → SqL K H ad vs) (r : RpAll R1 vs ds) : Yld F (Itl K ad) R1 ds := by
  intro R H g s f i
  have hq := hl R H g s f
  refine ⟨fun d e => ?_, fun e => ⟨vs, hq, by rw [r.length]; omega⟩⟩
  obtain ⟨v, ev, rv⟩ := r.get e
  refine ⟨⟨vs, v, hq, ev⟩, fun x H' y => ?_⟩
  obtain ⟨rfl, y⟩ := y
  have ex : v = x := Option.some.inj (ev.symm.trans (y vs hq))
  subst ex
  exact ⟨R, Stp.refl s, rv.mono g⟩
theorem yld_tup {ad : Addr} {vs : List V} {ds : List D} {R1 : Hp} (hl : ∀ R H, Gr R1 R → Sub R H → (∀ a o, F a = some o → H a = some o) → SqT K H ad vs) (r : RpAll R1 vs ds) : Yld F (Itt K ad) R1 ds := by
  intro R H g s f i
  have hq := hl R H g s f
  refine ⟨fun d e => ?_, fun e => ⟨vs, hq, by rw [r.length]; omega⟩⟩
  obtain ⟨v, ev, rv⟩ := r.get e
  refine ⟨⟨vs, v, hq, ev⟩, fun x H' y => ?_⟩
  obtain ⟨rfl, y⟩ := y
  have ex : v = x := Option.some.inj (ev.symm.trans (y vs hq))
  subst ex
  exact ⟨R, Stp.refl s, rv.mono g⟩
theorem yld_enum {ad : Addr} {vs : List V} {ds : List D} {R1 : Hp} (hl : ∀ R H, Gr R1 R → Sub R H → (∀ a o, F a = some o → H a = some o) → SqL K H ad vs) (r : RpAll R1 vs ds) : Yld F (Ite K ad) R1 (ds.mapIdx fun i d => .tuple [.int i, d]) := by
  intro R H g s f i
  have hq := hl R H g s f
  refine ⟨fun d e => ?_, fun e => ⟨vs, hq, by rw [r.length]; rw [List.length_mapIdx] at e; omega⟩⟩
  rw [List.getElem?_mapIdx] at e
  obtain ⟨d0, e0, rfl⟩ := Option.map_eq_some_iff.mp e
  obtain ⟨v, ev, rv⟩ := r.get e0
  refine ⟨⟨vs, v, hq, ev⟩, fun x H' y => ?_⟩
  obtain ⟨T, x1, rfl, nT, rfl, y⟩ := y
  have ex : v = x1 := Option.some.inj (ev.symm.trans (y vs hq))
  subst ex
  have s2 : Stp R H (upd R T (.tup [.int (i : Nat), v])) (upd H T (.tup [.int (i : Nat), v])) := Stp.lay s nT
  exact ⟨_, s2, .tup (.mk (by rfl) upd_same) (.cons (.int _) (.cons (rv.mono (g.trans s2.gr)) .nil))⟩
theorem yld_range {n : Nat} {R1 : Hp} : Yld F (Itr 0 n) R1 ((List.range n).map fun i => .int (i : Nat)) := by
  intro R H g s f i
  refine ⟨fun d e => ?_, fun e => by rw [List.length_map, List.length_range] at e; exact Nat.le_of_eq e.symm⟩
  rw [List.getElem?_map] at e
  obtain ⟨j, ej, rfl⟩ := Option.map_eq_some_iff.mp e
  have hj : i < n := by
    obtain ⟨h1, _⟩ := List.getElem?_eq_some_iff.mp ej
    rwa [List.length_range] at h1
  rw [List.getElem?_range hj] at ej
  cases ej
  refine ⟨hj, fun x H' y => ?_⟩
  obtain ⟨rfl, rfl⟩ := y
  refine ⟨R, Stp.refl s, ?_⟩
  rw [Int.zero_add]
  exact .int _
theorem keyV_rp {R : Hp} (k : Key) : Rp R (kV k) (keyD k) := by
  cases k with
  | inl i => exact .int i
  | inr x => exact .str x
theorem keysV_rp {R : Hp} : ∀ ks : List Key, RpAll R (ks.map kV) (ks.map keyD)
  | [] => .nil
  | k :: ks => .cons (keyV_rp k) (keysV_rp ks)
theorem RpK.getK {R : Hp} : ∀ {ks : List (Key × V)} {ds : List (D × D)} {i : Nat} {p : D × D}, RpK R ks ds → ds[i]? = some p → ∃ k v, ks[i]? = some (k, v) ∧ p.1 = keyD k ∧ Rp R v p.2
  | _, _, _, _, .nil, e => by simp at e
  | _, _, 0, _, .cons r _, e => by simp at e; subst e; exact ⟨_, _, rfl, rfl, r⟩
  | _, _, i + 1, p, .cons _ t, e => by
    obtain ⟨k, v, h1, h2⟩ := t.getK (i := i) (p := p) (by simpa using e)
    exact ⟨k, v, by simpa using h1, h2⟩
theorem RpT.getK {R : Hp} : ∀ {ks : List (List Key × V)} {ds : List (D × D)} {i : Nat} {p : D × D}, RpT R ks ds → ds[i]? = some p → ∃ k v, ks[i]? = some (k, v) ∧ p.1 = .tuple (k.map keyD) ∧ Rp R v p.2
  | _, _, _, _, .nil, e => by simp at e
  | _, _, 0, _, .cons r _, e => by simp at e; subst e; exact ⟨_, _, rfl, rfl, r⟩
  | _, _, i + 1, p, .cons _ t, e => by
    obtain ⟨k, v, h1, h2⟩ := t.getK (i := i) (p := p) (by simpa using e)
    exact ⟨k, v, by simpa using h1, h2⟩
theorem RpK.length {R : Hp} : ∀ {ks : List (Key × V)} {ds : List (D × D)}, RpK R ks ds → ks.length = ds.length
  | _, _, .nil => rfl
  | _, _, .cons _ t => by rw [List.length_cons, List.length_cons, t.length]
theorem RpT.length {R : Hp} : ∀ {ks : List (List Key × V)} {ds : List (D × D)}, RpT R ks ds → ks.length = ds.length
  | _, _, .nil => rfl
  | _, _, .cons _ t => by rw [List.length_cons, List.length_cons, t.length]
theorem yld_keys {ad : Addr} {od : Obj} {ks : List (Key × V)} {kvs : List (D × D)} {R1 : Hp} (e1 : R1 ad = some (.frz od (.dK ks))) (r : RpK R1 ks kvs) : Yld F (Itk ad od ks) R1 (kvs.map (·.1)) := by
  intro R H g s f i
  have hq := s _ _ (g.frz e1)
  refine ⟨fun d e => ?_, fun e => ⟨hq, by rw [r.length]; rw [List.length_map] at e; omega⟩⟩
  rw [List.getElem?_map] at e
  obtain ⟨p, ep, rfl⟩ := Option.map_eq_some_iff.mp e
  obtain ⟨k, v, ek, e2, _⟩ := r.getK ep
  refine ⟨⟨hq, (List.getElem?_eq_some_iff.mp ek).1⟩, fun x H' y => ?_⟩
  obtain ⟨rfl, k', v', ek', rfl⟩ := y
  rw [ek] at ek'; cases ek'
  rw [e2]
  exact ⟨R, Stp.refl s, keyV_rp k⟩
theorem yld_keysT {ad : Addr} {od : Obj} {ks : List (List Key × V)} {kvs : List (D × D)} {R1 : Hp} (e1 : R1 ad = some (.frz od (.dT ks))) (r : RpT R1 ks kvs) : Yld F (Itkt ad od ks) R1 (kvs.map (·.1)) := by
  intro R H g s f i
  have hq := s _ _ (g.frz e1)
  refine ⟨fun d e => ?_, fun e => ⟨hq, by rw [r.length]; rw [List.length_map] at e; omega⟩⟩
  rw [List.getElem?_map] at e
  obtain ⟨p, ep, rfl⟩ := Option.map_eq_some_iff.mp e
  obtain ⟨k, v, ek, e2, _⟩ := r.getK ep
  refine ⟨⟨hq, (List.getElem?_eq_some_iff.mp ek).1⟩, fun x H' y => ?_⟩
  obtain ⟨rfl, k', v', q, ek', rfl, hqq⟩ := y
  rw [ek] at ek'; cases ek'
  rw [e2]
  exact ⟨_, Stp.adopt s hqq, .tup (.mk (nf_keys k) upd_same) (keysV_rp k)⟩

/-! ### what is walked -/
def itD : D → Option (List D)
  | .list ds => some ds
  | .tuple ds => some ds
  | .str x => some (x.cps.toList.map fun c => .str ⟨#[c]⟩)
  | _ => none
def itO : O → Option (List D)
  | .dat d => itD d
  | .lst xs => some xs
  | .scr ns => some (ns.map .int)
  | _ => none
def itE (f : Ex) : Its' := fun env => (f env).bind fun o => (asD o).bind itD
theorem yld_str {x : Str} {R1 : Hp} : Yld F (Its x) R1 (x.cps.toList.map fun c => .str ⟨#[c]⟩) := by
  intro R H g s f i
  refine ⟨fun d e => ?_, fun e => by rw [List.length_map, Array.length_toList] at e; exact Nat.le_of_eq e.symm⟩
  rw [List.getElem?_map] at e
  obtain ⟨c, ec, rfl⟩ := Option.map_eq_some_iff.mp e
  rw [Array.getElem?_toList] at ec
  refine ⟨(Array.getElem?_eq_some_iff.mp ec).1, fun y H' q => ?_⟩
  obtain ⟨rfl, c', ec', rfl⟩ := q
  rw [ec] at ec'; cases ec'
  exact ⟨R, Stp.refl s, .str _⟩
theorem pix_e (he : PF X e f) : PIx X tg e (itE f) := by
  refine PI.weak (PI.orr (pi_list he) (PI.orr (pi_tup he) (pi_str he))) fun σ H Rk q => ?_
  obtain ⟨F, R0, env, ds, st, ei, k⟩ := q
  unfold itE at ei
  obtain ⟨o, e1, ei⟩ := Option.bind_eq_some_iff.mp ei
  obtain ⟨d, e2, ei2⟩ := Option.bind_eq_some_iff.mp ei
  clear ei
  have ei : itD d = some ds := ei2
  clear ei2
  have eo : o = .dat d := by
    cases o <;> cases e2
    rfl
  subst eo
  unfold itD at ei
  split at ei
  · cases ei
    refine .inl (rF.use st e1 fun x R1 H1 fp s w n => ?_)
    obtain ⟨_, w⟩ := w
    cases w with
    | lst ea r =>
      rename_i ad vs
      exact ⟨ad, rfl, ⟨vs, .inl (.inl (s.sub _ _ ea))⟩, k _ R1 H1 s (yld_list (fun R H g hs _ => .inl (.inl (hs _ _ (g.lst ea)))) r)⟩
  · cases ei
    refine .inr (.inl (rF.use st e1 fun x R1 H1 fp s w n => ?_))
    obtain ⟨_, w⟩ := w
    cases w with
    | tup ea r =>
      rename_i ad vs
      exact ⟨ad, rfl, ⟨vs, .inl (ea.sub s.sub)⟩, k _ R1 H1 s (yld_tup (fun R H g hs _ => .inl ((ea.gr g).sub hs)) r)⟩
  · cases ei
    refine .inr (.inr (rF.use st e1 fun x R1 H1 fp s w n => ?_))
    obtain ⟨_, w⟩ := w
    cases w
    exact ⟨_, rfl, k _ R1 H1 s yld_str⟩
  · cases ei
/-- a parameter, a name that holds a datum -/
def itV (i : Nat) : Its' := fun env => match env[i]? with
  | some (.shr o) => itO o
  | _ => none
theorem ints_rp {R : Hp} : ∀ ns : List Int, RpAll R (ns.map V.int) (ns.map PyData.int)
  | [] => .nil
  | n :: ns => .cons (.int n) (ints_rp ns)
/-- a shared slot's list stays -/
theorem shr_list {σ : L2.St} {env : En} {i : Nat} {o : O} {ds : List D} (st : StR K F σ R H env) (hi : env[i]? = some (.shr o)) (ho : ∀ x, o ≠ .dat (.str x)) (hd : itO o = some ds) :
    ∃ v vs ad, σ[i]? = some (some v) ∧ v = .ref ad ∧ RpAll R vs ds ∧ ((∀ R' H', Gr R R' → Sub R' H' → (∀ a o, F a = some o → H' a = some o) → SqL K H' ad vs) ∨ ∀ R' H', Gr R R' → Sub R' H' → (∀ a o, F a = some o → H' a = some o) → SqT K H' ad vs) := by
  obtain ⟨fps, h1, _, _⟩ := st.sl
  obtain ⟨x, ex, _, v, fp', rfl, ow, hf⟩ := h1 i _ hi
  cases o with
  | dat d =>
    cases d with
    | list xs =>
      cases hd
      obtain ⟨_, w⟩ := ow
      cases w with
      | lst ea r => exact ⟨_, _, _, ex, rfl, r, .inl fun R' H' g s _ => .inl (.inl (s _ _ (g.lst ea)))⟩
    | tuple xs =>
      cases hd
      obtain ⟨_, w⟩ := ow
      cases w with
      | tup ea r => exact ⟨_, _, _, ex, rfl, r, .inr fun R' H' g s _ => .inl ((ea.gr g).sub s)⟩
    | str x => exact absurd rfl (ho x)
    | _ => cases hd
  | lst xs =>
    cases hd
    obtain ⟨ad, vs, rfl, rfl, ea, r⟩ := ow
    obtain ⟨⟨ob, eF⟩, _⟩ := hf ad List.mem_cons_self
    have e2 := st.fH _ _ eF
    rw [ea] at e2; cases e2
    exact ⟨_, vs, ad, ex, rfl, r, .inl fun R' H' g s f => .inl (.inl (f _ _ eF))⟩
  | scr ns =>
    cases hd
    obtain ⟨_, ad, rfl, q⟩ := ow
    refine ⟨_, _, ad, ex, rfl, ints_rp ns, .inl fun R' H' g s f => ?_⟩
    rcases sqL_gr g q with h | h
    · rcases h with h | ⟨o, h⟩
      · exact .inl (.inl (s _ _ h))
      · exact .inl (.inr ⟨o, s _ _ h⟩)
    · exact .inr h
  | _ => cases hd
theorem pix_v {i : Nat} {x : Str} (hN : X.N[i]? = some x := by rfl) (hv : Vis X.env.scope x := by first | exact Or.inl rfl | exact Or.inr (Or.inl rfl) | exact Or.inr (Or.inr rfl)) (hd : (x == ("__debug__" : Str)) = false := by decide)
    (hcd : (x == ("__classdict__" : Str)) = false := by decide) : PIx X tg (.Name x pos) (itV i) := by
  have he : PE X (.Name x pos) (tVar i) := pe_var hN hv hd hcd
  refine PI.weak (PI.orr (pi_list he) (PI.orr (pi_tup he) (pi_str he))) fun σ H Rk q => ?_
  obtain ⟨F, R0, env, ds, st, ei, k⟩ := q
  unfold itV at ei
  split at ei
  · rename_i o eo
    by_cases hs : ∃ x, o = .dat (.str x)
    · obtain ⟨x, rfl⟩ := hs
      cases ei
      obtain ⟨v, fp, ev, ow, n⟩ := st.get (.inl eo)
      obtain ⟨_, w⟩ := ow
      cases w
      exact .inr (.inr ⟨_, ev, x, rfl, k _ R0 H (Stp.refl st.rH) yld_str⟩)
    · obtain ⟨v, vs, ad, ev, rfl, r, hq⟩ := shr_list st eo (fun x z => hs ⟨x, z⟩) ei
      rcases hq with hq | hq
      · exact .inl ⟨_, ev, ad, rfl, ⟨vs, hq R0 H (Gr.refl R0) st.rH st.fH⟩, k _ R0 H (Stp.refl st.rH) (yld_list hq r)⟩
      · exact .inr (.inl ⟨_, ev, ad, rfl, ⟨vs, hq R0 H (Gr.refl R0) st.rH st.fH⟩, k _ R0 H (Stp.refl st.rH) (yld_tup hq r)⟩)
  · cases ei
def itR (f : Ex) : Its' := fun env => (f env).bind fun o => match o with
  | .dat (.int n) => if decide (-100000000 ≤ n ∧ n ≤ 100000000) = true then some ((List.range n.toNat).map fun i => .int (i : Nat)) else none
  | _ => none
theorem pix_range {p : Pos} (hg : Gl X "range") (hm : X.mg "range" = none) (ha : PX X a f) (hs : starEach [a] X.env = [(false, eval a X.env)] := by rfl) : PIx X tg (.Call (.Name "range" p) [a] [] pos) (itR f) := by
  refine PI.weak (pi_range1 hg hm (pa_cons ha pa_nil (by rw [hs]; rfl)) hs) fun σ H Rk q => ?_
  obtain ⟨F, R0, env, ds, st, ei, k⟩ := q
  unfold itR at ei
  obtain ⟨o, e1, ei⟩ := Option.bind_eq_some_iff.mp ei
  split at ei
  · rename_i n
    split at ei
    · rename_i hn
      cases ei
      have hn := of_decide_eq_true hn
      refine rX.use st e1 fun x R1 H1 fp s w nn => ?_
      obtain ⟨_, w⟩ := w
      cases w
      exact ⟨n, rfl, by omega, by omega, k _ R1 H1 s yld_range⟩
    · cases ei
  · cases ei
def itEn (i : Nat) : Its' := fun env => match env[i]? with
  | some (.shr (.lst xs)) => some (xs.mapIdx fun i d => .tuple [.int i, d])
  | some (.shr (.dat (.list xs))) => some (xs.mapIdx fun i d => .tuple [.int i, d])
  | _ => none
theorem pix_enum {i kk : Nat} {x : Str} {elts : List Expr} {tpos p pos' : Pos} (hg : Gl X "enumerate") (hm : X.mg "enumerate" = none) (hN : X.N[i]? = some x := by rfl) (hv : Vis X.env.scope x := by first | exact Or.inl rfl | exact Or.inr (Or.inl rfl) | exact Or.inr (Or.inr rfl)) (hd : (x == ("__debug__" : Str)) = false := by decide)
    (hcd : (x == ("__classdict__" : Str)) = false := by decide) : PIx X (.Tuple elts kk tpos) (.Call (.Name "enumerate" p) [.Name x pos'] [] pos) (itEn i) := by
  refine PI.weak (pi_enum hg hm (pa_cons (pe_var hN hv hd hcd) pa_nil)) fun σ H Rk q => ?_
  obtain ⟨F, R0, env, ds, st, ei, k⟩ := q
  unfold itEn at ei
  split at ei
  · rename_i xs eo
    cases ei
    obtain ⟨v, vs, ad, ev, rfl, r, hq⟩ := shr_list (ds := xs) st eo (fun x z => by cases z) rfl
    rcases hq with hq | hq
    · exact ⟨_, ev, ad, vs, rfl, hq R0 H (Gr.refl R0) st.rH st.fH, k _ R0 H (Stp.refl st.rH) (yld_enum hq r)⟩
    · obtain ⟨v2, fp2, ev2, ow, _⟩ := st.get (.inl eo)
      rw [ev] at ev2; cases ev2
      obtain ⟨ad2, vs2, e2, _, ea, r2⟩ := ow
      cases e2
      obtain ⟨fps, h1, _, _⟩ := st.sl
      obtain ⟨y, ey, _, v3, fp3, rfl, ow3, hf⟩ := h1 i _ eo
      rw [ev] at ey; cases ey
      obtain ⟨ad3, vs3, e3, rfl, ea3, r3⟩ := ow3
      cases e3
      obtain ⟨⟨ob, eF⟩, _⟩ := hf ad List.mem_cons_self
      have e2 := st.fH _ _ eF
      rw [ea3] at e2; cases e2
      exact ⟨_, ev, ad, vs3, rfl, .inl (.inl ea3), k _ R0 H (Stp.refl st.rH) (yld_enum (fun R' H' g s f => .inl (.inl (f _ _ eF))) r3)⟩
  · rename_i xs eo
    cases ei
    obtain ⟨v, fp, ev, ow, n⟩ := st.get (.inl eo)
    obtain ⟨_, w⟩ := ow
    cases w with
    | lst ea r =>
      rename_i ad vs
      exact ⟨_, ev, ad, vs, rfl, .inl (.inl (st.rH _ _ ea)), k _ R0 H (Stp.refl st.rH) (yld_enum (fun R' H' g s f => .inl (.inl (s _ _ (g.lst ea)))) r)⟩
  · cases ei
/-- the dict that e gives is locked for good -/
theorem pe_thenLock {t : TE} (p : PE X e t) : PE X e (fun σ H Q => t σ H fun x H1 => (∃ d u, x = .ref d ∧ H1 d = some u ∧ Mut (some u) ∧ ∀ od, Q x (upd H1 d (.frz od u))) ∨ Q x H1) := by
  refine ⟨fun pins s σ H Q I h => thn (p.run pins s σ H _ I h) fun v s1 ⟨x, H1, I1, r1, q1⟩ => ?_⟩
  rcases q1 with ⟨d, u, rfl, hd, mu, q⟩ | q
  · obtain ⟨od, I2⟩ := I1.lock hd mu
    exact ⟨_, _, I2, r1, q od⟩
  · exact ⟨x, H1, I1, r1, q⟩
theorem Stp.lockD {R H : Hp} {p : Addr} {u : HO} {od : Obj} (h : Sub R H) (e : R p = some u) (d : isDic u = true) : Stp R H (upd R p (.frz od u)) (upd H p (.frz od u)) := by
  refine ⟨fun a o k => ?_, fun a o k => ?_, fun a o k n => ⟨?_, .inl ?_⟩⟩
  · by_cases ha : a = p
    · subst ha; rw [upd_same] at k ⊢; exact k
    · rw [upd_ne ha] at k ⊢; exact h a o k
  · by_cases ha : a = p
    · subst ha
      rw [e] at k; cases k
      exact .inr ⟨d, od, upd_same⟩
    · rw [upd_ne ha]; exact .inl k
  · have ha : a ≠ p := fun z => by subst z; rw [e] at n; cases n
    rw [upd_ne ha]; exact k
  · have ha : a ≠ p := fun z => by subst z; rw [e] at n; cases n
    rw [upd_ne ha]; exact n
def keysD : List (D × D) → List D
  | (.none, _) :: r => r.map (·.1)
  | l => l.map (·.1)
theorem keysD_K {R : Hp} {ks : List (Key × V)} {kvs : List (D × D)} (r : RpK R ks kvs) : keysD kvs = kvs.map (·.1) := by
  cases r with
  | nil => rfl
  | cons h t =>
    rename_i k v ks' dd ds'
    cases k <;> rfl
def itKeys (f : Ex) : Its' := fun env => (f env).bind fun o => match o with
  | .dat (.dict kvs) => some (keysD kvs)
  | _ => none
theorem pix_keys (he : PF X e f) : PIx X tg e (itKeys f) := by
  refine PI.weak (pi_keys (pe_thenLock he)) fun σ H Rk q => ?_
  obtain ⟨F, R0, env, ds, st, ei, k⟩ := q
  obtain ⟨o, e1, ei⟩ := Option.bind_eq_some_iff.mp ei
  split at ei
  · cases ei
    refine rF.use st e1 fun x R1 H1 fp s w n => ?_
    obtain ⟨_, w⟩ := w
    cases w with
    | dk ea r =>
      rename_i ad ks
      rcases ea with ea | ⟨od, ea⟩
      · refine .inl ⟨ad, _, rfl, s.sub _ _ ea, trivial, fun od => ?_⟩
        have s2 : Stp R1 H1 (upd R1 ad (.frz od (.dK ks))) (upd H1 ad (.frz od (.dK ks))) := Stp.lockD s.sub ea rfl
        exact ⟨ad, od, rfl, .inl ⟨ks, upd_same, k _ _ _ (s.trans s2) (by rw [keysD_K r]; exact yld_keys upd_same (r.mono s2.gr))⟩⟩
      · exact .inr ⟨ad, od, rfl, .inl ⟨ks, s.sub _ _ ea, k _ _ _ s (by rw [keysD_K r]; exact yld_keys ea r)⟩⟩
    | dt ea r =>
      rename_i ad ks ds'
      rcases ea with ea | ⟨od, ea⟩
      · refine .inl ⟨ad, _, rfl, s.sub _ _ ea, trivial, fun od => ?_⟩
        have s2 : Stp R1 H1 (upd R1 ad (.frz od (.dT ks))) (upd H1 ad (.frz od (.dT ks))) := Stp.lockD s.sub ea rfl
        exact ⟨ad, od, rfl, .inr ⟨ks, upd_same, k _ _ _ (s.trans s2) (yld_keysT upd_same (r.mono s2.gr))⟩⟩
      · exact .inr ⟨ad, od, rfl, .inr ⟨ks, s.sub _ _ ea, k _ _ _ s (yld_keysT ea r)⟩⟩
  · cases ei

/-! ### for -/
def forL (tg : Tg) (body : Sx) : List D → Sx
  | [], env => some (.nx env)
  | d :: ds, env => (tg d env).bind fun env1 => (body env1).bind fun out => match out with
    | .nx env2 => forL tg body ds env2
    | .ct env2 => forL tg body ds env2
    | .bk env2 => some (.nx env2)
    | .rt o => some (.rt o)
def sFor (tg : Tg) (it : Its') (body : Sx) : Sx := fun env => (it env).bind fun ds => forL tg body ds env
theorem drop_get {α : Type} {l : List α} {i : Nat} {x : α} (h : l[i]? = some x) : l.drop i = x :: l.drop (i + 1) := by
  obtain ⟨hi, e⟩ := List.getElem?_eq_some_iff.mp h
  rw [List.drop_eq_getElem_cons hi, e]
theorem psx_for {sl : List Nat} {tgt : Tg} {it : Its'} (hp : PassesOwn (model X.prog X.w) X.A X.env X.xe := by exact PassesOwn.never) (hc : X.calm = true := by rfl) (hi : PIx X tg e it) (hg : PG X tg (rG X.K sl tgt)) (hb : PSSx X body u)
    (hs : ∀ x, foldedSetIterable e X.env x = pure x := by intro _; rfl) : PSx X (.For tg e body [] pos) (sFor tgt it u) := by
  refine PS.weak (ps_for hp hc hi hg hb hs) fun Dn σ H q => ?_
  obtain ⟨F, R, env, out, st, ef, k⟩ := q
  unfold sFor at ef
  obtain ⟨ds, e1, ef⟩ := Option.bind_eq_some_iff.mp ef
  refine ⟨F, R, env, ds, st, e1, fun J R1 H1 s1 y => ?_⟩
  refine ⟨fun i m σ' H' => i + m = ds.length ∧ ∃ R' env', StR X.K F σ' R' H' env' ∧ Gr R1 R' ∧ forL tgt u (ds.drop i) env' = some out, ⟨ds.length, by omega, R1, env, st.stp s1, Gr.refl R1, ef⟩, ?_⟩
  rintro i m σ' H' ⟨hm, R', env', st', g', ef'⟩
  have hy := y R' H' g' st'.rH st'.fH i
  by_cases hi' : i < ds.length
  · have hd : ds[i]? = some ds[i] := List.getElem?_eq_getElem hi'
    rw [drop_get hd] at ef'
    obtain ⟨env1, et, ef'⟩ := Option.bind_eq_some_iff.mp ef'
    obtain ⟨o1, eb, ef'⟩ := Option.bind_eq_some_iff.mp ef'
    obtain ⟨hgo, hyl⟩ := hy.1 _ hd
    refine .inr ⟨hgo, fun σ2 H2 => ∃ R2 env2, StR X.K F σ2 R2 H2 env2 ∧ Gr R1 R2 ∧ forL tgt u (ds.drop (i + 1)) env2 = some out, fun σ2 H2 ⟨R2, env2, st2, g2, ef2⟩ => ⟨m - 1, by omega, by omega, R2, env2, st2, g2, ef2⟩, fun x H2 yx => ?_⟩
    obtain ⟨R2, s2, rx⟩ := hyl x H2 yx
    refine ⟨F, R2, env', ds[i], env1, st'.stp s2, rx, et, fun σ3 st3 _ _ => ?_⟩
    refine ⟨F, R2, env1, o1, st3, eb, ?_⟩
    cases o1 with
    | nx env2 => exact fun σ4 R4 H4 st4 g4 => ⟨R4, env2, st4, (g'.trans s2.gr).trans g4, ef'⟩
    | ct env2 => exact fun σ4 R4 H4 st4 g4 => ⟨R4, env2, st4, (g'.trans s2.gr).trans g4, ef'⟩
    | bk env2 =>
      cases ef'
      exact fun σ4 R4 H4 st4 g4 => k σ4 R4 H4 st4 (((s1.gr.trans g').trans s2.gr).trans g4)
    | rt o =>
      cases ef'
      exact fun x R4 H4 fp h1 h2 h3 g4 => k x R4 H4 fp h1 h2 h3 (((s1.gr.trans g').trans s2.gr).trans g4)
  · have hil : i = ds.length := by omega
    refine .inl ⟨hy.2 hil, ?_⟩
    rw [hil, List.drop_length] at ef'
    cases ef'
    exact k σ' R' H' st' (s1.gr.trans g')

/-! ### while -/
def whileL (c : Ex) (body : Sx) : Nat → Sx
  | 0, _ => none
  | n + 1, env => (c env).bind fun x => match x with
    | .dat (.bool true) => (body env).bind fun out => match out with
      | .nx env2 => whileL c body n env2
      | .ct env2 => whileL c body n env2
      | .bk env2 => some (.nx env2)
      | .rt o => some (.rt o)
    | .dat (.bool false) => some (.nx env)
    | _ => none
def fuel : Nat := 1000000
def sWhile (c : Ex) (body : Sx) : Sx := fun env => whileL c body fuel env
theorem psx_while {c : Expr} {c' : Ex} (hp : PassesOwn (model X.prog X.w) X.A X.env X.xe := by exact PassesOwn.never) (hc : PC' X c c') (hb : PSSx X body u) : PSx X (.While c body [] pos) (sWhile c' u) := by
  refine PS.weak (ps_while hp hc hb) fun Dn σ H q => ?_
  obtain ⟨F, R, env, out, st, ef, k⟩ := q
  unfold sWhile at ef
  refine ⟨fun m σ' H' => ∃ R' env', StR X.K F σ' R' H' env' ∧ Gr R R' ∧ whileL c' u m env' = some out, ⟨fuel, R, env, st, Gr.refl R, ef⟩, ?_⟩
  rintro m σ' H' ⟨R', env', st', g', ef'⟩
  cases m with
  | zero => cases ef'
  | succ m =>
    obtain ⟨o1, ec, ef'⟩ := Option.bind_eq_some_iff.mp ef'
    split at ef'
    · refine rT.use st' ec fun R1 H1 s1 => ?_
      rw [if_pos rfl]
      obtain ⟨o2, eb, ef'⟩ := Option.bind_eq_some_iff.mp ef'
      refine ⟨fun σ2 H2 => ∃ R2 env2, StR X.K F σ2 R2 H2 env2 ∧ Gr R R2 ∧ whileL c' u m env2 = some out, fun σ2 H2 h => ⟨m, Nat.lt_succ_self m, h⟩, F, R1, env', o2, st'.stp s1, eb, ?_⟩
      cases o2 with
      | nx env2 => exact fun σ4 R4 H4 st4 g4 => ⟨R4, env2, st4, (g'.trans s1.gr).trans g4, ef'⟩
      | ct env2 => exact fun σ4 R4 H4 st4 g4 => ⟨R4, env2, st4, (g'.trans s1.gr).trans g4, ef'⟩
      | bk env2 =>
        cases ef'
        exact fun σ4 R4 H4 st4 g4 => k σ4 R4 H4 st4 ((g'.trans s1.gr).trans g4)
      | rt o =>
        cases ef'
        exact fun x R4 H4 fp h1 h2 h3 g4 => k x R4 H4 fp h1 h2 h3 ((g'.trans s1.gr).trans g4)
    · cases ef'
      refine rT.use st' ec fun R1 H1 s1 => ?_
      rw [if_neg Bool.false_ne_true]
      exact k σ' R1 H1 (st'.stp s1) (g'.trans s1.gr)
    · cases ef'

/-! ### comprehensions -/
def wipeE (env : En) : List Nat → En
  | [] => env
  | v :: vs => (wipeE env vs).set v .un
theorem wipeE_length (env : En) : ∀ vs : List Nat, (wipeE env vs).length = env.length
  | [] => rfl
  | v :: vs => by unfold wipeE; rw [List.length_set, wipeE_length env vs]
theorem StR.wipe {σ : L2.St} {env : En} (h : StR K F σ R H env) : ∀ vs : List Nat, StR K F (wipe σ vs) R H (wipeE env vs)
  | [] => h
  | v :: vs => by
    have ih := h.wipe vs
    unfold L2.wipe wipeE
    by_cases hv : v < (wipeE env vs).length
    · exact ih.setU hv
    · rw [List.set_eq_of_length_le (by rw [ih.len]; omega), List.set_eq_of_length_le (by omega)]
      exact ih
theorem wipe_agree {σ σ' : L2.St} : ∀ {vs : List Nat}, σ'.length = σ.length → (∀ j, j ∉ vs → σ'[j]? = σ[j]?) → wipe σ' vs = wipe σ vs := by
  intro vs hl h
  have all : ∀ (vs : List Nat) (τ : L2.St), τ.length = σ.length → ∀ j, (wipe τ vs)[j]? = if j ∈ vs ∧ j < σ.length then some none else τ[j]? := by
    intro vs
    induction vs with
    | nil => intro τ _ j; rw [if_neg (fun z => by cases z.1)]; rfl
    | cons v vs ih =>
      intro τ ht j
      unfold L2.wipe
      by_cases hj : v = j
      · subst hj
        by_cases hlt : v < σ.length
        · rw [if_pos ⟨List.mem_cons_self, hlt⟩, List.getElem?_set_self (by rw [wipe_length, ht]; exact hlt)]
        · rw [if_neg (fun z => hlt z.2), List.getElem?_eq_none (by rw [List.length_set, wipe_length, ht]; omega), List.getElem?_eq_none (by omega)]
      · rw [List.getElem?_set_ne hj, ih τ ht j]
        by_cases hm : j ∈ vs
        · by_cases hlt : j < σ.length
          · rw [if_pos ⟨hm, hlt⟩, if_pos ⟨List.mem_cons_of_mem _ hm, hlt⟩]
          · rw [if_neg (fun z => hlt z.2), if_neg (fun z => hlt z.2)]
        · rw [if_neg (fun z => hm z.1), if_neg (fun z => by
            rcases List.mem_cons.mp z.1 with e | e
            · exact hj e.symm
            · exact hm e)]
  refine List.ext_getElem? fun j => ?_
  rw [all vs σ' hl j, all vs σ rfl j]
  by_cases hm : j ∈ vs
  · by_cases hlt : j < σ.length
    · rw [if_pos ⟨hm, hlt⟩, if_pos ⟨hm, hlt⟩]
    · rw [if_neg (fun z => hlt z.2), if_neg (fun z => hlt z.2), List.getElem?_eq_none (by omega), List.getElem?_eq_none (by omega)]
  · rw [if_neg (fun z => hm z.1), if_neg (fun z => hm z.1), h j hm]
theorem wipe_wipe (σ : L2.St) (vs : List Nat) : wipe (wipe σ vs) vs = wipe σ vs := by
  refine wipe_agree (wipe_length σ vs) fun j hj => ?_
  have all : ∀ (vs : List Nat), j ∉ vs → (wipe σ vs)[j]? = σ[j]? := by
    intro vs
    induction vs with
    | nil => intro _; rfl
    | cons v vs ih =>
      intro h
      unfold L2.wipe
      rw [List.getElem?_set_ne (fun z => h (by rw [z]; exact List.mem_cons_self))]
      exact ih fun z => h (List.mem_cons_of_mem _ z)
  exact all vs hj
def lcL (tg : Tg) (c : Ex) (f : Ex) (env : En) : List D → Option (List D)
  | [] => some []
  | d :: ds => (tg d env).bind fun env1 => (c env1).bind fun x => match x with
    | .dat (.bool true) => (f env1).bind fun o => (asD o).bind fun y => (lcL tg c f env ds).map fun r => y :: r
    | .dat (.bool false) => lcL tg c f env ds
    | _ => none
def eLc (it : Its') (tg : Tg) (vs : List Nat) (c : Ex) (f : Ex) : Ex := fun env => (it env).bind fun ds => if small ds.length = true then (lcL tg c f (wipeE env vs) ds).map .lst else none
def eYes : Ex := eC (.bool true)
theorem lc_use {it : Its'} {tgt : Tg} {sl vs : List Nat} {c f : Ex} (hsub : ∀ j ∈ sl, j ∈ vs) (σ : L2.St) (H : Hp) (Q : VK) (q : rF K (eLc it tgt vs c f) σ H Q) : tLc (rIt K it) (rG K sl tgt) (rT K c) (rF K f) vs σ H Q := by
  obtain ⟨F, R, env, o, st, ef, k⟩ := q
  unfold eLc at ef
  obtain ⟨ds, e1, ef⟩ := Option.bind_eq_some_iff.mp ef
  split at ef
  · rename_i sm
    obtain ⟨rs, e2, ef⟩ := Option.map_eq_some_iff.mp ef
    subst ef
    refine ⟨F, R, env, ds, st, e1, fun J R1 H1 s1 y Dd nD => ?_⟩
    have st1 := st.stp s1
    have nR1 : R1 Dd = none := s1.sub.none nD
    refine ⟨fun i m H' => i + m = ds.length ∧ ∃ R' acc pre, Stp R1 H1 R' H' ∧ H' Dd = some (.lst acc) ∧ R' Dd = none ∧ RpAll R' acc pre ∧ acc.length ≤ i ∧ ∃ post, lcL tgt c f (wipeE env vs) (ds.drop i) = some post ∧ rs = pre ++ post,
      ⟨ds.length, by omega, R1, [], [], Stp.lay' s1.sub nD, upd_same, nR1, .nil, Nat.le_refl _, rs, e2, rfl⟩, ?_⟩
    rintro i m H' ⟨hm, R', acc, pre, s', eD, nR', racc, hacc, post, epost, ers⟩
    have st' := st1.stp s'
    have hy := y R' H' s'.gr s'.sub st'.fH i
    by_cases hi' : i < ds.length
    · have hd : ds[i]? = some ds[i] := List.getElem?_eq_getElem hi'
      rw [drop_get hd] at epost
      obtain ⟨env1, et, epost⟩ := Option.bind_eq_some_iff.mp epost
      obtain ⟨x0, ec, epost⟩ := Option.bind_eq_some_iff.mp epost
      obtain ⟨hgo, hyl⟩ := hy.1 _ hd
      have hle : acc.length < sizeLine := Nat.lt_of_le_of_lt hacc (Nat.lt_of_lt_of_le hi' (small_le sm))
      refine .inr ⟨hgo, fun H2 => ∃ R' acc pre, Stp R1 H1 R' H2 ∧ H2 Dd = some (.lst acc) ∧ R' Dd = none ∧ RpAll R' acc pre ∧ acc.length ≤ i + 1 ∧ ∃ post, lcL tgt c f (wipeE env vs) (ds.drop (i + 1)) = some post ∧ rs = pre ++ post, fun H2 h => ⟨m - 1, by omega, by omega, h⟩, fun x H2 yx => ?_⟩
      obtain ⟨R2, s2, rx⟩ := hyl x H2 yx
      have out2 := s2.out Dd _ eD nR'
      have nR2 : R2 Dd = none := out2.2.resolve_right Bool.false_ne_true
      have st2 : StR K F (wipe σ vs) R2 H2 (wipeE env vs) := (st'.stp s2).wipe vs
      refine ⟨F, R2, wipeE env vs, ds[i], env1, st2, rx, et, fun σ3 st3 hl3 ha3 => ⟨?_, ?_⟩⟩
      · rw [← wipe_wipe σ vs]
        exact wipe_agree (hl3.trans (by rw [wipe_length])) fun j hj => ha3 j fun z => hj (hsub j z)
      split at epost
      · obtain ⟨o1, eo1, epost⟩ := Option.bind_eq_some_iff.mp epost
        obtain ⟨y1, ey1, epost⟩ := Option.bind_eq_some_iff.mp epost
        obtain ⟨r1, er1, epost⟩ := Option.map_eq_some_iff.mp epost
        subst epost
        have eo : o1 = .dat y1 := by
          cases o1 <;> cases ey1
          rfl
        subst eo
        refine rT.use st3 ec fun R4 H4 s4 => ?_
        rw [if_pos rfl]
        have out4 := s4.out Dd _ out2.1 nR2
        have nR4 : R4 Dd = none := out4.2.resolve_right Bool.false_ne_true
        refine rF.use (st3.stp s4) eo1 fun z R5 H5 fp s5 w n => ?_
        have out5 := s5.out Dd _ out4.1 nR4
        have nR5 : R5 Dd = none := out5.2.resolve_right Bool.false_ne_true
        have s15 : Stp R1 H1 R5 H5 := ((s'.trans s2).trans s4).trans s5
        refine ⟨acc, out5.1, hle, R5, acc ++ [z], pre ++ [y1], ?_, upd_same, nR5, ?_, by rw [List.length_append, List.length_singleton]; omega, r1, er1, by rw [ers, List.append_assoc]; rfl⟩
        · refine ⟨fun a u e => ?_, s15.gr, fun a u e m => ?_⟩
          · have ha : a ≠ Dd := fun z => by subst z; rw [nR5] at e; cases e
            rw [upd_ne ha]; exact s15.sub a u e
          · have ha : a ≠ Dd := fun z => by subst z; rw [nD] at e; cases e
            rw [upd_ne ha]; exact s15.out a u e m
        · exact (racc.mono ((s2.gr.trans s4.gr).trans s5.gr)).append (.cons w.2 .nil)
      · refine rT.use st3 ec fun R4 H4 s4 => ?_
        rw [if_neg Bool.false_ne_true]
        have out4 := s4.out Dd _ out2.1 nR2
        exact ⟨R4, acc, pre, (s'.trans s2).trans s4, out4.1, out4.2.resolve_right Bool.false_ne_true, racc.mono (s2.gr.trans s4.gr), by omega, post, epost, ers⟩
      · cases epost
    · have hil : i = ds.length := by omega
      refine .inl ⟨hy.2 hil, ?_⟩
      rw [hil, List.drop_length] at epost
      cases epost
      rw [List.append_nil] at ers
      subst ers
      refine k (.ref Dd) R' H' [Dd] (s1.trans s') ⟨Dd, acc, rfl, rfl, eD, racc⟩ fun a ma => ?_
      rw [List.mem_singleton.mp ma]
      exact ⟨nR', s1.none st.rH nD⟩
  · cases ef
theorem ptx_nil : PTs X [] (rT X.K eYes) := ⟨fun pins s σ H Q I q => (pts_nil (X := X)).run pins s σ H Q I (by
  obtain ⟨F, R, env, b, st, ef, k⟩ := q
  cases ef
  exact k R H (Stp.refl st.rH))⟩
theorem ptx_one {c : Expr} {c' : Ex} (h : PC' X c c') : PTs X [c] (rT X.K c') := pts_one h
theorem pf_lc {elt iter : Expr} {ifs : List Expr} {scope : Scope} {own : List (Str × Nat)} {it : Its'} {tgt : Tg} {sl : List Nat} {c : Ex} (hc : X.calm = true := by rfl) (hN : X.N.Nodup) (hi : PIx X tg iter it) (ok : BlkOk X.N X.env.scope scope own)
    (hg : ∀ (s : Shared) (H : Hp) (C : Addr) (cl : List (Str × Addr)) (fp : List Addr), PG (X.blk s H scope (compEnvC scope cl C X.env) fp) tg (rG X.K sl tgt)) (ht : ∀ (s : Shared) (H : Hp) (C : Addr) (cl : List (Str × Addr)) (fp : List Addr), PTs (X.blk s H scope (compEnvC scope cl C X.env) fp) ifs (rT X.K c))
    (he : ∀ (s : Shared) (H : Hp) (C : Addr) (cl : List (Str × Addr)) (fp : List Addr), PE (X.blk s H scope (compEnvC scope cl C X.env) fp) elt (rF X.K f)) (hsub : ∀ j ∈ sl, j ∈ own.map (·.2) := by decide) (hs : ∀ x, foldedSetIterable iter X.env x = pure x := by intro _; rfl) :
    PF X (.ListComp elt [⟨tg, iter, ifs, 0⟩] scope pos) (eLc it tgt (own.map (·.2)) c f) := PE.weak (pe_lc hc hN hi ok hg ht he hs) (lc_use hsub)
theorem ps_lcSet {elt iter : Expr} {ifs : List Expr} {scope : Scope} {own : List (Str × Nat)} {it : Its'} {tgt : Tg} {sl : List Nat} {c : Ex} {i : Nat} {y : Str} {py spos : Pos} (hc : X.calm = true := by rfl) (hN : X.N.Nodup) (hy : X.N[i]? = some y := by rfl) (hyl : X.env.scope.names.lookup y = some .local := by rfl)
    (hsw : swapsWith (.ListComp elt [⟨tg, iter, ifs, 0⟩] scope pos) (some (.Name y py)) spos.line X.env = pure true) (hi : PIx X tg iter it) (ok : BlkOk X.N X.env.scope scope own)
    (hg : ∀ (s : Shared) (H : Hp) (C : Addr) (cl : List (Str × Addr)) (fp : List Addr), PG (X.blk s H scope (compEnvC scope cl C X.env) fp) tg (rG X.K sl tgt)) (ht : ∀ (s : Shared) (H : Hp) (C : Addr) (cl : List (Str × Addr)) (fp : List Addr), PTs (X.blk s H scope (compEnvC scope cl C X.env) fp) ifs (rT X.K c))
    (he : ∀ (s : Shared) (H : Hp) (C : Addr) (cl : List (Str × Addr)) (fp : List Addr), PE (X.blk s H scope (compEnvC scope cl C X.env) fp) elt (rF X.K f)) (hsub : ∀ j ∈ sl, j ∈ own.map (·.2) := by decide) (hs : ∀ x, foldedSetIterable iter X.env x = pure x := by intro _; rfl) :
    PS X (.Assign [.Name y py] (.ListComp elt [⟨tg, iter, ifs, 0⟩] scope pos) spos) (tAsg (rF X.K (eLc it tgt (own.map (·.2)) c f)) (gName i)) := by
  refine PS.weak (ps_setLc hc hN hy hyl hsw hi ok hg ht he hs) fun Dn σ H q => ?_
  exact lc_use hsub σ H _ q
/-- the same, frozen -/
theorem ps_lcFrz {e : Expr} {i : Nat} {y : Str} {py spos : Pos} (p : PS X (.Assign [.Name y py] e spos) (tAsg (rF X.K f) (gName i))) : PS X (.Assign [.Name y py] e spos) (tAsg (rF X.K (eFrz f)) (gName i)) := by
  refine PS.weak p fun Dn σ H q => ?_
  obtain ⟨F, R, env, o, st, ef, k⟩ := q
  unfold eFrz at ef
  obtain ⟨o1, e1, ef⟩ := Option.bind_eq_some_iff.mp ef
  obtain ⟨d, ed, ef⟩ := Option.map_eq_some_iff.mp ef
  subst ef
  refine rF.use st e1 fun x R1 H1 fp s w n => ?_
  have nR : ∀ a ∈ fp, R1 a = none := fun a m => (n a m).1
  have fresh : ∀ a ∈ fp, ∀ u, H a ≠ some u := fun a m u e => by rw [(n a m).2] at e; cases e
  refine k x (mrg R1 H1 fp) H1 [] ⟨mrg_sub s.sub, s.gr.trans (mrg_gr nR), fun a u e m => ?_⟩ ⟨rfl, w.frz nR ed⟩ fun a m => by cases m
  obtain ⟨h1, h2⟩ := s.out a u e m
  refine ⟨h1, ?_⟩
  unfold mrg
  rw [if_neg (fun z => fresh a z u e)]
  exact h2
end

/-! ### a def -/
/-- its slots at the entry -/
def env0 (n : Nat) (os : List O) : En := os.map .shr ++ List.replicate (n - os.length) .un
def endsAs (out : Out) (o : O) : Prop := out = .rt o ∨ (o = .dat .none ∧ ∃ env, out = .nx env)
section
variable {P : Program} {w : World} {K : PySem.W.Frag} {mg : Str → Option Value} {base : Heap}
theorem start_str {N : List Str} {R H : Hp} {vs : List V} {os : List O} (hs : Sub R H) (ws : OwL K R H vs os) : StR K (fun a => if (R a).isSome then none else H a) (L2.start N vs) R H (env0 N.length os) := by
  have hl := ws.length
  refine ⟨?_, fun a o e => ?_, hs, fun a o e => .inl ?_, fun _ => [], fun i l e => ?_, fun _ _ => rfl, fun _ _ _ _ m => by cases m⟩
  · unfold L2.start env0
    rw [List.length_append, List.length_append, List.length_map, List.length_map, List.length_replicate, List.length_replicate, hl]
  · split at e
    · cases e
    · exact e
  · split at e
    · cases e
    · rename_i h
      cases q : R a with
      | none => rfl
      | some u => rw [q] at h; exact absurd rfl h
  · unfold env0 at e
    unfold L2.start
    by_cases hi : i < os.length
    · rw [List.getElem?_append_left (by simpa using hi), List.getElem?_map, List.getElem?_eq_getElem hi] at e
      cases e
      have all : ∀ {vs : List V} {os : List O} (i : Nat) (hi : i < os.length), OwL K R H vs os → ∃ v, vs[i]? = some v ∧ ∃ fp, Ow K R H v os[i] fp ∧ ∀ a ∈ fp, R a = none := by
        intro vs os i hi q
        induction q generalizing i with
        | nil => cases hi
        | cons h t ih =>
          cases i with
          | zero => exact ⟨_, rfl, h⟩
          | succ i =>
            obtain ⟨v, e, r⟩ := ih i (by simpa using hi)
            exact ⟨v, by simpa using e, by simpa using r⟩
      obtain ⟨v, ev, fp, ow, n⟩ := all i hi ws
      refine ⟨some v, ?_, rfl, v, fp, rfl, ow, fun a m => ⟨?_, n a m⟩⟩
      · rw [List.getElem?_append_left (by rw [List.length_map, hl]; exact hi), List.getElem?_map, ev]; rfl
      · obtain ⟨ob, e, _⟩ := ow.some a m
        refine ⟨ob, ?_⟩
        show (if (R a).isSome = true then none else H a) = some ob
        rw [n a m]
        exact e
    · rw [List.getElem?_append_right (by simpa using hi), List.length_map, List.getElem?_replicate] at e
      split at e
      · rename_i hlt
        cases e
        refine ⟨none, ?_, rfl⟩
        rw [List.getElem?_append_right (by rw [List.length_map, hl]; omega), List.length_map, List.getElem?_replicate, hl, if_pos hlt]
      · cases e
theorem fn_ok {x qual : Str} {st : Stmt} {f : Addr} {fd : FuncData} {N ps : List Str} {k n : Nat} {m : List O → Option O} {body : Sx} (F : Fun K x qual st f fd) (S : FnScope N ps (defScope st)) (hps : ps.length = n)
    (hm : ∀ os o, os.length = n → m os = some o → ∃ out, body (env0 N.length os) = some out ∧ endsAs out o)
    (hb : ∀ (cdv : Value) (A : Around) (outer : List Env) (s : Shared) (H : Hp) (E : XK), Room k (A.deeper (envOfC qual (defScope st) s.heap.objs.size f cdv)) → PSSx (cxOf CX0 P w K mg base N qual (defScope st) f cdv A outer s H E).nox (defBody st) body) :
    FnOk P w K mg base CX0 (k + 1) f fd ps (SpF K n m) := by
  refine F.ok S (fun vs H Q E h => ?_) (fun cdv A outer s H vs Q E hr h => ?_)
  · obtain ⟨R, os, o, _, ws, _, hl, _⟩ := h
    rw [ws.length, hl, hps]
  · obtain ⟨R, os, o, hs, ws, em, hl, kk⟩ := h
    refine ⟨_, hb cdv A outer s H E hr, ?_⟩
    obtain ⟨out, eb, ends⟩ := hm os o hl em
    refine ⟨_, R, _, out, start_str hs ws, eb, ?_⟩
    have fin : ∀ {F' : Hp} {R' H' : Hp}, (∀ a, F' a = if (R a).isSome then none else H a) → Sub R' H' → Sub F' H' → (∀ a u, F' a = some u → R' a = none ∨ isTup u = true) → Gr R R' → Stp R H R' H' := by
      intro F' R' H' hF h1 h2 h3 g
      refine ⟨h1, g, fun a u e nR => ?_⟩
      have eF : F' a = some u := by rw [hF, nR]; exact e
      exact ⟨h2 a u eF, h3 a u eF⟩
    rcases ends with rfl | ⟨rfl, env, rfl⟩
    · intro x R' H' fp h1 h2 h3 g ow nn
      refine kk x R' H' fp (fin (fun _ => rfl) h1 h2 h3 g) ow fun a ma => ⟨(nn a ma).1, ?_⟩
      have q : (if (R a).isSome = true then none else H a) = none := (nn a ma).2
      split at q
      · rename_i hsome
        obtain ⟨u, eu⟩ := Option.isSome_iff_exists.mp hsome
        obtain ⟨u', eu'⟩ := g.some eu
        rw [(nn a ma).1] at eu'; cases eu'
      · exact q
    · intro σ' R' H' st' g
      exact kk .non R' H' [] (fin (fun _ => rfl) st'.rH st'.fH st'.fR g) ⟨rfl, .non⟩ fun a ma => by cases ma
end
end TP

/-! Ops: operators, comparisons, subscripts, slices, built-ins by plain functions on values. -/
namespace TP
open PySem PySem.Spec PyProof.Rows L2

section
variable {K : PySem.W.Frag} {R H : Hp} {x y v : V} {o o1 o2 : O} {fp fp1 fp2 : List Addr} {d e : D} {xs ys : List D}
/-! ### looking into a value -/
def asL : O → Option (List D)
  | .dat (.list xs) => some xs
  | .lst xs => some xs
  | _ => none
theorem asL_ow : ∀ {o : O}, Ow K R H x o fp → Sub R H → asL o = some xs → ∃ a vs, x = .ref a ∧ H a = some (.lst vs) ∧ RpAll R vs xs
  | .dat (.list _), w, s, e => by
    cases e
    obtain ⟨_, w⟩ := w
    cases w with
    | lst ea r => exact ⟨_, _, rfl, s _ _ ea, r⟩
  | .lst _, w, s, e => by
    cases e
    obtain ⟨a, vs, rfl, _, ea, r⟩ := w
    exact ⟨a, vs, rfl, ea, r⟩
  | .dat .none, _, _, e => by cases e
  | .dat (.bool _), _, _, e => by cases e
  | .dat (.int _), _, _, e => by cases e
  | .dat (.str _), _, _, e => by cases e
  | .dat (.tuple _), _, _, e => by cases e
  | .dat (.dict _), _, _, e => by cases e
  | .lls _, _, _, e => by cases e
  | .dK _, _, _, e => by cases e
  | .dT _, _, _, e => by cases e
  | .pr _ _, _, _, e => by cases e
  | .scr _, _, _, e => by cases e
def asI : O → Option Int
  | .dat (.int i) => some i
  | _ => none
theorem asI_ow {i : Int} : ∀ {o : O}, Ow K R H x o fp → asI o = some i → x = .int i
  | .dat (.int _), w, e => by
    cases e
    obtain ⟨_, w⟩ := w
    cases w
    rfl
  | .dat .none, _, e => by cases e
  | .dat (.bool _), _, e => by cases e
  | .dat (.list _), _, e => by cases e
  | .dat (.str _), _, e => by cases e
  | .dat (.tuple _), _, e => by cases e
  | .dat (.dict _), _, e => by cases e
  | .lst _, _, e => by cases e
  | .lls _, _, e => by cases e
  | .dK _, _, e => by cases e
  | .dT _, _, e => by cases e
  | .pr _ _, _, e => by cases e
  | .scr _, _, e => by cases e
def asS : O → Option Str
  | .dat (.str i) => some i
  | _ => none
theorem asS_ow {i : Str} : ∀ {o : O}, Ow K R H x o fp → asS o = some i → x = .str i
  | .dat (.str _), w, e => by
    cases e
    obtain ⟨_, w⟩ := w
    cases w
    rfl
  | .dat .none, _, e => by cases e
  | .dat (.bool _), _, e => by cases e
  | .dat (.list _), _, e => by cases e
  | .dat (.int _), _, e => by cases e
  | .dat (.tuple _), _, e => by cases e
  | .dat (.dict _), _, e => by cases e
  | .lst _, _, e => by cases e
  | .lls _, _, e => by cases e
  | .dK _, _, e => by cases e
  | .dT _, _, e => by cases e
  | .pr _ _, _, e => by cases e
  | .scr _, _, e => by cases e
def asT : O → Option (List D)
  | .dat (.tuple xs) => some xs
  | _ => none
theorem asT_ow : ∀ {o : O}, Ow K R H x o fp → Sub R H → asT o = some xs → ∃ a vs, x = .ref a ∧ Rw R a vs xs ∧ Rd H a (.tup vs) ∧ RpAll R vs xs
  | .dat (.tuple _), w, s, e => by
    cases e
    obtain ⟨_, w⟩ := w
    cases w with
    | tup ea r => exact ⟨_, _, rfl, ea, ea.sub s, r⟩
  | .dat .none, _, _, e => by cases e
  | .dat (.bool _), _, _, e => by cases e
  | .dat (.int _), _, _, e => by cases e
  | .dat (.str _), _, _, e => by cases e
  | .dat (.list _), _, _, e => by cases e
  | .dat (.dict _), _, _, e => by cases e
  | .lst _, _, _, e => by cases e
  | .lls _, _, _, e => by cases e
  | .dK _, _, _, e => by cases e
  | .dT _, _, _, e => by cases e
  | .pr _ _, _, _, e => by cases e
  | .scr _, _, _, e => by cases e
abbrev oI (i : Int) : O := .dat (.int i)
abbrev oB (b : Bool) : O := .dat (.bool b)
abbrev oS (x : Str) : O := .dat (.str x)

/-- an answer that is a scalar -/
theorem done_sc {Q : VK} {z : V} (hs : Sub R H) (k : ∀ z R' H' fp, Stp R H R' H' → Ow K R' H' z (.dat d) fp → (∀ a ∈ fp, R' a = none ∧ H a = none) → Q z H') (r : Rp R z d) : Q z H := k z R H [] (Stp.refl hs) ⟨rfl, r⟩ fun a m => by cases m

/-! ### ints -/
def gII (f : Int → Int → Option D) : O → O → Option O := fun a b => (asI a).bind fun i => (asI b).bind fun j => (f i j).map .dat
theorem ok_I0 {f : Int → Int → Int} : OpOk K (rI0 fun i j => .int (f i j)) (gII fun i j => some (.int (f i j))) := by
  intro R H x y o1 o2 fp1 fp2 o Q hs w1 n1 w2 n2 e k
  obtain ⟨i, ei, e⟩ := Option.bind_eq_some_iff.mp e
  obtain ⟨j, ej, e⟩ := Option.bind_eq_some_iff.mp e
  cases e
  exact ⟨i, j, asI_ow w1 ei, asI_ow w2 ej, done_sc hs k (.int _)⟩
theorem ok_B0 {f : Int → Int → Bool} : OpOk K (rI0 fun i j => .bl (f i j)) (gII fun i j => some (.bool (f i j))) := by
  intro R H x y o1 o2 fp1 fp2 o Q hs w1 n1 w2 n2 e k
  obtain ⟨i, ei, e⟩ := Option.bind_eq_some_iff.mp e
  obtain ⟨j, ej, e⟩ := Option.bind_eq_some_iff.mp e
  cases e
  exact ⟨i, j, asI_ow w1 ei, asI_ow w2 ej, done_sc hs k (.bl _)⟩
theorem ok_IC {C : Int → Int → Prop} {c : Int → Int → Bool} {f : Int → Int → Int} (hc : ∀ i j, c i j = true → C i j) : OpOk K (rI C fun i j => .int (f i j)) (gII fun i j => if c i j = true then some (.int (f i j)) else none) := by
  intro R H x y o1 o2 fp1 fp2 o Q hs w1 n1 w2 n2 e k
  obtain ⟨i, ei, e⟩ := Option.bind_eq_some_iff.mp e
  obtain ⟨j, ej, e⟩ := Option.bind_eq_some_iff.mp e
  dsimp only at e
  split at e
  · rename_i h
    cases e
    exact ⟨i, j, asI_ow w1 ei, asI_ow w2 ej, hc i j h, done_sc hs k (.int _)⟩
  · cases e
/-- a product one of whose factors is small; a floor by a small one; a remainder; a power of a size -/
def cMul (i j : Int) : Bool := decide (-(2 ^ 64) < i ∧ i < 2 ^ 64) || decide (-(2 ^ 64) < j ∧ j < 2 ^ 64)
def cDiv (_ j : Int) : Bool := decide (0 < j ∧ j < 1073741824)
def cMod (_ j : Int) : Bool := decide (0 < j)
def cPow (i j : Int) : Bool := decide (0 ≤ j) && decide ((Builtin.Int.intBits i : Int) * j ≤ 2 ^ 27)
theorem op_powW {X : Cx} : OpR X (binaryOp .Pow) (rI (fun i j => 0 ≤ j ∧ (Builtin.Int.intBits i : Int) * j ≤ 2 ^ 27) fun i j => .int (i ^ j.toNat)) := opI fun _ _ _ _ _ _ _ hc q => PyProof.Rows.pow_int hc.1 hc.2 q
def gPow := gII fun i j => if cPow i j = true then some (.int (i ^ j.toNat)) else none
def gMulI := gII fun i j => if cMul i j = true then some (.int (i * j)) else none
def gDiv := gII fun i j => if cDiv i j = true then some (.int (i / j)) else none
def gMod := gII fun i j => if cMod i j = true then some (.int (i % j)) else none
def gAddI := gII fun i j => some (.int (i + j))
def gSub := gII fun i j => some (.int (i - j))
theorem ok_addI : OpOk K (rI0 fun i j => .int (i + j)) gAddI := ok_I0
theorem ok_sub : OpOk K (rI0 fun i j => .int (i - j)) gSub := ok_I0
theorem ok_mulI : OpOk K (rI CMul fun i j => .int (i * j)) gMulI := ok_IC fun i j h => by
  unfold cMul at h
  rw [Bool.or_eq_true] at h
  exact h.imp of_decide_eq_true of_decide_eq_true
theorem ok_div : OpOk K (rI CDiv fun i j => .int (i / j)) gDiv := ok_IC fun i j h => by
  unfold CDiv
  exact of_decide_eq_true h
theorem ok_mod : OpOk K (rI (fun _ j => 0 < j) fun i j => .int (i % j)) gMod := ok_IC fun i j h => of_decide_eq_true h
theorem ok_pow : OpOk K (rI (fun i j => 0 ≤ j ∧ (Builtin.Int.intBits i : Int) * j ≤ 2 ^ 27) fun i j => .int (i ^ j.toNat)) gPow := ok_IC fun i j h => by
  unfold cPow at h
  rw [Bool.and_eq_true] at h
  exact ⟨of_decide_eq_true h.1, of_decide_eq_true h.2⟩
def gLt := gII fun i j => some (.bool (decide (i < j)))
def gLe := gII fun i j => some (.bool (decide (i ≤ j)))
def gGt := gII fun i j => some (.bool (decide (j < i)))
def gGe := gII fun i j => some (.bool (decide (j ≤ i)))
theorem ok_lt : OpOk K (rI0 fun i j => .bl (decide (i < j))) gLt := ok_B0
theorem ok_le : OpOk K (rI0 fun i j => .bl (decide (i ≤ j))) gLe := ok_B0
theorem ok_gt : OpOk K (rI0 fun i j => .bl (decide (j < i))) gGt := ok_B0
theorem ok_ge : OpOk K (rI0 fun i j => .bl (decide (j ≤ i))) gGe := ok_B0
/-- texts by order -/
def gLeS : O → O → Option O := fun a b => (asS a).bind fun i => (asS b).map fun j => oB (!decide (j.cps.toList < i.cps.toList))
theorem ok_leS : OpOk K (fun x y H Q => ∃ i j, x = .str i ∧ y = .str j ∧ Q (.bl (!decide (j.cps.toList < i.cps.toList))) H) gLeS := by
  intro R H x y o1 o2 fp1 fp2 o Q hs w1 n1 w2 n2 e k
  obtain ⟨i, ei, e⟩ := Option.bind_eq_some_iff.mp e
  obtain ⟨j, ej, e⟩ := Option.map_eq_some_iff.mp e
  subst e
  exact ⟨i, j, asS_ow w1 ei, asS_ow w2 ej, done_sc hs k (.bl _)⟩

/-! ### lists and tuples put together -/
def gCat : O → O → Option O := fun a b => (asL a).bind fun xs => (asL b).bind fun ys => if small (xs.length + ys.length) = true then some (.lst (xs ++ ys)) else none
theorem ok_cat : OpOk K rCat gCat := by
  intro R H x y o1 o2 fp1 fp2 o Q hs w1 n1 w2 n2 e k
  obtain ⟨xs, ex, e⟩ := Option.bind_eq_some_iff.mp e
  obtain ⟨ys, ey, e⟩ := Option.bind_eq_some_iff.mp e
  split at e
  · rename_i sm
    cases e
    obtain ⟨a, vs, rfl, ea, r1⟩ := asL_ow w1 hs ex
    obtain ⟨b, ws, rfl, eb, r2⟩ := asL_ow w2 hs ey
    refine ⟨a, b, vs, ws, rfl, rfl, ea, eb, by rw [r1.length, r2.length]; exact small_le sm, fun p np => ?_⟩
    exact k (.ref p) R _ [p] (Stp.lay' hs np) ⟨p, _, rfl, rfl, upd_same, r1.append r2⟩ fun c m => by
      rw [List.mem_singleton.mp m]
      exact ⟨hs.none np, np⟩
  · cases e
def gCatT : O → O → Option O := fun a b => (asT a).bind fun xs => (asT b).bind fun ys => if small (xs.length + ys.length) = true then some (.dat (.tuple (xs ++ ys))) else none
def rCatW (K : PySem.W.Frag) : R2 := fun x y H Q => ∃ a b xs ys, x = .ref a ∧ y = .ref b ∧ SqT K H a xs ∧ SqT K H b ys ∧ xs.length + ys.length ≤ sizeLine ∧
  (xs = [] → Q (.ref b) H) ∧ (xs ≠ [] → ys = [] → Q (.ref a) H) ∧ (xs ≠ [] → ys ≠ [] → ∀ p od, H p = none → od.dict = none → ∃ o : HO, (o = .tup (xs ++ ys) ∨ o = .frz od (.tup (xs ++ ys))) ∧ Q (.ref p) (upd H p o))
theorem op_catW {X : Cx} : OpR X (binaryOp .Add) (rCatW X.K) := by
  intro pins s σ H x y v u Q I rx ry h
  obtain ⟨a, b, xs, ys, rfl, rfl, ta, tb, zl, q0, q1, q2⟩ := h
  cases rx; cases ry
  obtain ⟨its, r1, p1, _⟩ := I.tuple ta
  obtain ⟨its2, r2, p2, _⟩ := I.tuple tb
  by_cases hx : xs = []
  · subst hx
    cases r1
    exact cat_tup0 p1 p2 ⟨.ref b, H, I, rfl, q0 rfl⟩
  · refine HT.cat_tup p1 p2 (fun z => hx (r1.nil_iff.mp z)) (fun z => ⟨.ref a, H, I, rfl, q1 hx (r2.nil_iff.mp z)⟩) (fun z => ?_) (by rw [← r1.length, ← r2.length]; exact zl)
    obtain ⟨o, ho, q⟩ := q2 hx (fun w => z (r2.nil_iff.mpr w)) s.heap.objs.size { cls := .type "tuple", data := .seq (its ++ its2).toArray } (I.hok.fresh (Nat.le_refl _)) rfl
    exact ⟨.ref s.heap.objs.size, _, I.laid (t' := s.toks) (o := o) (fun b ob q => Heap.get?_push_of_some _ q) (Nat.le_refl _) (obj_tup (by rw [List.length_append]; exact zl) (r1.append r2) rfl (Heap.get?_push_size _ rfl) ho), rfl, q⟩
theorem ok_catT : OpOk K (rCatW K) gCatT := by
  intro R H x y o1 o2 fp1 fp2 o Q hs w1 n1 w2 n2 e k
  obtain ⟨xs, ex, e⟩ := Option.bind_eq_some_iff.mp e
  obtain ⟨ys, ey, e⟩ := Option.bind_eq_some_iff.mp e
  split at e
  · rename_i sm
    cases e
    obtain ⟨a, vs, rfl, ea, ea', r1⟩ := asT_ow w1 hs ex
    obtain ⟨b, ws, rfl, eb, eb', r2⟩ := asT_ow w2 hs ey
    refine ⟨a, b, vs, ws, rfl, rfl, .inl ea', .inl eb', by rw [r1.length, r2.length]; exact small_le sm, fun z => ?_, fun z1 z2 => ?_, fun z1 z2 p od np hd => ?_⟩
    · subst z
      cases r1
      exact done_sc hs k (.tup eb r2)
    · subst z2
      cases r2
      rw [List.append_nil] at k
      exact done_sc hs k (.tup ea r1)
    · exact done_tw hs np hd (r1.append r2) k
  · cases e
def gAdd : O → O → Option O := fun a b => (gAddI a b).or ((gCat a b).or (gCatT a b))
abbrev rAdd' (K : PySem.W.Frag) : R2 := fun x y H Q => rI0 (fun i j => .int (i + j)) x y H Q ∨ (fun x y H Q => rCat x y H Q ∨ rCatW K x y H Q) x y H Q
theorem ok_add : OpOk K (rAdd' K) gAdd := OpOk.or ok_addI (OpOk.or ok_cat ok_catT)
theorem op_add' {X : Cx} : OpR X (binaryOp .Add) (rAdd' X.K) := OpR.or op_add (OpR.or op_cat op_catW)
def gRep : O → O → Option O := fun a b => (asL a).bind fun xs => (asI b).bind fun k => if (decide (k ≤ 100000) && decide (-100000 ≤ k) && small (xs.length * k.toNat)) = true then some (.lst (List.replicate k.toNat xs).flatten) else none
theorem RpAll.repL {vs : List V} (r : RpAll R vs xs) : ∀ n : Nat, RpAll R (List.replicate n vs).flatten (List.replicate n xs).flatten
  | 0 => .nil
  | n + 1 => by
    rw [List.replicate_succ, List.replicate_succ, List.flatten_cons, List.flatten_cons]
    exact r.append (RpAll.repL r n)
theorem ok_rep : OpOk K rRep gRep := by
  intro R H x y o1 o2 fp1 fp2 o Q hs w1 n1 w2 n2 e k
  obtain ⟨xs, ex, e⟩ := Option.bind_eq_some_iff.mp e
  obtain ⟨j, ej, e⟩ := Option.bind_eq_some_iff.mp e
  split at e
  · rename_i sm
    cases e
    rw [Bool.and_eq_true, Bool.and_eq_true] at sm
    have b1 := of_decide_eq_true sm.1.1
    have b2 := of_decide_eq_true sm.1.2
    obtain ⟨a, vs, rfl, ea, r1⟩ := asL_ow w1 hs ex
    refine ⟨a, j, vs, rfl, asI_ow w2 ej, ea, by omega, by omega, by rw [r1.length]; exact small_le sm.2, fun p np => ?_⟩
    exact k (.ref p) R _ [p] (Stp.lay' hs np) ⟨p, _, rfl, rfl, upd_same, r1.repL _⟩ fun c m => by
      rw [List.mem_singleton.mp m]
      exact ⟨hs.none np, np⟩
  · cases e
def gMul : O → O → Option O := fun a b => (gMulI a b).or (gRep a b)
abbrev rMul' : R2 := fun x y H Q => rI CMul (fun i j => .int (i * j)) x y H Q ∨ rRep x y H Q
theorem ok_mul : OpOk K rMul' gMul := OpOk.or ok_mulI ok_rep
theorem op_mul' {X : Cx} : OpR X (binaryOp .Mult) rMul' := OpR.or op_mul op_rep

/-! ### == -/
mutual
theorem Rp.dp {K : PySem.W.Frag} {H : Hp} : ∀ (d : D) (v : V), Rp H v d → d.canLay0 = true → Dp K H v d
  | .none, _, h, _ => by cases h; exact .non
  | .bool _, _, h, _ => by cases h; exact .bl _
  | .int _, _, h, _ => by cases h; exact .int _
  | .str _, _, h, _ => by cases h; exact .str _
  | .list ds, _, h, c => by
    cases h with
    | lst e r => exact .lst (.inl (.inl e)) (RpAll.dp ds _ r (by simpa [PyData.canLay0] using c))
  | .tuple ds, _, h, c => by
    cases h with
    | tup e r => exact .tup (.inl e.rd) (RpAll.dp ds _ r (by simpa [PyData.canLay0] using c))
  | .dict ds, _, h, c => by simp [PyData.canLay0] at c
theorem RpAll.dp {K : PySem.W.Frag} {H : Hp} : ∀ (ds : List D) (vs : List V), RpAll H vs ds → PyData.canLayAll0 ds = true → DpAll K H vs ds
  | [], _, h, _ => by cases h; exact .nil
  | d :: ds, _, h, c => by
    cases h with
    | cons h1 h2 =>
      simp only [PyData.canLayAll0, Bool.and_eq_true] at c
      exact .cons (Rp.dp d _ h1 c.1) (RpAll.dp ds _ h2 c.2)
end
/-- scalars that are told apart as such -/
def sc2 : D → D → Bool
  | .none, .none => true | .none, .int _ => true | .int _, .none => true | .none, .bool _ => true | .bool _, .none => true | .none, .str _ => true | .str _, .none => true
  | .int _, .int _ => true | .bool _, .bool _ => true | .str _, .str _ => true
  | .int _, .str _ => true | .str _, .int _ => true | .bool _, .str _ => true | .str _, .bool _ => true
  | _, _ => false
theorem sc2_ok {H : Hp} {x y : V} : ∀ {d e : D}, Rp H x d → Rp H y e → sc2 d e = true → scal x y = true ∧ decide (x = y) = PyData.eqv d e
  | .none, .none, h, h', _ => by cases h; cases h'; exact ⟨rfl, rfl⟩
  | .none, .int _, h, h', _ => by cases h; cases h'; exact ⟨rfl, rfl⟩
  | .int _, .none, h, h', _ => by cases h; cases h'; exact ⟨rfl, rfl⟩
  | .none, .bool _, h, h', _ => by cases h; cases h'; exact ⟨rfl, rfl⟩
  | .bool _, .none, h, h', _ => by cases h; cases h'; exact ⟨rfl, rfl⟩
  | .none, .str _, h, h', _ => by cases h; cases h'; exact ⟨rfl, rfl⟩
  | .str _, .none, h, h', _ => by cases h; cases h'; exact ⟨rfl, rfl⟩
  | .int i, .int j, h, h', _ => by cases h; cases h'; exact ⟨rfl, by rw [dec_int, PyData.eqv]⟩
  | .bool i, .bool j, h, h', _ => by cases h; cases h'; exact ⟨rfl, by rw [dec_bl, PyData.eqv]⟩
  | .str i, .str j, h, h', _ => by cases h; cases h'; exact ⟨rfl, by rw [dec_str, PyData.eqv]⟩
  | .int _, .str _, h, h', _ => by cases h; cases h'; exact ⟨rfl, rfl⟩
  | .str _, .int _, h, h', _ => by cases h; cases h'; exact ⟨rfl, rfl⟩
  | .bool _, .str _, h, h', _ => by cases h; cases h'; exact ⟨rfl, rfl⟩
  | .str _, .bool _, h, h', _ => by cases h; cases h'; exact ⟨rfl, rfl⟩
  | .int _, .bool _, _, _, h => by cases h
  | .bool _, .int _, _, _, h => by cases h
  | .none, .list _, _, _, h => by cases h
  | .none, .tuple _, _, _, h => by cases h
  | .none, .dict _, _, _, h => by cases h
  | .int _, .list _, _, _, h => by cases h
  | .int _, .tuple _, _, _, h => by cases h
  | .int _, .dict _, _, _, h => by cases h
  | .bool _, .list _, _, _, h => by cases h
  | .bool _, .tuple _, _, _, h => by cases h
  | .bool _, .dict _, _, _, h => by cases h
  | .str _, .list _, _, _, h => by cases h
  | .str _, .tuple _, _, _, h => by cases h
  | .str _, .dict _, _, _, h => by cases h
  | .list _, .none, _, _, h => by cases h
  | .list _, .bool _, _, _, h => by cases h
  | .list _, .int _, _, _, h => by cases h
  | .list _, .str _, _, _, h => by cases h
  | .list _, .list _, _, _, h => by cases h
  | .list _, .tuple _, _, _, h => by cases h
  | .list _, .dict _, _, _, h => by cases h
  | .tuple _, .none, _, _, h => by cases h
  | .tuple _, .bool _, _, _, h => by cases h
  | .tuple _, .int _, _, _, h => by cases h
  | .tuple _, .str _, _, _, h => by cases h
  | .tuple _, .list _, _, _, h => by cases h
  | .tuple _, .tuple _, _, _, h => by cases h
  | .tuple _, .dict _, _, _, h => by cases h
  | .dict _, _, _, _, h => by cases h
/-- data that == serves -/
def okEq (d e : D) : Bool := sc2 d e || (SeqAt.shaped d && SeqAt.shaped e)
abbrev rEq' (K : PySem.W.Frag) : R2 := fun x y H Q => rEq x y H Q ∨ rEqD K x y H Q
abbrev rNe' (K : PySem.W.Frag) : R2 := fun x y H Q => rNe x y H Q ∨ rNeD K x y H Q
def gEq : O → O → Option O := fun a b => a.data.bind fun d => b.data.bind fun e => if okEq d e = true then some (oB (PyData.eqv d e)) else none
def gNe : O → O → Option O := fun a b => a.data.bind fun d => b.data.bind fun e => if okEq d e = true then some (oB (!PyData.eqv d e)) else none
theorem shaped_lay {d : D} (h : SeqAt.shaped d = true) : d.canLay0 = true := SeqAt.canLay_of_shaped h
theorem ok_eq : OpOk K (rEq' K) gEq := by
  intro R H x y o1 o2 fp1 fp2 o Q hs w1 n1 w2 n2 q k
  obtain ⟨d, ed, q⟩ := Option.bind_eq_some_iff.mp q
  obtain ⟨e, ee, q⟩ := Option.bind_eq_some_iff.mp q
  split at q
  · rename_i h
    cases q
    have r1 := w1.rp hs ed
    have r2 := w2.rp hs ee
    unfold okEq at h
    rw [Bool.or_eq_true] at h
    rcases h with h | h
    · obtain ⟨h1, h2⟩ := sc2_ok r1 r2 h
      refine .inl ⟨h1, ?_⟩
      rw [h2]
      exact done_sc hs k (.bl _)
    · rw [Bool.and_eq_true] at h
      exact .inr ⟨d, e, r1.dp _ _ (shaped_lay h.1), r2.dp _ _ (shaped_lay h.2), h.1, h.2, done_sc hs k (.bl _)⟩
  · cases q
theorem ok_ne : OpOk K (rNe' K) gNe := by
  intro R H x y o1 o2 fp1 fp2 o Q hs w1 n1 w2 n2 q k
  obtain ⟨d, ed, q⟩ := Option.bind_eq_some_iff.mp q
  obtain ⟨e, ee, q⟩ := Option.bind_eq_some_iff.mp q
  split at q
  · rename_i h
    cases q
    have r1 := w1.rp hs ed
    have r2 := w2.rp hs ee
    unfold okEq at h
    rw [Bool.or_eq_true] at h
    rcases h with h | h
    · obtain ⟨h1, h2⟩ := sc2_ok r1 r2 h
      refine .inl ⟨h1, ?_⟩
      rw [h2]
      exact done_sc hs k (.bl _)
    · rw [Bool.and_eq_true] at h
      exact .inr ⟨d, e, r1.dp _ _ (shaped_lay h.1), r2.dp _ _ (shaped_lay h.2), h.1, h.2, done_sc hs k (.bl _)⟩
  · cases q
theorem op_eq' {X : Cx} {k : Nat} (hr : Room k X.A) : OpR X (compareOp .Eq) (rEq' X.K) := OpR.or op_eq (op_eqD hr.units)
theorem op_ne' {X : Cx} {k : Nat} (hr : Room k X.A) : OpR X (compareOp .NotEq) (rNe' X.K) := OpR.or op_ne (op_neD hr.units)

/-! ### is -/
def isN : D → Bool
  | .none => true
  | _ => false
def gIsN : O → O → Option O := fun a b => match b with
  | .dat .none => a.data.map fun d => oB (isN d)
  | _ => none
def gNotN : O → O → Option O := fun a b => match b with
  | .dat .none => a.data.map fun d => oB (!isN d)
  | _ => none
theorem non_iff {H : Hp} {x : V} {d : D} (r : Rp H x d) : decide (x = .non) = isN d := by
  cases r <;> rfl
theorem non_iff' {H : Hp} {x : V} {d : D} (r : Rp H x d) : (!decide (x = .non)) = !isN d := by
  cases r <;> rfl
theorem ok_isN : OpOk K (fun x y H Q => y = .non ∧ Q (.bl (decide (x = .non))) H) gIsN := by
  intro R H x y o1 o2 fp1 fp2 o Q hs w1 n1 w2 n2 q k
  unfold gIsN at q
  split at q
  · obtain ⟨d, ed, q⟩ := Option.map_eq_some_iff.mp q
    subst q
    obtain ⟨_, w2⟩ := w2
    cases w2
    refine ⟨rfl, ?_⟩
    rw [non_iff (w1.rp hs ed)]
    exact done_sc hs k (.bl _)
  · cases q
theorem ok_notN : OpOk K (fun x y H Q => y = .non ∧ Q (.bl (!decide (x = .non))) H) gNotN := by
  intro R H x y o1 o2 fp1 fp2 o Q hs w1 n1 w2 n2 q k
  unfold gNotN at q
  split at q
  · obtain ⟨d, ed, q⟩ := Option.map_eq_some_iff.mp q
    subst q
    obtain ⟨_, w2⟩ := w2
    cases w2
    refine ⟨rfl, ?_⟩
    rw [non_iff' (w1.rp hs ed)]
    exact done_sc hs k (.bl _)
  · cases q
def gIsB : O → O → Option O := fun a b => (asB a).bind fun i => (asB b).map fun j => oB (decide (i = j))
def gNotB : O → O → Option O := fun a b => (asB a).bind fun i => (asB b).map fun j => oB (!decide (i = j))
theorem asB_ow {i : Bool} : ∀ {o : O}, Ow K R H x o fp → asB o = some i → x = .bl i
  | .dat (.bool _), w, e => by
    cases e
    obtain ⟨_, w⟩ := w
    cases w
    rfl
  | .dat .none, _, e => by cases e
  | .dat (.int _), _, e => by cases e
  | .dat (.list _), _, e => by cases e
  | .dat (.str _), _, e => by cases e
  | .dat (.tuple _), _, e => by cases e
  | .dat (.dict _), _, e => by cases e
  | .lst _, _, e => by cases e
  | .lls _, _, e => by cases e
  | .dK _, _, e => by cases e
  | .dT _, _, e => by cases e
  | .pr _ _, _, e => by cases e
  | .scr _, _, e => by cases e
theorem ok_isB : OpOk K rIsB gIsB := by
  intro R H x y o1 o2 fp1 fp2 o Q hs w1 n1 w2 n2 e k
  obtain ⟨i, ei, e⟩ := Option.bind_eq_some_iff.mp e
  obtain ⟨j, ej, e⟩ := Option.map_eq_some_iff.mp e
  subst e
  exact ⟨i, j, asB_ow w1 ei, asB_ow w2 ej, done_sc hs k (.bl _)⟩
theorem ok_notB : OpOk K rNotB gNotB := by
  intro R H x y o1 o2 fp1 fp2 o Q hs w1 n1 w2 n2 e k
  obtain ⟨i, ei, e⟩ := Option.bind_eq_some_iff.mp e
  obtain ⟨j, ej, e⟩ := Option.map_eq_some_iff.mp e
  subst e
  exact ⟨i, j, asB_ow w1 ei, asB_ow w2 ej, done_sc hs k (.bl _)⟩

/-! ### in -/
def gIn : O → O → Option O := fun a b => a.data.bind fun d => (asL b).bind fun ds => if (SeqAt.shaped d && SeqAt.shaped (.list ds)) = true then some (oB (ds.any fun z => PyData.eqv z d)) else none
def gNotIn : O → O → Option O := fun a b => a.data.bind fun d => (asL b).bind fun ds => if (SeqAt.shaped d && SeqAt.shaped (.list ds)) = true then some (oB (!ds.any fun z => PyData.eqv z d)) else none
theorem asL_data {o : O} (e : asL o = some xs) : o.data = some (.list xs) := by
  unfold asL at e
  split at e <;> first | (cases e; rfl) | cases e
theorem ok_in : OpOk K (rInD K) gIn := by
  intro R H x y o1 o2 fp1 fp2 o Q hs w1 n1 w2 n2 q k
  obtain ⟨d, ed, q⟩ := Option.bind_eq_some_iff.mp q
  obtain ⟨ds, ee, q⟩ := Option.bind_eq_some_iff.mp q
  split at q
  · rename_i h
    cases q
    rw [Bool.and_eq_true] at h
    exact ⟨d, ds, (w1.rp hs ed).dp _ _ (shaped_lay h.1), (w2.rp hs (asL_data ee)).dp _ _ (shaped_lay h.2), h.1, h.2, done_sc hs k (.bl _)⟩
  · cases q
theorem ok_notIn : OpOk K (rNotInD K) gNotIn := by
  intro R H x y o1 o2 fp1 fp2 o Q hs w1 n1 w2 n2 q k
  obtain ⟨d, ed, q⟩ := Option.bind_eq_some_iff.mp q
  obtain ⟨ds, ee, q⟩ := Option.bind_eq_some_iff.mp q
  split at q
  · rename_i h
    cases q
    rw [Bool.and_eq_true] at h
    exact ⟨d, ds, (w1.rp hs ed).dp _ _ (shaped_lay h.1), (w2.rp hs (asL_data ee)).dp _ _ (shaped_lay h.2), h.1, h.2, done_sc hs k (.bl _)⟩
  · cases q
theorem hu65 {X : Cx} {k : Nat} (hr : Room k X.A) : X.A.units + 65 < cLine := by have := hr.un; omega
theorem hu1 {X : Cx} {k : Nat} (hr : Room k X.A) : X.A.units + 1 < cLine := by have := hr.un; omega
/-- in a tuple of scalars -/
def flatD : D → Bool
  | .none => true
  | .bool _ => true
  | .int _ => true
  | .str _ => true
  | _ => false
theorem flat_ok {H : Hp} {x : V} {d : D} (r : Rp H x d) (f : flatD d = true) : flatV x = true := by
  cases r <;> first | rfl | cases f
theorem eqV_ok {H : Hp} {x y : V} {d e : D} (r : Rp H x d) (q : Rp H y e) (f : flatD d = true) (g : flatD e = true) : eqV x y = PyData.eqv d e := by
  cases r <;> first | (cases f; done) | (cases q <;> first | (cases g; done) | rfl | (simp only [eqV, PyData.eqv]; done))
theorem inV_ok {H : Hp} {x : V} {d : D} (r : Rp H x d) (f : flatD d = true) : ∀ {vs : List V} {ds : List D}, RpAll H vs ds → ds.all flatD = true → vs.all flatV = true ∧ inV x vs = ds.any fun z => PyData.eqv z d
  | _, _, .nil, _ => ⟨rfl, rfl⟩
  | _, _, .cons h t, g => by
    rw [List.all_cons, Bool.and_eq_true] at g
    obtain ⟨h1, h2⟩ := inV_ok r f t g.2
    refine ⟨by rw [List.all_cons, flat_ok h g.1, h1]; rfl, ?_⟩
    unfold inV at h2 ⊢
    rw [List.any_cons, List.any_cons, eqV_ok h r g.1 f, h2]
def gInT : O → O → Option O := fun a b => a.data.bind fun d => (asT b).bind fun ds => if (flatD d && ds.all flatD) = true then some (oB (ds.any fun z => PyData.eqv z d)) else none
def gNotInT : O → O → Option O := fun a b => a.data.bind fun d => (asT b).bind fun ds => if (flatD d && ds.all flatD) = true then some (oB (!ds.any fun z => PyData.eqv z d)) else none
theorem ok_inT : OpOk K (rIn K false) gInT := by
  intro R H x y o1 o2 fp1 fp2 o Q hs w1 n1 w2 n2 q k
  obtain ⟨d, ed, q⟩ := Option.bind_eq_some_iff.mp q
  obtain ⟨ds, ee, q⟩ := Option.bind_eq_some_iff.mp q
  split at q
  · rename_i h
    cases q
    rw [Bool.and_eq_true] at h
    obtain ⟨a, vs, rfl, _, ea, r⟩ := asT_ow w2 hs ee
    have r1 := w1.rp hs ed
    obtain ⟨h1, h2⟩ := inV_ok r1 h.1 (r.mono hs.gr) h.2
    refine ⟨a, vs, rfl, .inr (.inl ea), flat_ok r1 h.1, h1, ?_⟩
    rw [if_neg Bool.false_ne_true, h2]
    exact done_sc hs k (.bl _)
  · cases q
theorem ok_notInT : OpOk K (rIn K true) gNotInT := by
  intro R H x y o1 o2 fp1 fp2 o Q hs w1 n1 w2 n2 q k
  obtain ⟨d, ed, q⟩ := Option.bind_eq_some_iff.mp q
  obtain ⟨ds, ee, q⟩ := Option.bind_eq_some_iff.mp q
  split at q
  · rename_i h
    cases q
    rw [Bool.and_eq_true] at h
    obtain ⟨a, vs, rfl, _, ea, r⟩ := asT_ow w2 hs ee
    have r1 := w1.rp hs ed
    obtain ⟨h1, h2⟩ := inV_ok r1 h.1 (r.mono hs.gr) h.2
    refine ⟨a, vs, rfl, .inr (.inl ea), flat_ok r1 h.1, h1, ?_⟩
    rw [if_pos rfl, h2]
    exact done_sc hs k (.bl _)
  · cases q
/-- in: a list or a tuple -/
def gInA : O → O → Option O := fun a b => (gInT a b).or (gIn a b)
def gNotInA : O → O → Option O := fun a b => (gNotInT a b).or (gNotIn a b)
abbrev rInA (K : PySem.W.Frag) : R2 := fun x y H Q => L2.rIn K false x y H Q ∨ rInD K x y H Q
abbrev rNotInA (K : PySem.W.Frag) : R2 := fun x y H Q => L2.rIn K true x y H Q ∨ rNotInD K x y H Q
theorem ok_inA : OpOk K (rInA K) gInA := OpOk.or ok_inT ok_in
theorem ok_notInA : OpOk K (rNotInA K) gNotInA := OpOk.or ok_notInT ok_notIn
theorem op_inA {X : Cx} {k : Nat} (hr : Room k X.A) : OpR X (compareOp .In) (rInA X.K) := OpR.or op_in_seq (op_inD (hu65 hr))
theorem op_notInA {X : Cx} {k : Nat} (hr : Room k X.A) : OpR X (compareOp .NotIn) (rNotInA X.K) := OpR.or op_notIn_seq (op_notInD (hu65 hr))
/-- one sign in a text -/
def gInS : O → O → Option O := fun a b => (asS a).bind fun i => (asS b).bind fun j => match i.cps.toList with
  | [c] => some (oB (decide (c ∈ j.cps.toList)))
  | _ => none
def gNotInS : O → O → Option O := fun a b => (asS a).bind fun i => (asS b).bind fun j => match i.cps.toList with
  | [c] => some (oB (!decide (c ∈ j.cps.toList)))
  | _ => none
theorem one_sign {i : Str} {c : Nat} (h : i.cps.toList = [c]) : i = ⟨#[c]⟩ := PySem.W.str_of_cps (by rw [h])
theorem ok_inS : OpOk K (fun x y H Q => ∃ (c : Nat) (z : Str), x = .str ⟨#[c]⟩ ∧ y = .str z ∧ Q (.bl (decide (c ∈ z.cps.toList))) H) gInS := by
  intro R H x y o1 o2 fp1 fp2 o Q hs w1 n1 w2 n2 e k
  obtain ⟨i, ei, e⟩ := Option.bind_eq_some_iff.mp e
  obtain ⟨j, ej, e⟩ := Option.bind_eq_some_iff.mp e
  split at e
  · rename_i c ec
    cases e
    refine ⟨c, j, ?_, asS_ow w2 ej, done_sc hs k (.bl _)⟩
    rw [asS_ow w1 ei, one_sign ec]
  · cases e
theorem ok_notInS : OpOk K (fun x y H Q => ∃ (c : Nat) (z : Str), x = .str ⟨#[c]⟩ ∧ y = .str z ∧ Q (.bl (!decide (c ∈ z.cps.toList))) H) gNotInS := by
  intro R H x y o1 o2 fp1 fp2 o Q hs w1 n1 w2 n2 e k
  obtain ⟨i, ei, e⟩ := Option.bind_eq_some_iff.mp e
  obtain ⟨j, ej, e⟩ := Option.bind_eq_some_iff.mp e
  split at e
  · rename_i c ec
    cases e
    refine ⟨c, j, ?_, asS_ow w2 ej, done_sc hs k (.bl _)⟩
    rw [asS_ow w1 ei, one_sign ec]
  · cases e

/-! ### subscripts -/
def ixD {α : Type} (xs : List α) (i : Int) : Option α := atI xs i
def gIx : O → O → Option O := fun a b => (asI b).bind fun i => match a with
  | .dat (.list xs) => (ixD xs i).map .dat
  | .lst xs => (ixD xs i).map .dat
  | .dat (.tuple xs) => (ixD xs i).map .dat
  | .scr ns => (ixD ns i).map fun n => oI n
  | .dat (.str z) => if small z.length = true then (ixD z.cps.toList i).map fun c => oS ⟨#[c]⟩ else none
  | _ => none
theorem at_rp {R : Hp} {vs : List V} {i : Int} {d : D} (r : RpAll R vs xs) (h : atI xs i = some d) : ∃ v, atI vs i = some v ∧ Rp R v d := by
  unfold atI at h ⊢
  rw [r.length]
  obtain ⟨j, ej, h⟩ := Option.bind_eq_some_iff.mp h
  obtain ⟨v, ev, rv⟩ := r.get h
  exact ⟨v, by rw [ej]; exact ev, rv⟩
theorem at_map {α β : Type} {f : α → β} {l : List α} {i : Int} {z : α} (h : atI l i = some z) : atI (l.map f) i = some (f z) := by
  unfold atI at h ⊢
  rw [List.length_map]
  obtain ⟨j, ej, h⟩ := Option.bind_eq_some_iff.mp h
  rw [ej]
  show (l.map f)[j]? = _
  rw [List.getElem?_map, h]
  rfl
theorem ok_ix : OpOk K (rIx K) gIx := by
  intro R H x y o1 o2 fp1 fp2 o Q hs w1 n1 w2 n2 e k
  obtain ⟨i, ei, e⟩ := Option.bind_eq_some_iff.mp e
  have ey := asI_ow w2 ei
  split at e
  · obtain ⟨d, ed, e⟩ := Option.map_eq_some_iff.mp e
    subst e
    obtain ⟨a, vs, rfl, ea, r⟩ := asL_ow w1 hs rfl
    obtain ⟨v, ev, rv⟩ := at_rp r ed
    exact .inl ⟨a, vs, i, v, rfl, ey, .inl (.inl ea), ev, done_sc hs k rv⟩
  · obtain ⟨d, ed, e⟩ := Option.map_eq_some_iff.mp e
    subst e
    obtain ⟨a, vs, rfl, ea, r⟩ := asL_ow w1 hs rfl
    obtain ⟨v, ev, rv⟩ := at_rp r ed
    exact .inl ⟨a, vs, i, v, rfl, ey, .inl (.inl ea), ev, done_sc hs k rv⟩
  · obtain ⟨d, ed, e⟩ := Option.map_eq_some_iff.mp e
    subst e
    obtain ⟨a, vs, rfl, _, ea, r⟩ := asT_ow w1 hs rfl
    obtain ⟨v, ev, rv⟩ := at_rp r ed
    exact .inr (.inl ⟨a, vs, i, v, rfl, ey, .inl ea, ev, done_sc hs k rv⟩)
  · obtain ⟨n, en, e⟩ := Option.map_eq_some_iff.mp e
    subst e
    obtain ⟨_, a, rfl, q⟩ := w1
    refine .inl ⟨a, _, i, .int n, rfl, ey, ?_, at_map en, done_sc hs k (.int n)⟩
    exact sqL_gr hs.gr q
  · split at e
    · rename_i sm
      obtain ⟨c, ec, e⟩ := Option.map_eq_some_iff.mp e
      subst e
      obtain ⟨_, w1⟩ := w1
      cases w1
      exact .inr (.inr ⟨_, i, c, rfl, ey, small_le sm, ec, done_sc hs k (.str _)⟩)
    · cases e
  · cases e
/-- an own list within an own list -/
def eIxL (f g : Ex) : Ex := fun env => (f env).bind fun a => (g env).bind fun b => (asI b).bind fun i => match a with
  | .lls xss => (ixD xss i).map .lst
  | _ => none
theorem pair_get {α β : Type} {F : α → β → Prop} : ∀ {l : List α} {m : List β} {i : Nat} {b : β}, Paired F l m → m[i]? = some b → ∃ a, l[i]? = some a ∧ F a b
  | _, _, _, _, .nil, e => by simp at e
  | _, _, 0, _, .cons r _, e => by simp at e; subst e; exact ⟨_, rfl, r⟩
  | _, _, i + 1, b, .cons _ t, e => by
    obtain ⟨a, h1, h2⟩ := pair_get (i := i) (b := b) t (by simpa using e)
    exact ⟨a, by simpa using h1, h2⟩
theorem px_ixL {X : Cx} {a b : Expr} {pos : Pos} {f g : Ex} (ha : PX X a f) (hb : PX X b g) (hs : PlainIx b := by intro _ _; rfl) : PX X (.Subscript a b pos) (eIxL f g) := by
  refine PE.weak (pe_ix ix_list ha hb hs) fun σ H Q q => ?_
  obtain ⟨F, R, env, o, st, ef, k⟩ := q
  unfold eIxL at ef
  obtain ⟨o1, e1, ef⟩ := Option.bind_eq_some_iff.mp ef
  obtain ⟨o2, e2, ef⟩ := Option.bind_eq_some_iff.mp ef
  obtain ⟨i, ei, ef⟩ := Option.bind_eq_some_iff.mp ef
  split at ef
  · rename_i xss _ _
    obtain ⟨xs, ex, ef⟩ := Option.map_eq_some_iff.mp ef
    subst ef
    refine rX.use st e1 fun x R1 H1 fp1 s1 w1 n1 => ?_
    refine rX.use (st.stp s1) e2 fun y R2 H2 fp2 s2 w2 n2 => ?_
    obtain ⟨w1', n1'⟩ := w1.stp n1 s1.sub s2
    obtain ⟨p, bs, rfl, rfl, nd, ea, q⟩ := w1'
    have hl : bs.length = xss.length := Paired.length q
    unfold ixD atI at ex
    obtain ⟨j, ej, ex⟩ := Option.bind_eq_some_iff.mp ex
    obtain ⟨c, ec, vs, eb, r⟩ := pair_get q ex
    refine ⟨p, bs.map .ref, i, .ref c, rfl, asI_ow w2 ei, .inl (.inl ea), ?_, ?_⟩
    · unfold atI
      rw [List.length_map, hl, ej]
      show (bs.map V.ref)[j]? = _
      rw [List.getElem?_map, ec]
      rfl
    · refine k (.ref c) R2 H2 [c] (s1.trans s2) ⟨c, vs, rfl, rfl, eb, r⟩ fun z m => ?_
      rw [List.mem_singleton.mp m]
      exact n1' c (List.mem_cons_of_mem _ (List.mem_of_getElem? ec))
  · cases ef

/-! ### slices -/
def asOI : Option O → Option (Option Int)
  | none => some none
  | some (.dat (.int i)) => some (some i)
  | some _ => none
def cutD (xs : List D) (lo hi : Option Int) : List D := (xs.drop (HT.sIx xs.length 0 lo)).take (HT.sIx xs.length xs.length hi - HT.sIx xs.length 0 lo)
theorem cut_rp {R : Hp} {vs : List V} {lo hi : Option Int} (r : RpAll R vs xs) : RpAll R (cutV vs lo hi) (cutD xs lo hi) := by
  unfold cutV cutD
  rw [r.length]
  exact (r.drop _).take _
theorem cutV_map {ns : List Int} {lo hi : Option Int} : cutV (ns.map V.int) lo hi = ((ns.drop (HT.sIx ns.length 0 lo)).take (HT.sIx ns.length ns.length hi - HT.sIx ns.length 0 lo)).map V.int := by
  unfold cutV
  rw [List.length_map, ← List.map_drop, ← List.map_take]
/-- the bounds of a slice -/
abbrev Exo := En → Option (Option Int)
def oNo : Exo := fun _ => some none
def oAt (f : Ex) : Exo := fun env => (f env).bind fun o => (asI o).map some
def rO (K : PySem.W.Frag) (f : Exo) : TO := fun σ H Q => ∃ F R env i, StR K F σ R H env ∧ f env = some i ∧ ∀ R' H', Stp R H R' H' → Q i H'
abbrev POx (X : Cx) (e : Option Expr) (f : Exo) : Prop := PO X e (rO X.K f)
theorem PO.weak {X : Cx} {e : Option Expr} {t t' : TO} (p : PO X e t) (w : ∀ σ H Q, t' σ H Q → t σ H Q) : PO X e t' := ⟨fun pins s σ H Q I q => p.run pins s σ H Q I (w σ H Q q)⟩
theorem pox_no {X : Cx} : POx X none oNo := PO.weak po_none fun σ H Q q => by
  obtain ⟨F, R, env, i, st, ef, k⟩ := q
  cases ef
  exact k R H (Stp.refl st.rH)
theorem pox_at {X : Cx} {e : Expr} {f : Ex} (h : PX X e f) : POx X (some e) (oAt f) := PO.weak (po_some h) fun σ H Q q => by
  obtain ⟨F, R, env, i, st, ef, k⟩ := q
  obtain ⟨o, e1, ef⟩ := Option.bind_eq_some_iff.mp ef
  obtain ⟨j, ej, ef⟩ := Option.map_eq_some_iff.mp ef
  subst ef
  exact rX.use st e1 fun x R1 H1 fp s w n => ⟨j, asI_ow w ej, k R1 H1 s⟩
def gSl (a : O) (lo hi : Option Int) : Option O := match a with
  | .dat (.list xs) => some (.lst (cutD xs lo hi))
  | .lst xs => some (.lst (cutD xs lo hi))
  | .dat (.tuple xs) => some (.dat (.tuple (cutD xs lo hi)))
  | .scr ns => some (.lst (((ns.drop (HT.sIx ns.length 0 lo)).take (HT.sIx ns.length ns.length hi - HT.sIx ns.length 0 lo)).map .int))
  | _ => none
def eSl (f : Ex) (lo hi : Exo) : Ex := fun env => (f env).bind fun a => (lo env).bind fun l => (hi env).bind fun u => gSl a l u
theorem whole_cut {xs : List D} {lo hi : Option Int} (h : HT.sIx xs.length 0 lo = 0 ∧ HT.sIx xs.length xs.length hi = xs.length) : cutD xs lo hi = xs := by
  unfold cutD
  rw [h.1, h.2]
  simp
def rSlW (K : PySem.W.Frag) : V → Option Int → Option Int → Hp → VK → Prop := fun x lo hi H Q => ∃ a xs, x = .ref a ∧ SqT K H a xs ∧
  (HT.sIx xs.length 0 lo = 0 ∧ HT.sIx xs.length xs.length hi = xs.length → Q (.ref a) H) ∧ (¬ (HT.sIx xs.length 0 lo = 0 ∧ HT.sIx xs.length xs.length hi = xs.length) →
    ∀ p od, H p = none → od.dict = none → ∃ o : HO, (o = .tup (cutV xs lo hi) ∨ o = .frz od (.tup (cutV xs lo hi))) ∧ Q (.ref p) (upd H p o))
theorem sl_tupW {X : Cx} : L2.SlR X (rSlW X.K) := by
  intro pins s σ H x v vl vu lo hi sl Q I rx hs pl pu h
  obtain ⟨a, xs, rfl, tx, q1, q2⟩ := h
  cases rx
  obtain ⟨its, r, ht, zx⟩ := I.tuple tx
  have hlen : its.toArray.size = xs.length := List.size_toArray.trans r.length.symm
  refine ⟨"tuple", _, PyProof.Rows.slot_tuple_getitem.lookup, ht.typeIs, ?_⟩
  by_cases hw : HT.sIx xs.length 0 lo = 0 ∧ HT.sIx xs.length xs.length hi = xs.length
  · exact getItem_tuple_whole ht hs pl pu (by rw [hlen]; exact hw) ⟨.ref a, H, I, rfl, q1 hw⟩
  · refine HT.getItem_tuple_cut ht hs pl pu (by rw [hlen]; exact hw) ?_ (by rw [hlen]; exact zx)
    rw [hlen]
    obtain ⟨o, ho, q⟩ := q2 hw s.heap.objs.size { cls := .type "tuple", data := .seq ((its.drop (HT.sIx xs.length 0 lo)).take (HT.sIx xs.length xs.length hi - HT.sIx xs.length 0 lo)).toArray } (I.hok.fresh (Nat.le_refl _)) rfl
    exact ⟨.ref s.heap.objs.size, _, I.laid (t' := s.toks) (o := o) (fun b ob q => Heap.get?_push_of_some _ q) (Nat.le_refl _) (obj_tup (Nat.le_trans (cutV_length xs lo hi) zx) ((r.drop (HT.sIx xs.length 0 lo)).take (HT.sIx xs.length xs.length hi - HT.sIx xs.length 0 lo)) rfl (Heap.get?_push_size _ rfl) ho), rfl, q⟩
theorem pf_slice {X : Cx} {e : Expr} {lo hi : Option Expr} {f : Ex} {fl fh : Exo} {pos p2 : Pos} (he : PX X e f) (hl : POx X lo fl) (hu : POx X hi fh) : PF X (.Subscript e (.Slice lo hi none p2) pos) (eSl f fl fh) := by
  refine PE.weak (pe_slice (SlR.or sl_list sl_tupW) he hl hu) fun σ H Q q => ?_
  obtain ⟨F, R, env, o, st, ef, k⟩ := q
  unfold eSl at ef
  obtain ⟨o1, e1, ef⟩ := Option.bind_eq_some_iff.mp ef
  obtain ⟨l, el, ef⟩ := Option.bind_eq_some_iff.mp ef
  obtain ⟨u, eu, ef⟩ := Option.bind_eq_some_iff.mp ef
  refine rX.use st e1 fun x R1 H1 fp1 s1 w1 n1 => ?_
  refine ⟨F, R1, env, l, st.stp s1, el, fun R2 H2 s2 => ?_⟩
  refine ⟨F, R2, env, u, (st.stp s1).stp s2, eu, fun R3 H3 s3 => ?_⟩
  have s13 := s2.trans s3
  obtain ⟨w, n⟩ := w1.stp n1 s1.sub s13
  have s03 := s1.trans s13
  have lay : ∀ (vs : List V) (ds : List D), RpAll R3 vs ds → ∀ p, H3 p = none → (∀ x R' H' fp, Stp R H R' H' → Ow X.K R' H' x (.lst ds) fp → (∀ a ∈ fp, R' a = none ∧ H a = none) → Q x H') → Q (.ref p) (upd H3 p (.lst vs)) := fun vs ds r p np kk =>
    kk (.ref p) R3 _ [p] (s03.trans (Stp.lay' s13.sub np)) ⟨p, vs, rfl, rfl, upd_same, r⟩ fun c m => by
      rw [List.mem_singleton.mp m]
      exact ⟨s13.sub.none np, s03.none st.rH np⟩
  unfold gSl at ef
  split at ef
  · cases ef
    obtain ⟨a, vs, rfl, ea, r⟩ := asL_ow w s13.sub rfl
    exact .inl ⟨a, vs, rfl, .inl (.inl ea), fun p np => lay _ _ (cut_rp r) p np k⟩
  · cases ef
    obtain ⟨a, vs, rfl, ea, r⟩ := asL_ow w s13.sub rfl
    exact .inl ⟨a, vs, rfl, .inl (.inl ea), fun p np => lay _ _ (cut_rp r) p np k⟩
  · cases ef
    obtain ⟨a, vs, rfl, ea', ea, r⟩ := asT_ow w s13.sub rfl
    refine .inr ⟨a, vs, rfl, .inl ea, fun h => ?_, fun h p od np hd => ?_⟩
    · rw [r.length] at h
      rw [whole_cut h] at k
      exact k (.ref a) R3 H3 [] s03 ⟨rfl, .tup ea' r⟩ fun c m => by cases m
    · exact done_tw s13.sub np hd (cut_rp r) fun z R4 H4 fp4 st4 w4 n4 => k z R4 H4 fp4 (s03.trans st4) w4 fun b m => ⟨(n4 b m).1, s03.none st.rH (n4 b m).2⟩
  · cases ef
    rename_i ns _ _
    obtain ⟨_, a, rfl, q⟩ := w
    refine .inl ⟨a, ns.map V.int, rfl, sqL_gr s13.sub.gr q, fun p np => ?_⟩
    rw [cutV_map]
    exact lay _ _ (ints_rp _) p np k
  · cases ef
end
end TP

/-! Blt: built-ins by plain functions; stores into own lists and dicts. -/
namespace TP
open PySem PySem.Spec PyProof.Rows L2

section
variable {K : PySem.W.Frag} {R H : Hp} {x y v : V} {o o1 o2 : O} {fp fp1 fp2 : List Addr} {d e : D} {xs ys : List D}
/-- one argument -/
def g1 (g : O → Option O) : List O → Option O
  | [a] => g a
  | _ => none
def g2 (g : O → O → Option O) : List O → Option O
  | [a, b] => g a b
  | _ => none
/-- a new list -/
theorem done_l {Q : VK} {p : Addr} {vs : List V} {ds : List D} (hs : Sub R H) (np : H p = none) (r : RpAll R vs ds) (k : ∀ z R' H' fp, Stp R H R' H' → Ow K R' H' z (.lst ds) fp → (∀ a ∈ fp, R' a = none ∧ H a = none) → Q z H') : Q (.ref p) (upd H p (.lst vs)) :=
  k (.ref p) R _ [p] (Stp.lay' hs np) ⟨p, vs, rfl, rfl, upd_same, r⟩ fun c m => by
    rw [List.mem_singleton.mp m]
    exact ⟨hs.none np, np⟩
theorem done_t {Q : VK} {p : Addr} {vs : List V} {ds : List D} (hs : Sub R H) (np : H p = none) (nf : needF ds = false) (r : RpAll R vs ds) (k : ∀ z R' H' fp, Stp R H R' H' → Ow K R' H' z (.dat (.tuple ds)) fp → (∀ a ∈ fp, R' a = none ∧ H a = none) → Q z H') : Q (.ref p) (upd H p (.tup vs)) := by
  have s2 : Stp R H (upd R p (.tup vs)) (upd H p (.tup vs)) := Stp.lay hs np
  exact k (.ref p) _ _ [] s2 ⟨rfl, .tup (.mk nf upd_same) (r.mono s2.gr)⟩ fun c m => by cases m

/-! ### len -/
def gLen : O → Option O
  | .dat (.list xs) => some (oI xs.length)
  | .lst xs => some (oI xs.length)
  | .dat (.tuple xs) => some (oI xs.length)
  | .scr ns => some (oI ns.length)
  | .dat (.str z) => if small z.length = true then some (oI z.length) else none
  | _ => none
abbrev rLen (K : PySem.W.Frag) : List V → Hp → VK → Prop := fun xs H Q => (∃ p ys, xs = [.ref p] ∧ (SqL K H p ys ∨ SqT K H p ys) ∧ Q (.int ys.length) H) ∨ (∃ z, xs = [.str z] ∧ z.length ≤ sizeLine ∧ Q (.int z.length) H)
theorem cr_len' {X : Cx} : CallR X (.builtin "len") (rLen X.K) := CallR.or call_len_seq call_len_str
theorem ok_len : CaOk K (rLen K) (g1 gLen) := by
  intro R H vs os o Q hs w e k
  cases w with
  | nil => cases e
  | cons h t =>
    cases t with
    | cons _ _ => cases e
    | nil =>
      obtain ⟨fp, w, n⟩ := h
      have e : gLen _ = some o := e
      unfold gLen at e
      split at e
      · cases e
        obtain ⟨a, vs, rfl, ea, r⟩ := asL_ow w hs rfl
        refine .inl ⟨a, vs, rfl, .inl (.inl (.inl ea)), ?_⟩
        rw [r.length]
        exact done_sc hs k (.int _)
      · cases e
        obtain ⟨a, vs, rfl, ea, r⟩ := asL_ow w hs rfl
        refine .inl ⟨a, vs, rfl, .inl (.inl (.inl ea)), ?_⟩
        rw [r.length]
        exact done_sc hs k (.int _)
      · cases e
        obtain ⟨a, vs, rfl, _, ea, r⟩ := asT_ow w hs rfl
        refine .inl ⟨a, vs, rfl, .inr (.inl ea), ?_⟩
        rw [r.length]
        exact done_sc hs k (.int _)
      · cases e
        obtain ⟨_, a, rfl, q⟩ := w
        refine .inl ⟨a, _, rfl, .inl (sqL_gr hs.gr q), ?_⟩
        rw [List.length_map]
        exact done_sc hs k (.int _)
      · split at e
        · rename_i sm
          cases e
          obtain ⟨_, w⟩ := w
          cases w
          exact .inr ⟨_, rfl, small_le sm, done_sc hs k (.int _)⟩
        · cases e
      · cases e

/-! ### list, tuple -/
def gList : O → Option O
  | .dat (.list xs) => some (.lst xs)
  | .lst xs => some (.lst xs)
  | .dat (.tuple xs) => some (.lst xs)
  | .scr ns => some (.lst (ns.map .int))
  | _ => none
theorem ok_list : CaOk K (fun xs H Q => ∃ p ys, xs = [.ref p] ∧ (SqL K H p ys ∨ SqT K H p ys) ∧ ∀ l, H l = none → Q (.ref l) (upd H l (.lst ys))) (g1 gList) := by
  intro R H vs os o Q hs w e k
  cases w with
  | nil => cases e
  | cons h t =>
    cases t with
    | cons _ _ => cases e
    | nil =>
      obtain ⟨fp, w, n⟩ := h
      have e : gList _ = some o := e
      unfold gList at e
      split at e
      · cases e
        obtain ⟨a, vs, rfl, ea, r⟩ := asL_ow w hs rfl
        exact ⟨a, vs, rfl, .inl (.inl (.inl ea)), fun l nl => done_l hs nl r k⟩
      · cases e
        obtain ⟨a, vs, rfl, ea, r⟩ := asL_ow w hs rfl
        exact ⟨a, vs, rfl, .inl (.inl (.inl ea)), fun l nl => done_l hs nl r k⟩
      · cases e
        obtain ⟨a, vs, rfl, _, ea, r⟩ := asT_ow w hs rfl
        exact ⟨a, vs, rfl, .inr (.inl ea), fun l nl => done_l hs nl r k⟩
      · cases e
        obtain ⟨_, a, rfl, q⟩ := w
        exact ⟨a, _, rfl, .inl (sqL_gr hs.gr q), fun l nl => done_l hs nl (ints_rp _) k⟩
      · cases e
def gTuple : O → Option O
  | .dat (.list xs) => some (.dat (.tuple xs))
  | .lst xs => some (.dat (.tuple xs))
  | .dat (.tuple xs) => some (.dat (.tuple xs))
  | _ => none
theorem call_tupleW {X : Cx} : CallR X (.type "tuple") (fun xs H Q => ∃ p ys, xs = [.ref p] ∧ SqL X.K H p ys ∧ ∀ (l : Addr) (od : Obj), H l = none → od.dict = none → Q (.ref l) (upd H l (.frz od (.tup ys)))) := by
  intro pins s σ H xs us Q I r h
  obtain ⟨p, ys, e, hq, q⟩ := h
  subst e
  obtain ⟨u, eu, rx⟩ := vals1 r
  subst eu
  cases rx
  obtain ⟨its, rr, pl, hz⟩ := I.list hq
  have len := rr.length
  refine call_tuple_list pl.isList (fun h' kp => ?_) (by simp only [List.size_toArray] <;> omega)
  have J : Inv X pins σ H { s with heap := h' } := I.kept (t' := s.toks) kp
  have got : (h'.push { cls := .type "tuple", data := .seq its.toArray }).get? h'.objs.size = some { cls := .type "tuple", data := .seq its.toArray } := Heap.get?_push_size _ rfl
  have J2 := J.laid (a := h'.objs.size) (o := .frz { cls := .type "tuple", data := .seq its.toArray } (.tup ys)) (h' := h'.push { cls := .type "tuple", data := .seq its.toArray }) (t' := s.toks) (fun b o e => Heap.get?_push_of_some _ e) (Nat.le_refl _) ⟨got, hz, its, rr, IsTup.new _ _⟩
  exact ⟨.ref h'.objs.size, _, J2, rfl, q _ _ (J.hok.fresh (Nat.le_refl _)) rfl⟩
abbrev rTuple (K : PySem.W.Frag) : List V → Hp → VK → Prop := fun xs H Q => (∃ p ys, xs = [.ref p] ∧ ((SqL K H p ys ∧ ∀ l, H l = none → Q (.ref l) (upd H l (.tup ys))) ∨ (SqT K H p ys ∧ Q (.ref p) H))) ∨ ∃ p ys, xs = [.ref p] ∧ SqL K H p ys ∧ ∀ (l : Addr) (od : Obj), H l = none → od.dict = none → Q (.ref l) (upd H l (.frz od (.tup ys)))
theorem cr_tuple {X : Cx} : CallR X (.type "tuple") (rTuple X.K) := CallR.or call_tuple_of call_tupleW
theorem done_w {Q : VK} {p : Addr} {vs : List V} {ds : List D} {od : Obj} (hs : Sub R H) (np : H p = none) (hd : od.dict = none) (nf : needF ds = true) (r : RpAll R vs ds) (k : ∀ z R' H' fp, Stp R H R' H' → Ow K R' H' z (.dat (.tuple ds)) fp → (∀ a ∈ fp, R' a = none ∧ H a = none) → Q z H') : Q (.ref p) (upd H p (.frz od (.tup vs))) := by
  have s2 : Stp R H (upd R p (.frz od (.tup vs))) (upd H p (.frz od (.tup vs))) := Stp.lay hs np
  exact k (.ref p) _ _ [] s2 ⟨rfl, .tup (by unfold Rw; rw [if_pos nf]; exact ⟨od, upd_same, hd⟩) (r.mono s2.gr)⟩ fun c m => by cases m
theorem ok_tuple : CaOk K (rTuple K) (g1 gTuple) := by
  intro R H vs os o Q hs w e k
  cases w with
  | nil => cases e
  | cons h t =>
    cases t with
    | cons _ _ => cases e
    | nil =>
      obtain ⟨fp, w, n⟩ := h
      have e : gTuple _ = some o := e
      have go : ∀ {v : V} {o1 : O} {ds : List D} {fp1 : List Addr}, Ow K R H v o1 fp1 → asL o1 = some ds → o = .dat (.tuple ds) → rTuple K [v] H Q := by
        intro v o1 ds fp1 w ea eo
        subst eo
        obtain ⟨a, vs, rfl, ea, r⟩ := asL_ow w hs ea
        cases nf : needF ds with
        | true => exact .inr ⟨a, vs, rfl, .inl (.inl ea), fun l od nl hd => done_w hs nl hd nf r k⟩
        | false => exact .inl ⟨a, vs, rfl, .inl ⟨.inl (.inl ea), fun l nl => done_t hs nl nf r k⟩⟩
      unfold gTuple at e
      split at e
      · cases e
        exact go w rfl rfl
      · cases e
        exact go w rfl rfl
      · cases e
        obtain ⟨a, vs, rfl, ea', ea, r⟩ := asT_ow w hs rfl
        exact .inl ⟨a, vs, rfl, .inr ⟨.inl ea, done_sc hs k (.tup ea' r)⟩⟩
      · cases e

/-! ### ints -/
def gInt : O → Option O
  | .dat (.int i) => some (oI i)
  | .dat (.bool b) => some (oI (if b = true then 1 else 0))
  | _ => none
theorem ok_int : CaOk K (fun xs H Q => (∃ i, xs = [.int i] ∧ Q (.int i) H) ∨ ∃ k, xs = [.bl k] ∧ Q (.int (if k then 1 else 0)) H) (g1 gInt) := by
  intro R H vs os o Q hs w e k
  cases w with
  | nil => cases e
  | cons h t =>
    cases t with
    | cons _ _ => cases e
    | nil =>
      obtain ⟨fp, w, n⟩ := h
      have e : gInt _ = some o := e
      unfold gInt at e
      split at e
      · cases e
        exact .inl ⟨_, by rw [asI_ow w rfl], done_sc hs k (.int _)⟩
      · cases e
        exact .inr ⟨_, by rw [asB_ow w rfl], done_sc hs k (.int _)⟩
      · cases e
def gAbs : O → Option O := fun a => (asI a).map fun i => oI (if i < 0 then -i else i)
theorem ok_abs : CaOk K (fun xs H Q => ∃ i, xs = [.int i] ∧ Q (.int (if i < 0 then -i else i)) H) (g1 gAbs) := by
  intro R H vs os o Q hs w e k
  cases w with
  | nil => cases e
  | cons h t =>
    cases t with
    | cons _ _ => cases e
    | nil =>
      obtain ⟨fp, w, n⟩ := h
      obtain ⟨i, ei, e⟩ := Option.map_eq_some_iff.mp e
      subst e
      exact ⟨i, by rw [asI_ow w ei], done_sc hs k (.int _)⟩
def gMin2 : O → O → Option O := gII fun i j => some (.int (if j < i then j else i))
def gMax2 : O → O → Option O := gII fun i j => some (.int (if j > i then j else i))
theorem ok_two {f : Int → Int → Int} : CaOk K (fun xs H Q => ∃ i j, xs = [.int i, .int j] ∧ Q (.int (f i j)) H) (g2 (gII fun i j => some (.int (f i j)))) := by
  intro R H vs os o Q hs w e k
  cases w with
  | nil => cases e
  | cons h t =>
    cases t with
    | nil => cases e
    | cons h2 t =>
      cases t with
      | cons _ _ => cases e
      | nil =>
        obtain ⟨fp, w, n⟩ := h
        obtain ⟨fp2, w2, n2⟩ := h2
        obtain ⟨i, ei, e⟩ := Option.bind_eq_some_iff.mp e
        obtain ⟨j, ej, e⟩ := Option.bind_eq_some_iff.mp e
        cases e
        exact ⟨i, j, by rw [asI_ow w ei, asI_ow w2 ej], done_sc hs k (.int _)⟩
theorem ok_min2 : CaOk K (fun xs H Q => ∃ i j, xs = [.int i, .int j] ∧ Q (.int (if j < i then j else i)) H) (g2 gMin2) := ok_two
theorem ok_max2 : CaOk K (fun xs H Q => ∃ i j, xs = [.int i, .int j] ∧ Q (.int (if j > i then j else i)) H) (g2 gMax2) := ok_two
def asIs : List D → Option (List Int)
  | [] => some []
  | .int i :: r => (asIs r).map fun l => i :: l
  | _ :: _ => none
theorem asIs_rp {R : Hp} : ∀ {vs : List V} {ds : List D} {ns : List Int}, RpAll R vs ds → asIs ds = some ns → vs = ns.map V.int
  | _, _, _, .nil, e => by cases e; rfl
  | _, _, _, .cons (d := .int i) h t, e => by
    obtain ⟨l, el, e⟩ := Option.map_eq_some_iff.mp e
    subst e
    cases h
    rw [asIs_rp t el]
    rfl
  | _, _, _, .cons (d := .none) h t, e => by cases e
  | _, _, _, .cons (d := .bool _) h t, e => by cases e
  | _, _, _, .cons (d := .str _) h t, e => by cases e
  | _, _, _, .cons (d := .list _) h t, e => by cases e
  | _, _, _, .cons (d := .tuple _) h t, e => by cases e
  | _, _, _, .cons (d := .dict _) h t, e => by cases e
def asSs : List D → Option (List Str)
  | [] => some []
  | .str i :: r => (asSs r).map fun l => i :: l
  | _ :: _ => none
theorem asSs_rp {R : Hp} : ∀ {vs : List V} {ds : List D} {ns : List Str}, RpAll R vs ds → asSs ds = some ns → vs = ns.map V.str
  | _, _, _, .nil, e => by cases e; rfl
  | _, _, _, .cons (d := .str i) h t, e => by
    obtain ⟨l, el, e⟩ := Option.map_eq_some_iff.mp e
    subst e
    cases h
    rw [asSs_rp t el]
    rfl
  | _, _, _, .cons (d := .none) h t, e => by cases e
  | _, _, _, .cons (d := .bool _) h t, e => by cases e
  | _, _, _, .cons (d := .int _) h t, e => by cases e
  | _, _, _, .cons (d := .list _) h t, e => by cases e
  | _, _, _, .cons (d := .tuple _) h t, e => by cases e
  | _, _, _, .cons (d := .dict _) h t, e => by cases e
def asBs : List D → Option (List Bool)
  | [] => some []
  | .bool i :: r => (asBs r).map fun l => i :: l
  | _ :: _ => none
theorem asBs_rp {R : Hp} : ∀ {vs : List V} {ds : List D} {ns : List Bool}, RpAll R vs ds → asBs ds = some ns → vs = ns.map V.bl
  | _, _, _, .nil, e => by cases e; rfl
  | _, _, _, .cons (d := .bool i) h t, e => by
    obtain ⟨l, el, e⟩ := Option.map_eq_some_iff.mp e
    subst e
    cases h
    rw [asBs_rp t el]
    rfl
  | _, _, _, .cons (d := .none) h t, e => by cases e
  | _, _, _, .cons (d := .str _) h t, e => by cases e
  | _, _, _, .cons (d := .int _) h t, e => by cases e
  | _, _, _, .cons (d := .list _) h t, e => by cases e
  | _, _, _, .cons (d := .tuple _) h t, e => by cases e
  | _, _, _, .cons (d := .dict _) h t, e => by cases e
/-- max, min of a list of ints -/
def maxI : List Int → Int
  | [] => 0
  | i :: r => r.foldl (fun m j => if j > m then j else m) i
def minI : List Int → Int
  | [] => 0
  | i :: r => r.foldl (fun m j => if j < m then j else m) i
theorem foldl_max (r : List Int) : ∀ i, (r.foldl (fun m j => if j > m then j else m) i = i ∨ r.foldl (fun m j => if j > m then j else m) i ∈ r) ∧ i ≤ r.foldl (fun m j => if j > m then j else m) i ∧ ∀ y ∈ r, y ≤ r.foldl (fun m j => if j > m then j else m) i := by
  induction r with
  | nil => intro i; exact ⟨.inl rfl, Int.le_refl _, fun y m => by cases m⟩
  | cons z r ih =>
    intro i
    rw [List.foldl_cons]
    obtain ⟨h1, h2, h3⟩ := ih (if z > i then z else i)
    have hz : z ≤ (if z > i then z else i) ∧ i ≤ (if z > i then z else i) := by split <;> omega
    refine ⟨?_, by omega, fun y m => ?_⟩
    · rcases h1 with h1 | h1
      · rw [h1]
        split
        · exact .inr List.mem_cons_self
        · exact .inl rfl
      · exact .inr (List.mem_cons_of_mem _ h1)
    · rcases List.mem_cons.mp m with rfl | m
      · omega
      · exact h3 y m
theorem foldl_min (r : List Int) : ∀ i, (r.foldl (fun m j => if j < m then j else m) i = i ∨ r.foldl (fun m j => if j < m then j else m) i ∈ r) ∧ r.foldl (fun m j => if j < m then j else m) i ≤ i ∧ ∀ y ∈ r, r.foldl (fun m j => if j < m then j else m) i ≤ y := by
  induction r with
  | nil => intro i; exact ⟨.inl rfl, Int.le_refl _, fun y m => by cases m⟩
  | cons z r ih =>
    intro i
    rw [List.foldl_cons]
    obtain ⟨h1, h2, h3⟩ := ih (if z < i then z else i)
    have hz : (if z < i then z else i) ≤ z ∧ (if z < i then z else i) ≤ i := by split <;> omega
    refine ⟨?_, by omega, fun y m => ?_⟩
    · rcases h1 with h1 | h1
      · rw [h1]
        split
        · exact .inr List.mem_cons_self
        · exact .inl rfl
      · exact .inr (List.mem_cons_of_mem _ h1)
    · rcases List.mem_cons.mp m with rfl | m
      · omega
      · exact h3 y m
theorem maxI_mem {ns : List Int} (h : ns ≠ []) : maxI ns ∈ ns ∧ ∀ y ∈ ns, y ≤ maxI ns := by
  cases ns with
  | nil => exact absurd rfl h
  | cons i r =>
    obtain ⟨h1, h2, h3⟩ := foldl_max r i
    refine ⟨?_, fun y m => ?_⟩
    · rcases h1 with h1 | h1
      · show r.foldl _ i ∈ _
        rw [h1]; exact List.mem_cons_self
      · exact List.mem_cons_of_mem _ h1
    · rcases List.mem_cons.mp m with rfl | m
      · exact h2
      · exact h3 y m
theorem minI_mem {ns : List Int} (h : ns ≠ []) : minI ns ∈ ns ∧ ∀ y ∈ ns, minI ns ≤ y := by
  cases ns with
  | nil => exact absurd rfl h
  | cons i r =>
    obtain ⟨h1, h2, h3⟩ := foldl_min r i
    refine ⟨?_, fun y m => ?_⟩
    · rcases h1 with h1 | h1
      · show r.foldl _ i ∈ _
        rw [h1]; exact List.mem_cons_self
      · exact List.mem_cons_of_mem _ h1
    · rcases List.mem_cons.mp m with rfl | m
      · exact h2
      · exact h3 y m
def gMax1 : O → Option O := fun a => (asL a).bind fun ds => (asIs ds).bind fun ns => if ns.isEmpty = true then none else some (oI (maxI ns))
def gMin1 : O → Option O := fun a => (asL a).bind fun ds => (asIs ds).bind fun ns => if ns.isEmpty = true then none else some (oI (minI ns))
theorem ok_max1 : CaOk K (rMax K) (g1 gMax1) := by
  intro R H vs os o Q hs w e k
  cases w with
  | nil => cases e
  | cons h t =>
    cases t with
    | cons _ _ => cases e
    | nil =>
      obtain ⟨fp, w, n⟩ := h
      obtain ⟨ds, ed, e⟩ := Option.bind_eq_some_iff.mp e
      obtain ⟨ns, en, e⟩ := Option.bind_eq_some_iff.mp e
      split at e
      · cases e
      · rename_i hne
        cases e
        obtain ⟨a, vs, rfl, ea, r⟩ := asL_ow w hs ed
        have ev := asIs_rp r en
        subst ev
        have ne : ns ≠ [] := fun z => hne (by rw [z]; rfl)
        refine ⟨a, ns, rfl, .inl (.inl ea), List.length_pos_iff.mpr ne, fun m hm hle => ?_⟩
        obtain ⟨h1, h2⟩ := maxI_mem ne
        have em : m = maxI ns := Int.le_antisymm (h2 m hm) (hle _ h1)
        rw [em]
        exact done_sc hs k (.int _)
theorem ok_min1 : CaOk K (rMin K) (g1 gMin1) := by
  intro R H vs os o Q hs w e k
  cases w with
  | nil => cases e
  | cons h t =>
    cases t with
    | cons _ _ => cases e
    | nil =>
      obtain ⟨fp, w, n⟩ := h
      obtain ⟨ds, ed, e⟩ := Option.bind_eq_some_iff.mp e
      obtain ⟨ns, en, e⟩ := Option.bind_eq_some_iff.mp e
      split at e
      · cases e
      · rename_i hne
        cases e
        obtain ⟨a, vs, rfl, ea, r⟩ := asL_ow w hs ed
        have ev := asIs_rp r en
        subst ev
        have ne : ns ≠ [] := fun z => hne (by rw [z]; rfl)
        refine ⟨a, ns, rfl, .inl (.inl ea), List.length_pos_iff.mpr ne, fun m hm hle => ?_⟩
        obtain ⟨h1, h2⟩ := minI_mem ne
        have em : m = minI ns := Int.le_antisymm (hle _ h1) (h2 m hm)
        rw [em]
        exact done_sc hs k (.int _)
def gAll : O → Option O := fun a => (asL a).bind fun ds => (asBs ds).map fun bs => oB (bs.all id)
theorem ok_all : CaOk K (rAll K) (g1 gAll) := by
  intro R H vs os o Q hs w e k
  cases w with
  | nil => cases e
  | cons h t =>
    cases t with
    | cons _ _ => cases e
    | nil =>
      obtain ⟨fp, w, n⟩ := h
      obtain ⟨ds, ed, e⟩ := Option.bind_eq_some_iff.mp e
      obtain ⟨ns, en, e⟩ := Option.map_eq_some_iff.mp e
      subst e
      obtain ⟨a, vs, rfl, ea, r⟩ := asL_ow w hs ed
      have ev := asBs_rp r en
      subst ev
      exact ⟨a, ns, rfl, .inl (.inl ea), done_sc hs k (.bl _)⟩

/-! ### isinstance -/
def tyD : D → String
  | .none => "NoneType"
  | .bool _ => "bool"
  | .int _ => "int"
  | .str _ => "str"
  | .list _ => "list"
  | .tuple _ => "tuple"
  | .dict _ => "dict"
def isT (T : String) (d : D) : Bool := tyD d == T || (T == "int" && tyD d == "bool")
def notDict : D → Bool
  | .dict _ => false
  | _ => true
theorem tyx_of {x : V} {d : D} (r : Rp H x d) (nd : notDict d = true) : TyX K H x (.type (tyD d)) := by
  cases r with
  | non => exact .base .non
  | bl b => exact .base (.bl b)
  | int i => exact .base (.int i)
  | str z => exact .base (.str z)
  | lst e _ => exact .base (.lst e)
  | tup e _ =>
    rcases e.rd with e | ⟨od, e⟩
    · exact .base (.tup e)
    · exact .fTuple e
  | dk _ _ => cases nd
  | dt _ _ => cases nd
def kitOk (T : String) : Prop := ∀ t ∈ ["NoneType", "bool", "int", "str", "list", "tuple"], kitB t T = some (t == T || (T == "int" && t == "bool"))
theorem kit_int : kitOk "int" := by unfold kitOk; decide +kernel
theorem kit_bool : kitOk "bool" := by unfold kitOk; decide +kernel
theorem kit_str : kitOk "str" := by unfold kitOk; decide +kernel
theorem kit_list : kitOk "list" := by unfold kitOk; decide +kernel
theorem kit_tuple : kitOk "tuple" := by unfold kitOk; decide +kernel
theorem tyD_mem {d : D} (nd : notDict d = true) : tyD d ∈ ["NoneType", "bool", "int", "str", "list", "tuple"] := by
  cases d <;> first | cases nd; done | (simp [tyD])
theorem kit_of' {T : String} (hk : kitOk T) {d : D} (nd : notDict d = true) : PySem.W.kitOne K (.type (tyD d)) (.type T) = some (isT T d) := kit_ty (hk _ (tyD_mem nd))
def eIsi (T : String) (f : Ex) : Ex := fun env => (f env).bind fun o => o.data.bind fun d => if notDict d = true then some (oB (isT T d)) else none
def eIsi2 (T U : String) (f : Ex) : Ex := fun env => (f env).bind fun o => o.data.bind fun d => if notDict d = true then some (oB (isT T d || isT U d)) else none
theorem pf_isi {X : Cx} {e : Expr} {f : Ex} {p p2 pos : Pos} {T : String} {Ts : Str} (hg : Gl X "isinstance") (hm : X.mg "isinstance" = none) (he : PX X e f) (hgT : Gl X Ts) (hmT : X.mg Ts = none) (hv : bootBuiltins Ts = some (.type T)) (hk : kitOk T)
    (hn : Ts ≠ "__name__" := by decide) (hd : (Ts == ("__debug__" : Str)) = false := by decide) (hs : starEach [e, .Name Ts p2] X.env = (false, eval e X.env) :: starEach [.Name Ts p2] X.env := by rfl) (hpl : (backTo pos (starEach [.Name Ts p2] X.env)).any (·.1) = false := by rfl) :
    PF X (.Call (.Name "isinstance" p) [e, .Name Ts p2] [] pos) (eIsi T f) := by
  refine PE.weak (pe_callB call_isi hg hm (by decide +kernel) (pa_cons he (pa_cons (pe_bltn (v := .ty T) hgT hmT hv rfl hn hd) pa_nil) hs) (by decide) (by decide) hs hpl) fun σ H Q q => ?_
  obtain ⟨F, R, env, o, st, ef, k⟩ := q
  obtain ⟨o1, e1, ef⟩ := Option.bind_eq_some_iff.mp ef
  obtain ⟨d, ed, ef⟩ := Option.bind_eq_some_iff.mp ef
  split at ef
  · rename_i nd
    cases ef
    refine rX.use st e1 fun x R1 H1 fp s w n => ?_
    refine ⟨x, .ty T, _, _, isT T d, rfl, .ty T, tyx_of (w.rp s.sub ed) nd, kit_of' hk nd, ?_⟩
    exact k _ R1 H1 [] s ⟨rfl, .bl _⟩ fun a m => by cases m
  · cases ef
theorem pf_isi2 {X : Cx} {e : Expr} {f : Ex} {p p2 p3 pt pos : Pos} {kk : Nat} {T U : String} {Ts Us : Str} (hg : Gl X "isinstance") (hm : X.mg "isinstance" = none) (he : PX X e f) (hgT : Gl X Ts) (hmT : X.mg Ts = none) (hv : bootBuiltins Ts = some (.type T)) (hk : kitOk T) (hgU : Gl X Us) (hmU : X.mg Us = none) (hvU : bootBuiltins Us = some (.type U)) (hkU : kitOk U)
    (hn : Ts ≠ "__name__" := by decide) (hd : (Ts == ("__debug__" : Str)) = false := by decide) (hnU : Us ≠ "__name__" := by decide) (hdU : (Us == ("__debug__" : Str)) = false := by decide)
    (hs : starEach [e, .Tuple [.Name Ts p2, .Name Us p3] kk pt] X.env = (false, eval e X.env) :: starEach [.Tuple [.Name Ts p2, .Name Us p3] kk pt] X.env := by rfl) (hpl : (backTo pos (starEach [.Tuple [.Name Ts p2, .Name Us p3] kk pt] X.env)).any (·.1) = false := by rfl) :
    PF X (.Call (.Name "isinstance" p) [e, .Tuple [.Name Ts p2, .Name Us p3] kk pt] [] pos) (eIsi2 T U f) := by
  refine PE.weak (pe_callB call_isiT hg hm (by decide +kernel) (pa_cons he (pa_cons (pe_tup (pa_cons (pe_bltn (v := .ty T) hgT hmT hv rfl hn hd) (pa_cons (pe_bltn (v := .ty U) hgU hmU hvU rfl hnU hdU) pa_nil))) pa_nil) hs) (by decide) (by decide) hs hpl) fun σ H Q q => ?_
  obtain ⟨F, R, env, o, st, ef, k⟩ := q
  obtain ⟨o1, e1, ef⟩ := Option.bind_eq_some_iff.mp ef
  obtain ⟨d, ed, ef⟩ := Option.bind_eq_some_iff.mp ef
  split at ef
  · rename_i nd
    cases ef
    refine rX.use st e1 fun x R1 H1 fp s w n => ?_
    refine ⟨by show 2 ≤ sizeLine; decide, fun q nq => ?_⟩
    have s2 : Stp R1 H1 R1 (upd H1 q (.tup [.ty T, .ty U])) := Stp.lay' s.sub nq
    refine ⟨x, q, _, _, [.type T, .type U], isT T d || isT U d, rfl, upd_same, .cons (.ty T) (.cons (.ty U) .nil), tyx_of ((w.stp n s.sub s2).1.rp s2.sub ed) nd, ?_, ?_⟩
    · refine kitAny_cons (kit_of' hk nd) (fun z => kitAny_cons (kit_of' hkU nd) (fun z2 => ?_) fun z2 => ?_) fun z => ?_
      · rw [z, z2]; rfl
      · rw [z, z2]; rfl
      · rw [z]; rfl
    · exact k _ R1 _ [] (s.trans s2) ⟨rfl, .bl _⟩ fun a m => by cases m
  · cases ef

/-! ### sorted -/
def sortD (ds : List D) : List D := ds.mergeSort (PySem.W.dataLe false id)
/-- what sorted serves: all of one kind -/
def alikeL (ds : List D) : Bool := ds.all fun d => ds.all fun e => PySem.W.alike d e
def sortKind (ds : List D) : Bool := ds.all (fun d => match d with | .tuple (_ :: _) => true | _ => false) || ds.all (fun d => match d with | .none => false | .tuple _ => false | _ => true)
def sortOk (ds : List D) : Bool := (small ds.length && alikeL ds) && (sortKind ds && ds.all SeqAt.shaped)
theorem alikeL_ok {ds : List D} (h : alikeL ds = true) : PySem.W.AllAlike ds := fun d hd e he => List.all_eq_true.mp (List.all_eq_true.mp h d hd) e he
theorem sortKind_ok {ds : List D} (h : sortKind ds = true) : PySem.W.Sortable ds := by
  unfold sortKind at h
  rw [Bool.or_eq_true] at h
  rcases h with h | h
  · refine .inl fun d hd => ?_
    have q := List.all_eq_true.mp h d hd
    split at q
    · exact ⟨_, _, rfl⟩
    · cases q
  · refine .inr fun d hd => ?_
    have q := List.all_eq_true.mp h d hd
    refine ⟨fun z => ?_, fun xs z => ?_⟩
    · subst z; cases q
    · subst z; cases q
def rSortedD (K : PySem.W.Frag) : List V → Hp → VK → Prop := fun vs H Q => ∃ (a : Addr) (ws : List V) (ds : List D), vs = [.ref a] ∧ SqL K H a ws ∧ RpAll H ws ds ∧ sortOk ds = true ∧ ∀ (p : Addr) (zs : List V), H p = none → (∀ R, Sub R H → RpAll R ws ds → RpAll R zs (sortD ds)) → Q (.ref p) (upd H p (.lst zs))
theorem each_reads {X : Cx} {pins : List (Addr × Obj)} {σ : L2.St} {s : Shared} (I : Inv X pins σ H s) : ∀ {vs : List V} {ds : List D} {us : List Value}, RpAll H vs ds → Vals vs us → ds.all SeqAt.shaped = true → PySem.W.EachIs (fun v (b : V × D) => ∃ as, Reads s.heap v b.2 as) us (vs.zip ds)
  | _, _, _, .nil, .nil, _ => .nil
  | _, _, _, .cons h t, .cons r r', c => by
    rw [List.all_cons, Bool.and_eq_true] at c
    exact .cons (Dp.reads I _ _ _ (h.dp _ _ (shaped_lay c.1)) r) (each_reads I t r' c.2)
theorem each_rel : ∀ {vs : List V} {ds : List D} {us : List Value}, vs.length = ds.length → Vals vs us → PySem.W.EachIs (fun v (b : V × D) => RelV b.1 v) us (vs.zip ds)
  | [], [], _, _, .nil => .nil
  | _ :: _, _ :: _, _, hl, .cons r r' => .cons r (each_rel (by simpa using hl) r')
  | [], _ :: _, _, hl, _ => by cases hl
  | _ :: _, [], _, hl, _ => by cases hl
theorem each_vals : ∀ {us : List Value} {bs : List (V × D)}, PySem.W.EachIs (fun v (b : V × D) => RelV b.1 v) us bs → Vals (bs.map (·.1)) us
  | _, _, .nil => .nil
  | _, _, .cons r t => .cons r (each_vals t)
theorem zip_fst {α β : Type} : ∀ {l : List α} {m : List β}, l.length = m.length → (l.zip m).map (·.2) = m
  | [], [], _ => rfl
  | _ :: _, _ :: _, h => by rw [List.zip_cons_cons, List.map_cons, zip_fst (by simpa using h)]
  | [], _ :: _, h => by cases h
  | _ :: _, [], h => by cases h
theorem rpall_of_mem {R : Hp} : ∀ {bs : List (V × D)}, (∀ b ∈ bs, Rp R b.1 b.2) → RpAll R (bs.map (·.1)) (bs.map (·.2))
  | [], _ => .nil
  | b :: bs, h => .cons (h b List.mem_cons_self) (rpall_of_mem fun c m => h c (List.mem_cons_of_mem _ m))
theorem rpall_mem {R : Hp} : ∀ {vs : List V} {ds : List D}, RpAll R vs ds → ∀ b ∈ vs.zip ds, Rp R b.1 b.2
  | _, _, .nil, b, m => by cases m
  | _, _, .cons h t, b, m => by
    rw [List.zip_cons_cons] at m
    rcases List.mem_cons.mp m with rfl | m
    · exact h
    · exact rpall_mem t b m
theorem cr_sortedD {X : Cx} {k : Nat} (hr : Room k X.A) : CallR X (.builtin "sorted") (rSortedD X.K) := by
  intro pins s σ H vs us Q I r h
  obtain ⟨a, ws, ds, rfl, hq, rp, ok, q⟩ := h
  obtain ⟨its, rv, hl, hz⟩ := I.list hq
  obtain rfl := Vals.ref1 r
  unfold sortOk at ok
  simp only [Bool.and_eq_true] at ok
  obtain ⟨⟨sm, al⟩, sk, shp⟩ := ok
  have len := rp.length
  have zl : (ws.zip ds).map (·.2) = ds := zip_fst len
  have zlen : (ws.zip ds).length = ds.length := by rw [List.length_zip, len]; simp
  refine PySem.W.sorted_data (vs := its) (bs := ws.zip ds) (enc := fun b => b.2) hl.isList (each_rel len rv) (each_reads I rp rv shp) (by rw [zl]; exact alikeL_ok al) (by rw [zl]; exact sortKind_ok sk) (by rw [zlen]; exact small_le sm) (fun b hb => ?_) fun out ho eo => ?_
  · have hd : b.2 ∈ ds := by rw [← zl]; exact List.mem_map_of_mem hb
    have h64 := SeqAt.depth_of_shaped (List.all_eq_true.mp shp b.2 hd)
    have := hr.un
    omega
  · obtain ⟨ep, he'⟩ := PyProof.Rows.sortedAll_at s.heap its out.toArray
    have rv2 : Vals (((ws.zip ds).mergeSort (PySem.W.dataLe false fun b => b.2)).map (·.1)) out := each_vals eo
    have e2 : ((ws.zip ds).mergeSort (PySem.W.dataLe false fun b => b.2)).map (·.2) = sortD ds := by
      unfold sortD
      exact (PySem.W.sort_maps (r := PySem.W.dataLe false fun b : V × D => b.2) (s := PySem.W.dataLe false id) (fun b : V × D => b.2) (fun _ _ _ _ => rfl)).trans (by rw [zl])
    have hlen : (((ws.zip ds).mergeSort (PySem.W.dataLe false fun b => b.2)).map (·.1)).length ≤ sizeLine := by
      rw [List.length_map, List.length_mergeSort, zlen]; exact small_le sm
    refine ⟨.ref _, upd H (s.heap.objs.size + 1) (.lst _), I.laid (t' := s.toks) (fun _ _ => PyProof.Rows.sortedAll_old) (Nat.le_succ _) ⟨hlen, out, ep, rv2, by simpa using he'⟩, rfl, q _ _ (I.hok.fresh (Nat.le_succ _)) fun R hs r1 => ?_⟩
    rw [← e2]
    exact rpall_of_mem fun b m => rpall_mem r1 b (List.mem_mergeSort.mp m)
def gSorted : O → Option O := fun a => (asL a).bind fun ds => if sortOk ds = true then some (.lst (sortD ds)) else none
theorem asL_ow' : ∀ {o : O}, Ow K R H x o fp → Sub R H → asL o = some xs → ∃ a vs, x = .ref a ∧ H a = some (.lst vs) ∧ RpAll R vs xs := fun w hs e => asL_ow w hs e
theorem ok_sorted : CaOk K (rSortedD K) (g1 gSorted) := by
  intro R H vs os o Q hs w e k
  cases w with
  | nil => cases e
  | cons h t =>
    cases t with
    | cons _ _ => cases e
    | nil =>
      obtain ⟨fp, w, n⟩ := h
      obtain ⟨ds, ed, e⟩ := Option.bind_eq_some_iff.mp e
      split at e
      · rename_i ok
        cases e
        obtain ⟨a, vs, rfl, ea, r⟩ := asL_ow w hs ed
        exact ⟨a, vs, ds, rfl, .inl (.inl ea), r.mono hs.gr, ok, fun p zs np hz => done_l hs np (hz R hs r) k⟩
      · cases e

/-! ### join -/
def eJoin (f g : Ex) : Ex := fun env => (f env).bind fun a => (asS a).bind fun s => (g env).bind fun b => (asL b).bind fun ds => (asSs ds).bind fun ys => if small ((ys.map (·.length)).sum + ys.length * s.length) = true then some (oS (Txt.join s ys)) else none
theorem pf_join {X : Cx} {o e : Expr} {f g : Ex} {apos pos : Pos} (ho : PX X o f) (he : PX X e g) (hs : starEach [e] X.env = [(false, eval e X.env)] := by rfl) (hbase : attributeBase o "join" X.env (eval o X.env) = eval o X.env := by rfl) (hline : (apos.endLine == pos.line) = true := by rfl) :
    PF X (.Call (.Attribute o "join" apos) [e] [] pos) (eJoin f g) := by
  refine PE.weak (pe_join ho he hs hbase hline) fun σ H Q q => ?_
  obtain ⟨F, R, env, o, st, ef, k⟩ := q
  obtain ⟨o1, e1, ef⟩ := Option.bind_eq_some_iff.mp ef
  obtain ⟨s0, es, ef⟩ := Option.bind_eq_some_iff.mp ef
  obtain ⟨o2, e2, ef⟩ := Option.bind_eq_some_iff.mp ef
  obtain ⟨ds, ed, ef⟩ := Option.bind_eq_some_iff.mp ef
  obtain ⟨ys, ey, ef⟩ := Option.bind_eq_some_iff.mp ef
  split at ef
  · rename_i sm
    cases ef
    refine rX.use st e1 fun x R1 H1 fp1 s1 w1 n1 => ⟨⟨s0, asS_ow w1 es⟩, ?_⟩
    refine rX.use (st.stp s1) e2 fun y R2 H2 fp2 s2 w2 n2 => ?_
    obtain ⟨a, vs, rfl, ea, r⟩ := asL_ow w2 s2.sub ed
    have ev := asSs_rp r ey
    subst ev
    have sm' := of_decide_eq_true sm
    refine ⟨s0, a, ys, asS_ow w1 es, rfl, .inl (.inl (.inl ea)), by omega, ?_⟩
    exact k _ R2 H2 [] (s1.trans s2) ⟨rfl, .str _⟩ fun c m => by cases m
  · cases ef

/-! ### dicts -/
theorem eqv_key (a b : Key) : PyData.eqv (keyD a) (keyD b) = decide (a = b) := by
  cases a with
  | inl i =>
    cases b with
    | inl j =>
      show PyData.eqv (.int i) (.int j) = _
      rw [PyData.eqv, key_ll]
    | inr y => rw [key_lr]; rfl
  | inr x =>
    cases b with
    | inl j => rw [key_rl]; rfl
    | inr y =>
      show PyData.eqv (.str x) (.str y) = _
      rw [PyData.eqv, key_rr]
      exact Bool.beq_eq_decide_eq x y
theorem eqv_keysA : ∀ as bs : List Key, PyData.eqvAll (as.map keyD) (bs.map keyD) = decide (as = bs)
  | [], [] => rfl
  | [], _ :: _ => rfl
  | _ :: _, [] => rfl
  | a :: as, b :: bs => by
    rw [List.map_cons, List.map_cons, PyData.eqvAll, eqv_key, eqv_keysA as bs, Bool.eq_iff_iff]
    simp
theorem eqv_keys (as bs : List Key) : PyData.eqv (.tuple (as.map keyD)) (.tuple (bs.map keyD)) = decide (as = bs) := by
  rw [PyData.eqv, eqv_keysA]
def getD (kvs : List (D × D)) (k : D) : Option D := (kvs.find? fun kv => PyData.eqv kv.1 k).map (·.2)
def putD (kvs : List (D × D)) (k d : D) : List (D × D) := if (kvs.any fun kv => PyData.eqv kv.1 k) = true then kvs.map (fun kv => if PyData.eqv kv.1 k = true then (kv.1, d) else kv) else kvs ++ [(k, d)]
theorem getK_rp {R : Hp} (k : Key) : ∀ {ks : List (Key × V)} {kvs : List (D × D)}, RpK R ks kvs → (∀ d, getD kvs (keyD k) = some d → ∃ v, valV ks k = some v ∧ Rp R v d) ∧ (getD kvs (keyD k) = none → valV ks k = none)
  | _, _, .nil => ⟨fun d e => (by cases e), fun _ => rfl⟩
  | _, _, .cons (k := k') (v := v') (ks := ks') (d := d') (ds := ds') h t => by
    obtain ⟨h1, h2⟩ := getK_rp k t
    have ee := eqv_key k' k
    by_cases e : k' = k
    · rw [decide_eq_true e] at ee
      have e1 : getD ((keyD k', d') :: ds') (keyD k) = some d' := by unfold getD; rw [List.find?_cons]; dsimp only; rw [ee]; rfl
      rw [e1]
      refine ⟨fun d ed => ?_, fun z => by cases z⟩
      cases ed
      exact ⟨v', valV_pos (p := (k', v')) e, h⟩
    · rw [decide_eq_false e] at ee
      have e1 : getD ((keyD k', d') :: ds') (keyD k) = getD ds' (keyD k) := by unfold getD; rw [List.find?_cons]; dsimp only; rw [ee]
      rw [e1, valV_neg (p := (k', v')) e]
      exact ⟨h1, h2⟩
theorem getT_rp {R : Hp} (k : List Key) : ∀ {ks : List (List Key × V)} {kvs : List (D × D)}, RpT R ks kvs → (∀ d, getD kvs (.tuple (k.map keyD)) = some d → ∃ v, valV ks k = some v ∧ Rp R v d) ∧ (getD kvs (.tuple (k.map keyD)) = none → valV ks k = none)
  | _, _, .nil => ⟨fun d e => (by cases e), fun _ => rfl⟩
  | _, _, .cons (k := k') (v := v') (ks := ks') (d := d') (ds := ds') h t => by
    obtain ⟨h1, h2⟩ := getT_rp k t
    have ee := eqv_keys k' k
    by_cases e : k' = k
    · rw [decide_eq_true e] at ee
      have e1 : getD ((.tuple (k'.map keyD), d') :: ds') (.tuple (k.map keyD)) = some d' := by unfold getD; rw [List.find?_cons]; dsimp only; rw [ee]; rfl
      rw [e1]
      refine ⟨fun d ed => ?_, fun z => by cases z⟩
      cases ed
      exact ⟨v', valV_pos (p := (k', v')) e, h⟩
    · rw [decide_eq_false e] at ee
      have e1 : getD ((.tuple (k'.map keyD), d') :: ds') (.tuple (k.map keyD)) = getD ds' (.tuple (k.map keyD)) := by unfold getD; rw [List.find?_cons]; dsimp only; rw [ee]
      rw [e1, valV_neg (p := (k', v')) e]
      exact ⟨h1, h2⟩
theorem anyK_rp {R : Hp} (k : Key) : ∀ {ks : List (Key × V)} {kvs : List (D × D)}, RpK R ks kvs → (kvs.any fun kv => PyData.eqv kv.1 (keyD k)) = ks.any fun kv => decide (kv.1 = k)
  | _, _, .nil => rfl
  | _, _, .cons h t => by rw [List.any_cons, List.any_cons, eqv_key, anyK_rp k t]
theorem anyT_rp {R : Hp} (k : List Key) : ∀ {ks : List (List Key × V)} {kvs : List (D × D)}, RpT R ks kvs → (kvs.any fun kv => PyData.eqv kv.1 (.tuple (k.map keyD))) = ks.any fun kv => decide (kv.1 = k)
  | _, _, .nil => rfl
  | _, _, .cons h t => by rw [List.any_cons, List.any_cons, eqv_keys, anyT_rp k t]
theorem mapK_rp {R : Hp} {v : V} {d : D} (r : Rp R v d) (k : Key) : ∀ {ks : List (Key × V)} {kvs : List (D × D)}, RpK R ks kvs → RpK R (ks.map fun kv => if kv.1 = k then (kv.1, v) else kv) (kvs.map fun kv => if PyData.eqv kv.1 (keyD k) = true then (kv.1, d) else kv)
  | _, _, .nil => .nil
  | _, _, .cons (k := k') h t => by
    rw [List.map_cons, List.map_cons]
    have ih := mapK_rp r k t
    by_cases e : k' = k
    · rw [if_pos e, if_pos (by rw [eqv_key, decide_eq_true e])]
      exact .cons r ih
    · rw [if_neg e, if_neg (by rw [eqv_key, decide_eq_false e]; exact Bool.false_ne_true)]
      exact .cons h ih
theorem mapT_rp {R : Hp} {v : V} {d : D} (r : Rp R v d) (k : List Key) : ∀ {ks : List (List Key × V)} {kvs : List (D × D)}, RpT R ks kvs → RpT R (ks.map fun kv => if kv.1 = k then (kv.1, v) else kv) (kvs.map fun kv => if PyData.eqv kv.1 (.tuple (k.map keyD)) = true then (kv.1, d) else kv)
  | _, _, .nil => .nil
  | _, _, .cons (k := k') h t => by
    rw [List.map_cons, List.map_cons]
    have ih := mapT_rp r k t
    by_cases e : k' = k
    · rw [if_pos e, if_pos (by rw [eqv_keys, decide_eq_true e])]
      exact .cons r ih
    · rw [if_neg e, if_neg (by rw [eqv_keys, decide_eq_false e]; exact Bool.false_ne_true)]
      exact .cons h ih
theorem snocK_rp {R : Hp} {v : V} {d : D} (r : Rp R v d) (k : Key) : ∀ {ks : List (Key × V)} {kvs : List (D × D)}, RpK R ks kvs → RpK R (ks ++ [(k, v)]) (kvs ++ [(keyD k, d)])
  | _, _, .nil => .cons r .nil
  | _, _, .cons h t => .cons h (snocK_rp r k t)
theorem snocT_rp {R : Hp} {v : V} {d : D} (r : Rp R v d) (k : List Key) : ∀ {ks : List (List Key × V)} {kvs : List (D × D)}, RpT R ks kvs → RpT R (ks ++ [(k, v)]) (kvs ++ [(.tuple (k.map keyD), d)])
  | _, _, .nil => .cons r .nil
  | _, _, .cons h t => .cons h (snocT_rp r k t)
theorem putK_rp {R : Hp} {v : V} {d : D} (r : Rp R v d) (k : Key) {ks : List (Key × V)} {kvs : List (D × D)} (h : RpK R ks kvs) : RpK R (putK ks k v) (putD kvs (keyD k) d) := by
  unfold putK putD
  rw [anyK_rp k h]
  split
  · exact mapK_rp r k h
  · exact snocK_rp r k h
theorem putT_rp {R : Hp} {v : V} {d : D} (r : Rp R v d) (k : List Key) {ks : List (List Key × V)} {kvs : List (D × D)} (h : RpT R ks kvs) : RpT R (putK ks k v) (putD kvs (.tuple (k.map keyD)) d) := by
  unfold putK putD
  rw [anyT_rp k h]
  split
  · exact mapT_rp r k h
  · exact snocT_rp r k h
/-- keys among data -/
def asK : D → Option Key
  | .int i => some (.inl i)
  | .str x => some (.inr x)
  | _ => none
def asKs : List D → Option (List Key)
  | [] => some []
  | d :: r => (asK d).bind fun k => (asKs r).map fun l => k :: l
theorem asK_rp {R : Hp} {v : V} {d : D} {k : Key} (r : Rp R v d) (e : asK d = some k) : v = kV k ∧ d = keyD k := by
  cases r <;> cases e <;> exact ⟨rfl, rfl⟩
theorem asKs_rp {R : Hp} : ∀ {vs : List V} {ds : List D} {k : List Key}, RpAll R vs ds → asKs ds = some k → vs = k.map kV ∧ ds = k.map keyD
  | _, _, _, .nil, e => by cases e; exact ⟨rfl, rfl⟩
  | _, _, _, .cons h t, e => by
    obtain ⟨k0, e0, e⟩ := Option.bind_eq_some_iff.mp e
    obtain ⟨l, el, e⟩ := Option.map_eq_some_iff.mp e
    subst e
    obtain ⟨h1, h2⟩ := asK_rp h e0
    obtain ⟨h3, h4⟩ := asKs_rp t el
    exact ⟨by rw [h1, h3]; rfl, by rw [h2, h4]; rfl⟩
/-- what a dict holds: of plain keys, of tuples -/
inductive Dic where
  | k (kvs : List (D × D))
  | t (kvs : List (D × D))
def asDic : O → Option Dic
  | .dat (.dict ((.none, _) :: r)) => some (.t r)
  | .dat (.dict r) => some (.k r)
  | .dK r => some (.k r)
  | .dT r => some (.t r)
  | _ => none
def DicR (R H : Hp) (x : V) : Dic → Prop
  | .k kvs => ∃ a ks, x = .ref a ∧ Rd H a (.dK ks) ∧ RpK R ks kvs
  | .t kvs => ∃ a ks, x = .ref a ∧ Rd H a (.dT ks) ∧ RpT R ks kvs
theorem asDic_K {R : Hp} {ks : List (Key × V)} {kvs : List (D × D)} (r : RpK R ks kvs) : asDic (.dat (.dict kvs)) = some (.k kvs) := by
  cases r with
  | nil => rfl
  | cons h t =>
    rename_i k v ks' dd ds'
    cases k <;> rfl
theorem asDic_ow {K : PySem.W.Frag} {R H : Hp} {x : V} {fp : List Addr} {c : Dic} : ∀ {o : O}, Ow K R H x o fp → Sub R H → asDic o = some c → DicR R H x c
  | .dat d, w, s, e => by
    obtain ⟨_, w⟩ := w
    cases w with
    | dk ea r =>
      rw [asDic_K r] at e
      cases e
      exact ⟨_, _, rfl, s.gr.rd ea, r⟩
    | dt ea r => cases e; exact ⟨_, _, rfl, s.gr.rd ea, r⟩
    | _ => cases e
  | .dK kvs, w, s, e => by
    cases e
    obtain ⟨a, ks, rfl, _, ea, r⟩ := w
    exact ⟨a, ks, rfl, .inl ea, r⟩
  | .dT kvs, w, s, e => by
    cases e
    obtain ⟨a, ks, rfl, _, ea, r⟩ := w
    exact ⟨a, ks, rfl, .inl ea, r⟩
  | .lst _, _, _, e => by cases e
  | .lls _, _, _, e => by cases e
  | .pr _ _, _, _, e => by cases e
  | .scr _, _, _, e => by cases e
/-- what a dict holds at a key; none: the key is of another kind -/
def dicGet (c : Dic) (k : D) : Option (Option D) := match c with
  | .k kvs => (asK k).map fun _ => getD kvs k
  | .t kvs => match k with
    | .tuple ds => (asKs ds).map fun _ => getD kvs k
    | _ => none
def OptR (R : Hp) (ov : Option V) : Option D → Prop
  | some d => ∃ v, ov = some v ∧ Rp R v d
  | none => ov = none
theorem dic_get {R H : Hp} {x y : V} {c : Dic} {k : D} {od : Option D} (h : DicR R H x c) (rk : Rp H y k) (e : dicGet c k = some od) : ∃ a ov, x = .ref a ∧ DGet H a y ov ∧ OptR R ov od := by
  cases c with
  | k kvs =>
    obtain ⟨a, ks, rfl, ea, r⟩ := h
    obtain ⟨k0, ek, e⟩ := Option.map_eq_some_iff.mp e
    obtain ⟨h1, h2⟩ := asK_rp rk ek
    subst e
    refine ⟨a, valV ks k0, rfl, .inl ⟨ks, k0, ea, h1, rfl⟩, ?_⟩
    obtain ⟨g1, g2⟩ := getK_rp k0 r
    rw [h2]
    cases q : getD kvs (keyD k0) with
    | none => exact g2 q
    | some d => exact g1 d q
  | t kvs =>
    obtain ⟨a, ks, rfl, ea, r⟩ := h
    cases k with
    | tuple ds =>
      obtain ⟨k0, ek, e⟩ := Option.map_eq_some_iff.mp e
      cases rk with
      | tup eb rb =>
        rename_i b vs
        obtain ⟨h1, h2⟩ := asKs_rp rb ek
        subst h1 h2
        subst e
        refine ⟨a, valV ks k0, rfl, .inr ⟨ks, k0, b, ea, rfl, eb.plain (nf_keys k0), rfl⟩, ?_⟩
        obtain ⟨g1, g2⟩ := getT_rp k0 r
        cases q : getD kvs (.tuple (k0.map keyD)) with
        | none => exact g2 q
        | some d => exact g1 d q
    | _ => cases e
def eDGet (f g : Ex) : Ex := fun env => (f env).bind fun a => (g env).bind fun b => (asDic a).bind fun c => (asD b).bind fun k => (dicGet c k).bind fun od => od.map .dat
theorem asD_dat {o : O} {d : D} (e : asD o = some d) : o = .dat d := by
  cases o <;> cases e
  rfl
theorem DicR.stp {R H R' H' : Hp} {x : V} {c : Dic} (h : DicR R H x c) (g : Gr R R') (k : ∀ a u, isDic u = true → Rd H a u → Rd H' a u) : DicR R' H' x c := by
  cases c with
  | k kvs =>
    obtain ⟨a, ks, rfl, ea, r⟩ := h
    exact ⟨a, ks, rfl, k _ _ rfl ea, r.mono g⟩
  | t kvs =>
    obtain ⟨a, ks, rfl, ea, r⟩ := h
    exact ⟨a, ks, rfl, k _ _ rfl ea, r.mono g⟩
theorem pf_dget {X : Cx} {o e : Expr} {f g : Ex} {pos : Pos} {k : Nat} (hr : Room k X.A) (ho : PX X o f) (hi : PX X e g) (hs : NoSl e := by intro _ _; rfl) : PF X (.Subscript o e pos) (eDGet f g) := by
  refine PE.weak (pe_dget (hu1 hr) ho hi hs) fun σ H Q q => ?_
  obtain ⟨F, R, env, oo, st, ef, k⟩ := q
  obtain ⟨o1, e1, ef⟩ := Option.bind_eq_some_iff.mp ef
  obtain ⟨o2, e2, ef⟩ := Option.bind_eq_some_iff.mp ef
  obtain ⟨c, ec, ef⟩ := Option.bind_eq_some_iff.mp ef
  obtain ⟨kd, ek, ef⟩ := Option.bind_eq_some_iff.mp ef
  obtain ⟨od, eo, ef⟩ := Option.bind_eq_some_iff.mp ef
  obtain ⟨d, rfl, rfl⟩ := Option.map_eq_some_iff.mp ef
  refine rX.use st e1 fun x R1 H1 fp1 s1 w1 n1 => ?_
  refine rX.use (st.stp s1) e2 fun y R2 H2 fp2 s2 w2 n2 => ?_
  obtain ⟨w1', n1'⟩ := w1.stp n1 s1.sub s2
  obtain ⟨a, ov, rfl, hg, v, rfl, rv⟩ := dic_get (asDic_ow w1' s2.sub ec) (w2.rp s2.sub (by rw [asD_dat ek]; rfl)) eo
  exact ⟨a, v, rfl, hg, k v R2 H2 [] (s1.trans s2) ⟨rfl, rv⟩ fun c m => by cases m⟩
def eDIn (f g : Ex) : Ex := fun env => (f env).bind fun a => (g env).bind fun b => (asD a).bind fun k => (asDic b).bind fun c => (dicGet c k).map fun od => oB od.isSome
def eDNotIn (f g : Ex) : Ex := fun env => (f env).bind fun a => (g env).bind fun b => (asD a).bind fun k => (asDic b).bind fun c => (dicGet c k).map fun od => oB (!od.isSome)
theorem din_use {K : PySem.W.Frag} {f g : Ex} (σ : L2.St) (H : Hp) (Q : VK) (q : rF K (eDIn f g) σ H Q) : tDIn (rX K f) (rX K g) σ H Q := by
  obtain ⟨F, R, env, oo, st, ef, k⟩ := q
  obtain ⟨o1, e1, ef⟩ := Option.bind_eq_some_iff.mp ef
  obtain ⟨o2, e2, ef⟩ := Option.bind_eq_some_iff.mp ef
  obtain ⟨kd, ek, ef⟩ := Option.bind_eq_some_iff.mp ef
  obtain ⟨c, ec, ef⟩ := Option.bind_eq_some_iff.mp ef
  obtain ⟨od, eo, rfl⟩ := Option.map_eq_some_iff.mp ef
  refine rX.use st e1 fun x R1 H1 fp1 s1 w1 n1 => ?_
  refine rX.use (st.stp s1) e2 fun y R2 H2 fp2 s2 w2 n2 => ?_
  obtain ⟨w1', n1'⟩ := w1.stp n1 s1.sub s2
  obtain ⟨a, ov, rfl, hg, hv⟩ := dic_get (asDic_ow w2 s2.sub ec) (w1'.rp s2.sub (by rw [asD_dat ek]; rfl)) eo
  have eb : ov.isSome = od.isSome := by
    cases od with
    | none => rw [show ov = none from hv]; rfl
    | some d => obtain ⟨v, e, _⟩ := hv; rw [e]; rfl
  refine ⟨a, ov, rfl, hg, ?_⟩
  rw [eb]
  exact k _ R2 H2 [] (s1.trans s2) ⟨rfl, .bl _⟩ fun c m => by cases m
theorem dnin_use {K : PySem.W.Frag} {f g : Ex} (σ : L2.St) (H : Hp) (Q : VK) (q : rF K (eDNotIn f g) σ H Q) : tDNotIn (rX K f) (rX K g) σ H Q := by
  obtain ⟨F, R, env, oo, st, ef, k⟩ := q
  obtain ⟨o1, e1, ef⟩ := Option.bind_eq_some_iff.mp ef
  obtain ⟨o2, e2, ef⟩ := Option.bind_eq_some_iff.mp ef
  obtain ⟨kd, ek, ef⟩ := Option.bind_eq_some_iff.mp ef
  obtain ⟨c, ec, ef⟩ := Option.bind_eq_some_iff.mp ef
  obtain ⟨od, eo, rfl⟩ := Option.map_eq_some_iff.mp ef
  refine rX.use st e1 fun x R1 H1 fp1 s1 w1 n1 => ?_
  refine rX.use (st.stp s1) e2 fun y R2 H2 fp2 s2 w2 n2 => ?_
  obtain ⟨w1', n1'⟩ := w1.stp n1 s1.sub s2
  obtain ⟨a, ov, rfl, hg, hv⟩ := dic_get (asDic_ow w2 s2.sub ec) (w1'.rp s2.sub (by rw [asD_dat ek]; rfl)) eo
  have eb : ov.isSome = od.isSome := by
    cases od with
    | none => rw [show ov = none from hv]; rfl
    | some d => obtain ⟨v, e, _⟩ := hv; rw [e]; rfl
  refine ⟨a, ov, rfl, hg, ?_⟩
  rw [eb]
  exact k _ R2 H2 [] (s1.trans s2) ⟨rfl, .bl _⟩ fun c m => by cases m
theorem pf_din {X : Cx} {i o : Expr} {f g : Ex} {pos : Pos} {k : Nat} (hr : Room k X.A) (hi : PX X i f) (ho : PX X o g) (hm : behindInMarks .In o = false := by rfl) : PF X (.Compare i [.In] [o] pos) (eDIn f g) := PE.weak (pe_cmp (pc_din (hu1 hr) hi ho) hm) din_use
theorem pf_dnin {X : Cx} {i o : Expr} {f g : Ex} {pos : Pos} {k : Nat} (hr : Room k X.A) (hi : PX X i f) (ho : PX X o g) (hm : behindInMarks .NotIn o = false := by rfl) : PF X (.Compare i [.NotIn] [o] pos) (eDNotIn f g) := PE.weak (pe_cmp (pc_dnotin (hu1 hr) hi ho) hm) dnin_use
theorem tB_of {K : PySem.W.Frag} {f : Ex} {t : TE} (w : ∀ σ H Q, rF K f σ H Q → t σ H Q) (σ : L2.St) (H : Hp) (Q : Bool → Hp → Prop) (q : rT K f σ H Q) : tB t σ H Q := by
  obtain ⟨F, R, env, b, st, ef, k⟩ := q
  refine w σ H _ ⟨F, R, env, _, st, ef, fun x R' H' fp s w n => ?_⟩
  obtain ⟨_, w⟩ := w
  cases w
  exact ⟨b, rfl, k R' H' s⟩
theorem ptc_din {X : Cx} {i o : Expr} {f g : Ex} {pos : Pos} {k : Nat} (hr : Room k X.A) (hi : PX X i f) (ho : PX X o g) (hm : behindInMarks .In o = false := by rfl) : PC' X (.Compare i [.In] [o] pos) (eDIn f g) := PT.weak (pt_cmp (pc_din (hu1 hr) hi ho) hm) (tB_of din_use)
theorem ptc_dnin {X : Cx} {i o : Expr} {f g : Ex} {pos : Pos} {k : Nat} (hr : Room k X.A) (hi : PX X i f) (ho : PX X o g) (hm : behindInMarks .NotIn o = false := by rfl) : PC' X (.Compare i [.NotIn] [o] pos) (eDNotIn f g) := PT.weak (pt_cmp (pc_dnotin (hu1 hr) hi ho) hm) (tB_of dnin_use)
/-- new dicts -/
def eNewK : Ex := fun _ => some (.dK [])
def eNewT : Ex := fun _ => some (.dT [])
theorem pf_newK {X : Cx} {pos : Pos} : PF X (.Dict [] [] pos) eNewK := by
  refine PE.weak pe_dnewK fun σ H Q q => ?_
  obtain ⟨F, R, env, oo, st, ef, k⟩ := q
  cases ef
  exact fun p np => k (.ref p) R _ [p] (Stp.lay' st.rH np) ⟨p, [], rfl, rfl, upd_same, .nil⟩ fun a m => by
    rw [List.mem_singleton.mp m]; exact ⟨st.rH.none np, np⟩
theorem pf_newT {X : Cx} {pos : Pos} : PF X (.Dict [] [] pos) eNewT := by
  refine PE.weak pe_dnewT fun σ H Q q => ?_
  obtain ⟨F, R, env, oo, st, ef, k⟩ := q
  cases ef
  exact fun p np => k (.ref p) R _ [p] (Stp.lay' st.rH np) ⟨p, [], rfl, rfl, upd_same, .nil⟩ fun a m => by
    rw [List.mem_singleton.mp m]; exact ⟨st.rH.none np, np⟩
/-- {k: v, ..}, plain keys -/
def ePairs : List (Ex × Ex) → En → Option (List (D × D))
  | [], _ => some []
  | (f, g) :: r, env => (f env).bind fun a => (g env).bind fun b => (asD a).bind fun k => (asD b).bind fun d => (asK k).bind fun _ => (ePairs r env).map fun l => (k, d) :: l
def mergeD (kvs more : List (D × D)) : List (D × D) := more.foldl (fun acc kv => putD acc kv.1 kv.2) kvs
def eDisp (ps : List (Ex × Ex)) : Ex := fun env => (ePairs ps env).bind fun l => if decide (l.length ≤ 15) = true then some (.dK (mergeD [] l)) else none
theorem mergeK_rp {R : Hp} : ∀ {more : List (Key × V)} {ds : List (D × D)}, RpK R more ds → ∀ {ks : List (Key × V)} {kvs : List (D × D)}, RpK R ks kvs → RpK R (mergeK ks more) (mergeD kvs ds)
  | _, _, .nil, _, _, h => h
  | _, _, .cons (k := k) r t, ks, kvs, h => by
    show RpK R (mergeK (putK ks k _) _) (mergeD (putD kvs (keyD k) _) _)
    exact mergeK_rp t (putK_rp r k h)
theorem pairs_use {K : PySem.W.Frag} {F : Hp} {env : En} : ∀ (ps : List (Ex × Ex)) (σ : L2.St) (R H : Hp) (l : List (D × D)) (Q : List (V × V) → Hp → Prop), StR K F σ R H env → ePairs ps env = some l →
    (∀ (kvs : List (Key × V)) R' H', Stp R H R' H' → RpK R' kvs l → Q (kvs.map fun kv => (kV kv.1, kv.2)) H') → tPairs (ps.map fun p => (rF K p.1, rF K p.2)) σ H Q
  | [], σ, R, H, l, Q, st, e, k => by
    cases e
    exact k [] R H (Stp.refl st.rH) .nil
  | (f, g) :: r, σ, R, H, l, Q, st, e, k => by
    obtain ⟨o1, e1, e⟩ := Option.bind_eq_some_iff.mp e
    obtain ⟨o2, e2, e⟩ := Option.bind_eq_some_iff.mp e
    obtain ⟨kd, ek, e⟩ := Option.bind_eq_some_iff.mp e
    obtain ⟨d, ed, e⟩ := Option.bind_eq_some_iff.mp e
    obtain ⟨k0, ek0, e⟩ := Option.bind_eq_some_iff.mp e
    obtain ⟨l', el, rfl⟩ := Option.map_eq_some_iff.mp e
    refine rF.use st e1 fun x R1 H1 fp1 s1 w1 n1 => ?_
    refine rF.use (st.stp s1) e2 fun y R2 H2 fp2 s2 w2 n2 => ?_
    rw [asD_dat ek] at w1
    rw [asD_dat ed] at w2
    obtain ⟨h1, h2⟩ := asK_rp w1.2 ek0
    subst h1 h2
    refine pairs_use r σ R2 H2 l' _ ((st.stp s1).stp s2) el fun kvs R3 H3 s3 rl => ?_
    exact k ((k0, y) :: kvs) R3 H3 ((s1.trans s2).trans s3) (.cons (w2.2.mono s3.gr) rl)
theorem pf_disp {X : Cx} {pos : Pos} {keys : List (Option Expr)} {values : List Expr} {ps : List (Ex × Ex)} (h : PPs X pos keys values (ps.map fun p => (rF X.K p.1, rF X.K p.2))) (hall : keys.all (·.isSome) = true := by rfl) (hl : keys.length = values.length := by rfl) (h0 : keys ≠ [] := by intro z; cases z) (h15 : keys.length ≤ 15 := by decide) : PF X (.Dict keys values pos) (eDisp ps) := by
  refine PE.weak (pe_disp h hall hl h0 h15) fun σ H Q q => ?_
  obtain ⟨F, R, env, oo, st, ef, k⟩ := q
  obtain ⟨l, el, ef⟩ := Option.bind_eq_some_iff.mp ef
  split at ef
  · rename_i hl15
    cases ef
    intro p np
    have nR := st.rH.none np
    have s0 : Stp R H R (upd H p (.dK [])) := Stp.lay' st.rH np
    refine pairs_use ps σ R _ l _ (st.stp s0) el fun kvs R1 H1 s1 rl => ?_
    have out := s1.out p _ upd_same nR
    have nR1 : R1 p = none := out.2.resolve_right Bool.false_ne_true
    have s01 := s0.trans s1
    refine ⟨out.1, kvs, rfl, by rw [rl.length]; exact of_decide_eq_true hl15, ?_⟩
    refine k (.ref p) R1 _ [p] ⟨fun a u e => ?_, s01.gr, fun a u e m => ?_⟩ ⟨p, _, rfl, rfl, upd_same, mergeK_rp rl .nil⟩ fun a m => ?_
    · have ha : a ≠ p := fun z => by subst z; rw [nR1] at e; cases e
      rw [upd_ne ha]; exact s01.sub a u e
    · have ha : a ≠ p := fun z => by subst z; rw [np] at e; cases e
      rw [upd_ne ha]; exact s01.out a u e m
    · rw [List.mem_singleton.mp m]; exact ⟨nR1, np⟩
  · cases ef

/-! ### stores -/
/-- x.append(e) -/
def sApp (i : Nat) (f : Ex) : Sx := fun env => (f env).bind fun o => (asD o).bind fun d => match env[i]? with
  | some (.own (.lst xs)) => if small (xs.length + 1) = true then some (.nx (env.set i (.own (.lst (xs ++ [d]))))) else none
  | _ => none
/-- the slot i holds an own list at l -/
theorem own_lst {K : PySem.W.Frag} {F R H : Hp} {σ : L2.St} {env : En} {i : Nat} {xs : List D} (st : StR K F σ R H env) (e : env[i]? = some (.own (.lst xs))) : ∃ l vs, σ[i]? = some (some (.ref l)) ∧ H l = some (.lst vs) ∧ RpAll R vs xs := by
  obtain ⟨v, fp, ev, ow, n⟩ := st.get (.inr e)
  obtain ⟨l, vs, rfl, _, ea, r⟩ := ow
  exact ⟨l, vs, ev, ea, r⟩
theorem mut_lst {K : PySem.W.Frag} {F R H : Hp} {σ : L2.St} {env : En} {i : Nat} {xs ys : List D} {l : Addr} {ws : List V} (st : StR K F σ R H env) (e : env[i]? = some (.own (.lst xs))) (ev : σ[i]? = some (some (.ref l))) (r : RpAll R ws ys) : StR K F σ R (upd H l (.lst ws)) (env.set i (.own (.lst ys))) := by
  refine st.mut e fun v fp ev' ow n => ?_
  rw [ev] at ev'; cases ev'
  obtain ⟨l', vs, e1, rfl, ea, _⟩ := ow
  cases e1
  exact ⟨l, List.mem_cons_self, fun b hb => upd_ne hb, l, ws, rfl, rfl, upd_same, r⟩
theorem psx_app {X : Cx} {i : Nat} {x : Str} {e : Expr} {f : Ex} {pos pos' apos cpos : Pos} (he : PF X e f) (hN : X.N[i]? = some x := by rfl) (hv : Vis X.env.scope x := by first | exact Or.inl rfl | exact Or.inr (Or.inl rfl) | exact Or.inr (Or.inr rfl)) (hd : (x == ("__debug__" : Str)) = false := by decide)
    (hcd : (x == ("__classdict__" : Str)) = false := by decide) (hs : starEach [e] X.env = (false, eval e X.env) :: starEach [] X.env := by rfl)
    (hbase : attributeBase (.Name x pos') "append" X.env (eval (.Name x pos') X.env) = eval (.Name x pos') X.env := by rfl)
    (hfew : ((backTo cpos (starEach [e] X.env)).all (fun x => !x.1) && (backToKw cpos (keywordEach [] X.env)).all (fun x => x.1.isSome) && decide (([e] : List Expr).length + ([] : List Keyword).length + (if ([] : List Keyword).isEmpty then 0 else 1) < 30)) = true := by rfl)
    (hline : (apos.endLine == cpos.line) = true := by rfl) : PSx X (.Expr (.Call (.Attribute (.Name x pos') "append" apos) [e] [] cpos) pos) (sApp i f) := by
  refine PS.weak (ps_expr (pe_bm PySem.F.plainAttrs_list PySem.F.slot_list_append PySem.F.type_list_append mt_append (pe_var hN hv hd hcd) (pa_cons he pa_nil hs) hbase hfew hline hs rfl) rfl) fun Dn σ H q => ?_
  obtain ⟨F, R, env, out, st, ef, k⟩ := q
  obtain ⟨o, e1, ef⟩ := Option.bind_eq_some_iff.mp ef
  obtain ⟨d, ed, ef⟩ := Option.bind_eq_some_iff.mp ef
  split at ef
  · rename_i xs ex
    split at ef
    · rename_i sm
      cases ef
      obtain ⟨l, vs, ev, ea, r⟩ := own_lst st ex
      refine ⟨.ref l, ev, .inl ⟨rfl, vs, .inl (.inl ea)⟩, ?_⟩
      refine rF.use st e1 fun y R1 H1 fp s w n => ?_
      rw [asD_dat ed] at w
      have st1 := st.stp s
      obtain ⟨l', vs', ev', ea', r'⟩ := own_lst st1 ex
      rw [ev] at ev'; cases ev'
      have sml := of_decide_eq_true sm
      refine ⟨l, vs', y, rfl, rfl, ea', by rw [r'.length]; exact small_lt (decide_eq_true (by omega)), ?_⟩
      exact k σ R1 _ (mut_lst st1 ex ev (r'.append (.cons w.2 .nil))) s.gr
    · cases ef
  · cases ef
/-- x[j] = e -/
def sSetI (i : Nat) (f g : Ex) : Sx := fun env => (f env).bind fun o => (asD o).bind fun d => (g env).bind fun b => (asI b).bind fun j => match env[i]? with
  | some (.own (.lst xs)) => (ixN xs.length j).map fun n => .nx (env.set i (.own (.lst (xs.set n d))))
  | _ => none
theorem psx_setI {X : Cx} {i : Nat} {x : Str} {e ix : Expr} {f g : Ex} {pos pos' tpos : Pos} (he : PF X e f) (hi : PX X ix g) (hN : X.N[i]? = some x := by rfl) (hv : Vis X.env.scope x := by first | exact Or.inl rfl | exact Or.inr (Or.inl rfl) | exact Or.inr (Or.inr rfl)) (hd : (x == ("__debug__" : Str)) = false := by decide)
    (hcd : (x == ("__classdict__" : Str)) = false := by decide)
    (ha : ∀ v, assign (.Subscript (.Name x pos') ix tpos) X.env v = (do
      let ov ← holding [v] (eval (.Name x pos') X.env)
      let iv ← holding [v, ov] (eval ix X.env)
      standAt tpos
      holding [v, ov, iv] (setItem ov iv v)
      release [v, ov, iv] []) := by intro _; rfl)
    (hs : swapsWithSole [.Subscript (.Name x pos') ix tpos] e pos.line X.env = pure false := by rfl) (hw : swappedStores [.Subscript (.Name x pos') ix tpos] e X.env = pure none := by rfl)
    (h1 : (assignEach [.Subscript (.Name x pos') ix tpos] X.env).map (·.2) = [assign (.Subscript (.Name x pos') ix tpos) X.env] := by rfl) : PSx X (.Assign [.Subscript (.Name x pos') ix tpos] e pos) (sSetI i f g) := by
  refine PS.weak (ps_asg he (pg_sub (pe_var hN hv hd hcd) hi set_list ha) hs hw h1) fun Dn σ H q => ?_
  obtain ⟨F, R, env, out, st, ef, k⟩ := q
  obtain ⟨o, e1, ef⟩ := Option.bind_eq_some_iff.mp ef
  obtain ⟨d, ed, ef⟩ := Option.bind_eq_some_iff.mp ef
  obtain ⟨b, eb, ef⟩ := Option.bind_eq_some_iff.mp ef
  obtain ⟨j, ej, ef⟩ := Option.bind_eq_some_iff.mp ef
  split at ef
  · rename_i xs ex
    obtain ⟨n0, en, rfl⟩ := Option.map_eq_some_iff.mp ef
    refine rF.use st e1 fun y R1 H1 fp s w n => ?_
    rw [asD_dat ed] at w
    have st1 := st.stp s
    obtain ⟨l, vs, ev, ea, r⟩ := own_lst st1 ex
    refine ⟨.ref l, ev, ?_⟩
    refine rX.use st1 eb fun z R2 H2 fp2 s2 w2 n2 => ?_
    have st2 := st1.stp s2
    obtain ⟨l', vs', ev', ea', r'⟩ := own_lst st2 ex
    rw [ev] at ev'; cases ev'
    refine ⟨l, vs', j, n0, rfl, asI_ow w2 ej, ea', by rw [r'.length]; exact en, ?_⟩
    exact k σ R2 _ (mut_lst st2 ex ev (r'.set (w.2.mono s2.gr) n0)) (s.gr.trans s2.gr)
  · cases ef
/-- x.clear() -/
def sClr (i : Nat) : Sx := fun env => match env[i]? with
  | some (.own (.lst _)) => some (.nx (env.set i (.own (.lst []))))
  | _ => none
theorem psx_clr {X : Cx} {i : Nat} {x : Str} {pos pos' apos cpos : Pos} (hN : X.N[i]? = some x := by rfl) (hv : Vis X.env.scope x := by first | exact Or.inl rfl | exact Or.inr (Or.inl rfl) | exact Or.inr (Or.inr rfl)) (hd : (x == ("__debug__" : Str)) = false := by decide)
    (hcd : (x == ("__classdict__" : Str)) = false := by decide)
    (hbase : attributeBase (.Name x pos') "clear" X.env (eval (.Name x pos') X.env) = eval (.Name x pos') X.env := by rfl) (hline : (apos.endLine == cpos.line) = true := by rfl) :
    PSx X (.Expr (.Call (.Attribute (.Name x pos') "clear" apos) [] [] cpos) pos) (sClr i) := by
  refine PS.weak (ps_expr (pe_bm0 PySem.F.plainAttrs_list PySem.F.slot_list_clear PySem.F.type_list_clear mt_clear (pe_var hN hv hd hcd) hbase hline) rfl) fun Dn σ H q => ?_
  obtain ⟨F, R, env, out, st, ef, k⟩ := q
  unfold sClr at ef
  split at ef
  · rename_i xs ex
    cases ef
    obtain ⟨l, vs, ev, ea, r⟩ := own_lst st ex
    refine ⟨.ref l, ev, .inl ⟨rfl, vs, .inl (.inl ea)⟩, l, vs, rfl, rfl, ea, ?_⟩
    exact k σ R _ (mut_lst st ex ev .nil) (Gr.refl R)
  · cases ef
end
end TP

/-! Sets: set(xs) of ints and texts of any length; len(set(xs)). -/
namespace TP
open PySem PySem.Spec PyProof.Rows L2

theorem setOf_congr' {prog : Program} {w : World} {knd : KeyKind prog w Key} {h : Heap} {a : Addr} {S S' : Key → Bool} {n n' : Nat} (hS : h.SetOf knd a S n) (e : ∀ k, S k = S' k) (en : n = n') : h.SetOf knd a S' n' := by
  obtain rfl : S = S' := funext e
  subst en
  exact hS
theorem beq_ll (a b : Int) : ((Sum.inl a : Key) == Sum.inl b) = (a == b) := by rfl
theorem beq_rr (a b : Str) : ((Sum.inr a : Key) == Sum.inr b) = (a == b) := by rfl
instance lawfulKey : LawfulBEq Key where
  eq_of_beq {a b} h := by
    cases a with
    | inl i =>
      cases b with
      | inl j => rw [beq_ll] at h; rw [eq_of_beq h]
      | inr y => exact absurd (show false = true from h) Bool.false_ne_true
    | inr x =>
      cases b with
      | inl j => exact absurd (show false = true from h) Bool.false_ne_true
      | inr y => rw [beq_rr] at h; rw [eq_of_beq h]
  rfl {a} := by
    cases a with
    | inl i => rw [beq_ll]; exact beq_self_eq_true i
    | inr x => rw [beq_rr]; exact beq_self_eq_true x
def memK (x : Key) (acc : List Key) : Bool := acc.any fun y => decide (y = x)
theorem memK_iff {x : Key} {acc : List Key} : memK x acc = true ↔ x ∈ acc := by
  unfold memK
  simp
/-- the first ones of each kind -/
def dstA (acc : List Key) (x : Key) : List Key := if memK x acc = true then acc else acc ++ [x]
def dst (xs : List Key) : List Key := xs.foldl dstA []
theorem dst_snoc (xs : List Key) (x : Key) : dst (xs ++ [x]) = dstA (dst xs) x := by
  unfold dst
  rw [List.foldl_append]
  rfl
theorem dst_len_le (xs : List Key) : (dst xs).length ≤ xs.length := by
  have all : ∀ (xs acc : List Key), (xs.foldl dstA acc).length ≤ acc.length + xs.length := by
    intro xs
    induction xs with
    | nil => intro acc; exact Nat.le_refl _
    | cons x xs ih =>
      intro acc
      rw [List.foldl_cons, List.length_cons]
      have h := ih (dstA acc x)
      have h2 : (dstA acc x).length ≤ acc.length + 1 := by
        unfold dstA
        split
        · omega
        · rw [List.length_append, List.length_singleton]
          exact Nat.le_refl _
      omega
  have h := all xs []
  rw [List.length_nil, Nat.zero_add] at h
  exact h
theorem take_snoc {α : Type} {l : List α} {i : Nat} {x : α} (h : l[i]? = some x) : l.take (i + 1) = l.take i ++ [x] := by
  rw [List.take_add_one, h]
  rfl

/-! ### sets of keys whose order is known -/
def kOf (e : Int × Value) : Key := match e.2 with
  | .int k _ => .inl k
  | .str x _ => .inr x
  | _ => .inl 0
def KGood (w : World) (e : Int × Value) : Prop := keyIs (kOf e) e.2 = true ∧ e.1 = keyH w (kOf e)
theorem kOf_is {e : Int × Value} {k : Key} (h : keyIs k e.2 = true) : kOf e = k := by
  unfold kOf
  rcases keyIs_shape h with ⟨i, t, rfl, q⟩ | ⟨x, t, rfl, q⟩ <;> rw [q]
def SetY (w : World) (h : Heap) (a : Addr) (S : Key → Bool) (n : Nat) : Prop :=
  ∃ o es ep t, h.get? a = some o ∧ o.ExactSet ∧ o.data = .set es ep t ∧ ((∀ e ∈ es.toList, KGood w e) ∧ (es.toList.map kOf).Nodup ∧ ∀ k, S k = true ↔ k ∈ es.toList.map kOf) ∧
    es.size < scanBound ∧ t.fits es.size = true ∧ es.size = n ∧ Ris t.place.toList ∧ (w.params.followText "set-order" = true ∨ t.led = true)
section
variable {prog : Program} {w : World} {A : Around} {E : Value → Shared → Prop} {s : Shared} {a : Addr} {S : Key → Bool} {n : Nat}
theorem kgood_is {e : Int × Value} (g : KGood w e) (k : Key) : (mixKind prog w).is k e.2 = true ↔ kOf e = k :=
  ⟨fun h => kOf_is h, fun h => h ▸ g.1⟩
theorem kgood_mem {l : List (Int × Value)} (g : ∀ e ∈ l, KGood w e) (k : Key) : k ∈ l.map kOf ↔ ∃ e ∈ l, (mixKind prog w).is k e.2 = true := by
  rw [List.mem_map]
  exact ⟨fun ⟨e, m, q⟩ => ⟨e, m, (kgood_is (g e m) k).mpr q⟩, fun ⟨e, m, q⟩ => ⟨e, m, (kgood_is (g e m) k).mp q⟩⟩
theorem kgood_elems {l : List (Int × Value)} (g : ∀ e ∈ l, KGood w e) : ElemsOf (mixKind prog w) l := fun e m => by
  refine ⟨⟨kOf e, (g e m).1, (g e m).2⟩, ?_⟩
  rcases keyIs_shape (g e m).1 with ⟨i, t, _, q⟩ | ⟨x, t, _, q⟩ <;> rw [q] <;> rfl
theorem SetY.setOf {h : Heap} (R : SetY w h a S n) : h.SetOf (mixKind prog w) a S n := by
  obtain ⟨o, es, ep, t, ho, hx, hd, ⟨g, _, hm⟩, hb, hf, hn, _⟩ := R
  exact ⟨o, es, ep, t, ho, hx, hd, kgood_elems g, fun k => (hm k).trans (kgood_mem g k), hb, hf, hn⟩
theorem putY {h : Heap} {o : Obj} {es es' : Array (Int × Value)} {ep : Nat} {t t' : SetTable} (ho : h.get? a = some o) (hd : o.data = .set es ep t) :
    (h.update a (Obj.putSet es' t')).get? a = some { o with data := .set es' (ep + 1) t' } := L2.store_at ho hd
theorem setY_tail {g : Bool → Sem Unit} (hg : ∀ (b : Bool) (s₁ : Shared) (Q' : Unit → Shared → Prop), Q' () s₁ → wpAny (model prog w) A (g b) Q' E s₁)
    {o : Obj} {es es1 : Array (Int × Value)} {ep : Nat} {t t2 : SetTable} {S' : Key → Bool} (ho : s.heap.get? a = some o) (hex : o.ExactSet) (hd : o.data = .set es ep t)
    (gm : (∀ e ∈ es1.toList, KGood w e) ∧ (es1.toList.map kOf).Nodup ∧ ∀ k, S' k = true ↔ k ∈ es1.toList.map kOf)
    (hb1 : es1.size < scanBound) (fr : t2.fits es1.size = true ∧ Ris t2.place.toList ∧ (w.params.followText "set-order" = true ∨ t2.led = true)) {wasDummy : Bool} {R : Option Bool → Shared → Prop}
    (hR : ∀ h', Heap.SameBut a s.heap h' → SetY w h' a S' es1.size → R (some true) { s with heap := h' }) :
    wpAny (model prog w) A (do
        storeSet a es1 t2
        if (!wasDummy && t2.tooFull) = true then do
            g (relayAll t2 es1 (SetTable.grown es1.size)).2.2; storeSet a (relayAll t2 es1 (SetTable.grown es1.size)).1 (relayAll t2 es1 (SetTable.grown es1.size)).2.1
            pure (some true)
          else pure (some true)) R E s := by
  obtain ⟨g1, nd1, m1⟩ := gm
  obtain ⟨f2, r2, l2⟩ := fr
  have ho1 := putY (es' := es1) (t' := t2) ho hd
  have sb1 := Heap.SameBut.update s.heap a (Obj.putSet es1 t2)
  refine wpAny_bind (wpAny_storeSet_of ho hd ?_ (fits_of_scanBound hb1))
  split
  · obtain ⟨pm, f3, r3, l3⟩ : (relayAll t2 es1 (SetTable.grown es1.size)).1.toList.Perm es1.toList ∧ _ ∧ Ris (relayAll t2 es1 (SetTable.grown es1.size)).2.1.place.toList ∧ (relayAll t2 es1 (SetTable.grown es1.size)).2.1.led = t2.led :=
      ⟨relayAll_perm t2 es1 _, relayAll_fits t2 es1 (SetTable.grown es1.size), relayAll_ris t2 es1 _, relayAll_led t2 es1 _⟩
    generalize relayAll t2 es1 (SetTable.grown es1.size) = Z at pm f3 r3 l3 ⊢
    obtain ⟨es2, t3, gave⟩ := Z
    dsimp only at pm f3 r3 l3 ⊢
    have sz : es2.size = es1.size := by
      have := pm.length_eq
      rwa [Array.length_toList, Array.length_toList] at this
    have hb2 : es2.size < scanBound := sz ▸ hb1
    refine wpAny_bind (hg _ _ _ (wpAny_bind (wpAny_storeSet_of ho1 rfl ?_ (fits_of_scanBound hb2))))
    refine wpAny_pure (hR _ (sb1.trans (Heap.SameBut.update _ a _)) ⟨_, es2, _, t3, putY (es' := es2) (t' := t3) ho1 rfl, hex, rfl, ⟨fun e m => g1 e (pm.mem_iff.mp m), (pm.map kOf).nodup_iff.mpr nd1, fun k => (m1 k).trans (pm.map kOf).mem_iff.symm⟩, hb2, f3, sz, r3, ?_⟩)
    exact l2.imp id fun z => by rw [l3]; exact z
  · exact wpAny_pure (hR _ sb1 ⟨_, es1, _, t2, ho1, hex, rfl, ⟨g1, nd1, m1⟩, hb1, f2, rfl, r2, l2⟩)
theorem setY_add {k : Key} {v : Value} {Q : Bool → Shared → Prop} (kis : keyIs k v = true) (R : SetY w s.heap a S n) (room : n + 1 < scanBound)
    (hQ : ∀ h' b, Heap.SameBut a s.heap h' → SetY w h' a (fun j => S j || decide (j = k)) (if S k = true then n else n + 1) → Q b { s with heap := h' }) :
    wpAny (model prog w) A (setAddHashed a v ((mixKind prog w).hash k)) Q E s := by
  obtain ⟨o, es, ep, t, ho, hex, hd, ⟨g, nd, hm⟩, hb, hf, hn, hr, hl⟩ := R
  have hkey : (mixKind prog w).is k v = true := kis
  have hsc : v.scannable = true := by rcases keyIs_shape kis with ⟨i, t, rfl, rfl⟩ | ⟨x, t, rfl, rfl⟩ <;> rfl
  have hel : ElemsOf (mixKind prog w) es.toList := kgood_elems g
  unfold setAddHashed setAddHashedIn
  refine wpAny_holding (wpAny_bind (wpAny_setState_of ho hd hf ?_))
  dsimp only
  rw [byScan_of hsc hb hel]
  simp only [↓reduceIte]
  unfold setAddByScan
  refine wpAny_bind (wpAny_bind (wpAny_rule (wpAny_bind (wpAny_setScan_of hkey ho hd hf hel ?_))))
  cases hfi : List.findIdx? (fun e => (mixKind prog w).is k e.2) es.toList with
  | some j =>
    dsimp only
    obtain ⟨hj, pj, _⟩ := List.findIdx?_eq_some_iff_getElem.mp hfi
    have inS : S k = true := (hm k).mpr ((kgood_mem (prog := prog) g k).mpr ⟨_, List.getElem_mem hj, pj⟩)
    refine wpAny_pure (wpAny_pure (hQ s.heap _ (Heap.SameBut.refl a s.heap) ⟨o, es, ep, t, ho, hex, hd, ⟨g, nd, fun i => ?_⟩, hb, hf, by rw [if_pos inS]; exact hn, hr, hl⟩))
    rw [Bool.or_eq_true, decide_eq_true_eq, ← hm i]
    exact ⟨fun z => z.elim id (fun e => e ▸ inS), .inl⟩
  | none =>
    dsimp only
    have out : k ∉ es.toList.map kOf := fun z => by
      obtain ⟨e, he, q⟩ := (kgood_mem (prog := prog) g k).mp z
      exact absurd q (by rw [List.findIdx?_eq_none_iff.mp hfi e he]; exact Bool.false_ne_true)
    have notS : S k = false := Bool.eq_false_iff.mpr fun q => out ((hm k).mp q)
    have pm := layNew_perm t es ((mixKind prog w).hash k) v
    have f1 := layNew_fits t es ((mixKind prog w).hash k) v
    have r1 := layNew_ris t es ((mixKind prog w).hash k) v hr
    have l1 := layNew_led t es ((mixKind prog w).hash k) v
    generalize layNew t es ((mixKind prog w).hash k) v = Z at pm f1 r1 l1 ⊢
    obtain ⟨es1, t1, wasDummy, gave⟩ := Z
    dsimp only at pm f1 r1 l1 ⊢
    rw [Array.toList_push] at pm
    have pc : es1.toList.Perm (((mixKind prog w).hash k, v) :: es.toList) := pm.trans (List.perm_append_singleton _ _)
    have kn : kOf ((mixKind prog w).hash k, v) = k := kOf_is kis
    have pk : (es1.toList.map kOf).Perm (k :: es.toList.map kOf) := by
      have q := pc.map kOf
      rwa [List.map_cons, kn] at q
    have gm : (∀ e ∈ es1.toList, KGood w e) ∧ (es1.toList.map kOf).Nodup ∧ ∀ i, (S i || decide (i = k)) = true ↔ i ∈ es1.toList.map kOf := by
      refine ⟨fun e he => ?_, pk.nodup_iff.mpr (List.nodup_cons.mpr ⟨out, nd⟩), fun i => ?_⟩
      · rcases List.mem_cons.mp (pc.mem_iff.mp he) with rfl | z
        · exact ⟨by rw [kn]; exact kis, by rw [kn]; rfl⟩
        · exact g e z
      · rw [Bool.or_eq_true, decide_eq_true_eq, hm i, pk.mem_iff, List.mem_cons]
        exact Or.comm
    have sz : es1.size = n + 1 := by
      have q := pc.length_eq
      rwa [List.length_cons, Array.length_toList, Array.length_toList, hn] at q
    have hb1 : es1.size < scanBound := by omega
    have led1 : w.params.followText "set-order" = true ∨ t1.led = true := hl.imp id fun z => by rw [l1]; exact z
    have fin : ∀ h', Heap.SameBut a s.heap h' → SetY w h' a (fun j => S j || decide (j = k)) es1.size → Q true { s with heap := h' } := fun h' sb r => hQ h' true sb (by
      rw [notS, if_neg Bool.false_ne_true, ← sz]
      exact r)
    have gw : ∀ (b : Bool) {s₁ : Shared} {Q' : Unit → Shared → Prop}, Q' () s₁ → wpAny (model prog w) A (match b with | true => rule "set.scan.the-table-gave-way" | false => pure ()) Q' E s₁ := fun b s₁ Q' q => by
      cases b <;> first | exact wpAny_pure q | exact wpAny_rule q
    refine wpAny_bind (gw _ ?_)
    split
    · refine wpAny_bind ?_
      rw [hashByValue_scannable 8 hsc]
      refine wpAny_pure (setY_tail ?_ ho hex hd gm hb1 ⟨?_, ?_, ?_⟩ ?_)
      · intro b s₁ Q' q; cases b <;> first | exact wpAny_pure q | exact wpAny_rule q
      · first | (split <;> first | exact f1 | exact SetTable.fits_plain_off f1) | exact f1
      · first | (split <;> exact r1) | exact r1
      · first | (split <;> exact led1) | exact led1
      · intro h' sb r; dsimp only; exact wpAny_pure (fin h' sb r)
    · refine wpAny_bind (wpAny_pure ?_)
      simp only [↓reduceIte]
      refine setY_tail ?_ ho hex hd gm hb1 ⟨f1, r1, led1⟩ ?_
      · intro b s₁ Q' q; cases b <;> first | exact wpAny_pure q | exact wpAny_rule q
      · intro h' sb r; dsimp only; exact wpAny_pure (fin h' sb r)
theorem setY_congr {h : Heap} {S' : Key → Bool} {n' : Nat} (R : SetY w h a S n) (e : ∀ k, S k = S' k) (en : n = n') : SetY w h a S' n' := by
  obtain rfl : S = S' := funext e
  subst en
  exact R
theorem setY_at {h h' : Heap} (R : SetY w h a S n) (k : ∀ o, h.get? a = some o → h'.get? a = some o) : SetY w h' a S n := by
  obtain ⟨o, es, ep, t, ho, r⟩ := R
  exact ⟨o, es, ep, t, k o ho, r⟩
theorem setY_new {h : Heap} (w : World) : SetY w (h.push { cls := .type "set", dict := none, data := .set #[] 0 (.fresh 0 0 (!w.params.followText "set-order")) }) h.objs.size (fun _ => false) 0 := by
  refine ⟨_, #[], 0, _, Heap.get?_push_size _ rfl, ⟨rfl, rfl, rfl⟩, rfl, ⟨fun e m => by simp at m, by simp, fun k => by simp⟩, by decide, by rfl, rfl, List.Pairwise.nil, ?_⟩
  show _ ∨ (!w.params.followText "set-order") = true
  cases w.params.followText "set-order" <;> simp
end

section
variable {prog : Program} {w : World} {A : Around} {Rr : Result → Shared → Prop} {I : Addr} {fp wr : List Addr} {G : Array GenState → Array GenState → Prop} {n : Nat} {Pv : Nat → Value → Prop} {St' : Nat → Shared → Prop}
abbrev setIs (w : World) (h : Heap) (S : Addr) (ks : List Key) : Prop := SetY w h S (fun k' => memK k' ks) ks.length
theorem setIs_add {h : Heap} {S : Addr} {ks : List Key} {k : Key} (q : SetY w h S (fun k' => memK k' ks || decide (k' = k)) (if memK k ks = true then ks.length else ks.length + 1)) : setIs w h S (dstA ks k) := by
  unfold dstA
  by_cases hk : memK k ks = true
  · rw [if_pos hk]
    rw [if_pos hk] at q
    refine setY_congr q (fun k' => ?_) rfl
    by_cases e : k' = k
    · rw [e, hk]; rfl
    · rw [decide_eq_false e, Bool.or_false]
  · rw [if_neg hk]
    rw [if_neg hk] at q
    refine setY_congr q (fun k' => ?_) (by rw [List.length_append, List.length_singleton])
    unfold memK
    rw [List.any_append, List.any_cons, List.any_nil, Bool.or_false]
    congr 1
    by_cases e : k' = k
    · rw [decide_eq_true e, decide_eq_true e.symm]
    · rw [decide_eq_false e, decide_eq_false (fun z => e z.symm)]
theorem setLoop (W : WalksS prog w A.in1 I fp wr G n Pv St') (S : Addr) (hSf : S ∉ fp) (ks : List Key) (hsz : ks.length = n) (hb : n + 1 < scanBound)
    (hval : ∀ i v, Pv i v → ∃ k, ks[i]? = some k ∧ keyIs k v = true) :
    ∀ (m i : Nat) (s : Shared), n - i = m → i ≤ n → St' i s → setIs w s.heap S (dst (ks.take i)) →
      (∀ s', Moved (S :: wr) G s s' → setIs w s'.heap S (dst (ks.take n)) → Rr (.ok (.ret .none)) s') → codeAny (model prog w) A (.builtin "set.update.loop" ⟨[.ref S, .ref I], []⟩) Rr s := by
  have hSw : S ∉ wr := fun h => hSf (W.sub _ h)
  have hsub : ∀ b ∈ wr, b ∈ S :: wr := fun b hb => List.mem_cons_of_mem _ hb
  intro m
  induction m with
  | zero =>
    intro i s hk hi hst hS hR
    obtain rfl : i = n := by omega
    refine codeAny_builtin PyProof.Rows.F.entry_set_update_loop ?_; rw [Around.under_plainId PyProof.Rows.F.plain_set_update_loop _]
    show wpAny _ A.in1 (pyNext (.ref I) >>= _) _ _ s
    refine wpAny_bind (W.done s _ _ hst fun s' hm => ?_)
    show wpAny _ A.in1 (ret Value.none) _ _ s'
    refine wpAny_pure (hR s' (hm.mono hsub) ?_)
    obtain ⟨o, es, ep, t, ho, rest⟩ := hS
    exact ⟨o, es, ep, t, hm.heap S _ hSw ho, rest⟩
  | succ m ih =>
    intro i s hk hi hst hS hR
    have hlt : i < n := by omega
    refine codeAny_builtin PyProof.Rows.F.entry_set_update_loop ?_; rw [Around.under_plainId PyProof.Rows.F.plain_set_update_loop _]
    show wpAny _ A.in1 (pyNext (.ref I) >>= _) _ _ s
    refine wpAny_bind (W.item i s _ _ hlt hst fun v s' hP hst' hm => ?_)
    obtain ⟨k, ek, kis⟩ := hval i v hP
    have hS' : setIs w s'.heap S (dst (ks.take i)) := by
      obtain ⟨o, es, ep, tb, ho, rest⟩ := hS
      exact ⟨o, es, ep, tb, hm.heap S _ hSw ho, rest⟩
    show wpAny _ A.in1 (holding [v] (setAdd S v) >>= _) _ _ s'
    refine wpAny_bind (wpAny_holding ?_)
    unfold setAdd
    refine wpAny_holding (wpAny_bind ((mixKind prog w).pyHash (k := k) kis ?_))
    have hle := dst_len_le (ks.take i)
    rw [List.length_take] at hle
    have hsc : v.scannable = true := by
      rcases keyIs_shape kis with ⟨i, t, rfl, rfl⟩ | ⟨x, t, rfl, rfl⟩ <;> rfl
    refine setY_add (prog := prog) (s := { s' with toks := s'.toks + 1 }) kis hS' (by omega) fun h' _ hsb hS2 => ?_
    have hSi : setIs w h' S (dst (ks.take (i + 1))) := by
      rw [take_snoc ek, dst_snoc]
      exact setIs_add hS2
    refine wpAny_pure ⟨plainId_quiet PyProof.Rows.F.plain_set_update_loop _, ih (i + 1) _ (by omega) hlt (W.frame _ s' _ _ hst' (Nat.le_succ _) fun b hb o e => (hsb.2 b fun h : b = S => hSf (by rw [← h]; exact hb)).trans e) hSi fun s'' hm'' hS'' => ?_⟩
    refine hR s'' (Moved.trans W.gtrans ((hm.mono hsub).then_heap (Nat.le_succ _) fun b o hb e => ?_) hm'') hS''
    exact (hsb.2 b fun h : b = S => hb (by rw [h]; exact List.mem_cons_self)).trans e
end

section
variable {prog : Program} {w : World} {A : Around} {E : Value → Shared → Prop} {s : Shared}
theorem call_set_keys {l : Addr} {items : Array Value} {ks : List Key} {Q : Value → Shared → Prop} (hh : A.handled = none) (hl : s.heap.IsList l items) (hi : Paired (fun k v => keyIs k v = true) ks items.toList) (hb : items.size + 1 < scanBound)
    (h : ∀ (h' : Heap) (tk : Nat), setIs w h' s.heap.objs.size (dst ks) → (∀ b o, b < s.heap.objs.size → s.heap.get? b = some o → h'.get? b = some o) → Q (.ref s.heap.objs.size) { s with heap := h', toks := tk }) :
    wpAny (model prog w) A (call (.type "set") [.ref l]) Q E s := by
  obtain ⟨c, tl, hmro⟩ := PySem.F.called_set.mro
  have hmade := PySem.F.called_set.made
  have hsub := PySem.F.called_set.sub
  have h1 := PySem.F.called_set.notType
  have h2 := PySem.F.called_set.canCreate
  have hct := PySem.F.typeCall_set_1 (.ref l)
  refine wpAny_call (codeAny_of_tree ?_)
  show wpAny _ _ (callAny (.type "set") _) _ _ _
  refine wpAny_pure ⟨Code.quiet_builtin _ (by decide +kernel), codeAny_builtin PySem.F.entry_type_call ?_⟩
  rw [Around.under_plain (weight_type_call_type "set" [.ref l] []) rfl]
  repeat (any_goals (first | assumption | wp_step))
  refine codeAny_mono (L2.code_set_led1 (.ref l) (E := E) (Q₁ := fun obj s₁ => obj = .ref s.heap.objs.size ∧ s₁ = { s with heap := s.heap.push { cls := .type "set", dict := none, data := .set #[] 0 (.fresh 0 0 (!w.params.followText "set-order")) } }) ⟨rfl, rfl⟩) fun r s₁ hr => ?_
  cases r with
  | error e => exact hr
  | ok fl =>
    cases fl with
    | ret obj =>
      obtain ⟨rfl, rfl⟩ := hr
      have hS : (s.heap.push { cls := .type "set", dict := none, data := .set #[] 0 (.fresh 0 0 (!w.params.followText "set-order")) }).get? s.heap.objs.size = some { cls := .type "set", dict := none, data := .set #[] 0 (.fresh 0 0 (!w.params.followText "set-order")) } := Heap.get?_push_size _ rfl
      have hT : Shared.TypeIs { s with heap := s.heap.push { cls := .type "set", dict := none, data := .set #[] 0 (.fresh 0 0 (!w.params.followText "set-order")) } } (.ref s.heap.objs.size) "set" := ⟨_, hS, rfl⟩
      have hli := PySem.F.called_set.init.lookup
      have hbi := PySem.F.called_set.init.bind (.ref s.heap.objs.size)
      repeat (any_goals (first | assumption | wp_step))
      refine codeAny_mono (codeAny_call_builtin (R := wants (fun r s₂ => r = .none ∧ ∃ h' tk, s₂ = { s with heap := h', toks := tk } ∧ setIs w h' s.heap.objs.size (dst ks) ∧
          (∀ b o, b < s.heap.objs.size → s.heap.get? b = some o → h'.get? b = some o)) E) PySem.F.called_set.init.plain PySem.F.entry_set_init (check_set_init_1 hT ?_)) fun r₂ s₂ hr₂ => ?_
      · obtain ⟨ol, hol, hcl, nl, hdl⟩ := hl
        obtain ⟨ocls, odict, odata, oslots⟩ := ol
        simp only at hcl hdl
        subst hcl; subst hdl
        have hol' : (s.heap.push { cls := .type "set", dict := none, data := .set #[] 0 (.fresh 0 0 (!w.params.followText "set-order")) }).get? l = some { cls := .type "list", dict := odict, data := .seq items nl, slots := oslots } := Heap.get?_push_of_some _ hol
        have hsls := PySem.F.sub_list_set
        have hslf := PySem.F.sub_list_frozenset
        have hne : (Value.type "list" == Value.type "dict") = false := by decide
        have hl1 : (s.heap.push { cls := .type "set", dict := none, data := .set #[] 0 (.fresh 0 0 (!w.params.followText "set-order")) }).IsList l items := ⟨_, hol', rfl, nl, rfl⟩
        unfold Builtin.«set.__init__» noKeywords Builtin.Frozenset.updateFrom
        generalize hPI : pyIter = PI
        wp_walk
        subst hPI
        refine wpAny_pyIter_list hl1 (wpAny_bind (wpAny_runValue ?_))
        have hlS : l < s.heap.objs.size := Heap.lt_size hol
        have hh3 : A.in1.in1.in1.handled = none := by simp [hh]
        have hneI : l ≠ (s.heap.push { cls := .type "set", dict := none, data := .set #[] 0 (.fresh 0 0 (!w.params.followText "set-order")) }).objs.size := by
          rw [Heap.size_push]; exact Nat.ne_of_lt (Nat.lt_succ_of_lt hlS)
        have hSf : s.heap.objs.size ∉ [(s.heap.push { cls := .type "set", dict := none, data := .set #[] 0 (.fresh 0 0 (!w.params.followText "set-order")) }).objs.size, l] := by
          rw [Heap.size_push]
          simp only [List.mem_cons, List.mem_singleton, List.not_mem_nil, or_false, not_or]
          exact ⟨Nat.ne_of_lt (Nat.lt_succ_self _), Nat.ne_of_gt hlS⟩
        have hsz : ks.length = items.size := by
          have e := Paired.length hi
          rwa [Array.length_toList] at e
        have hval : ∀ (i : Nat) (v : Value), items[i]? = some v → ∃ k, ks[i]? = some k ∧ keyIs k v = true := fun i v hv => pair_get (F := fun k v => keyIs k v = true) hi (by rw [Array.getElem?_toList]; exact hv)
        refine setLoop ((Walks.list hh3 _ l hneI items).toS) s.heap.objs.size hSf ks hsz hb hval (items.size - 0) 0 _ (by omega) (Nat.zero_le _) ⟨⟨_, Heap.get?_push_size _ rfl, rfl, rfl⟩, (hl1.push _)⟩ ?hS0 ?hR
        case hS0 =>
          have hget : ((s.heap.push { cls := .type "set", dict := none, data := .set #[] 0 (.fresh 0 0 (!w.params.followText "set-order")) }).push { cls := .type "list_iterator", data := .fields #[.ref l, .int 0 0] }).get? s.heap.objs.size
              = some { cls := .type "set", dict := none, data := .set #[] 0 (.fresh 0 0 (!w.params.followText "set-order")) } := Heap.get?_push_of_some _ hS
          exact setY_at (setY_new w) fun o e => Heap.get?_push_of_some _ e
        case hR =>
          intro s' hm hS'
          obtain ⟨h', g', d', tk', os'⟩ := s'
          obtain rfl : g' = s.gens := hm.gens
          obtain rfl : d' = s.drawn := hm.drawn
          obtain rfl : os' = s.os := hm.os
          show wpAny _ _ _ _ _ _
          refine wpAny_pure ?_
          show wpAny _ _ (ret Value.none) _ _ _
          rw [← hsz, List.take_length] at hS'
          refine wpAny_pure ⟨rfl, h', tk', rfl, hS', fun b o hb e => ?_⟩
          have hb1 : b ≠ s.heap.objs.size := Nat.ne_of_lt hb
          have hb2 : b ≠ (s.heap.push { cls := .type "set", dict := none, data := .set #[] 0 (.fresh 0 0 (!w.params.followText "set-order")) }).objs.size := by
            rw [Heap.size_push]; exact Nat.ne_of_lt (Nat.lt_succ_of_lt hb)
          refine hm.heap b o ?_ (Heap.get?_push_of_some _ (Heap.get?_push_of_some _ e))
          simp only [List.mem_cons, List.mem_singleton, List.not_mem_nil, or_false, not_or]
          exact ⟨hb1, hb2⟩
      · cases r₂ with
        | error e => exact hr₂
        | ok fl₂ =>
          cases fl₂ with
          | ret r =>
            obtain ⟨rfl, h', tk, rfl, hS', hk'⟩ := hr₂
            repeat (any_goals (first | assumption | wp_step))
            exact h _ _ hS' hk'
          | _ => exact hr₂.elim
    | _ => exact hr.elim
end

/-! ### len(set(xs)) -/
def gSetLen (a : O) : Option O := (asL a).bind fun ds => (asKs ds).bind fun ks => if decide (ks.length ≤ 4000) = true then some (oI (dst ks).length) else none
def eLenSet (f : Ex) : Ex := fun env => (f env).bind gSetLen
theorem keys_paired (P : Program) (w : World) : ∀ {ks : List Key} {us : List Value}, Vals (ks.map kV) us → Paired (fun k v => keyIs k v = true) ks us
  | [], _, .nil => .nil
  | _ :: _, _, .cons r t => .cons (kV_is (P := P) (w := w) r) (keys_paired P w t)
theorem pf_lenSet {X : Cx} {a : Expr} {f : Ex} {p p2 q pos : Pos} (hg : Gl X "len") (hm : X.mg "len" = none) (hg2 : Gl X "set") (hm2 : X.mg "set" = none) (ha : PX X a f) (hc : X.calm = true := by rfl)
    (na : starEach [a] X.env = (false, eval a X.env) :: starEach [] X.env := by rfl) : PF X (.Call (.Name "len" p) [.Call (.Name "set" p2) [a] [] q] [] pos) (eLenSet f) := by
  refine ⟨fun pins s σ H Q I h => ?_⟩
  obtain ⟨F, R, env, oo, st, ef, k⟩ := h
  obtain ⟨o1, e1, ef⟩ := Option.bind_eq_some_iff.mp ef
  obtain ⟨ds, ed, ef⟩ := Option.bind_eq_some_iff.mp ef
  obtain ⟨ks, ek, ef⟩ := Option.bind_eq_some_iff.mp ef
  split at ef
  · rename_i hlen
    cases ef
    have hlen := of_decide_eq_true hlen
    refine Call_ (ld_blt I hg hm PySem.boot_len ?_)
    refine PyProof.Rows.callWith_builtin1 (PyProof.Rows.args_cons ?_ rfl) rfl rfl
    refine Call_ (ld_blt I hg2 hm2 boot_set ?_)
    refine PyProof.Rows.callWith_type1 (PyProof.Rows.args_cons (thn (ha.run pins s σ H _ I (rX.use st e1 fun x R1 H1 fp s1 w1 n1 => (show (fun y Hy => ∃ l vs R', y = .ref l ∧ Hy l = some (.lst vs) ∧ vs = ks.map kV ∧ Stp R H R' Hy) x H1 from ?_))) fun v s1 ⟨x, H1, I1, r1, q1⟩ => PyProof.Rows.args_nil ?_) na) na rfl
    · obtain ⟨l, vs, rfl, ea, r⟩ := asL_ow w1 s1.sub ed
      exact ⟨l, vs, R1, rfl, ea, (asKs_rp r ek).1, s1⟩
    obtain ⟨l, vs, R', rfl, hq, rfl, s1'⟩ := q1
    cases r1
    obtain ⟨its, r, pl, hz⟩ := I1.list (.inl (.inl hq))
    have hsz : its.toArray.size = ks.length := by rw [List.size_toArray, ← r.length, List.length_map]
    refine call_set_keys (prog := X.prog) (w := X.w) (ks := ks) (I1.ok.hd hc) pl.isList (by simpa using keys_paired X.prog X.w r) (by rw [hsz]; unfold scanBound; omega) fun h' tk hS hk => ?_
    refine PyProof.Rows.args_nil ?_
    obtain ⟨o, es, ep, t, ho, hex, hd, _, _, hf, hn, _⟩ := hS
    have I2 : Inv X pins σ H1 { s1 with heap := h', toks := tk } := I1.kept fun b o e => hk b o (Heap.lt_size e) e
    have hle := dst_len_le ks
    refine call_len_set ho hex hd hf (by rw [hn]; omega) ⟨.int (dst ks).length, H1, I2.tok _, ⟨_, by rw [hn]⟩, ?_⟩
    exact k _ R' H1 [] s1' ⟨rfl, .int _⟩ fun a m => by cases m
  · cases ef
/-! ### sorted(set(xs)), xs of texts -/
theorem dstA_mem {acc : List Key} {x k : Key} : k ∈ dstA acc x ↔ k ∈ acc ∨ k = x := by
  unfold dstA
  by_cases h : memK x acc = true
  · rw [if_pos h]
    refine ⟨.inl, fun z => z.elim id fun e => ?_⟩
    obtain ⟨y, hy, e2⟩ := List.any_eq_true.mp h
    rw [e, ← of_decide_eq_true e2]
    exact hy
  · rw [if_neg h, List.mem_append, List.mem_singleton]
theorem dst_go : ∀ (xs acc : List Key), acc.Nodup → (xs.foldl dstA acc).Nodup ∧ ∀ k, k ∈ xs.foldl dstA acc ↔ k ∈ acc ∨ k ∈ xs
  | [], acc, h => ⟨h, fun k => by simp⟩
  | x :: xs, acc, h => by
    have nd : (dstA acc x).Nodup := by
      unfold dstA
      split
      · exact h
      · rename_i hm
        rw [List.nodup_append]
        refine ⟨h, by simp, fun u hu v hv z => hm ?_⟩
        rw [List.mem_singleton.mp hv] at z
        exact List.any_eq_true.mpr ⟨u, hu, decide_eq_true z⟩
    obtain ⟨a, b⟩ := dst_go xs (dstA acc x) nd
    refine ⟨a, fun k => (b k).trans ?_⟩
    rw [dstA_mem, List.mem_cons, or_assoc]
theorem dst_nd (xs : List Key) : (dst xs).Nodup := (dst_go xs [] List.nodup_nil).1
theorem dst_mem {xs : List Key} {k : Key} : k ∈ dst xs ↔ k ∈ xs := ((dst_go xs [] List.nodup_nil).2 k).trans (by simp)
def dsts (xs : List Str) : List Str := (dst (xs.map Sum.inr)).filterMap fun k => match k with | .inr x => some x | .inl _ => none
theorem inrs {ks : List Key} (h : ∀ k ∈ ks, ∃ x, k = Sum.inr x) : (ks.filterMap fun k => match k with | .inr x => some x | .inl _ => none).map Sum.inr = ks := by
  induction ks with
  | nil => rfl
  | cons k ks ih =>
    obtain ⟨x, rfl⟩ := h k List.mem_cons_self
    have := ih fun k m => h k (List.mem_cons_of_mem _ m)
    show Sum.inr x :: List.map Sum.inr _ = _
    rw [this]
theorem dsts_eq (xs : List Str) : (dsts xs).map Sum.inr = dst (xs.map Sum.inr) := inrs fun k m => by
  obtain ⟨x, _, e⟩ := List.mem_map.mp (dst_mem.mp m)
  exact ⟨x, e.symm⟩
theorem dsts_nd (xs : List Str) : (dsts xs).Nodup := by
  have h := dst_nd (xs.map Sum.inr)
  rw [← dsts_eq] at h
  exact (List.pairwise_map.mp h).imp fun {a b} n z => n (by rw [z])
theorem dsts_mem {xs : List Str} {x : Str} : x ∈ dsts xs ↔ x ∈ xs := by
  have h := dst_mem (xs := xs.map Sum.inr) (k := Sum.inr x)
  rw [← dsts_eq] at h
  constructor
  · intro m
    obtain ⟨y, hy, e⟩ := List.mem_map.mp (h.mp (List.mem_map.mpr ⟨x, m, rfl⟩))
    cases e; exact hy
  · intro m
    obtain ⟨y, hy, e⟩ := List.mem_map.mp (h.mpr (List.mem_map.mpr ⟨x, m, rfl⟩))
    cases e; exact hy
theorem dsts_len (xs : List Str) : (dsts xs).length ≤ xs.length := by
  have h := dst_len_le (xs.map Sum.inr)
  rwa [← dsts_eq, List.length_map, List.length_map] at h
/-- texts of one set sort alike, in whatever order they come -/
theorem sortS_perm {xs ys : List Str} (p : xs.Perm ys) : sortD (xs.map .str) = sortD (ys.map .str) := by
  have T : PySem.W.TotalLe (PySem.W.dataLe false (id : D → D)) := PySem.W.sortLe_total _ false _
  refine List.Perm.eq_of_pairwise (le := fun a b : D => PySem.W.dataLe false (id : D → D) a b = true) ?_ (PySem.W.sort_pairwise T _) (PySem.W.sort_pairwise T _) ((List.mergeSort_perm _ _).trans ((p.map _).trans (List.mergeSort_perm _ _).symm))
  intro a b ha hb h1 h2
  obtain ⟨x, _, rfl⟩ := List.mem_map.mp ((List.mergeSort_perm _ _).mem_iff.mp ha)
  obtain ⟨y, _, rfl⟩ := List.mem_map.mp ((List.mergeSort_perm _ _).mem_iff.mp hb)
  have e1 : (!PySem.W.dataLt (.str y) (.str x)) = true := h1
  have e2 : (!PySem.W.dataLt (.str x) (.str y)) = true := h2
  rw [PySem.W.dataLt_str, Bool.not_eq_true', decide_eq_false_iff_not] at e1 e2
  rcases List.le_iff_lt_or_eq.mp (List.not_lt.mp e1) with z | z
  · exact absurd z e2
  · congr 1
    cases x; cases y
    simp only [Array.toList_inj] at z
    rw [z]
section
variable {prog : Program} {w : World} {A : Around} {E : Value → Shared → Prop} {s : Shared}
theorem each_of {zs : List Str} {vs : List Value} (p : Paired (fun (k : Str) v => keyIs (.inr k) v = true) zs vs) : PySem.W.EachIs (fun v (k : Str) => keyIs (.inr k) v = true) vs zs := by
  induction p with
  | nil => exact .nil
  | cons h _ ih => exact .cons h ih
theorem of_each {zs : List Str} {vs : List Value} (p : PySem.W.EachIs (fun v (k : Str) => keyIs (.inr k) v = true) vs zs) : Paired (fun (k : Str) v => keyIs (.inr k) v = true) zs vs := by
  induction p with
  | nil => exact .nil
  | cons h _ ih => exact .cons h ih
theorem sorted_setY {a : Addr} {ys : List Str} {Q : Value → Shared → Prop} (R : setIs w s.heap a (ys.map Sum.inr)) (hh : A.handled = none) (hu : A.units + 10 < cLine) (hl : ys.length ≤ 4000) (nd : ys.Nodup)
    (hQ : ∀ s' p (out : List Value) (c : Nat) (zs : List Str), (∀ b o, s.heap.get? b = some o → s'.heap.get? b = some o) → s'.gens = s.gens → s'.os = s.os → s.heap.objs.size ≤ p →
      s'.heap.get? p = some (seqObj "list" out.toArray c) → Paired (fun (k : Str) v => keyIs (.inr k) v = true) zs out → zs.length = ys.length → zs.map .str = sortD (ys.map .str) → Q (.ref p) s') :
    wpAny (model prog w) A (call (.builtin "sorted") [.ref a]) Q E s := by
  obtain ⟨o, es, ep, t, ho, hex, hd, ⟨g, nd', hm⟩, hb, hf, hn, hr, hled⟩ := R
  refine Calls.call_function_entry kind_sorted plain_sorted entry_sorted (args_sorted1 _) ?_
  unfold Builtin.«sorted»
  refine wpAny_bind (m := checkCount "sorted" 1 1 _) (wpAny_pure (wpAny_bind (L2.collect_set (A := A.in1) hh ⟨o, ho, hex.1, hd⟩ hf hb hr hled fun s1 vs k1 hz g1 o1 pm => ?_)))
  have inK : ∀ e ∈ es.toList, ∃ x, kOf e = Sum.inr x ∧ x ∈ ys := fun e m => by
    have h := (hm (kOf e)).mpr (List.mem_map.mpr ⟨e, m, rfl⟩)
    obtain ⟨y, hy, e2⟩ := List.any_eq_true.mp h
    obtain ⟨x, hx, rfl⟩ := List.mem_map.mp hy
    exact ⟨x, (of_decide_eq_true e2).symm, hx⟩
  obtain ⟨zs, pz⟩ : ∃ zs : List Str, Paired (fun (k : Str) v => keyIs (.inr k) v = true) zs vs ∧ zs.map Sum.inr = vs.map fun v => kOf (0, v) := by
    have hv : ∀ v ∈ vs, ∃ x, keyIs (.inr x) v = true ∧ kOf (0, v) = Sum.inr x := fun v m => by
      obtain ⟨e, he, rfl⟩ := List.mem_map.mp (pm.mem_iff.mp m)
      obtain ⟨x, ex, _⟩ := inK e he
      exact ⟨x, ex ▸ (g e he).1, ex⟩
    clear pm
    induction vs with
    | nil => exact ⟨[], .nil, rfl⟩
    | cons v vs ih =>
      obtain ⟨zs, p, q⟩ := ih fun v m => hv v (List.mem_cons_of_mem _ m)
      obtain ⟨x, h1, h2⟩ := hv v List.mem_cons_self
      exact ⟨x :: zs, .cons h1 p, by rw [List.map_cons, List.map_cons, h2, q]⟩
  obtain ⟨pz, ez⟩ := pz
  have pk : (zs.map Sum.inr).Perm (es.toList.map kOf) := by
    rw [ez]
    have q := pm.map fun v => kOf (0, v)
    rw [List.map_map] at q
    exact q
  have pn : zs.Perm ys := by
    have nz : zs.Nodup := (List.pairwise_map.mp (pk.nodup_iff.mpr nd')).imp fun {a b} n z => n (by rw [z])
    refine (List.perm_ext_iff_of_nodup nz nd).mpr fun x => ?_
    have e1 : x ∈ zs ↔ Sum.inr x ∈ es.toList.map kOf := by
      rw [← pk.mem_iff]
      exact ⟨fun m => List.mem_map.mpr ⟨x, m, rfl⟩, fun m => by
        obtain ⟨y, hy, e⟩ := List.mem_map.mp m
        cases e; exact hy⟩
    rw [e1, ← hm]
    constructor
    · intro h
      obtain ⟨y, hy, e2⟩ := List.any_eq_true.mp h
      obtain ⟨z, hz, rfl⟩ := List.mem_map.mp hy
      have e3 := of_decide_eq_true e2
      cases e3; exact hz
    · intro h
      exact List.any_eq_true.mpr ⟨_, List.mem_map.mpr ⟨x, h, rfl⟩, decide_eq_true rfl⟩
  have zl : zs.length ≤ 4000 := pn.length_eq ▸ hl
  have vl : vs.length = zs.length := pz.length.symm
  refine wpAny_bind (wpAny_newList ?_ (by rw [vl, sizeLine_eq]; omega))
  have hoL : (s1.heap.push (seqObj "list" vs.toArray 0)).get? s1.heap.objs.size = some (seqObj "list" vs.toArray 0) := Heap.get?_push_size _ rfl
  have e1 := each_of pz
  have er : PySem.W.EachIs (fun v (b : Str) => ∃ as, Reads (s1.heap.push (seqObj "list" vs.toArray 0)) v (PyData.str b) as ∧ s1.heap.objs.size ∉ as) vs zs := e1.mono fun v b h => by
    rcases keyIs_shape h with ⟨i, t, q, _⟩ | ⟨x, t, q, rfl⟩
    · cases q
    · cases q
      exact ⟨[], .str b t, fun m => by cases m⟩
  have al : PySem.W.AllAlike (zs.map PyData.str) := fun d hd d' hd' => by
    obtain ⟨x, _, rfl⟩ := List.mem_map.mp hd
    obtain ⟨y, _, rfl⟩ := List.mem_map.mp hd'
    simp [PySem.W.alike]
  have sk : PySem.W.Sortable (zs.map PyData.str) := .inr fun d hd => by
    obtain ⟨x, _, rfl⟩ := List.mem_map.mp hd
    exact ⟨fun z => (by cases z), fun xs z => (by cases z)⟩
  refine wpAny_bind (wpAny_holding (PySem.W.list_sort_data (s := { s1 with heap := s1.heap.push (seqObj "list" vs.toArray 0) }) (enc := PyData.str) hoL e1 er al sk (by rw [sizeLine_eq]; omega) (fun b _ => ?_) fun out lo eo => ?_))
  · show _ + 1 + 0 < cLine
    simp only [Around.in1]
    omega
  · obtain ⟨c, hc⟩ := sortedHeap_at (vs := vs) (out := out.toArray) hoL
    refine wpAny_pure ⟨_, rfl, hQ { s1 with heap := sortedHeap (s1.heap.push (seqObj "list" vs.toArray 0)) s1.heap.objs.size vs out.toArray } s1.heap.objs.size out c _ (fun b u e => ?_) g1 o1 hz hc (of_each eo) ((List.mergeSort_perm _ _).length_eq.trans pn.length_eq) ?_⟩
    · have q := k1 b u e
      have hlt := Heap.lt_size q
      show (sortedHeap (s1.heap.push (seqObj "list" vs.toArray 0)) s1.heap.objs.size vs out.toArray).get? b = some u
      rw [sortedHeap_old (Nat.ne_of_lt hlt) (by rw [Heap.size_push]; exact Nat.lt_succ_of_lt hlt)]
      exact Heap.get?_push_of_some _ q
    · exact (PySem.W.sort_maps (r := PySem.W.dataLe false PyData.str) (s := PySem.W.dataLe false (id : D → D)) PyData.str fun _ _ _ _ => rfl).trans (sortS_perm pn)
end
def gSortSet (a : O) : Option O := (asL a).bind fun ds => (asSs ds).bind fun xs => if decide (xs.length ≤ 4000) = true then some (.lst (sortD ((dsts xs).map .str))) else none
def eSortSet (f : Ex) : Ex := fun env => (f env).bind gSortSet
theorem asSs_rpK {R : Hp} : ∀ {vs : List V} {ds : List D} {xs : List Str}, RpAll R vs ds → asSs ds = some xs → vs = (xs.map Sum.inr).map kV ∧ ds = xs.map .str
  | _, _, _, .nil, e => by cases e; exact ⟨rfl, rfl⟩
  | _, _, _, .cons (d := d) h t, e => by
    cases d <;> try (cases e)
    case str x =>
      obtain ⟨l, el, e⟩ := Option.map_eq_some_iff.mp e
      subst e
      cases h
      obtain ⟨r1, r2⟩ := asSs_rpK t el
      rw [r1, r2]
      exact ⟨rfl, rfl⟩
theorem key_relV {x : Str} {v : Value} (h : keyIs (.inr x) v = true) : RelV (kV (.inr x)) v := by
  rcases keyIs_shape h with ⟨i, t, q, _⟩ | ⟨y, t, q, rfl⟩
  · cases q
  · cases q; exact ⟨t, rfl⟩
theorem paired_keys {zs : List Str} {out : List Value} (p : Paired (fun (k : Str) v => keyIs (.inr k) v = true) zs out) : Vals ((zs.map Sum.inr).map kV) out := by
  induction p with
  | nil => exact .nil
  | cons h _ ih => exact .cons (key_relV h) ih
theorem rp_strs {R : Hp} (zs : List Str) : RpAll R ((zs.map Sum.inr).map kV) (zs.map .str) := by
  induction zs with
  | nil => exact .nil
  | cons x zs ih => exact .cons (.str x) ih
theorem pf_sortSet {X : Cx} {k : Nat} {a : Expr} {f : Ex} {p p2 q pos : Pos} (hr : Room k X.A) (hg : Gl X "sorted") (hm : X.mg "sorted" = none) (hg2 : Gl X "set") (hm2 : X.mg "set" = none) (ha : PX X a f) (hc : X.calm = true := by rfl)
    (na : starEach [a] X.env = (false, eval a X.env) :: starEach [] X.env := by rfl) : PF X (.Call (.Name "sorted" p) [.Call (.Name "set" p2) [a] [] q] [] pos) (eSortSet f) := by
  refine ⟨fun pins s σ H Q I h => ?_⟩
  obtain ⟨F, R, env, oo, st, ef, k⟩ := h
  obtain ⟨o1, e1, ef⟩ := Option.bind_eq_some_iff.mp ef
  obtain ⟨ds, ed, ef⟩ := Option.bind_eq_some_iff.mp ef
  obtain ⟨xs, ek, ef⟩ := Option.bind_eq_some_iff.mp ef
  split at ef
  · rename_i hlen
    cases ef
    have hlen := of_decide_eq_true hlen
    refine Call_ (ld_blt I hg hm boot_sorted ?_)
    refine PyProof.Rows.callWith_builtin1 (PyProof.Rows.args_cons ?_ rfl) rfl rfl
    refine Call_ (ld_blt I hg2 hm2 boot_set ?_)
    refine PyProof.Rows.callWith_type1 (PyProof.Rows.args_cons (thn (ha.run pins s σ H _ I (rX.use st e1 fun x R1 H1 fp s1 w1 n1 => (show (fun y Hy => ∃ l vs R', y = .ref l ∧ Hy l = some (.lst vs) ∧ vs = (xs.map Sum.inr).map kV ∧ Stp R H R' Hy) x H1 from ?_))) fun v s1 ⟨x, H1, I1, r1, q1⟩ => PyProof.Rows.args_nil ?_) na) na rfl
    · obtain ⟨l, vs, rfl, ea, r⟩ := asL_ow w1 s1.sub ed
      exact ⟨l, vs, R1, rfl, ea, (asSs_rpK r ek).1, s1⟩
    obtain ⟨l, vs, R', rfl, hq, rfl, s1'⟩ := q1
    cases r1
    obtain ⟨its, r, pl, hz⟩ := I1.list (.inl (.inl hq))
    have hsz : its.toArray.size = xs.length := by rw [List.size_toArray, ← r.length, List.length_map, List.length_map]
    refine call_set_keys (prog := X.prog) (w := X.w) (ks := xs.map Sum.inr) (I1.ok.hd hc) pl.isList (by simpa using keys_paired X.prog X.w r) (by rw [hsz]; unfold scanBound; omega) fun h' tk hS hk => ?_
    refine PyProof.Rows.args_nil ?_
    rw [← dsts_eq] at hS
    have I2 : Inv X pins σ H1 { s1 with heap := h', toks := tk } := I1.kept fun b o e => hk b o (Heap.lt_size e) e
    refine sorted_setY (prog := X.prog) (w := X.w) hS (I1.ok.hd hc) (by have := hr.un; omega) (Nat.le_trans (dsts_len xs) hlen) (dsts_nd xs) fun s' p out c zs kp g o hp hpo pz zl ez => ?_
    have np : H1 p = none := I2.hok.fresh hp
    have rv : Vals ((zs.map Sum.inr).map kV) out := paired_keys pz
    have small : ((zs.map Sum.inr).map kV).length ≤ sizeLine := by
      have := dsts_len xs
      rw [List.length_map, List.length_map, sizeLine_eq]
      omega
    have lok : ObjOk X.prog X.w (upd H1 p (.lst ((zs.map Sum.inr).map kV))) s'.heap p (.lst ((zs.map Sum.inr).map kV)) := ⟨small, out, c, rv, hpo⟩
    have J : Inv X pins σ (upd H1 p (.lst ((zs.map Sum.inr).map kV))) s' :=
      I2.call' (ch := []) o (Un.laid kp hp np) (I2.hok.laid kp hp lok) (by rw [g]; exact I2.bare) (fun _ z => nomatch z)
    rw [← ez] at k
    exact ⟨.ref p, _, J, rfl, done_l s1'.sub np (rp_strs zs) fun z R2 H2 fp st2 w2 n2 => k z R2 H2 fp (s1'.trans st2) w2 fun b m => ⟨(n2 b m).1, s1'.none st.rH (n2 b m).2⟩⟩
  · cases ef
end TP

/-! More: chains, pairs assigned at once, calls by bundles. -/
namespace TP
open PySem PySem.Spec PyProof.Rows L2

section
variable {X : Cx} {e a b c : Expr} {es : List Expr} {pos : Pos} {f g h : Ex}
/-! ### order of ints or texts -/
def gLe' : O → O → Option O := fun a b => (gLe a b).or (gLeS a b)
theorem ok_le' {K : PySem.W.Frag} : OpOk K (fun x y H Q => rI0 (fun i j => .bl (decide (i ≤ j))) x y H Q ∨ (fun x y H Q => ∃ i j, x = .str i ∧ y = .str j ∧ Q (.bl (!decide (j.cps.toList < i.cps.toList))) H) x y H Q) gLe' := OpOk.or ok_le ok_leS
theorem op_le' : OpR X (compareOp .LtE) (fun x y H Q => rI0 (fun i j => .bl (decide (i ≤ j))) x y H Q ∨ (fun x y H Q => ∃ i j, x = .str i ∧ y = .str j ∧ Q (.bl (!decide (j.cps.toList < i.cps.toList))) H) x y H Q) := OpR.or op_le op_le_str
/-! ### a < b < c -/
def eChain (g1 g2 : O → O → Option O) (f1 f2 f3 : Ex) : Ex := fun env => (f1 env).bind fun x => (f2 env).bind fun y => (g1 x y).bind fun z => match z with
  | .dat (.bool true) => (f3 env).bind fun w => g2 y w
  | .dat (.bool false) => some (.dat (.bool false))
  | _ => none
theorem chain_use {K : PySem.W.Frag} {r r' : R2} {g1 g2 : O → O → Option O} {f1 f2 f3 : Ex} (hr : OpOk K r g1) (hr' : OpOk K r' g2) (σ : L2.St) (H : Hp) (Q : VK) (q : rF K (eChain g1 g2 f1 f2 f3) σ H Q) : tChain r r' (rX K f1) (rX K f2) (rX K f3) σ H Q := by
  obtain ⟨F, R, env, o, st, ef, k⟩ := q
  obtain ⟨o1, e1, ef⟩ := Option.bind_eq_some_iff.mp ef
  obtain ⟨o2, e2, ef⟩ := Option.bind_eq_some_iff.mp ef
  obtain ⟨o3, e3, ef⟩ := Option.bind_eq_some_iff.mp ef
  refine rX.use st e1 fun x R1 H1 fp1 s1 w1 n1 => ?_
  refine rX.use (st.stp s1) e2 fun y R2 H2 fp2 s2 w2 n2 => ?_
  obtain ⟨w1', n1'⟩ := w1.stp n1 s1.sub s2
  refine hr R2 H2 x y o1 o2 fp1 fp2 o3 _ s2.sub w1' n1' w2 n2 e3 fun z R3 H3 fp3 s3 w3 n3 => ?_
  split at ef
  · obtain ⟨_, w3⟩ := w3
    cases w3
    obtain ⟨o4, e4, ef⟩ := Option.bind_eq_some_iff.mp ef
    refine ⟨true, rfl, ?_⟩
    rw [if_pos rfl]
    refine rX.use (((st.stp s1).stp s2).stp s3) e4 fun u R4 H4 fp4 s4 w4 n4 => ?_
    obtain ⟨w2', n2'⟩ := w2.stp n2 s2.sub (s3.trans s4)
    refine hr' R4 H4 y u o2 o4 fp2 fp4 o Q s4.sub w2' n2' w4 n4 ef fun z R5 H5 fp5 s5 w5 n5 => ?_
    have s04 := ((s1.trans s2).trans s3).trans s4
    exact k z R5 H5 fp5 (s04.trans s5) w5 fun a m => ⟨(n5 a m).1, s04.none st.rH (n5 a m).2⟩
  · obtain ⟨_, w3⟩ := w3
    cases w3
    cases ef
    refine ⟨false, rfl, ?_⟩
    rw [if_neg Bool.false_ne_true]
    exact k _ R3 H3 [] ((s1.trans s2).trans s3) ⟨rfl, .bl false⟩ fun a m => by cases m
  · cases ef
theorem pf_chain {op op' : CmpOp} {r r' : R2} {g1 g2 : O → O → Option O} {f1 f2 f3 : Ex} (ho : OpR X (compareOp op) r) (hr : OpOk X.K r g1) (ho' : OpR X (compareOp op') r') (hr' : OpOk X.K r' g2) (ha : PX X a f1) (hb : PX X b f2) (hc : PX X c f3)
    (hm : lastMarks [op, op'] [b, c] = false := by with_unfolding_all rfl) : PF X (.Compare a [op, op'] [b, c] pos) (eChain g1 g2 f1 f2 f3) := PE.weak (pe_chain ho ho' ha hb hc hm) (chain_use hr hr')
theorem ptc_chain {op op' : CmpOp} {r r' : R2} {g1 g2 : O → O → Option O} {f1 f2 f3 : Ex} (ho : OpR X (compareOp op) r) (hr : OpOk X.K r g1) (ho' : OpR X (compareOp op') r') (hr' : OpOk X.K r' g2) (ha : PX X a f1) (hb : PX X b f2) (hc : PX X c f3)
    (hm : lastMarks [op, op'] [b, c] = false := by with_unfolding_all rfl) : PC' X (.Compare a [op, op'] [b, c] pos) (eChain g1 g2 f1 f2 f3) := PT.weak (pt_chain ho ho' ha hb hc hm) (tB_of (chain_use hr hr'))
/-! ### a, b = e, f -/
def sPar (i j : Nat) (f g : Ex) : Sx := fun env => (f env).bind fun o1 => (asD o1).bind fun d1 => (g env).bind fun o2 => (asD o2).bind fun d2 => if i < env.length ∧ j < env.length then some (.nx ((env.set i (.shr (.dat d1))).set j (.shr (.dat d2)))) else none
theorem psx_par {i j : Nat} {x y : Str} {px py pt : Pos} {kt k2 : Nat} {pt2 : Pos} (ha : PF X a f) (hb : PF X b g) (hN : X.N.Nodup) (hc : X.calm = true := by rfl) (hi : X.N[i]? = some x := by rfl) (hj : X.N[j]? = some y := by rfl) (hij : i ≠ j := by decide)
    (hx : X.env.scope.names.lookup x = some .local := by rfl) (hy : X.env.scope.names.lookup y = some .local := by rfl) (hsa : starEach [a, b] X.env = (false, eval a X.env) :: starEach [b] X.env := by rfl) (hsb : starEach [b] X.env = (false, eval b X.env) :: starEach [] X.env := by rfl)
    (hw : swappedStores [.Tuple [.Name x px, .Name y py] kt pt] (.Tuple [a, b] k2 pt2) X.env = pure (some [x, y]) := by rfl)
    (hs : swapsWithSole [.Tuple [.Name x px, .Name y py] kt pt] (.Tuple [a, b] k2 pt2) pos.line X.env = pure false := by rfl) :
    PSx X (.Assign [.Tuple [.Name x px, .Name y py] kt pt] (.Tuple [a, b] k2 pt2) pos) (sPar i j f g) := by
  refine PS.weak (ps_par hc hN hi hj hij hx hy (pa_cons ha (pa_cons hb pa_nil hsb) hsa) hw hs) fun Dn σ H q => ?_
  obtain ⟨F, R, env, out, st, ef, k⟩ := q
  obtain ⟨o1, e1, ef⟩ := Option.bind_eq_some_iff.mp ef
  obtain ⟨d1, ed1, ef⟩ := Option.bind_eq_some_iff.mp ef
  obtain ⟨o2, e2, ef⟩ := Option.bind_eq_some_iff.mp ef
  obtain ⟨d2, ed2, ef⟩ := Option.bind_eq_some_iff.mp ef
  split at ef
  · rename_i hl
    cases ef
    refine rF.use st e1 fun u R1 H1 fp1 s1 w1 n1 => ?_
    refine rF.use (st.stp s1) e2 fun v R2 H2 fp2 s2 w2 n2 => ?_
    rw [asD_dat ed1] at w1
    rw [asD_dat ed2] at w2
    refine ⟨u, v, rfl, k _ R2 H2 ((((st.stp s1).stp s2).setD hl.1 (w1.2.mono s2.gr)).setD (by rw [List.length_set]; exact hl.2) w2.2) (s1.gr.trans s2.gr)⟩
  · cases ef

/-! ### calls by bundles -/
/-- a def of the text that keeps the promise m -/
structure Cal (P : Program) (w : World) (K : PySem.W.Frag) (mg : Str → Option Value) (base : Heap) (x : Str) (n k : Nat) (m : List O → Option O) : Prop where
  ex : ∃ (fa : Addr) (fd : FuncData) (ps : List Str), mg x = some (.ref fa) ∧ FnOk P w K mg base CX0 k fa fd ps (SpF K n m) ∧ PySem.W.keepIn K (.ref fa) = true ∧ Binds K fd ps []
/-- a def stands in the text -/
structure DefAt (K : PySem.W.Frag) (mg : Str → Option Value) (x : Str) (st : Stmt) (ps : List Str) : Prop where
  ex : ∃ (fa : Addr) (fd : FuncData), mg x = some (.ref fa) ∧ Fun K x x st fa fd ∧ Binds K fd ps []
theorem pf_cal {x : Str} {p : Pos} {k j n : Nat} {m : List O → Option O} {fs : Exs} (C : Cal X.prog X.w X.K X.mg X.base x n k m) (hr : Room j X.A) (hkj : k ≤ j := by decide) (hg : Gl X x := by rfl)
    (ha : PAs X (e :: es) fs) (hdb : (x == ("__debug__" : Str)) = false := by decide) (he : starEach (e :: es) X.env = (false, eval e X.env) :: starEach es X.env := by rfl) (hpl : (backTo pos (starEach es X.env)).any (·.1) = false := by rfl) :
    PF X (.Call (.Name x p) (e :: es) [] pos) (eFn n m fs) := by
  obtain ⟨fa, fd, ps, hm, G, hk, hb⟩ := C.ex
  exact pf_call G (hr.mono hkj) hg hm hk hb ha hdb he hpl
end
section
variable {X : Cx} {tg e a b c : Expr} {pos : Pos} {K : PySem.W.Frag} {F R H : Hp}
theorem shrL {σ : L2.St} {env : En} {i : Nat} {o : O} {ds : List D} (st : StR K F σ R H env) (hi : env[i]? = some (.shr o)) (hd : asL o = some ds) :
    ∃ vs ad, σ[i]? = some (some (.ref ad)) ∧ RpAll R vs ds ∧ ∀ R' H', Gr R R' → Sub R' H' → (∀ a o, F a = some o → H' a = some o) → SqL K H' ad vs := by
  obtain ⟨fps, h1, _, _⟩ := st.sl
  obtain ⟨x, ex, _, v, fp', rfl, ow, hf⟩ := h1 i _ hi
  unfold asL at hd
  split at hd
  · cases hd
    obtain ⟨_, w⟩ := ow
    cases w with
    | lst ea r => exact ⟨_, _, ex, r, fun R' H' g s _ => .inl (.inl (s _ _ (g.lst ea)))⟩
  · cases hd
    obtain ⟨ad, vs, rfl, rfl, ea, r⟩ := ow
    obtain ⟨⟨ob, eF⟩, _⟩ := hf ad List.mem_cons_self
    have e2 := st.fH _ _ eF
    rw [ea] at e2; cases e2
    exact ⟨vs, ad, ex, r, fun R' H' g s f => .inl (.inl (f _ _ eF))⟩
  · cases hd
theorem shrT {σ : L2.St} {env : En} {i : Nat} {ds : List D} (st : StR K F σ R H env) (hi : env[i]? = some (.shr (.dat (.tuple ds)))) :
    ∃ vs ad, σ[i]? = some (some (.ref ad)) ∧ RpAll R vs ds ∧ ∀ R' H', Gr R R' → Sub R' H' → (∀ a o, F a = some o → H' a = some o) → SqT K H' ad vs := by
  obtain ⟨v, fp, ev, ow, n⟩ := st.get (.inl hi)
  obtain ⟨_, w⟩ := ow
  cases w with
  | tup ea r => exact ⟨_, _, ev, r, fun R' H' g s _ => .inl ((ea.gr g).sub s)⟩
def zipD (xs ys : List D) : List D := List.zipWith (fun x y => PyData.tuple [x, y]) xs ys
/-- no item of the zip stands locked -/
def zok (xs ys : List D) : Bool := (List.zipWith (fun x y => !needF [x, y]) xs ys).all id
theorem zok_get {xs ys : List D} {i : Nat} {x y : D} (h : zok xs ys = true) (ex : xs[i]? = some x) (ey : ys[i]? = some y) : needF [x, y] = false := by
  have m : (!needF [x, y]) ∈ List.zipWith (fun x y => !needF [x, y]) xs ys := List.mem_of_getElem? (i := i) (by rw [List.getElem?_zipWith, ex, ey])
  have := List.all_eq_true.mp h _ m
  simpa using this
theorem zip_get {xs ys : List D} {i : Nat} {d : D} (h : (zipD xs ys)[i]? = some d) : ∃ x y, xs[i]? = some x ∧ ys[i]? = some y ∧ d = .tuple [x, y] := by
  unfold zipD at h
  rw [List.getElem?_zipWith] at h
  split at h
  · rename_i x y ex ey
    cases h
    exact ⟨x, y, ex, ey, rfl⟩
  · cases h
theorem yld_zip {p q : Addr} {vs ws : List V} {ds es : List D} {R1 : Hp} (hl : ∀ R H, Gr R1 R → Sub R H → (∀ a o, F a = some o → H a = some o) → SqL K H p vs) (hl2 : ∀ R H, Gr R1 R → Sub R H → (∀ a o, F a = some o → H a = some o) → SqL K H q ws) (r : RpAll R1 vs ds) (r2 : RpAll R1 ws es) (zk : zok ds es = true) : Yld F (Itz K p q) R1 (zipD ds es) := by
  intro R H g s f i
  have hq := hl R H g s f
  have hq2 := hl2 R H g s f
  refine ⟨fun d e => ?_, fun e => ⟨vs, ws, hq, hq2, ?_⟩⟩
  · obtain ⟨x, y, ex, ey, rfl⟩ := zip_get e
    obtain ⟨v, ev, rv⟩ := r.get ex
    obtain ⟨u, eu, ru⟩ := r2.get ey
    refine ⟨⟨vs, ws, v, u, hq, hq2, ev, eu⟩, fun z H' yz => ?_⟩
    obtain ⟨T, x1, y1, rfl, nT, rfl, y1', y2'⟩ := yz
    obtain rfl : v = x1 := Option.some.inj (ev.symm.trans (y1' vs hq))
    obtain rfl : u = y1 := Option.some.inj (eu.symm.trans (y2' ws hq2))
    have s2 : Stp R H (upd R T (.tup [v, u])) (upd H T (.tup [v, u])) := Stp.lay s nT
    exact ⟨_, s2, .tup (.mk (zok_get zk ex ey) upd_same) (.cons (rv.mono (g.trans s2.gr)) (.cons (ru.mono (g.trans s2.gr)) .nil))⟩
  · unfold zipD at e
    rw [List.length_zipWith] at e
    rw [r.length, r2.length]
    omega
theorem yld_zipT {p q : Addr} {vs ws : List V} {ds es : List D} {R1 : Hp} (hl : ∀ R H, Gr R1 R → Sub R H → (∀ a o, F a = some o → H a = some o) → SqT K H p vs) (hl2 : ∀ R H, Gr R1 R → Sub R H → (∀ a o, F a = some o → H a = some o) → SqT K H q ws) (r : RpAll R1 vs ds) (r2 : RpAll R1 ws es) (zk : zok ds es = true) : Yld F (RZ.ItzT K p q) R1 (zipD ds es) := by
  intro R H g s f i
  have hq := hl R H g s f
  have hq2 := hl2 R H g s f
  refine ⟨fun d e => ?_, fun e => ⟨vs, ws, hq, hq2, ?_⟩⟩
  · obtain ⟨x, y, ex, ey, rfl⟩ := zip_get e
    obtain ⟨v, ev, rv⟩ := r.get ex
    obtain ⟨u, eu, ru⟩ := r2.get ey
    refine ⟨⟨vs, ws, v, u, hq, hq2, ev, eu⟩, fun z H' yz => ?_⟩
    obtain ⟨T, x1, y1, rfl, nT, rfl, y1', y2'⟩ := yz
    obtain rfl : v = x1 := Option.some.inj (ev.symm.trans (y1' vs hq))
    obtain rfl : u = y1 := Option.some.inj (eu.symm.trans (y2' ws hq2))
    have s2 : Stp R H (upd R T (.tup [v, u])) (upd H T (.tup [v, u])) := Stp.lay s nT
    exact ⟨_, s2, .tup (.mk (zok_get zk ex ey) upd_same) (.cons (rv.mono (g.trans s2.gr)) (.cons (ru.mono (g.trans s2.gr)) .nil))⟩
  · unfold zipD at e
    rw [List.length_zipWith] at e
    rw [r.length, r2.length]
    omega
def itZip (i j : Nat) : Its' := fun env => match env[i]?, env[j]? with
  | some (.shr a), some (.shr b) => (match asL a, asL b with
    | some xs, some ys => if zok xs ys = true then some (zipD xs ys) else none
    | _, _ => match a, b with
      | .dat (.tuple xs), .dat (.tuple ys) => if zok xs ys = true then some (zipD xs ys) else none
      | _, _ => none)
  | _, _ => none
theorem pix_zip {i j kk : Nat} {x y : Str} {elts : List Expr} {tpos p px py : Pos} (hg : Gl X "zip") (hm : X.mg "zip" = none) (hN : X.N[i]? = some x := by rfl) (hN2 : X.N[j]? = some y := by rfl) (hv : Vis X.env.scope x := by first | exact Or.inl rfl | exact Or.inr (Or.inl rfl) | exact Or.inr (Or.inr rfl)) (hv2 : Vis X.env.scope y := by first | exact Or.inl rfl | exact Or.inr (Or.inl rfl) | exact Or.inr (Or.inr rfl))
    (hd : (x == ("__debug__" : Str)) = false := by decide) (hcd : (x == ("__classdict__" : Str)) = false := by decide) (hd2 : (y == ("__debug__" : Str)) = false := by decide) (hcd2 : (y == ("__classdict__" : Str)) = false := by decide) : PIx X (.Tuple elts kk tpos) (.Call (.Name "zip" p) [.Name x px, .Name y py] [] pos) (itZip i j) := by
  refine PI.weak (RZ.pi_zipA hg hm (pa_cons (pe_var hN hv hd hcd) (pa_cons (pe_var hN2 hv2 hd2 hcd2) pa_nil))) fun σ H Rk q => ?_
  obtain ⟨F, R0, env, ds, st, ei, k⟩ := q
  unfold itZip at ei
  split at ei
  · rename_i oa ob ea eb
    split at ei
    · rename_i xs ys h1 h2
      by_cases zk : zok xs ys = true
      rotate_left
      · rw [if_neg zk] at ei; cases ei
      rw [if_pos zk] at ei
      cases ei
      obtain ⟨vs, p, ev, r, hq⟩ := shrL st ea h1
      obtain ⟨ws, q, ev2, r2, hq2⟩ := shrL st eb h2
      exact ⟨_, ev, _, ev2, p, q, vs, ws, rfl, .inl ⟨hq R0 H (Gr.refl R0) st.rH st.fH, hq2 R0 H (Gr.refl R0) st.rH st.fH, k _ R0 H (Stp.refl st.rH) (yld_zip hq hq2 r r2 zk)⟩⟩
    · split at ei
      · rename_i xs ys _
        by_cases zk : zok xs ys = true
        rotate_left
        · rw [if_neg zk] at ei; cases ei
        rw [if_pos zk] at ei
        cases ei
        obtain ⟨vs, p, ev, r, hq⟩ := shrT st ea
        obtain ⟨ws, q, ev2, r2, hq2⟩ := shrT st eb
        exact ⟨_, ev, _, ev2, p, q, vs, ws, rfl, .inr ⟨hq R0 H (Gr.refl R0) st.rH st.fH, hq2 R0 H (Gr.refl R0) st.rH st.fH, k _ R0 H (Stp.refl st.rH) (yld_zipT hq hq2 r r2 zk)⟩⟩
      · cases ei
  · cases ei
end
/-- a body as a function of the arguments -/
def runB (n : Nat) (body : Sx) : List O → Option O := fun os => match body (env0 n os) with
  | some (.rt o) => some o
  | some (.nx _) => some (.dat .none)
  | _ => none
theorem runB_ok {n j : Nat} {body : Sx} : ∀ os o, os.length = j → runB n body os = some o → ∃ out, body (env0 n os) = some out ∧ endsAs out o := by
  intro os o _ e
  unfold runB at e
  split at e
  · rename_i o' eq
    cases e
    exact ⟨_, eq, .inl rfl⟩
  · rename_i en eq
    cases e
    exact ⟨_, eq, .inr ⟨rfl, _, rfl⟩⟩
  · cases e
theorem cal_of {P : Program} {w : World} {K : PySem.W.Frag} {mg : Str → Option Value} {base : Heap} {x : Str} {st : Stmt} {N ps : List Str} {k n : Nat} {m : List O → Option O} {body : Sx} (Df : DefAt K mg x st ps) (S : FnScope N ps (defScope st)) (hps : ps.length = n)
    (hm : ∀ os o, os.length = n → m os = some o → ∃ out, body (env0 N.length os) = some out ∧ endsAs out o)
    (hb : ∀ (f : Addr) (cdv : Value) (A : Around) (outer : List PySem.Env) (s : Shared) (H : Hp) (E : XK), Room k (A.deeper (envOfC x (defScope st) s.heap.objs.size f cdv)) → PSSx (cxOf CX0 P w K mg base N x (defScope st) f cdv A outer s H E).nox (defBody st) body) :
    Cal P w K mg base x n (k + 1) m := by
  obtain ⟨fa, fd, hmg, F, hbd⟩ := Df.ex
  exact ⟨fa, fd, ps, hmg, fn_ok F S hps hm fun cdv A outer s H E hr => hb fa cdv A outer s H E hr, F.kp, hbd⟩
/-- a def whose promise is empty (the bottom of a recursion) -/
theorem cal_none {P : Program} {w : World} {K : PySem.W.Frag} {mg : Str → Option Value} {base : Heap} {x : Str} {st : Stmt} {ps : List Str} {k n : Nat} (Df : DefAt K mg x st ps) : Cal P w K mg base x n k (fun _ => none) := by
  obtain ⟨fa, fd, hmg, F, hbd⟩ := Df.ex
  refine ⟨fa, fd, ps, hmg, ⟨fun vs H Q E h => ?_, fun A outer s H args us vs Q E _ _ _ _ h => ?_⟩, F.kp, hbd⟩
  · obtain ⟨_, _, _, _, _, e, _⟩ := h
    cases e
  · obtain ⟨_, _, _, _, _, e, _⟩ := h
    cases e
theorem defAt_mk {K : PySem.W.Frag} {mg : Str → Option Value} {h : Heap} (X : K.In h) (G : h.Ns mainGlobals mg) {x : Str} {st : Stmt} {f : Addr} {oc kV doc pm cdv ct : Value} {od an : Option Addr} {osl : Array (Option Value)} {ps : List Str}
    (a : PySem.W.nsIn K mainGlobals x = some (some (.ref f))) (l : K.lookup f = some ⟨oc, od, .func (PySem.W.fnOf x x (defArgs st) (defBody st) (defScope st) .none kV doc pm an cdv ct), osl⟩) (c : PySem.W.codeIn K cdv x = true) (k : PySem.W.keepIn K (.ref f) = true)
    (hb : ∀ (kV doc pm : Value) (an : Option Addr) (cdv ct : Value) (us : List Value), us.length = ps.length → bindArgs (PySem.W.fnOf x x (defArgs st) (defBody st) (defScope st) .none kV doc pm an cdv ct) ⟨us, []⟩ = pure (ps.zip us)) : DefAt K mg x st ps :=
  have F := fun_mk (st := st) l c k
  ⟨f, _, PySem.W.mg_of X G a, F, F.binds hb⟩
/-- the law's own promise, from its plain function -/
theorem law_sp {K : PySem.W.Frag} {m : List O → Option O} {H : Hp} {a : Addr} {ns : List Int} (hS : SqL K H a (ns.map V.int)) (hm : m [.scr ns] = some (.dat (.bool true))) : SpF K 1 m [.ref a] H (fun v _ => v = .bl true) fun _ _ _ => False := by
  refine ⟨H, [.scr ns], _, Sub.refl H, .cons ⟨[], ⟨rfl, a, rfl, hS⟩, fun c m => by cases m⟩ .nil, hm, rfl, fun x R' H' fp s w n => ?_⟩
  obtain ⟨_, w⟩ := w
  cases w
  rfl
end TP

/-! Mut: more stores: entries of dicts, pops, items of lists of lists; dict of pairs. -/
namespace TP
open PySem PySem.Spec PyProof.Rows L2
section
variable {X : Cx} {e a b c : Expr} {es : List Expr} {pos : Pos} {f g h : Ex} {K : PySem.W.Frag} {F R H : Hp} {σ : L2.St} {env : En} {i : Nat}
/-! ### x[k] = e of an own dict -/
theorem own_dK {kvs : List (D × D)} (st : StR K F σ R H env) (e : env[i]? = some (.own (.dK kvs))) : ∃ l ks, σ[i]? = some (some (.ref l)) ∧ H l = some (.dK ks) ∧ RpK R ks kvs := by
  obtain ⟨v, fp, ev, ow, n⟩ := st.get (.inr e)
  obtain ⟨l, vs, rfl, _, ea, r⟩ := ow
  exact ⟨l, vs, ev, ea, r⟩
theorem own_dT {kvs : List (D × D)} (st : StR K F σ R H env) (e : env[i]? = some (.own (.dT kvs))) : ∃ l ks, σ[i]? = some (some (.ref l)) ∧ H l = some (.dT ks) ∧ RpT R ks kvs := by
  obtain ⟨v, fp, ev, ow, n⟩ := st.get (.inr e)
  obtain ⟨l, vs, rfl, _, ea, r⟩ := ow
  exact ⟨l, vs, ev, ea, r⟩
theorem mut_dK {kvs kvs' : List (D × D)} {l : Addr} {ks' : List (Key × V)} (st : StR K F σ R H env) (e : env[i]? = some (.own (.dK kvs))) (ev : σ[i]? = some (some (.ref l))) (r : RpK R ks' kvs') : StR K F σ R (upd H l (.dK ks')) (env.set i (.own (.dK kvs'))) := by
  refine st.mut e fun v fp ev' ow n => ?_
  rw [ev] at ev'; cases ev'
  obtain ⟨l', vs, e1, rfl, ea, _⟩ := ow
  cases e1
  exact ⟨l, List.mem_cons_self, fun b hb => upd_ne hb, l, ks', rfl, rfl, upd_same, r⟩
theorem mut_dT {kvs kvs' : List (D × D)} {l : Addr} {ks' : List (List Key × V)} (st : StR K F σ R H env) (e : env[i]? = some (.own (.dT kvs))) (ev : σ[i]? = some (some (.ref l))) (r : RpT R ks' kvs') : StR K F σ R (upd H l (.dT ks')) (env.set i (.own (.dT kvs'))) := by
  refine st.mut e fun v fp ev' ow n => ?_
  rw [ev] at ev'; cases ev'
  obtain ⟨l', vs, e1, rfl, ea, _⟩ := ow
  cases e1
  exact ⟨l, List.mem_cons_self, fun b hb => upd_ne hb, l, ks', rfl, rfl, upd_same, r⟩
theorem RpK.len {R : Hp} : ∀ {ks : List (Key × V)} {ds : List (D × D)}, RpK R ks ds → ks.length = ds.length
  | _, _, .nil => rfl
  | _, _, .cons _ t => by rw [List.length_cons, List.length_cons, t.len]
theorem RpT.len {R : Hp} : ∀ {ks : List (List Key × V)} {ds : List (D × D)}, RpT R ks ds → ks.length = ds.length
  | _, _, .nil => rfl
  | _, _, .cons _ t => by rw [List.length_cons, List.length_cons, t.len]
def dput (o : O) (k d : D) : Option O := match o with
  | .dK kvs => (asK k).bind fun _ => if small (kvs.length + 1) = true then some (.dK (putD kvs k d)) else none
  | .dT kvs => match k with
    | .tuple ds => (asKs ds).bind fun _ => if small (kvs.length + 1) = true then some (.dT (putD kvs k d)) else none
    | _ => none
  | _ => none
def sDPut (i : Nat) (f g : Ex) : Sx := fun env => (f env).bind fun o => (asD o).bind fun d => (g env).bind fun b => (asD b).bind fun k => match env[i]? with
  | some (.own c) => (dput c k d).map fun c' => .nx (env.set i (.own c'))
  | _ => none
theorem small_lt' {n : Nat} (h : small (n + 1) = true) : n < sizeLine := by
  have := of_decide_eq_true h
  exact small_lt (decide_eq_true (by omega))
theorem psx_dput {k : Nat} {x : Str} {e ix : Expr} {f g : Ex} {pos pos' tpos : Pos} (hr : Room k X.A) (he : PF X e f) (hi : PX X ix g) (hN : X.N[i]? = some x := by rfl) (hv : Vis X.env.scope x := by first | exact Or.inl rfl | exact Or.inr (Or.inl rfl) | exact Or.inr (Or.inr rfl)) (hd : (x == ("__debug__" : Str)) = false := by decide)
    (hcd : (x == ("__classdict__" : Str)) = false := by decide)
    (ha : ∀ v, assign (.Subscript (.Name x pos') ix tpos) X.env v = (do
      let ov ← holding [v] (eval (.Name x pos') X.env)
      let iv ← holding [v, ov] (eval ix X.env)
      standAt tpos
      holding [v, ov, iv] (setItem ov iv v)
      release [v, ov, iv] []) := by intro _; rfl)
    (hs : swapsWithSole [.Subscript (.Name x pos') ix tpos] e pos.line X.env = pure false := by rfl) (hw : swappedStores [.Subscript (.Name x pos') ix tpos] e X.env = pure none := by rfl)
    (h1 : (assignEach [.Subscript (.Name x pos') ix tpos] X.env).map (·.2) = [assign (.Subscript (.Name x pos') ix tpos) X.env] := by rfl) : PSx X (.Assign [.Subscript (.Name x pos') ix tpos] e pos) (sDPut i f g) := by
  refine PS.weak (ps_asg he (pg_sub (pe_var hN hv hd hcd) hi (set_dict (hu1 hr)) ha) hs hw h1) fun Dn σ H q => ?_
  obtain ⟨F, R, env, out, st, ef, kk⟩ := q
  obtain ⟨o, e1, ef⟩ := Option.bind_eq_some_iff.mp ef
  obtain ⟨d, ed, ef⟩ := Option.bind_eq_some_iff.mp ef
  obtain ⟨b, eb, ef⟩ := Option.bind_eq_some_iff.mp ef
  obtain ⟨kd, ek, ef⟩ := Option.bind_eq_some_iff.mp ef
  split at ef
  · rename_i cc ex
    obtain ⟨c', ec, rfl⟩ := Option.map_eq_some_iff.mp ef
    refine rF.use st e1 fun y R1 H1 fp s w n => ?_
    rw [asD_dat ed] at w
    have st1 := st.stp s
    obtain ⟨v0, fp0, ev0, _⟩ := st1.get (.inr ex)
    refine ⟨v0, ev0, ?_⟩
    refine rX.use st1 eb fun z R2 H2 fp2 s2 w2 n2 => ?_
    rw [asD_dat ek] at w2
    have st2 := st1.stp s2
    unfold dput at ec
    split at ec
    · rename_i kvs
      obtain ⟨k0, e0, ec⟩ := Option.bind_eq_some_iff.mp ec
      split at ec
      · rename_i sm
        cases ec
        obtain ⟨l, ks, ev, ea, r⟩ := own_dK st2 ex
        rw [ev0] at ev; cases ev
        obtain ⟨rfl, rfl⟩ := asK_rp w2.2 e0
        refine ⟨l, _, rfl, DPut.k ea (by rw [r.len]; exact small_lt' sm), ?_⟩
        exact kk σ R2 _ (mut_dK st2 ex ev0 (putK_rp (w.2.mono s2.gr) k0 r)) (s.gr.trans s2.gr)
      · cases ec
    · rename_i kvs
      split at ec
      · rename_i ds
        obtain ⟨k0, e0, ec⟩ := Option.bind_eq_some_iff.mp ec
        split at ec
        · rename_i sm
          cases ec
          obtain ⟨l, ks, ev, ea, r⟩ := own_dT st2 ex
          rw [ev0] at ev; cases ev
          obtain ⟨_, w2⟩ := w2
          cases w2 with
          | tup eq rq =>
            obtain ⟨rfl, rfl⟩ := asKs_rp rq e0
            refine ⟨l, _, rfl, DPut.t ea (st2.rH _ _ (eq.plain (nf_keys k0))) (by rw [r.len]; exact small_lt' sm), ?_⟩
            exact kk σ R2 _ (mut_dT st2 ex ev0 (putT_rp (w.2.mono s2.gr) k0 r)) (s.gr.trans s2.gr)
        · cases ec
      · cases ec
    · cases ec
  · cases ef
/-! ### x.pop(j), for its own sake -/
def sPopX (i : Nat) (g : Ex) : Sx := fun env => (g env).bind fun b => (asI b).bind fun j => match env[i]? with
  | some (.own (.lst xs)) => if decide (-(2 ^ 63) ≤ j ∧ j < 2 ^ 63) = true then (ixN xs.length j).map fun n => .nx (env.set i (.own (.lst (xs.eraseIdx n)))) else none
  | _ => none
theorem psx_popX {x : Str} {pos pos' apos cpos : Pos} (he : PX X e g) (hN : X.N[i]? = some x := by rfl) (hv : Vis X.env.scope x := by first | exact Or.inl rfl | exact Or.inr (Or.inl rfl) | exact Or.inr (Or.inr rfl)) (hd : (x == ("__debug__" : Str)) = false := by decide)
    (hcd : (x == ("__classdict__" : Str)) = false := by decide) (hs : starEach [e] X.env = (false, eval e X.env) :: starEach [] X.env := by rfl)
    (hbase : attributeBase (.Name x pos') "pop" X.env (eval (.Name x pos') X.env) = eval (.Name x pos') X.env := by rfl)
    (hfew : ((backTo cpos (starEach [e] X.env)).all (fun x => !x.1) && (backToKw cpos (keywordEach [] X.env)).all (fun x => x.1.isSome) && decide (([e] : List Expr).length + ([] : List Keyword).length + (if ([] : List Keyword).isEmpty then 0 else 1) < 30)) = true := by rfl)
    (hline : (apos.endLine == cpos.line) = true := by rfl) : PSx X (.Expr (.Call (.Attribute (.Name x pos') "pop" apos) [e] [] cpos) pos) (sPopX i g) := by
  refine PS.weak (ps_expr (pe_bm PySem.F.plainAttrs_list PySem.F.slot_list_pop PySem.F.type_list_pop mt_popAt (pe_var hN hv hd hcd) (pa_cons he pa_nil hs) hbase hfew hline hs rfl) rfl) fun Dn σ H q => ?_
  obtain ⟨F, R, env, out, st, ef, k⟩ := q
  obtain ⟨o, e1, ef⟩ := Option.bind_eq_some_iff.mp ef
  obtain ⟨j, ej, ef⟩ := Option.bind_eq_some_iff.mp ef
  split at ef
  · rename_i xs ex
    split at ef
    · rename_i fit
      obtain ⟨n0, en, rfl⟩ := Option.map_eq_some_iff.mp ef
      obtain ⟨l, vs, ev, ea, r⟩ := own_lst st ex
      refine ⟨.ref l, ev, .inl ⟨rfl, vs, .inl (.inl ea)⟩, ?_⟩
      refine rX.use st e1 fun y R1 H1 fp s w n => ?_
      have st1 := st.stp s
      obtain ⟨l', vs', ev', ea', r'⟩ := own_lst st1 ex
      rw [ev] at ev'; cases ev'
      have fit := of_decide_eq_true fit
      obtain ⟨h1, h2, _⟩ := ixN_seq en
      have hlen := r'.length
      obtain ⟨z, ez⟩ : ∃ z, vs'[n0]? = some z := ⟨vs'[n0], List.getElem?_eq_getElem (by omega)⟩
      refine ⟨l, vs', j, n0, z, rfl, by rw [asI_ow w ej], ea', fit.1, fit.2, by rw [hlen]; exact h1, ez, ?_⟩
      exact k σ R1 _ (mut_lst st1 ex ev (r'.eraseIdx n0)) s.gr
    · cases ef
  · cases ef
end
end TP

/-! Mut2: displays of one tuple key; dict of a list of pairs; lists of lists. -/
namespace TP
open PySem PySem.Spec PyProof.Rows L2
section
variable {X : Cx} {e a b c : Expr} {es : List Expr} {pos : Pos} {f g h : Ex}
theorem d_putT {pins : List (Addr × Obj)} {σ : L2.St} {H : Hp} {s : Shared} {a b : Addr} {kvs : List (List Key × V)} {k : List Key} {v : V} {r : Value} {A : Around} {E : Value → Shared → Prop} {Q : Unit → Shared → Prop} (hu : A.units + 1 < cLine) (I : Inv X pins σ H s) (e : H a = some (.dT kvs)) (eb : H b = some (.tup (k.map kV))) (l : kvs.length < sizeLine) (rv : RelV v r)
    (h : ∀ s', Inv X pins σ (upd H a (.dT (putK kvs k v))) s' → Q () s') : wpAny (model X.prog X.w) A (dictSet a (.ref b) r) Q E s := by
  obtain ⟨z, hd, xs, rel, dd⟩ := dt_of I.hok e
  have hz : xs.length ≤ sizeLine := by rw [← Paired.length rel]; exact z
  have hl : (putK kvs k v).length ≤ sizeLine := by have := length_putK kvs k v; omega
  refine wpAny_dictSet_heap (hsz := hz) (show A.units < cLine by omega) (key_of I.hok eb) dd fun h' dd' hs => h _ ?_
  obtain ⟨q, es, ep, hq, h2, h3, h4, _, h5⟩ := dd'
  refine d_write I (by rw [e]; exact True.intro) hs ⟨q, hq⟩ ⟨hl, hd, _, (rel.put k eb rv).keeps fun c ys ec => ?_, q, es, ep, hq, h2, h3, h4, h5⟩
  rw [upd_ne (ne_of ec e (fun z => nomatch z))]
  exact ec
def tDispT (tk tv : TE) : TE := fun σ H Q => ∀ p, H p = none → tPairs [(tk, tv)] σ (upd H p (.dT [])) fun ps H2 => H2 p = some (.dT []) ∧ ∃ (k : List Key) (b : Addr) (y : V), ps = [(.ref b, y)] ∧ H2 b = some (.tup (k.map kV)) ∧ Q (.ref p) (upd H2 p (.dT (putK [] k y)))
theorem pe_dispT {tk tv : TE} {kk : Nat} (hr : Room kk X.A) (hk : PE X a tk) (hv : PE X b tv) : PE X (.Dict [some a] [b] pos) (tDispT tk tv) := by
  refine ⟨fun pins s σ H Q I q => ?_⟩
  have hn := I.hok.fresh (Nat.le_refl s.heap.objs.size)
  have I1 := I.laid (a := s.heap.objs.size) (o := .dT []) (h' := s.heap.push { cls := .type "dict", data := .dict #[] }) (t' := s.toks) (fun _ _ q => Heap.get?_push_of_some _ q) (Nat.le_refl _) (dt_empty s.heap I.big)
  refine wpAny_Dict_any rfl rfl (by intro z; cases z) (by simp) (thn ((pps_cons (pos := pos) hk hv pps_nil).run pins _ σ _ _ I1 (q _ hn)) fun ws s2 ⟨ps, H2, I2, rel, e, k, b, y, ep, eb, q2⟩ => ?_)
  subst ep
  cases rel with
  | @cons _ w _ ws h t =>
    cases t
    obtain ⟨w1, w2⟩ := w
    obtain ⟨h1, h2⟩ := h
    cases (show w1 = Value.ref b from h1)
    unfold storeAll
    rw [List.forIn_cons]
    refine wpAny_bind (wpAny_bind ?_)
    refine d_putT (hu1 hr) I2 e eb (by rw [List.length_nil, sizeLine_eq]; decide) h2 fun s' I' => ?_
    refine wpAny_pure ?_
    show wpAny _ _ (forIn [] _ _) _ _ _
    rw [List.forIn_nil]
    exact wpAny_pure ⟨.ref s.heap.objs.size, _, I', rfl, q2⟩

def eDispT (f g : Ex) : Ex := fun env => (f env).bind fun o1 => (asT o1).bind fun ds => (asKs ds).bind fun _ => (g env).bind fun o2 => (asD o2).map fun d => .dT [(.tuple ds, d)]
theorem asT_dat {o : O} {ds : List D} (h : asT o = some ds) : o = .dat (.tuple ds) := by
  unfold asT at h
  split at h
  · cases h; rfl
  · cases h
theorem pf_dispT {kk : Nat} (hr : Room kk X.A) (ha : PF X a f) (hb : PF X b g) : PF X (.Dict [some a] [b] pos) (eDispT f g) := by
  refine PE.weak (pe_dispT hr ha hb) fun σ H Q q => ?_
  obtain ⟨F, R, env, oo, st, ef, k⟩ := q
  obtain ⟨o1, e1, ef⟩ := Option.bind_eq_some_iff.mp ef
  obtain ⟨ds, eds, ef⟩ := Option.bind_eq_some_iff.mp ef
  obtain ⟨ks, eks, ef⟩ := Option.bind_eq_some_iff.mp ef
  obtain ⟨o2, e2, ef⟩ := Option.bind_eq_some_iff.mp ef
  obtain ⟨d, ed, rfl⟩ := Option.map_eq_some_iff.mp ef
  intro p np
  have nR := st.rH.none np
  have s0 : Stp R H R (upd H p (.dT [])) := Stp.lay' st.rH np
  refine rF.use (st.stp s0) e1 fun x R1 H1 fp1 s1 w1 n1 => ?_
  refine rF.use ((st.stp s0).stp s1) e2 fun y R2 H2 fp2 s2 w2 n2 => ?_
  rw [asT_dat eds] at w1
  rw [asD_dat ed] at w2
  obtain ⟨_, w1⟩ := w1
  obtain ⟨_, w2⟩ := w2
  have s12 := s1.trans s2
  have out := s12.out p _ upd_same nR
  have nR2 : R2 p = none := out.2.resolve_right Bool.false_ne_true
  cases w1 with
  | tup eq rq =>
    obtain ⟨rfl, rfl⟩ := asKs_rp rq eks
    refine ⟨out.1, ks, _, y, rfl, s12.sub _ _ (s2.gr.tup (eq.plain (nf_keys ks))), ?_⟩
    have s01 := s0.trans s12
    refine k (.ref p) R2 _ [p] ⟨fun a u e => ?_, s01.gr, fun a u e m => ?_⟩ ⟨p, _, rfl, rfl, upd_same, putT_rp w2 ks .nil⟩ fun a m => ?_
    · have ha : a ≠ p := fun z => by subst z; rw [nR2] at e; cases e
      rw [upd_ne ha]; exact s01.sub a u e
    · have ha : a ≠ p := fun z => by subst z; rw [np] at e; cases e
      rw [upd_ne ha]; exact s01.out a u e m
    · rw [List.mem_singleton.mp m]; exact ⟨nR2, np⟩
/-! ### dict(pairs) of a list -/
def pairsD : List D → Option (List (D × D))
  | [] => some []
  | .tuple [k, v] :: r => (asK k).bind fun _ => (pairsD r).map fun l => (k, v) :: l
  | _ :: _ => none
theorem pairsD_rp {K : PySem.W.Frag} {R H : Hp} (s : Sub R H) : ∀ {vs : List V} {ds : List D} {l : List (D × D)}, RpAll R vs ds → pairsD ds = some l → ∃ (ps : List Addr) (kvs : List (Key × V)), vs = ps.map V.ref ∧ Paired (fun p kv => SqT K H p [kV kv.1, kv.2]) ps kvs ∧ RpK R kvs l
  | _, [], _, .nil, e => by cases e; exact ⟨[], [], rfl, .nil, .nil⟩
  | _, .tuple [k, v] :: ds, _, .cons h t, e => by
    rw [pairsD] at e
    obtain ⟨k0, ek, e⟩ := Option.bind_eq_some_iff.mp e
    obtain ⟨l, el, rfl⟩ := Option.map_eq_some_iff.mp e
    obtain ⟨ps, kvs, rfl, pr, rk⟩ := pairsD_rp (K := K) s t el
    cases h with
    | tup ea r =>
      cases r with
      | cons r1 r2 =>
        cases r2 with
        | cons r2 r3 =>
          cases r3
          obtain ⟨rfl, rfl⟩ := asK_rp r1 ek
          exact ⟨_ :: ps, (k0, _) :: kvs, rfl, .cons (.inl (ea.sub s)) pr, .cons r2 rk⟩
  | _, .tuple [] :: _, _, _, e => by cases e
  | _, .tuple [_] :: _, _, _, e => by cases e
  | _, .tuple (_ :: _ :: _ :: _) :: _, _, _, e => by cases e
  | _, .none :: _, _, _, e => by cases e
  | _, .bool _ :: _, _, _, e => by cases e
  | _, .int _ :: _, _, _, e => by cases e
  | _, .str _ :: _, _, _, e => by cases e
  | _, .list _ :: _, _, _, e => by cases e
  | _, .dict _ :: _, _, _, e => by cases e
/-! ### of a locked tuple -/
theorem pairs_at {pins : List (Addr × Obj)} {σ : L2.St} {H : Hp} {s : Shared} (I : Inv X pins σ H s) : ∀ {ps : List Addr} {kvs : List (Key × V)}, Paired (fun p kv => SqT X.K H p [kV kv.1, kv.2]) ps kvs →
    ∃ (prs : List (Key × Value)) (zs : List (Value × Value)), KV kvs prs ∧ prs.length = ps.length ∧ zs.length = ps.length ∧ ∀ (j : Nat) (q : Key × Value), prs[j]? = some q → ∃ (b : Addr) (u : Value), ps[j]? = some b ∧ zs[j]? = some (u, q.2) ∧ IsTup s.heap b #[u, q.2] ∧ keyIs q.1 u = true
  | _, _, .nil => ⟨[], [], .nil, rfl, rfl, fun j q e => by simp at e⟩
  | _, _, .cons (a := p) (b := kv) h t => by
    obtain ⟨prs, zs, r, hl, hz, hp⟩ := pairs_at I t
    obtain ⟨its, rv, ht, _⟩ := I.tuple h
    obtain ⟨u, y, ei, ru, ry⟩ := vals2 rv
    subst ei
    refine ⟨(kv.1, y) :: prs, (u, y) :: zs, .cons ⟨rfl, ry⟩ r, by simp [hl], by simp [hz], fun j q e => ?_⟩
    cases j with
    | zero =>
      obtain rfl : (kv.1, y) = q := Option.some.inj e
      exact ⟨p, u, rfl, rfl, ht, kV_is (P := X.prog) (w := X.w) ru⟩
    | succ j =>
      obtain ⟨b, u', e1, e2, e3, e4⟩ := hp j q (by simpa using e)
      exact ⟨b, u', by simpa using e1, by simpa using e2, e3, e4⟩
abbrev rDictT (K : PySem.W.Frag) : List V → Hp → VK → Prop := fun xs H Q => ∃ (a : Addr) (od : Obj) (ps : List Addr) (kvs : List (Key × V)), xs = [.ref a] ∧ H a = some (.frz od (.tup (ps.map V.ref))) ∧ od.dict = none ∧ Paired (fun p kv => SqT K H p [kV kv.1, kv.2]) ps kvs ∧ ∀ p, H p = none → Q (.ref p) (upd H p (.dK (mergeK [] kvs)))
theorem call_dictT (hc : X.calm = true) : CallR X (.type "dict") (rDictT X.K) := by
  intro pins s σ H xs us Q I r q
  obtain ⟨a, od, ps, kvs, ex, ha, hd, hp, q⟩ := q
  subst ex
  obtain ⟨u, eu, rx⟩ := vals1 r
  subst eu
  cases rx
  obtain ⟨got, hz, its, rv, o2, g2, hcls, n, hdat⟩ := I.hok a _ ha
  obtain rfl : od = o2 := Option.some.inj (got.symm.trans g2)
  have ei := refs_at rv
  subst ei
  rw [List.length_map] at hz
  obtain ⟨prs, zs, rel, hl, hzl, hpr⟩ := pairs_at I hp
  have PA := PairArg.tuple (prog := X.prog) (w := X.w) a (ps.map Value.ref).toArray (fun j => ps[j]?.getD 0) zs
  have ok : PlainSeq "tuple" s.heap a (ps.map Value.ref).toArray ∧ PairItems s.heap (ps.map Value.ref).toArray (fun j => ps[j]?.getD 0) zs := by
    refine ⟨⟨od, n, got, hcls, hd, hdat⟩, by simp [hzl], fun j k v e => ?_⟩
    have hj : j < zs.length := (List.getElem?_eq_some_iff.mp e).1
    obtain ⟨q0, eq0⟩ : ∃ q0, prs[j]? = some q0 := ⟨prs[j], List.getElem?_eq_getElem (by omega)⟩
    obtain ⟨b, u, e1, e2, e3, e4⟩ := hpr j q0 eq0
    rw [e] at e2
    cases e2
    exact ⟨by simp [e1], by show PairAt s.heap (ps[j]?.getD 0) k q0.2; rw [e1]; exact .inl e3⟩
  have hv : PairsHave (mixKind X.prog X.w) zs.length (PairRel zs) prs := by
    refine ⟨by omega, fun i key v e => ?_⟩
    have hj : i < zs.length := (List.getElem?_eq_some_iff.mp e).1
    obtain ⟨q0, eq0⟩ : ∃ q0, prs[i]? = some q0 := ⟨prs[i], List.getElem?_eq_getElem (by omega)⟩
    obtain ⟨b, u, e1, e2, e3, e4⟩ := hpr i q0 eq0
    have e : zs[i]? = some (key, v) := e
    rw [e] at e2
    cases e2
    exact ⟨q0.1, eq0, e4⟩
  refine PySem.call_dict_pairs PA (I.ok.hd hc) ok hv (by omega) fun h' tk hd' k => ?_
  have hm : (s.heap.objs.size == sysModules) = false := beq_eq_false_iff_ne.mpr (Nat.ne_of_gt I.big)
  have hlen : (mergeK [] kvs).length ≤ sizeLine := by
    refine Nat.le_trans (length_mergeK kvs []) ?_
    rw [List.length_nil, Nat.zero_add, rel.length, hl]
    exact hz
  have hnew : ObjOk X.prog X.w (upd H s.heap.objs.size (.dK (mergeK [] kvs))) h' s.heap.objs.size (.dK (mergeK [] kvs)) := ⟨hlen, hm, merged [] prs, KV.merge rel .nil, hd'⟩
  exact ⟨.ref s.heap.objs.size, _, I.laid (t' := tk) (fun b o e => k b o (by intro z; cases z) e) (Nat.le_refl _) hnew, rfl, q _ (I.hok.fresh (Nat.le_refl _))⟩
def gDict (a : O) : Option O := match a with
  | .dat (.tuple ds) => if needF ds = true then (pairsD ds).map fun l => .dK (mergeD [] l) else none
  | a => (asL a).bind fun ds => (pairsD ds).map fun l => .dK (mergeD [] l)
abbrev rDict (K : PySem.W.Frag) : List V → Hp → VK → Prop := fun xs H Q => (∃ (a : Addr) (ps : List Addr) (kvs : List (Key × V)), xs = [.ref a] ∧ SqL K H a (ps.map V.ref) ∧ Paired (fun p kv => SqT K H p [kV kv.1, kv.2]) ps kvs ∧ ∀ p, H p = none → Q (.ref p) (upd H p (.dK (mergeK [] kvs)))) ∨ rDictT K xs H Q
theorem cr_dict (hc : X.calm = true) : CallR X (.type "dict") (rDict X.K) := CallR.or (call_dictP hc) (call_dictT hc)
theorem ok_dict {K : PySem.W.Frag} : CaOk K (rDict K) (g1 gDict) := by
  intro R H vs os o Q hs w e k
  cases w with
  | nil => cases e
  | cons h t =>
    cases t with
    | cons _ _ => cases e
    | nil =>
      obtain ⟨fp, w, n⟩ := h
      have e : gDict _ = some o := e
      unfold gDict at e
      split at e
      · rename_i ds
        split at e
        · rename_i nf
          obtain ⟨l, el, rfl⟩ := Option.map_eq_some_iff.mp e
          obtain ⟨_, w⟩ := w
          cases w with
          | tup ea r =>
            unfold Rw at ea
            rw [if_pos nf] at ea
            obtain ⟨od, ea, hd⟩ := ea
            obtain ⟨ps, kvs, rfl, pr, rk⟩ := pairsD_rp (K := K) hs r el
            refine .inr ⟨_, od, ps, kvs, rfl, hs _ _ ea, hd, pr, fun p np => ?_⟩
            exact k (.ref p) R _ [p] (Stp.lay' hs np) ⟨p, _, rfl, rfl, upd_same, mergeK_rp rk .nil⟩ fun c m => by
              rw [List.mem_singleton.mp m]; exact ⟨hs.none np, np⟩
        · cases e
      · obtain ⟨ds, ed, e⟩ := Option.bind_eq_some_iff.mp e
        obtain ⟨l, el, rfl⟩ := Option.map_eq_some_iff.mp e
        obtain ⟨a, vs, rfl, ea, r⟩ := asL_ow w hs ed
        obtain ⟨ps, kvs, rfl, pr, rk⟩ := pairsD_rp (K := K) hs r el
        refine .inl ⟨a, ps, kvs, rfl, .inl (.inl ea), pr, fun p np => ?_⟩
        exact k (.ref p) R _ [p] (Stp.lay' hs np) ⟨p, _, rfl, rfl, upd_same, mergeK_rp rk .nil⟩ fun c m => by
          rw [List.mem_singleton.mp m]; exact ⟨hs.none np, np⟩
end
end TP

/-! Mut3: lists of own lists. -/
namespace TP
open PySem PySem.Spec PyProof.Rows L2
section
variable {X : Cx} {e a b c : Expr} {es : List Expr} {pos : Pos} {f g h : Ex}
abbrev Exl := En → Option (List (List D))
def rLs (K : PySem.W.Frag) (f : Exl) : TA := fun σ H Q => ∃ F R env xss, StR K F σ R H env ∧ f env = some xss ∧ ∀ bs R' H', Stp R H R' H' → bs.Nodup → (∀ b ∈ bs, R' b = none ∧ H b = none) → Paired (fun b xs => ∃ vs, H' b = some (.lst vs) ∧ RpAll R' vs xs) bs xss → Q (bs.map .ref) H'
abbrev PLs (X : Cx) (es : List Expr) (f : Exl) : Prop := PA X es (rLs X.K f)
def lNil : Exl := fun _ => some []
def lCons (f : Ex) (r : Exl) : Exl := fun env => (f env).bind fun o => match o with
  | .lst xs => (r env).map fun l => xs :: l
  | _ => none
theorem plls_nil : PLs X [] lNil := by
  refine PA.weak pa_nil fun σ H Q q => ?_
  obtain ⟨F, R, env, xss, st, ef, k⟩ := q
  cases ef
  exact k [] R H (Stp.refl st.rH) List.nodup_nil (fun b m => by cases m) .nil
theorem plls_cons {r : Exl} (ha : PF X e f) (hr : PLs X es r) (hs : starEach (e :: es) X.env = (false, eval e X.env) :: starEach es X.env := by rfl) : PLs X (e :: es) (lCons f r) := by
  refine PA.weak (pa_cons ha hr hs) fun σ H Q q => ?_
  obtain ⟨F, R, env, xss, st, ef, k⟩ := q
  unfold lCons at ef
  obtain ⟨o, e1, ef⟩ := Option.bind_eq_some_iff.mp ef
  split at ef
  · rename_i xs
    obtain ⟨l, e2, rfl⟩ := Option.map_eq_some_iff.mp ef
    refine rF.use st e1 fun x R1 H1 fp s1 w n => ⟨F, R1, env, l, st.stp s1, e2, fun bs R2 H2 s2 nd fr pr => ?_⟩
    obtain ⟨c, vs, rfl, rfl, ec, rv⟩ := w
    obtain ⟨nR, nH⟩ := n c List.mem_cons_self
    have oc := s2.out c _ ec nR
    have nm : c ∉ bs := fun m => by
      have := (fr c m).2
      rw [ec] at this
      cases this
    refine k (c :: bs) R2 H2 (s1.trans s2) (List.nodup_cons.mpr ⟨nm, nd⟩) (fun b m => ?_) (.cons ⟨vs, oc.1, rv.mono s2.gr⟩ pr)
    rcases List.mem_cons.mp m with rfl | m
    · exact ⟨oc.2.resolve_right Bool.false_ne_true, nH⟩
    · exact ⟨(fr b m).1, s1.none st.rH (fr b m).2⟩
  · cases ef
def eLls (f : Exl) : Ex := fun env => (f env).bind fun l => if small l.length = true then some (.lls l) else none
theorem pf_lls {r : Exl} (h : PLs X es r) : PF X (.List es pos) (eLls r) := by
  refine PE.weak (pe_lst h) fun σ H Q q => ?_
  obtain ⟨F, R, env, o, st, ef, k⟩ := q
  obtain ⟨l, e1, ef⟩ := Option.bind_eq_some_iff.mp ef
  split at ef
  · rename_i sm
    cases ef
    refine ⟨F, R, env, l, st, e1, fun bs R1 H1 s1 nd fr pr => ?_⟩
    have hl : bs.length = l.length := Paired.length pr
    refine ⟨by rw [List.length_map, hl]; exact small_le sm, fun p np => ?_⟩
    have s2 : Stp R1 H1 R1 (upd H1 p (.lst (bs.map .ref))) := Stp.lay' s1.sub np
    have pn : ∀ {b : Addr} {u : HO}, H1 b = some u → b ≠ p := fun e z => by subst z; rw [np] at e; cases e
    have allH : ∀ b ∈ bs, ∃ u, H1 b = some u := fun b m => by
      obtain ⟨i, hi, rfl⟩ := List.mem_iff_getElem.mp m
      have hi2 : i < l.length := by omega
      obtain ⟨c, ec, vs, eb, _⟩ := pair_get pr (List.getElem?_eq_getElem hi2)
      rw [List.getElem?_eq_getElem hi] at ec
      cases ec
      exact ⟨_, eb⟩
    refine k (.ref p) _ _ (p :: bs) (s1.trans s2) ⟨p, bs, rfl, rfl, List.nodup_cons.mpr ⟨fun m => ?_, nd⟩, upd_same, pair_mono pr fun b xs m ⟨vs, eb, rv⟩ => ⟨vs, by rw [upd_ne (pn eb)]; exact eb, rv⟩⟩ fun c m => ?_
    · obtain ⟨u, eu⟩ := allH p m
      rw [np] at eu; cases eu
    · rcases List.mem_cons.mp m with rfl | m
      · exact ⟨s1.sub.none np, s1.none st.rH np⟩
      · exact ⟨(fr c m).1, (fr c m).2⟩
  · cases ef
/-! ### x[j][k] = e -/
def setLL (xss : List (List D)) (j k : Int) (d : D) : Option (List (List D)) := (ixN xss.length j).bind fun n => (xss[n]?).bind fun xs => (ixN xs.length k).map fun m => xss.set n (xs.set m d)
def sSetL (i : Nat) (f gj gk : Ex) : Sx := fun env => (f env).bind fun o => (asD o).bind fun d => (gj env).bind fun bj => (asI bj).bind fun j => (gk env).bind fun bk => (asI bk).bind fun k => match env[i]? with
  | some (.own (.lls xss)) => (setLL xss j k d).map fun xss' => .nx (env.set i (.own (.lls xss')))
  | _ => none
theorem paired_set {α β : Type} {F G : α → β → Prop} : ∀ {l : List α} {m : List β} {n : Nat} {a : α} {b' : β}, Paired F l m → l[n]? = some a → (∀ (i : Nat) (x : α) (y : β), i ≠ n → l[i]? = some x → F x y → G x y) → G a b' → Paired G l (m.set n b')
  | _, _, _, _, _, .nil, e, _, _ => by simp at e
  | _, _, 0, _, _, .cons r t, e, h, g => by
    simp at e
    subst e
    refine .cons g ?_
    have : ∀ {l : List α} {m : List β}, Paired F l m → (∀ (i : Nat) (x : α) (y : β), l[i]? = some x → F x y → G x y) → Paired G l m := by
      intro l m p
      induction p with
      | nil => exact fun _ => .nil
      | cons r t ih => exact fun h => .cons (h 0 _ _ rfl r) (ih fun i x y e => h (i + 1) x y (by simpa using e))
    exact this t fun i x y e => h (i + 1) x y (by omega) (by simpa using e)
  | _, _, n + 1, _, _, .cons r t, e, h, g => by
    refine .cons (h 0 _ _ (by omega) rfl r) ?_
    exact paired_set t (by simpa using e) (fun i x y hi ex => h (i + 1) x y (by omega) (by simpa using ex)) g
theorem psx_setL {i : Nat} {x : Str} {e jx kx : Expr} {f gj gk : Ex} {pos pos' p2 tpos : Pos} (he : PF X e f) (hj : PX X jx gj) (hk : PX X kx gk) (hN : X.N[i]? = some x := by rfl) (hv : Vis X.env.scope x := by first | exact Or.inl rfl | exact Or.inr (Or.inl rfl) | exact Or.inr (Or.inr rfl)) (hd : (x == ("__debug__" : Str)) = false := by decide)
    (hcd : (x == ("__classdict__" : Str)) = false := by decide) (hpl : PlainIx jx := by intro _ _; rfl)
    (ha : ∀ v, assign (.Subscript (.Subscript (.Name x pos') jx p2) kx tpos) X.env v = (do
      let ov ← holding [v] (eval (.Subscript (.Name x pos') jx p2) X.env)
      let iv ← holding [v, ov] (eval kx X.env)
      standAt tpos
      holding [v, ov, iv] (setItem ov iv v)
      release [v, ov, iv] []) := by intro _; rfl)
    (hs : swapsWithSole [.Subscript (.Subscript (.Name x pos') jx p2) kx tpos] e pos.line X.env = pure false := by rfl) (hw : swappedStores [.Subscript (.Subscript (.Name x pos') jx p2) kx tpos] e X.env = pure none := by rfl)
    (h1 : (assignEach [.Subscript (.Subscript (.Name x pos') jx p2) kx tpos] X.env).map (·.2) = [assign (.Subscript (.Subscript (.Name x pos') jx p2) kx tpos) X.env] := by rfl) : PSx X (.Assign [.Subscript (.Subscript (.Name x pos') jx p2) kx tpos] e pos) (sSetL i f gj gk) := by
  refine PS.weak (ps_asg he (pg_sub (pe_ix ix_list (pe_var hN hv hd hcd) hj hpl) hk set_list ha) hs hw h1) fun Dn σ H q => ?_
  obtain ⟨F, R, env, out, st, ef, kk⟩ := q
  obtain ⟨o, e1, ef⟩ := Option.bind_eq_some_iff.mp ef
  obtain ⟨d, ed, ef⟩ := Option.bind_eq_some_iff.mp ef
  obtain ⟨bj, ebj, ef⟩ := Option.bind_eq_some_iff.mp ef
  obtain ⟨j, ej, ef⟩ := Option.bind_eq_some_iff.mp ef
  obtain ⟨bk, ebk, ef⟩ := Option.bind_eq_some_iff.mp ef
  obtain ⟨k, ek, ef⟩ := Option.bind_eq_some_iff.mp ef
  split at ef
  · rename_i xss ex
    obtain ⟨xss', el, rfl⟩ := Option.map_eq_some_iff.mp ef
    unfold setLL at el
    obtain ⟨n, en, el⟩ := Option.bind_eq_some_iff.mp el
    obtain ⟨xs, exs, el⟩ := Option.bind_eq_some_iff.mp el
    obtain ⟨m, em, rfl⟩ := Option.map_eq_some_iff.mp el
    refine rF.use st e1 fun y R1 H1 fp s w nn => ?_
    rw [asD_dat ed] at w
    have st1 := st.stp s
    obtain ⟨v0, fp0, ev0, ow0, _⟩ := st1.get (.inr ex)
    refine ⟨v0, ev0, ?_⟩
    refine rX.use st1 ebj fun z R2 H2 fp2 s2 w2 n2 => ?_
    have st2 := st1.stp s2
    obtain ⟨v1, fp1, ev1, ow1, hn1⟩ := st2.get (.inr ex)
    rw [ev0] at ev1; cases ev1
    obtain ⟨p, bs, rfl, rfl, nd, ep, pr⟩ := ow1
    have hl : bs.length = xss.length := Paired.length pr
    obtain ⟨c, ec, vs, eb, r⟩ := pair_get pr exs
    refine ⟨p, bs.map .ref, j, .ref c, rfl, asI_ow w2 ej, .inl (.inl ep), ?_, ?_⟩
    · unfold atI
      rw [List.length_map, hl, en]
      show (bs.map V.ref)[n]? = _
      rw [List.getElem?_map, ec]
      rfl
    · refine rX.use st2 ebk fun z3 R3 H3 fp3 s3 w3 n3 => ?_
      have st3 := st2.stp s3
      have cm : c ∈ p :: bs := List.mem_cons_of_mem _ (List.mem_of_getElem? ec)
      have oc := s3.out c _ eb (hn1 c cm)
      refine ⟨c, vs, k, m, rfl, asI_ow w3 ek, oc.1, by rw [r.length]; exact em, ?_⟩
      refine kk σ R3 _ ?_ ((s.gr.trans s2.gr).trans s3.gr)
      refine st3.mut ex fun v fp' ev' ow' n' => ?_
      rw [ev0] at ev'; cases ev'
      obtain ⟨p', bs', ep', rfl, nd', ea', pr'⟩ := ow'
      cases ep'
      have ebs : bs' = bs := by
        have := s3.out p _ ep (hn1 p List.mem_cons_self)
        rw [ea'] at this
        have e := this.1
        simp only [Option.some.injEq, HO.lst.injEq] at e
        exact (List.map_inj_right (fun a b h => by cases h; rfl)).mp e
      subst ebs
      refine ⟨c, cm, fun b hb => upd_ne hb, p, bs', rfl, rfl, nd', ?_, ?_⟩
      · rw [upd_ne]
        · exact ea'
        · intro z
          subst z
          exact (List.nodup_cons.mp nd').1 (List.mem_of_getElem? ec)
      · refine paired_set pr' ec (fun i x y hi ex' ⟨vs, e1, e2⟩ => ⟨vs, ?_, e2⟩) ⟨vs.set m y, upd_same, (r.mono s3.gr).set ((w.2.mono s2.gr).mono s3.gr) m⟩
        rw [upd_ne]
        · exact e1
        · intro z
          subst z
          obtain ⟨h1, e1'⟩ := List.getElem?_eq_some_iff.mp ex'
          obtain ⟨h2, e2'⟩ := List.getElem?_eq_some_iff.mp ec
          have nd2 := (List.nodup_cons.mp nd').2
          exact hi ((List.getElem_inj nd2).mp (e1'.trans e2'.symm))
  · cases ef
end
end TP

/-! Mut4: a, b = x.pop(); d.get(k). -/
namespace TP
open PySem PySem.Spec PyProof.Rows L2
section
variable {X : Cx} {e o : Expr} {f g : Ex}
def sPopT (i : Nat) (tg : Tg) : Sx := fun env => match env[i]? with
  | some (.own (.lst xs)) => (xs[xs.length - 1]?).bind fun d => (tg d (env.set i (.own (.lst xs.dropLast)))).map .nx
  | _ => none
theorem psx_popT {i : Nat} {x : Str} {t : Expr} {sl : List Nat} {tg : Tg} {pos pos' apos cpos : Pos} (hg : PG X t (rG X.K sl tg)) (hN : X.N[i]? = some x := by rfl) (hv : Vis X.env.scope x := by first | exact Or.inl rfl | exact Or.inr (Or.inl rfl) | exact Or.inr (Or.inr rfl)) (hd : (x == ("__debug__" : Str)) = false := by decide)
    (hcd : (x == ("__classdict__" : Str)) = false := by decide)
    (hbase : attributeBase (.Name x pos') "pop" X.env (eval (.Name x pos') X.env) = eval (.Name x pos') X.env := by rfl) (hline : (apos.endLine == cpos.line) = true := by rfl)
    (hs : swapsWithSole [t] (.Call (.Attribute (.Name x pos') "pop" apos) [] [] cpos) pos.line X.env = pure false := by rfl) (hw : swappedStores [t] (.Call (.Attribute (.Name x pos') "pop" apos) [] [] cpos) X.env = pure none := by rfl)
    (h1 : (assignEach [t] X.env).map (·.2) = [assign t X.env] := by rfl) :
    PSx X (.Assign [t] (.Call (.Attribute (.Name x pos') "pop" apos) [] [] cpos) pos) (sPopT i tg) := by
  refine PS.weak (ps_asg (pe_bm0 PySem.F.plainAttrs_list PySem.F.slot_list_pop PySem.F.type_list_pop mt_pop (pe_var hN hv hd hcd) hbase hline) hg hs hw h1) fun Dn σ H q => ?_
  obtain ⟨F, R, env, out, st, ef, k⟩ := q
  unfold sPopT at ef
  split at ef
  · rename_i xs ex
    obtain ⟨d, ed, ef⟩ := Option.bind_eq_some_iff.mp ef
    obtain ⟨env', et, rfl⟩ := Option.map_eq_some_iff.mp ef
    obtain ⟨l, vs, ev, ea, r⟩ := own_lst st ex
    refine ⟨.ref l, ev, .inl ⟨rfl, vs, .inl (.inl ea)⟩, ?_⟩
    have hlen := r.length
    rw [← hlen] at ed
    obtain ⟨y, ey, ry⟩ := r.get ed
    refine ⟨l, vs, y, rfl, rfl, ea, ey, ?_⟩
    exact ⟨F, R, _, d, env', mut_lst st ex ev (by rw [List.dropLast_eq_take, List.dropLast_eq_take, hlen]; exact r.take _), ry, et, fun σ' st' _ _ => k σ' R _ st' (Gr.refl R)⟩
  · cases ef
def eDGet1 (f g : Ex) : Ex := fun env => (f env).bind fun a => (g env).bind fun b => (asDic a).bind fun c => (asD b).bind fun k => (dicGet c k).map fun od => .dat (od.getD .none)
theorem pf_dget1 {apos cpos : Pos} {k : Nat} (hr : Room k X.A) (ho : PX X o f) (hi : PX X e g) (m : M1 X o "get" apos e cpos := by exact ⟨rfl, rfl, rfl, rfl⟩) : PF X (.Call (.Attribute o "get" apos) [e] [] cpos) (eDGet1 f g) := by
  refine PE.weak (pe_dget1 (hu1 hr) ho hi m) fun σ H Q q => ?_
  obtain ⟨F, R, env, oo, st, ef, k⟩ := q
  obtain ⟨o1, e1, ef⟩ := Option.bind_eq_some_iff.mp ef
  obtain ⟨o2, e2, ef⟩ := Option.bind_eq_some_iff.mp ef
  obtain ⟨c, ec, ef⟩ := Option.bind_eq_some_iff.mp ef
  obtain ⟨kd, ek, ef⟩ := Option.bind_eq_some_iff.mp ef
  obtain ⟨od, eo, ef⟩ := Option.map_eq_some_iff.mp ef
  subst ef
  refine rX.use st e1 fun x R1 H1 fp1 s1 w1 n1 => ?_
  have isd : ∃ a, x = .ref a ∧ IsD H1 a := by
    have h := asDic_ow w1 s1.sub ec
    cases c with
    | k kvs => obtain ⟨a, ks, rfl, ea, _⟩ := h; exact ⟨a, rfl, .inl ⟨ks, ea⟩⟩
    | t kvs => obtain ⟨a, ks, rfl, ea, _⟩ := h; exact ⟨a, rfl, .inr ⟨ks, ea⟩⟩
  obtain ⟨a, rfl, hd⟩ := isd
  refine ⟨a, rfl, hd, ?_⟩
  refine rX.use (st.stp s1) e2 fun y R2 H2 fp2 s2 w2 n2 => ?_
  obtain ⟨w1', n1'⟩ := w1.stp n1 s1.sub s2
  obtain ⟨a', ov, e, hg, h3⟩ := dic_get (asDic_ow w1' s2.sub ec) (w2.rp s2.sub (by rw [asD_dat ek]; rfl)) eo
  cases e
  refine ⟨ov, hg, ?_⟩
  cases od with
  | none =>
    obtain rfl : ov = none := h3
    exact k .non R2 H2 [] (s1.trans s2) ⟨rfl, .non⟩ fun c m => by cases m
  | some d =>
    obtain ⟨v, rfl, rv⟩ := h3
    exact k v R2 H2 [] (s1.trans s2) ⟨rfl, rv⟩ fun c m => by cases m
end
end TP

/-! Mut5: sorted(set(ints)); sorted(d). -/
namespace TP
open PySem PySem.Spec PyProof.Rows L2
def dstsI (xs : List Int) : List Int := (dst (xs.map Sum.inl)).filterMap fun k => match k with | .inl x => some x | .inr _ => none
theorem inrsI {ks : List Key} (h : ∀ k ∈ ks, ∃ x, k = Sum.inl x) : (ks.filterMap fun k => match k with | .inl x => some x | .inr _ => none).map Sum.inl = ks := by
  induction ks with
  | nil => rfl
  | cons k ks ih =>
    obtain ⟨x, rfl⟩ := h k List.mem_cons_self
    have := ih fun k m => h k (List.mem_cons_of_mem _ m)
    show Sum.inl x :: List.map Sum.inl _ = _
    rw [this]
theorem dsts_eqI (xs : List Int) : (dstsI xs).map Sum.inl = dst (xs.map Sum.inl) := inrsI fun k m => by
  obtain ⟨x, _, e⟩ := List.mem_map.mp (dst_mem.mp m)
  exact ⟨x, e.symm⟩
theorem dsts_ndI (xs : List Int) : (dstsI xs).Nodup := by
  have h := dst_nd (xs.map Sum.inl)
  rw [← dsts_eqI] at h
  exact (List.pairwise_map.mp h).imp fun {a b} n z => n (by rw [z])
theorem dsts_memI {xs : List Int} {x : Int} : x ∈ dstsI xs ↔ x ∈ xs := by
  have h := dst_mem (xs := xs.map Sum.inl) (k := Sum.inl x)
  rw [← dsts_eqI] at h
  constructor
  · intro m
    obtain ⟨y, hy, e⟩ := List.mem_map.mp (h.mp (List.mem_map.mpr ⟨x, m, rfl⟩))
    cases e; exact hy
  · intro m
    obtain ⟨y, hy, e⟩ := List.mem_map.mp (h.mpr (List.mem_map.mpr ⟨x, m, rfl⟩))
    cases e; exact hy
theorem dsts_lenI (xs : List Int) : (dstsI xs).length ≤ xs.length := by
  have h := dst_len_le (xs.map Sum.inl)
  rwa [← dsts_eqI, List.length_map, List.length_map] at h
/-- texts of one set sort alike, in whatever order they come -/
theorem sortS_permI {xs ys : List Int} (p : xs.Perm ys) : sortD (xs.map .int) = sortD (ys.map .int) := by
  have T : PySem.W.TotalLe (PySem.W.dataLe false (id : D → D)) := PySem.W.sortLe_total _ false _
  refine List.Perm.eq_of_pairwise (le := fun a b : D => PySem.W.dataLe false (id : D → D) a b = true) ?_ (PySem.W.sort_pairwise T _) (PySem.W.sort_pairwise T _) ((List.mergeSort_perm _ _).trans ((p.map _).trans (List.mergeSort_perm _ _).symm))
  intro a b ha hb h1 h2
  obtain ⟨x, _, rfl⟩ := List.mem_map.mp ((List.mergeSort_perm _ _).mem_iff.mp ha)
  obtain ⟨y, _, rfl⟩ := List.mem_map.mp ((List.mergeSort_perm _ _).mem_iff.mp hb)
  have e1 : (!PySem.W.dataLt (.int y) (.int x)) = true := h1
  have e2 : (!PySem.W.dataLt (.int x) (.int y)) = true := h2
  rw [PySem.W.dataLt_int, Bool.not_eq_true', decide_eq_false_iff_not] at e1 e2
  congr 1
  omega
section
variable {prog : Program} {w : World} {A : Around} {E : Value → Shared → Prop} {s : Shared}
theorem each_ofI {zs : List Int} {vs : List Value} (p : Paired (fun (k : Int) v => keyIs (.inl k) v = true) zs vs) : PySem.W.EachIs (fun v (k : Int) => keyIs (.inl k) v = true) vs zs := by
  induction p with
  | nil => exact .nil
  | cons h _ ih => exact .cons h ih
theorem of_eachI {zs : List Int} {vs : List Value} (p : PySem.W.EachIs (fun v (k : Int) => keyIs (.inl k) v = true) vs zs) : Paired (fun (k : Int) v => keyIs (.inl k) v = true) zs vs := by
  induction p with
  | nil => exact .nil
  | cons h _ ih => exact .cons h ih
theorem sorted_setYI {a : Addr} {ys : List Int} {Q : Value → Shared → Prop} (R : setIs w s.heap a (ys.map Sum.inl)) (hh : A.handled = none) (hu : A.units + 10 < cLine) (hl : ys.length ≤ 4000) (nd : ys.Nodup)
    (hQ : ∀ s' p (out : List Value) (c : Nat) (zs : List Int), (∀ b o, s.heap.get? b = some o → s'.heap.get? b = some o) → s'.gens = s.gens → s'.os = s.os → s.heap.objs.size ≤ p →
      s'.heap.get? p = some (seqObj "list" out.toArray c) → Paired (fun (k : Int) v => keyIs (.inl k) v = true) zs out → zs.length = ys.length → zs.map .int = sortD (ys.map .int) → Q (.ref p) s') :
    wpAny (model prog w) A (call (.builtin "sorted") [.ref a]) Q E s := by
  obtain ⟨o, es, ep, t, ho, hex, hd, ⟨g, nd', hm⟩, hb, hf, hn, hr, hled⟩ := R
  refine Calls.call_function_entry kind_sorted plain_sorted entry_sorted (args_sorted1 _) ?_
  unfold Builtin.«sorted»
  refine wpAny_bind (m := checkCount "sorted" 1 1 _) (wpAny_pure (wpAny_bind (L2.collect_set (A := A.in1) hh ⟨o, ho, hex.1, hd⟩ hf hb hr hled fun s1 vs k1 hz g1 o1 pm => ?_)))
  have inK : ∀ e ∈ es.toList, ∃ x, kOf e = Sum.inl x ∧ x ∈ ys := fun e m => by
    have h := (hm (kOf e)).mpr (List.mem_map.mpr ⟨e, m, rfl⟩)
    obtain ⟨y, hy, e2⟩ := List.any_eq_true.mp h
    obtain ⟨x, hx, rfl⟩ := List.mem_map.mp hy
    exact ⟨x, (of_decide_eq_true e2).symm, hx⟩
  obtain ⟨zs, pz⟩ : ∃ zs : List Int, Paired (fun (k : Int) v => keyIs (.inl k) v = true) zs vs ∧ zs.map Sum.inl = vs.map fun v => kOf (0, v) := by
    have hv : ∀ v ∈ vs, ∃ x, keyIs (.inl x) v = true ∧ kOf (0, v) = Sum.inl x := fun v m => by
      obtain ⟨e, he, rfl⟩ := List.mem_map.mp (pm.mem_iff.mp m)
      obtain ⟨x, ex, _⟩ := inK e he
      exact ⟨x, ex ▸ (g e he).1, ex⟩
    clear pm
    induction vs with
    | nil => exact ⟨[], .nil, rfl⟩
    | cons v vs ih =>
      obtain ⟨zs, p, q⟩ := ih fun v m => hv v (List.mem_cons_of_mem _ m)
      obtain ⟨x, h1, h2⟩ := hv v List.mem_cons_self
      exact ⟨x :: zs, .cons h1 p, by rw [List.map_cons, List.map_cons, h2, q]⟩
  obtain ⟨pz, ez⟩ := pz
  have pk : (zs.map Sum.inl).Perm (es.toList.map kOf) := by
    rw [ez]
    have q := pm.map fun v => kOf (0, v)
    rw [List.map_map] at q
    exact q
  have pn : zs.Perm ys := by
    have nz : zs.Nodup := (List.pairwise_map.mp (pk.nodup_iff.mpr nd')).imp fun {a b} n z => n (by rw [z])
    refine (List.perm_ext_iff_of_nodup nz nd).mpr fun x => ?_
    have e1 : x ∈ zs ↔ Sum.inl x ∈ es.toList.map kOf := by
      rw [← pk.mem_iff]
      exact ⟨fun m => List.mem_map.mpr ⟨x, m, rfl⟩, fun m => by
        obtain ⟨y, hy, e⟩ := List.mem_map.mp m
        cases e; exact hy⟩
    rw [e1, ← hm]
    constructor
    · intro h
      obtain ⟨y, hy, e2⟩ := List.any_eq_true.mp h
      obtain ⟨z, hz, rfl⟩ := List.mem_map.mp hy
      have e3 := of_decide_eq_true e2
      cases e3; exact hz
    · intro h
      exact List.any_eq_true.mpr ⟨_, List.mem_map.mpr ⟨x, h, rfl⟩, decide_eq_true rfl⟩
  have zl : zs.length ≤ 4000 := pn.length_eq ▸ hl
  have vl : vs.length = zs.length := pz.length.symm
  refine wpAny_bind (wpAny_newList ?_ (by rw [vl, sizeLine_eq]; omega))
  have hoL : (s1.heap.push (seqObj "list" vs.toArray 0)).get? s1.heap.objs.size = some (seqObj "list" vs.toArray 0) := Heap.get?_push_size _ rfl
  have e1 := each_ofI pz
  have er : PySem.W.EachIs (fun v (b : Int) => ∃ as, Reads (s1.heap.push (seqObj "list" vs.toArray 0)) v (PyData.int b) as ∧ s1.heap.objs.size ∉ as) vs zs := e1.mono fun v b h => by
    rcases keyIs_shape h with ⟨i, t, q, rfl⟩ | ⟨x, t, q, _⟩
    · cases q
      exact ⟨[], .int b t, fun m => by cases m⟩
    · cases q
  have al : PySem.W.AllAlike (zs.map PyData.int) := fun d hd d' hd' => by
    obtain ⟨x, _, rfl⟩ := List.mem_map.mp hd
    obtain ⟨y, _, rfl⟩ := List.mem_map.mp hd'
    simp [PySem.W.alike]
  have sk : PySem.W.Sortable (zs.map PyData.int) := .inr fun d hd => by
    obtain ⟨x, _, rfl⟩ := List.mem_map.mp hd
    exact ⟨fun z => (by cases z), fun xs z => (by cases z)⟩
  refine wpAny_bind (wpAny_holding (PySem.W.list_sort_data (s := { s1 with heap := s1.heap.push (seqObj "list" vs.toArray 0) }) (enc := PyData.int) hoL e1 er al sk (by rw [sizeLine_eq]; omega) (fun b _ => ?_) fun out lo eo => ?_))
  · show _ + 1 + 0 < cLine
    simp only [Around.in1]
    omega
  · obtain ⟨c, hc⟩ := sortedHeap_at (vs := vs) (out := out.toArray) hoL
    refine wpAny_pure ⟨_, rfl, hQ { s1 with heap := sortedHeap (s1.heap.push (seqObj "list" vs.toArray 0)) s1.heap.objs.size vs out.toArray } s1.heap.objs.size out c _ (fun b u e => ?_) g1 o1 hz hc (of_eachI eo) ((List.mergeSort_perm _ _).length_eq.trans pn.length_eq) ?_⟩
    · have q := k1 b u e
      have hlt := Heap.lt_size q
      show (sortedHeap (s1.heap.push (seqObj "list" vs.toArray 0)) s1.heap.objs.size vs out.toArray).get? b = some u
      rw [sortedHeap_old (Nat.ne_of_lt hlt) (by rw [Heap.size_push]; exact Nat.lt_succ_of_lt hlt)]
      exact Heap.get?_push_of_some _ q
    · exact (PySem.W.sort_maps (r := PySem.W.dataLe false PyData.int) (s := PySem.W.dataLe false (id : D → D)) PyData.int fun _ _ _ _ => rfl).trans (sortS_permI pn)
end
def gSortSetI (a : O) : Option O := (asL a).bind fun ds => (asIs ds).bind fun xs => if decide (xs.length ≤ 4000) = true then some (.lst (sortD ((dstsI xs).map .int))) else none
def eSortSetI (f : Ex) : Ex := fun env => (f env).bind gSortSetI
theorem asIs_rpKI {R : Hp} : ∀ {vs : List V} {ds : List D} {xs : List Int}, RpAll R vs ds → asIs ds = some xs → vs = (xs.map Sum.inl).map kV ∧ ds = xs.map .int
  | _, _, _, .nil, e => by cases e; exact ⟨rfl, rfl⟩
  | _, _, _, .cons (d := d) h t, e => by
    cases d <;> try (cases e)
    case int x =>
      obtain ⟨l, el, e⟩ := Option.map_eq_some_iff.mp e
      subst e
      cases h
      obtain ⟨r1, r2⟩ := asIs_rpKI t el
      rw [r1, r2]
      exact ⟨rfl, rfl⟩
theorem key_relVI {x : Int} {v : Value} (h : keyIs (.inl x) v = true) : RelV (kV (.inl x)) v := by
  rcases keyIs_shape h with ⟨i, t, q, rfl⟩ | ⟨y, t, q, _⟩
  · cases q; exact ⟨t, rfl⟩
  · cases q
theorem paired_keysI {zs : List Int} {out : List Value} (p : Paired (fun (k : Int) v => keyIs (.inl k) v = true) zs out) : Vals ((zs.map Sum.inl).map kV) out := by
  induction p with
  | nil => exact .nil
  | cons h _ ih => exact .cons (key_relVI h) ih
theorem rp_strsI {R : Hp} (zs : List Int) : RpAll R ((zs.map Sum.inl).map kV) (zs.map .int) := by
  induction zs with
  | nil => exact .nil
  | cons x zs ih => exact .cons (.int x) ih
theorem pf_sortSetI {X : Cx} {k : Nat} {a : Expr} {f : Ex} {p p2 q pos : Pos} (hr : Room k X.A) (hg : Gl X "sorted") (hm : X.mg "sorted" = none) (hg2 : Gl X "set") (hm2 : X.mg "set" = none) (ha : PX X a f) (hc : X.calm = true := by rfl)
    (na : starEach [a] X.env = (false, eval a X.env) :: starEach [] X.env := by rfl) : PF X (.Call (.Name "sorted" p) [.Call (.Name "set" p2) [a] [] q] [] pos) (eSortSetI f) := by
  refine ⟨fun pins s σ H Q I h => ?_⟩
  obtain ⟨F, R, env, oo, st, ef, k⟩ := h
  obtain ⟨o1, e1, ef⟩ := Option.bind_eq_some_iff.mp ef
  obtain ⟨ds, ed, ef⟩ := Option.bind_eq_some_iff.mp ef
  obtain ⟨xs, ek, ef⟩ := Option.bind_eq_some_iff.mp ef
  split at ef
  · rename_i hlen
    cases ef
    have hlen := of_decide_eq_true hlen
    refine Call_ (ld_blt I hg hm boot_sorted ?_)
    refine PyProof.Rows.callWith_builtin1 (PyProof.Rows.args_cons ?_ rfl) rfl rfl
    refine Call_ (ld_blt I hg2 hm2 boot_set ?_)
    refine PyProof.Rows.callWith_type1 (PyProof.Rows.args_cons (thn (ha.run pins s σ H _ I (rX.use st e1 fun x R1 H1 fp s1 w1 n1 => (show (fun y Hy => ∃ l vs R', y = .ref l ∧ Hy l = some (.lst vs) ∧ vs = (xs.map Sum.inl).map kV ∧ Stp R H R' Hy) x H1 from ?_))) fun v s1 ⟨x, H1, I1, r1, q1⟩ => PyProof.Rows.args_nil ?_) na) na rfl
    · obtain ⟨l, vs, rfl, ea, r⟩ := asL_ow w1 s1.sub ed
      exact ⟨l, vs, R1, rfl, ea, (asIs_rpKI r ek).1, s1⟩
    obtain ⟨l, vs, R', rfl, hq, rfl, s1'⟩ := q1
    cases r1
    obtain ⟨its, r, pl, hz⟩ := I1.list (.inl (.inl hq))
    have hsz : its.toArray.size = xs.length := by rw [List.size_toArray, ← r.length, List.length_map, List.length_map]
    refine call_set_keys (prog := X.prog) (w := X.w) (ks := xs.map Sum.inl) (I1.ok.hd hc) pl.isList (by simpa using keys_paired X.prog X.w r) (by rw [hsz]; unfold scanBound; omega) fun h' tk hS hk => ?_
    refine PyProof.Rows.args_nil ?_
    rw [← dsts_eqI] at hS
    have I2 : Inv X pins σ H1 { s1 with heap := h', toks := tk } := I1.kept fun b o e => hk b o (Heap.lt_size e) e
    refine sorted_setYI (prog := X.prog) (w := X.w) hS (I1.ok.hd hc) (by have := hr.un; omega) (Nat.le_trans (dsts_lenI xs) hlen) (dsts_ndI xs) fun s' p out c zs kp g o hp hpo pz zl ez => ?_
    have np : H1 p = none := I2.hok.fresh hp
    have rv : Vals ((zs.map Sum.inl).map kV) out := paired_keysI pz
    have small : ((zs.map Sum.inl).map kV).length ≤ sizeLine := by
      have := dsts_lenI xs
      rw [List.length_map, List.length_map, sizeLine_eq]
      omega
    have lok : ObjOk X.prog X.w (upd H1 p (.lst ((zs.map Sum.inl).map kV))) s'.heap p (.lst ((zs.map Sum.inl).map kV)) := ⟨small, out, c, rv, hpo⟩
    have J : Inv X pins σ (upd H1 p (.lst ((zs.map Sum.inl).map kV))) s' :=
      I2.call' (ch := []) o (Un.laid kp hp np) (I2.hok.laid kp hp lok) (by rw [g]; exact I2.bare) (fun _ z => nomatch z)
    rw [← ez] at k
    exact ⟨.ref p, _, J, rfl, done_l s1'.sub np (rp_strsI zs) fun z R2 H2 fp st2 w2 n2 => k z R2 H2 fp (s1'.trans st2) w2 fun b m => ⟨(n2 b m).1, s1'.none st.rH (n2 b m).2⟩⟩
  · cases ef
/-! ### sorted(d), d's keys rising texts -/
def risK (ks : List Str) : Bool := decide (ks.Pairwise fun a b => a.cps.toList < b.cps.toList)
def gSortKeys : O → Option O := fun a => match asDic a with
  | some (.k kvs) => (asSs (kvs.map (·.1))).bind fun ks => if (decide (ks.length < 64) && risK ks) = true then some (.lst (ks.map .str)) else none
  | _ => none
theorem sortedS_one {ks ys : List Str} (h : risK ks = true) (p : ys.Perm ks) (s : sortedS ys = true) : ys = ks := by
  have hk := of_decide_eq_true h
  have ns : ∀ (x : Str) (l : List Str), risingS x l = true → (x :: l).Pairwise fun a b => ¬ b.cps.toList < a.cps.toList := by
    intro x l
    induction l generalizing x with
    | nil => intro _; simp
    | cons y l ih =>
      intro h
      rw [risingS, Bool.and_eq_true, ltCps_eq, Bool.not_eq_true', decide_eq_false_iff_not] at h
      have q := ih y h.2
      refine List.pairwise_cons.mpr ⟨fun z hz => ?_, q⟩
      rcases List.mem_cons.mp hz with rfl | hz
      · exact h.1
      · have := (List.pairwise_cons.mp q).1 z hz
        intro w
        rcases List.le_iff_lt_or_eq.mp (List.not_lt.mp h.1) with c | c
        · exact this (List.lt_trans w c)
        · exact this (c ▸ w)
  have sy : ys.Pairwise fun a b => ¬ b.cps.toList < a.cps.toList := by
    cases ys with
    | nil => exact .nil
    | cons x l => exact ns x l s
  refine List.Perm.eq_of_pairwise (le := fun a b : Str => ¬ b.cps.toList < a.cps.toList) (fun a b _ _ h1 h2 => ?_) sy (hk.imp fun {a b} h z => List.lt_irrefl _ (List.lt_trans h z)) p
  rcases List.le_iff_lt_or_eq.mp (List.not_lt.mp h1) with z | z
  · exact absurd z h2
  · cases a; cases b
    simp only [Array.toList_inj] at z
    rw [z]
theorem rpk_keys {R : Hp} : ∀ {ks : List (Key × V)} {kvs : List (D × D)}, RpK R ks kvs → ∀ {xs : List Str}, asSs (kvs.map (·.1)) = some xs → ks.map (·.1) = xs.map Sum.inr
  | _, _, .nil, xs, e => by cases e; rfl
  | _, _, .cons (k := k) h t, xs, e => by
    cases k with
    | inl i => cases e
    | inr x =>
      obtain ⟨l, el, e⟩ := Option.map_eq_some_iff.mp e
      subst e
      rw [List.map_cons, rpk_keys t el]; rfl
theorem ok_sortKeys {K : PySem.W.Frag} : CaOk K (fun xs H Q => ∃ (a : Addr) (kvs : List (Key × V)) (ks : List Str), xs = [.ref a] ∧ Rd H a (.dK kvs) ∧ kvs.map (·.1) = ks.map Sum.inr ∧ ks.length < 64 ∧
    ∀ ys p, ys.Perm ks → sortedS ys = true → H p = none → Q (.ref p) (upd H p (.lst (ys.map V.str)))) (g1 gSortKeys) := by
  intro R H vs os o Q hs w e k
  cases w with
  | nil => cases e
  | cons h t =>
    cases t with
    | cons _ _ => cases e
    | nil =>
      obtain ⟨fp, w, n⟩ := h
      have e : gSortKeys _ = some o := e
      unfold gSortKeys at e
      split at e
      · rename_i kvs ed
        obtain ⟨xs, ex, e⟩ := Option.bind_eq_some_iff.mp e
        split at e
        · rename_i ok
          rw [Bool.and_eq_true] at ok
          cases e
          obtain ⟨a, ks, rfl, ea, r⟩ := asDic_ow w hs ed
          refine ⟨a, ks, xs, rfl, ea, rpk_keys r ex, of_decide_eq_true ok.1, fun ys p pm so np => ?_⟩
          obtain rfl := sortedS_one ok.2 pm so
          have rp : RpAll R (ys.map V.str) (ys.map .str) := by
            have := rp_strs (R := R) ys
            rwa [List.map_map] at this
          exact done_l hs np rp k
        · cases e
      · cases e
end TP

/-! Mut6: a = x.pop(j). -/
namespace TP
open PySem PySem.Spec PyProof.Rows L2
section
variable {X : Cx} {e : Expr} {g : Ex}
def sPopA (i : Nat) (g : Ex) (tg : Tg) : Sx := fun env => (g env).bind fun b => (asI b).bind fun j => match env[i]? with
  | some (.own (.lst xs)) => if decide (-(2 ^ 63) ≤ j ∧ j < 2 ^ 63) = true then (ixN xs.length j).bind fun n => (xs[n]?).bind fun d => (tg d (env.set i (.own (.lst (xs.eraseIdx n))))).map .nx else none
  | _ => none
theorem psx_popA {i : Nat} {x : Str} {t : Expr} {sl : List Nat} {tg : Tg} {pos pos' apos cpos : Pos} (he : PX X e g) (hg : PG X t (rG X.K sl tg)) (hN : X.N[i]? = some x := by rfl) (hv : Vis X.env.scope x := by first | exact Or.inl rfl | exact Or.inr (Or.inl rfl) | exact Or.inr (Or.inr rfl)) (hd : (x == ("__debug__" : Str)) = false := by decide)
    (hcd : (x == ("__classdict__" : Str)) = false := by decide) (hs : starEach [e] X.env = (false, eval e X.env) :: starEach [] X.env := by rfl)
    (hbase : attributeBase (.Name x pos') "pop" X.env (eval (.Name x pos') X.env) = eval (.Name x pos') X.env := by rfl)
    (hfew : ((backTo cpos (starEach [e] X.env)).all (fun x => !x.1) && (backToKw cpos (keywordEach [] X.env)).all (fun x => x.1.isSome) && decide (([e] : List Expr).length + ([] : List Keyword).length + (if ([] : List Keyword).isEmpty then 0 else 1) < 30)) = true := by rfl)
    (hline : (apos.endLine == cpos.line) = true := by rfl)
    (hs2 : swapsWithSole [t] (.Call (.Attribute (.Name x pos') "pop" apos) [e] [] cpos) pos.line X.env = pure false := by rfl) (hw : swappedStores [t] (.Call (.Attribute (.Name x pos') "pop" apos) [e] [] cpos) X.env = pure none := by rfl)
    (h1 : (assignEach [t] X.env).map (·.2) = [assign t X.env] := by rfl) :
    PSx X (.Assign [t] (.Call (.Attribute (.Name x pos') "pop" apos) [e] [] cpos) pos) (sPopA i g tg) := by
  refine PS.weak (ps_asg (pe_bm PySem.F.plainAttrs_list PySem.F.slot_list_pop PySem.F.type_list_pop mt_popAt (pe_var hN hv hd hcd) (pa_cons he pa_nil hs) hbase hfew hline hs rfl) hg hs2 hw h1) fun Dn σ H q => ?_
  obtain ⟨F, R, env, out, st, ef, k⟩ := q
  obtain ⟨o, e1, ef⟩ := Option.bind_eq_some_iff.mp ef
  obtain ⟨j, ej, ef⟩ := Option.bind_eq_some_iff.mp ef
  split at ef
  · rename_i xs ex
    split at ef
    · rename_i fit
      obtain ⟨n0, en, ef⟩ := Option.bind_eq_some_iff.mp ef
      obtain ⟨d, ed, ef⟩ := Option.bind_eq_some_iff.mp ef
      obtain ⟨env', et, rfl⟩ := Option.map_eq_some_iff.mp ef
      obtain ⟨l, vs, ev, ea, r⟩ := own_lst st ex
      refine ⟨.ref l, ev, .inl ⟨rfl, vs, .inl (.inl ea)⟩, ?_⟩
      refine rX.use st e1 fun y R1 H1 fp s w n => ?_
      have st1 := st.stp s
      obtain ⟨l', vs', ev', ea', r'⟩ := own_lst st1 ex
      rw [ev] at ev'; cases ev'
      have fit := of_decide_eq_true fit
      obtain ⟨h1, h2, _⟩ := ixN_seq en
      have hlen := r'.length
      obtain ⟨z, ez, rz⟩ := r'.get ed
      refine ⟨l, vs', j, n0, z, rfl, by rw [asI_ow w ej], ea', fit.1, fit.2, by rw [hlen]; exact h1, ez, ?_⟩
      exact ⟨F, R1, _, d, env', mut_lst st1 ex ev (r'.eraseIdx n0), rz, et, fun σ' st' _ _ => k σ' R1 _ st' s.gr⟩
    · cases ef
  · cases ef
end
end TP

/-! Mut7: a call whose flat list is handed out as the caller's own. -/
namespace TP
open PySem PySem.Spec PyProof.Rows L2
def scalD : D → Bool
  | .none => true
  | .bool _ => true
  | .int _ => true
  | .str _ => true
  | _ => false
def scalV : V → Bool
  | .non => true
  | .bl _ => true
  | .int _ => true
  | .str _ => true
  | _ => false
mutual
def noFl : D → Bool
  | .list ds => !ds.all scalD && noFlL ds
  | .tuple ds => noFlL ds
  | .dict _ => false
  | .none => true
  | .bool _ => true
  | .int _ => true
  | .str _ => true
def noFlL : List D → Bool
  | [] => true
  | d :: ds => noFl d && noFlL ds
end
def thin (R : Hp) : Hp := fun a => match R a with
  | some (.lst vs) => if vs.all scalV = true then none else R a
  | _ => R a
theorem thin_le {R : Hp} {a : Addr} {o : HO} (h : thin R a = some o) : R a = some o := by
  unfold thin at h
  split at h
  · split at h
    · cases h
    · exact h
  · exact h
theorem thin_tup {R : Hp} {a : Addr} {vs : List V} (h : R a = some (.tup vs)) : thin R a = some (.tup vs) := by
  unfold thin; rw [h]
theorem thin_frz {R : Hp} {a : Addr} {od : Obj} {u : HO} (h : R a = some (.frz od u)) : thin R a = some (.frz od u) := by
  unfold thin; rw [h]
theorem thin_lst {R : Hp} {a : Addr} {vs : List V} (h : R a = some (.lst vs)) (f : vs.all scalV = false) : thin R a = some (.lst vs) := by
  unfold thin; rw [h]
  simp only [f, Bool.false_eq_true, if_false]
theorem scal_eq {R : Hp} {v : V} {d : D} (h : Rp R v d) : scalV v = scalD d := by cases h <;> rfl
theorem scals_eq {R : Hp} : ∀ {vs : List V} {ds : List D}, RpAll R vs ds → vs.all scalV = ds.all scalD
  | _, _, .nil => rfl
  | _, _, .cons h t => by rw [List.all_cons, List.all_cons, scal_eq h, scals_eq t]
mutual
theorem thin_rp {R : Hp} : ∀ (d : D) {v : V}, Rp R v d → noFl d = true → Rp (thin R) v d
  | .none, _, .non, _ => .non
  | .bool b, _, .bl _, _ => .bl b
  | .int i, _, .int _, _ => .int i
  | .str x, _, .str _, _ => .str x
  | .list ds, _, .lst e r, h => by
    rw [noFl, Bool.and_eq_true] at h
    refine .lst (thin_lst e ?_) (thin_rpl ds r h.2)
    rw [scals_eq r]
    simpa using h.1
  | .tuple ds, _, .tup e r, h => by
    rw [noFl] at h
    refine .tup ?_ (thin_rpl ds r h)
    unfold Rw at e ⊢
    split
    · rename_i nf
      rw [if_pos nf] at e
      obtain ⟨od, e, hd⟩ := e
      exact ⟨od, thin_frz e, hd⟩
    · rename_i nf
      rw [if_neg nf] at e
      exact thin_tup e
  | .dict _, _, _, h => by rw [noFl] at h; cases h
theorem thin_rpl {R : Hp} : ∀ (ds : List D) {vs : List V}, RpAll R vs ds → noFlL ds = true → RpAll (thin R) vs ds
  | [], _, .nil, _ => .nil
  | d :: ds, _, .cons h t, e => by
    rw [noFlL, Bool.and_eq_true] at e
    exact .cons (thin_rp d h e.1) (thin_rpl ds t e.2)
end
theorem flat_any {R R' : Hp} : ∀ {vs : List V} {ds : List D}, RpAll R vs ds → ds.all scalD = true → RpAll R' vs ds
  | _, _, .nil, _ => .nil
  | _, _, .cons h t, e => by
    rw [List.all_cons, Bool.and_eq_true] at e
    refine .cons ?_ (flat_any t e.2)
    cases h with
    | non => exact .non
    | bl b => exact .bl b
    | int i => exact .int i
    | str x => exact .str x
    | _ => cases e.1
def noFlO : O → Bool
  | .dat d => noFl d
  | _ => false
def unfl : O → Option O
  | .dat (.list ds) => if ds.all scalD = true then some (.lst ds) else none
  | .dat d => some (.dat d)
  | .lst ds => some (.lst ds)
  | _ => none
def eFnO (n : Nat) (m : List O → Option O) (fs : Exs) : Ex := fun env => (fs env).bind fun os => if os.length = n ∧ os.all noFlO = true then (m os).bind unfl else none
theorem thin_ows {K : PySem.W.Frag} {R H : Hp} : ∀ {vs : List V} {os : List O}, OwL K R H vs os → os.all noFlO = true → OwL K (thin R) H vs os
  | _, _, .nil, _ => .nil
  | _, _, .cons (b := o) h t, e => by
    rw [List.all_cons, Bool.and_eq_true] at e
    refine .cons ?_ (thin_ows t e.2)
    cases o with
    | dat d =>
      obtain ⟨fp, ⟨rfl, r⟩, _⟩ := h
      exact ⟨[], ⟨rfl, thin_rp d r e.1⟩, fun a m => by cases m⟩
    | _ => cases e.1
section
variable {R H R' H' : Hp}
theorem thin_out (s : Stp (thin R) H R' H') (hs : Sub R H) {a : Addr} {o : HO} (e : R a = some o) (n : thin R a = none) : R' a = none ∧ H' a = some o := by
  obtain ⟨h1, h2⟩ := s.out a o (hs a o e) n
  refine ⟨?_, h1⟩
  rcases h2 with h2 | h2
  · exact h2
  · obtain ⟨vs, rfl⟩ := isTup_eq h2
    rw [thin_tup e] at n; cases n
def join (R R' : Hp) : Hp := fun a => match R' a with
  | some o => some o
  | none => R a
theorem join_gr (s : Stp (thin R) H R' H') (hs : Sub R H) : Gr R (join R R') := fun a o e => by
  unfold join
  cases ht : thin R a with
  | some o2 =>
    have e2 := thin_le ht
    rw [e] at e2; cases e2
    rcases s.gr a o ht with q | ⟨q1, od, q2⟩
    · rw [q]; exact .inl rfl
    · rw [q2]; exact .inr ⟨q1, od, rfl⟩
  | none =>
    rw [(thin_out s hs e ht).1]
    exact .inl e
theorem join_sub (s : Stp (thin R) H R' H') (hs : Sub R H) : Sub (join R R') H' := fun a o e => by
  unfold join at e
  cases h : R' a with
  | some o2 => rw [h] at e; cases e; exact s.sub a _ h
  | none =>
    rw [h] at e
    have e : R a = some o := e
    cases ht : thin R a with
    | some o2 =>
      rcases s.gr a o2 ht with q | ⟨_, od, q⟩ <;> (rw [h] at q; cases q)
    | none => exact (thin_out s hs e ht).2
theorem thin_none {a : Addr} (h : R a = none) : thin R a = none := by
  cases e : thin R a with
  | none => rfl
  | some o => rw [thin_le e] at h; cases h
theorem join_stp (s : Stp (thin R) H R' H') (hs : Sub R H) : Stp R H (join R R') H' := by
  refine ⟨join_sub s hs, join_gr s hs, fun a o e n => ?_⟩
  obtain ⟨h1, h2⟩ := s.out a o e (thin_none n)
  refine ⟨h1, ?_⟩
  rcases h2 with h2 | h2
  · refine .inl ?_
    unfold join
    rw [h2]; exact n
  · exact .inr h2
theorem join_up : Gr R' (join R R') := fun a o e => by unfold join; rw [e]; exact .inl rfl
/-- the caller's region alone, as it stands now -/
def keepR (R R' : Hp) : Hp := fun a => match R a with
  | none => none
  | some _ => join R R' a
theorem keep_stp (s : Stp (thin R) H R' H') (hs : Sub R H) : Stp R H (keepR R R') H' := by
  refine ⟨fun a o e => ?_, fun a o e => ?_, fun a o e n => ?_⟩
  · unfold keepR at e
    split at e
    · cases e
    · exact join_sub s hs a o e
  · have := join_gr s hs a o e
    unfold keepR
    rw [e]
    exact this
  · obtain ⟨h1, _⟩ := s.out a o e (thin_none n)
    refine ⟨h1, .inl ?_⟩
    unfold keepR
    rw [n]
end
theorem pf_callO {X : Cx} {e : Expr} {es : List Expr} {pos : Pos} {x : Str} {p : Pos} {k j n : Nat} {m : List O → Option O} {fs : Exs} (C : Cal X.prog X.w X.K X.mg X.base x n k m) (hr : Room j X.A) (hkj : k ≤ j := by decide) (hg : Gl X x := by rfl)
    (ha : PAs X (e :: es) fs) (hdb : (x == ("__debug__" : Str)) = false := by decide) (he : starEach (e :: es) X.env = (false, eval e X.env) :: starEach es X.env := by rfl) (hpl : (backTo pos (starEach es X.env)).any (·.1) = false := by rfl) :
    PF X (.Call (.Name x p) (e :: es) [] pos) (eFnO n m fs) := by
  obtain ⟨fa, fd, ps, hm, G, hk, hb⟩ := C.ex
  refine PE.weak (pe_call (E := E0) G (hr.mono hkj) hg hm hk hb .nil pass0 ha hdb he hpl) fun σ H Q q => ?_
  obtain ⟨F, R, env, o, st, ef, k⟩ := q
  obtain ⟨os, e1, ef⟩ := Option.bind_eq_some_iff.mp ef
  split at ef
  · rename_i hl
    obtain ⟨o1, em, eu⟩ := Option.bind_eq_some_iff.mp ef
    refine ⟨F, R, env, os, st, e1, fun xs R1 H1 s1 ws => ⟨thin R1, os, o1, fun a u h => s1.sub a u (thin_le h), ?_, em, hl.1, fun x R' H' fp s w nn => ?_⟩⟩
    · rw [List.append_nil]
      exact thin_ows ws hl.2
    have hs := s1.sub
    have gen : Ow X.K (join R1 R') H' x o fp → Q x H' := fun w2 => k x _ H' fp (s1.trans (join_stp s hs)) w2 fun a m => by
      obtain ⟨n1, n2⟩ := nn a m
      refine ⟨?_, s1.none st.rH n2⟩
      unfold join
      rw [n1]
      cases e : R1 a with
      | none => rfl
      | some u => rw [hs a u e] at n2; cases n2
    unfold unfl at eu
    split at eu
    · rename_i ds
      split at eu
      · rename_i fl
        cases eu
        obtain ⟨rfl, r⟩ := w
        cases r with
        | lst ea r =>
          rename_i a vs
          have sv : vs.all scalV = true := by rw [scals_eq r]; exact fl
          have fresh : H1 a = none := by
            cases e : H1 a with
            | none => rfl
            | some u =>
              cases ht : thin R1 a with
              | some u2 =>
                have : u2 = .lst vs := by
                  rcases s.gr a u2 ht with q | ⟨_, od, q⟩
                  · rw [ea] at q; cases q; rfl
                  · rw [ea] at q; cases q
                subst this
                have e2 := thin_le ht
                unfold thin at ht
                rw [e2] at ht
                simp only [sv, if_true] at ht
                cases ht
              | none =>
                obtain ⟨h1, h2⟩ := s.out a u e ht
                rcases h2 with h2 | h2
                · rw [ea] at h2; cases h2
                · obtain ⟨ts, rfl⟩ := isTup_eq h2
                  rw [s.sub a _ ea] at h1; cases h1
          have r1 : R1 a = none := by
            cases e : R1 a with
            | none => rfl
            | some u => rw [hs a u e] at fresh; cases fresh
          refine k (.ref a) (keepR R1 R') H' [a] (s1.trans (keep_stp s hs)) ⟨a, vs, rfl, rfl, s.sub a _ ea, flat_any r fl⟩ fun b m => ?_
          rw [List.mem_singleton.mp m]
          refine ⟨?_, s1.none st.rH fresh⟩
          unfold keepR
          rw [r1]
      · cases eu
    · cases eu
      obtain ⟨rfl, r⟩ := w
      exact gen ⟨rfl, r.mono join_up⟩
    · cases eu
      obtain ⟨a, vs, rfl, rfl, ea, r⟩ := w
      exact gen ⟨a, vs, rfl, rfl, ea, r.mono join_up⟩
    · cases eu
  · cases ef
end TP

/-! Mut8: x.index(y); list(range(n)); len of a dict whose keys are tuples. -/
namespace TP
open PySem PySem.Spec PyProof.Rows L2
section
variable {X : Cx} {e o : Expr} {f g : Ex}
def gIndex : O → O → Option O := fun a b => (asL a).bind fun ds => b.data.bind fun d => if (SeqAt.shaped d && SeqAt.shaped (.list ds)) = true then (ds.findIdx? fun z => PyData.eqv z d).map fun j => oI (j : Nat) else none
def eIndex (f g : Ex) : Ex := fun env => (f env).bind fun a => (g env).bind fun b => gIndex a b
theorem pf_index {apos cpos : Pos} {k : Nat} (hr : Room k X.A) (ho : PX X o f) (he : PX X e g)
    (hbase : attributeBase o "index" X.env (eval o X.env) = eval o X.env := by rfl)
    (hfew : ((backTo cpos (starEach [e] X.env)).all (fun x => !x.1) && (backToKw cpos (keywordEach [] X.env)).all (fun x => x.1.isSome) && decide (([e] : List Expr).length + ([] : List Keyword).length + (if ([] : List Keyword).isEmpty then 0 else 1) < 30)) = true := by rfl)
    (hline : (apos.endLine == cpos.line) = true := by rfl) (hs : starEach [e] X.env = (false, eval e X.env) :: starEach [] X.env := by rfl) :
    PF X (.Call (.Attribute o "index" apos) [e] [] cpos) (eIndex f g) := by
  refine PE.weak (pe_bm PySem.F.plainAttrs_list PySem.F.slot_list_index PySem.F.type_list_index (mt_indexD (hu65 hr)) ho (pa_cons he pa_nil hs) hbase hfew hline hs rfl) fun σ H Q q => ?_
  obtain ⟨F, R, env, oo, st, ef, k⟩ := q
  obtain ⟨o1, e1, ef⟩ := Option.bind_eq_some_iff.mp ef
  obtain ⟨o2, e2, ef⟩ := Option.bind_eq_some_iff.mp ef
  obtain ⟨ds, ed, ef⟩ := Option.bind_eq_some_iff.mp ef
  obtain ⟨d, eo, ef⟩ := Option.bind_eq_some_iff.mp ef
  split at ef
  · rename_i h
    rw [Bool.and_eq_true] at h
    obtain ⟨j, ej, rfl⟩ := Option.map_eq_some_iff.mp ef
    obtain ⟨hj, p1, p2⟩ := List.findIdx?_eq_some_iff_getElem.mp ej
    refine rX.use st e1 fun x R1 H1 fp1 s1 w1 n1 => ?_
    obtain ⟨a, vs, rfl, ea, r⟩ := asL_ow w1 s1.sub ed
    refine ⟨.inl ⟨rfl, vs, .inl (.inl ea)⟩, ?_⟩
    refine rX.use (st.stp s1) e2 fun y R2 H2 fp2 s2 w2 n2 => ?_
    obtain ⟨w1', n1'⟩ := w1.stp n1 s1.sub s2
    refine ⟨a, y, d, ds, j, ds[j], rfl, rfl, (w1'.rp s2.sub (asL_data ed)).dp _ _ (shaped_lay h.2), (w2.rp s2.sub eo).dp _ _ (shaped_lay h.1), h.2, h.1, List.getElem?_eq_getElem hj, p1, fun m z' hm hz => ?_, k (.int (j : Nat)) R2 H2 [] (s1.trans s2) ⟨rfl, .int _⟩ fun c m => by cases m⟩
    obtain ⟨hm2, rfl⟩ := List.getElem?_eq_some_iff.mp hz
    have := p2 m hm
    simpa using this
  · cases ef
def eListR (f : Ex) : Ex := fun env => (f env).bind fun o => (asI o).bind fun n => if decide (0 ≤ n ∧ n ≤ 1000000) = true then some (.lst ((List.range n.toNat).map fun i => .int (i : Nat))) else none
theorem rg_rp {R : Hp} (n : Int) : RpAll R (rgV 0 n) ((List.range n.toNat).map fun i => PyData.int (i : Nat)) := by
  unfold rgV
  rw [Int.sub_zero]
  induction List.range n.toNat with
  | nil => exact .nil
  | cons i l ih =>
    rw [List.map_cons, List.map_cons, Int.zero_add]
    exact .cons (.int _) ih
theorem pf_listR {p p2 q pos : Pos} (hg : Gl X "list") (hm : X.mg "list" = none) (hg2 : Gl X "range") (hm2 : X.mg "range" = none) (ha : PX X e f) (hc : X.calm = true := by rfl)
    (na : starEach [e] X.env = (false, eval e X.env) :: starEach [] X.env := by rfl)
    (na2 : starEach [(.Call (.Name "range" p2) [e] [] q : Expr)] X.env = (false, eval (.Call (.Name "range" p2) [e] [] q) X.env) :: starEach [] X.env := by rfl) : PF X (.Call (.Name "list" p) [.Call (.Name "range" p2) [e] [] q] [] pos) (eListR f) := by
  refine PE.weak (pe_listRg hc hg hm (prg_1 hg2 hm2 ha na) na2) fun σ H Q h => ?_
  obtain ⟨F, R, env, oo, st, ef, k⟩ := h
  obtain ⟨o1, e1, ef⟩ := Option.bind_eq_some_iff.mp ef
  obtain ⟨n, en, ef⟩ := Option.bind_eq_some_iff.mp ef
  split at ef
  · rename_i hn
    cases ef
    have hn := of_decide_eq_true hn
    refine rX.use st e1 fun x R1 H1 fp s1 w1 n1 => ?_
    refine ⟨n, asI_ow w1 en, RgOk.of_le (by omega) (by omega) (by omega) (by omega), fun l nl => ?_⟩
    exact done_l s1.sub nl (rg_rp n) fun z R' H' fp2 s2 ow fr => k z R' H' fp2 (s1.trans s2) ow fun c m => ⟨(fr c m).1, s1.none st.rH (fr c m).2⟩
  · cases ef
end
def gLenT : O → Option O
  | .dT kvs => some (oI kvs.length)
  | _ => none
theorem rpT_len {R : Hp} : ∀ {ks : List (List Key × V)} {kvs : List (D × D)}, RpT R ks kvs → ks.length = kvs.length
  | _, _, .nil => rfl
  | _, _, .cons _ t => by rw [List.length_cons, List.length_cons, rpT_len t]
theorem ok_lenT {K : PySem.W.Frag} : CaOk K rLenT (g1 gLenT) := by
  intro R H vs os o Q hs w e k
  cases w with
  | nil => cases e
  | cons h t =>
    cases t with
    | cons _ _ => cases e
    | nil =>
      obtain ⟨fp, w, n⟩ := h
      have e : gLenT _ = some o := e
      unfold gLenT at e
      split at e
      · cases e
        obtain ⟨a, ks, rfl, _, ea, r⟩ := w
        refine ⟨a, ks, rfl, ea, ?_⟩
        rw [rpT_len r]
        exact done_sc hs k (.int _)
      · cases e
end TP

/-! Calc: what a plain function hands back, by wishes. -/
namespace TP
open PySem PySem.Spec PyProof.Rows L2

def Wp {α : Type} (o : Option α) (Q : α → Prop) : Prop := ∃ x, o = some x ∧ Q x
section
variable {α β : Type} {x : α} {Q : α → Prop} {o : Option α}
theorem wp_some : Wp (some x) Q = Q x := propext ⟨fun h => (match h with | ⟨_, e, q⟩ => by cases e; exact q), fun q => ⟨_, rfl, q⟩⟩
theorem wp_none : Wp (none : Option α) Q = False := propext ⟨fun h => (match h with | ⟨_, e, _⟩ => by cases e), False.elim⟩
theorem wp_bind {p : Option β} {f : β → Option α} : Wp (p.bind f) Q = Wp p fun x => Wp (f x) Q := propext ⟨fun ⟨y, e, q⟩ => by
  obtain ⟨z, ez, e⟩ := Option.bind_eq_some_iff.mp e
  exact ⟨z, ez, y, e, q⟩, fun ⟨z, ez, y, e, q⟩ => ⟨y, Option.bind_eq_some_iff.mpr ⟨z, ez, e⟩, q⟩⟩
theorem wp_map {p : Option β} {f : β → α} : Wp (p.map f) Q = Wp p fun x => Q (f x) := propext ⟨fun ⟨y, e, q⟩ => by
  obtain ⟨z, ez, e⟩ := Option.map_eq_some_iff.mp e
  exact ⟨z, ez, (show Q (f z) from e ▸ q)⟩, fun ⟨z, ez, q⟩ => ⟨f z, by rw [ez]; rfl, q⟩⟩
theorem wp_ifn {c : Prop} [Decidable c] {a : Option α} : Wp (if c then a else none) Q = (c ∧ Wp a Q) := by
  by_cases h : c
  · rw [if_pos h]; exact propext ⟨fun q => ⟨h, q⟩, fun q => q.2⟩
  · rw [if_neg h, wp_none]; exact propext ⟨False.elim, fun q => h q.1⟩
theorem wp_if {c : Prop} [Decidable c] {a b : Option α} : Wp (if c then a else b) Q = ((c → Wp a Q) ∧ (¬c → Wp b Q)) := by
  by_cases h : c
  · rw [if_pos h]; exact propext ⟨fun q => ⟨fun _ => q, fun n => absurd h n⟩, fun q => q.1 h⟩
  · rw [if_neg h]; exact propext ⟨fun q => ⟨fun n => absurd n h, fun _ => q⟩, fun q => q.2 h⟩
theorem Wp.imp {Q' : α → Prop} (h : Wp o Q) (k : ∀ x, Q x → Q' x) : Wp o Q' := let ⟨x, e, q⟩ := h; ⟨x, e, k x q⟩
theorem Wp.of (e : o = some x) (q : Q x) : Wp o Q := ⟨x, e, q⟩
theorem Wp.eq (h : Wp o fun y => y = x) : o = some x := let ⟨_, e, q⟩ := h; by rw [e, q]
end
/-! ### the forms with tests -/
section
variable {f g h : Ex} {u v : Sx} {env : En}
theorem sIf_eq : sIf f u v env = (f env).bind fun x => (asB x).bind fun b => if b = true then u env else v env := by
  unfold sIf
  congr 1
  funext x
  cases x <;> first | rfl | (rename_i d; cases d <;> first | rfl | (rename_i b; cases b <;> rfl))
theorem eIf_eq : eIf f g h env = (f env).bind fun x => (asB x).bind fun b => if b = true then g env else h env := by
  unfold eIf
  congr 1
  funext x
  cases x <;> first | rfl | (rename_i d; cases d <;> first | rfl | (rename_i b; cases b <;> rfl))
theorem eAnd_eq : eAnd f g env = (f env).bind fun x => (asB x).bind fun b => if b = true then g env else some (oB false) := by
  unfold eAnd
  congr 1
  funext x
  cases x <;> first | rfl | (rename_i d; cases d <;> first | rfl | (rename_i b; cases b <;> rfl))
theorem eOr_eq : eOr f g env = (f env).bind fun x => (asB x).bind fun b => if b = true then some (oB true) else g env := by
  unfold eOr
  congr 1
  funext x
  cases x <;> first | rfl | (rename_i d; cases d <;> first | rfl | (rename_i b; cases b <;> rfl))
theorem eNot_eq : eNot f env = (f env).bind fun x => (asB x).map fun b => oB (!b) := by
  unfold eNot
  congr 1
  funext x
  cases x <;> first | rfl | (rename_i d; cases d <;> first | rfl | (rename_i b; cases b <;> rfl))
theorem eChain_eq {g1 g2 : O → O → Option O} {f1 f2 f3 : Ex} : eChain g1 g2 f1 f2 f3 env = (f1 env).bind fun x => (f2 env).bind fun y => (g1 x y).bind fun z => (asB z).bind fun b => if b = true then (f3 env).bind fun w => g2 y w else some (oB false) := by
  unfold eChain
  congr 1
  funext x
  congr 1
  funext y
  congr 1
  funext z
  cases z <;> first | rfl | (rename_i d; cases d <;> first | rfl | (rename_i b; cases b <;> rfl))
/-! ### loops -/
theorem rng_get {n i : Nat} {d : D} (h : ((List.range n).map fun i => PyData.int (i : Nat))[i]? = some d) : d = .int (i : Nat) ∧ i < n := by
  rw [List.getElem?_map] at h
  obtain ⟨k, e, rfl⟩ := Option.map_eq_some_iff.mp h
  have hi : i < n := by have := (List.getElem?_eq_some_iff.mp e).1; rwa [List.length_range] at this
  rw [List.getElem?_range hi] at e
  cases e
  exact ⟨rfl, hi⟩

theorem wp_for {tg : Tg} {body : Sx} {Q : Out → Prop} (I : Nat → En → Prop) {ds : List D} {env : En} (h0 : I 0 env)
    (hs : ∀ i d e, ds[i]? = some d → I i e → Wp (tg d e) fun e1 => Wp (body e1) fun out => match out with
      | .nx e' => I (i + 1) e'
      | .ct e' => I (i + 1) e'
      | .bk e' => Q (.nx e')
      | .rt o => Q (.rt o)) (hd : ∀ e, I ds.length e → Q (.nx e)) : Wp (forL tg body ds env) Q := by
  induction ds generalizing env I with
  | nil => exact ⟨_, rfl, hd env h0⟩
  | cons d ds ih =>
    obtain ⟨e1, q1, out, q2, k⟩ := hs 0 d env rfl h0
    have go : ∀ e', I 1 e' → Wp (forL tg body ds e') Q := fun e' i1 => ih (fun i e => I (i + 1) e) i1 (fun i d e z ie => hs (i + 1) d e (by simpa using z) ie) (fun e ie => hd e (by simpa using ie))
    unfold forL
    rw [q1, Option.bind_some, q2, Option.bind_some]
    cases out with
    | nx e' => exact go e' k
    | ct e' => exact go e' k
    | bk e' => exact ⟨_, rfl, k⟩
    | rt o => exact ⟨_, rfl, k⟩
theorem lcL_wp {tg : Tg} {c f : Ex} {env : En} {Q : List D → Prop} (P : Nat → D → D → Prop) {ds : List D} (h : ∀ i d, ds[i]? = some d → Wp (tg d env) fun e1 => c e1 = some (oB true) ∧ Wp (f e1) fun o => Wp (asD o) fun y => P i d y)
    (k : ∀ ys : List D, ys.length = ds.length → (∀ i d y, ds[i]? = some d → ys[i]? = some y → P i d y) → Q ys) : Wp (lcL tg c f env ds) Q := by
  induction ds generalizing P Q with
  | nil => exact ⟨[], rfl, k [] rfl fun i d y e => by simp at e⟩
  | cons d ds ih =>
    obtain ⟨e1, q1, ec, o, q2, y, q3, p⟩ := h 0 d rfl
    unfold lcL
    rw [q1, Option.bind_some, ec, Option.bind_some]
    show Wp ((f e1).bind _) Q
    rw [q2, Option.bind_some, q3, Option.bind_some, wp_map]
    refine ih (fun i => P (i + 1)) (fun i d e => h (i + 1) d (by simpa using e)) fun ys hl hp => k (y :: ys) (by simp [hl]) fun i d y' e1 e2 => ?_
    cases i with
    | zero => simp at e1 e2; subst e1 e2; exact p
    | succ i => exact hp i d y' (by simpa using e1) (by simpa using e2)
theorem lc_rng {α : Type} (e : α → D) (P : Nat → α → Prop) {n j : Nat} {f : Ex} {env : En} {Q : List D → Prop} (h : ∀ k : Nat, k < n → Wp (tgN j (.int (k : Nat)) env) fun e1 => Wp (f e1) fun o => ∃ y : α, o = .dat (e y) ∧ P k y)
    (q : ∀ l : List α, l.length = n → (∀ k y, l[k]? = some y → P k y) → Q (l.map e)) : Wp (lcL (tgN j) eYes f env ((List.range n).map fun i => .int (i : Nat))) Q := by
  have all : ∀ (ds : List D) (P : Nat → α → Prop) (Q : List D → Prop), (∀ i d, ds[i]? = some d → Wp (tgN j d env) fun e1 => Wp (f e1) fun o => ∃ y : α, o = .dat (e y) ∧ P i y) → (∀ l : List α, l.length = ds.length → (∀ k y, l[k]? = some y → P k y) → Q (l.map e)) → Wp (lcL (tgN j) eYes f env ds) Q := by
    intro ds
    induction ds with
    | nil => intro P Q _ k; exact ⟨[], rfl, k [] rfl fun i y z => by simp at z⟩
    | cons d ds ih =>
      intro P Q h k
      obtain ⟨e1, q1, o, q2, y, rfl, p⟩ := h 0 d rfl
      unfold lcL
      rw [q1, Option.bind_some]
      show Wp ((f e1).bind _) Q
      rw [q2, Option.bind_some]
      show Wp (((lcL (tgN j) eYes f env ds)).map _) Q
      rw [wp_map]
      refine ih (fun i => P (i + 1)) _ (fun i d z => h (i + 1) d (by simpa using z)) fun l hl hp => k (y :: l) (by simp [hl]) fun i y' z => ?_
      cases i with
      | zero => simp at z; subst z; exact p
      | succ i => exact hp i y' (by simpa using z)
  refine all _ P Q (fun i d z => ?_) fun l hl => q l (by rw [hl, List.length_map, List.length_range])
  obtain ⟨rfl, hi⟩ := rng_get z
  exact h i hi
theorem asBs_map (p : D → Bool) : ∀ ds : List D, asBs (ds.map fun d => .bool (p d)) = some (ds.map p)
  | [] => rfl
  | d :: ds => by rw [List.map_cons, asBs, asBs_map p ds]; rfl
theorem lc_allB {tg : Tg} {f : Ex} {env : En} {Q : O → Prop} (p : D → Bool) {ds : List D} (h : ∀ d ∈ ds, Wp (tg d env) fun e1 => Wp (f e1) fun o => o = oB (p d)) (q : Q (oB (ds.all p))) : Wp (lcL tg eYes f env ds) fun x => Wp (gAll (.lst x)) Q := by
  have e : lcL tg eYes f env ds = some (ds.map fun d => .bool (p d)) := by
    clear q
    induction ds with
    | nil => rfl
    | cons d ds ih =>
      obtain ⟨e1, q1, o, q2, rfl⟩ := h d List.mem_cons_self
      unfold lcL
      rw [q1, Option.bind_some]
      show ((f e1).bind _) = _
      rw [q2, Option.bind_some]
      show ((lcL tg eYes f env ds).map _) = _
      rw [ih fun d m => h d (List.mem_cons_of_mem _ m)]
      rfl
  refine ⟨_, e, _, ?_, q⟩
  show (asBs _).map _ = _
  rw [asBs_map]
  simp [List.all_map]
theorem lc_map {α : Type} {f0 g : α → D} {tg : Tg} {f : Ex} {env : En} {Q : List D → Prop} {l : List α} (h : ∀ a ∈ l, Wp (tg (f0 a) env) fun e1 => Wp (f e1) fun o => o = .dat (g a)) (q : Q (l.map g)) : Wp (lcL tg eYes f env (l.map f0)) Q := by
  refine ⟨_, ?_, q⟩
  clear q
  induction l with
  | nil => rfl
  | cons d ds ih =>
    obtain ⟨e1, q1, o, q2, rfl⟩ := h d List.mem_cons_self
    rw [List.map_cons]
    unfold lcL
    rw [q1, Option.bind_some]
    show ((f e1).bind _) = _
    rw [q2, Option.bind_some]
    show ((lcL tg eYes f env _).map _) = _
    rw [ih fun d m => h d (List.mem_cons_of_mem _ m)]
    rfl
theorem lc_filt {α : Type} {f0 g : α → D} (pp : α → Bool) {tg : Tg} {c f : Ex} {env : En} {Q : List D → Prop} {l : List α} (h : ∀ a ∈ l, Wp (tg (f0 a) env) fun e1 => Wp (c e1) fun o => o = oB (pp a) ∧ (pp a = true → Wp (f e1) fun o => o = .dat (g a))) (q : Q ((l.filter pp).map g)) : Wp (lcL tg c f env (l.map f0)) Q := by
  refine ⟨_, ?_, q⟩
  clear q
  induction l with
  | nil => rfl
  | cons d ds ih =>
    obtain ⟨e1, q1, o, q2, rfl, k⟩ := h d List.mem_cons_self
    have ih := ih fun d m => h d (List.mem_cons_of_mem _ m)
    rw [List.map_cons]
    unfold lcL
    rw [q1, Option.bind_some, q2, Option.bind_some]
    cases hp : pp d with
    | true =>
      obtain ⟨o, q3, rfl⟩ := k hp
      rw [List.filter_cons_of_pos hp]
      show ((f e1).bind _) = _
      rw [q3, Option.bind_some]
      show ((lcL tg c f env _).map _) = _
      rw [ih]
      rfl
    | false =>
      rw [List.filter_cons_of_neg (by rw [hp]; exact Bool.false_ne_true)]
      exact ih
/-- the elements one by one -/
def lc1 (tg : Tg) (c f : Ex) (env : En) (d : D) : Option (Option D) := (tg d env).bind fun e1 => (c e1).bind fun x => (asB x).bind fun b => if b = true then (f e1).bind fun o => (asD o).map some else some none
theorem lcL_cons {tg : Tg} {c f : Ex} {env : En} {d : D} {ds : List D} : lcL tg c f env (d :: ds) = (lc1 tg c f env d).bind fun o => (lcL tg c f env ds).map fun r => match o with | some y => y :: r | none => r := by
  unfold lc1
  rw [lcL]
  cases tg d env with
  | none => rfl
  | some e1 =>
    rw [Option.bind_some, Option.bind_some]
    cases c e1 with
    | none => rfl
    | some x =>
      rw [Option.bind_some, Option.bind_some]
      cases x with
      | dat d =>
        cases d with
        | bool b =>
          cases b with
          | true =>
            show ((f e1).bind _) = ((f e1).bind fun o => (asD o).map some).bind _
            cases f e1 with
            | none => rfl
            | some o =>
              rw [Option.bind_some, Option.bind_some]
              cases asD o <;> rfl
          | false =>
            show lcL tg c f env ds = (some none).bind _
            rw [Option.bind_some]
            cases lcL tg c f env ds <;> rfl
        | _ => rfl
      | _ => rfl
theorem lcL_map {tg : Tg} {c f : Ex} {env : En} (g : D → Option D) {ds : List D} (h : ∀ d ∈ ds, lc1 tg c f env d = some (g d)) : lcL tg c f env ds = some (ds.filterMap g) := by
  induction ds with
  | nil => rfl
  | cons d ds ih =>
    rw [lcL_cons, h d List.mem_cons_self, Option.bind_some, ih fun d m => h d (List.mem_cons_of_mem _ m), Option.map_some, List.filterMap_cons]
    cases g d <;> rfl
end
theorem wp_runB {n : Nat} {body : Sx} {os : List O} {Q : O → Prop} : Wp (runB n body os) Q = Wp (body (env0 n os)) fun out => match out with | .rt o => Q o | .nx _ => Q (.dat .none) | _ => False := by
  unfold runB
  cases body (env0 n os) with
  | none => simp only [wp_none]
  | some out => cases out <;> simp only [wp_some, wp_none]
theorem gAdd_int {i j : Int} : gAdd (oI i) (oI j) = some (oI (i + j)) := rfl
theorem gMul_int {i j : Int} (h : cMul i j = true) : gMul (oI i) (oI j) = some (oI (i * j)) := by
  unfold gMul gMulI gII asI
  simp [h]
theorem ixD_get {α : Type} {xs : List α} {i : Int} (h0 : 0 ≤ i) (h1 : i < xs.length) : ixD xs i = xs[i.toNat]? := by
  unfold ixD atI ixN
  rw [if_pos h0, if_pos h1]
  rfl
theorem ixD_mem {α : Type} {xs : List α} {i : Int} {Q : α → Prop} (h0 : 0 ≤ i) (h1 : i < xs.length) (k : ∀ x, xs[i.toNat]? = some x → Q x) : Wp (ixD xs i) Q := by
  rw [ixD_get h0 h1]
  have h : i.toNat < xs.length := by omega
  exact ⟨xs[i.toNat], List.getElem?_eq_getElem h, k _ (List.getElem?_eq_getElem h)⟩
theorem ixD_in {α : Type} {xs : List α} {i : Int} {Q : α → Prop} (h0 : 0 ≤ i) (h1 : i < xs.length) (k : ∀ x ∈ xs, Q x) : Wp (ixD xs i) Q := ixD_mem h0 h1 fun x e => k x (List.mem_of_getElem? e)
theorem ixD_map {α β : Type} {f : α → β} {xs : List α} {i : Int} : ixD (xs.map f) i = (ixD xs i).map f := by
  unfold ixD atI
  rw [List.length_map]
  cases ixN xs.length i with
  | none => rfl
  | some k => rw [Option.bind_some, Option.bind_some, List.getElem?_map]
theorem cMul_l {i j : Int} (h : -18446744073709551616 < i ∧ i < 18446744073709551616) : cMul i j = true := by
  unfold cMul
  rw [decide_eq_true (show -(2 ^ 64) < i ∧ i < 2 ^ 64 by omega), Bool.true_or]
theorem cMul_r {i j : Int} (h : -18446744073709551616 < j ∧ j < 18446744073709551616) : cMul i j = true := by
  unfold cMul
  rw [decide_eq_true (show -(2 ^ 64) < j ∧ j < 2 ^ 64 by omega), Bool.or_true]
theorem bits_ediv {z : Int} {j : Int} {m : Nat} (h : Builtin.Int.intBits z ≤ m) (hj : 0 < j) : Builtin.Int.intBits (z / j) ≤ m := by
  have e := PySem.intBits_fdiv_le (y := j) h
  rwa [Int.fdiv_eq_ediv_of_nonneg z (by omega)] at e
/-! ### evaluation on a known list of slots -/
section
variable {f g h : Ex} {u v : Sx} {s : Sl} {r : En} {fs : Exs} {i j l n : Nat} {d : D}
def gtS : Option Sl → Option O
  | some (.shr o) => some o
  | some (.own o) => some o
  | _ => none
theorem gtS1 {o : O} : gtS (some (.shr o)) = some o := rfl
theorem gtS2 {o : O} : gtS (some (.own o)) = some o := rfl
theorem r_var : eVar i (s :: r) = gtS (s :: r)[i]? := by
  unfold eVar gtS
  rfl
theorem r_dat : eDat i (s :: r) = (gtS (s :: r)[i]?).bind fun o => (asD o).bind fun d => match (s :: r)[i]? with | some (.shr _) => some (.dat d) | _ => none := by
  unfold eDat gtS
  cases (s :: r)[i]? with
  | none => rfl
  | some l =>
    cases l with
    | un => rfl
    | shr o => cases o <;> rfl
    | own o => cases o <;> rfl
theorem r_c : eC d (s :: r) = some (.dat d) := rfl
theorem r_e2 {g : O → O → Option O} {f1 f2 : Ex} : e2 g f1 f2 (s :: r) = (f1 (s :: r)).bind fun x => (f2 (s :: r)).bind fun y => g x y := rfl
theorem r_neg : eNeg f (s :: r) = (f (s :: r)).bind fun x => (asI x).map fun i => oI (-i) := by
  unfold eNeg
  cases f (s :: r) with
  | none => rfl
  | some o => cases o <;> first | rfl | (rename_i d; cases d <;> rfl)
theorem r_nil : eNil (s :: r) = some [] := rfl
theorem r_cons : eCons f fs (s :: r) = (f (s :: r)).bind fun o => (fs (s :: r)).map fun os => o :: os := rfl
theorem r_tup : eTup fs (s :: r) = (fs (s :: r)).bind fun os => (datL os).bind fun ds => if small ds.length = true then some (.dat (.tuple ds)) else none := rfl
theorem r_lst : eLst fs (s :: r) = (fs (s :: r)).bind fun os => (datL os).bind fun ds => if small ds.length = true then some (.lst ds) else none := rfl
theorem r_frz : eFrz f (s :: r) = (f (s :: r)).bind fun o => o.data.map .dat := rfl
theorem r_call {g : List O → Option O} : eCall g fs (s :: r) = (fs (s :: r)).bind g := rfl
theorem r_fn {m : List O → Option O} : eFn n m fs (s :: r) = (fs (s :: r)).bind fun os => if os.length = n then m os else none := rfl
theorem r_sl {lo hi : Exo} : eSl f lo hi (s :: r) = (f (s :: r)).bind fun a => (lo (s :: r)).bind fun l => (hi (s :: r)).bind fun u => gSl a l u := rfl
theorem r_no : oNo (s :: r) = some none := rfl
theorem r_at : oAt f (s :: r) = (f (s :: r)).bind fun o => (asI o).map some := rfl
theorem r_lc {it : Its'} {tg : Tg} {vs : List Nat} {c : Ex} : eLc it tg vs c f (s :: r) = (it (s :: r)).bind fun ds => if small ds.length = true then (lcL tg c f (wipeE (s :: r) vs) ds).map .lst else none := rfl
theorem r_yes : eYes (s :: r) = some (oB true) := rfl
theorem r_isi {T : String} : eIsi T f (s :: r) = (f (s :: r)).bind fun o => o.data.bind fun d => if notDict d = true then some (oB (isT T d)) else none := rfl
theorem r_isi2 {T U : String} : eIsi2 T U f (s :: r) = (f (s :: r)).bind fun o => o.data.bind fun d => if notDict d = true then some (oB (isT T d || isT U d)) else none := rfl
theorem r_join : eJoin f g (s :: r) = (f (s :: r)).bind fun a => (asS a).bind fun s' => (g (s :: r)).bind fun b => (asL b).bind fun ds => (asSs ds).bind fun ys => if small ((ys.map (·.length)).sum + ys.length * s'.length) = true then some (oS (Txt.join s' ys)) else none := rfl
theorem r_lenSet : eLenSet f (s :: r) = (f (s :: r)).bind gSetLen := rfl
theorem r_dget : eDGet f g (s :: r) = (f (s :: r)).bind fun a => (g (s :: r)).bind fun b => (asDic a).bind fun c => (asD b).bind fun k => (dicGet c k).bind fun od => od.map .dat := rfl
theorem r_disp {ps : List (Ex × Ex)} : eDisp ps (s :: r) = (ePairs ps (s :: r)).bind fun l => if decide (l.length ≤ 15) = true then some (.dK (mergeD [] l)) else none := rfl
theorem r_prs1 : ePairs [] (s :: r) = some [] := rfl
theorem r_prs2 {p : Ex × Ex} {ps : List (Ex × Ex)} : ePairs (p :: ps) (s :: r) = (p.1 (s :: r)).bind fun a => (p.2 (s :: r)).bind fun b => (asD a).bind fun k => (asD b).bind fun d => (asK k).bind fun _ => (ePairs ps (s :: r)).map fun l => (k, d) :: l := rfl
theorem r_if : eIf f g h (s :: r) = (f (s :: r)).bind fun x => (asB x).bind fun b => if b = true then g (s :: r) else h (s :: r) := eIf_eq
theorem r_and : eAnd f g (s :: r) = (f (s :: r)).bind fun x => (asB x).bind fun b => if b = true then g (s :: r) else some (oB false) := eAnd_eq
theorem r_or : eOr f g (s :: r) = (f (s :: r)).bind fun x => (asB x).bind fun b => if b = true then some (oB true) else g (s :: r) := eOr_eq
theorem r_not : eNot f (s :: r) = (f (s :: r)).bind fun x => (asB x).map fun b => oB (!b) := eNot_eq
theorem r_chain {g1 g2 : O → O → Option O} {f1 f2 f3 : Ex} : eChain g1 g2 f1 f2 f3 (s :: r) = (f1 (s :: r)).bind fun x => (f2 (s :: r)).bind fun y => (g1 x y).bind fun z => (asB z).bind fun b => if b = true then (f3 (s :: r)).bind fun w => g2 y w else some (oB false) := eChain_eq
theorem q_nil : sNil (s :: r) = some (.nx (s :: r)) := rfl
theorem q_seq : sSeq u v (s :: r) = (u (s :: r)).bind fun out => match out with | .nx env' => v env' | o => some o := rfl
theorem q_if : sIf f u v (s :: r) = (f (s :: r)).bind fun x => (asB x).bind fun b => if b = true then u (s :: r) else v (s :: r) := sIf_eq
theorem q_brk : sBrk (s :: r) = some (.bk (s :: r)) := rfl
theorem q_cnt : sCnt (s :: r) = some (.ct (s :: r)) := rfl
theorem q_never : sNever (s :: r) = none := rfl
theorem q_ret : sRet f (s :: r) = (f (s :: r)).map .rt := rfl
theorem q_retN : sRetN (s :: r) = some (.rt (.dat .none)) := rfl
theorem q_retV : sRetV i (s :: r) = (match (s :: r)[i]? with | some (.own o) => some (.rt o) | some (.shr (.dat d)) => some (.rt (.dat d)) | _ => none) := rfl
theorem q_exp : sExp f (s :: r) = (f (s :: r)).map fun _ => .nx (s :: r) := rfl
theorem q_frz : sFrz i (s :: r) = (match (s :: r)[i]? with | some (.own o) => o.data.map fun d => .nx ((s :: r).set i (.shr (.dat d))) | _ => none) := rfl
theorem q_asg {tg : Tg} : sAsg tg f (s :: r) = (f (s :: r)).bind fun o => (asD o).bind fun d => (tg d (s :: r)).map .nx := rfl
theorem q_own : sOwn i f (s :: r) = (f (s :: r)).bind fun o => if i < (s :: r).length then some (.nx ((s :: r).set i (.own o))) else none := rfl
theorem q_app : sApp i f (s :: r) = (f (s :: r)).bind fun o => (asD o).bind fun d => match (s :: r)[i]? with | some (.own (.lst xs)) => if small (xs.length + 1) = true then some (.nx ((s :: r).set i (.own (.lst (xs ++ [d]))))) else none | _ => none := rfl
theorem q_setI : sSetI i f g (s :: r) = (f (s :: r)).bind fun o => (asD o).bind fun d => (g (s :: r)).bind fun b => (asI b).bind fun j => match (s :: r)[i]? with | some (.own (.lst xs)) => (ixN xs.length j).map fun n => .nx ((s :: r).set i (.own (.lst (xs.set n d)))) | _ => none := rfl
theorem q_clr : sClr i (s :: r) = (match (s :: r)[i]? with | some (.own (.lst _)) => some (.nx ((s :: r).set i (.own (.lst [])))) | _ => none) := rfl
theorem q_par : sPar i j f g (s :: r) = (f (s :: r)).bind fun o1 => (asD o1).bind fun d1 => (g (s :: r)).bind fun o2 => (asD o2).bind fun d2 => if i < (s :: r).length ∧ j < (s :: r).length then some (.nx (((s :: r).set i (.shr (.dat d1))).set j (.shr (.dat d2)))) else none := rfl
theorem q_for {tg : Tg} {it : Its'} : sFor tg it u (s :: r) = (it (s :: r)).bind fun ds => forL tg u ds (s :: r) := rfl
theorem t_n : tgN i d (s :: r) = if i < (s :: r).length then some ((s :: r).set i (.shr (.dat d))) else none := rfl
theorem t_2 {x y : D} : tg2 i j (.tuple [x, y]) (s :: r) = if i < (s :: r).length ∧ j < (s :: r).length then some (((s :: r).set i (.shr (.dat x))).set j (.shr (.dat y))) else none := rfl
theorem t_3 {x y z : D} : tg3 i j l (.tuple [x, y, z]) (s :: r) = if i < (s :: r).length ∧ j < (s :: r).length ∧ l < (s :: r).length then some ((((s :: r).set i (.shr (.dat x))).set j (.shr (.dat y))).set l (.shr (.dat z))) else none := rfl
theorem i_e : itE f (s :: r) = (f (s :: r)).bind fun o => (asD o).bind itD := rfl
theorem i_v : itV i (s :: r) = (match (s :: r)[i]? with | some (.shr o) => itO o | _ => none) := rfl
theorem i_r : itR f (s :: r) = (f (s :: r)).bind fun o => (asI o).bind fun n => if decide (-100000000 ≤ n ∧ n ≤ 100000000) = true then some ((List.range n.toNat).map fun i => .int (i : Nat)) else none := by
  unfold itR
  cases f (s :: r) with
  | none => rfl
  | some o => cases o <;> first | rfl | (rename_i d; cases d <;> rfl)
theorem i_en : itEn i (s :: r) = (match (s :: r)[i]? with | some (.shr o) => (asL o).map fun xs => xs.mapIdx fun i d => .tuple [.int i, d] | _ => none) := by
  unfold itEn
  cases (s :: r)[i]? with
  | none => rfl
  | some l =>
    cases l with
    | un => rfl
    | shr o => cases o <;> first | rfl | (rename_i d; cases d <;> rfl)
    | own o => rfl
theorem i_zip : itZip i j (s :: r) = (match (s :: r)[i]?, (s :: r)[j]? with
  | some (.shr a), some (.shr b) => (match asL a, asL b with
    | some xs, some ys => if zok xs ys = true then some (zipD xs ys) else none
    | _, _ => match a, b with
      | .dat (.tuple xs), .dat (.tuple ys) => if zok xs ys = true then some (zipD xs ys) else none
      | _, _ => none)
  | _, _ => none) := rfl
theorem w_nil : wipeE r [] = r := rfl
theorem w_cons {x : Nat} {vs : List Nat} : wipeE r (x :: vs) = (wipeE r vs).set x .un := rfl
theorem e_0 {os : List O} : env0 n os = os.map .shr ++ List.replicate (n - os.length) .un := rfl
end
/-! ### values -/
section
variable {i j : Int} {x y : Str} {xs ys : List D} {ns : List Int} {b c : Bool} {d e : D} {o p : O}
theorem a_i : asI (oI i) = some i := rfl
theorem a_s : asS (oS x) = some x := rfl
theorem a_b : asB (oB b) = some b := rfl
theorem a_l1 : asL (.dat (.list xs)) = some xs := rfl
theorem a_l2 : asL (.lst xs) = some xs := rfl
theorem a_l3 : asL (.dat (.tuple xs)) = none := rfl
theorem a_t : asT (.dat (.tuple xs)) = some xs := rfl
theorem a_d : asD (.dat d) = some d := rfl
theorem a_dd : (O.dat d).data = some d := rfl
theorem a_dl : (O.lst xs).data = some (.list xs) := rfl
theorem a_dk {kvs : List (D × D)} : (O.dK kvs).data = some (.dict kvs) := rfl
theorem a_k1 : asK (.str x) = some (.inr x) := rfl
theorem a_k2 : asK (.int i) = some (.inl i) := rfl
theorem cut1 : cutD [d] (some 1) none = [] := rfl
theorem cut2 : cutD [d, e] (some 1) none = [e] := rfl
theorem sne1 : (("send" : Str) = "end") = False := eq_false (by decide +kernel)
theorem sne2 : (("get" : Str) = "end") = False := eq_false (by decide +kernel)
theorem sne3 : (("send" : Str) = "get") = False := eq_false (by decide +kernel)
theorem sne4 : (("get" : Str) = "send") = False := eq_false (by decide +kernel)
theorem sne5 : (("end" : Str) = "send") = False := eq_false (by decide +kernel)
theorem sne6 : (("end" : Str) = "get") = False := eq_false (by decide +kernel)
theorem l_nil : datL [] = some [] := rfl
theorem l_cons {os : List O} : datL (.dat d :: os) = (datL os).map fun ds => d :: ds := rfl
theorem v_add : gAdd (oI i) (oI j) = some (oI (i + j)) := rfl
theorem v_cat : gAdd (.lst xs) (.lst ys) = if small (xs.length + ys.length) = true then some (.lst (xs ++ ys)) else none := by
  unfold gAdd gAddI gII gCat gCatT asI asL asT
  simp
theorem v_cat2 : gAdd (.dat (.list xs)) (.lst ys) = if small (xs.length + ys.length) = true then some (.lst (xs ++ ys)) else none := by
  unfold gAdd gAddI gII gCat gCatT asI asL asT
  simp
theorem v_cat3 : gAdd (.lst xs) (.dat (.list ys)) = if small (xs.length + ys.length) = true then some (.lst (xs ++ ys)) else none := by
  unfold gAdd gAddI gII gCat gCatT asI asL asT
  simp
theorem v_cat4 : gAdd (.dat (.list xs)) (.dat (.list ys)) = if small (xs.length + ys.length) = true then some (.lst (xs ++ ys)) else none := by
  unfold gAdd gAddI gII gCat gCatT asI asL asT
  simp
theorem v_catT : gAdd (.dat (.tuple xs)) (.dat (.tuple ys)) = if small (xs.length + ys.length) = true then some (.dat (.tuple (xs ++ ys))) else none := by
  unfold gAdd gAddI gII gCat gCatT asI asL asT
  simp
theorem v_mul : gMul (oI i) (oI j) = if cMul i j = true then some (oI (i * j)) else none := by
  unfold gMul gMulI gII gRep asI asL
  simp
theorem v_sub : gSub (oI i) (oI j) = some (oI (i - j)) := rfl
theorem v_div : gDiv (oI i) (oI j) = if 0 < j ∧ j < 1073741824 then some (oI (i / j)) else none := by
  unfold gDiv gII asI cDiv
  simp
theorem v_mod : gMod (oI i) (oI j) = if 0 < j then some (oI (i % j)) else none := by
  unfold gMod gII asI cMod
  simp
theorem v_pow : gPow (oI i) (oI j) = if cPow i j = true then some (oI (i ^ j.toNat)) else none := by
  unfold gPow gII asI
  simp
theorem v_lt : gLt (oI i) (oI j) = some (oB (decide (i < j))) := rfl
theorem v_le : gLe (oI i) (oI j) = some (oB (decide (i ≤ j))) := rfl
theorem v_gt : gGt (oI i) (oI j) = some (oB (decide (j < i))) := rfl
theorem v_ge : gGe (oI i) (oI j) = some (oB (decide (j ≤ i))) := rfl
theorem v_le' : gLe' (oI i) (oI j) = some (oB (decide (i ≤ j))) := rfl
theorem v_leS : gLe' (oS x) (oS y) = some (oB (!decide (y.cps.toList < x.cps.toList))) := rfl
theorem v_ix1 : gIx (.dat (.list xs)) (oI i) = (ixD xs i).map .dat := rfl
theorem v_ix2 : gIx (.lst xs) (oI i) = (ixD xs i).map .dat := rfl
theorem v_ix3 : gIx (.dat (.tuple xs)) (oI i) = (ixD xs i).map .dat := rfl
theorem v_ix4 : gIx (.scr ns) (oI i) = (ixD ns i).map fun n => oI n := rfl
theorem v_ix5 : gIx (oS x) (oI i) = if small x.length = true then (ixD x.cps.toList i).map fun c => oS ⟨#[c]⟩ else none := rfl
theorem ix0 : ixD (d :: xs) 0 = some d := by unfold ixD atI ixN; simp
theorem ix1 : ixD (d :: e :: xs) 1 = some e := by
  unfold ixD atI ixN
  rw [if_pos (by decide), if_pos (by simp only [List.length_cons]; omega)]
  rfl
theorem v_len1 : gLen (.dat (.list xs)) = some (oI xs.length) := rfl
theorem v_len2 : gLen (.lst xs) = some (oI xs.length) := rfl
theorem v_len3 : gLen (.dat (.tuple xs)) = some (oI xs.length) := rfl
theorem v_len4 : gLen (.scr ns) = some (oI ns.length) := rfl
theorem v_len5 : gLen (oS x) = if small x.length = true then some (oI x.length) else none := rfl
theorem v_list1 : gList (.dat (.list xs)) = some (.lst xs) := rfl
theorem v_list2 : gList (.lst xs) = some (.lst xs) := rfl
theorem v_list3 : gList (.dat (.tuple xs)) = some (.lst xs) := rfl
theorem v_tup1 : gTuple (.dat (.list xs)) = some (.dat (.tuple xs)) := rfl
theorem v_tup2 : gTuple (.lst xs) = some (.dat (.tuple xs)) := rfl
theorem v_tup3 : gTuple (.dat (.tuple xs)) = some (.dat (.tuple xs)) := rfl
theorem v_int1 : gInt (oI i) = some (oI i) := rfl
theorem v_int2 : gInt (oB b) = some (oI (if b = true then 1 else 0)) := rfl
theorem v_abs : gAbs (oI i) = some (oI (if i < 0 then -i else i)) := rfl
theorem v_min2 : gMin2 (oI i) (oI j) = some (oI (if j < i then j else i)) := rfl
theorem v_max2 : gMax2 (oI i) (oI j) = some (oI (if j > i then j else i)) := rfl
theorem v_g1 {g : O → Option O} : g1 g [o] = g o := rfl
theorem v_g2 {g : O → O → Option O} : g2 g [o, p] = g o p := rfl
theorem v_sl1 {lo hi : Option Int} : gSl (.dat (.list xs)) lo hi = some (.lst (cutD xs lo hi)) := rfl
theorem v_sl2 {lo hi : Option Int} : gSl (.lst xs) lo hi = some (.lst (cutD xs lo hi)) := rfl
theorem v_sl3 {lo hi : Option Int} : gSl (.dat (.tuple xs)) lo hi = some (.dat (.tuple (cutD xs lo hi))) := rfl
theorem eqv_ss : PyData.eqv (.str x) (.str y) = decide (x = y) := eqv_key (.inr x) (.inr y) |>.trans (by simp)
theorem eqv_ii : PyData.eqv (.int i) (.int j) = decide (i = j) := eqv_key (.inl i) (.inl j) |>.trans (by simp)
theorem v_eqS : gEq (oS x) (oS y) = some (oB (decide (x = y))) := by
  rw [← eqv_ss]; rfl
theorem v_eqI : gEq (oI i) (oI j) = some (oB (decide (i = j))) := by
  rw [← eqv_ii]; rfl
theorem v_neS : gNe (oS x) (oS y) = some (oB (!decide (x = y))) := by
  rw [← eqv_ss]; rfl
theorem v_neI : gNe (oI i) (oI j) = some (oB (!decide (i = j))) := by
  rw [← eqv_ii]; rfl
theorem eqv_bb : PyData.eqv (.bool b) (.bool c) = (b == c) := by cases b <;> cases c <;> decide
theorem v_eqB : gEq (oB b) (oB c) = some (oB (b == c)) := by
  rw [← eqv_bb]; rfl
theorem v_neB : gNe (oB b) (oB c) = some (oB (!(b == c))) := by
  rw [← eqv_bb]; rfl
theorem v_inS {k : Nat} : gInS (oS ⟨#[k]⟩) (oS y) = some (oB (decide (k ∈ y.cps.toList))) := rfl
theorem v_notInS {k : Nat} : gNotInS (oS ⟨#[k]⟩) (oS y) = some (oB (!decide (k ∈ y.cps.toList))) := rfl
theorem v_isN : gIsN (.dat d) (.dat .none) = some (oB (isN d)) := rfl
theorem v_notN : gNotN (.dat d) (.dat .none) = some (oB (!isN d)) := rfl
theorem it1 : itO (.dat d) = itD d := rfl
theorem it2 : itO (.lst xs) = some xs := rfl
theorem it3 : itO (.scr ns) = some (ns.map .int) := rfl
theorem it4 : itD (.list xs) = some xs := rfl
theorem it5 : itD (.tuple xs) = some xs := rfl
theorem it6 : itD (.str x) = some (x.cps.toList.map fun c => .str ⟨#[c]⟩) := rfl
theorem nd1 : notDict (.list xs) = true := rfl
theorem nd2 : notDict (.tuple xs) = true := rfl
theorem nd3 : notDict (.str x) = true := rfl
theorem nd4 : notDict (.int i) = true := rfl
theorem nd5 : notDict (.bool b) = true := rfl
theorem nd6 : notDict .none = true := rfl
theorem ty1 : isT "list" (.list xs) = true := by unfold isT; rfl
theorem ty2 : isT "tuple" (.list xs) = false := by unfold isT; rfl
theorem ty3 : isT "list" (.tuple xs) = false := by unfold isT; rfl
theorem ty4 : isT "tuple" (.tuple xs) = true := by unfold isT; rfl
theorem ty5 : isT "str" (.str x) = true := by unfold isT; rfl
theorem ty6 : isT "int" (.int i) = true := by unfold isT; rfl
theorem ty7 : isT "bool" (.int i) = false := by unfold isT; rfl
theorem ty8 : isT "list" (.str x) = false := by unfold isT; rfl
theorem ty9 : isT "tuple" (.str x) = false := by unfold isT; rfl
theorem ty10 : isT "list" (.int i) = false := by unfold isT; rfl
theorem ty11 : isT "tuple" (.int i) = false := by unfold isT; rfl
theorem ty12 : isT "bool" (.str x) = false := by unfold isT; rfl
theorem ty13 : isT "str" (.int i) = false := by unfold isT; rfl
theorem ty14 : isT "int" (.bool b) = true := by unfold isT; rfl
theorem ty15 : isT "bool" (.bool b) = true := by unfold isT; rfl
theorem ty16 : isT "str" (.bool b) = false := by unfold isT; rfl
theorem ty17 : isT "list" (.bool b) = false := by unfold isT; rfl
theorem ty18 : isT "tuple" (.bool b) = false := by unfold isT; rfl
theorem ty19 : isT "str" .none = false := by unfold isT; rfl
theorem ty20 : isT "list" .none = false := by unfold isT; rfl
theorem ty21 : isT "tuple" .none = false := by unfold isT; rfl
theorem ty22 : isT "bool" .none = false := by unfold isT; rfl
theorem ty23 : isT "int" .none = false := by unfold isT; rfl
theorem ty24 : isT "str" (.tuple xs) = false := by unfold isT; rfl
theorem ty25 : isT "str" (.list xs) = false := by unfold isT; rfl
theorem ty26 : isT "bool" (.tuple xs) = false := by unfold isT; rfl
theorem ty27 : isT "bool" (.list xs) = false := by unfold isT; rfl
theorem ty28 : isT "int" (.tuple xs) = false := by unfold isT; rfl
theorem ty29 : isT "int" (.list xs) = false := by unfold isT; rfl
theorem ty30 : isT "int" (.str x) = false := by unfold isT; rfl
theorem nf_0 : needF [] = false := rfl
theorem nf_s : needF (.str x :: xs) = false := rfl
theorem nf_i : needF (.int i :: xs) = false := rfl
theorem nf_n : needF (.none :: xs) = false := rfl
theorem nf_b : needF (.bool b :: xs) = false := rfl
theorem nf_l : needF (.list ys :: xs) = false := rfl
theorem nf_d {kvs : List (D × D)} : needF (.dict kvs :: xs) = false := rfl
theorem nf_t1 : needF (.tuple [d] :: xs) = false := by cases d <;> rfl
theorem nf_t2 : needF (.tuple (.tuple ys :: xs) :: xs) = false := by cases xs <;> rfl
theorem nf_t3 : needF (.tuple [.str x, .tuple ys] :: xs) = false := rfl
theorem cnd {c A : Prop} : ((c → A) ∧ c) = (c ∧ A) := propext ⟨fun h => ⟨h.2, h.1 h.2⟩, fun h => ⟨fun _ => h.2, h.1⟩⟩
theorem sm {n : Nat} : (small n = true) = (n ≤ 1000000) := by unfold small; exact propext decide_eq_true_iff
end
/-! ### more forms -/
section
variable {f g h : Ex} {u v : Sx} {s : Sl} {r : En} {i j l n : Nat} {d : D}
theorem r_din : eDIn f g (s :: r) = (f (s :: r)).bind fun a => (g (s :: r)).bind fun b => (asD a).bind fun k => (asDic b).bind fun c => (dicGet c k).map fun od => oB od.isSome := rfl
theorem r_dnin : eDNotIn f g (s :: r) = (f (s :: r)).bind fun a => (g (s :: r)).bind fun b => (asD a).bind fun k => (asDic b).bind fun c => (dicGet c k).map fun od => oB (!od.isSome) := rfl
theorem r_dispT : eDispT f g (s :: r) = (f (s :: r)).bind fun o1 => (asT o1).bind fun ds => (asKs ds).bind fun _ => (g (s :: r)).bind fun o2 => (asD o2).map fun d => .dT [(.tuple ds, d)] := rfl
theorem q_while {c : Ex} : sWhile c u (s :: r) = whileL c u fuel (s :: r) := rfl
theorem q_dput : sDPut i f g (s :: r) = (f (s :: r)).bind fun o => (asD o).bind fun d => (g (s :: r)).bind fun b => (asD b).bind fun k => match (s :: r)[i]? with | some (.own c) => (dput c k d).map fun c' => .nx ((s :: r).set i (.own c')) | _ => none := rfl
theorem q_popX : sPopX i g (s :: r) = (g (s :: r)).bind fun b => (asI b).bind fun j => match (s :: r)[i]? with | some (.own (.lst xs)) => if decide (-(2 ^ 63) ≤ j ∧ j < 2 ^ 63) = true then (ixN xs.length j).map fun n => .nx ((s :: r).set i (.own (.lst (xs.eraseIdx n)))) else none | _ => none := rfl
theorem a_dT {kvs : List (D × D)} : asDic (.dT kvs) = some (.t kvs) := rfl
theorem a_dK {kvs : List (D × D)} : asDic (.dK kvs) = some (.k kvs) := rfl
theorem a_ddT {kvs : List (D × D)} : (O.dT kvs).data = some (.dict ((.none, .none) :: kvs)) := rfl
theorem a_dicT {kvs : List (D × D)} : asDic (.dat (.dict ((.none, .none) :: kvs))) = some (.t kvs) := rfl
theorem a_ks0 : asKs [] = some [] := rfl
theorem a_ksI {i : Int} {ds : List D} : asKs (.int i :: ds) = (asKs ds).map fun l => .inl i :: l := rfl
theorem a_ksS {x : Str} {ds : List D} : asKs (.str x :: ds) = (asKs ds).map fun l => .inr x :: l := rfl
theorem d_dT {kvs : List (D × D)} {ds : List D} : dput (.dT kvs) (.tuple ds) d = (asKs ds).bind fun _ => if small (kvs.length + 1) = true then some (.dT (putD kvs (.tuple ds) d)) else none := rfl
theorem g_t {kvs : List (D × D)} {ds : List D} : dicGet (.t kvs) (.tuple ds) = (asKs ds).map fun _ => getD kvs (.tuple ds) := rfl
theorem g_k {kvs : List (D × D)} {k : D} : dicGet (.k kvs) k = (asK k).map fun _ => getD kvs k := rfl
end
theorem wp_while {c : Ex} {body : Sx} {Q : Out → Prop} (I : Nat → En → Prop) (h : ∀ k e, I k e → Wp (c e) fun o => ∃ b, o = oB b ∧ if b = true then Wp (body e) (fun out => match out with
      | .nx e' => ∃ k', k' < k ∧ I k' e'
      | .ct e' => ∃ k', k' < k ∧ I k' e'
      | .bk e' => Q (.nx e')
      | .rt o => Q (.rt o)) else Q (.nx e)) : ∀ (n k : Nat) (env : En), k < n → I k env → Wp (whileL c body n env) Q
  | 0, k, _, hk, _ => absurd hk (Nat.not_lt_zero _)
  | n + 1, k, env, hk, i => by
    obtain ⟨o, e, b, rfl, q⟩ := h k env i
    unfold whileL
    rw [e, Option.bind_some]
    cases b with
    | false => exact ⟨_, rfl, q⟩
    | true =>
      obtain ⟨out, e2, q⟩ := (show Wp (body env) _ from q)
      show Wp ((body env).bind _) Q
      rw [e2, Option.bind_some]
      cases out with
      | nx e' => obtain ⟨k', hk', i'⟩ := q; exact wp_while I h n k' e' (by omega) i'
      | ct e' => obtain ⟨k', hk', i'⟩ := q; exact wp_while I h n k' e' (by omega) i'
      | bk e' => exact ⟨_, rfl, q⟩
      | rt o => exact ⟨_, rfl, q⟩
section
variable {f g h : Ex} {s : Sl} {r : En} {i : Nat} {fl : Exl}
theorem r_lls : eLls fl (s :: r) = (fl (s :: r)).bind fun l => if small l.length = true then some (.lls l) else none := rfl
theorem r_lNil : lNil (s :: r) = some [] := rfl
theorem r_lCons : lCons f fl (s :: r) = (f (s :: r)).bind fun o => match o with | .lst xs => (fl (s :: r)).map fun l => xs :: l | _ => none := rfl
theorem q_setL : sSetL i f g h (s :: r) = (f (s :: r)).bind fun o => (asD o).bind fun d => (g (s :: r)).bind fun bj => (asI bj).bind fun j => (h (s :: r)).bind fun bk => (asI bk).bind fun k => match (s :: r)[i]? with | some (.own (.lls xss)) => (setLL xss j k d).map fun xss' => .nx ((s :: r).set i (.own (.lls xss'))) | _ => none := rfl
theorem r_ixL : eIxL f g (s :: r) = (f (s :: r)).bind fun a => (g (s :: r)).bind fun b => (asI b).bind fun i => match a with | .lls xss => (ixD xss i).map .lst | _ => none := rfl
theorem a_lls {xss : List (List D)} : (O.lls xss).data = some (.list (xss.map .list)) := rfl
theorem ix0' {α : Type} {x : α} {xs : List α} : ixD (x :: xs) 0 = some x := by unfold ixD atI ixN; simp
theorem ix1' {α : Type} {x y : α} {xs : List α} : ixD (x :: y :: xs) 1 = some y := by
  unfold ixD atI ixN
  rw [if_pos (by decide), if_pos (by simp only [List.length_cons]; omega)]
  rfl
end
theorem i_keys {f : Ex} {s : Sl} {r : En} : itKeys f (s :: r) = (f (s :: r)).bind fun o => match o with | .dat (.dict kvs) => some (keysD kvs) | _ => none := rfl
theorem r_newK {s : Sl} {r : En} : eNewK (s :: r) = some (.dK []) := rfl
theorem r_fnO {n : Nat} {m : List O → Option O} {fs : Exs} {s : Sl} {r : En} : eFnO n m fs (s :: r) = (fs (s :: r)).bind fun os => if os.length = n ∧ os.all noFlO = true then (m os).bind unfl else none := rfl
theorem q_popA {i : Nat} {g : Ex} {tg : Tg} {s : Sl} {r : En} : sPopA i g tg (s :: r) = (g (s :: r)).bind fun b => (asI b).bind fun j => match (s :: r)[i]? with | some (.own (.lst xs)) => if decide (-(2 ^ 63) ≤ j ∧ j < 2 ^ 63) = true then (ixN xs.length j).bind fun n => (xs[n]?).bind fun d => (tg d ((s :: r).set i (.own (.lst (xs.eraseIdx n))))).map .nx else none | _ => none := rfl
theorem r_sortSetI {f : Ex} {s : Sl} {r : En} : eSortSetI f (s :: r) = (f (s :: r)).bind gSortSetI := rfl
theorem r_sortSet {f : Ex} {s : Sl} {r : En} : eSortSet f (s :: r) = (f (s :: r)).bind gSortSet := rfl
theorem r_dget1 {f g : Ex} {s : Sl} {r : En} : eDGet1 f g (s :: r) = (f (s :: r)).bind fun a => (g (s :: r)).bind fun b => (asDic a).bind fun c => (asD b).bind fun k => (dicGet c k).map fun od => .dat (od.getD .none) := rfl
theorem q_popT {i : Nat} {tg : Tg} {s : Sl} {r : En} : sPopT i tg (s :: r) = match (s :: r)[i]? with | some (.own (.lst xs)) => (xs[xs.length - 1]?).bind fun d => (tg d ((s :: r).set i (.own (.lst xs.dropLast)))).map .nx | _ => none := rfl
theorem r_index {f g : Ex} {s : Sl} {r : En} : eIndex f g (s :: r) = (f (s :: r)).bind fun a => (g (s :: r)).bind fun b => gIndex a b := rfl
theorem r_listR {f : Ex} {s : Sl} {r : En} : eListR f (s :: r) = (f (s :: r)).bind fun o => (asI o).bind fun n => if decide (0 ≤ n ∧ n ≤ 1000000) = true then some (.lst ((List.range n.toNat).map fun i => .int (i : Nat))) else none := rfl
theorem v_lenT {kvs : List (D × D)} : gLenT (.dT kvs) = some (oI kvs.length) := rfl
theorem sne7 : (("end" : Str) = "end") = True := eq_self _
def XR0 := And.intro @q_popA (And.intro @r_sortSetI (And.intro @r_sortSet (And.intro @r_dget1 (And.intro @q_popT (And.intro @wp_if (And.intro @i_keys (And.intro @r_newK (And.intro @r_lls (And.intro @r_lNil (And.intro @r_lCons (And.intro @q_setL (And.intro @r_ixL (And.intro @a_lls (And.intro @ix0' (And.intro @ix1' (And.intro @r_din (And.intro @r_dnin (And.intro @r_dispT (And.intro @q_while (And.intro @q_dput (And.intro @q_popX (And.intro @a_dT (And.intro @a_dK (And.intro @a_ddT (And.intro @a_dicT (And.intro @a_ks0 (And.intro @a_ksI (And.intro @a_ksS (And.intro @d_dT (And.intro @g_t (And.intro @wp_some (And.intro @wp_none (And.intro @wp_bind (And.intro @wp_map (And.intro @wp_runB (And.intro @gtS1 (And.intro @gtS2 (And.intro @r_var (And.intro @r_dat (And.intro @r_c (And.intro @r_e2 (And.intro @r_neg (And.intro @r_nil (And.intro @r_cons (And.intro @r_tup (And.intro @r_lst (And.intro @r_frz (And.intro @r_call (And.intro @r_fn (And.intro @r_sl (And.intro @r_no (And.intro @r_at (And.intro @r_lc (And.intro @r_yes (And.intro @r_isi (And.intro @r_isi2 (And.intro @r_join (And.intro @r_lenSet (And.intro @r_dget (And.intro @r_disp (And.intro @r_prs1 (And.intro @r_prs2 (And.intro @r_if (And.intro @r_and (And.intro @r_or (And.intro @r_not (And.intro @r_chain (And.intro @q_nil (And.intro @q_seq (And.intro @q_if (And.intro @q_brk (And.intro @q_cnt (And.intro @q_never (And.intro @q_ret (And.intro @q_retN (And.intro @q_retV (And.intro @q_exp (And.intro @q_frz (And.intro @q_asg (And.intro @q_own (And.intro @q_app (And.intro @q_setI (And.intro @q_clr (And.intro @q_par (And.intro @q_for (And.intro @t_n (And.intro @t_2 (And.intro @t_3 (And.intro @i_e (And.intro @i_v (And.intro @i_r (And.intro @i_en (And.intro @i_zip (And.intro @w_nil (And.intro @w_cons (And.intro @e_0 (And.intro @a_i (And.intro @a_s (And.intro @a_b (And.intro @a_l1 (And.intro @a_l2 (And.intro @a_l3 (And.intro @a_t (And.intro @a_d (And.intro @a_dd (And.intro @a_dl (And.intro @a_dk (And.intro @l_nil (And.intro @l_cons (And.intro @v_add (And.intro @v_cat (And.intro @v_cat2 (And.intro @v_cat3 (And.intro @v_cat4 (And.intro @v_catT (And.intro @v_mul (And.intro @v_sub (And.intro @v_div (And.intro @v_mod (And.intro @v_pow (And.intro @v_lt (And.intro @v_le (And.intro @v_gt (And.intro @v_ge (And.intro @v_le' (And.intro @v_leS (And.intro @v_ix1 (And.intro @v_ix2 (And.intro @v_ix3 (And.intro @v_ix4 (And.intro @v_ix5 (And.intro @ix0 (And.intro @ix1 (And.intro @v_len1 (And.intro @v_len2 (And.intro @v_len3 (And.intro @v_len4 (And.intro @v_len5 (And.intro @v_list1 (And.intro @v_list2 (And.intro @v_list3 (And.intro @v_tup1 (And.intro @v_tup2 (And.intro @v_tup3 (And.intro @v_int1 (And.intro @v_int2 (And.intro @v_abs (And.intro @v_min2 (And.intro @v_max2 (And.intro @v_g1 (And.intro @v_g2 (And.intro @v_sl1 (And.intro @v_sl2 (And.intro @v_sl3 (And.intro @eqv_ss (And.intro @eqv_ii (And.intro @v_eqS (And.intro @v_eqI (And.intro @v_neS (And.intro @v_neI (And.intro @v_eqB (And.intro @v_neB (And.intro @v_inS (And.intro @v_notInS (And.intro @v_isN (And.intro @v_notN (And.intro @it1 (And.intro @it2 (And.intro @it3 (And.intro @it4 (And.intro @it5 (And.intro @it6 (And.intro @nd1 (And.intro @nd2 (And.intro @nd3 (And.intro @nd4 (And.intro @nd5 (And.intro @nd6 (And.intro @ty1 (And.intro @ty2 (And.intro @ty3 (And.intro @ty4 (And.intro @ty5 (And.intro @ty6 (And.intro @ty7 (And.intro @ty8 (And.intro @ty9 (And.intro @ty10 (And.intro @ty11 (And.intro @ty12 (And.intro @ty13 (And.intro @ty14 (And.intro @ty15 (And.intro @ty16 (And.intro @ty17 (And.intro @ty18 (And.intro @ty19 (And.intro @ty20 (And.intro @ty21 (And.intro @ty22 (And.intro @ty23 (And.intro @ty24 (And.intro @ty25 (And.intro @ty26 (And.intro @ty27 (And.intro @ty28 (And.intro @ty29 (And.intro @ty30 (And.intro @ixD_map (And.intro @a_k1 (And.intro @a_k2 (And.intro @cut1 (And.intro @cut2 (And.intro @sne1 (And.intro @sne2 (And.intro @sne3 (And.intro @sne4 (And.intro @sne5 (And.intro @sne6 (And.intro @nf_0 (And.intro @nf_s (And.intro @nf_i (And.intro @nf_n (And.intro @nf_b (And.intro @nf_l (And.intro @nf_d (And.intro @nf_t1 (And.intro @nf_t3 (And.intro @cnd (And.intro @sm @wp_ifn))))))))))))))))))))))))))))))))))))))))))))))))))))))))))))))))))))))))))))))))))))))))))))))))))))))))))))))))))))))))))))))))))))))))))))))))))))))))))))))))))))))))))))))))))))))))))))))))))))))))))))))))))))))))))))))))))))))
def XR := And.intro (And.intro XR0 (And.intro @r_index (And.intro @r_listR @v_lenT))) (And.intro @cMul_l @cMul_r)

end TP

namespace TP
open PySem PySem.Spec PyProof.Rows L2
/-- is_whole: 0 thing, -/
def B_is_whole : Sx := sRet (eAnd (eIsi "int" (eVar 0)) (eNot (eIsi "bool" (eVar 0))))

def M_is_whole : List O → Option O := runB 1 (B_is_whole)

/-- is_word: 0 thing, 1 sign, -/
def B_is_word : Sx := sSeq (sIf (eOr (eNot (eIsi "str" (eVar 0))) (eNot (eChain gLe' gLe' (eC (.int 1)) (eCall (g1 gLen) (eCons (eVar 0) (eNil))) (eC (.int 8))))) (sRet (eC (.bool false))) (sNil)) (sRet (eCall (g1 gAll) (eCons (eLc (itV 0) (tgN 1) [1] (eYes) (e2 gInS (eVar 1) (eC (.str "abcdefghijklmnopqrstuvwxyz")))) (eNil))))

def M_is_word : List O → Option O := runB 2 (B_is_word)

/-- ways_of: 0 stop, -/
def B_ways_of : Sx := sSeq (sIf (e2 gEq (e2 gIx (eVar 0) (eC (.int 0))) (eC (.str "end"))) (sRet (eTup (eNil))) (sNil)) (sRet (e2 gIx (eVar 0) (eC (.int 1))))

def M_ways_of : List O → Option O := runB 1 (B_ways_of)

/-- law_cell_at: 0 _law_script, 1 _law_k, -/
def B_law_cell_at : Sx := sSeq (sIf (e2 gLt (eVar 1) (eCall (g1 gLen) (eCons (eVar 0) (eNil)))) (sRet (e2 gIx (eVar 0) (eVar 1))) (sNil)) (sRet (eC (.int 0)))

def M_law_cell_at : List O → Option O := runB 2 (B_law_cell_at)

/-- law_mixed: 0 _law_cell, 1 _law_k, -/
def B_law_mixed : Sx := sRet (e2 gMod (e2 gMul (e2 gPow (e2 gAdd (e2 gAdd (eVar 0) (e2 gMul (eC (.int 7919)) (eVar 1))) (eC (.int 11))) (eC (.int 3))) (eC (.int 69621))) (eC (.int 2147483647)))

def M_law_mixed : List O → Option O := runB 2 (B_law_mixed)

/-- law_ways: 0 _law_stop, -/
def B_law_ways : Sx := sSeq (sIf (e2 gEq (e2 gIx (eVar 0) (eC (.int 0))) (eC (.str "end"))) (sRet (eNewK)) (sNil)) (sRet (eCall (g1 gDict) (eCons (e2 gIx (eVar 0) (eC (.int 1))) (eNil))))

def M_law_ways : List O → Option O := runB 1 (B_law_ways)

def L_law_is_plan_1 : Sx := sSeq (sIf (eOr (eNot (eIsi "tuple" (eVar 1))) (e2 gNotInA (e2 gIx (eVar 1) (eC (.int 0))) (eTup (eCons (eC (.str "end")) (eCons (eC (.str "send")) (eCons (eC (.str "get")) (eNil))))))) (sRet (eC (.bool false))) (sNil)) (sSeq (sIf (e2 gNe (eCall (g1 gLen) (eCons (eVar 1) (eNil))) (e2 gSub (eC (.int 2)) (eCall (g1 gInt) (eCons (e2 gEq (e2 gIx (eVar 1) (eC (.int 0))) (eC (.str "end"))) (eNil))))) (sRet (eC (.bool false))) (sNil)) (sSeq (sAsg (tgN 2) (eIf (e2 gNe (e2 gIx (eVar 1) (eC (.int 0))) (eC (.str "end"))) (e2 gIx (eVar 1) (eC (.int 1))) (eTup (eNil)))) (sSeq (sIf (eOr (eNot (eIsi "tuple" (eVar 2))) (e2 gGt (eCall (g1 gLen) (eCons (eLc (itV 2) (tgN 3) [3] (eNot (eIsi "tuple" (eVar 3))) (eDat 3)) (eNil))) (eC (.int 0)))) (sRet (eC (.bool false))) (sNil)) (sSeq (sIf (e2 gGt (eCall (g1 gLen) (eCons (eLc (itV 2) (tgN 3) [3] (e2 gNe (eCall (g1 gLen) (eCons (eVar 3) (eNil))) (eC (.int 2))) (eDat 3)) (eNil))) (eC (.int 0))) (sRet (eC (.bool false))) (sNil)) (sSeq (sIf (e2 gNe (eLc (itV 2) (tgN 3) [3] (eOr (eIsi "bool" (e2 gIx (eVar 3) (eC (.int 1)))) (eNot (eChain gLe' gLt (eC (.int 0)) (e2 gIx (eVar 3) (eC (.int 1))) (eCall (g1 gLen) (eCons (eVar 0) (eNil)))))) (eDat 3)) (eLst (eNil))) (sRet (eC (.bool false))) (sNil)) (sIf (e2 gNe (eLc (itV 2) (tgN 3) [3] (eYes) (e2 gIx (eVar 3) (eC (.int 0)))) (eSortSet (eLc (itV 2) (tgN 3) [3] (eYes) (e2 gIx (eVar 3) (eC (.int 0)))))) (sRet (eC (.bool false))) (sNil)))))))

/-- law_is_plan: 0 _law_plan_here, 1 _law_stop, 2 _law_ways_here, 3 _law_way, -/
def B_law_is_plan : Sx := sSeq (sIf (eOr (eNot (eIsi "list" (eVar 0))) (eNot (eChain gLe' gLe' (eC (.int 1)) (eCall (g1 gLen) (eCons (eVar 0) (eNil))) (eC (.int 12))))) (sRet (eC (.bool false))) (sNil)) (sSeq (sFor (tgN 1) (itV 0) (L_law_is_plan_1)) (sRet (eC (.bool true))))

def M_law_is_plan : List O → Option O := runB 4 (B_law_is_plan)

def L_law_order_1 : Sx := sIf (e2 gNotInA (eVar 4) (eVar 1)) (sApp 1 (eDat 4)) (sNil)

def L_law_order_2 : Sx := sIf (eAnd (e2 gLt (eVar 2) (eCall (g1 gLen) (eCons (eVar 1) (eNil)))) (e2 gNe (e2 gIx (e2 gIx (eVar 0) (e2 gIx (eVar 1) (eVar 2))) (eC (.int 0))) (eC (.str "end")))) (sFor (tg2 3 4) (itE (e2 gIx (e2 gIx (eVar 0) (e2 gIx (eVar 1) (eVar 2))) (eC (.int 1)))) (L_law_order_1)) (sNil)

/-- law_order: 0 _law_plan_here, 1 _law_found, 2 _law_turn, 3 _law_word, 4 _law_goal_here, -/
def B_law_order : Sx := sSeq (sOwn 1 (eLst (eCons (eC (.int 0)) (eNil)))) (sSeq (sFor (tgN 2) (itR (eCall (g1 gLen) (eCons (eVar 0) (eNil)))) (L_law_order_2)) (sRetV 1))

def M_law_order : List O → Option O := runB 5 (B_law_order)

/-- is_place: 0 thing, 1 many, -/
def B_is_place (M_is_whole : List O → Option O) : Sx := sRet (eAnd (eFn 1 M_is_whole (eCons (eVar 0) (eNil))) (eChain gLe' gLt (eC (.int 0)) (eVar 0) (eVar 1)))

def M_is_place : List O → Option O := runB 2 (B_is_place M_is_whole)

def L_reached_1 (M_ways_of : List O → Option O) : Sx := sIf (e2 gNotInA (eVar 4) (eVar 1)) (sApp 1 (eDat 4)) (sNil)

def L_reached_2 (M_ways_of : List O → Option O) : Sx := sSeq (sFor (tg2 3 4) (itE (eFn 1 M_ways_of (eCons (e2 gIx (eVar 0) (e2 gIx (eVar 1) (eVar 2))) (eNil)))) (L_reached_1 M_ways_of)) (sAsg (tgN 2) (e2 gAdd (eVar 2) (eC (.int 1))))

/-- reached: 0 plan, 1 found, 2 at, 3 word, 4 goal, -/
def B_reached (M_ways_of : List O → Option O) : Sx := sSeq (sOwn 1 (eLst (eCons (eC (.int 0)) (eNil)))) (sSeq (sAsg (tgN 2) (eC (.int 0))) (sSeq (sWhile (e2 gLt (eVar 2) (eCall (g1 gLen) (eCons (eVar 1) (eNil)))) (L_reached_2 M_ways_of)) (sRetV 1)))

def M_reached : List O → Option O := runB 5 (B_reached M_ways_of)

def L_grouped_1 (M_ways_of : List O → Option O) : Sx := sApp 3 (eTup (eCons (e2 gIx (eVar 1) (eVar 4)) (eCons (e2 gIx (eVar 5) (eC (.int 0))) (eCons (eCall (g1 gTuple) (eCons (eLc (itE (eFn 1 M_ways_of (eCons (eVar 5) (eNil)))) (tg2 6 7) [6, 7] (eYes) (eTup (eCons (eDat 6) (eCons (e2 gIx (eVar 1) (eVar 7)) (eNil))))) (eNil))) (eNil)))))

def L_grouped_2 (M_ways_of : List O → Option O) : Sx := sSeq (sAsg (tgN 2) (eLenSet (eVar 1))) (sSeq (sOwn 3 (eLst (eNil))) (sSeq (sFor (tg2 4 5) (itEn 0) (L_grouped_1 M_ways_of)) (sSeq (sFrz 3) (sAsg (tgN 1) (eFrz (eLc (itV 3) (tgN 8) [8] (eYes) (eIndex (eVar 3) (eVar 8))))))))

/-- grouped: 0 plan, 1 least, 2 many, 3 told, 4 at, 5 stop, 6 word, 7 goal, 8 one, -/
def B_grouped (M_ways_of : List O → Option O) : Sx := sSeq (sAsg (tgN 1) (eFrz (eLc (itV 0) (tgN 5) [5] (eYes) (eC (.int 0))))) (sSeq (sAsg (tgN 2) (eC (.int 0))) (sSeq (sWhile (e2 gGt (eLenSet (eVar 1)) (eVar 2)) (L_grouped_2 M_ways_of)) (sRetV 1)))

def M_grouped : List O → Option O := runB 9 (B_grouped M_ways_of)

def L_law_words_1 (M_law_mixed : List O → Option O) : Sx := sSeq (sOwn 5 (eLc (itR (eVar 2)) (tgN 8) [8] (eYes) (e2 gIx (eVar 1) (e2 gMod (e2 gAdd (e2 gDiv (eVar 0) (eC (.int 24))) (e2 gMul (eC (.int 5)) (eVar 8))) (eC (.int 26)))))) (sSeq (sAsg (tgN 6) (e2 gMod (e2 gDiv (eVar 0) (eC (.int 5))) (eVar 2))) (sSeq (sSetI 5 (e2 gIx (eVar 1) (e2 gMod (e2 gAdd (e2 gDiv (eVar 0) (eC (.int 7))) (e2 gMul (eC (.int 4)) (eVar 4))) (eC (.int 26)))) (eVar 6)) (sSeq (sAsg (tgN 7) (eJoin (eC (.str "")) (eVar 5))) (sSeq (sIf (e2 gEq (e2 gMod (eVar 0) (eC (.int 3))) (eC (.int 1))) (sAsg (tgN 7) (eJoin (eC (.str "")) (eLc (itR (e2 gAdd (e2 gAdd (eVar 4) (eC (.int 1))) (e2 gMod (e2 gDiv (eVar 0) (eC (.int 5))) (eC (.int 3))))) (tgN 8) [8] (eYes) (e2 gIx (eVar 1) (e2 gMod (e2 gAdd (e2 gDiv (eVar 0) (eC (.int 24))) (e2 gMul (eC (.int 3)) (eVar 8))) (eC (.int 26))))))) (sNil)) (sSeq (sIf (e2 gEq (e2 gMod (eVar 0) (eC (.int 3))) (eC (.int 2))) (sAsg (tgN 7) (eJoin (eC (.str "")) (eLc (itR (e2 gAdd (eC (.int 1)) (e2 gMod (e2 gAdd (e2 gDiv (eVar 0) (eC (.int 3))) (eVar 4)) (eC (.int 8))))) (tgN 8) [8] (eYes) (e2 gIx (eVar 1) (e2 gMod (eFn 2 M_law_mixed (eCons (eVar 0) (eCons (e2 gAdd (e2 gMul (eC (.int 9)) (eVar 4)) (eVar 8)) (eNil)))) (eC (.int 26))))))) (sNil)) (sApp 3 (eDat 7)))))))

/-- law_words: 0 _law_cell, 1 _law_letters, 2 _law_size, 3 _law_some, 4 _law_k, 5 _law_row, 6 _law_at, 7 _law_word, 8 _law_j, -/
def B_law_words (M_law_mixed : List O → Option O) : Sx := sSeq (sAsg (tgN 1) (eC (.str "abcdefghijklmnopqrstuvwxyz"))) (sSeq (sAsg (tgN 2) (e2 gAdd (eC (.int 1)) (e2 gMod (e2 gDiv (eVar 0) (eC (.int 3))) (eC (.int 8))))) (sSeq (sOwn 3 (eLst (eNil))) (sSeq (sFor (tgN 4) (itR (eC (.int 6))) (L_law_words_1 M_law_mixed)) (sSeq (sIf (e2 gLt (eLenSet (eVar 3)) (eC (.int 6))) (sRet (eLst (eCons (eC (.str "ab")) (eCons (eC (.str "abc")) (eCons (eC (.str "b")) (eCons (eC (.str "ba")) (eCons (eC (.str "bab")) (eCons (eC (.str "c")) (eNil))))))))) (sNil)) (sRet (eCall (g1 gSorted) (eCons (eVar 3) (eNil))))))))

def M_law_words : List O → Option O := runB 9 (B_law_words M_law_mixed)

/-- law_goal: 0 _law_cell, 1 _law_at, 2 _law_k, 3 _law_many, 4 _law_more, -/
def B_law_goal (M_law_mixed : List O → Option O) : Sx := sSeq (sAsg (tgN 4) (eFn 2 M_law_mixed (eCons (e2 gDiv (eVar 0) (eC (.int 56))) (eCons (e2 gAdd (e2 gAdd (e2 gMul (eC (.int 20)) (eVar 1)) (eC (.int 7))) (eVar 2)) (eNil))))) (sRet (e2 gIx (eLst (eCons (eCall (g2 gMin2) (eCons (e2 gAdd (eVar 1) (eC (.int 1))) (eCons (e2 gSub (eVar 3) (eC (.int 1))) (eNil)))) (eCons (eCall (g2 gMin2) (eCons (e2 gAdd (eVar 1) (eC (.int 1))) (eCons (e2 gSub (eVar 3) (eC (.int 1))) (eNil)))) (eCons (e2 gMod (e2 gDiv (eVar 4) (eC (.int 4))) (eVar 3)) (eCons (eC (.int 0)) (eNil)))))) (e2 gMod (eVar 4) (eC (.int 4)))))

def M_law_goal : List O → Option O := runB 5 (B_law_goal M_law_mixed)

def L_law_twice_1 (M_law_mixed : List O → Option O) : Sx := sSeq (sAsg (tgN 5) (e2 gIx (eVar 1) (e2 gMod (eVar 4) (eVar 2)))) (sIf (e2 gEq (e2 gIx (eVar 5) (eC (.int 0))) (eC (.str "end"))) (sApp 3 (eDat 5)) (sSeq (sAsg (tgN 6) (eFrz (eLc (itE (e2 gIx (eVar 5) (eC (.int 1)))) (tg2 8 9) [8, 9] (eYes) (eTup (eCons (eDat 8) (eCons (e2 gAdd (eVar 9) (e2 gMul (eVar 2) (e2 gMod (e2 gDiv (eFn 2 M_law_mixed (eCons (eVar 0) (eCons (e2 gAdd (e2 gMul (eC (.int 9)) (eVar 4)) (eVar 9)) (eNil)))) (eC (.int 5))) (eC (.int 2))))) (eNil))))))) (sSeq (sAsg (tgN 7) (e2 gIx (eVar 5) (eC (.int 0)))) (sSeq (sIf (eAnd (e2 gGe (eVar 4) (eVar 2)) (e2 gEq (e2 gMod (e2 gDiv (eFn 2 M_law_mixed (eCons (eVar 0) (eCons (e2 gMul (eC (.int 5)) (eVar 4)) (eNil)))) (eC (.int 7))) (eC (.int 4))) (eC (.int 1)))) (sAsg (tgN 7) (e2 gIx (eLst (eCons (eC (.str "send")) (eCons (eC (.str "get")) (eNil)))) (eCall (g1 gInt) (eCons (e2 gEq (e2 gIx (eVar 5) (eC (.int 0))) (eC (.str "send"))) (eNil))))) (sNil)) (sApp 3 (eTup (eCons (eDat 7) (eCons (eCall (g1 gTuple) (eCons (eVar 6) (eNil))) (eNil)))))))))

/-- law_twice: 0 _law_cell, 1 _law_plan_here, 2 _law_many, 3 _law_found, 4 _law_at, 5 _law_stop, 6 _law_ways_here, 7 _law_kind, 8 _law_word, 9 _law_goal_here, -/
def B_law_twice (M_law_mixed : List O → Option O) : Sx := sSeq (sAsg (tgN 2) (eCall (g1 gLen) (eCons (eVar 1) (eNil)))) (sSeq (sIf (eOr (e2 gGt (e2 gMod (eVar 0) (eC (.int 3))) (eC (.int 0))) (e2 gGt (eVar 2) (eC (.int 6)))) (sRetV 1) (sNil)) (sSeq (sOwn 3 (eLst (eNil))) (sSeq (sFor (tgN 4) (itR (e2 gMul (eC (.int 2)) (eVar 2))) (L_law_twice_1 M_law_mixed)) (sRetV 3))))

def M_law_twice : List O → Option O := runB 10 (B_law_twice M_law_mixed)

def L_law_alike_1 (M_law_ways : List O → Option O) : Sx := sSeq (sAsg (tgN 7) (eTup (eCons (eDGet (eFn 1 M_law_ways (eCons (e2 gIx (eVar 0) (eVar 4)) (eNil))) (eVar 6)) (eCons (eDGet (eFn 1 M_law_ways (eCons (e2 gIx (eVar 1) (eVar 5)) (eNil))) (eVar 6)) (eNil))))) (sIf (e2 gNotInA (eVar 7) (eVar 2)) (sApp 2 (eDat 7)) (sNil))

def L_law_alike_2 (M_law_ways : List O → Option O) : Sx := sSeq (sAsg (tg2 4 5) (e2 gIx (eVar 2) (eVar 3))) (sSeq (sAsg (tgN 3) (e2 gAdd (eVar 3) (eC (.int 1)))) (sSeq (sIf (eOr (e2 gNe (e2 gIx (e2 gIx (eVar 0) (eVar 4)) (eC (.int 0))) (e2 gIx (e2 gIx (eVar 1) (eVar 5)) (eC (.int 0)))) (e2 gNe (eCall (g1 gSortKeys) (eCons (eFn 1 M_law_ways (eCons (e2 gIx (eVar 0) (eVar 4)) (eNil))) (eNil))) (eCall (g1 gSortKeys) (eCons (eFn 1 M_law_ways (eCons (e2 gIx (eVar 1) (eVar 5)) (eNil))) (eNil))))) (sRet (eC (.bool false))) (sNil)) (sFor (tgN 6) (itKeys (eFrz (eFn 1 M_law_ways (eCons (e2 gIx (eVar 0) (eVar 4)) (eNil))))) (L_law_alike_1 M_law_ways))))

/-- law_alike: 0 _law_one, 1 _law_other, 2 _law_found, 3 _law_place, 4 _law_a, 5 _law_b, 6 _law_word, 7 _law_goal_here, -/
def B_law_alike (M_law_ways : List O → Option O) : Sx := sSeq (sOwn 2 (eLst (eCons (eTup (eCons (eC (.int 0)) (eCons (eC (.int 0)) (eNil)))) (eNil)))) (sSeq (sAsg (tgN 3) (eC (.int 0))) (sSeq (sWhile (e2 gLt (eVar 3) (eCall (g1 gLen) (eCons (eVar 2) (eNil)))) (L_law_alike_2 M_law_ways)) (sRet (eC (.bool true)))))

def M_law_alike : List O → Option O := runB 8 (B_law_alike M_law_ways)

def L_law_unlike_1 (M_law_ways : List O → Option O) : Sx := sAsg (tgN 1) (eFrz (e2 gAdd (eVar 1) (eLc (itR (eVar 2)) (tgN 5) [5] (eYes) (eTup (eCons (eDat 2) (eCons (eDat 5) (eNil)))))))

def L_law_unlike_2 (M_law_ways : List O → Option O) : Sx := sSeq (sAsg (tg2 6 7) (eTup (eCons (eFrz (eFn 1 M_law_ways (eCons (e2 gIx (eVar 0) (eVar 2)) (eNil)))) (eCons (eFrz (eFn 1 M_law_ways (eCons (e2 gIx (eVar 0) (eVar 5)) (eNil)))) (eNil))))) (sIf (eOr (e2 gNe (e2 gIx (e2 gIx (eVar 0) (eVar 2)) (eC (.int 0))) (e2 gIx (e2 gIx (eVar 0) (eVar 5)) (eC (.int 0)))) (e2 gNe (eCall (g1 gSortKeys) (eCons (eVar 6) (eNil))) (eCall (g1 gSortKeys) (eCons (eVar 7) (eNil))))) (sDPut 3 (eC (.bool true)) (eTup (eCons (eDat 2) (eCons (eDat 5) (eNil))))) (sSeq (sAsg (tgN 8) (eFrz (eLc (itKeys (eDat 6)) (tgN 9) [9] (eYes) (eTup (eCons (eCall (g2 gMax2) (eCons (eDGet (eVar 6) (eVar 9)) (eCons (eDGet (eVar 7) (eVar 9)) (eNil)))) (eCons (eCall (g2 gMin2) (eCons (eDGet (eVar 6) (eVar 9)) (eCons (eDGet (eVar 7) (eVar 9)) (eNil)))) (eNil))))))) (sIf (e2 gNe (eLc (itV 8) (tgN 10) [10] (eDIn (eVar 10) (eVar 3)) (eDat 10)) (eLst (eNil))) (sDPut 3 (eC (.bool true)) (eTup (eCons (eDat 2) (eCons (eDat 5) (eNil))))) (sNil))))

def L_law_unlike_3 (M_law_ways : List O → Option O) : Sx := sFor (tg2 2 5) (itV 1) (L_law_unlike_2 M_law_ways)

/-- law_unlike: 0 _law_plan_here, 1 _law_pairs, 2 _law_a, 3 _law_told, 4 _law_turn, 5 _law_b, 6 _law_here, 7 _law_there, 8 _law_goals, 9 _law_word, 10 _law_goal_here, -/
def B_law_unlike (M_law_ways : List O → Option O) : Sx := sSeq (sAsg (tgN 1) (eFrz (eLst (eNil)))) (sSeq (sFor (tgN 2) (itR (eCall (g1 gLen) (eCons (eVar 0) (eNil)))) (L_law_unlike_1 M_law_ways)) (sSeq (sOwn 3 eNewT) (sSeq (sFor (tgN 4) (itR (e2 gAdd (eCall (g1 gLen) (eCons (eVar 0) (eNil))) (eC (.int 1)))) (L_law_unlike_3 M_law_ways)) (sRet (e2 gEq (eCall (g1 gLenT) (eCons (eVar 3) (eNil))) (eCall (g1 gLen) (eCons (eVar 1) (eNil))))))))

def M_law_unlike : List O → Option O := runB 11 (B_law_unlike M_law_ways)

def L_are_ways_1 (M_is_place : List O → Option O) (M_is_word : List O → Option O) : Sx := sSeq (sIf (eOr (eNot (eIsi "tuple" (eVar 3))) (eOr (e2 gNe (eCall (g1 gLen) (eCons (eVar 3) (eNil))) (eC (.int 2))) (eOr (eNot (eFn 1 M_is_word (eCons (e2 gIx (eVar 3) (eC (.int 0))) (eNil)))) (eNot (eFn 2 M_is_place (eCons (e2 gIx (eVar 3) (eC (.int 1))) (eCons (eVar 1) (eNil)))))))) (sRet (eC (.bool false))) (sNil)) (sSeq (sIf (e2 gLe' (e2 gIx (eVar 3) (eC (.int 0))) (eVar 2)) (sRet (eC (.bool false))) (sNil)) (sAsg (tgN 2) (e2 gIx (eVar 3) (eC (.int 0)))))

/-- are_ways: 0 thing, 1 many, 2 last, 3 way, -/
def B_are_ways (M_is_place : List O → Option O) (M_is_word : List O → Option O) : Sx := sSeq (sIf (eOr (eNot (eIsi "tuple" (eVar 0))) (eNot (eChain gLe' gLe' (eC (.int 1)) (eCall (g1 gLen) (eCons (eVar 0) (eNil))) (eC (.int 6))))) (sRet (eC (.bool false))) (sNil)) (sSeq (sAsg (tgN 2) (eC (.str ""))) (sSeq (sFor (tgN 3) (itV 0) (L_are_ways_1 M_is_place M_is_word)) (sRet (eC (.bool true)))))

def M_are_ways : List O → Option O := runB 4 (B_are_ways M_is_place M_is_word)

def L_law_plan_1 (M_law_mixed : List O → Option O) (M_law_goal : List O → Option O) : Sx := sSeq (sAsg (tgN 5) (eFn 2 M_law_mixed (eCons (e2 gDiv (eVar 0) (eC (.int 56))) (eCons (e2 gMul (eC (.int 20)) (eVar 4)) (eNil))))) (sSeq (sAsg (tgN 6) (e2 gIx (eLst (eCons (eC (.str "send")) (eCons (eC (.str "get")) (eCons (eC (.str "send")) (eCons (eC (.str "get")) (eCons (eC (.str "end")) (eCons (eC (.str "send")) (eCons (eC (.str "get")) (eNil))))))))) (e2 gMod (eVar 5) (eC (.int 7))))) (sIf (eOr (e2 gEq (eVar 6) (eC (.str "end"))) (eAnd (e2 gGt (eVar 4) (eC (.int 0))) (eAnd (e2 gEq (eVar 4) (e2 gSub (eVar 2) (eC (.int 1)))) (e2 gGt (e2 gMod (e2 gDiv (eVar 5) (eC (.int 5))) (eC (.int 3))) (eC (.int 0)))))) (sApp 3 (eTup (eCons (eC (.str "end")) (eNil)))) (sSeq (sAsg (tgN 7) (e2 gIx (eLst (eCons (eC (.int 1)) (eCons (eC (.int 2)) (eCons (eC (.int 1)) (eCons (eC (.int 3)) (eCons (eC (.int 2)) (eCons (eC (.int 6)) (eNil)))))))) (e2 gMod (e2 gDiv (eVar 5) (eC (.int 15))) (eC (.int 6))))) (sSeq (sAsg (tgN 8) (eFrz (eLc (itR (eVar 7)) (tgN 10) [10] (eYes) (e2 gIx (eVar 1) (e2 gMod (e2 gAdd (e2 gDiv (eVar 5) (eC (.int 90))) (eVar 10)) (eC (.int 6))))))) (sSeq (sAsg (tgN 9) (eFrz (eLc (itR (eVar 7)) (tgN 10) [10] (eYes) (eTup (eCons (e2 gIx (eVar 8) (eVar 10)) (eCons (eFn 4 M_law_goal (eCons (eVar 0) (eCons (eVar 4) (eCons (eVar 10) (eCons (eVar 2) (eNil)))))) (eNil))))))) (sApp 3 (eTup (eCons (eDat 6) (eCons (eCall (g1 gTuple) (eCons (eCall (g1 gSorted) (eCons (eVar 9) (eNil))) (eNil))) (eNil))))))))))

/-- law_plan: 0 _law_cell, 1 _law_words_here, 2 _law_many, 3 _law_plan_here, 4 _law_at, 5 _law_more, 6 _law_kind, 7 _law_size, 8 _law_chosen, 9 _law_ways_here, 10 _law_k, -/
def B_law_plan (M_law_mixed : List O → Option O) (M_law_goal : List O → Option O) : Sx := sSeq (sAsg (tgN 2) (e2 gAdd (eC (.int 1)) (e2 gMod (eVar 0) (eC (.int 7))))) (sSeq (sIf (e2 gEq (e2 gMod (e2 gDiv (eVar 0) (eC (.int 7))) (eC (.int 8))) (eC (.int 1))) (sAsg (tgN 2) (e2 gAdd (eC (.int 1)) (e2 gMod (eVar 0) (eC (.int 12))))) (sNil)) (sSeq (sOwn 3 (eLst (eNil))) (sSeq (sFor (tgN 4) (itR (eVar 2)) (L_law_plan_1 M_law_mixed M_law_goal)) (sRetV 3))))

def M_law_plan : List O → Option O := runB 11 (B_law_plan M_law_mixed M_law_goal)

/-- is_stop: 0 thing, 1 many, -/
def B_is_stop (M_are_ways : List O → Option O) : Sx := sSeq (sIf (eOr (eNot (eIsi "tuple" (eVar 0))) (eOr (e2 gEq (eCall (g1 gLen) (eCons (eVar 0) (eNil))) (eC (.int 0))) (eNot (eIsi "str" (e2 gIx (eVar 0) (eC (.int 0))))))) (sRet (eC (.bool false))) (sNil)) (sSeq (sIf (e2 gEq (e2 gIx (eVar 0) (eC (.int 0))) (eC (.str "end"))) (sRet (e2 gEq (eCall (g1 gLen) (eCons (eVar 0) (eNil))) (eC (.int 1)))) (sNil)) (sRet (eAnd (e2 gInA (e2 gIx (eVar 0) (eC (.int 0))) (eTup (eCons (eC (.str "send")) (eCons (eC (.str "get")) (eNil))))) (eAnd (e2 gEq (eCall (g1 gLen) (eCons (eVar 0) (eNil))) (eC (.int 2))) (eFn 2 M_are_ways (eCons (e2 gIx (eVar 0) (eC (.int 1))) (eCons (eVar 1) (eNil))))))))

def M_is_stop : List O → Option O := runB 2 (B_is_stop M_are_ways)

def L_need_plan_1 (M_is_stop : List O → Option O) : Sx := sIf (eNot (eFn 2 M_is_stop (eCons (eVar 1) (eCons (eCall (g1 gLen) (eCons (eVar 0) (eNil))) (eNil))))) (sNever) (sNil)

/-- need_plan: 0 plan, 1 stop, -/
def B_need_plan (M_is_stop : List O → Option O) : Sx := sSeq (sIf (eOr (eNot (eIsi "list" (eVar 0))) (eNot (eChain gLe' gLe' (eC (.int 1)) (eCall (g1 gLen) (eCons (eVar 0) (eNil))) (eC (.int 12))))) (sNever) (sNil)) (sFor (tgN 1) (itV 0) (L_need_plan_1 M_is_stop))

def M_need_plan : List O → Option O := runB 2 (B_need_plan M_is_stop)

def L_small_1 (M_need_plan : List O → Option O) (M_grouped : List O → Option O) (M_reached : List O → Option O) : Sx := sIf (e2 gNotInA (e2 gIx (eVar 1) (eVar 3)) (eVar 2)) (sApp 2 (e2 gIx (eVar 1) (eVar 3))) (sNil)

def L_small_2 (M_need_plan : List O → Option O) (M_grouped : List O → Option O) (M_reached : List O → Option O) : Sx := sSeq (sAsg (tgN 5) (e2 gIx (eVar 0) (eVar 3))) (sIf (e2 gEq (e2 gIx (eVar 5) (eC (.int 0))) (eC (.str "end"))) (sApp 4 (eDat 5)) (sApp 4 (eTup (eCons (e2 gIx (eVar 5) (eC (.int 0))) (eCons (eCall (g1 gTuple) (eCons (eLc (itE (e2 gIx (eVar 5) (eC (.int 1)))) (tg2 6 7) [6, 7] (eYes) (eTup (eCons (eDat 6) (eCons (eIndex (eVar 2) (e2 gIx (eVar 1) (eVar 7))) (eNil))))) (eNil))) (eNil))))))

/-- small: 0 plan, 1 least, 2 order, 3 at, 4 found, 5 stop, 6 word, 7 goal, -/
def B_small (M_need_plan : List O → Option O) (M_grouped : List O → Option O) (M_reached : List O → Option O) : Sx := sSeq (sExp (eFn 1 M_need_plan (eCons (eVar 0) (eNil)))) (sSeq (sAsg (tgN 1) (eFrz (eFn 1 M_grouped (eCons (eVar 0) (eNil))))) (sSeq (sOwn 2 (eLst (eNil))) (sSeq (sFor (tgN 3) (itE (eFrz (eFn 1 M_reached (eCons (eVar 0) (eNil))))) (L_small_1 M_need_plan M_grouped M_reached)) (sSeq (sOwn 4 (eLst (eNil))) (sSeq (sFrz 2) (sSeq (sFor (tgN 3) (itV 2) (L_small_2 M_need_plan M_grouped M_reached)) (sRetV 4)))))))

def M_small : List O → Option O := runB 8 (B_small M_need_plan M_grouped M_reached)

/-- law: 0 _law_script, 1 _law_cell, 2 _law_plan_here, 3 _law_handed, 4 _law_found, 5 _law_kept, -/
def B_law (M_law_cell_at : List O → Option O) (M_law_twice : List O → Option O) (M_law_plan : List O → Option O) (M_law_words : List O → Option O) (M_small : List O → Option O) (M_law_order : List O → Option O) (M_law_is_plan : List O → Option O) (M_law_unlike : List O → Option O) (M_law_alike : List O → Option O) : Sx := sSeq (sAsg (tgN 1) (eFn 2 M_law_cell_at (eCons (eVar 0) (eCons (eC (.int 1)) (eNil))))) (sSeq (sAsg (tgN 2) (eFrz (eFn 2 M_law_twice (eCons (eFn 2 M_law_cell_at (eCons (eVar 0) (eCons (eC (.int 2)) (eNil)))) (eCons (eFrz (eFn 2 M_law_plan (eCons (eVar 1) (eCons (eFn 1 M_law_words (eCons (eFn 2 M_law_cell_at (eCons (eVar 0) (eCons (eC (.int 0)) (eNil)))) (eNil))) (eNil))))) (eNil)))))) (sSeq (sOwn 3 (eCall (g1 gList) (eCons (eVar 2) (eNil)))) (sSeq (sOwn 4 (eFn 1 M_small (eCons (eVar 3) (eNil)))) (sSeq (sIf (eOr (e2 gNe (eVar 3) (eVar 2)) (eOr (eNot (eFn 1 M_law_is_plan (eCons (eVar 4) (eNil)))) (e2 gNe (eFn 1 M_law_order (eCons (eVar 4) (eNil))) (eListR (eCall (g1 gLen) (eCons (eVar 4) (eNil))))))) (sRet (eC (.bool false))) (sNil)) (sSeq (sIf (eOr (eNot (eFn 2 M_law_alike (eCons (eVar 2) (eCons (eVar 4) (eNil))))) (eOr (eNot (eFn 1 M_law_unlike (eCons (eVar 4) (eNil)))) (e2 gNe (eFn 1 M_small (eCons (eVar 4) (eNil))) (eVar 4)))) (sRet (eC (.bool false))) (sNil)) (sSeq (sAsg (tgN 5) (eFrz (eCall (g1 gList) (eCons (eVar 4) (eNil))))) (sSeq (sClr 4) (sSeq (sSetI 3 (eTup (eCons (eC (.str "end")) (eNil))) (eC (.int 0))) (sRet (eAnd (e2 gEq (eFn 1 M_small (eCons (eVar 2) (eNil))) (eVar 5)) (e2 gEq (eFn 1 M_small (eCons (eVar 3) (eNil))) (eLst (eCons (eTup (eCons (eC (.str "end")) (eNil))) (eNil))))))))))))))

def M_law : List O → Option O := runB 6 (B_law M_law_cell_at M_law_twice M_law_plan M_law_words M_small M_law_order M_law_is_plan M_law_unlike M_law_alike)

end TP

namespace TP
open PySem PySem.Spec PyProof.Rows L2
theorem wp_seq {u v : Sx} {env : En} {Q : Out → Prop} (P : En → Prop) (h : Wp (u env) fun out => ∃ e, out = .nx e ∧ P e) (k : ∀ e, P e → Wp (v e) Q) : Wp (sSeq u v env) Q := by
  obtain ⟨out, e1, e, rfl, p⟩ := h
  obtain ⟨o2, e2, q⟩ := k e p
  refine ⟨o2, ?_, q⟩
  unfold sSeq
  rw [e1]
  exact e2
theorem wp_seqR {u v : Sx} {env : En} {Q : Out → Prop} (P : En → Prop) (h : Wp (u env) fun out => (∃ e, out = .nx e ∧ P e) ∨ (∃ o, out = .rt o ∧ Q (.rt o))) (k : ∀ e, P e → Wp (v e) Q) : Wp (sSeq u v env) Q := by
  obtain ⟨out, e1, h⟩ := h
  rcases h with ⟨e, rfl, p⟩ | ⟨o, rfl, q⟩
  · obtain ⟨o2, e2, q⟩ := k e p
    refine ⟨o2, ?_, q⟩
    unfold sSeq
    rw [e1]
    exact e2
  · refine ⟨.rt o, ?_, q⟩
    unfold sSeq
    rw [e1]
    rfl
theorem w_asgN {i : Nat} {f : Ex} {env : En} {Q : Out → Prop} (h : Wp (f env) fun o => ∃ d, asD o = some d ∧ i < env.length ∧ Q (.nx (env.set i (.shr (.dat d))))) : Wp (sAsg (tgN i) f env) Q := by
  obtain ⟨o, e, d, ed, hi, q⟩ := h
  refine ⟨_, ?_, q⟩
  unfold sAsg tgN
  rw [e]
  simp only [Option.bind_some, ed, if_pos hi, Option.map_some]
theorem w_own {i : Nat} {f : Ex} {env : En} {Q : Out → Prop} (h : Wp (f env) fun o => i < env.length ∧ Q (.nx (env.set i (.own o)))) : Wp (sOwn i f env) Q := by
  obtain ⟨o, e, hi, q⟩ := h
  refine ⟨_, ?_, q⟩
  unfold sOwn
  rw [e]
  simp only [Option.bind_some, if_pos hi]
theorem w_fn1 {M : List O → Option O} {f : Ex} {env : En} {a : O} {Q : O → Prop} (hf : f env = some a) (h : Wp (M [a]) Q) : Wp (eFn 1 M (eCons f eNil) env) Q := by
  obtain ⟨o, e, q⟩ := h
  refine ⟨o, ?_, q⟩
  unfold eFn eCons eNil
  simp only [hf, Option.bind_some, Option.map_some, List.length_cons, List.length_nil, if_true, e]
theorem w_fn2 {M : List O → Option O} {f g : Ex} {env : En} {a b : O} {Q : O → Prop} (hf : f env = some a) (hg : g env = some b) (h : Wp (M [a, b]) Q) : Wp (eFn 2 M (eCons f (eCons g eNil)) env) Q := by
  obtain ⟨o, e, q⟩ := h
  refine ⟨o, ?_, q⟩
  unfold eFn eCons eNil
  simp only [hf, hg, Option.bind_some, Option.map_some, List.length_cons, List.length_nil, if_true, e]
theorem w_fn2' {M : List O → Option O} {f g : Ex} {env : En} {Q : O → Prop} (h : Wp (f env) fun a => Wp (g env) fun b => Wp (M [a, b]) Q) : Wp (eFn 2 M (eCons f (eCons g eNil)) env) Q := by
  obtain ⟨a, hf, b, hg, h⟩ := h
  exact w_fn2 hf hg h
theorem w_e2 {gg : O → O → Option O} {f g : Ex} {env : En} {Q : O → Prop} (h : Wp (f env) fun a => Wp (g env) fun b => Wp (gg a b) Q) : Wp (e2 gg f g env) Q := by
  obtain ⟨a, e1, b, e2, o, e3, q⟩ := h
  refine ⟨o, ?_, q⟩
  unfold TP.e2
  simp only [e1, e2, Option.bind_some, e3]
theorem w_frz {f : Ex} {env : En} {Q : O → Prop} (h : Wp (f env) fun a => ∃ d, a.data = some d ∧ Q (.dat d)) : Wp (eFrz f env) Q := by
  obtain ⟨a, e1, d, e2, q⟩ := h
  refine ⟨_, ?_, q⟩
  unfold eFrz
  simp only [e1, e2, Option.bind_some, Option.map_some]
theorem w_if {c : Ex} {u v : Sx} {env : En} {Q : Out → Prop} (h : Wp (c env) fun o => ∃ b, o = oB b ∧ if b = true then Wp (u env) Q else Wp (v env) Q) : Wp (sIf c u v env) Q := by
  rw [sIf_eq, wp_bind]
  refine h.imp ?_
  rintro o ⟨b, rfl, h⟩
  show Wp ((some b).bind _) Q
  rw [Option.bind_some]
  cases b <;> exact h
theorem w_ret {f : Ex} {env : En} {Q : Out → Prop} (h : Wp (f env) fun o => Q (.rt o)) : Wp (sRet f env) Q := by
  obtain ⟨o, e, q⟩ := h
  exact ⟨.rt o, by unfold sRet; rw [e]; rfl, q⟩
theorem w_not {f : Ex} {env : En} {Q : O → Prop} (h : Wp (f env) fun o => ∃ b, o = oB b ∧ Q (oB (!b))) : Wp (eNot f env) Q := by
  rw [eNot_eq, wp_bind]
  refine h.imp ?_
  rintro o ⟨b, rfl, h⟩
  exact ⟨_, rfl, h⟩
theorem w_or {f g : Ex} {env : En} {Q : O → Prop} (h : Wp (f env) fun o => ∃ b, o = oB b ∧ if b = true then Q (oB true) else Wp (g env) Q) : Wp (eOr f g env) Q := by
  rw [eOr_eq, wp_bind]
  refine h.imp ?_
  rintro o ⟨b, rfl, h⟩
  show Wp ((some b).bind _) Q
  rw [Option.bind_some]
  cases b
  · exact h
  · exact ⟨_, rfl, h⟩
theorem w_and {f g : Ex} {env : En} {Q : O → Prop} (h : Wp (f env) fun o => ∃ b, o = oB b ∧ if b = true then Wp (g env) Q else Q (oB false)) : Wp (eAnd f g env) Q := by
  rw [eAnd_eq, wp_bind]
  refine h.imp ?_
  rintro o ⟨b, rfl, h⟩
  show Wp ((some b).bind _) Q
  rw [Option.bind_some]
  cases b
  · exact ⟨_, rfl, h⟩
  · exact h
theorem iffB {a b : Bool} (h : a = true ↔ b = true) : a = b := by cases a <;> cases b <;> simp_all
theorem v_notB {b c : Bool} : gNotB (oB b) (oB c) = some (oB (!decide (b = c))) := rfl
theorem w_skip {c : Ex} {u : Sx} {env : En} (h : Wp (c env) fun o => o = oB false) : Wp (sIf c u sNil env) fun out => ∃ e, out = .nx e ∧ e = env := by
  refine w_if (h.imp fun o e => ⟨false, e, ?_⟩)
  rw [if_neg Bool.false_ne_true]
  exact ⟨_, rfl, _, rfl, rfl⟩
theorem w_then {c : Ex} {u v : Sx} {env : En} {Q : Out → Prop} (h : Wp (c env) fun o => o = oB true) (k : Wp (u env) Q) : Wp (sIf c u v env) Q := by
  refine w_if (h.imp fun o e => ⟨true, e, ?_⟩)
  rw [if_pos rfl]
  exact k
theorem w_notB {f : Ex} {env : En} {b : Bool} (h : Wp (f env) fun o => o = oB (!b)) : Wp (eNot f env) fun o => o = oB b :=
  w_not (h.imp fun o e => ⟨_, e, by rw [Bool.not_not]⟩)
theorem w_orF {f g : Ex} {env : En} {b : Bool} (h1 : Wp (f env) fun o => o = oB false) (h2 : Wp (g env) fun o => o = oB b) : Wp (eOr f g env) fun o => o = oB b :=
  w_or (h1.imp fun o e => ⟨_, e, by rw [if_neg Bool.false_ne_true]; exact h2⟩)
theorem w_orT {f g : Ex} {env : En} (h1 : Wp (f env) fun o => o = oB true) : Wp (eOr f g env) fun o => o = oB true :=
  w_or (h1.imp fun o e => ⟨_, e, by rw [if_pos rfl]⟩)
theorem w_andT {f g : Ex} {env : En} {b : Bool} (h1 : Wp (f env) fun o => o = oB true) (h2 : Wp (g env) fun o => o = oB b) : Wp (eAnd f g env) fun o => o = oB b :=
  w_and (h1.imp fun o e => ⟨_, e, by rw [if_pos rfl]; exact h2⟩)
theorem w_andF {f g : Ex} {env : En} (h1 : Wp (f env) fun o => o = oB false) : Wp (eAnd f g env) fun o => o = oB false :=
  w_and (h1.imp fun o e => ⟨_, e, by rw [if_neg Bool.false_ne_true]⟩)
theorem w_else {c : Ex} {u v : Sx} {env : En} {Q : Out → Prop} (h : Wp (c env) fun o => o = oB false) (k : Wp (v env) Q) : Wp (sIf c u v env) Q := by
  refine w_if (h.imp fun o e => ⟨false, e, ?_⟩)
  rw [if_neg Bool.false_ne_true]
  exact k
theorem w_forR {tg : Tg} {f : Ex} {body : Sx} {env : En} {Q : Out → Prop} {n : Int} (hf : f env = some (oI n)) (h0 : -100000000 ≤ n) (h1 : n ≤ 100000000) (k : Wp (forL tg body ((List.range n.toNat).map fun i => .int (i : Nat)) env) Q) : Wp (sFor tg (itR f) body env) Q := by
  obtain ⟨o, e, q⟩ := k
  refine ⟨o, ?_, q⟩
  unfold sFor itR
  rw [hf, Option.bind_some]
  show ((if decide (-100000000 ≤ n ∧ n ≤ 100000000) = true then some ((List.range n.toNat).map fun i => PyData.int (i : Nat)) else none).bind _) = _
  rw [if_pos (decide_eq_true ⟨h0, h1⟩), Option.bind_some]
  exact e
theorem w_for' {tg : Tg} {it : Its'} {body : Sx} {env : En} {Q : Out → Prop} {ds : List D} (hi : it env = some ds) (k : Wp (forL tg body ds env) Q) : Wp (sFor tg it body env) Q := by
  obtain ⟨o, e, q⟩ := k
  refine ⟨o, ?_, q⟩
  unfold sFor
  rw [hi, Option.bind_some]
  exact e
end TP

/-! Grf: what can be come to, by lists that grow; law-independent. -/
namespace TP
open PySem PySem.Spec PyProof.Rows L2
section
variable {N : Type} [DecidableEq N]
inductive Rc (st : N → List N) (gd : N → Prop) (S : List N) : N → Prop
  | start {x : N} : x ∈ S → Rc st gd S x
  | step {x y : N} : Rc st gd S x → gd x → y ∈ st x → Rc st gd S y
theorem dedupN : ∀ l : List N, ∃ d : List N, d.Nodup ∧ ∀ x, x ∈ d ↔ x ∈ l
  | [] => ⟨[], .nil, fun _ => .rfl⟩
  | a :: l => by
    obtain ⟨d, n, h⟩ := dedupN l
    by_cases m : a ∈ l
    · exact ⟨d, n, fun x => (h x).trans ⟨List.mem_cons_of_mem _, fun z => by
        rcases List.mem_cons.mp z with rfl | z
        · exact m
        · exact z⟩⟩
    · exact ⟨a :: d, List.nodup_cons.mpr ⟨fun z => m ((h a).mp z), n⟩, fun x => by rw [List.mem_cons, List.mem_cons, h]⟩
structure SW (st : N → List N) (gd : N → Prop) (S : List N) (c : Nat) (fs : List N) (t : Nat) : Prop where
  rch : ∀ x ∈ fs, Rc st gd S x
  sta : ∀ x ∈ S, x ∈ fs
  done : ∀ i x, i < t → fs[i]? = some x → gd x ∧ ∀ y ∈ st x, y ∈ fs
  cnt : ∃ ds : List N, ds.Nodup ∧ (∀ x, x ∈ ds ↔ x ∈ fs) ∧ fs.length ≤ c * ds.length
variable {st : N → List N} {gd : N → Prop} {S : List N} {c : Nat} {fs gs : List N} {t : Nat} {x : N}
theorem SW.le {B : Nat} (hB : ∀ ds : List N, ds.Nodup → (∀ x ∈ ds, Rc st gd S x) → ds.length ≤ B) (j : SW st gd S c fs t) : fs.length ≤ c * B := by
  obtain ⟨ds, nd, mm, le⟩ := j.cnt
  exact Nat.le_trans le (Nat.mul_le_mul_left c (hB ds nd fun x m => j.rch x ((mm x).mp m)))
theorem SW.fin (j : SW st gd S c fs t) (h : fs.length ≤ t) : (∀ x, Rc st gd S x → gd x) ∧ ∀ x, Rc st gd S x ↔ x ∈ fs := by
  have mem : ∀ x, Rc st gd S x → x ∈ fs := fun x hx => by
    induction hx with
    | start m => exact j.sta _ m
    | step _ _ m ih =>
      obtain ⟨i, hi, rfl⟩ := List.mem_iff_getElem.mp ih
      exact (j.done i _ (by omega) (List.getElem?_eq_getElem hi)).2 _ m
  refine ⟨fun x hx => ?_, fun x => ⟨mem x, j.rch x⟩⟩
  obtain ⟨i, hi, rfl⟩ := List.mem_iff_getElem.mp (mem x hx)
  exact (j.done i _ (by omega) (List.getElem?_eq_getElem hi)).1
theorem SW.start (h : S.length ≤ c) : SW st gd S c S 0 := by
  refine ⟨fun x m => .start m, fun x m => m, fun i x h => absurd h (Nat.not_lt_zero _), ?_⟩
  obtain ⟨d, n, m⟩ := dedupN S
  refine ⟨d, n, m, ?_⟩
  cases S with
  | nil => exact Nat.zero_le _
  | cons a S =>
    have : 1 ≤ d.length := by
      cases d with
      | nil => exact absurd ((m a).mpr List.mem_cons_self) List.not_mem_nil
      | cons _ _ => simp
    exact Nat.le_trans h (Nat.le_mul_of_pos_right c this)
theorem SW.step (j : SW st gd S c fs t) (ex : fs[t]? = some x) (g : gd x) (gc : gs.length ≤ c) (hg : ∀ y, y ∈ gs ↔ y ∈ st x) : SW st gd S c (fs ++ gs.filter fun y => !fs.any fun z => decide (z = y)) (t + 1) := by
  have hx := j.rch x (List.mem_of_getElem? ex)
  have inn : ∀ y ∈ gs, y ∈ fs ++ gs.filter fun y => !fs.any fun z => decide (z = y) := fun y m => by
    by_cases h : y ∈ fs
    · exact List.mem_append_left _ h
    · refine List.mem_append_right _ (List.mem_filter.mpr ⟨m, ?_⟩)
      rw [Bool.not_eq_true', List.any_eq_false]
      intro z hz e
      exact h (of_decide_eq_true e ▸ hz)
  have tl : t < fs.length := (List.getElem?_eq_some_iff.mp ex).1
  refine ⟨fun y m => ?_, fun y m => List.mem_append_left _ (j.sta y m), fun i y hi e => ?_, ?_⟩
  · rcases List.mem_append.mp m with m | m
    · exact j.rch y m
    · exact .step hx g ((hg y).mp (List.mem_filter.mp m).1)
  · rw [List.getElem?_append_left (by omega)] at e
    rcases Nat.lt_succ_iff_lt_or_eq.mp hi with hi | rfl
    · exact ⟨(j.done i y hi e).1, fun z m => List.mem_append_left _ ((j.done i y hi e).2 z m)⟩
    · rw [ex] at e; cases e
      exact ⟨g, fun z m => inn z ((hg z).mpr m)⟩
  · obtain ⟨ds, nd, mm, le⟩ := j.cnt
    generalize hn : (gs.filter fun y => !fs.any fun z => decide (z = y)) = ns
    have nl : ns.length ≤ c := by rw [← hn]; exact Nat.le_trans (List.length_filter_le _ _) gc
    cases ns with
    | nil => exact ⟨ds, nd, fun x => by rw [List.append_nil]; exact mm x, by rw [List.append_nil]; exact le⟩
    | cons a ns =>
      obtain ⟨d2, n2, m2⟩ := dedupN (a :: ns)
      have out : ∀ y ∈ a :: ns, y ∉ fs := fun y m z => by
        rw [← hn] at m
        have := (List.mem_filter.mp m).2
        rw [Bool.not_eq_true', List.any_eq_false] at this
        exact this y z (decide_eq_true rfl)
      refine ⟨ds ++ d2, List.nodup_append.mpr ⟨nd, n2, fun u hu v hv z => ?_⟩, fun y => ?_, ?_⟩
      · subst z
        exact out u ((m2 u).mp hv) ((mm u).mp hu)
      · rw [List.mem_append, List.mem_append, mm, m2]
      · have : 1 ≤ d2.length := by
          cases d2 with
          | nil => exact absurd ((m2 a).mpr List.mem_cons_self) List.not_mem_nil
          | cons _ _ => simp
        rw [List.length_append, List.length_append, Nat.mul_add]
        have : c ≤ c * d2.length := Nat.le_mul_of_pos_right c this
        omega
/-! ### tables of what leads where -/
def lkG {A : Type} : List (N × A) → N → Option A
  | [], _ => none
  | p :: r, x => if p.1 = x then some p.2 else lkG r x
theorem lkG_some {A : Type} {l : List (N × A)} {x : N} {a : A} (h : lkG l x = some a) : (x, a) ∈ l := by
  induction l with
  | nil => cases h
  | cons p l ih =>
    rw [lkG] at h
    split at h
    · rename_i e
      cases h; subst e
      exact List.mem_cons_self
    · exact List.mem_cons_of_mem _ (ih h)
theorem lkG_none {A : Type} {l : List (N × A)} {x : N} : lkG l x = none ↔ x ∉ l.map (·.1) := by
  induction l with
  | nil => exact ⟨fun _ => List.not_mem_nil, fun _ => rfl⟩
  | cons p l ih =>
    rw [lkG, List.map_cons, List.mem_cons, not_or]
    split
    · rename_i e
      exact ⟨fun z => (by cases z), fun z => absurd e.symm z.1⟩
    · rename_i e
      exact ih.trans ⟨fun z => ⟨fun y => e y.symm, z⟩, fun z => z.2⟩
theorem lkG_key {A : Type} {l : List (N × A)} {x : N} (h : x ∈ l.map (·.1)) : ∃ a, lkG l x = some a := by
  cases e : lkG l x with
  | none => exact absurd h (lkG_none.mp e)
  | some a => exact ⟨a, rfl⟩
theorem getD_tab {A : Type} {kf : N → D} {vf : A → D} (hk : ∀ a b, PyData.eqv (kf a) (kf b) = decide (a = b)) (l : List (N × A)) (x : N) : getD (l.map fun p => (kf p.1, vf p.2)) (kf x) = (lkG l x).map vf := by
  unfold getD
  induction l with
  | nil => rfl
  | cons p l ih =>
    rw [List.map_cons, List.find?_cons, lkG]
    show (Option.map _ (match PyData.eqv (kf p.1) (kf x) with | true => _ | false => _)) = _
    rw [hk]
    by_cases e : p.1 = x
    · rw [decide_eq_true e, if_pos e]; rfl
    · rw [decide_eq_false e, if_neg e]; exact ih
theorem putD_tab {A : Type} {kf : N → D} {vf : A → D} (hk : ∀ a b, PyData.eqv (kf a) (kf b) = decide (a = b)) {l : List (N × A)} {x : N} {a : A} (h : lkG l x = none) : putD (l.map fun p => (kf p.1, vf p.2)) (kf x) (vf a) = (l ++ [(x, a)]).map fun p => (kf p.1, vf p.2) := by
  unfold putD
  rw [if_neg]
  · rw [List.map_append]; rfl
  · rw [List.any_eq_true]
    rintro ⟨kv, m, e⟩
    obtain ⟨q, hq, rfl⟩ := List.mem_map.mp m
    have e : PyData.eqv (kf q.1) (kf x) = true := e
    rw [hk] at e
    exact lkG_none.mp h (List.mem_map.mpr ⟨q, hq, of_decide_eq_true e⟩)
end
theorem nat_nodup : ∀ (n : Nat) (l : List Nat), l.Nodup → (∀ x ∈ l, x < n) → l.length ≤ n
  | 0, l, _, h => by
    cases l with
    | nil => exact Nat.le_refl _
    | cons a l => exact absurd (h a List.mem_cons_self) (Nat.not_lt_zero _)
  | n + 1, l, nd, h => by
    by_cases m : n ∈ l
    · have := nat_nodup n (l.erase n) (nd.erase n) fun x hx => by
        rw [nd.mem_erase_iff] at hx
        have := h x hx.2
        omega
      rw [List.length_erase_of_mem m] at this
      omega
    · have := nat_nodup n l nd fun x hx => by
        have := h x hx
        have : x ≠ n := fun z => m (z ▸ hx)
        omega
      omega
theorem int_nodup {n : Nat} {l : List Int} (nd : l.Nodup) (h : ∀ x ∈ l, 0 ≤ x ∧ x < n) : l.length ≤ n := by
  have := nat_nodup n (l.map Int.toNat) (List.pairwise_map.mpr (nd.imp_of_mem fun {a b} ma mb ne z => ne (by
    have ra := h a ma
    have rb := h b mb
    omega))) fun x hx => by
      obtain ⟨y, hy, rfl⟩ := List.mem_map.mp hx
      have := h y hy
      omega
  rwa [List.length_map] at this
theorem pair_nodup {m n : Nat} {l : List (Int × Int)} (nd : l.Nodup) (h : ∀ x ∈ l, (0 ≤ x.1 ∧ x.1 < m) ∧ 0 ≤ x.2 ∧ x.2 < n) : l.length ≤ m * n := by
  have := nat_nodup (m * n) (l.map fun x => x.1.toNat * n + x.2.toNat) (List.pairwise_map.mpr (nd.imp_of_mem fun {a b} ma mb ne z => ne (by
    have ra := h a ma
    have rb := h b mb
    have hq : 0 < n := by omega
    have e1 : a.2.toNat = b.2.toNat := by
      have := congrArg (· % n) z
      simpa [Nat.mul_add_mod_self_right, Nat.mod_eq_of_lt (show a.2.toNat < n by omega), Nat.mod_eq_of_lt (show b.2.toNat < n by omega)] using this
    have e2 : a.1.toNat = b.1.toNat := by
      rw [e1] at z
      exact Nat.eq_of_mul_eq_mul_right hq (Nat.add_right_cancel z)
    exact Prod.ext (by omega) (by omega)))) fun x hx => by
      obtain ⟨y, hy, rfl⟩ := List.mem_map.mp hx
      have r := h y hy
      calc y.1.toNat * n + y.2.toNat < y.1.toNat * n + n := by omega
        _ = (y.1.toNat + 1) * n := by rw [Nat.succ_mul]
        _ ≤ m * n := Nat.mul_le_mul_right _ (by omega)
  rwa [List.length_map] at this
end TP

namespace TP
open PySem PySem.Spec PyProof.Rows L2
theorem w_cell_at {ns : List Int} {k : Nat} {Q : O → Prop} (hb : ∀ z ∈ ns, Builtin.Int.intBits z ≤ 1048576) (q : ∀ c, Builtin.Int.intBits c ≤ 1048576 → Q (oI c)) : Wp (M_law_cell_at [.scr ns, oI (k : Nat)]) Q := by
  simp only [M_law_cell_at, B_law_cell_at, XR, List.getElem?_cons_zero, List.getElem?_cons_succ, List.set_cons_zero, List.set_cons_succ, List.length_cons, List.length_nil, List.length_map, List.length_range, List.length_append, List.length_set, List.map_cons, List.map_nil, List.replicate_succ, List.replicate_zero, List.cons_append, List.nil_append, List.append_nil, Nat.reduceLeDiff, Nat.reduceLT, Nat.zero_lt_succ, Int.reduceLT, Int.reduceLE, Int.reduceAdd, Int.reduceToNat, Int.cast_ofNat_Int, Int.natCast_zero, Int.natCast_one, Int.reduceEq, Int.reduceNe, Nat.reduceEqDiff, eq_self, beq_self_eq_true, Bool.true_beq, Bool.false_beq, Classical.not_not, Bool.not_eq_false, Int.reduceNeg, Int.reducePow, Option.bind_some, Option.bind_none, Option.map_some, Option.map_none, Option.or_some, Option.or_none, Option.none_or, Option.some_or, Option.or, decide_eq_true_eq, if_true, if_false, ite_true, ite_false, and_true, true_and, Bool.not_eq_true, Bool.not_true, Bool.not_false, Bool.true_eq_false, Bool.false_eq_true, imp_false, not_false_eq_true, not_true_eq_false, forall_const, true_implies, false_implies, reduceCtorEq, Nat.reduceAdd, Nat.reduceSub, Nat.reduceLT, decide_true, decide_false, Bool.or_true, Bool.true_or, Bool.or_false, Bool.false_or, Bool.and_true, Bool.true_and, Bool.and_false, Bool.false_and, and_false, false_and, or_true, true_or, or_false, false_or, not_true, not_false]
  constructor
  · intro h
    refine ixD_mem (by omega) h fun x e => q x (hb x (List.mem_of_getElem? e))
  · intro _
    exact q 0 (by decide)
def CellOk (c : Int) : Prop := Builtin.Int.intBits c ≤ 1048576
theorem cPow_mixed {c k : Int} (hc : CellOk c) (hk : -1000000 ≤ k ∧ k ≤ 1000000) : cPow (c + 7919 * k + 11) 3 = true := by
  unfold cPow
  have h1 : Builtin.Int.intBits (7919 * k + 11) ≤ 64 := PySem.intBits_le_of_natAbs (y := 7919 * 1000000 + 11) (by omega) (by decide)
  have h2 := PySem.intBits_add_le hc h1
  rw [← Int.add_assoc] at h2
  have h3 : max 1048576 64 + 1 = 1048577 := rfl
  rw [h3] at h2
  rw [Bool.and_eq_true, decide_eq_true_eq, decide_eq_true_eq]
  omega
theorem w_mixed {c k : Int} {Q : O → Prop} (hc : CellOk c) (hk : -1000000 ≤ k ∧ k ≤ 1000000) (q : ∀ m, 0 ≤ m → m < 2147483647 → Q (oI m)) : Wp (M_law_mixed [oI c, oI k]) Q := by
  have h := cPow_mixed hc hk
  simp only [M_law_mixed, B_law_mixed, XR, List.getElem?_cons_zero, List.getElem?_cons_succ, List.set_cons_zero, List.set_cons_succ, List.length_cons, List.length_nil, List.length_map, List.length_range, List.length_append, List.length_set, List.map_cons, List.map_nil, List.replicate_succ, List.replicate_zero, List.cons_append, List.nil_append, List.append_nil, Nat.reduceLeDiff, Nat.reduceLT, Nat.zero_lt_succ, Int.reduceLT, Int.reduceLE, Int.reduceAdd, Int.reduceToNat, Int.cast_ofNat_Int, Int.natCast_zero, Int.natCast_one, Int.reduceEq, Int.reduceNe, Nat.reduceEqDiff, eq_self, beq_self_eq_true, Bool.true_beq, Bool.false_beq, Classical.not_not, Bool.not_eq_false, Int.reduceNeg, Int.reducePow, Option.bind_some, Option.bind_none, Option.map_some, Option.map_none, Option.or_some, Option.or_none, Option.none_or, Option.some_or, Option.or, decide_eq_true_eq, if_true, if_false, ite_true, ite_false, and_true, true_and, Bool.not_eq_true, Bool.not_true, Bool.not_false, Bool.true_eq_false, Bool.false_eq_true, imp_false, not_false_eq_true, not_true_eq_false, forall_const, true_implies, false_implies, reduceCtorEq, Nat.reduceAdd, Nat.reduceSub, Nat.reduceLT, decide_true, decide_false, Bool.or_true, Bool.true_or, Bool.or_false, Bool.false_or, Bool.and_true, Bool.true_and, Bool.and_false, Bool.false_and, and_false, false_and, or_true, true_or, or_false, false_or, not_true, not_false, h]
  exact q _ (by omega) (by omega)
theorem w_goal {c at' k m : Int} {Q : O → Prop} (hc : CellOk c) (ha : 0 ≤ at' ∧ at' < m) (hm : m ≤ 12) (hk : 0 ≤ k ∧ k ≤ 1000) (q : ∀ g, 0 ≤ g → g < m → Q (oI g)) : Wp (M_law_goal [oI c, oI at', oI k, oI m]) Q := by
  simp only [M_law_goal, B_law_goal, XR, List.getElem?_cons_zero, List.getElem?_cons_succ, List.set_cons_zero, List.set_cons_succ, List.length_cons, List.length_nil, List.length_map, List.length_range, List.length_append, List.length_set, List.map_cons, List.map_nil, List.replicate_succ, List.replicate_zero, List.cons_append, List.nil_append, List.append_nil, Nat.reduceLeDiff, Nat.reduceLT, Nat.zero_lt_succ, Int.reduceLT, Int.reduceLE, Int.reduceAdd, Int.reduceToNat, Int.cast_ofNat_Int, Int.natCast_zero, Int.natCast_one, Int.reduceEq, Int.reduceNe, Nat.reduceEqDiff, eq_self, beq_self_eq_true, Bool.true_beq, Bool.false_beq, Classical.not_not, Bool.not_eq_false, Int.reduceNeg, Int.reducePow, Option.bind_some, Option.bind_none, Option.map_some, Option.map_none, Option.or_some, Option.or_none, Option.none_or, Option.some_or, Option.or, decide_eq_true_eq, if_true, if_false, ite_true, ite_false, and_true, true_and, Bool.not_eq_true, Bool.not_true, Bool.not_false, Bool.true_eq_false, Bool.false_eq_true, imp_false, not_false_eq_true, not_true_eq_false, forall_const, true_implies, false_implies, reduceCtorEq, Nat.reduceAdd, Nat.reduceSub, Nat.reduceLT, decide_true, decide_false, Bool.or_true, Bool.true_or, Bool.or_false, Bool.false_or, Bool.and_true, Bool.true_and, Bool.and_false, Bool.false_and, and_false, false_and, or_true, true_or, or_false, false_or, not_true, not_false]
  refine w_mixed (bits_ediv hc (by decide)) (by omega) fun x h0 h1 => ?_
  simp only [XR, List.getElem?_cons_zero, List.getElem?_cons_succ, List.set_cons_zero, List.set_cons_succ, List.length_cons, List.length_nil, List.length_map, List.length_range, List.length_append, List.length_set, List.map_cons, List.map_nil, List.replicate_succ, List.replicate_zero, List.cons_append, List.nil_append, List.append_nil, Nat.reduceLeDiff, Nat.reduceLT, Nat.zero_lt_succ, Int.reduceLT, Int.reduceLE, Int.reduceAdd, Int.reduceToNat, Int.cast_ofNat_Int, Int.natCast_zero, Int.natCast_one, Int.reduceEq, Int.reduceNe, Nat.reduceEqDiff, eq_self, beq_self_eq_true, Bool.true_beq, Bool.false_beq, Classical.not_not, Bool.not_eq_false, Int.reduceNeg, Int.reducePow, Option.bind_some, Option.bind_none, Option.map_some, Option.map_none, Option.or_some, Option.or_none, Option.none_or, Option.some_or, Option.or, decide_eq_true_eq, if_true, if_false, ite_true, ite_false, and_true, true_and, Bool.not_eq_true, Bool.not_true, Bool.not_false, Bool.true_eq_false, Bool.false_eq_true, imp_false, not_false_eq_true, not_true_eq_false, forall_const, true_implies, false_implies, reduceCtorEq, Nat.reduceAdd, Nat.reduceSub, Nat.reduceLT, decide_true, decide_false, Bool.or_true, Bool.true_or, Bool.or_false, Bool.false_or, Bool.and_true, Bool.true_and, Bool.and_false, Bool.false_and, and_false, false_and, or_true, true_or, or_false, false_or, not_true, not_false]
  refine ⟨by omega, ixD_in (by omega) (by simp only [List.length_cons, List.length_nil]; omega) ?_⟩
  have e1 := Int.emod_nonneg (x / 4) (b := m) (by omega)
  have e2 := Int.emod_lt_of_pos (x / 4) (b := m) (by omega)
  simp only [List.forall_mem_cons]
  refine ⟨q _ ?_ ?_, q _ ?_ ?_, q _ e1 e2, q _ (by omega) (by omega), fun _ z => by cases z⟩ <;> (split <;> omega)
/-! ### words -/
def wOk (x : Str) : Prop := 1 ≤ x.cps.toList.length ∧ x.cps.toList.length ≤ 8 ∧ ∀ c ∈ x.cps.toList, c ∈ ("abcdefghijklmnopqrstuvwxyz" : Str).cps.toList
def wLt (x y : Str) : Prop := x.cps.toList < y.cps.toList
instance (x : Str) : Decidable (wOk x) := inferInstanceAs (Decidable (_ ∧ _ ∧ _))
instance (x y : Str) : Decidable (wLt x y) := inferInstanceAs (Decidable (_ < _))
theorem shaped_w {x : Str} (h : wOk x) : SeqAt.shaped (.str x) = true := by
  obtain ⟨_, h2, h3⟩ := h
  have e : PyData.strOk x = true := by
    unfold PyData.strOk
    rw [← Array.all_toList, List.all_eq_true]
    intro c m
    have : ∀ c ∈ ("abcdefghijklmnopqrstuvwxyz" : Str).cps.toList, decide (c < 0x110000) = true := by decide +kernel
    exact this c (h3 c m)
  simp only [SeqAt.shaped, PyData.canLay0, PyData.depth, e]
  rfl
theorem wLe_lt {x y : Str} (h : ¬ wLt y x) (n : x ≠ y) : wLt x y := by
  rcases List.le_iff_lt_or_eq.mp (List.not_lt.mp h) with h | h
  · exact h
  · exact absurd (show x = y by cases x; cases y; simp only [Array.toList_inj] at h; rw [h]) n
theorem wLt_irr (x : Str) : ¬ wLt x x := List.lt_irrefl _
theorem wLt_trans {x y z : Str} (h : wLt x y) (g : wLt y z) : wLt x z := List.lt_trans h g
theorem dst_nodup (xs : List Key) (h : (dst xs).length = xs.length) : xs.Nodup := by
  have le : ∀ (xs acc : List Key), (xs.foldl dstA acc).length ≤ acc.length + xs.length := by
    intro xs
    induction xs with
    | nil => intro acc; exact Nat.le_refl _
    | cons x xs ih =>
      intro acc
      rw [List.foldl_cons, List.length_cons]
      have h := ih (dstA acc x)
      have h2 : (dstA acc x).length ≤ acc.length + 1 := by
        unfold dstA
        split
        · omega
        · rw [List.length_append, List.length_singleton]
          exact Nat.le_refl _
      omega
  have all : ∀ (xs acc : List Key), (xs.foldl dstA acc).length = acc.length + xs.length → acc.Nodup → (acc ++ xs).Nodup := by
    intro xs
    induction xs with
    | nil => intro acc _ h; rw [List.append_nil]; exact h
    | cons x xs ih =>
      intro acc h n
      rw [List.foldl_cons, List.length_cons] at h
      by_cases hk : memK x acc = true
      · have e : dstA acc x = acc := by unfold dstA; rw [if_pos hk]
        rw [e] at h
        have := le xs acc
        omega
      · have e : dstA acc x = acc ++ [x] := by unfold dstA; rw [if_neg hk]
        rw [e] at h
        have hx : x ∉ acc := fun m => hk (memK_iff.mpr m)
        have h2 := ih (acc ++ [x]) (by rw [h, List.length_append, List.length_singleton]; omega) (by
          rw [List.nodup_append]
          exact ⟨n, by simp, fun a ha b hb z => hx (by rw [List.mem_singleton.mp hb] at z; rw [← z]; exact ha)⟩)
        rw [List.append_assoc] at h2
        exact h2
  exact all xs [] (by rw [List.length_nil, Nat.zero_add]; exact h) List.nodup_nil
/-- texts in order -/
theorem sortD_str (ws : List Str) : ∃ ws' : List Str, sortD (ws.map .str) = ws'.map .str ∧ ws'.Perm ws ∧ ws'.Pairwise fun a b => ¬ wLt b a := by
  refine ⟨ws.mergeSort (PySem.W.dataLe false fun b : Str => PyData.str b), (PySem.W.sort_maps PyData.str fun _ _ _ _ => rfl).symm, List.mergeSort_perm _ _, ?_⟩
  have T : PySem.W.TotalLe (PySem.W.dataLe false fun b : Str => PyData.str b) := PySem.W.sortLe_total _ false _
  refine (PySem.W.sort_pairwise T ws).imp fun {a b} h z => ?_
  have e : (!PySem.W.dataLt (.str b) (.str a)) = true := h
  rw [PySem.W.dataLt_str, decide_eq_true (show b.cps.toList < a.cps.toList from z)] at e
  cases e
theorem sortD_pair (ps : List (Str × Int)) (f : Str × Int → D := fun p => .tuple [.str p.1, .int p.2]) (hf : f = fun p => .tuple [.str p.1, .int p.2] := by rfl) : ∃ ps' : List (Str × Int), sortD (ps.map f) = ps'.map f ∧ ps'.Perm ps ∧ ps'.Pairwise fun a b => ¬ wLt b.1 a.1 := by
  subst hf
  refine ⟨ps.mergeSort (PySem.W.dataLe false fun b : Str × Int => PyData.tuple [.str b.1, .int b.2]), (PySem.W.sort_maps (fun p : Str × Int => PyData.tuple [.str p.1, .int p.2]) fun _ _ _ _ => rfl).symm, List.mergeSort_perm _ _, ?_⟩
  have T : PySem.W.TotalLe (PySem.W.dataLe false fun b : Str × Int => PyData.tuple [.str b.1, .int b.2]) := PySem.W.sortLe_total _ false _
  refine (PySem.W.sort_pairwise T ps).imp fun {a b} h z => ?_
  have e : (!PySem.W.dataLt (.tuple [.str b.1, .int b.2]) (.tuple [.str a.1, .int a.2])) = true := h
  rw [PySem.W.dataLt_pair (by simp [PySem.W.alike]) (by simp [PySem.W.alike]), eqv_ss, PySem.W.dataLt_str, if_neg, decide_eq_true (show b.1.cps.toList < a.1.cps.toList from z)] at e
  · cases e
  · rw [decide_eq_true_eq]
    intro z2
    rw [z2] at z
    exact wLt_irr _ z
theorem w_letter {i : Int} {P : Nat → Prop} (h : 0 ≤ i ∧ i < 26) (q : ∀ c, c ∈ ("abcdefghijklmnopqrstuvwxyz" : Str).cps.toList → P c) : ("abcdefghijklmnopqrstuvwxyz" : Str).length ≤ 1000000 ∧ Wp (ixD ("abcdefghijklmnopqrstuvwxyz" : Str).cps.toList i) P :=
  ⟨by decide +kernel, ixD_in h.1 ((show (26 : Int) = (List.length ("abcdefghijklmnopqrstuvwxyz" : Str).cps.toList : Nat) by decide +kernel) ▸ h.2) q⟩
def lets (ds : List D) : Prop := ∀ d ∈ ds, ∃ c, d = .str ⟨#[c]⟩ ∧ c ∈ ("abcdefghijklmnopqrstuvwxyz" : Str).cps.toList
theorem join_lets {ds : List D} (h : lets ds) : ∃ ys, asSs ds = some ys ∧ (ys.map (·.length)).sum = ds.length ∧ ys.length = ds.length ∧ (Txt.join "" ys).cps.toList.length = ds.length ∧ ∀ c ∈ (Txt.join "" ys).cps.toList, c ∈ ("abcdefghijklmnopqrstuvwxyz" : Str).cps.toList := by
  have e0 : ∀ l : List (List Nat), TL.joinL [] l = l.flatten := by
    intro l
    induction l with
    | nil => rfl
    | cons a t ih =>
      cases t with
      | nil => simp [TL.joinL]
      | cons b t => rw [TL.joinL, ih]; simp
  have e1 : ∀ ys : List Str, (Txt.join "" ys).cps.toList = (ys.map TL.tl).flatten := fun ys => by
    rw [TL.join_eq]
    exact (TL.tl_join _ ys).trans (e0 _)
  have main : ∃ ys, asSs ds = some ys ∧ (ys.map (·.length)).sum = ds.length ∧ ys.length = ds.length ∧ ((ys.map TL.tl).flatten).length = ds.length ∧ ∀ c ∈ (ys.map TL.tl).flatten, c ∈ ("abcdefghijklmnopqrstuvwxyz" : Str).cps.toList := by
    induction ds with
    | nil => exact ⟨[], rfl, rfl, rfl, rfl, fun c m => by cases m⟩
    | cons d ds ih =>
      obtain ⟨c, rfl, hc⟩ := h d List.mem_cons_self
      obtain ⟨ys, e, h1, h2, h3, h4⟩ := ih fun d m => h d (List.mem_cons_of_mem _ m)
      refine ⟨⟨#[c]⟩ :: ys, by simp only [asSs, e, Option.map_some], ?_, by simp [h2], ?_, ?_⟩
      · rw [List.map_cons, List.sum_cons, h1, List.length_cons]
        show 1 + _ = _
        omega
      · rw [List.map_cons, List.flatten_cons, List.length_append, h3, List.length_cons]
        exact Nat.add_comm 1 _
      · rw [List.map_cons, List.flatten_cons]
        intro x m
        rcases List.mem_append.mp m with m | m
        · rw [List.mem_singleton.mp (show x ∈ [c] from m)]; exact hc
        · exact h4 x m
  obtain ⟨ys, a, b, c, d, e⟩ := main
  exact ⟨ys, a, b, c, by rw [e1]; exact d, by rw [e1]; exact e⟩
theorem wp_ixN {n : Nat} {i : Int} {Q : Nat → Prop} (h0 : 0 ≤ i) (h1 : i < n) (q : ∀ k : Nat, k < n → (k : Int) = i → Q k) : Wp (ixN n i) Q := by
  unfold ixN
  rw [if_pos h0, if_pos h1]
  exact ⟨_, rfl, q _ (by omega) (by omega)⟩
theorem lets_set {ds : List D} {d : D} (h : lets ds) (hd : ∃ c, d = .str ⟨#[c]⟩ ∧ c ∈ ("abcdefghijklmnopqrstuvwxyz" : Str).cps.toList) (k : Nat) : lets (ds.set k d) := fun x m => by
  rcases List.mem_or_eq_of_mem_set m with m | rfl
  · exact h x m
  · exact hd
theorem w_join {ds : List D} {R : List Str → Prop} (hl : lets ds) (h1 : 1 ≤ ds.length) (h8 : ds.length ≤ 8) (q : ∀ x, wOk (Txt.join "" x) → R x) : Wp (asSs ds) fun x => (x.map (·.length)).sum + x.length * Str.length "" ≤ 1000000 ∧ R x := by
  obtain ⟨ys, e, a, b, c, d⟩ := join_lets hl
  refine ⟨ys, e, ?_, q ys ⟨by omega, by omega, d⟩⟩
  rw [a, b]
  show ds.length + ds.length * 0 ≤ _
  omega
theorem w_lets {n j : Nat} {f : Ex} {env : En} {Q : List D → Prop} (hj : j < env.length) (h : ∀ k : Nat, k < n → Wp (tgN j (.int (k : Nat)) env) fun e1 => Wp (f e1) fun o => ∃ c, o = oS ⟨#[c]⟩ ∧ c ∈ ("abcdefghijklmnopqrstuvwxyz" : Str).cps.toList) (q : ∀ ds, lets ds → ds.length = n → Q ds) : Wp (lcL (tgN j) eYes f env ((List.range n).map fun i => .int (i : Nat))) Q := by
  refine lcL_wp (fun _ _ y => ∃ c, y = .str ⟨#[c]⟩ ∧ c ∈ ("abcdefghijklmnopqrstuvwxyz" : Str).cps.toList) (fun i d e => ?_) fun ys hl hp => q ys (fun d m => ?_) (by rw [hl, List.length_map, List.length_range])
  · obtain ⟨rfl, hi⟩ := rng_get e
    refine (h i hi).imp fun e1 z => ⟨rfl, z.imp ?_⟩
    rintro _ ⟨c, rfl, hc⟩
    exact ⟨_, rfl, c, rfl, hc⟩
  · obtain ⟨i, hi, rfl⟩ := List.mem_iff_getElem.mp m
    exact hp i _ _ (List.getElem?_eq_getElem (by rw [← hl]; exact hi)) (List.getElem?_eq_getElem hi)
theorem w_words {c : Int} {Q : O → Prop} (hc : CellOk c) (q : ∀ ws : List Str, ws.length = 6 → (∀ w ∈ ws, wOk w) → ws.Pairwise wLt → Q (.lst (ws.map .str))) : Wp (M_law_words [oI c]) Q := by
  simp only [M_law_words, B_law_words, XR, List.getElem?_cons_zero, List.getElem?_cons_succ, List.set_cons_zero, List.set_cons_succ, List.length_cons, List.length_nil, List.length_map, List.length_range, List.length_append, List.length_set, List.map_cons, List.map_nil, List.replicate_succ, List.replicate_zero, List.cons_append, List.nil_append, List.append_nil, Nat.reduceLeDiff, Nat.reduceLT, Nat.zero_lt_succ, Int.reduceLT, Int.reduceLE, Int.reduceAdd, Int.reduceToNat, Int.cast_ofNat_Int, Int.natCast_zero, Int.natCast_one, Int.reduceEq, Int.reduceNe, Nat.reduceEqDiff, eq_self, beq_self_eq_true, Bool.true_beq, Bool.false_beq, Classical.not_not, Bool.not_eq_false, Int.reduceNeg, Int.reducePow, Option.bind_some, Option.bind_none, Option.map_some, Option.map_none, Option.or_some, Option.or_none, Option.none_or, Option.some_or, Option.or, decide_eq_true_eq, if_true, if_false, ite_true, ite_false, and_true, true_and, Bool.not_eq_true, Bool.not_true, Bool.not_false, Bool.true_eq_false, Bool.false_eq_true, imp_false, not_false_eq_true, not_true_eq_false, forall_const, true_implies, false_implies, reduceCtorEq, Nat.reduceAdd, Nat.reduceSub, Nat.reduceLT, decide_true, decide_false, Bool.or_true, Bool.true_or, Bool.or_false, Bool.false_or, Bool.and_true, Bool.true_and, Bool.and_false, Bool.false_and, and_false, false_and, or_true, true_or, or_false, false_or, not_true, not_false]
  refine wp_for (fun i e => ∃ (ws : List Str) (a b d f g : Sl), (∀ w ∈ ws, wOk w) ∧ ws.length = i ∧ e = [.shr (oI c), .shr (oS "abcdefghijklmnopqrstuvwxyz"), .shr (oI (1 + c / 3 % 8)), .own (.lst (ws.map .str)), a, b, d, f, g]) ⟨[], _, _, _, _, _, by simp, rfl, rfl⟩ ?_ ?_
  · rintro i d e hi ⟨ws, a, b, d', f, g, hw, hl, rfl⟩
    obtain ⟨rfl, hi⟩ := rng_get hi
    simp only [L_law_words_1, XR, List.getElem?_cons_zero, List.getElem?_cons_succ, List.set_cons_zero, List.set_cons_succ, List.length_cons, List.length_nil, List.length_map, List.length_range, List.length_append, List.length_set, List.map_cons, List.map_nil, List.replicate_succ, List.replicate_zero, List.cons_append, List.nil_append, List.append_nil, Nat.reduceLeDiff, Nat.reduceLT, Nat.zero_lt_succ, Int.reduceLT, Int.reduceLE, Int.reduceAdd, Int.reduceToNat, Int.cast_ofNat_Int, Int.natCast_zero, Int.natCast_one, Int.reduceEq, Int.reduceNe, Nat.reduceEqDiff, eq_self, beq_self_eq_true, Bool.true_beq, Bool.false_beq, Classical.not_not, Bool.not_eq_false, Int.reduceNeg, Int.reducePow, Option.bind_some, Option.bind_none, Option.map_some, Option.map_none, Option.or_some, Option.or_none, Option.none_or, Option.some_or, Option.or, decide_eq_true_eq, if_true, if_false, ite_true, ite_false, and_true, true_and, Bool.not_eq_true, Bool.not_true, Bool.not_false, Bool.true_eq_false, Bool.false_eq_true, imp_false, not_false_eq_true, not_true_eq_false, forall_const, true_implies, false_implies, reduceCtorEq, Nat.reduceAdd, Nat.reduceSub, Nat.reduceLT, decide_true, decide_false, Bool.or_true, Bool.true_or, Bool.or_false, Bool.false_or, Bool.and_true, Bool.true_and, Bool.and_false, Bool.false_and, and_false, false_and, or_true, true_or, or_false, false_or, not_true, not_false]
    refine ⟨by omega, by omega, ?_⟩
    refine w_lets (by simp only [XR, List.getElem?_cons_zero, List.getElem?_cons_succ, List.set_cons_zero, List.set_cons_succ, List.length_cons, List.length_nil, List.length_map, List.length_range, List.length_append, List.length_set, List.map_cons, List.map_nil, List.replicate_succ, List.replicate_zero, List.cons_append, List.nil_append, List.append_nil, Nat.reduceLeDiff, Nat.reduceLT, Nat.zero_lt_succ, Int.reduceLT, Int.reduceLE, Int.reduceAdd, Int.reduceToNat, Int.cast_ofNat_Int, Int.natCast_zero, Int.natCast_one, Int.reduceEq, Int.reduceNe, Nat.reduceEqDiff, eq_self, beq_self_eq_true, Bool.true_beq, Bool.false_beq, Classical.not_not, Bool.not_eq_false, Int.reduceNeg, Int.reducePow, Option.bind_some, Option.bind_none, Option.map_some, Option.map_none, Option.or_some, Option.or_none, Option.none_or, Option.some_or, Option.or, decide_eq_true_eq, if_true, if_false, ite_true, ite_false, and_true, true_and, Bool.not_eq_true, Bool.not_true, Bool.not_false, Bool.true_eq_false, Bool.false_eq_true, imp_false, not_false_eq_true, not_true_eq_false, forall_const, true_implies, false_implies, reduceCtorEq, Nat.reduceAdd, Nat.reduceSub, Nat.reduceLT, decide_true, decide_false, Bool.or_true, Bool.true_or, Bool.or_false, Bool.false_or, Bool.and_true, Bool.true_and, Bool.and_false, Bool.false_and, and_false, false_and, or_true, true_or, or_false, false_or, not_true, not_false]) (fun k hk => ?_) fun row hr hrl => ?_
    · simp only [XR, List.getElem?_cons_zero, List.getElem?_cons_succ, List.set_cons_zero, List.set_cons_succ, List.length_cons, List.length_nil, List.length_map, List.length_range, List.length_append, List.length_set, List.map_cons, List.map_nil, List.replicate_succ, List.replicate_zero, List.cons_append, List.nil_append, List.append_nil, Nat.reduceLeDiff, Nat.reduceLT, Nat.zero_lt_succ, Int.reduceLT, Int.reduceLE, Int.reduceAdd, Int.reduceToNat, Int.cast_ofNat_Int, Int.natCast_zero, Int.natCast_one, Int.reduceEq, Int.reduceNe, Nat.reduceEqDiff, eq_self, beq_self_eq_true, Bool.true_beq, Bool.false_beq, Classical.not_not, Bool.not_eq_false, Int.reduceNeg, Int.reducePow, Option.bind_some, Option.bind_none, Option.map_some, Option.map_none, Option.or_some, Option.or_none, Option.none_or, Option.some_or, Option.or, decide_eq_true_eq, if_true, if_false, ite_true, ite_false, and_true, true_and, Bool.not_eq_true, Bool.not_true, Bool.not_false, Bool.true_eq_false, Bool.false_eq_true, imp_false, not_false_eq_true, not_true_eq_false, forall_const, true_implies, false_implies, reduceCtorEq, Nat.reduceAdd, Nat.reduceSub, Nat.reduceLT, decide_true, decide_false, Bool.or_true, Bool.true_or, Bool.or_false, Bool.false_or, Bool.and_true, Bool.true_and, Bool.and_false, Bool.false_and, and_false, false_and, or_true, true_or, or_false, false_or, not_true, not_false]
      exact w_letter (by omega) fun c hc => ⟨c, rfl, hc⟩
    refine ⟨by omega, w_letter (by omega) fun l hl' => ?_⟩
    have m1 := Int.emod_nonneg (c / 5) (b := 1 + c / 3 % 8) (by omega)
    have m2 := Int.emod_lt_of_pos (c / 5) (b := 1 + c / 3 % 8) (by omega)
    refine wp_ixN (by omega) (by omega) fun k hk _ => ?_
    refine w_join (lets_set hr ⟨l, rfl, hl'⟩ k) (by rw [List.length_set]; omega) (by rw [List.length_set]; omega) fun x hx => ?_
    have fin : ∀ (x : Str) (a b d f g : Sl), wOk x → ws.length ≤ 999999 ∧ ∃ (ws_1 : List Str) (a' b' d' f' g' : Sl), (∀ (w : Str), w ∈ ws_1 → wOk w) ∧ ws_1.length = i + 1 ∧ [Sl.shr (oI c), .shr (oS "abcdefghijklmnopqrstuvwxyz"), .shr (oI (1 + c / 3 % 8)), .own (.lst (ws.map .str ++ [.str x])), a, b, d, f, g] = [Sl.shr (oI c), .shr (oS "abcdefghijklmnopqrstuvwxyz"), .shr (oI (1 + c / 3 % 8)), .own (.lst (ws_1.map .str)), a', b', d', f', g'] := fun x a b d f g h => by
      refine ⟨by omega, ws ++ [x], a, b, d, f, g, fun w m => ?_, by rw [List.length_append, hl]; rfl, by rw [List.map_append]; rfl⟩
      rcases List.mem_append.mp m with m | m
      · exact hw w m
      · rw [List.mem_singleton.mp m]; exact h
    refine ⟨fun h1 => ⟨by omega, by omega, w_lets (by simp only [XR, List.getElem?_cons_zero, List.getElem?_cons_succ, List.set_cons_zero, List.set_cons_succ, List.length_cons, List.length_nil, List.length_map, List.length_range, List.length_append, List.length_set, List.map_cons, List.map_nil, List.replicate_succ, List.replicate_zero, List.cons_append, List.nil_append, List.append_nil, Nat.reduceLeDiff, Nat.reduceLT, Nat.zero_lt_succ, Int.reduceLT, Int.reduceLE, Int.reduceAdd, Int.reduceToNat, Int.cast_ofNat_Int, Int.natCast_zero, Int.natCast_one, Int.reduceEq, Int.reduceNe, Nat.reduceEqDiff, eq_self, beq_self_eq_true, Bool.true_beq, Bool.false_beq, Classical.not_not, Bool.not_eq_false, Int.reduceNeg, Int.reducePow, Option.bind_some, Option.bind_none, Option.map_some, Option.map_none, Option.or_some, Option.or_none, Option.none_or, Option.some_or, Option.or, decide_eq_true_eq, if_true, if_false, ite_true, ite_false, and_true, true_and, Bool.not_eq_true, Bool.not_true, Bool.not_false, Bool.true_eq_false, Bool.false_eq_true, imp_false, not_false_eq_true, not_true_eq_false, forall_const, true_implies, false_implies, reduceCtorEq, Nat.reduceAdd, Nat.reduceSub, Nat.reduceLT, decide_true, decide_false, Bool.or_true, Bool.true_or, Bool.or_false, Bool.false_or, Bool.and_true, Bool.true_and, Bool.and_false, Bool.false_and, and_false, false_and, or_true, true_or, or_false, false_or, not_true, not_false]) (fun k hk => ?_) fun row' hr' hrl' => w_join hr' (by omega) (by omega) fun y hy => ⟨fun h2 => absurd h1 (by omega), fun _ => fin _ _ _ _ _ _ hy⟩⟩, fun _ => ⟨fun h1 => ⟨by omega, by omega, w_lets (by simp only [XR, List.getElem?_cons_zero, List.getElem?_cons_succ, List.set_cons_zero, List.set_cons_succ, List.length_cons, List.length_nil, List.length_map, List.length_range, List.length_append, List.length_set, List.map_cons, List.map_nil, List.replicate_succ, List.replicate_zero, List.cons_append, List.nil_append, List.append_nil, Nat.reduceLeDiff, Nat.reduceLT, Nat.zero_lt_succ, Int.reduceLT, Int.reduceLE, Int.reduceAdd, Int.reduceToNat, Int.cast_ofNat_Int, Int.natCast_zero, Int.natCast_one, Int.reduceEq, Int.reduceNe, Nat.reduceEqDiff, eq_self, beq_self_eq_true, Bool.true_beq, Bool.false_beq, Classical.not_not, Bool.not_eq_false, Int.reduceNeg, Int.reducePow, Option.bind_some, Option.bind_none, Option.map_some, Option.map_none, Option.or_some, Option.or_none, Option.none_or, Option.some_or, Option.or, decide_eq_true_eq, if_true, if_false, ite_true, ite_false, and_true, true_and, Bool.not_eq_true, Bool.not_true, Bool.not_false, Bool.true_eq_false, Bool.false_eq_true, imp_false, not_false_eq_true, not_true_eq_false, forall_const, true_implies, false_implies, reduceCtorEq, Nat.reduceAdd, Nat.reduceSub, Nat.reduceLT, decide_true, decide_false, Bool.or_true, Bool.true_or, Bool.or_false, Bool.false_or, Bool.and_true, Bool.true_and, Bool.and_false, Bool.false_and, and_false, false_and, or_true, true_or, or_false, false_or, not_true, not_false]) (fun k hk => ?_) fun row' hr' hrl' => w_join hr' (by omega) (by omega) fun y hy => fin _ _ _ _ _ _ hy⟩, fun _ => fin _ _ _ _ _ _ hx⟩⟩
    · simp only [XR, List.getElem?_cons_zero, List.getElem?_cons_succ, List.set_cons_zero, List.set_cons_succ, List.length_cons, List.length_nil, List.length_map, List.length_range, List.length_append, List.length_set, List.map_cons, List.map_nil, List.replicate_succ, List.replicate_zero, List.cons_append, List.nil_append, List.append_nil, Nat.reduceLeDiff, Nat.reduceLT, Nat.zero_lt_succ, Int.reduceLT, Int.reduceLE, Int.reduceAdd, Int.reduceToNat, Int.cast_ofNat_Int, Int.natCast_zero, Int.natCast_one, Int.reduceEq, Int.reduceNe, Nat.reduceEqDiff, eq_self, beq_self_eq_true, Bool.true_beq, Bool.false_beq, Classical.not_not, Bool.not_eq_false, Int.reduceNeg, Int.reducePow, Option.bind_some, Option.bind_none, Option.map_some, Option.map_none, Option.or_some, Option.or_none, Option.none_or, Option.some_or, Option.or, decide_eq_true_eq, if_true, if_false, ite_true, ite_false, and_true, true_and, Bool.not_eq_true, Bool.not_true, Bool.not_false, Bool.true_eq_false, Bool.false_eq_true, imp_false, not_false_eq_true, not_true_eq_false, forall_const, true_implies, false_implies, reduceCtorEq, Nat.reduceAdd, Nat.reduceSub, Nat.reduceLT, decide_true, decide_false, Bool.or_true, Bool.true_or, Bool.or_false, Bool.false_or, Bool.and_true, Bool.true_and, Bool.and_false, Bool.false_and, and_false, false_and, or_true, true_or, or_false, false_or, not_true, not_false]
      exact w_letter (by omega) fun c hc => ⟨c, rfl, hc⟩
    · simp only [XR, List.getElem?_cons_zero, List.getElem?_cons_succ, List.set_cons_zero, List.set_cons_succ, List.length_cons, List.length_nil, List.length_map, List.length_range, List.length_append, List.length_set, List.map_cons, List.map_nil, List.replicate_succ, List.replicate_zero, List.cons_append, List.nil_append, List.append_nil, Nat.reduceLeDiff, Nat.reduceLT, Nat.zero_lt_succ, Int.reduceLT, Int.reduceLE, Int.reduceAdd, Int.reduceToNat, Int.cast_ofNat_Int, Int.natCast_zero, Int.natCast_one, Int.reduceEq, Int.reduceNe, Nat.reduceEqDiff, eq_self, beq_self_eq_true, Bool.true_beq, Bool.false_beq, Classical.not_not, Bool.not_eq_false, Int.reduceNeg, Int.reducePow, Option.bind_some, Option.bind_none, Option.map_some, Option.map_none, Option.or_some, Option.or_none, Option.none_or, Option.some_or, Option.or, decide_eq_true_eq, if_true, if_false, ite_true, ite_false, and_true, true_and, Bool.not_eq_true, Bool.not_true, Bool.not_false, Bool.true_eq_false, Bool.false_eq_true, imp_false, not_false_eq_true, not_true_eq_false, forall_const, true_implies, false_implies, reduceCtorEq, Nat.reduceAdd, Nat.reduceSub, Nat.reduceLT, decide_true, decide_false, Bool.or_true, Bool.true_or, Bool.or_false, Bool.false_or, Bool.and_true, Bool.true_and, Bool.and_false, Bool.false_and, and_false, false_and, or_true, true_or, or_false, false_or, not_true, not_false]
      refine w_mixed hc (by omega) fun m m0 m1 => ?_
      simp only [XR, List.getElem?_cons_zero, List.getElem?_cons_succ, List.set_cons_zero, List.set_cons_succ, List.length_cons, List.length_nil, List.length_map, List.length_range, List.length_append, List.length_set, List.map_cons, List.map_nil, List.replicate_succ, List.replicate_zero, List.cons_append, List.nil_append, List.append_nil, Nat.reduceLeDiff, Nat.reduceLT, Nat.zero_lt_succ, Int.reduceLT, Int.reduceLE, Int.reduceAdd, Int.reduceToNat, Int.cast_ofNat_Int, Int.natCast_zero, Int.natCast_one, Int.reduceEq, Int.reduceNe, Nat.reduceEqDiff, eq_self, beq_self_eq_true, Bool.true_beq, Bool.false_beq, Classical.not_not, Bool.not_eq_false, Int.reduceNeg, Int.reducePow, Option.bind_some, Option.bind_none, Option.map_some, Option.map_none, Option.or_some, Option.or_none, Option.none_or, Option.some_or, Option.or, decide_eq_true_eq, if_true, if_false, ite_true, ite_false, and_true, true_and, Bool.not_eq_true, Bool.not_true, Bool.not_false, Bool.true_eq_false, Bool.false_eq_true, imp_false, not_false_eq_true, not_true_eq_false, forall_const, true_implies, false_implies, reduceCtorEq, Nat.reduceAdd, Nat.reduceSub, Nat.reduceLT, decide_true, decide_false, Bool.or_true, Bool.true_or, Bool.or_false, Bool.false_or, Bool.and_true, Bool.true_and, Bool.and_false, Bool.false_and, and_false, false_and, or_true, true_or, or_false, false_or, not_true, not_false]
      exact w_letter (by omega) fun c hc => ⟨c, rfl, hc⟩
  · rintro e ⟨ws, a, b, d', f, g, hw, hl, rfl⟩
    simp only [XR, List.getElem?_cons_zero, List.getElem?_cons_succ, List.set_cons_zero, List.set_cons_succ, List.length_cons, List.length_nil, List.length_map, List.length_range, List.length_append, List.length_set, List.map_cons, List.map_nil, List.replicate_succ, List.replicate_zero, List.cons_append, List.nil_append, List.append_nil, Nat.reduceLeDiff, Nat.reduceLT, Nat.zero_lt_succ, Int.reduceLT, Int.reduceLE, Int.reduceAdd, Int.reduceToNat, Int.cast_ofNat_Int, Int.natCast_zero, Int.natCast_one, Int.reduceEq, Int.reduceNe, Nat.reduceEqDiff, eq_self, beq_self_eq_true, Bool.true_beq, Bool.false_beq, Classical.not_not, Bool.not_eq_false, Int.reduceNeg, Int.reducePow, Option.bind_some, Option.bind_none, Option.map_some, Option.map_none, Option.or_some, Option.or_none, Option.none_or, Option.some_or, Option.or, decide_eq_true_eq, if_true, if_false, ite_true, ite_false, and_true, true_and, Bool.not_eq_true, Bool.not_true, Bool.not_false, Bool.true_eq_false, Bool.false_eq_true, imp_false, not_false_eq_true, not_true_eq_false, forall_const, true_implies, false_implies, reduceCtorEq, Nat.reduceAdd, Nat.reduceSub, Nat.reduceLT, decide_true, decide_false, Bool.or_true, Bool.true_or, Bool.or_false, Bool.false_or, Bool.and_true, Bool.true_and, Bool.and_false, Bool.false_and, and_false, false_and, or_true, true_or, or_false, false_or, not_true, not_false]
    rw [List.length_map, List.length_range] at hl
    have ek : ∀ ws : List Str, asKs (ws.map .str) = some (ws.map .inr) := fun ws => by
      induction ws with
      | nil => rfl
      | cons w ws ih => rw [List.map_cons, asKs, ih]; rfl
    simp only [gSetLen, XR, List.getElem?_cons_zero, List.getElem?_cons_succ, List.set_cons_zero, List.set_cons_succ, List.length_cons, List.length_nil, List.length_map, List.length_range, List.length_append, List.length_set, List.map_cons, List.map_nil, List.replicate_succ, List.replicate_zero, List.cons_append, List.nil_append, List.append_nil, Nat.reduceLeDiff, Nat.reduceLT, Nat.zero_lt_succ, Int.reduceLT, Int.reduceLE, Int.reduceAdd, Int.reduceToNat, Int.cast_ofNat_Int, Int.natCast_zero, Int.natCast_one, Int.reduceEq, Int.reduceNe, Nat.reduceEqDiff, eq_self, beq_self_eq_true, Bool.true_beq, Bool.false_beq, Classical.not_not, Bool.not_eq_false, Int.reduceNeg, Int.reducePow, Option.bind_some, Option.bind_none, Option.map_some, Option.map_none, Option.or_some, Option.or_none, Option.none_or, Option.some_or, Option.or, decide_eq_true_eq, if_true, if_false, ite_true, ite_false, and_true, true_and, Bool.not_eq_true, Bool.not_true, Bool.not_false, Bool.true_eq_false, Bool.false_eq_true, imp_false, not_false_eq_true, not_true_eq_false, forall_const, true_implies, false_implies, reduceCtorEq, Nat.reduceAdd, Nat.reduceSub, Nat.reduceLT, decide_true, decide_false, Bool.or_true, Bool.true_or, Bool.or_false, Bool.false_or, Bool.and_true, Bool.true_and, Bool.and_false, Bool.false_and, and_false, false_and, or_true, true_or, or_false, false_or, not_true, not_false, ek]
    refine ⟨by rw [hl]; decide, fun _ => ?_, fun hd => ?_⟩
    · exact q ["ab", "abc", "b", "ba", "bab", "c"] rfl (by decide +kernel) (by decide +kernel)
    · have hd := of_decide_eq_false hd
      have h1 := dst_len_le (ws.map Sum.inr)
      rw [List.length_map] at h1
      have nd := dst_nodup (ws.map Sum.inr) (by rw [List.length_map]; omega)
      have nd2 : ws.Nodup := List.Pairwise.of_map Sum.inr (fun a b h => fun z => h (by rw [z])) nd
      obtain ⟨ws', e, pm, so⟩ := sortD_str ws
      have ok : sortOk (ws.map .str) = true := by
        simp only [sortOk, sm, Bool.and_eq_true, alikeL, sortKind, List.all_map, List.length_map, Bool.or_eq_true, List.all_eq_true, Function.comp]
        exact ⟨⟨by omega, fun _ _ _ _ => by simp [PySem.W.alike]⟩, .inr fun _ _ => trivial, fun w hw' => shaped_w (hw w hw')⟩
      simp only [gSorted, XR, List.getElem?_cons_zero, List.getElem?_cons_succ, List.set_cons_zero, List.set_cons_succ, List.length_cons, List.length_nil, List.length_map, List.length_range, List.length_append, List.length_set, List.map_cons, List.map_nil, List.replicate_succ, List.replicate_zero, List.cons_append, List.nil_append, List.append_nil, Nat.reduceLeDiff, Nat.reduceLT, Nat.zero_lt_succ, Int.reduceLT, Int.reduceLE, Int.reduceAdd, Int.reduceToNat, Int.cast_ofNat_Int, Int.natCast_zero, Int.natCast_one, Int.reduceEq, Int.reduceNe, Nat.reduceEqDiff, eq_self, beq_self_eq_true, Bool.true_beq, Bool.false_beq, Classical.not_not, Bool.not_eq_false, Int.reduceNeg, Int.reducePow, Option.bind_some, Option.bind_none, Option.map_some, Option.map_none, Option.or_some, Option.or_none, Option.none_or, Option.some_or, Option.or, decide_eq_true_eq, if_true, if_false, ite_true, ite_false, and_true, true_and, Bool.not_eq_true, Bool.not_true, Bool.not_false, Bool.true_eq_false, Bool.false_eq_true, imp_false, not_false_eq_true, not_true_eq_false, forall_const, true_implies, false_implies, reduceCtorEq, Nat.reduceAdd, Nat.reduceSub, Nat.reduceLT, decide_true, decide_false, Bool.or_true, Bool.true_or, Bool.or_false, Bool.false_or, Bool.and_true, Bool.true_and, Bool.and_false, Bool.false_and, and_false, false_and, or_true, true_or, or_false, false_or, not_true, not_false, ok, e]
      refine q ws' (by rw [pm.length_eq, hl]) (fun w m => hw w (pm.mem_iff.mp m)) ?_
      have nd3 := pm.nodup_iff.mpr nd2
      exact (List.pairwise_and_iff.mpr ⟨so, nd3⟩).imp fun {a b} h => wLe_lt h.1 h.2
/-! ### plans -/
inductive Stop where
  | fin
  | act (snd : Bool) (ways : List (Str × Int))
def wayD (p : Str × Int) : D := .tuple [.str p.1, .int p.2]
def kindD (snd : Bool) : D := .str (if snd = true then "send" else "get")
def stopD : Stop → D
  | .fin => .tuple [.str "end"]
  | .act b ws => .tuple [kindD b, .tuple (ws.map wayD)]
def planD (p : List Stop) : D := .list (p.map stopD)
structure WaysOk (m : Int) (ws : List (Str × Int)) : Prop where
  l1 : 1 ≤ ws.length
  l6 : ws.length ≤ 6
  ok : ∀ p ∈ ws, wOk p.1 ∧ 0 ≤ p.2 ∧ p.2 < m
  so : ws.Pairwise fun a b => wLt a.1 b.1
def StopOk (m : Int) : Stop → Prop
  | .fin => True
  | .act _ ws => WaysOk m ws
structure PlanOk (p : List Stop) : Prop where
  l1 : 1 ≤ p.length
  l12 : p.length ≤ 12
  ok : ∀ s ∈ p, StopOk p.length s
theorem nodup_get {α : Type} {l : List α} {i j : Nat} {x : α} (h : l.Pairwise fun a b => a ≠ b) (hi : l[i]? = some x) (hj : l[j]? = some x) : i = j := by
  obtain ⟨h1, e1⟩ := List.getElem?_eq_some_iff.mp hi
  obtain ⟨h2, e2⟩ := List.getElem?_eq_some_iff.mp hj
  rw [List.pairwise_iff_getElem] at h
  rcases Nat.lt_trichotomy i j with z | z | z
  · exact absurd (e1.trans e2.symm) (h i j h1 h2 z)
  · exact z
  · exact absurd (e2.trans e1.symm) (h j i h2 h1 z)
theorem shaped_way {p : Str × Int} (h : wOk p.1) : SeqAt.shaped (wayD p) = true := by
  have e := shaped_w h
  have e1 : PyData.strOk p.1 = true := by
    simp only [SeqAt.shaped, PyData.canLay0, PyData.depth, Bool.and_eq_true] at e
    exact e.1
  simp only [SeqAt.shaped, wayD, PyData.canLay0, PyData.canLayAll0, PyData.depth, PyData.depthAll, e1]
  rfl
theorem w_sortWays {l : List (Str × Int)} {Q : O → Prop} (hw : ∀ z ∈ l, wOk z.1) (hl : l.length ≤ 1000) (dis : l.Pairwise fun a b => a.1 ≠ b.1) (q : ∀ l' : List (Str × Int), l'.Perm l → l'.Pairwise (fun a b => wLt a.1 b.1) → Q (.lst (l'.map wayD))) : Wp (gSorted (.dat (.list (l.map wayD)))) Q := by
  obtain ⟨l', e, pm, so⟩ := sortD_pair l wayD
  have ok : sortOk (l.map wayD) = true := by
    simp only [sortOk, sm, Bool.and_eq_true, alikeL, sortKind, List.all_map, List.length_map, Bool.or_eq_true, List.all_eq_true, Function.comp]
    exact ⟨⟨by omega, fun _ _ _ _ => by simp [PySem.W.alike, PySem.W.alikeAll, wayD]⟩, .inl fun _ _ => rfl, fun w hw' => shaped_way (hw w hw')⟩
  simp only [gSorted, XR, List.getElem?_cons_zero, List.getElem?_cons_succ, List.set_cons_zero, List.set_cons_succ, List.length_cons, List.length_nil, List.length_map, List.length_range, List.length_append, List.length_set, List.map_cons, List.map_nil, List.replicate_succ, List.replicate_zero, List.cons_append, List.nil_append, List.append_nil, Nat.reduceLeDiff, Nat.reduceLT, Nat.zero_lt_succ, Int.reduceLT, Int.reduceLE, Int.reduceAdd, Int.reduceToNat, Int.cast_ofNat_Int, Int.natCast_zero, Int.natCast_one, Int.reduceEq, Int.reduceNe, Nat.reduceEqDiff, eq_self, beq_self_eq_true, Bool.true_beq, Bool.false_beq, Classical.not_not, Bool.not_eq_false, Int.reduceNeg, Int.reducePow, Option.bind_some, Option.bind_none, Option.map_some, Option.map_none, Option.or_some, Option.or_none, Option.none_or, Option.some_or, Option.or, decide_eq_true_eq, if_true, if_false, ite_true, ite_false, and_true, true_and, Bool.not_eq_true, Bool.not_true, Bool.not_false, Bool.true_eq_false, Bool.false_eq_true, imp_false, not_false_eq_true, not_true_eq_false, forall_const, true_implies, false_implies, reduceCtorEq, Nat.reduceAdd, Nat.reduceSub, Nat.reduceLT, decide_true, decide_false, Bool.or_true, Bool.true_or, Bool.or_false, Bool.false_or, Bool.and_true, Bool.true_and, Bool.and_false, Bool.false_and, and_false, false_and, or_true, true_or, or_false, false_or, not_true, not_false, ok, e]
  refine q l' pm ?_
  have nd : l'.Pairwise fun a b => a.1 ≠ b.1 := pm.symm.pairwise dis fun {a b} h z => h z.symm
  exact (List.pairwise_and_iff.mpr ⟨so, nd⟩).imp fun {a b} h => wLe_lt h.1 h.2
theorem nf_kind {b : Bool} {xs : List D} : needF (kindD b :: xs) = false := by cases b <;> rfl
theorem nf_way1 {ws : List (Str × Int)} : needF [.tuple (ws.map wayD)] = false := by
  cases ws with
  | nil => rfl
  | cons p ws =>
    cases ws with
    | nil => rfl
    | cons q ws => rfl
theorem nf_stop {s : Stop} {xs : List D} : needF (stopD s :: xs) = false := by
  cases s with
  | fin => rfl
  | act b ws => cases b <;> rfl
theorem kind_end {b : Bool} : gEq (.dat (kindD b)) (oS "end") = some (oB false) := by cases b <;> rfl
theorem w_plan {c : Int} {ws : List Str} {ow : O} {Q : O → Prop} (how : ow = .lst (ws.map .str) ∨ ow = .dat (.list (ws.map .str))) (hc : CellOk c) (hl : ws.length = 6) (hw : ∀ w ∈ ws, wOk w) (hs : ws.Pairwise wLt) (q : ∀ p : List Stop, PlanOk p → (∀ s ∈ p, match s with | .fin => True | .act _ l => ∀ x ∈ l, x.1 ∈ ws) → Q (.lst (p.map stopD))) : Wp (M_law_plan [oI c, ow]) Q := by
  have xw : ∀ i, gIx ow (oI i) = ((ixD ws i).map .str).map .dat := fun i => by
    rcases how with rfl | rfl <;> (show (ixD (ws.map PyData.str) i).map O.dat = _; rw [ixD_map])
  have go : ∀ m : Int, 1 ≤ m → m ≤ 12 → Wp (forL (tgN 4) (L_law_plan_1 M_law_mixed M_law_goal) ((List.range m.toNat).map fun i => .int (i : Nat)) [.shr (oI c), .shr ow, .shr (oI m), .own (.lst []), .un, .un, .un, .un, .un, .un, .un]) fun x => Wp (match x with | .nx env' => sRetV 3 env' | o => some o) fun out => match out with | .rt o => Q o | .nx env => Q (.dat .none) | _ => False := by
    intro m h1 h12
    refine wp_for (fun i e => ∃ (p : List Stop) (a4 a5 a6 a7 a8 a9 a10 : Sl), p.length = i ∧ (∀ s ∈ p, StopOk m s) ∧ (∀ s ∈ p, match s with | .fin => True | .act _ l => ∀ x ∈ l, x.1 ∈ ws) ∧ e = [.shr (oI c), .shr ow, .shr (oI m), .own (.lst (p.map stopD)), a4, a5, a6, a7, a8, a9, a10]) ⟨[], .un, .un, .un, .un, .un, .un, .un, rfl, by simp, by simp, rfl⟩ ?_ ?_
    · rintro i d e hi ⟨p, a4, a5, a6, a7, a8, a9, a10, hl, hok, hin, rfl⟩
      obtain ⟨rfl, hi⟩ := rng_get hi
      have fin : ∀ (s : Stop) (a4 a5 a6 a7 a8 a9 a10 : Sl), StopOk m s → (match s with | .fin => True | .act _ l => ∀ x ∈ l, x.1 ∈ ws) → p.length ≤ 999999 ∧ ∃ (p_1 : List Stop) (b4 b5 b6 b7 b8 b9 b10 : Sl), p_1.length = i + 1 ∧ (∀ s ∈ p_1, StopOk m s) ∧ (∀ s ∈ p_1, match s with | .fin => True | .act _ l => ∀ x ∈ l, x.1 ∈ ws) ∧ [Sl.shr (oI c), .shr ow, .shr (oI m), .own (.lst (p.map stopD ++ [stopD s])), a4, a5, a6, a7, a8, a9, a10] = [.shr (oI c), .shr ow, .shr (oI m), .own (.lst (p_1.map stopD)), b4, b5, b6, b7, b8, b9, b10] := fun s a4 a5 a6 a7 a8 a9 a10 h h' => by
        refine ⟨by omega, p ++ [s], a4, a5, a6, a7, a8, a9, a10, by rw [List.length_append, hl]; rfl, fun x m => ?_, fun x m => ?_, by rw [List.map_append]; rfl⟩
        · rcases List.mem_append.mp m with m | m
          · exact hok x m
          · rw [List.mem_singleton.mp m]; exact h
        · rcases List.mem_append.mp m with m | m
          · exact hin x m
          · rw [List.mem_singleton.mp m]; exact h'
      simp only [L_law_plan_1, XR, List.getElem?_cons_zero, List.getElem?_cons_succ, List.set_cons_zero, List.set_cons_succ, List.length_cons, List.length_nil, List.length_map, List.length_range, List.length_append, List.length_set, List.map_cons, List.map_nil, List.replicate_succ, List.replicate_zero, List.cons_append, List.nil_append, List.append_nil, Nat.reduceLeDiff, Nat.reduceLT, Nat.zero_lt_succ, Int.reduceLT, Int.reduceLE, Int.reduceAdd, Int.reduceToNat, Int.cast_ofNat_Int, Int.natCast_zero, Int.natCast_one, Int.reduceEq, Int.reduceNe, Nat.reduceEqDiff, eq_self, beq_self_eq_true, Bool.true_beq, Bool.false_beq, Classical.not_not, Bool.not_eq_false, Int.reduceNeg, Int.reducePow, Option.bind_some, Option.bind_none, Option.map_some, Option.map_none, Option.or_some, Option.or_none, Option.none_or, Option.some_or, Option.or, decide_eq_true_eq, if_true, if_false, ite_true, ite_false, and_true, true_and, Bool.not_eq_true, Bool.not_true, Bool.not_false, Bool.true_eq_false, Bool.false_eq_true, imp_false, not_false_eq_true, not_true_eq_false, forall_const, true_implies, false_implies, reduceCtorEq, Nat.reduceAdd, Nat.reduceSub, Nat.reduceLT, decide_true, decide_false, Bool.or_true, Bool.true_or, Bool.or_false, Bool.false_or, Bool.and_true, Bool.true_and, Bool.and_false, Bool.false_and, and_false, false_and, or_true, true_or, or_false, false_or, not_true, not_false]
      refine w_mixed (bits_ediv hc (by decide)) (by omega) fun x x0 x1 => ?_
      simp only [XR, List.getElem?_cons_zero, List.getElem?_cons_succ, List.set_cons_zero, List.set_cons_succ, List.length_cons, List.length_nil, List.length_map, List.length_range, List.length_append, List.length_set, List.map_cons, List.map_nil, List.replicate_succ, List.replicate_zero, List.cons_append, List.nil_append, List.append_nil, Nat.reduceLeDiff, Nat.reduceLT, Nat.zero_lt_succ, Int.reduceLT, Int.reduceLE, Int.reduceAdd, Int.reduceToNat, Int.cast_ofNat_Int, Int.natCast_zero, Int.natCast_one, Int.reduceEq, Int.reduceNe, Nat.reduceEqDiff, eq_self, beq_self_eq_true, Bool.true_beq, Bool.false_beq, Classical.not_not, Bool.not_eq_false, Int.reduceNeg, Int.reducePow, Option.bind_some, Option.bind_none, Option.map_some, Option.map_none, Option.or_some, Option.or_none, Option.none_or, Option.some_or, Option.or, decide_eq_true_eq, if_true, if_false, ite_true, ite_false, and_true, true_and, Bool.not_eq_true, Bool.not_true, Bool.not_false, Bool.true_eq_false, Bool.false_eq_true, imp_false, not_false_eq_true, not_true_eq_false, forall_const, true_implies, false_implies, reduceCtorEq, Nat.reduceAdd, Nat.reduceSub, Nat.reduceLT, decide_true, decide_false, Bool.or_true, Bool.true_or, Bool.or_false, Bool.false_or, Bool.and_true, Bool.true_and, Bool.and_false, Bool.false_and, and_false, false_and, or_true, true_or, or_false, false_or, not_true, not_false]
      refine ixD_in (by omega) (by simp only [List.length_cons, List.length_nil]; omega) fun y hy => ?_
      have hy : y = .str "end" ∨ ∃ b, y = kindD b := by
        simp only [List.mem_cons, List.not_mem_nil, or_false] at hy
        rcases hy with h | h | h | h | h | h | h
        · exact .inr ⟨true, h⟩
        · exact .inr ⟨false, h⟩
        · exact .inr ⟨true, h⟩
        · exact .inr ⟨false, h⟩
        · exact .inl h
        · exact .inr ⟨true, h⟩
        · exact .inr ⟨false, h⟩
      rcases hy with rfl | ⟨b, rfl⟩
      · simp only [XR, List.getElem?_cons_zero, List.getElem?_cons_succ, List.set_cons_zero, List.set_cons_succ, List.length_cons, List.length_nil, List.length_map, List.length_range, List.length_append, List.length_set, List.map_cons, List.map_nil, List.replicate_succ, List.replicate_zero, List.cons_append, List.nil_append, List.append_nil, Nat.reduceLeDiff, Nat.reduceLT, Nat.zero_lt_succ, Int.reduceLT, Int.reduceLE, Int.reduceAdd, Int.reduceToNat, Int.cast_ofNat_Int, Int.natCast_zero, Int.natCast_one, Int.reduceEq, Int.reduceNe, Nat.reduceEqDiff, eq_self, beq_self_eq_true, Bool.true_beq, Bool.false_beq, Classical.not_not, Bool.not_eq_false, Int.reduceNeg, Int.reducePow, Option.bind_some, Option.bind_none, Option.map_some, Option.map_none, Option.or_some, Option.or_none, Option.none_or, Option.some_or, Option.or, decide_eq_true_eq, if_true, if_false, ite_true, ite_false, and_true, true_and, Bool.not_eq_true, Bool.not_true, Bool.not_false, Bool.true_eq_false, Bool.false_eq_true, imp_false, not_false_eq_true, not_true_eq_false, forall_const, true_implies, false_implies, reduceCtorEq, Nat.reduceAdd, Nat.reduceSub, Nat.reduceLT, decide_true, decide_false, Bool.or_true, Bool.true_or, Bool.or_false, Bool.false_or, Bool.and_true, Bool.true_and, Bool.and_false, Bool.false_and, and_false, false_and, or_true, true_or, or_false, false_or, not_true, not_false]
        exact fin .fin _ _ _ _ _ _ _ trivial trivial
      · simp only [XR, List.getElem?_cons_zero, List.getElem?_cons_succ, List.set_cons_zero, List.set_cons_succ, List.length_cons, List.length_nil, List.length_map, List.length_range, List.length_append, List.length_set, List.map_cons, List.map_nil, List.replicate_succ, List.replicate_zero, List.cons_append, List.nil_append, List.append_nil, Nat.reduceLeDiff, Nat.reduceLT, Nat.zero_lt_succ, Int.reduceLT, Int.reduceLE, Int.reduceAdd, Int.reduceToNat, Int.cast_ofNat_Int, Int.natCast_zero, Int.natCast_one, Int.reduceEq, Int.reduceNe, Nat.reduceEqDiff, eq_self, beq_self_eq_true, Bool.true_beq, Bool.false_beq, Classical.not_not, Bool.not_eq_false, Int.reduceNeg, Int.reducePow, Option.bind_some, Option.bind_none, Option.map_some, Option.map_none, Option.or_some, Option.or_none, Option.none_or, Option.some_or, Option.or, decide_eq_true_eq, if_true, if_false, ite_true, ite_false, and_true, true_and, Bool.not_eq_true, Bool.not_true, Bool.not_false, Bool.true_eq_false, Bool.false_eq_true, imp_false, not_false_eq_true, not_true_eq_false, forall_const, true_implies, false_implies, reduceCtorEq, Nat.reduceAdd, Nat.reduceSub, Nat.reduceLT, decide_true, decide_false, Bool.or_true, Bool.true_or, Bool.or_false, Bool.false_or, Bool.and_true, Bool.true_and, Bool.and_false, Bool.false_and, and_false, false_and, or_true, true_or, or_false, false_or, not_true, not_false, kind_end]
        refine ⟨fun c1 => ⟨fun c2 => ⟨fun c3 => fin .fin _ _ _ _ _ _ _ trivial trivial, fun c3 => ?_⟩, fun c2 => ?_⟩, fun c1 => ?_⟩
        all_goals
          refine ixD_in (by omega) (by simp only [List.length_cons, List.length_nil]; omega) fun y hy => ?_
          have hy : ∃ n : Nat, y = .int n ∧ 1 ≤ n ∧ n ≤ 6 := by
            simp only [List.mem_cons, List.not_mem_nil, or_false] at hy
            rcases hy with h | h | h | h | h | h
            · exact ⟨1, h, by decide, by decide⟩
            · exact ⟨2, h, by decide, by decide⟩
            · exact ⟨1, h, by decide, by decide⟩
            · exact ⟨3, h, by decide, by decide⟩
            · exact ⟨2, h, by decide, by decide⟩
            · exact ⟨6, h, by decide, by decide⟩
          obtain ⟨n, rfl, n1, n6⟩ := hy
          simp only [XR, List.getElem?_cons_zero, List.getElem?_cons_succ, List.set_cons_zero, List.set_cons_succ, List.length_cons, List.length_nil, List.length_map, List.length_range, List.length_append, List.length_set, List.map_cons, List.map_nil, List.replicate_succ, List.replicate_zero, List.cons_append, List.nil_append, List.append_nil, Nat.reduceLeDiff, Nat.reduceLT, Nat.zero_lt_succ, Int.reduceLT, Int.reduceLE, Int.reduceAdd, Int.reduceToNat, Int.cast_ofNat_Int, Int.natCast_zero, Int.natCast_one, Int.reduceEq, Int.reduceNe, Nat.reduceEqDiff, eq_self, beq_self_eq_true, Bool.true_beq, Bool.false_beq, Classical.not_not, Bool.not_eq_false, Int.reduceNeg, Int.reducePow, Option.bind_some, Option.bind_none, Option.map_some, Option.map_none, Option.or_some, Option.or_none, Option.none_or, Option.some_or, Option.or, decide_eq_true_eq, if_true, if_false, ite_true, ite_false, and_true, true_and, Bool.not_eq_true, Bool.not_true, Bool.not_false, Bool.true_eq_false, Bool.false_eq_true, imp_false, not_false_eq_true, not_true_eq_false, forall_const, true_implies, false_implies, reduceCtorEq, Nat.reduceAdd, Nat.reduceSub, Nat.reduceLT, decide_true, decide_false, Bool.or_true, Bool.true_or, Bool.or_false, Bool.false_or, Bool.and_true, Bool.true_and, Bool.and_false, Bool.false_and, and_false, false_and, or_true, true_or, or_false, false_or, not_true, not_false]
          refine ⟨by omega, by omega, ?_⟩
          rw [Int.toNat_natCast]
          refine lc_rng PyData.str (fun k y => ws[((x / 90 + k) % 6).toNat]? = some y) (fun k hk => ?_) fun l hll hlp => ?_
          · simp only [XR, List.getElem?_cons_zero, List.getElem?_cons_succ, List.set_cons_zero, List.set_cons_succ, List.length_cons, List.length_nil, List.length_map, List.length_range, List.length_append, List.length_set, List.map_cons, List.map_nil, List.replicate_succ, List.replicate_zero, List.cons_append, List.nil_append, List.append_nil, Nat.reduceLeDiff, Nat.reduceLT, Nat.zero_lt_succ, Int.reduceLT, Int.reduceLE, Int.reduceAdd, Int.reduceToNat, Int.cast_ofNat_Int, Int.natCast_zero, Int.natCast_one, Int.reduceEq, Int.reduceNe, Nat.reduceEqDiff, eq_self, beq_self_eq_true, Bool.true_beq, Bool.false_beq, Classical.not_not, Bool.not_eq_false, Int.reduceNeg, Int.reducePow, Option.bind_some, Option.bind_none, Option.map_some, Option.map_none, Option.or_some, Option.or_none, Option.none_or, Option.some_or, Option.or, decide_eq_true_eq, if_true, if_false, ite_true, ite_false, and_true, true_and, Bool.not_eq_true, Bool.not_true, Bool.not_false, Bool.true_eq_false, Bool.false_eq_true, imp_false, not_false_eq_true, not_true_eq_false, forall_const, true_implies, false_implies, reduceCtorEq, Nat.reduceAdd, Nat.reduceSub, Nat.reduceLT, decide_true, decide_false, Bool.or_true, Bool.true_or, Bool.or_false, Bool.false_or, Bool.and_true, Bool.true_and, Bool.and_false, Bool.false_and, and_false, false_and, or_true, true_or, or_false, false_or, not_true, not_false, xw]
            refine ixD_mem (by omega) (by omega) fun y hy => ?_
            exact ⟨y, rfl, hy⟩
          · refine ⟨by omega, by omega, ?_⟩
            refine lc_rng wayD (fun k y => l[k]? = some y.1 ∧ 0 ≤ y.2 ∧ y.2 < m) (fun k hk => ?_) fun l2 hl2 hlp2 => ?_
            · simp only [XR, List.getElem?_cons_zero, List.getElem?_cons_succ, List.set_cons_zero, List.set_cons_succ, List.length_cons, List.length_nil, List.length_map, List.length_range, List.length_append, List.length_set, List.map_cons, List.map_nil, List.replicate_succ, List.replicate_zero, List.cons_append, List.nil_append, List.append_nil, Nat.reduceLeDiff, Nat.reduceLT, Nat.zero_lt_succ, Int.reduceLT, Int.reduceLE, Int.reduceAdd, Int.reduceToNat, Int.cast_ofNat_Int, Int.natCast_zero, Int.natCast_one, Int.reduceEq, Int.reduceNe, Nat.reduceEqDiff, eq_self, beq_self_eq_true, Bool.true_beq, Bool.false_beq, Classical.not_not, Bool.not_eq_false, Int.reduceNeg, Int.reducePow, Option.bind_some, Option.bind_none, Option.map_some, Option.map_none, Option.or_some, Option.or_none, Option.none_or, Option.some_or, Option.or, decide_eq_true_eq, if_true, if_false, ite_true, ite_false, and_true, true_and, Bool.not_eq_true, Bool.not_true, Bool.not_false, Bool.true_eq_false, Bool.false_eq_true, imp_false, not_false_eq_true, not_true_eq_false, forall_const, true_implies, false_implies, reduceCtorEq, Nat.reduceAdd, Nat.reduceSub, Nat.reduceLT, decide_true, decide_false, Bool.or_true, Bool.true_or, Bool.or_false, Bool.false_or, Bool.and_true, Bool.true_and, Bool.and_false, Bool.false_and, and_false, false_and, or_true, true_or, or_false, false_or, not_true, not_false]
              refine ixD_mem (by omega) (by omega) fun y hy => ?_
              refine w_goal hc (by omega) h12 (by omega) fun g g0 g1 => ?_
              simp only [XR, List.getElem?_cons_zero, List.getElem?_cons_succ, List.set_cons_zero, List.set_cons_succ, List.length_cons, List.length_nil, List.length_map, List.length_range, List.length_append, List.length_set, List.map_cons, List.map_nil, List.replicate_succ, List.replicate_zero, List.cons_append, List.nil_append, List.append_nil, Nat.reduceLeDiff, Nat.reduceLT, Nat.zero_lt_succ, Int.reduceLT, Int.reduceLE, Int.reduceAdd, Int.reduceToNat, Int.cast_ofNat_Int, Int.natCast_zero, Int.natCast_one, Int.reduceEq, Int.reduceNe, Nat.reduceEqDiff, eq_self, beq_self_eq_true, Bool.true_beq, Bool.false_beq, Classical.not_not, Bool.not_eq_false, Int.reduceNeg, Int.reducePow, Option.bind_some, Option.bind_none, Option.map_some, Option.map_none, Option.or_some, Option.or_none, Option.none_or, Option.some_or, Option.or, decide_eq_true_eq, if_true, if_false, ite_true, ite_false, and_true, true_and, Bool.not_eq_true, Bool.not_true, Bool.not_false, Bool.true_eq_false, Bool.false_eq_true, imp_false, not_false_eq_true, not_true_eq_false, forall_const, true_implies, false_implies, reduceCtorEq, Nat.reduceAdd, Nat.reduceSub, Nat.reduceLT, decide_true, decide_false, Bool.or_true, Bool.true_or, Bool.or_false, Bool.false_or, Bool.and_true, Bool.true_and, Bool.and_false, Bool.false_and, and_false, false_and, or_true, true_or, or_false, false_or, not_true, not_false]
              exact ⟨(y, g), rfl, by rwa [Int.toNat_natCast] at hy, g0, g1⟩
            · have mem : ∀ z ∈ l2, z.1 ∈ ws ∧ 0 ≤ z.2 ∧ z.2 < m := fun z hz => by
                obtain ⟨k, hk, rfl⟩ := List.mem_iff_getElem.mp hz
                obtain ⟨u1, u2⟩ := hlp2 k _ (List.getElem?_eq_getElem hk)
                exact ⟨List.mem_of_getElem? (hlp k _ u1), u2⟩
              have dis : l2.Pairwise fun a b => a.1 ≠ b.1 := by
                rw [List.pairwise_iff_getElem]
                intro k1 k2 hk1 hk2 hlt z
                have u1 := hlp k1 _ (hlp2 k1 _ (List.getElem?_eq_getElem hk1)).1
                have u2 := hlp k2 _ (hlp2 k2 _ (List.getElem?_eq_getElem hk2)).1
                have := nodup_get (hs.imp fun {a b} h z => by rw [z] at h; exact wLt_irr _ h) u1 (by rw [z]; exact u2)
                omega
              refine w_sortWays (fun z hz => hw _ (mem z hz).1) (by omega) dis fun l' pm so => ?_
              simp only [XR, List.getElem?_cons_zero, List.getElem?_cons_succ, List.set_cons_zero, List.set_cons_succ, List.length_cons, List.length_nil, List.length_map, List.length_range, List.length_append, List.length_set, List.map_cons, List.map_nil, List.replicate_succ, List.replicate_zero, List.cons_append, List.nil_append, List.append_nil, Nat.reduceLeDiff, Nat.reduceLT, Nat.zero_lt_succ, Int.reduceLT, Int.reduceLE, Int.reduceAdd, Int.reduceToNat, Int.cast_ofNat_Int, Int.natCast_zero, Int.natCast_one, Int.reduceEq, Int.reduceNe, Nat.reduceEqDiff, eq_self, beq_self_eq_true, Bool.true_beq, Bool.false_beq, Classical.not_not, Bool.not_eq_false, Int.reduceNeg, Int.reducePow, Option.bind_some, Option.bind_none, Option.map_some, Option.map_none, Option.or_some, Option.or_none, Option.none_or, Option.some_or, Option.or, decide_eq_true_eq, if_true, if_false, ite_true, ite_false, and_true, true_and, Bool.not_eq_true, Bool.not_true, Bool.not_false, Bool.true_eq_false, Bool.false_eq_true, imp_false, not_false_eq_true, not_true_eq_false, forall_const, true_implies, false_implies, reduceCtorEq, Nat.reduceAdd, Nat.reduceSub, Nat.reduceLT, decide_true, decide_false, Bool.or_true, Bool.true_or, Bool.or_false, Bool.false_or, Bool.and_true, Bool.true_and, Bool.and_false, Bool.false_and, and_false, false_and, or_true, true_or, or_false, false_or, not_true, not_false, nf_kind]
              exact fin (.act b l') _ _ _ _ _ _ _ ⟨by rw [pm.length_eq]; omega, by rw [pm.length_eq]; omega, fun z hz => by
                have := mem z (pm.mem_iff.mp hz)
                exact ⟨hw _ this.1, this.2⟩, so⟩ fun z hz => (mem z (pm.mem_iff.mp hz)).1
    · rintro e ⟨p, a4, a5, a6, a7, a8, a9, a10, hl, hok, hin, rfl⟩
      simp only [XR, List.getElem?_cons_zero, List.getElem?_cons_succ, List.set_cons_zero, List.set_cons_succ, List.length_cons, List.length_nil, List.length_map, List.length_range, List.length_append, List.length_set, List.map_cons, List.map_nil, List.replicate_succ, List.replicate_zero, List.cons_append, List.nil_append, List.append_nil, Nat.reduceLeDiff, Nat.reduceLT, Nat.zero_lt_succ, Int.reduceLT, Int.reduceLE, Int.reduceAdd, Int.reduceToNat, Int.cast_ofNat_Int, Int.natCast_zero, Int.natCast_one, Int.reduceEq, Int.reduceNe, Nat.reduceEqDiff, eq_self, beq_self_eq_true, Bool.true_beq, Bool.false_beq, Classical.not_not, Bool.not_eq_false, Int.reduceNeg, Int.reducePow, Option.bind_some, Option.bind_none, Option.map_some, Option.map_none, Option.or_some, Option.or_none, Option.none_or, Option.some_or, Option.or, decide_eq_true_eq, if_true, if_false, ite_true, ite_false, and_true, true_and, Bool.not_eq_true, Bool.not_true, Bool.not_false, Bool.true_eq_false, Bool.false_eq_true, imp_false, not_false_eq_true, not_true_eq_false, forall_const, true_implies, false_implies, reduceCtorEq, Nat.reduceAdd, Nat.reduceSub, Nat.reduceLT, decide_true, decide_false, Bool.or_true, Bool.true_or, Bool.or_false, Bool.false_or, Bool.and_true, Bool.true_and, Bool.and_false, Bool.false_and, and_false, false_and, or_true, true_or, or_false, false_or, not_true, not_false] at hl ⊢
      exact q p ⟨by omega, by omega, fun s z => by have := hok s z; rwa [show m = (p.length : Int) by omega] at this⟩ hin
  simp only [M_law_plan, B_law_plan, XR, List.getElem?_cons_zero, List.getElem?_cons_succ, List.set_cons_zero, List.set_cons_succ, List.length_cons, List.length_nil, List.length_map, List.length_range, List.length_append, List.length_set, List.map_cons, List.map_nil, List.replicate_succ, List.replicate_zero, List.cons_append, List.nil_append, List.append_nil, Nat.reduceLeDiff, Nat.reduceLT, Nat.zero_lt_succ, Int.reduceLT, Int.reduceLE, Int.reduceAdd, Int.reduceToNat, Int.cast_ofNat_Int, Int.natCast_zero, Int.natCast_one, Int.reduceEq, Int.reduceNe, Nat.reduceEqDiff, eq_self, beq_self_eq_true, Bool.true_beq, Bool.false_beq, Classical.not_not, Bool.not_eq_false, Int.reduceNeg, Int.reducePow, Option.bind_some, Option.bind_none, Option.map_some, Option.map_none, Option.or_some, Option.or_none, Option.none_or, Option.some_or, Option.or, decide_eq_true_eq, if_true, if_false, ite_true, ite_false, and_true, true_and, Bool.not_eq_true, Bool.not_true, Bool.not_false, Bool.true_eq_false, Bool.false_eq_true, imp_false, not_false_eq_true, not_true_eq_false, forall_const, true_implies, false_implies, reduceCtorEq, Nat.reduceAdd, Nat.reduceSub, Nat.reduceLT, decide_true, decide_false, Bool.or_true, Bool.true_or, Bool.or_false, Bool.false_or, Bool.and_true, Bool.true_and, Bool.and_false, Bool.false_and, and_false, false_and, or_true, true_or, or_false, false_or, not_true, not_false]
  exact ⟨fun _ => ⟨by omega, go _ (by omega) (by omega)⟩, fun _ => ⟨by omega, go _ (by omega) (by omega)⟩⟩
end TP

namespace TP
open PySem PySem.Spec PyProof.Rows L2
/-! ### the program's looks, at what is well made -/
theorem is_whole_ok {i : Int} : M_is_whole [oI i] = some (oB true) := Wp.eq (by simp only [M_is_whole, B_is_whole, XR, List.getElem?_cons_zero, List.getElem?_cons_succ, List.set_cons_zero, List.set_cons_succ, List.length_cons, List.length_nil, List.length_map, List.length_range, List.length_append, List.length_set, List.map_cons, List.map_nil, List.replicate_succ, List.replicate_zero, List.cons_append, List.nil_append, List.append_nil, Nat.reduceLeDiff, Nat.reduceLT, Nat.zero_lt_succ, Int.reduceLT, Int.reduceLE, Int.reduceAdd, Int.reduceToNat, Int.cast_ofNat_Int, Int.natCast_zero, Int.natCast_one, Int.reduceEq, Int.reduceNe, Nat.reduceEqDiff, eq_self, beq_self_eq_true, Bool.true_beq, Bool.false_beq, Classical.not_not, Bool.not_eq_false, Int.reduceNeg, Int.reducePow, Option.bind_some, Option.bind_none, Option.map_some, Option.map_none, Option.or_some, Option.or_none, Option.none_or, Option.some_or, Option.or, decide_eq_true_eq, if_true, if_false, ite_true, ite_false, and_true, true_and, Bool.not_eq_true, Bool.not_true, Bool.not_false, Bool.true_eq_false, Bool.false_eq_true, imp_false, not_false_eq_true, not_true_eq_false, forall_const, true_implies, false_implies, reduceCtorEq, Nat.reduceAdd, Nat.reduceSub, Nat.reduceLT, decide_true, decide_false, Bool.or_true, Bool.true_or, Bool.or_false, Bool.false_or, Bool.and_true, Bool.true_and, Bool.and_false, Bool.false_and, and_false, false_and, or_true, true_or, or_false, false_or, not_true, not_false])
theorem is_place_ok {i m : Int} (h0 : 0 ≤ i) (h1 : i < m) : M_is_place [oI i, oI m] = some (oB true) := Wp.eq (by
  simp only [M_is_place, B_is_place, XR, List.getElem?_cons_zero, List.getElem?_cons_succ, List.set_cons_zero, List.set_cons_succ, List.length_cons, List.length_nil, List.length_map, List.length_range, List.length_append, List.length_set, List.map_cons, List.map_nil, List.replicate_succ, List.replicate_zero, List.cons_append, List.nil_append, List.append_nil, Nat.reduceLeDiff, Nat.reduceLT, Nat.zero_lt_succ, Int.reduceLT, Int.reduceLE, Int.reduceAdd, Int.reduceToNat, Int.cast_ofNat_Int, Int.natCast_zero, Int.natCast_one, Int.reduceEq, Int.reduceNe, Nat.reduceEqDiff, eq_self, beq_self_eq_true, Bool.true_beq, Bool.false_beq, Classical.not_not, Bool.not_eq_false, Int.reduceNeg, Int.reducePow, Option.bind_some, Option.bind_none, Option.map_some, Option.map_none, Option.or_some, Option.or_none, Option.none_or, Option.some_or, Option.or, decide_eq_true_eq, if_true, if_false, ite_true, ite_false, and_true, true_and, Bool.not_eq_true, Bool.not_true, Bool.not_false, Bool.true_eq_false, Bool.false_eq_true, imp_false, not_false_eq_true, not_true_eq_false, forall_const, true_implies, false_implies, reduceCtorEq, Nat.reduceAdd, Nat.reduceSub, Nat.reduceLT, decide_true, decide_false, Bool.or_true, Bool.true_or, Bool.or_false, Bool.false_or, Bool.and_true, Bool.true_and, Bool.and_false, Bool.false_and, and_false, false_and, or_true, true_or, or_false, false_or, not_true, not_false, is_whole_ok]
  simp [h0, h1])
theorem is_word_ok {x : Str} (h : wOk x) : M_is_word [oS x] = some (oB true) := Wp.eq (by
  obtain ⟨h1, h2, h3⟩ := h
  have e : x.length = x.cps.toList.length := by simp [Str.length]
  have a1 : (1 : Int) ≤ (x.cps.toList.length : Int) := by omega
  have a2 : (x.cps.toList.length : Int) ≤ 8 := by omega
  simp only [M_is_word, B_is_word, XR, List.getElem?_cons_zero, List.getElem?_cons_succ, List.set_cons_zero, List.set_cons_succ, List.length_cons, List.length_nil, List.length_map, List.length_range, List.length_append, List.length_set, List.map_cons, List.map_nil, List.replicate_succ, List.replicate_zero, List.cons_append, List.nil_append, List.append_nil, Nat.reduceLeDiff, Nat.reduceLT, Nat.zero_lt_succ, Int.reduceLT, Int.reduceLE, Int.reduceAdd, Int.reduceToNat, Int.cast_ofNat_Int, Int.natCast_zero, Int.natCast_one, Int.reduceEq, Int.reduceNe, Nat.reduceEqDiff, eq_self, beq_self_eq_true, Bool.true_beq, Bool.false_beq, Classical.not_not, Bool.not_eq_false, Int.reduceNeg, Int.reducePow, Option.bind_some, Option.bind_none, Option.map_some, Option.map_none, Option.or_some, Option.or_none, Option.none_or, Option.some_or, Option.or, decide_eq_true_eq, if_true, if_false, ite_true, ite_false, and_true, true_and, Bool.not_eq_true, Bool.not_true, Bool.not_false, Bool.true_eq_false, Bool.false_eq_true, imp_false, not_false_eq_true, not_true_eq_false, forall_const, true_implies, false_implies, reduceCtorEq, Nat.reduceAdd, Nat.reduceSub, Nat.reduceLT, decide_true, decide_false, Bool.or_true, Bool.true_or, Bool.or_false, Bool.false_or, Bool.and_true, Bool.true_and, Bool.and_false, Bool.false_and, and_false, false_and, or_true, true_or, or_false, false_or, not_true, not_false, e, a1, a2]
  refine ⟨by omega, by omega, ?_⟩
  refine lc_allB (fun _ => true) (fun d m => ?_) (by simp)
  obtain ⟨c, hc, rfl⟩ := List.mem_map.mp m
  simp only [XR, List.getElem?_cons_zero, List.getElem?_cons_succ, List.set_cons_zero, List.set_cons_succ, List.length_cons, List.length_nil, List.length_map, List.length_range, List.length_append, List.length_set, List.map_cons, List.map_nil, List.replicate_succ, List.replicate_zero, List.cons_append, List.nil_append, List.append_nil, Nat.reduceLeDiff, Nat.reduceLT, Nat.zero_lt_succ, Int.reduceLT, Int.reduceLE, Int.reduceAdd, Int.reduceToNat, Int.cast_ofNat_Int, Int.natCast_zero, Int.natCast_one, Int.reduceEq, Int.reduceNe, Nat.reduceEqDiff, eq_self, beq_self_eq_true, Bool.true_beq, Bool.false_beq, Classical.not_not, Bool.not_eq_false, Int.reduceNeg, Int.reducePow, Option.bind_some, Option.bind_none, Option.map_some, Option.map_none, Option.or_some, Option.or_none, Option.none_or, Option.some_or, Option.or, decide_eq_true_eq, if_true, if_false, ite_true, ite_false, and_true, true_and, Bool.not_eq_true, Bool.not_true, Bool.not_false, Bool.true_eq_false, Bool.false_eq_true, imp_false, not_false_eq_true, not_true_eq_false, forall_const, true_implies, false_implies, reduceCtorEq, Nat.reduceAdd, Nat.reduceSub, Nat.reduceLT, decide_true, decide_false, Bool.or_true, Bool.true_or, Bool.or_false, Bool.false_or, Bool.and_true, Bool.true_and, Bool.and_false, Bool.false_and, and_false, false_and, or_true, true_or, or_false, false_or, not_true, not_false, h3 c hc])
theorem are_ways_ok {m : Int} {ws : List (Str × Int)} (h : WaysOk m ws) : M_are_ways [.dat (.tuple (ws.map wayD)), oI m] = some (oB true) := Wp.eq (by
  have a1 : (1 : Int) ≤ (ws.length : Int) := by have := h.l1; omega
  have a2 : (ws.length : Int) ≤ 6 := by have := h.l6; omega
  simp only [M_are_ways, B_are_ways, XR, List.getElem?_cons_zero, List.getElem?_cons_succ, List.set_cons_zero, List.set_cons_succ, List.length_cons, List.length_nil, List.length_map, List.length_range, List.length_append, List.length_set, List.map_cons, List.map_nil, List.replicate_succ, List.replicate_zero, List.cons_append, List.nil_append, List.append_nil, Nat.reduceLeDiff, Nat.reduceLT, Nat.zero_lt_succ, Int.reduceLT, Int.reduceLE, Int.reduceAdd, Int.reduceToNat, Int.cast_ofNat_Int, Int.natCast_zero, Int.natCast_one, Int.reduceEq, Int.reduceNe, Nat.reduceEqDiff, eq_self, beq_self_eq_true, Bool.true_beq, Bool.false_beq, Classical.not_not, Bool.not_eq_false, Int.reduceNeg, Int.reducePow, Option.bind_some, Option.bind_none, Option.map_some, Option.map_none, Option.or_some, Option.or_none, Option.none_or, Option.some_or, Option.or, decide_eq_true_eq, if_true, if_false, ite_true, ite_false, and_true, true_and, Bool.not_eq_true, Bool.not_true, Bool.not_false, Bool.true_eq_false, Bool.false_eq_true, imp_false, not_false_eq_true, not_true_eq_false, forall_const, true_implies, false_implies, reduceCtorEq, Nat.reduceAdd, Nat.reduceSub, Nat.reduceLT, decide_true, decide_false, Bool.or_true, Bool.true_or, Bool.or_false, Bool.false_or, Bool.and_true, Bool.true_and, Bool.and_false, Bool.false_and, and_false, false_and, or_true, true_or, or_false, false_or, not_true, not_false, a1, a2]
  refine wp_for (fun i e => ∃ (last : Str) (a3 : Sl), (∀ p, ws[i]? = some p → wLt last p.1) ∧ e = [.shr (.dat (.tuple (ws.map wayD))), .shr (oI m), .shr (oS last), a3]) ⟨"", .un, ?_, rfl⟩ ?_ ?_
  · intro p hp
    obtain ⟨⟨w1, _⟩, _⟩ := h.ok p (List.mem_of_getElem? hp)
    show [] < p.1.cps.toList
    cases e : p.1.cps.toList with
    | nil => rw [e] at w1; exact absurd w1 (by decide)
    | cons a l => exact List.nil_lt_cons a l
  · rintro i d e hi ⟨last, a3, hlast, rfl⟩
    rw [List.getElem?_map] at hi
    obtain ⟨p, hp, rfl⟩ := Option.map_eq_some_iff.mp hi
    obtain ⟨w1, w2, w3⟩ := h.ok p (List.mem_of_getElem? hp)
    have lt : last.cps.toList < p.1.cps.toList := hlast p hp
    simp only [L_are_ways_1, XR, List.getElem?_cons_zero, List.getElem?_cons_succ, List.set_cons_zero, List.set_cons_succ, List.length_cons, List.length_nil, List.length_map, List.length_range, List.length_append, List.length_set, List.map_cons, List.map_nil, List.replicate_succ, List.replicate_zero, List.cons_append, List.nil_append, List.append_nil, Nat.reduceLeDiff, Nat.reduceLT, Nat.zero_lt_succ, Int.reduceLT, Int.reduceLE, Int.reduceAdd, Int.reduceToNat, Int.cast_ofNat_Int, Int.natCast_zero, Int.natCast_one, Int.reduceEq, Int.reduceNe, Nat.reduceEqDiff, eq_self, beq_self_eq_true, Bool.true_beq, Bool.false_beq, Classical.not_not, Bool.not_eq_false, Int.reduceNeg, Int.reducePow, Option.bind_some, Option.bind_none, Option.map_some, Option.map_none, Option.or_some, Option.or_none, Option.none_or, Option.some_or, Option.or, decide_eq_true_eq, if_true, if_false, ite_true, ite_false, and_true, true_and, Bool.not_eq_true, Bool.not_true, Bool.not_false, Bool.true_eq_false, Bool.false_eq_true, imp_false, not_false_eq_true, not_true_eq_false, forall_const, true_implies, false_implies, reduceCtorEq, Nat.reduceAdd, Nat.reduceSub, Nat.reduceLT, decide_true, decide_false, Bool.or_true, Bool.true_or, Bool.or_false, Bool.false_or, Bool.and_true, Bool.true_and, Bool.and_false, Bool.false_and, and_false, false_and, or_true, true_or, or_false, false_or, not_true, not_false, wayD, is_word_ok w1, is_place_ok w2 w3, lt]
    refine ⟨p.1, _, fun p' hp' => ?_, rfl⟩
    obtain ⟨h1, e1⟩ := List.getElem?_eq_some_iff.mp hp
    obtain ⟨h2, e2⟩ := List.getElem?_eq_some_iff.mp hp'
    have := (List.pairwise_iff_getElem.mp h.so) i (i + 1) h1 h2 (Nat.lt_succ_self i)
    rwa [e1, e2] at this
  · rintro e ⟨last, a3, _, rfl⟩
    simp only [XR, List.getElem?_cons_zero, List.getElem?_cons_succ, List.set_cons_zero, List.set_cons_succ, List.length_cons, List.length_nil, List.length_map, List.length_range, List.length_append, List.length_set, List.map_cons, List.map_nil, List.replicate_succ, List.replicate_zero, List.cons_append, List.nil_append, List.append_nil, Nat.reduceLeDiff, Nat.reduceLT, Nat.zero_lt_succ, Int.reduceLT, Int.reduceLE, Int.reduceAdd, Int.reduceToNat, Int.cast_ofNat_Int, Int.natCast_zero, Int.natCast_one, Int.reduceEq, Int.reduceNe, Nat.reduceEqDiff, eq_self, beq_self_eq_true, Bool.true_beq, Bool.false_beq, Classical.not_not, Bool.not_eq_false, Int.reduceNeg, Int.reducePow, Option.bind_some, Option.bind_none, Option.map_some, Option.map_none, Option.or_some, Option.or_none, Option.none_or, Option.some_or, Option.or, decide_eq_true_eq, if_true, if_false, ite_true, ite_false, and_true, true_and, Bool.not_eq_true, Bool.not_true, Bool.not_false, Bool.true_eq_false, Bool.false_eq_true, imp_false, not_false_eq_true, not_true_eq_false, forall_const, true_implies, false_implies, reduceCtorEq, Nat.reduceAdd, Nat.reduceSub, Nat.reduceLT, decide_true, decide_false, Bool.or_true, Bool.true_or, Bool.or_false, Bool.false_or, Bool.and_true, Bool.true_and, Bool.and_false, Bool.false_and, and_false, false_and, or_true, true_or, or_false, false_or, not_true, not_false])
theorem is_stop_ok {m : Int} {s : Stop} (h : StopOk m s) : M_is_stop [.dat (stopD s), oI m] = some (oB true) := Wp.eq (by
  cases s with
  | fin => simp only [M_is_stop, B_is_stop, XR, List.getElem?_cons_zero, List.getElem?_cons_succ, List.set_cons_zero, List.set_cons_succ, List.length_cons, List.length_nil, List.length_map, List.length_range, List.length_append, List.length_set, List.map_cons, List.map_nil, List.replicate_succ, List.replicate_zero, List.cons_append, List.nil_append, List.append_nil, Nat.reduceLeDiff, Nat.reduceLT, Nat.zero_lt_succ, Int.reduceLT, Int.reduceLE, Int.reduceAdd, Int.reduceToNat, Int.cast_ofNat_Int, Int.natCast_zero, Int.natCast_one, Int.reduceEq, Int.reduceNe, Nat.reduceEqDiff, eq_self, beq_self_eq_true, Bool.true_beq, Bool.false_beq, Classical.not_not, Bool.not_eq_false, Int.reduceNeg, Int.reducePow, Option.bind_some, Option.bind_none, Option.map_some, Option.map_none, Option.or_some, Option.or_none, Option.none_or, Option.some_or, Option.or, decide_eq_true_eq, if_true, if_false, ite_true, ite_false, and_true, true_and, Bool.not_eq_true, Bool.not_true, Bool.not_false, Bool.true_eq_false, Bool.false_eq_true, imp_false, not_false_eq_true, not_true_eq_false, forall_const, true_implies, false_implies, reduceCtorEq, Nat.reduceAdd, Nat.reduceSub, Nat.reduceLT, decide_true, decide_false, Bool.or_true, Bool.true_or, Bool.or_false, Bool.false_or, Bool.and_true, Bool.true_and, Bool.and_false, Bool.false_and, and_false, false_and, or_true, true_or, or_false, false_or, not_true, not_false, stopD]
  | act b ws =>
    have e := are_ways_ok h
    have f : gInA (.dat (kindD b)) (.dat (.tuple [.str "send", .str "get"])) = some (oB true) := by cases b <;> rfl
    have g : isT "str" (kindD b) = true := by cases b <;> rfl
    have nd : notDict (kindD b) = true := by cases b <;> rfl
    simp only [M_is_stop, B_is_stop, XR, List.getElem?_cons_zero, List.getElem?_cons_succ, List.set_cons_zero, List.set_cons_succ, List.length_cons, List.length_nil, List.length_map, List.length_range, List.length_append, List.length_set, List.map_cons, List.map_nil, List.replicate_succ, List.replicate_zero, List.cons_append, List.nil_append, List.append_nil, Nat.reduceLeDiff, Nat.reduceLT, Nat.zero_lt_succ, Int.reduceLT, Int.reduceLE, Int.reduceAdd, Int.reduceToNat, Int.cast_ofNat_Int, Int.natCast_zero, Int.natCast_one, Int.reduceEq, Int.reduceNe, Nat.reduceEqDiff, eq_self, beq_self_eq_true, Bool.true_beq, Bool.false_beq, Classical.not_not, Bool.not_eq_false, Int.reduceNeg, Int.reducePow, Option.bind_some, Option.bind_none, Option.map_some, Option.map_none, Option.or_some, Option.or_none, Option.none_or, Option.some_or, Option.or, decide_eq_true_eq, if_true, if_false, ite_true, ite_false, and_true, true_and, Bool.not_eq_true, Bool.not_true, Bool.not_false, Bool.true_eq_false, Bool.false_eq_true, imp_false, not_false_eq_true, not_true_eq_false, forall_const, true_implies, false_implies, reduceCtorEq, Nat.reduceAdd, Nat.reduceSub, Nat.reduceLT, decide_true, decide_false, Bool.or_true, Bool.true_or, Bool.or_false, Bool.false_or, Bool.and_true, Bool.true_and, Bool.and_false, Bool.false_and, and_false, false_and, or_true, true_or, or_false, false_or, not_true, not_false, stopD, e, f, g, kind_end, nd])
theorem need_plan_ok {p : List Stop} {o : O} (ho : o = .lst (p.map stopD) ∨ o = .dat (planD p)) (h : PlanOk p) : M_need_plan [o] = some (.dat .none) := Wp.eq (by
  have a1 : (1 : Int) ≤ (p.length : Int) := by have := h.l1; omega
  have a2 : (p.length : Int) ≤ 12 := by have := h.l12; omega
  rcases ho with rfl | rfl
  all_goals
    simp only [M_need_plan, B_need_plan, XR, List.getElem?_cons_zero, List.getElem?_cons_succ, List.set_cons_zero, List.set_cons_succ, List.length_cons, List.length_nil, List.length_map, List.length_range, List.length_append, List.length_set, List.map_cons, List.map_nil, List.replicate_succ, List.replicate_zero, List.cons_append, List.nil_append, List.append_nil, Nat.reduceLeDiff, Nat.reduceLT, Nat.zero_lt_succ, Int.reduceLT, Int.reduceLE, Int.reduceAdd, Int.reduceToNat, Int.cast_ofNat_Int, Int.natCast_zero, Int.natCast_one, Int.reduceEq, Int.reduceNe, Nat.reduceEqDiff, eq_self, beq_self_eq_true, Bool.true_beq, Bool.false_beq, Classical.not_not, Bool.not_eq_false, Int.reduceNeg, Int.reducePow, Option.bind_some, Option.bind_none, Option.map_some, Option.map_none, Option.or_some, Option.or_none, Option.none_or, Option.some_or, Option.or, decide_eq_true_eq, if_true, if_false, ite_true, ite_false, and_true, true_and, Bool.not_eq_true, Bool.not_true, Bool.not_false, Bool.true_eq_false, Bool.false_eq_true, imp_false, not_false_eq_true, not_true_eq_false, forall_const, true_implies, false_implies, reduceCtorEq, Nat.reduceAdd, Nat.reduceSub, Nat.reduceLT, decide_true, decide_false, Bool.or_true, Bool.true_or, Bool.or_false, Bool.false_or, Bool.and_true, Bool.true_and, Bool.and_false, Bool.false_and, and_false, false_and, or_true, true_or, or_false, false_or, not_true, not_false, planD, a1, a2]
    refine wp_for (fun i e => ∃ a : Sl, e = [_, a]) ⟨_, rfl⟩ ?_ ?_
    · rintro i d e hi ⟨a, rfl⟩
      rw [List.getElem?_map] at hi
      obtain ⟨s, hs, rfl⟩ := Option.map_eq_some_iff.mp hi
      simp only [L_need_plan_1, XR, List.getElem?_cons_zero, List.getElem?_cons_succ, List.set_cons_zero, List.set_cons_succ, List.length_cons, List.length_nil, List.length_map, List.length_range, List.length_append, List.length_set, List.map_cons, List.map_nil, List.replicate_succ, List.replicate_zero, List.cons_append, List.nil_append, List.append_nil, Nat.reduceLeDiff, Nat.reduceLT, Nat.zero_lt_succ, Int.reduceLT, Int.reduceLE, Int.reduceAdd, Int.reduceToNat, Int.cast_ofNat_Int, Int.natCast_zero, Int.natCast_one, Int.reduceEq, Int.reduceNe, Nat.reduceEqDiff, eq_self, beq_self_eq_true, Bool.true_beq, Bool.false_beq, Classical.not_not, Bool.not_eq_false, Int.reduceNeg, Int.reducePow, Option.bind_some, Option.bind_none, Option.map_some, Option.map_none, Option.or_some, Option.or_none, Option.none_or, Option.some_or, Option.or, decide_eq_true_eq, if_true, if_false, ite_true, ite_false, and_true, true_and, Bool.not_eq_true, Bool.not_true, Bool.not_false, Bool.true_eq_false, Bool.false_eq_true, imp_false, not_false_eq_true, not_true_eq_false, forall_const, true_implies, false_implies, reduceCtorEq, Nat.reduceAdd, Nat.reduceSub, Nat.reduceLT, decide_true, decide_false, Bool.or_true, Bool.true_or, Bool.or_false, Bool.false_or, Bool.and_true, Bool.true_and, Bool.and_false, Bool.false_and, and_false, false_and, or_true, true_or, or_false, false_or, not_true, not_false, is_stop_ok (h.ok s (List.mem_of_getElem? hs))]
      exact ⟨_, rfl⟩
    · rintro e ⟨a, rfl⟩
      simp only [XR, List.getElem?_cons_zero, List.getElem?_cons_succ, List.set_cons_zero, List.set_cons_succ, List.length_cons, List.length_nil, List.length_map, List.length_range, List.length_append, List.length_set, List.map_cons, List.map_nil, List.replicate_succ, List.replicate_zero, List.cons_append, List.nil_append, List.append_nil, Nat.reduceLeDiff, Nat.reduceLT, Nat.zero_lt_succ, Int.reduceLT, Int.reduceLE, Int.reduceAdd, Int.reduceToNat, Int.cast_ofNat_Int, Int.natCast_zero, Int.natCast_one, Int.reduceEq, Int.reduceNe, Nat.reduceEqDiff, eq_self, beq_self_eq_true, Bool.true_beq, Bool.false_beq, Classical.not_not, Bool.not_eq_false, Int.reduceNeg, Int.reducePow, Option.bind_some, Option.bind_none, Option.map_some, Option.map_none, Option.or_some, Option.or_none, Option.none_or, Option.some_or, Option.or, decide_eq_true_eq, if_true, if_false, ite_true, ite_false, and_true, true_and, Bool.not_eq_true, Bool.not_true, Bool.not_false, Bool.true_eq_false, Bool.false_eq_true, imp_false, not_false_eq_true, not_true_eq_false, forall_const, true_implies, false_implies, reduceCtorEq, Nat.reduceAdd, Nat.reduceSub, Nat.reduceLT, decide_true, decide_false, Bool.or_true, Bool.true_or, Bool.or_false, Bool.false_or, Bool.and_true, Bool.true_and, Bool.and_false, Bool.false_and, and_false, false_and, or_true, true_or, or_false, false_or, not_true, not_false])
def flip : Stop → Stop
  | .fin => .fin
  | .act b ws => .act (!b) ws
theorem depth_mem : ∀ {xs : List D}, ∀ x ∈ xs, x.depth ≤ PyData.depthAll xs
  | d :: ds, x, m => by
    rw [PyData.depthAll]
    rcases List.mem_cons.mp m with rfl | m
    · omega
    · have := depth_mem x m
      omega
/-! what the look takes as the same as itself -/
mutual
def okS : D → Bool
  | .none => false
  | .bool _ => false
  | .int _ => true
  | .str _ => true
  | .list xs => decide (xs.length ≤ 1000000) && okSL xs
  | .tuple xs => decide (xs.length ≤ 1000000) && okSL xs
  | .dict _ => false
def okSL : List D → Bool
  | [] => true
  | x :: xs => okS x && okSL xs
end
theorem okSL_iff : ∀ {xs : List D}, okSL xs = true ↔ ∀ x ∈ xs, okS x = true
  | [] => by simp [okSL]
  | d :: ds => by rw [okSL, Bool.and_eq_true, okSL_iff, List.forall_mem_cons]
theorem ok_way (p : Str × Int) : okS (wayD p) = true := rfl
theorem dp_way (p : Str × Int) : (wayD p).depth = 1 := rfl
theorem ok_stop {m : Int} {s : Stop} (h : StopOk m s) : okS (stopD s) = true ∧ (stopD s).depth ≤ 3 := by
  cases s with
  | fin => exact ⟨rfl, by decide⟩
  | act b ws =>
    have e1 : okSL (ws.map wayD) = true := okSL_iff.mpr fun x m => by
      obtain ⟨p, _, rfl⟩ := List.mem_map.mp m
      rfl
    have e2 : PyData.depthAll (ws.map wayD) ≤ 1 := by
      clear h e1
      induction ws with
      | nil => exact Nat.zero_le _
      | cons p ws ih => rw [List.map_cons, PyData.depthAll, dp_way]; omega
    have l := h.l6
    refine ⟨?_, ?_⟩
    · simp only [stopD, kindD, okS, okSL, e1, List.length_map, List.length_cons, List.length_nil]
      simp
      omega
    · simp only [stopD, kindD, PyData.depth, PyData.depthAll]
      omega
theorem planOk_flip {p : List Stop} (h : PlanOk p) : PlanOk (p.map flip) := ⟨by rw [List.length_map]; exact h.l1, by rw [List.length_map]; exact h.l12, fun s m => by
  obtain ⟨t, ht, rfl⟩ := List.mem_map.mp m
  rw [List.length_map]
  have := h.ok t ht
  cases t with
  | fin => trivial
  | act b ws => exact this⟩
theorem flip_flip (p : List Stop) : (p.map flip).map flip = p := by
  rw [List.map_map]
  have : flip ∘ flip = id := by
    funext s
    cases s with
    | fin => rfl
    | act b ws => cases b <;> rfl
  rw [this, List.map_id]
theorem canLay_all {xs : List D} : PyData.canLayAll0 xs = true ↔ ∀ x ∈ xs, x.canLay0 = true := by
  induction xs with
  | nil => simp [PyData.canLayAll0]
  | cons d ds ih => rw [PyData.canLayAll0, Bool.and_eq_true, ih, List.forall_mem_cons]
theorem strOk_w {x : Str} (h : wOk x) : PyData.strOk x = true := by
  have e := shaped_w h
  simp only [SeqAt.shaped, PyData.canLay0, PyData.depth, Bool.and_eq_true] at e
  exact e.1
theorem lay_stop {m : Int} {s : Stop} (h : StopOk m s) : (stopD s).canLay0 = true := by
  cases s with
  | fin => decide +kernel
  | act b ws =>
    have e1 : PyData.canLayAll0 (ws.map wayD) = true := canLay_all.mpr fun x m => by
      obtain ⟨p, hp, rfl⟩ := List.mem_map.mp m
      simp only [wayD, PyData.canLay0, PyData.canLayAll0, strOk_w (h.ok p hp).1]
      rfl
    have e2 : (kindD b).canLay0 = true := by cases b <;> decide +kernel
    simp only [stopD, PyData.canLay0, PyData.canLayAll0, e1, e2]
    rfl
theorem lay_plan {p : List Stop} (h : PlanOk p) : (planD p).canLay0 = true := by
  rw [planD, PyData.canLay0, canLay_all]
  intro x m
  obtain ⟨s, hs, rfl⟩ := List.mem_map.mp m
  exact lay_stop (h.ok s hs)
theorem shaped_plan {p : List Stop} (h : PlanOk p) : SeqAt.shaped (planD p) = true := by
  have e2 : PyData.depthAll (p.map stopD) ≤ 3 := by
    have g := h.ok
    clear h
    generalize (p.length : Int) = m at g
    induction p with
    | nil => exact Nat.zero_le _
    | cons s p ih =>
      rw [List.map_cons, PyData.depthAll]
      have := (ok_stop (g s List.mem_cons_self)).2
      have := ih fun s hs => g s (List.mem_cons_of_mem _ hs)
      omega
  have e1 := lay_plan h
  simp only [SeqAt.shaped, e1, Bool.true_and, decide_eq_true_eq]
  simp only [planD, PyData.depth]
  omega
theorem eqv_plan {p : List Stop} (h : PlanOk p) : PyData.eqv (planD p) (planD p) = true := SeqAt.eqv_refl _ (lay_plan h)
theorem ne_plan {p : List Stop} {a b : O} (h : PlanOk p) (ha : a = .lst (p.map stopD) ∨ a = .dat (planD p)) (hb : b = .lst (p.map stopD) ∨ b = .dat (planD p)) : gNe a b = some (oB false) := by
  have e : okEq (planD p) (planD p) = true := by unfold okEq; rw [shaped_plan h]; simp
  have e2 := eqv_plan h
  rcases ha with rfl | rfl <;> rcases hb with rfl | rfl <;> (show (if okEq (planD p) (planD p) = true then some (oB (!PyData.eqv (planD p) (planD p))) else none) = _; rw [if_pos e, e2]; rfl)
theorem planOk_fin {p : List Stop} (h : PlanOk p) (i : Nat) : PlanOk (p.set i .fin) := ⟨by rw [List.length_set]; exact h.l1, by rw [List.length_set]; exact h.l12, fun s m => by
  rw [List.length_set]
  rcases List.mem_or_eq_of_mem_set m with m | rfl
  · exact h.ok s m
  · trivial⟩
end TP

namespace TP
open PySem PySem.Spec PyProof.Rows L2
def waysS : Stop → List (Str × Int)
  | .fin => []
  | .act _ ws => ws
theorem ways_of_ok {s : Stop} : M_ways_of [.dat (stopD s)] = some (.dat (.tuple ((waysS s).map wayD))) := Wp.eq (by
  cases s with
  | fin => simp only [M_ways_of, B_ways_of, XR, List.getElem?_cons_zero, List.getElem?_cons_succ, List.set_cons_zero, List.set_cons_succ, List.length_cons, List.length_nil, List.length_map, List.length_range, List.length_append, List.length_set, List.map_cons, List.map_nil, List.replicate_succ, List.replicate_zero, List.cons_append, List.nil_append, List.append_nil, Nat.reduceLeDiff, Nat.reduceLT, Nat.zero_lt_succ, Int.reduceLT, Int.reduceLE, Int.reduceAdd, Int.reduceToNat, Int.cast_ofNat_Int, Int.natCast_zero, Int.natCast_one, Int.reduceEq, Int.reduceNe, Nat.reduceEqDiff, eq_self, beq_self_eq_true, Bool.true_beq, Bool.false_beq, Classical.not_not, Bool.not_eq_false, Int.reduceNeg, Int.reducePow, Option.bind_some, Option.bind_none, Option.map_some, Option.map_none, Option.or_some, Option.or_none, Option.none_or, Option.some_or, Option.or, decide_eq_true_eq, if_true, if_false, ite_true, ite_false, and_true, true_and, Bool.not_eq_true, Bool.not_true, Bool.not_false, Bool.true_eq_false, Bool.false_eq_true, imp_false, not_false_eq_true, not_true_eq_false, forall_const, true_implies, false_implies, reduceCtorEq, Nat.reduceAdd, Nat.reduceSub, Nat.reduceLT, decide_true, decide_false, Bool.or_true, Bool.true_or, Bool.or_false, Bool.false_or, Bool.and_true, Bool.true_and, Bool.and_false, Bool.false_and, and_false, false_and, or_true, true_or, or_false, false_or, not_true, not_false, stopD, waysS]
  | act b ws => simp only [M_ways_of, B_ways_of, XR, List.getElem?_cons_zero, List.getElem?_cons_succ, List.set_cons_zero, List.set_cons_succ, List.length_cons, List.length_nil, List.length_map, List.length_range, List.length_append, List.length_set, List.map_cons, List.map_nil, List.replicate_succ, List.replicate_zero, List.cons_append, List.nil_append, List.append_nil, Nat.reduceLeDiff, Nat.reduceLT, Nat.zero_lt_succ, Int.reduceLT, Int.reduceLE, Int.reduceAdd, Int.reduceToNat, Int.cast_ofNat_Int, Int.natCast_zero, Int.natCast_one, Int.reduceEq, Int.reduceNe, Nat.reduceEqDiff, eq_self, beq_self_eq_true, Bool.true_beq, Bool.false_beq, Classical.not_not, Bool.not_eq_false, Int.reduceNeg, Int.reducePow, Option.bind_some, Option.bind_none, Option.map_some, Option.map_none, Option.or_some, Option.or_none, Option.none_or, Option.some_or, Option.or, decide_eq_true_eq, if_true, if_false, ite_true, ite_false, and_true, true_and, Bool.not_eq_true, Bool.not_true, Bool.not_false, Bool.true_eq_false, Bool.false_eq_true, imp_false, not_false_eq_true, not_true_eq_false, forall_const, true_implies, false_implies, reduceCtorEq, Nat.reduceAdd, Nat.reduceSub, Nat.reduceLT, decide_true, decide_false, Bool.or_true, Bool.true_or, Bool.or_false, Bool.false_or, Bool.and_true, Bool.true_and, Bool.and_false, Bool.false_and, and_false, false_and, or_true, true_or, or_false, false_or, not_true, not_false, stopD, waysS, kind_end])
def kindS : Stop → Option Bool
  | .fin => none
  | .act b _ => some b
def nextL : List (Str × Int) → Str → Option Int
  | [], _ => none
  | p :: r, w => if p.1 = w then some p.2 else nextL r w
def optI : Option Int → D
  | some i => .int i
  | none => .none
def okWs (ws : List (Str × Int)) : Prop := ws.length ≤ 1000 ∧ ∀ p ∈ ws, wOk p.1
theorem StopOk.okWs {m : Int} {s : Stop} (h : StopOk m s) : okWs (waysS s) := by
  cases s with
  | fin => exact ⟨by decide, fun p m => by cases m⟩
  | act b ws => exact ⟨by have := h.l6; show ws.length ≤ 1000; omega, fun p m => (h.ok p m).1⟩
theorem shaped_words {ws : List (Str × Int)} (h : okWs ws) : SeqAt.shaped (.list (ws.map fun p => .str p.1)) = true := by
  have e1 : PyData.canLayAll0 (ws.map fun p => PyData.str p.1) = true := canLay_all.mpr fun x m => by
    obtain ⟨p, hp, rfl⟩ := List.mem_map.mp m
    rw [PyData.canLay0]
    exact strOk_w (h.2 p hp)
  have e2 : PyData.depthAll (ws.map fun p => PyData.str p.1) ≤ 0 := by
    clear h e1
    induction ws with
    | nil => exact Nat.zero_le _
    | cons p ws ih => rw [List.map_cons, PyData.depthAll, PyData.depth]; omega
  have e3 : (PyData.list (ws.map fun p => PyData.str p.1)).depth ≤ 64 := by
    rw [PyData.depth]
    omega
  have e4 : (PyData.list (ws.map fun p => PyData.str p.1)).canLay0 = true := by rw [PyData.canLay0]; exact e1
  unfold SeqAt.shaped
  rw [e4, decide_eq_true e3]
  rfl
theorem in_words {x : Str} {ws : List (Str × Int)} (hx : wOk x) (h : okWs ws) : gInA (oS x) (.lst (ws.map fun p => .str p.1)) = some (oB (ws.any fun p => decide (p.1 = x))) := by
  show ((none : Option O).or (if (SeqAt.shaped (.str x) && SeqAt.shaped (.list (ws.map fun p => .str p.1))) = true then some (oB ((ws.map fun p => PyData.str p.1).any fun z => PyData.eqv z (.str x))) else none)) = _
  rw [shaped_w hx, shaped_words h, Option.none_or, Bool.true_and, if_pos rfl, List.any_map]
  congr 3
theorem head_act {k l : Bool} : gEq (.dat (kindD k)) (.dat (kindD l)) = some (oB (k == l)) := by cases k <;> cases l <;> rfl
end TP

namespace TP
open PySem PySem.Spec PyProof.Rows L2
def PlanIn (ws : List Str) (p : List Stop) : Prop := ∀ s ∈ p, ∀ x ∈ waysS s, x.1 ∈ ws
theorem planIn_of {ws : List Str} {p : List Stop} (h : ∀ s ∈ p, match s with | .fin => True | .act _ l => ∀ x ∈ l, x.1 ∈ ws) : PlanIn ws p := fun s m x hx => by
  have := h s m
  cases s with
  | fin => cases hx
  | act b l => exact this x hx
theorem cut_to {xs : List D} {k : Nat} (h : k ≤ xs.length) : cutD xs none (some (k : Int)) = xs.take k := by
  unfold cutD
  rw [HT.sIx_nat, HT.sIx_none, Nat.min_eq_left h, Nat.sub_zero, List.drop_zero]
theorem cut_from {xs : List D} {k : Nat} (h : k ≤ xs.length) : cutD xs (some (k : Int)) none = xs.drop k := by
  unfold cutD
  rw [HT.sIx_nat, HT.sIx_none, Nat.min_eq_left h, List.take_of_length_le]
  rw [List.length_drop]
  exact Nat.le_refl _
/-! ### dict of ways -/
def entD (p : Str × Int) : D × D := (.str p.1, .int p.2)
theorem pairs_ways (l : List (Str × Int)) : pairsD (l.map wayD) = some (l.map entD) := by
  induction l with
  | nil => rfl
  | cons p l ih =>
    rw [List.map_cons]
    show ((asK (.str p.1)).bind fun _ => (pairsD (l.map wayD)).map fun r => (PyData.str p.1, PyData.int p.2) :: r) = _
    rw [ih]
    rfl
theorem put_new {acc : List (Str × Int)} {p : Str × Int} (h : ∀ q ∈ acc, q.1 ≠ p.1) : putD (acc.map entD) (.str p.1) (.int p.2) = (acc ++ [p]).map entD := by
  unfold putD
  rw [if_neg]
  · rw [List.map_append]; rfl
  · rw [List.any_eq_true]
    rintro ⟨kv, m, e⟩
    obtain ⟨q, hq, rfl⟩ := List.mem_map.mp m
    have e : PyData.eqv (.str q.1) (.str p.1) = true := e
    rw [eqv_ss] at e
    exact h q hq (of_decide_eq_true e)
theorem merge_new : ∀ (l acc : List (Str × Int)), (acc ++ l).Pairwise (fun a b => a.1 ≠ b.1) → mergeD (acc.map entD) (l.map entD) = (acc ++ l).map entD
  | [], acc, _ => by rw [List.append_nil]; rfl
  | p :: l, acc, h => by
    have h1 : ∀ q ∈ acc, q.1 ≠ p.1 := fun q hq => (List.pairwise_append.mp h).2.2 q hq p List.mem_cons_self
    show mergeD (putD (acc.map entD) (.str p.1) (.int p.2)) (l.map entD) = _
    rw [put_new h1]
    have := merge_new l (acc ++ [p]) (by rw [List.append_assoc]; exact h)
    rw [this, List.append_assoc]
    rfl
theorem get_ways (l : List (Str × Int)) (w : Str) : getD (l.map entD) (.str w) = (nextL l w).map .int := by
  unfold getD
  induction l with
  | nil => rfl
  | cons p l ih =>
    rw [List.map_cons, List.find?_cons]
    show (Option.map _ (match PyData.eqv (.str p.1) (.str w) with | true => _ | false => _)) = _
    rw [eqv_ss, nextL]
    by_cases e : p.1 = w
    · rw [decide_eq_true e, if_pos e]; rfl
    · rw [decide_eq_false e, if_neg e]; exact ih
theorem dict_ways {l : List (Str × Int)} (h : l.Pairwise fun a b => a.1 ≠ b.1) : gDict (.lst (l.map wayD)) = some (.dK (l.map entD)) := by
  show (pairsD (l.map wayD)).map (fun l => O.dK (mergeD [] l)) = _
  rw [pairs_ways, Option.map_some]
  rw [show mergeD [] (l.map entD) = (l.map entD) from merge_new l [] h]
theorem nodup_sub {l ws : List Str} (nd : l.Nodup) (h : ∀ x ∈ l, x ∈ ws) : l.length ≤ ws.length := by
  induction l generalizing ws with
  | nil => exact Nat.zero_le _
  | cons a l ih =>
    have ha := h a List.mem_cons_self
    have := ih (ws := ws.erase a) (List.nodup_cons.mp nd).2 fun x m => by
      rw [List.mem_erase_of_ne]
      · exact h x (List.mem_cons_of_mem _ m)
      · intro z
        subst z
        exact (List.nodup_cons.mp nd).1 m
    rw [List.length_erase_of_mem ha] at this
    have : 0 < ws.length := List.length_pos_of_mem ha
    rw [List.length_cons]
    omega
theorem act_head {b : Bool} {l : List (Str × Int)} : gIx (.dat (stopD (.act b l))) (oI 0) = some (.dat (kindD b)) := by
  show (ixD [kindD b, .tuple (l.map wayD)] 0).map O.dat = _
  rw [ix0]; rfl
theorem act_ways {b : Bool} {l : List (Str × Int)} : gIx (.dat (stopD (.act b l))) (oI 1) = some (.dat (.tuple (l.map wayD))) := by
  show (ixD [kindD b, .tuple (l.map wayD)] 1).map O.dat = _
  rw [ix1]; rfl
theorem fin_head : gIx (.dat (stopD .fin)) (oI 0) = some (oS "end") := by
  show (ixD [.str "end"] 0).map O.dat = _
  rw [ix0]; rfl
theorem set_split {α : Type} {l : List α} {i : Nat} {x : α} (h : i < l.length) : l.set i x = l.take i ++ [x] ++ l.drop (i + 1) := by
  rw [List.set_eq_take_append_cons_drop, if_pos h, List.append_assoc]
  rfl
theorem needF_ways {m : Int} {ws : List (Str × Int)} (h : WaysOk m ws) : needF (ws.map wayD) = true := by
  have all : ∀ (l : List (Str × Int)) (u : Option Str), l.Pairwise (fun a b => wLt a.1 b.1) → (∀ w, u = some w → ∀ p ∈ l, wLt w p.1) → risD u (l.map wayD) = true := by
    intro l
    induction l with
    | nil => intro u _ _; cases u <;> rfl
    | cons p l ih =>
      intro u hs hu
      rw [List.map_cons, risD]
      have e : risD (some p.1) (l.map wayD) = true := ih (some p.1) (List.pairwise_cons.mp hs).2 fun w e q hq => by
        cases e
        exact (List.pairwise_cons.mp hs).1 q hq
      cases u with
      | none => exact e
      | some w =>
        show (decide (w.cps.toList < p.1.cps.toList) && risD (some p.1) (l.map wayD)) = true
        rw [e, Bool.and_true]
        exact decide_eq_true (hu w rfl p List.mem_cons_self)
  unfold needF
  have e := all ws none h.so fun w e => by cases e
  rw [e, Bool.and_true]
  have l1 := h.l1
  cases ws with
  | nil => cases l1
  | cons p ws => rfl
theorem keys_ways (l : List (Str × Int)) : keysD (l.map entD) = l.map fun p => .str p.1 := by
  cases l with
  | nil => rfl
  | cons p l => simp only [List.map_cons, entD, keysD, List.map_map]; rfl
theorem dic_ways (l : List (Str × Int)) : asDic (.dat (.dict (l.map entD))) = some (.k (l.map entD)) := by
  cases l with
  | nil => rfl
  | cons p l => rfl
theorem law_ways_ok {m : Int} {s : Stop} (h : StopOk m s) : M_law_ways [.dat (stopD s)] = some (.dK ((waysS s).map entD)) := Wp.eq (by
  cases s with
  | fin => simp only [M_law_ways, B_law_ways, XR, List.getElem?_cons_zero, List.getElem?_cons_succ, List.set_cons_zero, List.set_cons_succ, List.length_cons, List.length_nil, List.length_map, List.length_range, List.length_append, List.length_set, List.map_cons, List.map_nil, List.replicate_succ, List.replicate_zero, List.cons_append, List.nil_append, List.append_nil, Nat.reduceLeDiff, Nat.reduceLT, Nat.zero_lt_succ, Int.reduceLT, Int.reduceLE, Int.reduceAdd, Int.reduceToNat, Int.cast_ofNat_Int, Int.natCast_zero, Int.natCast_one, Int.reduceEq, Int.reduceNe, Nat.reduceEqDiff, eq_self, beq_self_eq_true, Bool.true_beq, Bool.false_beq, Classical.not_not, Bool.not_eq_false, Int.reduceNeg, Int.reducePow, Option.bind_some, Option.bind_none, Option.map_some, Option.map_none, Option.or_some, Option.or_none, Option.none_or, Option.some_or, Option.or, decide_eq_true_eq, if_true, if_false, ite_true, ite_false, and_true, true_and, Bool.not_eq_true, Bool.not_true, Bool.not_false, Bool.true_eq_false, Bool.false_eq_true, imp_false, not_false_eq_true, not_true_eq_false, forall_const, true_implies, false_implies, reduceCtorEq, Nat.reduceAdd, Nat.reduceSub, Nat.reduceLT, decide_true, decide_false, Bool.or_true, Bool.true_or, Bool.or_false, Bool.false_or, Bool.and_true, Bool.true_and, Bool.and_false, Bool.false_and, and_false, false_and, or_true, true_or, or_false, false_or, not_true, not_false, fin_head, waysS]
  | act b l =>
    have nf := needF_ways h
    have dis : l.Pairwise fun a b => a.1 ≠ b.1 := h.so.imp fun {a b} h z => by rw [z] at h; exact wLt_irr _ h
    have e : gDict (.dat (.tuple (l.map wayD))) = some (.dK (l.map entD)) := by
      show (if needF (l.map wayD) = true then (pairsD (l.map wayD)).map (fun l => O.dK (mergeD [] l)) else none) = _
      rw [if_pos nf, pairs_ways, Option.map_some]
      rw [show mergeD [] (l.map entD) = (l.map entD) from merge_new l [] dis]
    simp only [M_law_ways, B_law_ways, XR, List.getElem?_cons_zero, List.getElem?_cons_succ, List.set_cons_zero, List.set_cons_succ, List.length_cons, List.length_nil, List.length_map, List.length_range, List.length_append, List.length_set, List.map_cons, List.map_nil, List.replicate_succ, List.replicate_zero, List.cons_append, List.nil_append, List.append_nil, Nat.reduceLeDiff, Nat.reduceLT, Nat.zero_lt_succ, Int.reduceLT, Int.reduceLE, Int.reduceAdd, Int.reduceToNat, Int.cast_ofNat_Int, Int.natCast_zero, Int.natCast_one, Int.reduceEq, Int.reduceNe, Nat.reduceEqDiff, eq_self, beq_self_eq_true, Bool.true_beq, Bool.false_beq, Classical.not_not, Bool.not_eq_false, Int.reduceNeg, Int.reducePow, Option.bind_some, Option.bind_none, Option.map_some, Option.map_none, Option.or_some, Option.or_none, Option.none_or, Option.some_or, Option.or, decide_eq_true_eq, if_true, if_false, ite_true, ite_false, and_true, true_and, Bool.not_eq_true, Bool.not_true, Bool.not_false, Bool.true_eq_false, Bool.false_eq_true, imp_false, not_false_eq_true, not_true_eq_false, forall_const, true_implies, false_implies, reduceCtorEq, Nat.reduceAdd, Nat.reduceSub, Nat.reduceLT, decide_true, decide_false, Bool.or_true, Bool.true_or, Bool.or_false, Bool.false_or, Bool.and_true, Bool.true_and, Bool.and_false, Bool.false_and, and_false, false_and, or_true, true_or, or_false, false_or, not_true, not_false, act_head, act_ways, kind_end, e, waysS])
theorem get_key (l : List (Str × Int)) (w : Str) : dicGet (.k (l.map entD)) (.str w) = some ((nextL l w).map .int) := by
  show (asK (.str w)).map (fun _ => getD (l.map entD) (.str w)) = _
  rw [get_ways]
  rfl
def hdD : Stop → D
  | .fin => .str "end"
  | .act b _ => kindD b
theorem head_any (s : Stop) : gIx (.dat (stopD s)) (oI 0) = some (.dat (hdD s)) := by
  cases s with
  | fin => exact fin_head
  | act b l => exact act_head
theorem hd_send (s : Stop) : gEq (.dat (hdD s)) (oS "send") = some (oB (decide (kindS s = some true))) := by
  cases s with
  | fin => rfl
  | act b l => cases b <;> rfl
theorem hd_ne (a b : Stop) : gNe (.dat (hdD a)) (.dat (hdD b)) = some (oB (!decide (kindS a = kindS b))) := by
  cases a with
  | fin =>
    cases b with
    | fin => rfl
    | act b l => cases b <;> rfl
  | act a l =>
    cases b with
    | fin => cases a <;> rfl
    | act b l => cases a <;> cases b <;> rfl
theorem hd_end (s : Stop) : gEq (.dat (hdD s)) (oS "end") = some (oB (decide (kindS s = none))) := by
  cases s with
  | fin => rfl
  | act b l => cases b <;> rfl
theorem hd_get (s : Stop) : gEq (.dat (hdD s)) (oS "get") = some (oB (decide (kindS s = some false))) := by
  cases s with
  | fin => rfl
  | act b l => cases b <;> rfl
theorem nextL_mem {ws : List (Str × Int)} {w : Str} {g : Int} (h : nextL ws w = some g) : (w, g) ∈ ws := by
  induction ws with
  | nil => cases h
  | cons p ws ih =>
    rw [nextL] at h
    split at h
    · rename_i e
      cases h
      subst e
      exact List.mem_cons_self
    · exact List.mem_cons_of_mem _ (ih h)
theorem nextL_any {ws : List (Str × Int)} {w : Str} (h : ∃ p ∈ ws, p.1 = w) : ∃ g, nextL ws w = some g := by
  obtain ⟨p, m, rfl⟩ := h
  induction ws with
  | nil => cases m
  | cons q ws ih =>
    rw [nextL]
    split
    · exact ⟨_, rfl⟩
    · rename_i n
      rcases List.mem_cons.mp m with rfl | m
      · exact absurd rfl n
      · exact ih m
abbrev Pr := Int × Int
def prD (x : Pr) : D := .tuple [.int x.1, .int x.2]
theorem eqv_pr (a b : Pr) : PyData.eqv (prD a) (prD b) = decide (a = b) := by
  have e := eqv_keys [.inl a.1, .inl a.2] [.inl b.1, .inl b.2]
  refine (show PyData.eqv (prD a) (prD b) = _ from e).trans ?_
  obtain ⟨a1, a2⟩ := a
  obtain ⟨b1, b2⟩ := b
  simp [Prod.ext_iff]
def atS (p : List Stop) (i : Int) : Stop := p[i.toNat]?.getD .fin
theorem ix_at {p : List Stop} {i : Int} (h0 : 0 ≤ i) (h1 : i < p.length) : ixD p i = some (atS p i) := by
  rw [ixD_get h0 h1]
  unfold atS
  rw [List.getElem?_eq_getElem (by omega)]
  rfl
theorem at_mem {p : List Stop} {i : Int} (h0 : 0 ≤ i) (h1 : i < p.length) : atS p i ∈ p := by
  unfold atS
  rw [List.getElem?_eq_getElem (by omega)]
  exact List.getElem_mem _
theorem next_rng {m : Int} {s : Stop} {w : Str} {g : Int} (h : StopOk m s) (e : nextL (waysS s) w = some g) : 0 ≤ g ∧ g < m := by
  have := nextL_mem e
  cases s with
  | fin => cases this
  | act b ws => exact (h.ok _ this).2
theorem pr_0 {x : Pr} : gIx (.dat (prD x)) (oI 0) = some (oI x.1) := by unfold prD; rw [v_ix3, ix0]; rfl
theorem pr_1 {x : Pr} : gIx (.dat (prD x)) (oI 1) = some (oI x.2) := by unfold prD; rw [v_ix3, ix1]; rfl
theorem shaped_prs (fs : List Pr) : SeqAt.shaped (.list (fs.map prD)) = true := by
  have e1 : PyData.canLayAll0 (fs.map prD) = true := canLay_all.mpr fun x m => by
    obtain ⟨p, hp, rfl⟩ := List.mem_map.mp m
    rfl
  have e2 : PyData.depthAll (fs.map prD) ≤ 1 := by
    clear e1
    induction fs with
    | nil => exact Nat.zero_le _
    | cons p ws ih =>
      rw [List.map_cons, PyData.depthAll]
      have : (prD p).depth = 1 := rfl
      omega
  have e3 : (PyData.list (fs.map prD)).depth ≤ 64 := by
    rw [PyData.depth]
    omega
  have e4 : (PyData.list (fs.map prD)).canLay0 = true := by rw [PyData.canLay0]; exact e1
  unfold SeqAt.shaped
  rw [e4, decide_eq_true e3]
  rfl
theorem notin_prs {y : Pr} {fs : List Pr} : gNotInA (.dat (prD y)) (.lst (fs.map prD)) = some (oB (!fs.any fun x => decide (x = y))) := by
  show ((none : Option O).or (if (SeqAt.shaped (prD y) && SeqAt.shaped (.list (fs.map prD))) = true then some (oB (!(fs.map prD).any fun z => PyData.eqv z (prD y))) else none)) = _
  have e : SeqAt.shaped (prD y) = true := by
    unfold SeqAt.shaped
    have e4 : (prD y).canLay0 = true := rfl
    have e3 : (prD y).depth ≤ 64 := by show 1 ≤ 64; decide
    rw [e4, decide_eq_true e3]
    rfl
  rw [e, shaped_prs, Option.none_or, Bool.true_and, if_pos rfl, List.any_map]
  congr 3
  congr 1
  funext x
  exact eqv_pr x y
theorem shaped_strs {xs : List Str} (h : ∀ x ∈ xs, wOk x) : SeqAt.shaped (.list (xs.map .str)) = true := by
  have e1 : PyData.canLayAll0 (xs.map .str) = true := canLay_all.mpr fun x m => by
    obtain ⟨p, hp, rfl⟩ := List.mem_map.mp m
    show PyData.strOk p = true
    exact strOk_w (h p hp)
  have e2 : PyData.depthAll (xs.map .str) ≤ 1 := by
    clear e1 h
    induction xs with
    | nil => exact Nat.zero_le _
    | cons p ws ih =>
      rw [List.map_cons, PyData.depthAll]
      have : (PyData.str p).depth = 0 := rfl
      omega
  have e3 : (PyData.list (xs.map .str)).depth ≤ 64 := by rw [PyData.depth]; omega
  unfold SeqAt.shaped
  rw [show (PyData.list (xs.map .str)).canLay0 = true by rw [PyData.canLay0]; exact e1, decide_eq_true e3]
  rfl
theorem way_0 (p : Str × Int) : gIx (.dat (wayD p)) (oI 0) = some (oS p.1) := by
  unfold wayD; rw [v_ix3, ix0]; rfl
theorem way_1 (p : Str × Int) : gIx (.dat (wayD p)) (oI 1) = some (oI p.2) := by
  unfold wayD; rw [v_ix3, ix1]; rfl
theorem way_t (p : Str × Int) : isT "tuple" (wayD p) = true := by unfold isT; rfl
theorem way_l (p : Str × Int) : gLen (.dat (wayD p)) = some (oI 2) := rfl
theorem way_n (p : Str × Int) : notDict (wayD p) = true := rfl
theorem ne_nil {xs : List Str} (h : ∀ x ∈ xs, wOk x) : gNe (.lst (xs.map .str)) (.lst []) = some (oB (!xs.isEmpty)) := by
  have e : okEq (.list (xs.map .str)) (.list []) = true := by
    unfold okEq
    rw [shaped_strs h, show SeqAt.shaped (.list []) = true from rfl]
    simp
  show (if okEq (.list (xs.map .str)) (.list []) = true then some (oB (!PyData.eqv (.list (xs.map .str)) (.list []))) else none) = _
  rw [if_pos e]
  cases xs <;> rfl
theorem notin_prd {y : Pr} {fs : List Pr} : gNotInA (.dat (prD y)) (.dat (.list (fs.map prD))) = some (oB (!fs.any fun x => decide (x = y))) := notin_prs
theorem ne_same {a b : O} {d : D} (ha : a.data = some d) (hb : b.data = some d) (hs : SeqAt.shaped d = true) : gNe a b = some (oB false) := by
  have l : d.canLay0 = true := by
    unfold SeqAt.shaped at hs
    exact (Bool.and_eq_true_iff.mp hs).1
  have e : okEq d d = true := by unfold okEq; rw [hs]; simp
  unfold gNe
  rw [ha, hb, Option.bind_some, Option.bind_some, if_pos e, SeqAt.eqv_refl _ l]
  rfl
theorem eq_same {a b : O} {d : D} (ha : a.data = some d) (hb : b.data = some d) (hs : SeqAt.shaped d = true) : gEq a b = some (oB true) := by
  have l : d.canLay0 = true := by
    unfold SeqAt.shaped at hs
    exact (Bool.and_eq_true_iff.mp hs).1
  have e : okEq d d = true := by unfold okEq; rw [hs]; simp
  unfold gEq
  rw [ha, hb, Option.bind_some, Option.bind_some, if_pos e, SeqAt.eqv_refl _ l]
theorem sortSet_id {xs : List Str} (h : xs.Pairwise wLt) (l : xs.length ≤ 4000) : gSortSet (.lst (xs.map .str)) = some (.lst (xs.map .str)) := by
  have e1 : asSs (xs.map .str) = some xs := by
    clear h l
    induction xs with
    | nil => rfl
    | cons x xs ih => rw [List.map_cons, asSs, ih]; rfl
  have nd : xs.Nodup := h.imp fun {a b} h z => by rw [z] at h; exact wLt_irr _ h
  have pm : (dsts xs).Perm xs := (List.perm_ext_iff_of_nodup (dsts_nd xs) nd).mpr fun x => dsts_mem
  show ((asSs (xs.map .str)).bind fun xs => if decide (xs.length ≤ 4000) = true then some (O.lst (sortD ((dsts xs).map .str))) else none) = _
  rw [e1, Option.bind_some, if_pos (decide_eq_true l), sortS_perm pm]
  obtain ⟨ys, e2, p2, s2⟩ := sortD_str xs
  have : ys = xs := List.Perm.eq_of_pairwise (le := fun a b => ¬ wLt b a) (fun a b _ _ h1 h2 => by
    rcases Classical.em (a = b) with e | e
    · exact e
    · exact absurd (wLe_lt h1 e) h2) s2 (h.imp fun {a b} h z => wLt_irr _ (wLt_trans h z)) p2
  rw [e2, this]
theorem lc_none {α : Type} {f0 : α → D} {tg : Tg} {c f : Ex} {env : En} {Q : List D → Prop} {l : List α} (h : ∀ a ∈ l, Wp (tg (f0 a) env) fun e1 => Wp (c e1) fun o => o = oB false) (q : Q []) : Wp (lcL tg c f env (l.map f0)) Q := by
  refine lc_filt (g := fun a => f0 a) (fun _ => false) (fun a m => ?_) (by rw [show l.filter (fun _ => false) = [] from List.filter_eq_nil_iff.mpr fun _ _ => Bool.false_ne_true]; exact q)
  refine (h a m).imp fun e1 w => w.imp fun o e => ⟨e, fun z => by cases z⟩
theorem nil_ne : gNe (.lst []) (.lst []) = some (oB false) := rfl
end TP

/-! Ref: what is alike within a plan (levels, classes), and what is come to; no program in sight. -/
namespace TP
open PySem PySem.Spec PyProof.Rows L2
/-! ### lists that grow by what is new -/
def adds (acc xs : List Int) : List Int := xs.foldl (fun a x => if x ∈ a then a else a ++ [x]) acc
theorem adds_in {acc xs : List Int} {x : Int} (h : x ∈ acc) : adds acc (x :: xs) = adds acc xs := by
  show adds (if x ∈ acc then acc else acc ++ [x]) xs = _
  rw [if_pos h]
theorem adds_out {acc xs : List Int} {x : Int} (h : x ∉ acc) : adds acc (x :: xs) = adds (acc ++ [x]) xs := by
  show adds (if x ∈ acc then acc else acc ++ [x]) xs = _
  rw [if_neg h]
theorem adds_app (acc xs ys : List Int) : adds acc (xs ++ ys) = adds (adds acc xs) ys := List.foldl_append
theorem adds_mem {x : Int} : ∀ {xs acc : List Int}, x ∈ adds acc xs ↔ x ∈ acc ∨ x ∈ xs
  | [], acc => ⟨.inl, fun h => h.resolve_right List.not_mem_nil⟩
  | y :: xs, acc => by
    by_cases h : y ∈ acc
    · rw [adds_in h, adds_mem, List.mem_cons]
      exact ⟨fun z => z.imp id .inr, fun z => by
        rcases z with z | rfl | z
        · exact .inl z
        · exact .inl h
        · exact .inr z⟩
    · rw [adds_out h, adds_mem, List.mem_append, List.mem_singleton, List.mem_cons, or_assoc]
theorem adds_pre : ∀ {xs acc : List Int}, acc <+: adds acc xs
  | [], acc => List.prefix_refl _
  | y :: xs, acc => by
    by_cases h : y ∈ acc
    · rw [adds_in h]; exact adds_pre
    · rw [adds_out h]; exact (List.prefix_append acc [y]).trans adds_pre
theorem adds_nd : ∀ {xs acc : List Int}, acc.Nodup → (adds acc xs).Nodup
  | [], acc, h => h
  | y :: xs, acc, h => by
    by_cases m : y ∈ acc
    · rw [adds_in m]; exact adds_nd h
    · rw [adds_out m]
      refine adds_nd (List.nodup_append.mpr ⟨h, by simp, fun u hu v hv e => m ?_⟩)
      rw [List.mem_singleton.mp hv] at e
      exact e ▸ hu
theorem adds_sub : ∀ {xs acc : List Int}, (∀ x ∈ xs, x ∈ acc) → adds acc xs = acc
  | [], acc, _ => rfl
  | y :: xs, acc, h => by
    rw [adds_in (h y List.mem_cons_self)]
    exact adds_sub fun x m => h x (List.mem_cons_of_mem _ m)
theorem adds_map {f : Int → Int} (B : List Int) : ∀ (xs A : List Int), adds B ((adds A xs).map f) = adds (adds B (A.map f)) (xs.map f)
  | [], A => rfl
  | x :: xs, A => by
    by_cases h : x ∈ A
    · rw [adds_in h, adds_map B xs A, List.map_cons, adds_in (adds_mem.mpr (.inr (List.mem_map_of_mem h)))]
    · rw [adds_out h, adds_map B xs (A ++ [x]), List.map_append, adds_app, List.map_cons]
      show _ = adds (adds B (A.map f)) ([f x] ++ xs.map f)
      rw [adds_app]
      rfl
theorem adds_flat {h : Int → List Int} (A : List Int) : ∀ (xs B : List Int), adds A ((adds B xs).flatMap h) = adds (adds A (B.flatMap h)) (xs.flatMap h)
  | [], B => rfl
  | x :: xs, B => by
    by_cases m : x ∈ B
    · rw [adds_in m, adds_flat A xs B, List.flatMap_cons, adds_app, adds_sub (acc := adds A (B.flatMap h)) (xs := h x)]
      exact fun y hy => adds_mem.mpr (.inr (List.mem_flatMap.mpr ⟨x, m, hy⟩))
    · rw [adds_out m, adds_flat A xs (B ++ [x]), List.flatMap_append, adds_app, show List.flatMap h (x :: xs) = h x ++ xs.flatMap h from List.flatMap_cons, adds_app, show List.flatMap h [x] = h x by simp]
theorem adds_inj {f : Int → Int} : ∀ (xs A : List Int), (∀ a ∈ A ++ xs, ∀ b ∈ A ++ xs, f a = f b → a = b) → (adds A xs).map f = adds (A.map f) (xs.map f)
  | [], A, _ => rfl
  | x :: xs, A, h => by
    by_cases m : x ∈ A
    · rw [adds_in m, List.map_cons, adds_in (List.mem_map_of_mem m)]
      refine adds_inj xs A fun a ha b hb => h a ?_ b ?_
      · rcases List.mem_append.mp ha with z | z
        · exact List.mem_append_left _ z
        · exact List.mem_append_right _ (List.mem_cons_of_mem _ z)
      · rcases List.mem_append.mp hb with z | z
        · exact List.mem_append_left _ z
        · exact List.mem_append_right _ (List.mem_cons_of_mem _ z)
    · have n : f x ∉ A.map f := fun z => by
        obtain ⟨a, ha, e⟩ := List.mem_map.mp z
        exact m (h a (List.mem_append_left _ ha) x (List.mem_append_right _ List.mem_cons_self) e ▸ ha)
      rw [adds_out m, List.map_cons, adds_out n]
      have := adds_inj xs (A ++ [x]) (by rw [List.append_assoc]; exact h)
      rw [this, List.map_append]
      rfl
theorem nd_sub {l m : List Int} (nd : l.Nodup) (h : ∀ x ∈ l, x ∈ m) : l.length ≤ m.length := by
  induction l generalizing m with
  | nil => exact Nat.zero_le _
  | cons x l ih =>
    obtain ⟨n1, n2⟩ := List.nodup_cons.mp nd
    have hx := h x List.mem_cons_self
    have := ih (m := m.erase x) n2 fun y hy => (List.mem_erase_of_ne fun e => n1 (by rw [← e]; exact hy)).mpr (h y (List.mem_cons_of_mem _ hy))
    rw [List.length_erase_of_mem hx] at this
    have := List.length_pos_of_mem hx
    rw [List.length_cons]
    omega
theorem nd_eq {l m : List Int} (nd : l.Nodup) (nd2 : m.Nodup) (h : ∀ x ∈ l, x ∈ m) (hl : m.length ≤ l.length) : ∀ x ∈ m, x ∈ l := by
  intro x hx
  refine Classical.byContradiction fun n => ?_
  have := nd_sub (l := l) (m := m.erase x) nd fun y hy => (List.mem_erase_of_ne fun e => n (by rw [← e]; exact hy)).mpr (h y hy)
  rw [List.length_erase_of_mem hx] at this
  have := List.length_pos_of_mem hx
  omega
/-! ### levels -/
def lk (l : List Int) (i : Int) : Int := l[i.toNat]?.getD 0
abbrev Ky := Int × Option Bool × List (Str × Int)
def kE (p : List Stop) (l : List Int) (i : Int) : Ky := (lk l i, kindS (atS p i), (waysS (atS p i)).map fun u => (u.1, lk l u.2))
def toldK (p : List Stop) (l : List Int) : List Ky := (List.range p.length).map fun i => kE p l (i : Nat)
noncomputable def fst1 (ks : List Ky) (k : Ky) : Int := open Classical in (((ks.findIdx? fun z => decide (z = k)).getD 0 : Nat) : Int)
noncomputable def stepL (p : List Stop) (l : List Int) : List Int := (toldK p l).map (fst1 (toldK p l))
theorem told_len {p : List Stop} {l : List Int} : (toldK p l).length = p.length := by unfold toldK; rw [List.length_map, List.length_range]
theorem step_len {p : List Stop} {l : List Int} : (stepL p l).length = p.length := by unfold stepL; rw [List.length_map, told_len]
def inN (p : List Stop) (i : Int) : Prop := 0 ≤ i ∧ i < p.length
theorem told_get {p : List Stop} {l : List Int} {i : Int} (h : inN p i) : (toldK p l)[i.toNat]? = some (kE p l i) := by
  have := h.1; have := h.2
  unfold toldK
  rw [List.getElem?_map, List.getElem?_range (by omega), Option.map_some, show ((i.toNat : Nat) : Int) = i by omega]
theorem lk_step {p : List Stop} {l : List Int} {i : Int} (h : inN p i) : lk (stepL p l) i = fst1 (toldK p l) (kE p l i) := by
  unfold lk stepL
  rw [List.getElem?_map, told_get h]
  rfl
theorem fst1_ok {p : List Stop} {l : List Int} {i : Int} (h : inN p i) : inN p (fst1 (toldK p l) (kE p l i)) ∧ kE p l (fst1 (toldK p l) (kE p l i)) = kE p l i ∧ ∀ j, inN p j → kE p l j = kE p l i → fst1 (toldK p l) (kE p l i) ≤ j := by
  unfold fst1
  cases e : (toldK p l).findIdx? (fun z => open Classical in decide (z = kE p l i)) with
  | none =>
    rw [List.findIdx?_eq_none_iff] at e
    have := e _ (List.mem_of_getElem? (told_get (l := l) h))
    simp at this
  | some j =>
    obtain ⟨h1, h2, h3⟩ := List.findIdx?_eq_some_iff_getElem.mp e
    rw [told_len] at h1
    have hj : inN p (j : Nat) := ⟨by omega, by omega⟩
    have gj := told_get (l := l) hj
    rw [Int.toNat_natCast, List.getElem?_eq_getElem (by rw [told_len]; exact h1)] at gj
    have gj := Option.some.inj gj
    rw [Option.getD_some]
    refine ⟨hj, ?_, fun k hk ek => ?_⟩
    · rw [← gj]; exact of_decide_eq_true h2
    · refine Classical.byContradiction fun n => ?_
      have := hk.1
      have hk2 : k.toNat < j := by omega
      have := h3 k.toNat hk2
      have gk := told_get (l := l) hk
      rw [List.getElem?_eq_getElem (by rw [told_len]; omega)] at gk
      rw [Option.some.inj gk, ek] at this
      simp at this
theorem step_iff {p : List Stop} {l : List Int} {i j : Int} (hi : inN p i) (hj : inN p j) : lk (stepL p l) i = lk (stepL p l) j ↔ kE p l i = kE p l j := by
  rw [lk_step hi, lk_step hj]
  constructor
  · intro e
    rw [← (fst1_ok (l := l) hi).2.1, ← (fst1_ok (l := l) hj).2.1, e]
  · intro e
    rw [e]
structure Can (p : List Stop) (l : List Int) : Prop where
  len : l.length = p.length
  rg : ∀ i, inN p i → inN p (lk l i) ∧ lk l i ≤ i
  fix : ∀ i, inN p i → lk l (lk l i) = lk l i
theorem step_can {p : List Stop} {l : List Int} : Can p (stepL p l) where
  len := step_len
  rg := fun i hi => by
    obtain ⟨h1, h2, h3⟩ := fst1_ok (l := l) hi
    rw [lk_step hi]
    exact ⟨h1, h3 i hi rfl⟩
  fix := fun i hi => by
    obtain ⟨h1, h2, h3⟩ := fst1_ok (l := l) hi
    rw [step_iff (by rw [lk_step hi]; exact h1) hi, lk_step hi, h2]
theorem lk_ext {p : List Stop} {l m : List Int} (hl : l.length = p.length) (hm : m.length = p.length) (h : ∀ i, inN p i → lk l i = lk m i) : l = m := by
  refine List.ext_getElem (by omega) fun i h1 h2 => ?_
  have := h (i : Nat) ⟨by omega, by omega⟩
  unfold lk at this
  rw [Int.toNat_natCast, List.getElem?_eq_getElem h1, List.getElem?_eq_getElem h2] at this
  exact this
theorem can_mem {p : List Stop} {l : List Int} (c : Can p l) {x : Int} : x ∈ l ↔ inN p x ∧ lk l x = x := by
  constructor
  · intro m
    obtain ⟨i, hi, e⟩ := List.mem_iff_getElem.mp m
    have hn : inN p (i : Nat) := ⟨by omega, by have := c.len; omega⟩
    have : lk l (i : Nat) = x := by unfold lk; rw [Int.toNat_natCast, List.getElem?_eq_getElem hi, e]; rfl
    have r := c.rg _ hn
    have f := c.fix _ hn
    rw [this] at r f
    exact ⟨r.1, f⟩
  · rintro ⟨h, e⟩
    have := h.1; have := h.2
    have hi : x.toNat < l.length := by rw [c.len]; omega
    unfold lk at e
    rw [List.getElem?_eq_getElem hi, Option.getD_some] at e
    rw [← e]
    exact List.getElem_mem hi
def fines (p : List Stop) (l m : List Int) : Prop := ∀ i j, inN p i → inN p j → lk m i = lk m j → lk l i = lk l j
theorem fines_sub {p : List Stop} {l m : List Int} (c : Can p l) (d : Can p m) (f : fines p l m) : ∀ x ∈ l, x ∈ m := fun x hx => by
  obtain ⟨h, e⟩ := (can_mem c).mp hx
  obtain ⟨r1, r2⟩ := d.rg x h
  have := f _ _ r1 h (d.fix x h)
  have r3 := (c.rg _ r1).2
  rw [this, e] at r3
  have : lk m x = x := by omega
  exact (can_mem d).mpr ⟨h, this⟩
noncomputable def cardL (l : List Int) : Nat := (adds [] l).length
theorem card_le {p : List Stop} {l m : List Int} (c : Can p l) (d : Can p m) (f : fines p l m) : cardL l ≤ cardL m := by
  refine nd_sub (adds_nd List.nodup_nil) fun x hx => ?_
  rw [adds_mem] at hx ⊢
  exact hx.imp id (fines_sub c d f x)
theorem card_eq {p : List Stop} {l m : List Int} (c : Can p l) (d : Can p m) (f : fines p l m) (h : cardL m ≤ cardL l) : m = l := by
  have sub := nd_eq (l := adds [] l) (m := adds [] m) (adds_nd List.nodup_nil) (adds_nd List.nodup_nil) (fun x hx => by
    rw [adds_mem] at hx ⊢
    exact hx.imp id (fines_sub c d f x)) h
  refine lk_ext d.len c.len fun i hi => ?_
  obtain ⟨r1, r2⟩ := d.rg i hi
  have hm : lk m i ∈ m := (can_mem d).mpr ⟨r1, d.fix i hi⟩
  have hl : lk m i ∈ l := by
    have := sub _ (adds_mem.mpr (.inr hm))
    exact (adds_mem.mp this).resolve_left List.not_mem_nil
  have e := ((can_mem c).mp hl).2
  rw [← e]
  exact f _ _ r1 hi (d.fix i hi)
noncomputable def lv (p : List Stop) : Nat → List Int
  | 0 => List.replicate p.length 0
  | k + 1 => stepL p (lv p k)
theorem lk_rep {n : Nat} {i : Int} : lk (List.replicate n 0) i = 0 := by
  unfold lk
  rw [List.getElem?_replicate]
  split <;> rfl
theorem lv_can {p : List Stop} (hp : PlanOk p) : ∀ k, Can p (lv p k)
  | 0 => by
    have := hp.l1
    exact ⟨by unfold lv; rw [List.length_replicate], fun i hi => by unfold lv; rw [lk_rep]; exact ⟨⟨by omega, by omega⟩, hi.1⟩, fun i hi => by unfold lv; rw [lk_rep, lk_rep]⟩
  | k + 1 => step_can
theorem lv_fines {p : List Stop} (k : Nat) : fines p (lv p k) (lv p (k + 1)) := fun i j hi hj e => by
  have := (step_iff hi hj).mp e
  exact congrArg (·.1) this
theorem card_pos {p : List Stop} (hp : PlanOk p) (k : Nat) : 1 ≤ cardL (lv p k) := by
  have c := lv_can hp k
  have h0 := hp.l1
  have : lk (lv p k) 0 ∈ lv p k := (can_mem c).mpr ⟨(c.rg 0 ⟨by omega, by omega⟩).1, c.fix 0 ⟨by omega, by omega⟩⟩
  exact List.length_pos_of_mem (adds_mem.mpr (.inr this))
theorem card_n {p : List Stop} (hp : PlanOk p) (k : Nat) : cardL (lv p k) ≤ p.length := by
  have c := lv_can hp k
  have := nd_sub (l := adds [] (lv p k)) (m := lv p k) (adds_nd List.nodup_nil) fun x hx => (adds_mem.mp hx).resolve_left List.not_mem_nil
  rw [c.len] at this
  exact this
theorem lv_stay {p : List Stop} {k : Nat} (h : lv p (k + 1) = lv p k) : ∀ j, lv p (k + j) = lv p k
  | 0 => rfl
  | j + 1 => by
    show stepL p (lv p (k + j)) = _
    rw [lv_stay h j]
    exact h
theorem card_grow {p : List Stop} (hp : PlanOk p) : ∀ k, (∃ j, j < k ∧ lv p (j + 1) = lv p j) ∨ k + 1 ≤ cardL (lv p k)
  | 0 => .inr (card_pos hp 0)
  | k + 1 => by
    rcases card_grow hp k with ⟨j, hj, e⟩ | h
    · exact .inl ⟨j, by omega, e⟩
    · rcases Nat.lt_or_ge (cardL (lv p k)) (cardL (lv p (k + 1))) with g | g
      · exact .inr (by omega)
      · exact .inl ⟨k, by omega, card_eq (lv_can hp k) (lv_can hp (k + 1)) (lv_fines k) g⟩
noncomputable def leastF (p : List Stop) : List Int := lv p p.length
theorem lv_end {p : List Stop} {k : Nat} (hk : k ≤ p.length) (h : lv p (k + 1) = lv p k) : leastF p = lv p k := by
  unfold leastF
  have := lv_stay h (p.length - k)
  rwa [show k + (p.length - k) = p.length by omega] at this
theorem lv_some {p : List Stop} (hp : PlanOk p) : ∃ j, j < p.length ∧ lv p (j + 1) = lv p j := by
  rcases card_grow hp p.length with h | h
  · exact h
  · have := card_n hp p.length
    omega
theorem least_fix {p : List Stop} (hp : PlanOk p) : stepL p (leastF p) = leastF p := by
  obtain ⟨j, hj, e⟩ := lv_some hp
  rw [lv_end (by omega) e]
  exact e
theorem least_can {p : List Stop} (hp : PlanOk p) : Can p (leastF p) := lv_can hp _
theorem least_iff {p : List Stop} (hp : PlanOk p) {i j : Int} (hi : inN p i) (hj : inN p j) : lk (leastF p) i = lk (leastF p) j ↔ kE p (leastF p) i = kE p (leastF p) j := by
  have := step_iff (l := leastF p) hi hj
  rwa [least_fix hp] at this
/-! ### what goes alike -/
def Bis (p : List Stop) (B : Int → Int → Prop) : Prop := ∀ i j, B i j → inN p i ∧ inN p j ∧ kindS (atS p i) = kindS (atS p j) ∧ Paired (fun u v => u.1 = v.1 ∧ B u.2 v.2) (waysS (atS p i)) (waysS (atS p j))
theorem bis_lv {p : List Stop} {B : Int → Int → Prop} (b : Bis p B) : ∀ k i j, B i j → lk (lv p k) i = lk (lv p k) j
  | 0, i, j, _ => by unfold lv; rw [lk_rep, lk_rep]
  | k + 1, i, j, h => by
    obtain ⟨hi, hj, hk, hw⟩ := b i j h
    refine (step_iff hi hj).mpr ?_
    unfold kE
    rw [bis_lv b k i j h, hk]
    congr 2
    clear hk
    generalize waysS (atS p i) = ws at hw ⊢
    generalize waysS (atS p j) = vs at hw ⊢
    induction hw with
    | nil => rfl
    | cons h1 _ ih => rw [List.map_cons, List.map_cons, ih, h1.1, bis_lv b k _ _ h1.2]
end TP

/-! Sml: what is come to, in its order; the small plan; no program in sight. -/
namespace TP
open PySem PySem.Spec PyProof.Rows L2
def gls (p : List Stop) (i : Int) : List Int := (waysS (atS p i)).map (·.2)
theorem at_ok {p : List Stop} (hp : PlanOk p) {i : Int} (h : inN p i) : StopOk p.length (atS p i) := hp.ok _ (at_mem h.1 h.2)
theorem ways_in {p : List Stop} (hp : PlanOk p) {i : Int} (h : inN p i) : ∀ u ∈ waysS (atS p i), wOk u.1 ∧ inN p u.2 := fun u hu => by
  have s := at_ok hp h
  cases e : atS p i with
  | fin => rw [e] at hu; cases hu
  | act b ws =>
    rw [e] at s hu
    obtain ⟨a, b, c⟩ := s.ok u hu
    exact ⟨a, b, c⟩
theorem flat_congr {A B : Type} {f g : A → List B} : ∀ {l : List A}, (∀ x ∈ l, f x = g x) → l.flatMap f = l.flatMap g
  | [], _ => rfl
  | x :: l, h => by rw [List.flatMap_cons, List.flatMap_cons, h x List.mem_cons_self, flat_congr fun y m => h y (List.mem_cons_of_mem _ m)]
theorem map_same {A : Type} {f : A → A} : ∀ {l : List A}, (∀ x ∈ l, f x = x) → l.map f = l
  | [], _ => rfl
  | x :: l, h => by rw [List.map_cons, h x List.mem_cons_self, map_same fun y m => h y (List.mem_cons_of_mem _ m)]
theorem gls_in {p : List Stop} (hp : PlanOk p) {i : Int} (h : inN p i) : ∀ g ∈ gls p i, inN p g := fun g hg => by
  obtain ⟨u, hu, rfl⟩ := List.mem_map.mp hg
  exact (ways_in hp h u hu).2
def rch (p : List Stop) : Nat → List Int
  | 0 => [0]
  | t + 1 => match (rch p t)[t]? with
    | some i => adds (rch p t) (gls p i)
    | none => rch p t
theorem rch_some {p : List Stop} {t : Nat} {i : Int} (h : (rch p t)[t]? = some i) : rch p (t + 1) = adds (rch p t) (gls p i) := by
  rw [rch, h]
theorem rch_none {p : List Stop} {t : Nat} (h : (rch p t)[t]? = none) : rch p (t + 1) = rch p t := by
  rw [rch, h]
theorem rch_in {p : List Stop} (hp : PlanOk p) : ∀ t, ∀ x ∈ rch p t, inN p x
  | 0, x, m => by
    rw [List.mem_singleton.mp m]
    have := hp.l1
    exact ⟨by omega, by omega⟩
  | t + 1, x, m => by
    cases e : (rch p t)[t]? with
    | some i =>
      rw [rch_some e, adds_mem] at m
      exact m.elim (rch_in hp t x) (gls_in hp (rch_in hp t i (List.mem_of_getElem? e)) x)
    | none => rw [rch_none e] at m; exact rch_in hp t x m
theorem rch_nd {p : List Stop} : ∀ t, (rch p t).Nodup
  | 0 => List.nodup_cons.mpr ⟨List.not_mem_nil, List.nodup_nil⟩
  | t + 1 => by
    cases e : (rch p t)[t]? with
    | some i => rw [rch_some e]; exact adds_nd (rch_nd t)
    | none => rw [rch_none e]; exact rch_nd t
abbrev rgI (n : Nat) : List Int := (List.range n).map fun i => ((i : Nat) : Int)
theorem rgI_mem {n : Nat} {x : Int} : x ∈ rgI n ↔ 0 ≤ x ∧ x < n := by
  rw [List.mem_map]
  constructor
  · rintro ⟨k, hk, rfl⟩
    have := List.mem_range.mp hk
    exact ⟨by omega, by omega⟩
  · rintro ⟨a, b⟩
    exact ⟨x.toNat, List.mem_range.mpr (by omega), by omega⟩
theorem rgI_len {n : Nat} : (rgI n).length = n := by rw [List.length_map, List.length_range]
theorem rgI_nd {n : Nat} : (rgI n).Nodup := List.pairwise_map.mpr (List.nodup_range.imp fun {a b} h e => h (by omega))
theorem rgI_get {n k : Nat} (h : k < n) : (rgI n)[k]? = some ((k : Nat) : Int) := by rw [List.getElem?_map, List.getElem?_range h]; rfl
theorem rch_len {p : List Stop} (hp : PlanOk p) (t : Nat) : (rch p t).length ≤ p.length := by
  have := nd_sub (m := rgI p.length) (rch_nd (p := p) t) fun x m => rgI_mem.mpr (rch_in hp t x m)
  rwa [rgI_len] at this
theorem rch_eq {p : List Stop} : ∀ t, rch p t = adds [0] (((rch p t).take t).flatMap (gls p))
  | 0 => rfl
  | t + 1 => by
    cases e : (rch p t)[t]? with
    | some i =>
      rw [rch_some e]
      obtain ⟨ht, ei⟩ := List.getElem?_eq_some_iff.mp e
      obtain ⟨zs, ez⟩ := adds_pre (acc := rch p t) (xs := gls p i)
      have e2 : (adds (rch p t) (gls p i)).take (t + 1) = (rch p t).take t ++ [i] := by
        rw [← ez, List.take_append_of_le_length (by omega), List.take_succ, e]
        rfl
      rw [e2, List.flatMap_append, adds_app, ← rch_eq t]
      simp
    | none =>
      rw [rch_none e]
      have : (rch p t).length ≤ t := List.getElem?_eq_none_iff.mp e
      have h := rch_eq (p := p) t
      rw [List.take_of_length_le this] at h
      rw [List.take_of_length_le (by omega)]
      exact h
theorem rch_par {p : List Stop} : ∀ t s y, (rch p t)[s + 1]? = some y → ∃ s' x, s' ≤ s ∧ (rch p t)[s']? = some x ∧ y ∈ gls p x
  | 0, s, y, h => by cases h
  | t + 1, s, y, h => by
    cases e : (rch p t)[t]? with
    | none =>
      rw [rch_none e] at h ⊢
      exact rch_par t s y h
    | some i =>
      rw [rch_some e] at h ⊢
      obtain ⟨ht, ei⟩ := List.getElem?_eq_some_iff.mp e
      obtain ⟨zs, ez⟩ := adds_pre (acc := rch p t) (xs := gls p i)
      have up : ∀ {k : Nat} {z : Int}, (rch p t)[k]? = some z → (adds (rch p t) (gls p i))[k]? = some z := fun {k z} hk => by
        rw [← ez, List.getElem?_append_left (List.getElem?_eq_some_iff.mp hk).1]; exact hk
      rcases Nat.lt_or_ge (s + 1) (rch p t).length with hs | hs
      · have h2 : (rch p t)[s + 1]? = some y := by rw [← ez, List.getElem?_append_left hs] at h; exact h
        obtain ⟨s', x, a, b, c⟩ := rch_par t s y h2
        exact ⟨s', x, a, up b, c⟩
      · refine ⟨t, i, by omega, up e, ?_⟩
        rcases adds_mem.mp (List.mem_of_getElem? h) with m | m
        · obtain ⟨k, hk, ek⟩ := List.mem_iff_getElem.mp m
          have := nodup_get (adds_nd (rch_nd (p := p) t) (xs := gls p i)) h (up (by rw [List.getElem?_eq_getElem hk, ek]))
          omega
        · exact m
theorem rch_stay {p : List Stop} {t : Nat} (h : (rch p t).length ≤ t) : ∀ j, rch p (t + j) = rch p t
  | 0 => rfl
  | j + 1 => by
    have := rch_stay h j
    show rch p ((t + j) + 1) = _
    rw [rch_none (by rw [this]; exact List.getElem?_eq_none_iff.mpr (by omega)), this]
def rchF (p : List Stop) : List Int := rch p p.length
theorem rch_end {p : List Stop} {t : Nat} (ht : t ≤ p.length) (h : (rch p t).length ≤ t) : rchF p = rch p t := by
  have := rch_stay h (p.length - t)
  rwa [show t + (p.length - t) = p.length by omega] at this
theorem rchF_eq {p : List Stop} (hp : PlanOk p) : rchF p = adds [0] ((rchF p).flatMap (gls p)) := by
  have := rch_eq (p := p) p.length
  rwa [List.take_of_length_le (rch_len hp _)] at this
theorem rchF_clo {p : List Stop} (hp : PlanOk p) {i : Int} (h : i ∈ rchF p) : ∀ g ∈ gls p i, g ∈ rchF p := fun g hg => by
  rw [rchF_eq hp]
  exact adds_mem.mpr (.inr (List.mem_flatMap.mpr ⟨i, h, hg⟩))
theorem rchF_head {p : List Stop} : (rchF p)[0]? = some 0 := by
  have e := rch_eq (p := p) p.length
  obtain ⟨zs, ez⟩ := adds_pre (acc := [0]) (xs := ((rch p p.length).take p.length).flatMap (gls p))
  rw [← e] at ez
  unfold rchF
  rw [← ez]; rfl
/-! ### the small plan -/
noncomputable def L (p : List Stop) (i : Int) : Int := lk (leastF p) i
noncomputable def ordF (p : List Stop) : List Int := adds [] ((rchF p).map (L p))
def ixO (o : List Int) (x : Int) : Int := (((o.findIdx? fun z => decide (z = x)).getD 0 : Nat) : Int)
noncomputable def phi (p : List Stop) (i : Int) : Int := ixO (ordF p) (L p i)
def mapS (f : Int → Int) : Stop → Stop
  | .fin => .fin
  | .act b ws => .act b (ws.map fun u => (u.1, f u.2))
noncomputable def smF (p : List Stop) : List Stop := (ordF p).map fun a => mapS (phi p) (atS p a)
theorem mapS_ways (f : Int → Int) (s : Stop) : waysS (mapS f s) = (waysS s).map fun u => (u.1, f u.2) := by cases s <;> rfl
theorem mapS_kind (f : Int → Int) (s : Stop) : kindS (mapS f s) = kindS s := by cases s <;> rfl
theorem ixO_get {o : List Int} (nd : o.Nodup) {k : Nat} {x : Int} (h : o[k]? = some x) : ixO o x = (k : Nat) := by
  unfold ixO
  cases e : o.findIdx? (fun z => decide (z = x)) with
  | none =>
    rw [List.findIdx?_eq_none_iff] at e
    have := e x (List.mem_of_getElem? h)
    simp at this
  | some j =>
    obtain ⟨h1, h2, _⟩ := List.findIdx?_eq_some_iff_getElem.mp e
    have := nodup_get nd (by rw [List.getElem?_eq_getElem h1, of_decide_eq_true h2]) h
    rw [Option.getD_some, this]
theorem ixO_mem {o : List Int} (nd : o.Nodup) {x : Int} (h : x ∈ o) : 0 ≤ ixO o x ∧ ixO o x < o.length ∧ o[(ixO o x).toNat]? = some x := by
  obtain ⟨k, hk, e⟩ := List.mem_iff_getElem.mp h
  have g : o[k]? = some x := by rw [List.getElem?_eq_getElem hk, e]
  rw [ixO_get nd g]
  exact ⟨by omega, by omega, by rw [Int.toNat_natCast]; exact g⟩
section
variable {p : List Stop}
theorem ord_nd : (ordF p).Nodup := adds_nd List.nodup_nil
theorem ord_mem {x : Int} : x ∈ ordF p ↔ ∃ i ∈ rchF p, L p i = x := by
  unfold ordF
  rw [adds_mem]
  exact ⟨fun h => List.mem_map.mp (h.resolve_left List.not_mem_nil), fun h => .inr (List.mem_map.mpr h)⟩
theorem lcIn (hp : PlanOk p) {i : Int} (h : inN p i) : inN p (L p i) ∧ L p i ≤ i := (least_can hp).rg i h
theorem lcFix (hp : PlanOk p) {i : Int} (h : inN p i) : L p (L p i) = L p i := (least_can hp).fix i h
theorem lcKey (hp : PlanOk p) {i j : Int} (hi : inN p i) (hj : inN p j) (e : L p i = L p j) : kindS (atS p i) = kindS (atS p j) ∧ ((waysS (atS p i)).map fun u => (u.1, L p u.2)) = (waysS (atS p j)).map fun u => (u.1, L p u.2) := by
  have := (least_iff hp hi hj).mp e
  exact ⟨congrArg (·.2.1) this, congrArg (·.2.2) this⟩
theorem rchF_in (hp : PlanOk p) {i : Int} (h : i ∈ rchF p) : inN p i := rch_in hp _ i h
theorem ord_in (hp : PlanOk p) {x : Int} (h : x ∈ ordF p) : inN p x ∧ L p x = x := by
  obtain ⟨i, hi, rfl⟩ := ord_mem.mp h
  exact ⟨(lcIn hp (rchF_in hp hi)).1, lcFix hp (rchF_in hp hi)⟩
theorem ord_clo (hp : PlanOk p) {i : Int} (hi : inN p i) (h : L p i ∈ ordF p) : ∀ u ∈ waysS (atS p i), L p u.2 ∈ ordF p := fun u hu => by
  obtain ⟨j, hj, e⟩ := ord_mem.mp h
  have := (lcKey hp hi (rchF_in hp hj) e.symm).2
  have m : (u.1, L p u.2) ∈ (waysS (atS p j)).map fun u => (u.1, L p u.2) := this ▸ List.mem_map.mpr ⟨u, hu, rfl⟩
  obtain ⟨v, hv, ev⟩ := List.mem_map.mp m
  rw [← (Prod.mk.inj ev).2]
  exact ord_mem.mpr ⟨v.2, rchF_clo hp hj _ (List.mem_map.mpr ⟨v, hv, rfl⟩), rfl⟩
theorem inN0 (hp : PlanOk p) : inN p 0 := by
  have := hp.l1
  exact ⟨by omega, by omega⟩
theorem lc0 (hp : PlanOk p) : L p 0 = 0 := by
  obtain ⟨h1, h2⟩ := lcIn hp (inN0 hp)
  have := h1.1
  omega
theorem ord_eq (hp : PlanOk p) : ordF p = adds [0] (((rchF p).flatMap (gls p)).map (L p)) := by
  unfold ordF
  rw [rchF_eq hp, adds_map, ← rchF_eq hp, List.map_cons, List.map_nil, lc0 hp]
  rfl
theorem ord_head (hp : PlanOk p) : (ordF p)[0]? = some 0 := by
  rw [ord_eq hp]
  obtain ⟨zs, ez⟩ := adds_pre (acc := [0]) (xs := ((rchF p).flatMap (gls p)).map (L p))
  rw [← ez]; rfl
theorem sm_len : (smF p).length = (ordF p).length := List.length_map _
theorem ord_len (hp : PlanOk p) : 1 ≤ (ordF p).length ∧ (ordF p).length ≤ p.length := by
  constructor
  · exact (List.getElem?_eq_some_iff.mp (ord_head hp)).1
  · have := nd_sub (m := rgI p.length) (ord_nd (p := p)) fun x m => rgI_mem.mpr (ord_in hp m).1
    rwa [rgI_len] at this
theorem phi_in {i : Int} (h : L p i ∈ ordF p) : inN (smF p) (phi p i) := by
  obtain ⟨a, b, _⟩ := ixO_mem (ord_nd (p := p)) h
  exact ⟨a, by rw [sm_len]; exact b⟩
theorem at_ord {k : Nat} {x : Int} (h : (ordF p)[k]? = some x) : atS (smF p) (k : Nat) = mapS (phi p) (atS p x) := by
  show ((smF p)[((k : Nat) : Int).toNat]?).getD .fin = _
  unfold smF
  rw [Int.toNat_natCast, List.getElem?_map, h]
  rfl
theorem at_phi (hp : PlanOk p) {i : Int} (hi : inN p i) (h : L p i ∈ ordF p) : kindS (atS (smF p) (phi p i)) = kindS (atS p i) ∧ waysS (atS (smF p) (phi p i)) = (waysS (atS p i)).map fun u => (u.1, phi p u.2) := by
  obtain ⟨a, b, c⟩ := ixO_mem (ord_nd (p := p)) h
  have e := at_ord c
  rw [show (((ixO (ordF p) (L p i)).toNat : Nat) : Int) = phi p i by unfold phi; omega] at e
  obtain ⟨k1, k2⟩ := lcKey hp (lcIn hp hi).1 hi (lcFix hp hi)
  rw [e, mapS_kind, mapS_ways]
  refine ⟨k1, ?_⟩
  have := congrArg (List.map fun u : Str × Int => (u.1, ixO (ordF p) u.2)) k2
  rw [List.map_map, List.map_map] at this
  exact this
theorem gls_phi (hp : PlanOk p) {i : Int} (hi : inN p i) (h : L p i ∈ ordF p) : gls (smF p) (phi p i) = (gls p i).map (phi p) := by
  unfold gls
  rw [(at_phi hp hi h).2, List.map_map, List.map_map]
  rfl
theorem sm_ok (hp : PlanOk p) : PlanOk (smF p) := by
  obtain ⟨l1, l2⟩ := ord_len hp
  refine ⟨by rw [sm_len]; exact l1, by rw [sm_len]; have := hp.l12; omega, fun s m => ?_⟩
  obtain ⟨x, hx, rfl⟩ := List.mem_map.mp m
  obtain ⟨xi, xl⟩ := ord_in hp hx
  have so := at_ok hp xi
  have cl := ord_clo hp xi (by rw [xl]; exact hx)
  cases e : atS p x with
  | fin => trivial
  | act b ws =>
    rw [e] at so cl
    have so : WaysOk p.length ws := so
    refine (⟨by rw [List.length_map]; exact so.l1, by rw [List.length_map]; exact so.l6, fun u hu => ?_, List.pairwise_map.mpr so.so⟩ : WaysOk (smF p).length (ws.map fun u => (u.1, phi p u.2)))
    obtain ⟨v, hv, rfl⟩ := List.mem_map.mp hu
    have := phi_in (cl v hv)
    exact ⟨(so.ok v hv).1, this.1, this.2⟩
/-! ### its order -/
theorem ix_ord : (ordF p).map (ixO (ordF p)) = rgI (ordF p).length := by
  refine List.ext_getElem? fun k => ?_
  rw [List.getElem?_map]
  cases e : (ordF p)[k]? with
  | none => rw [List.getElem?_eq_none_iff.mpr (by rw [rgI_len]; exact List.getElem?_eq_none_iff.mp e)]; rfl
  | some x => rw [rgI_get (List.getElem?_eq_some_iff.mp e).1, Option.map_some, ixO_get ord_nd e]
theorem ix_inj {a b : Int} (ha : a ∈ ordF p) (hb : b ∈ ordF p) (e : ixO (ordF p) a = ixO (ordF p) b) : a = b := by
  have h1 := (ixO_mem ord_nd ha).2.2
  have h2 := (ixO_mem ord_nd hb).2.2
  rw [e, h2] at h1
  exact (Option.some.inj h1).symm
theorem phi_0 (hp : PlanOk p) : phi p 0 = 0 := by
  unfold phi
  rw [lc0 hp, ixO_get ord_nd (ord_head hp)]
  rfl
theorem sm_adds (hp : PlanOk p) : rgI (smF p).length = adds [0] ((rgI (smF p).length).flatMap (gls (smF p))) := by
  have o0 : (0 : Int) ∈ ordF p := List.mem_of_getElem? (ord_head hp)
  have oG : ∀ x ∈ ((rchF p).flatMap (gls p)).map (L p), x ∈ ordF p := fun x m => by
    rw [ord_eq hp]; exact adds_mem.mpr (.inr m)
  have oR : ∀ x ∈ (rchF p).map (L p), x ∈ ordF p := fun x m => by
    obtain ⟨i, hi, rfl⟩ := List.mem_map.mp m
    exact ord_mem.mpr ⟨i, hi, rfl⟩
  have s1 : rgI (ordF p).length = adds [0] (((rchF p).flatMap (gls p)).map (phi p)) := by
    rw [← ix_ord]
    have := adds_inj (f := ixO (ordF p)) (((rchF p).flatMap (gls p)).map (L p)) [0] fun a ha b hb e => by
      refine ix_inj ?_ ?_ e
      · rcases List.mem_append.mp ha with h | h
        · rw [List.mem_singleton.mp h]; exact o0
        · exact oG a h
      · rcases List.mem_append.mp hb with h | h
        · rw [List.mem_singleton.mp h]; exact o0
        · exact oG b h
    rw [← ord_eq hp, List.map_map, List.map_cons, List.map_nil, ixO_get ord_nd (ord_head hp)] at this
    exact this
  have s2 : ((rchF p).flatMap (gls p)).map (phi p) = ((rchF p).map (phi p)).flatMap (gls (smF p)) := by
    rw [List.map_flatMap, List.flatMap_map]
    exact (flat_congr fun i hi => gls_phi hp (rchF_in hp hi) (ord_mem.mpr ⟨i, hi, rfl⟩)).symm
  have s3 : adds [] ((rchF p).map (phi p)) = rgI (ordF p).length := by
    rw [← ix_ord]
    have := adds_inj (f := ixO (ordF p)) ((rchF p).map (L p)) [] fun a ha b hb e => ix_inj (oR a ha) (oR b hb) e
    rw [List.map_map, List.map_nil] at this
    exact this.symm
  rw [sm_len, s1, s2]
  have := adds_flat (h := gls (smF p)) [0] ((rchF p).map (phi p)) []
  rw [s3] at this
  rw [← s2, ← s1, this]
  rw [← s2]
  exact s1
theorem take_mem_lt {l : List Int} {s : Nat} {x : Int} (h : x ∈ l.take s) : ∃ k, k < s ∧ l[k]? = some x := by
  obtain ⟨k, hk, e⟩ := List.mem_iff_getElem.mp h
  rw [List.length_take] at hk
  refine ⟨k, by omega, ?_⟩
  rw [List.getElem_take] at e
  rw [List.getElem?_eq_getElem (by omega), e]
theorem sm_par (hp : PlanOk p) {t : Nat} (h1 : 1 ≤ t) (h2 : t < (smF p).length) : ∃ t' : Nat, t' < t ∧ ((t : Nat) : Int) ∈ gls (smF p) (t' : Nat) := by
  rw [sm_len] at h2
  have ex := List.getElem?_eq_getElem h2
  generalize (ordF p)[t] = x at ex
  obtain ⟨i, hi, ei⟩ := ord_mem.mp (List.mem_of_getElem? ex)
  -- the first of the class
  obtain ⟨s, y, hs, hy, hno⟩ : ∃ s y, (rchF p)[s]? = some y ∧ L p y = x ∧ ∀ k z, k < s → (rchF p)[k]? = some z → L p z ≠ x := by
    cases e : (rchF p).findIdx? (fun z => decide (L p z = x)) with
    | none =>
      rw [List.findIdx?_eq_none_iff] at e
      have := e i hi
      simp [ei] at this
    | some s =>
      obtain ⟨g1, g2, g3⟩ := List.findIdx?_eq_some_iff_getElem.mp e
      refine ⟨s, _, List.getElem?_eq_getElem g1, of_decide_eq_true g2, fun k z hk hz e2 => ?_⟩
      obtain ⟨_, rfl⟩ := List.getElem?_eq_some_iff.mp hz
      exact g3 k hk (decide_eq_true e2)
  cases s with
  | zero =>
    rw [rchF_head] at hs
    cases hs
    rw [lc0 hp] at hy
    subst hy
    have := nodup_get ord_nd ex (ord_head hp)
    omega
  | succ s =>
    obtain ⟨s', z, hs', hz, hg⟩ := rch_par _ s y hs
    have zr : z ∈ rchF p := List.mem_of_getElem? hz
    have yr : y ∈ rchF p := List.mem_of_getElem? hs
    have zo : L p z ∈ ordF p := ord_mem.mpr ⟨z, zr, rfl⟩
    obtain ⟨a, b, c⟩ := ixO_mem ord_nd zo
    have et : ((t : Nat) : Int) = phi p y := by
      unfold phi
      rw [hy, ixO_get ord_nd ex]
    refine ⟨(phi p z).toNat, ?_, ?_⟩
    · -- the classes of what lies ahead
      have pre : adds [] (((rchF p).take (s + 1)).map (L p)) <+: ordF p := by
        unfold ordF
        conv => rhs; rw [← List.take_append_drop (s + 1) (rchF p), List.map_append, adds_app]
        exact adds_pre
      obtain ⟨zs, ez⟩ := pre
      have zin : L p z ∈ adds [] (((rchF p).take (s + 1)).map (L p)) := adds_mem.mpr (.inr (List.mem_map.mpr ⟨z, List.mem_of_getElem? (i := s') (by rw [List.getElem?_take_of_lt (by omega)]; exact hz), rfl⟩))
      obtain ⟨k, hk, ek⟩ := List.mem_iff_getElem.mp zin
      have xn : x ∉ adds [] (((rchF p).take (s + 1)).map (L p)) := fun m => by
        have m := (adds_mem.mp m).resolve_left List.not_mem_nil
        obtain ⟨w, hw, ew⟩ := List.mem_map.mp m
        obtain ⟨k, hk, ek⟩ := take_mem_lt hw
        exact hno k w hk ek ew
      have kt : k < t := by
        refine Classical.byContradiction fun n => xn ?_
        have ht : t < (adds [] (((rchF p).take (s + 1)).map (L p))).length := by omega
        rw [← ez, List.getElem?_append_left ht] at ex
        exact List.mem_of_getElem? ex
      have gk : (ordF p)[k]? = some (L p z) := by
        rw [← ez, List.getElem?_append_left hk, List.getElem?_eq_getElem hk, ek]
      have : phi p z = (k : Nat) := ixO_get ord_nd gk
      omega
    · rw [show (((phi p z).toNat : Nat) : Int) = phi p z by unfold phi; omega, gls_phi hp (rchF_in hp zr) zo, et]
      exact List.mem_map.mpr ⟨y, hg, rfl⟩
theorem pre_rgI {n : Nat} {l : List Int} (h : l <+: rgI n) : l = rgI l.length ∧ l.length ≤ n := by
  obtain ⟨zs, ez⟩ := h
  have hl : l.length ≤ n := by
    have := congrArg List.length ez
    rw [List.length_append, rgI_len] at this
    omega
  refine ⟨?_, hl⟩
  refine List.ext_getElem? fun k => ?_
  rcases Nat.lt_or_ge k l.length with hk | hk
  · rw [rgI_get hk, ← rgI_get (n := n) (by omega), ← ez, List.getElem?_append_left hk]
  · rw [List.getElem?_eq_none_iff.mpr hk, List.getElem?_eq_none_iff.mpr (by rw [rgI_len]; exact hk)]
theorem sm_rch (hp : PlanOk p) : ∀ t, t ≤ (smF p).length → ∃ c, rch (smF p) t = rgI c ∧ c ≤ (smF p).length ∧ (t + 1 ≤ c ∨ c = (smF p).length) ∧ rgI c = adds [0] ((rgI t).flatMap (gls (smF p)))
  | 0, _ => by
    have := (ord_len hp).1
    rw [← sm_len] at this
    exact ⟨1, rfl, this, .inl (Nat.le_refl _), rfl⟩
  | t + 1, ht => by
    obtain ⟨c, e, hc, hc2, ea⟩ := sm_rch hp t (by omega)
    have tc : t < c := by omega
    have eg : (rch (smF p) t)[t]? = some ((t : Nat) : Int) := by rw [e, rgI_get tc]
    have er : rch (smF p) (t + 1) = adds [0] ((rgI (t + 1)).flatMap (gls (smF p))) := by
      rw [rch_some eg, e, ea, ← adds_app]
      congr 1
      show _ = (List.map _ (List.range (t + 1))).flatMap _
      rw [List.range_succ, List.map_append, List.flatMap_append]
      simp
    have pre : rch (smF p) (t + 1) <+: rgI (smF p).length := by
      rw [er, sm_adds hp]
      have : rgI (smF p).length = rgI (t + 1) ++ (rgI (smF p).length).drop (t + 1) := by
        conv => lhs; rw [← List.take_append_drop (t + 1) (rgI (smF p).length)]
        congr 1
        rw [← List.map_take, List.take_range, Nat.min_eq_left ht]
      conv => rhs; rw [this, List.flatMap_append, adds_app]
      exact adds_pre
    obtain ⟨e1, e2⟩ := pre_rgI pre
    refine ⟨_, e1, e2, ?_, by rw [← e1]; exact er⟩
    rcases Nat.lt_or_ge (t + 1) (smF p).length with hl | hl
    · left
      obtain ⟨t', ht', hg⟩ := sm_par hp (t := t + 1) (by omega) hl
      have : (((t + 1 : Nat)) : Int) ∈ rch (smF p) (t + 1) := by
        rw [er]
        exact adds_mem.mpr (.inr (List.mem_flatMap.mpr ⟨((t' : Nat) : Int), rgI_mem.mpr ⟨by omega, by omega⟩, hg⟩))
      rw [e1] at this
      have := (rgI_mem.mp this).2
      omega
    · right
      have h1 : t + 1 = (smF p).length := by omega
      rw [er, h1, ← sm_adds hp, rgI_len]
theorem sm_rchF (hp : PlanOk p) : rchF (smF p) = rgI (smF p).length := by
  obtain ⟨c, e, hc, hc2, ea⟩ := sm_rch hp _ (Nat.le_refl _)
  have : c = (smF p).length := by omega
  subst this
  exact e
/-! ### no two of its stops are alike -/
theorem paired_map {A B : Type} {f : A → B} : ∀ {xs ys : List A}, xs.map f = ys.map f → Paired (fun u v => f u = f v) xs ys
  | [], [], _ => .nil
  | [], _ :: _, h => by cases h
  | _ :: _, [], h => by cases h
  | x :: xs, y :: ys, h => by
    rw [List.map_cons, List.map_cons] at h
    exact .cons (List.cons.inj h).1 (paired_map (List.cons.inj h).2)
theorem paired_imp {A : Type} {R S : A → A → Prop} : ∀ {xs ys : List A}, Paired R xs ys → (∀ u ∈ xs, ∀ v ∈ ys, R u v → S u v) → Paired S xs ys
  | _, _, .nil, _ => .nil
  | _, _, .cons h t, f => .cons (f _ List.mem_cons_self _ List.mem_cons_self h) (paired_imp t fun u hu v hv => f u (List.mem_cons_of_mem _ hu) v (List.mem_cons_of_mem _ hv))
theorem paired_unmap {A B : Type} {f : A → B} {R : B → B → Prop} : ∀ {xs ys : List A}, Paired R (xs.map f) (ys.map f) → Paired (fun u v => R (f u) (f v)) xs ys
  | [], [], _ => .nil
  | [], _ :: _, h => by cases h
  | _ :: _, [], h => by cases h
  | x :: xs, y :: ys, h => by
    rw [List.map_cons, List.map_cons] at h
    cases h with
    | cons a b => exact .cons a (paired_unmap b)
theorem lcWays (hp : PlanOk p) {i j : Int} (hi : inN p i) (hj : inN p j) (e : L p i = L p j) : Paired (fun u v => u.1 = v.1 ∧ inN p u.2 ∧ inN p v.2 ∧ L p u.2 = L p v.2) (waysS (atS p i)) (waysS (atS p j)) :=
  paired_imp (paired_map (lcKey hp hi hj e).2) fun u hu v hv h => ⟨(Prod.mk.inj h).1, (ways_in hp hi u hu).2, (ways_in hp hj v hv).2, (Prod.mk.inj h).2⟩
theorem sm_red (hp : PlanOk p) {B : Int → Int → Prop} (b : Bis (smF p) B) {x y : Int} (h : B x y) : x = y := by
  have bp : Bis p fun i j => inN p i ∧ inN p j ∧ (L p i = L p j ∨ (L p i ∈ ordF p ∧ L p j ∈ ordF p ∧ B (phi p i) (phi p j))) := by
    rintro i j ⟨hi, hj, e | ⟨oi, oj, hb⟩⟩
    · exact ⟨hi, hj, (lcKey hp hi hj e).1, paired_imp (lcWays hp hi hj e) fun u _ v _ z => ⟨z.1, z.2.1, z.2.2.1, .inl z.2.2.2⟩⟩
    · obtain ⟨_, _, k, w⟩ := b _ _ hb
      obtain ⟨k1, w1⟩ := at_phi hp hi oi
      obtain ⟨k2, w2⟩ := at_phi hp hj oj
      rw [w1, w2] at w
      rw [k1, k2] at k
      exact ⟨hi, hj, k, paired_imp (paired_unmap w) fun u hu v hv z => ⟨z.1, (ways_in hp hi u hu).2, (ways_in hp hj v hv).2, .inr ⟨ord_clo hp hi oi u hu, ord_clo hp hj oj v hv, z.2⟩⟩⟩
  obtain ⟨hx, hy, _, _⟩ := b _ _ h
  have of : ∀ {x : Int}, inN (smF p) x → ∃ i, (ordF p)[x.toNat]? = some i ∧ inN p i ∧ L p i = i ∧ phi p i = x := fun {x} hx => by
    have hx2 := hx.2
    rw [sm_len] at hx2
    have hx1 := hx.1
    have g := List.getElem?_eq_getElem (show x.toNat < (ordF p).length by omega)
    obtain ⟨a, c⟩ := ord_in hp (List.mem_of_getElem? g)
    refine ⟨_, g, a, c, ?_⟩
    unfold phi
    rw [c, ixO_get ord_nd g]
    omega
  obtain ⟨i, gi, ii, li, pi⟩ := of hx
  obtain ⟨j, gj, ij, lj, pj⟩ := of hy
  have e := bis_lv bp p.length i j ⟨ii, ij, .inr ⟨by rw [li]; exact List.mem_of_getElem? gi, by rw [lj]; exact List.mem_of_getElem? gj, by rw [pi, pj]; exact h⟩⟩
  have e : L p i = L p j := e
  rw [li, lj] at e
  rw [← pi, ← pj, e]
theorem lcBis (hp : PlanOk p) : Bis p fun i j => inN p i ∧ inN p j ∧ L p i = L p j := by
  rintro i j ⟨hi, hj, e⟩
  exact ⟨hi, hj, (lcKey hp hi hj e).1, paired_imp (lcWays hp hi hj e) fun u _ v _ z => ⟨z.1, z.2.1, z.2.2.1, z.2.2.2⟩⟩
theorem sm_L (hp : PlanOk p) {i : Int} (hi : inN (smF p) i) : L (smF p) i = i := by
  have ok := sm_ok hp
  exact sm_red hp (lcBis ok) ⟨(lcIn ok hi).1, hi, lcFix ok hi⟩
theorem adds_new : ∀ (xs acc : List Int), (acc ++ xs).Nodup → adds acc xs = acc ++ xs
  | [], acc, _ => (List.append_nil _).symm
  | x :: xs, acc, h => by
    have m : x ∉ acc := fun z => (List.nodup_append.mp h).2.2 x z x List.mem_cons_self rfl
    rw [adds_out m, adds_new xs (acc ++ [x]) (by rw [List.append_assoc]; exact h), List.append_assoc]
    rfl
theorem sm_ord (hp : PlanOk p) : ordF (smF p) = rgI (smF p).length := by
  unfold ordF
  rw [sm_rchF hp, map_same fun x m => sm_L hp (rgI_mem.mp m)]
  exact adds_new _ _ (by rw [List.nil_append]; exact rgI_nd)
theorem sm_phi (hp : PlanOk p) {i : Int} (hi : inN (smF p) i) : phi (smF p) i = i := by
  unfold phi
  have h1 := hi.1
  have h2 := hi.2
  rw [sm_L hp hi, sm_ord hp, ixO_get rgI_nd (k := i.toNat) (by rw [rgI_get (by omega)]; congr 1; omega)]
  omega
theorem mapS_id {f : Int → Int} {s : Stop} (h : ∀ u ∈ waysS s, f u.2 = u.2) : mapS f s = s := by
  cases s with
  | fin => rfl
  | act b ws =>
    show Stop.act b (ws.map fun u => (u.1, f u.2)) = _
    rw [show ws.map (fun u => (u.1, f u.2)) = ws by
      conv => rhs; rw [← List.map_id ws]
      exact List.map_congr_left fun u hu => Prod.ext rfl (h u hu)]
theorem at_get {q : List Stop} {k : Nat} (h : k < q.length) : atS q ((k : Nat) : Int) = q[k] := by
  unfold atS
  rw [Int.toNat_natCast, List.getElem?_eq_getElem h]
  rfl
theorem sm_sm (hp : PlanOk p) : smF (smF p) = smF p := by
  have ok := sm_ok hp
  generalize hq : smF p = q at *
  have h1 : ordF q = rgI q.length := by rw [← hq]; exact sm_ord hp
  have h2 : ∀ i, inN q i → phi q i = i := fun i hi => by rw [← hq] at hi ⊢; exact sm_phi hp hi
  show (ordF q).map (fun a => mapS (phi q) (atS q a)) = q
  rw [h1]
  refine List.ext_getElem (by rw [List.length_map, rgI_len]) fun k k1 k2 => ?_
  rw [List.getElem_map, List.getElem_map, List.getElem_range]
  rw [mapS_id fun u hu => h2 _ (ways_in ok ⟨by omega, by omega⟩ u hu).2, at_get k2]
/-- of a plan that ends at once -/
theorem sm_fin (hp : PlanOk p) (h : atS p 0 = .fin) : smF p = [.fin] := by
  have g : gls p 0 = [] := by unfold gls; rw [h]; rfl
  have r : rchF p = [0] := by
    have : rch p 1 = [0] := by rw [rch_some (i := 0) rfl, g]; rfl
    rw [rch_end (t := 1) hp.l1 (by rw [this]; exact Nat.le_refl _), this]
  have o : ordF p = [0] := by
    unfold ordF
    rw [r, List.map_cons, List.map_nil, lc0 hp]
    rfl
  unfold smF
  rw [o, List.map_cons, List.map_nil, h]
  rfl
end
end TP

/-! Smw: reached, grouped, small compute what Ref and Sml tell. -/
namespace TP
open PySem PySem.Spec PyProof.Rows L2
theorem shp_ints (fs : List Int) : SeqAt.shaped (.list (fs.map .int)) = true := by
  have e1 : PyData.canLayAll0 (fs.map .int) = true := canLay_all.mpr fun x m => by
    obtain ⟨p, hp, rfl⟩ := List.mem_map.mp m
    rfl
  have e2 : PyData.depthAll (fs.map .int) ≤ 0 := by
    clear e1
    induction fs with
    | nil => exact Nat.zero_le _
    | cons p ws ih => rw [List.map_cons, PyData.depthAll, PyData.depth]; omega
  have e3 : (PyData.list (fs.map .int)).depth ≤ 64 := by rw [PyData.depth]; omega
  unfold SeqAt.shaped
  rw [show (PyData.list (fs.map .int)).canLay0 = true by rw [PyData.canLay0]; exact e1, decide_eq_true e3]
  rfl
theorem any_dec {y : Int} {fs : List Int} : (fs.map PyData.int).any (fun z => PyData.eqv z (.int y)) = decide (y ∈ fs) := by
  rw [Bool.eq_iff_iff, List.any_eq_true, decide_eq_true_eq]
  constructor
  · rintro ⟨z, m, e⟩
    obtain ⟨x, hx, rfl⟩ := List.mem_map.mp m
    rw [eqv_ii, decide_eq_true_eq] at e
    exact e ▸ hx
  · intro m
    exact ⟨.int y, List.mem_map.mpr ⟨y, m, rfl⟩, by rw [eqv_ii]; exact decide_eq_true rfl⟩
theorem nin_l {y : Int} {fs : List Int} : gNotInA (oI y) (.lst (fs.map .int)) = some (oB (!decide (y ∈ fs))) := by
  show ((none : Option O).or (if (SeqAt.shaped (.int y) && SeqAt.shaped (.list (fs.map .int))) = true then some (oB (!(fs.map .int).any fun z => PyData.eqv z (.int y))) else none)) = _
  rw [show SeqAt.shaped (.int y) = true from rfl, shp_ints, Option.none_or, Bool.true_and, if_pos rfl, any_dec]
theorem idx_l {y : Int} {fs : List Int} {o : O} (ho : o = .lst (fs.map .int) ∨ o = .dat (.list (fs.map .int))) (h : y ∈ fs) : gIndex o (oI y) = some (oI (ixO fs y)) := by
  have e : gIndex o (oI y) = if (SeqAt.shaped (.int y) && SeqAt.shaped (.list (fs.map .int))) = true then ((fs.map PyData.int).findIdx? fun z => PyData.eqv z (.int y)).map fun j => oI (j : Nat) else none := by
    rcases ho with rfl | rfl <;> rfl
  rw [e, show SeqAt.shaped (.int y) = true from rfl, shp_ints, Bool.true_and, if_pos rfl, List.findIdx?_map]
  rw [show ((fun z => PyData.eqv z (PyData.int y)) ∘ PyData.int) = fun z : Int => decide (z = y) from funext fun z => eqv_ii]
  unfold ixO
  cases e : fs.findIdx? (fun z => decide (z = y)) with
  | none =>
    rw [List.findIdx?_eq_none_iff] at e
    have := e y h
    simp at this
  | some j => rfl
theorem wp_forC {tg : Tg} {body : Sx} {d : D} {ds : List D} {env : En} {Q : Out → Prop} (h : Wp (tg d env) fun e1 => Wp (body e1) fun out => ∃ e', out = .nx e' ∧ Wp (forL tg body ds e') Q) : Wp (forL tg body (d :: ds) env) Q := by
  obtain ⟨e1, q1, out, q2, e', rfl, h⟩ := h
  unfold forL
  rw [q1, Option.bind_some, q2, Option.bind_some]
  exact h
theorem adds_len : ∀ (xs acc : List Int), (adds acc xs).length ≤ acc.length + xs.length
  | [], acc => Nat.le_refl _
  | x :: xs, acc => by
    by_cases h : x ∈ acc
    · rw [adds_in h]
      have := adds_len xs acc
      rw [List.length_cons]; omega
    · rw [adds_out h]
      have := adds_len xs (acc ++ [x])
      rw [List.length_append, List.length_singleton] at this
      rw [List.length_cons]; omega
/-- the loop that appends what is new among the goals -/
theorem new_loop {o : O} {a2 : Sl} {Q : Out → Prop} : ∀ (ws : List (Str × Int)) (fs : List Int) (a3 a4 : Sl), fs.length + ws.length ≤ 1000 →
    (∀ b3 b4, Q (.nx [.shr o, .own (.lst ((adds fs (ws.map (·.2))).map .int)), a2, b3, b4])) →
    Wp (forL (tg2 3 4) (sIf (e2 gNotInA (eVar 4) (eVar 1)) (sApp 1 (eDat 4)) (sNil)) (ws.map wayD) [.shr o, .own (.lst (fs.map .int)), a2, a3, a4]) Q
  | [], fs, a3, a4, _, k => ⟨_, rfl, k _ _⟩
  | u :: ws, fs, a3, a4, hl, k => by
    rw [List.length_cons] at hl
    rw [List.map_cons]
    refine wp_forC ?_
    simp only [wayD, XR, List.getElem?_cons_zero, List.getElem?_cons_succ, List.set_cons_zero, List.set_cons_succ, List.length_cons, List.length_nil, List.length_map, List.length_range, List.length_append, List.length_set, List.map_cons, List.map_nil, List.replicate_succ, List.replicate_zero, List.cons_append, List.nil_append, List.append_nil, Nat.reduceLeDiff, Nat.reduceLT, Nat.zero_lt_succ, Int.reduceLT, Int.reduceLE, Int.reduceAdd, Int.reduceToNat, Int.cast_ofNat_Int, Int.natCast_zero, Int.natCast_one, Int.reduceEq, Int.reduceNe, Nat.reduceEqDiff, eq_self, beq_self_eq_true, Bool.true_beq, Bool.false_beq, Classical.not_not, Bool.not_eq_false, Int.reduceNeg, Int.reducePow, Option.bind_some, Option.bind_none, Option.map_some, Option.map_none, Option.or_some, Option.or_none, Option.none_or, Option.some_or, Option.or, decide_eq_true_eq, if_true, if_false, ite_true, ite_false, and_true, true_and, Bool.not_eq_true, Bool.not_true, Bool.not_false, Bool.true_eq_false, Bool.false_eq_true, imp_false, not_false_eq_true, not_true_eq_false, forall_const, true_implies, false_implies, reduceCtorEq, Nat.reduceAdd, Nat.reduceSub, Nat.reduceLT, decide_true, decide_false, Bool.or_true, Bool.true_or, Bool.or_false, Bool.false_or, Bool.and_true, Bool.true_and, Bool.and_false, Bool.false_and, and_false, false_and, or_true, true_or, or_false, false_or, not_true, not_false, nin_l]
    by_cases m : u.2 ∈ fs
    · rw [decide_eq_true m]
      simp only [XR, List.getElem?_cons_zero, List.getElem?_cons_succ, List.set_cons_zero, List.set_cons_succ, List.length_cons, List.length_nil, List.length_map, List.length_range, List.length_append, List.length_set, List.map_cons, List.map_nil, List.replicate_succ, List.replicate_zero, List.cons_append, List.nil_append, List.append_nil, Nat.reduceLeDiff, Nat.reduceLT, Nat.zero_lt_succ, Int.reduceLT, Int.reduceLE, Int.reduceAdd, Int.reduceToNat, Int.cast_ofNat_Int, Int.natCast_zero, Int.natCast_one, Int.reduceEq, Int.reduceNe, Nat.reduceEqDiff, eq_self, beq_self_eq_true, Bool.true_beq, Bool.false_beq, Classical.not_not, Bool.not_eq_false, Int.reduceNeg, Int.reducePow, Option.bind_some, Option.bind_none, Option.map_some, Option.map_none, Option.or_some, Option.or_none, Option.none_or, Option.some_or, Option.or, decide_eq_true_eq, if_true, if_false, ite_true, ite_false, and_true, true_and, Bool.not_eq_true, Bool.not_true, Bool.not_false, Bool.true_eq_false, Bool.false_eq_true, imp_false, not_false_eq_true, not_true_eq_false, forall_const, true_implies, false_implies, reduceCtorEq, Nat.reduceAdd, Nat.reduceSub, Nat.reduceLT, decide_true, decide_false, Bool.or_true, Bool.true_or, Bool.or_false, Bool.false_or, Bool.and_true, Bool.true_and, Bool.and_false, Bool.false_and, and_false, false_and, or_true, true_or, or_false, false_or, not_true, not_false]
      refine ⟨_, rfl, new_loop ws fs _ _ (by omega) fun b3 b4 => ?_⟩
      have := k b3 b4
      rwa [List.map_cons, adds_in m] at this
    · rw [decide_eq_false m]
      simp only [XR, List.getElem?_cons_zero, List.getElem?_cons_succ, List.set_cons_zero, List.set_cons_succ, List.length_cons, List.length_nil, List.length_map, List.length_range, List.length_append, List.length_set, List.map_cons, List.map_nil, List.replicate_succ, List.replicate_zero, List.cons_append, List.nil_append, List.append_nil, Nat.reduceLeDiff, Nat.reduceLT, Nat.zero_lt_succ, Int.reduceLT, Int.reduceLE, Int.reduceAdd, Int.reduceToNat, Int.cast_ofNat_Int, Int.natCast_zero, Int.natCast_one, Int.reduceEq, Int.reduceNe, Nat.reduceEqDiff, eq_self, beq_self_eq_true, Bool.true_beq, Bool.false_beq, Classical.not_not, Bool.not_eq_false, Int.reduceNeg, Int.reducePow, Option.bind_some, Option.bind_none, Option.map_some, Option.map_none, Option.or_some, Option.or_none, Option.none_or, Option.some_or, Option.or, decide_eq_true_eq, if_true, if_false, ite_true, ite_false, and_true, true_and, Bool.not_eq_true, Bool.not_true, Bool.not_false, Bool.true_eq_false, Bool.false_eq_true, imp_false, not_false_eq_true, not_true_eq_false, forall_const, true_implies, false_implies, reduceCtorEq, Nat.reduceAdd, Nat.reduceSub, Nat.reduceLT, decide_true, decide_false, Bool.or_true, Bool.true_or, Bool.or_false, Bool.false_or, Bool.and_true, Bool.true_and, Bool.and_false, Bool.false_and, and_false, false_and, or_true, true_or, or_false, false_or, not_true, not_false]
      refine ⟨by omega, _, rfl, ?_⟩
      have := new_loop (o := o) (a2 := a2) (Q := Q) ws (fs ++ [u.2]) (.shr (oS u.1)) (.shr (oI u.2)) (by rw [List.length_append, List.length_singleton]; omega) fun b3 b4 => by
        have := k b3 b4
        rwa [List.map_cons, adds_out m] at this
      rw [List.map_append] at this
      exact this
theorem ways6 {p : List Stop} (hp : PlanOk p) {i : Int} (h : inN p i) : (waysS (atS p i)).length ≤ 6 := by
  have s := at_ok hp h
  cases e : atS p i with
  | fin => exact Nat.zero_le _
  | act b ws => rw [e] at s; exact (show WaysOk p.length ws from s).l6
def isP (p : List Stop) (o : O) : Prop := o = .lst (p.map stopD) ∨ o = .dat (planD p)
theorem ix_p {p : List Stop} {o : O} (ho : isP p o) {i : Int} (h : inN p i) : gIx o (oI i) = some (.dat (stopD (atS p i))) := by
  have e : gIx o (oI i) = ((ixD p i).map stopD).map .dat := by
    rcases ho with rfl | rfl <;> (show (ixD (p.map stopD) i).map O.dat = _; rw [ixD_map])
  rw [e, ix_at h.1 h.2]
  rfl
theorem len_p {p : List Stop} {o : O} (ho : isP p o) : gLen o = some (oI p.length) := by
  rcases ho with rfl | rfl <;> (show some (oI ((p.map stopD).length : Nat)) = _; rw [List.length_map])
theorem ixI {fs : List Int} {k : Nat} {x : Int} (h : fs[k]? = some x) : ixD fs (k : Nat) = some x := by
  rw [ixD_get (by omega) (by have := (List.getElem?_eq_some_iff.mp h).1; omega), Int.toNat_natCast, h]
theorem reached_ok {p : List Stop} {o : O} (ho : isP p o) (hp : PlanOk p) : M_reached [o] = some (.lst ((rchF p).map .int)) := Wp.eq (by
  have n12 := hp.l12
  rw [M_reached, wp_runB, B_reached]
  refine wp_seq (fun e => e = [.shr o, .own (.lst ([(0 : Int)].map .int)), .un, .un, .un]) ?_ ?_
  · simp only [XR, List.getElem?_cons_zero, List.getElem?_cons_succ, List.set_cons_zero, List.set_cons_succ, List.length_cons, List.length_nil, List.length_map, List.length_range, List.length_append, List.length_set, List.map_cons, List.map_nil, List.replicate_succ, List.replicate_zero, List.cons_append, List.nil_append, List.append_nil, Nat.reduceLeDiff, Nat.reduceLT, Nat.zero_lt_succ, Int.reduceLT, Int.reduceLE, Int.reduceAdd, Int.reduceToNat, Int.cast_ofNat_Int, Int.natCast_zero, Int.natCast_one, Int.reduceEq, Int.reduceNe, Nat.reduceEqDiff, eq_self, beq_self_eq_true, Bool.true_beq, Bool.false_beq, Classical.not_not, Bool.not_eq_false, Int.reduceNeg, Int.reducePow, Option.bind_some, Option.bind_none, Option.map_some, Option.map_none, Option.or_some, Option.or_none, Option.none_or, Option.some_or, Option.or, decide_eq_true_eq, if_true, if_false, ite_true, ite_false, and_true, true_and, Bool.not_eq_true, Bool.not_true, Bool.not_false, Bool.true_eq_false, Bool.false_eq_true, imp_false, not_false_eq_true, not_true_eq_false, forall_const, true_implies, false_implies, reduceCtorEq, Nat.reduceAdd, Nat.reduceSub, Nat.reduceLT, decide_true, decide_false, Bool.or_true, Bool.true_or, Bool.or_false, Bool.false_or, Bool.and_true, Bool.true_and, Bool.and_false, Bool.false_and, and_false, false_and, or_true, true_or, or_false, false_or, not_true, not_false]
    exact ⟨_, rfl, rfl⟩
  rintro e rfl
  refine wp_seq (fun e => e = [.shr o, .own (.lst ((rch p 0).map .int)), .shr (oI (0 : Nat)), .un, .un]) ?_ ?_
  · simp only [XR, List.getElem?_cons_zero, List.getElem?_cons_succ, List.set_cons_zero, List.set_cons_succ, List.length_cons, List.length_nil, List.length_map, List.length_range, List.length_append, List.length_set, List.map_cons, List.map_nil, List.replicate_succ, List.replicate_zero, List.cons_append, List.nil_append, List.append_nil, Nat.reduceLeDiff, Nat.reduceLT, Nat.zero_lt_succ, Int.reduceLT, Int.reduceLE, Int.reduceAdd, Int.reduceToNat, Int.cast_ofNat_Int, Int.natCast_zero, Int.natCast_one, Int.reduceEq, Int.reduceNe, Nat.reduceEqDiff, eq_self, beq_self_eq_true, Bool.true_beq, Bool.false_beq, Classical.not_not, Bool.not_eq_false, Int.reduceNeg, Int.reducePow, Option.bind_some, Option.bind_none, Option.map_some, Option.map_none, Option.or_some, Option.or_none, Option.none_or, Option.some_or, Option.or, decide_eq_true_eq, if_true, if_false, ite_true, ite_false, and_true, true_and, Bool.not_eq_true, Bool.not_true, Bool.not_false, Bool.true_eq_false, Bool.false_eq_true, imp_false, not_false_eq_true, not_true_eq_false, forall_const, true_implies, false_implies, reduceCtorEq, Nat.reduceAdd, Nat.reduceSub, Nat.reduceLT, decide_true, decide_false, Bool.or_true, Bool.true_or, Bool.or_false, Bool.false_or, Bool.and_true, Bool.true_and, Bool.and_false, Bool.false_and, and_false, false_and, or_true, true_or, or_false, false_or, not_true, not_false]
    exact ⟨_, rfl, rfl⟩
  rintro e rfl
  refine wp_seq (fun e => ∃ a2 a3 a4 : Sl, e = [.shr o, .own (.lst ((rchF p).map .int)), a2, a3, a4]) ?_ ?_
  · show Wp (whileL _ _ fuel _) _
    refine wp_while (fun k e => ∃ (t : Nat) (a3 a4 : Sl), t ≤ (rch p t).length ∧ k = p.length - t ∧ e = [.shr o, .own (.lst ((rch p t).map .int)), .shr (oI t), a3, a4]) ?_ fuel p.length _ (by unfold fuel; omega) ?_
    · rintro k e ⟨t, a3, a4, ht, rfl, rfl⟩
      have le := rch_len hp t
      simp only [XR, List.getElem?_cons_zero, List.getElem?_cons_succ, List.set_cons_zero, List.set_cons_succ, List.length_cons, List.length_nil, List.length_map, List.length_range, List.length_append, List.length_set, List.map_cons, List.map_nil, List.replicate_succ, List.replicate_zero, List.cons_append, List.nil_append, List.append_nil, Nat.reduceLeDiff, Nat.reduceLT, Nat.zero_lt_succ, Int.reduceLT, Int.reduceLE, Int.reduceAdd, Int.reduceToNat, Int.cast_ofNat_Int, Int.natCast_zero, Int.natCast_one, Int.reduceEq, Int.reduceNe, Nat.reduceEqDiff, eq_self, beq_self_eq_true, Bool.true_beq, Bool.false_beq, Classical.not_not, Bool.not_eq_false, Int.reduceNeg, Int.reducePow, Option.bind_some, Option.bind_none, Option.map_some, Option.map_none, Option.or_some, Option.or_none, Option.none_or, Option.some_or, Option.or, decide_eq_true_eq, if_true, if_false, ite_true, ite_false, and_true, true_and, Bool.not_eq_true, Bool.not_true, Bool.not_false, Bool.true_eq_false, Bool.false_eq_true, imp_false, not_false_eq_true, not_true_eq_false, forall_const, true_implies, false_implies, reduceCtorEq, Nat.reduceAdd, Nat.reduceSub, Nat.reduceLT, decide_true, decide_false, Bool.or_true, Bool.true_or, Bool.or_false, Bool.false_or, Bool.and_true, Bool.true_and, Bool.and_false, Bool.false_and, and_false, false_and, or_true, true_or, or_false, false_or, not_true, not_false]
      refine ⟨_, rfl, ?_⟩
      rcases Nat.lt_or_ge t (rch p t).length with hl | hl
      · rw [if_pos (decide_eq_true (by omega))]
        have ex := List.getElem?_eq_getElem hl
        generalize (rch p t)[t] = i at ex
        have hi := rch_in hp t i (List.mem_of_getElem? ex)
        have w6 := ways6 hp hi
        simp only [L_reached_2, L_reached_1, XR, List.getElem?_cons_zero, List.getElem?_cons_succ, List.set_cons_zero, List.set_cons_succ, List.length_cons, List.length_nil, List.length_map, List.length_range, List.length_append, List.length_set, List.map_cons, List.map_nil, List.replicate_succ, List.replicate_zero, List.cons_append, List.nil_append, List.append_nil, Nat.reduceLeDiff, Nat.reduceLT, Nat.zero_lt_succ, Int.reduceLT, Int.reduceLE, Int.reduceAdd, Int.reduceToNat, Int.cast_ofNat_Int, Int.natCast_zero, Int.natCast_one, Int.reduceEq, Int.reduceNe, Nat.reduceEqDiff, eq_self, beq_self_eq_true, Bool.true_beq, Bool.false_beq, Classical.not_not, Bool.not_eq_false, Int.reduceNeg, Int.reducePow, Option.bind_some, Option.bind_none, Option.map_some, Option.map_none, Option.or_some, Option.or_none, Option.none_or, Option.some_or, Option.or, decide_eq_true_eq, if_true, if_false, ite_true, ite_false, and_true, true_and, Bool.not_eq_true, Bool.not_true, Bool.not_false, Bool.true_eq_false, Bool.false_eq_true, imp_false, not_false_eq_true, not_true_eq_false, forall_const, true_implies, false_implies, reduceCtorEq, Nat.reduceAdd, Nat.reduceSub, Nat.reduceLT, decide_true, decide_false, Bool.or_true, Bool.true_or, Bool.or_false, Bool.false_or, Bool.and_true, Bool.true_and, Bool.and_false, Bool.false_and, and_false, false_and, or_true, true_or, or_false, false_or, not_true, not_false, ixI ex, ix_p ho hi, ways_of_ok]
        refine new_loop _ _ _ _ (by omega) fun b3 b4 => ?_
        simp only [XR, List.getElem?_cons_zero, List.getElem?_cons_succ, List.set_cons_zero, List.set_cons_succ, List.length_cons, List.length_nil, List.length_map, List.length_range, List.length_append, List.length_set, List.map_cons, List.map_nil, List.replicate_succ, List.replicate_zero, List.cons_append, List.nil_append, List.append_nil, Nat.reduceLeDiff, Nat.reduceLT, Nat.zero_lt_succ, Int.reduceLT, Int.reduceLE, Int.reduceAdd, Int.reduceToNat, Int.cast_ofNat_Int, Int.natCast_zero, Int.natCast_one, Int.reduceEq, Int.reduceNe, Nat.reduceEqDiff, eq_self, beq_self_eq_true, Bool.true_beq, Bool.false_beq, Classical.not_not, Bool.not_eq_false, Int.reduceNeg, Int.reducePow, Option.bind_some, Option.bind_none, Option.map_some, Option.map_none, Option.or_some, Option.or_none, Option.none_or, Option.some_or, Option.or, decide_eq_true_eq, if_true, if_false, ite_true, ite_false, and_true, true_and, Bool.not_eq_true, Bool.not_true, Bool.not_false, Bool.true_eq_false, Bool.false_eq_true, imp_false, not_false_eq_true, not_true_eq_false, forall_const, true_implies, false_implies, reduceCtorEq, Nat.reduceAdd, Nat.reduceSub, Nat.reduceLT, decide_true, decide_false, Bool.or_true, Bool.true_or, Bool.or_false, Bool.false_or, Bool.and_true, Bool.true_and, Bool.and_false, Bool.false_and, and_false, false_and, or_true, true_or, or_false, false_or, not_true, not_false]
        have e : adds (rch p t) ((waysS (atS p i)).map (·.2)) = rch p (t + 1) := (rch_some ex).symm
        rw [e]
        have le2 : t + 1 ≤ (rch p (t + 1)).length := by
          obtain ⟨zs, ez⟩ := adds_pre (acc := rch p t) (xs := gls p i)
          rw [rch_some ex, ← ez, List.length_append]
          omega
        exact ⟨p.length - (t + 1), by omega, t + 1, _, _, le2, rfl, rfl⟩
      · rw [if_neg (by rw [decide_eq_true_eq]; omega)]
        rw [rch_end (by omega) hl]
        exact ⟨_, rfl, _, _, _, rfl⟩
    · exact ⟨0, _, _, Nat.zero_le _, rfl, rfl⟩
  · rintro e ⟨a2, a3, a4, rfl⟩
    simp only [XR, List.getElem?_cons_zero, List.getElem?_cons_succ, List.set_cons_zero, List.set_cons_succ, List.length_cons, List.length_nil, List.length_map, List.length_range, List.length_append, List.length_set, List.map_cons, List.map_nil, List.replicate_succ, List.replicate_zero, List.cons_append, List.nil_append, List.append_nil, Nat.reduceLeDiff, Nat.reduceLT, Nat.zero_lt_succ, Int.reduceLT, Int.reduceLE, Int.reduceAdd, Int.reduceToNat, Int.cast_ofNat_Int, Int.natCast_zero, Int.natCast_one, Int.reduceEq, Int.reduceNe, Nat.reduceEqDiff, eq_self, beq_self_eq_true, Bool.true_beq, Bool.false_beq, Classical.not_not, Bool.not_eq_false, Int.reduceNeg, Int.reducePow, Option.bind_some, Option.bind_none, Option.map_some, Option.map_none, Option.or_some, Option.or_none, Option.none_or, Option.some_or, Option.or, decide_eq_true_eq, if_true, if_false, ite_true, ite_false, and_true, true_and, Bool.not_eq_true, Bool.not_true, Bool.not_false, Bool.true_eq_false, Bool.false_eq_true, imp_false, not_false_eq_true, not_true_eq_false, forall_const, true_implies, false_implies, reduceCtorEq, Nat.reduceAdd, Nat.reduceSub, Nat.reduceLT, decide_true, decide_false, Bool.or_true, Bool.true_or, Bool.or_false, Bool.false_or, Bool.and_true, Bool.true_and, Bool.and_false, Bool.false_and, and_false, false_and, or_true, true_or, or_false, false_or, not_true, not_false])
/-! ### grouped -/
def kD : Option Bool → D
  | none => .str "end"
  | some b => kindD b
theorem hd_kD (s : Stop) : hdD s = kD (kindS s) := by cases s <;> rfl
def kyD (k : Ky) : D := .tuple [.int k.1, kD k.2.1, .tuple (k.2.2.map wayD)]
theorem eqv_kD (a b : Option Bool) : PyData.eqv (kD a) (kD b) = decide (a = b) := by
  cases a with
  | none => cases b with
    | none => rfl
    | some b => cases b <;> rfl
  | some a => cases b with
    | none => cases a <;> rfl
    | some b => cases a <;> cases b <;> rfl
theorem eqv_tup (xs ys : List D) : PyData.eqv (.tuple xs) (.tuple ys) = PyData.eqvAll xs ys := by rw [PyData.eqv]
theorem eqv_way (u v : Str × Int) : PyData.eqv (wayD u) (wayD v) = decide (u = v) := by
  unfold wayD
  rw [eqv_tup, PyData.eqvAll, PyData.eqvAll, PyData.eqvAll, eqv_ss, eqv_ii, Bool.and_true, ← Bool.decide_and]
  exact decide_eq_decide.mpr ⟨fun h => Prod.ext h.1 h.2, fun h => ⟨congrArg (·.1) h, congrArg (·.2) h⟩⟩
theorem eqv_ways : ∀ xs ys : List (Str × Int), PyData.eqvAll (xs.map wayD) (ys.map wayD) = decide (xs = ys)
  | [], [] => by rw [List.map_nil, PyData.eqvAll]; rfl
  | [], y :: ys => by rw [List.map_nil, List.map_cons, PyData.eqvAll]; rfl
  | x :: xs, [] => by rw [List.map_nil, List.map_cons, PyData.eqvAll]; rfl
  | x :: xs, y :: ys => by
    rw [List.map_cons, List.map_cons, PyData.eqvAll, eqv_way, eqv_ways xs ys, ← Bool.decide_and]
    exact decide_eq_decide.mpr (by rw [List.cons.injEq])
theorem eqv_ky (a b : Ky) : PyData.eqv (kyD a) (kyD b) = decide (a = b) := by
  unfold kyD
  rw [eqv_tup, PyData.eqvAll, PyData.eqvAll, PyData.eqvAll, PyData.eqvAll, eqv_ii, eqv_kD, eqv_tup, eqv_ways, Bool.and_true, ← Bool.decide_and, ← Bool.decide_and]
  exact decide_eq_decide.mpr ⟨fun h => Prod.ext h.1 (Prod.ext h.2.1 h.2.2), fun h => by subst h; exact ⟨rfl, rfl, rfl⟩⟩
theorem gSet_ints (l : List Int) (h : l.length ≤ 4000) : gSetLen (.dat (.list (l.map .int))) = some (oI (cardL l : Nat)) := by
  have ek : asKs (l.map .int) = some (l.map .inl) := by
    clear h
    induction l with
    | nil => rfl
    | cons w ws ih => rw [List.map_cons, asKs, ih]; rfl
  show ((asKs (l.map .int)).bind fun ks => if decide (ks.length ≤ 4000) = true then some (oI (dst ks).length) else none) = _
  rw [ek, Option.bind_some, if_pos (decide_eq_true (by rw [List.length_map]; exact h))]
  have e : (dst (l.map Sum.inl)).length = cardL l := by
    rw [← dsts_eqI, List.length_map]
    refine Nat.le_antisymm ?_ ?_
    · exact nd_sub (dsts_ndI l) fun x m => adds_mem.mpr (.inr (dsts_memI.mp m))
    · exact nd_sub (adds_nd List.nodup_nil) fun x m => dsts_memI.mpr ((adds_mem.mp m).resolve_left List.not_mem_nil)
  rw [e]
theorem lay_kD (k : Option Bool) : (kD k).canLay0 = true ∧ (kD k).depth = 0 := by
  cases k with
  | none => exact ⟨by decide +kernel, rfl⟩
  | some b => cases b <;> exact ⟨by decide +kernel, rfl⟩
theorem lay_wayD {u : Str × Int} (h : wOk u.1) : (wayD u).canLay0 = true ∧ (wayD u).depth ≤ 1 := by
  refine ⟨?_, by rw [dp_way]; exact Nat.le_refl _⟩
  unfold wayD
  rw [PyData.canLay0, PyData.canLayAll0, PyData.canLayAll0, PyData.canLayAll0, PyData.canLay0, PyData.canLay0, strOk_w h]
  rfl
theorem depthA {xs : List D} {n : Nat} (h : ∀ x ∈ xs, x.depth ≤ n) : PyData.depthAll xs ≤ n := by
  induction xs with
  | nil => exact Nat.zero_le _
  | cons x xs ih =>
    rw [PyData.depthAll]
    have := h x List.mem_cons_self
    have := ih fun y m => h y (List.mem_cons_of_mem _ m)
    omega
theorem lay_ky {k : Ky} (h : ∀ u ∈ k.2.2, wOk u.1) : (kyD k).canLay0 = true ∧ (kyD k).depth ≤ 3 := by
  have hw : ∀ x ∈ k.2.2.map wayD, x.canLay0 = true ∧ x.depth ≤ 1 := fun x m => by
    obtain ⟨u, hu, rfl⟩ := List.mem_map.mp m
    exact lay_wayD (h u hu)
  have a1 : PyData.canLayAll0 (k.2.2.map wayD) = true := canLay_all.mpr fun x m => (hw x m).1
  have a2 := depthA fun x m => (hw x m).2
  unfold kyD
  constructor
  · rw [PyData.canLay0, PyData.canLayAll0, PyData.canLayAll0, PyData.canLayAll0, PyData.canLayAll0, (lay_kD _).1, PyData.canLay0, PyData.canLay0, a1]
    rfl
  · rw [PyData.depth, PyData.depthAll, PyData.depthAll, PyData.depthAll, PyData.depthAll, (lay_kD _).2, PyData.depth, PyData.depth]
    omega
theorem shp_one {d : D} (h : d.canLay0 = true ∧ d.depth ≤ 3) : SeqAt.shaped d = true := by
  unfold SeqAt.shaped
  rw [h.1, decide_eq_true (by omega)]
  rfl
theorem shp_list {xs : List D} (h : ∀ d ∈ xs, d.canLay0 = true ∧ d.depth ≤ 3) : SeqAt.shaped (.list xs) = true := by
  have e1 : (PyData.list xs).canLay0 = true := by rw [PyData.canLay0]; exact canLay_all.mpr fun x m => (h x m).1
  have e2 := depthA fun x m => (h x m).2
  have e3 : (PyData.list xs).depth ≤ 64 := by rw [PyData.depth]; omega
  unfold SeqAt.shaped
  rw [e1, decide_eq_true e3]
  rfl
theorem told_ok {p : List Stop} (hp : PlanOk p) {l : List Int} {k : Ky} (h : k ∈ toldK p l) : (kyD k).canLay0 = true ∧ (kyD k).depth ≤ 3 := by
  obtain ⟨i, hi, rfl⟩ := List.mem_map.mp h
  have hi := List.mem_range.mp hi
  refine lay_ky fun u hu => ?_
  obtain ⟨v, hv, rfl⟩ := List.mem_map.mp hu
  exact (ways_in hp ⟨by omega, by omega⟩ v hv).1
theorem idx_told {p : List Stop} (hp : PlanOk p) {l : List Int} {k : Ky} (h : k ∈ toldK p l) : gIndex (.dat (.list ((toldK p l).map kyD))) (.dat (kyD k)) = some (oI (fst1 (toldK p l) k)) := by
  show (if (SeqAt.shaped (kyD k) && SeqAt.shaped (.list ((toldK p l).map kyD))) = true then (((toldK p l).map kyD).findIdx? fun z => PyData.eqv z (kyD k)).map fun j => oI (j : Nat) else none) = _
  rw [shp_one (told_ok hp h), shp_list fun d m => by
    obtain ⟨k', hk, rfl⟩ := List.mem_map.mp m
    exact told_ok hp hk]
  rw [Bool.and_self, if_pos rfl, List.findIdx?_map]
  have e0 : ((fun z => PyData.eqv z (kyD k)) ∘ kyD) = fun z : Ky => open Classical in decide (z = k) := funext fun z => by
    show PyData.eqv (kyD z) (kyD k) = _
    rw [eqv_ky]
  rw [e0]
  unfold fst1
  cases e : (toldK p l).findIdx? (fun z => open Classical in decide (z = k)) with
  | none =>
    rw [List.findIdx?_eq_none_iff] at e
    have := e k h
    simp at this
  | some j => rfl
theorem ix_lk {l : List Int} {i : Int} (h0 : 0 ≤ i) (h1 : i < l.length) : ixD l i = some (lk l i) := by
  rw [ixD_get h0 h1]
  unfold lk
  rw [List.getElem?_eq_getElem (by omega)]
  rfl
theorem wp_gen2 {o : Option Out} {P0 : Out → Prop} (F : Sl → Sl → Sl → Sl → Sl → Sl → Out) (h0 : ∀ a b c d e f, P0 (F a b c d e f)) (h : ∀ Q : Out → Prop, (∀ a b c d e f, Q (F a b c d e f)) → Wp o Q) : Wp o P0 := h P0 h0
theorem told_row {p : List Stop} (hp : PlanOk p) {l : List Int} (hl : l.length = p.length) {o : O} {a2 a6 a7 a8 : Sl} {told : List D} (ht : told.length ≤ 1000) {i : Nat} (hi : i < p.length) :
    Wp (L_grouped_1 M_ways_of [.shr o, .shr (.dat (.list (l.map .int))), a2, .own (.lst told), .shr (oI (i : Nat)), .shr (.dat (stopD (atS p (i : Nat)))), a6, a7, a8]) fun out => out = .nx [.shr o, .shr (.dat (.list (l.map .int))), a2, .own (.lst (told ++ [kyD (kE p l (i : Nat))])), .shr (oI (i : Nat)), .shr (.dat (stopD (atS p (i : Nat)))), a6, a7, a8] := by
  have hn : inN p (i : Nat) := ⟨by omega, by omega⟩
  have w6 := ways6 hp hn
  have win := ways_in hp hn
  simp only [L_grouped_1, XR, List.getElem?_cons_zero, List.getElem?_cons_succ, List.set_cons_zero, List.set_cons_succ, List.length_cons, List.length_nil, List.length_map, List.length_range, List.length_append, List.length_set, List.map_cons, List.map_nil, List.replicate_succ, List.replicate_zero, List.cons_append, List.nil_append, List.append_nil, Nat.reduceLeDiff, Nat.reduceLT, Nat.zero_lt_succ, Int.reduceLT, Int.reduceLE, Int.reduceAdd, Int.reduceToNat, Int.cast_ofNat_Int, Int.natCast_zero, Int.natCast_one, Int.reduceEq, Int.reduceNe, Nat.reduceEqDiff, eq_self, beq_self_eq_true, Bool.true_beq, Bool.false_beq, Classical.not_not, Bool.not_eq_false, Int.reduceNeg, Int.reducePow, Option.bind_some, Option.bind_none, Option.map_some, Option.map_none, Option.or_some, Option.or_none, Option.none_or, Option.some_or, Option.or, decide_eq_true_eq, if_true, if_false, ite_true, ite_false, and_true, true_and, Bool.not_eq_true, Bool.not_true, Bool.not_false, Bool.true_eq_false, Bool.false_eq_true, imp_false, not_false_eq_true, not_true_eq_false, forall_const, true_implies, false_implies, reduceCtorEq, Nat.reduceAdd, Nat.reduceSub, Nat.reduceLT, decide_true, decide_false, Bool.or_true, Bool.true_or, Bool.or_false, Bool.false_or, Bool.and_true, Bool.true_and, Bool.and_false, Bool.false_and, and_false, false_and, or_true, true_or, or_false, false_or, not_true, not_false, ix_lk (l := l) hn.1 (by rw [hl]; exact hn.2), head_any, ways_of_ok]
  refine ⟨by omega, lc_map (g := fun u => wayD (u.1, lk l u.2)) (fun u hu => ?_) ?_⟩
  · have := (win u hu).2
    simp only [wayD, XR, List.getElem?_cons_zero, List.getElem?_cons_succ, List.set_cons_zero, List.set_cons_succ, List.length_cons, List.length_nil, List.length_map, List.length_range, List.length_append, List.length_set, List.map_cons, List.map_nil, List.replicate_succ, List.replicate_zero, List.cons_append, List.nil_append, List.append_nil, Nat.reduceLeDiff, Nat.reduceLT, Nat.zero_lt_succ, Int.reduceLT, Int.reduceLE, Int.reduceAdd, Int.reduceToNat, Int.cast_ofNat_Int, Int.natCast_zero, Int.natCast_one, Int.reduceEq, Int.reduceNe, Nat.reduceEqDiff, eq_self, beq_self_eq_true, Bool.true_beq, Bool.false_beq, Classical.not_not, Bool.not_eq_false, Int.reduceNeg, Int.reducePow, Option.bind_some, Option.bind_none, Option.map_some, Option.map_none, Option.or_some, Option.or_none, Option.none_or, Option.some_or, Option.or, decide_eq_true_eq, if_true, if_false, ite_true, ite_false, and_true, true_and, Bool.not_eq_true, Bool.not_true, Bool.not_false, Bool.true_eq_false, Bool.false_eq_true, imp_false, not_false_eq_true, not_true_eq_false, forall_const, true_implies, false_implies, reduceCtorEq, Nat.reduceAdd, Nat.reduceSub, Nat.reduceLT, decide_true, decide_false, Bool.or_true, Bool.true_or, Bool.or_false, Bool.false_or, Bool.and_true, Bool.true_and, Bool.and_false, Bool.false_and, and_false, false_and, or_true, true_or, or_false, false_or, not_true, not_false, ix_lk (l := l) this.1 (by rw [hl]; exact this.2)]
  · refine ⟨by omega, ?_⟩
    unfold kyD kE
    rw [List.map_map, ← hd_kD]
    rfl
theorem grouped_ok {p : List Stop} {o : O} (ho : isP p o) (hp : PlanOk p) : M_grouped [o] = some (.dat (.list ((leastF p).map .int))) := Wp.eq (by
  have n12 := hp.l12
  have n1 := hp.l1
  rw [M_grouped, wp_runB, B_grouped]
  refine wp_seq (fun e => ∃ a5 : Sl, e = [.shr o, .shr (.dat (.list ((lv p 0).map .int))), .un, .un, .un, a5, .un, .un, .un]) ?_ ?_
  · have e1 : asL o = some (p.map stopD) := by rcases ho with rfl | rfl <;> rfl
    have e2 : Wp (lcL (tgN 5) eYes (eC (.int 0)) [.shr o, .un, .un, .un, .un, .un, .un, .un, .un] (p.map stopD)) fun ds => ds = (lv p 0).map .int := by
      refine lc_map (g := fun _ => .int 0) (fun s m => ?_) ?_
      · simp only [XR, List.getElem?_cons_zero, List.getElem?_cons_succ, List.set_cons_zero, List.set_cons_succ, List.length_cons, List.length_nil, List.length_map, List.length_range, List.length_append, List.length_set, List.map_cons, List.map_nil, List.replicate_succ, List.replicate_zero, List.cons_append, List.nil_append, List.append_nil, Nat.reduceLeDiff, Nat.reduceLT, Nat.zero_lt_succ, Int.reduceLT, Int.reduceLE, Int.reduceAdd, Int.reduceToNat, Int.cast_ofNat_Int, Int.natCast_zero, Int.natCast_one, Int.reduceEq, Int.reduceNe, Nat.reduceEqDiff, eq_self, beq_self_eq_true, Bool.true_beq, Bool.false_beq, Classical.not_not, Bool.not_eq_false, Int.reduceNeg, Int.reducePow, Option.bind_some, Option.bind_none, Option.map_some, Option.map_none, Option.or_some, Option.or_none, Option.none_or, Option.some_or, Option.or, decide_eq_true_eq, if_true, if_false, ite_true, ite_false, and_true, true_and, Bool.not_eq_true, Bool.not_true, Bool.not_false, Bool.true_eq_false, Bool.false_eq_true, imp_false, not_false_eq_true, not_true_eq_false, forall_const, true_implies, false_implies, reduceCtorEq, Nat.reduceAdd, Nat.reduceSub, Nat.reduceLT, decide_true, decide_false, Bool.or_true, Bool.true_or, Bool.or_false, Bool.false_or, Bool.and_true, Bool.true_and, Bool.and_false, Bool.false_and, and_false, false_and, or_true, true_or, or_false, false_or, not_true, not_false]
      · unfold lv
        rw [List.map_replicate]
        exact List.map_const'
    have hlp : p.length ≤ 1000000 := by omega
    rcases ho with rfl | rfl
    · simp only [XR, List.getElem?_cons_zero, List.getElem?_cons_succ, List.set_cons_zero, List.set_cons_succ, List.length_cons, List.length_nil, List.length_map, List.length_range, List.length_append, List.length_set, List.map_cons, List.map_nil, List.replicate_succ, List.replicate_zero, List.cons_append, List.nil_append, List.append_nil, Nat.reduceLeDiff, Nat.reduceLT, Nat.zero_lt_succ, Int.reduceLT, Int.reduceLE, Int.reduceAdd, Int.reduceToNat, Int.cast_ofNat_Int, Int.natCast_zero, Int.natCast_one, Int.reduceEq, Int.reduceNe, Nat.reduceEqDiff, eq_self, beq_self_eq_true, Bool.true_beq, Bool.false_beq, Classical.not_not, Bool.not_eq_false, Int.reduceNeg, Int.reducePow, Option.bind_some, Option.bind_none, Option.map_some, Option.map_none, Option.or_some, Option.or_none, Option.none_or, Option.some_or, Option.or, decide_eq_true_eq, if_true, if_false, ite_true, ite_false, and_true, true_and, Bool.not_eq_true, Bool.not_true, Bool.not_false, Bool.true_eq_false, Bool.false_eq_true, imp_false, not_false_eq_true, not_true_eq_false, forall_const, true_implies, false_implies, reduceCtorEq, Nat.reduceAdd, Nat.reduceSub, Nat.reduceLT, decide_true, decide_false, Bool.or_true, Bool.true_or, Bool.or_false, Bool.false_or, Bool.and_true, Bool.true_and, Bool.and_false, Bool.false_and, and_false, false_and, or_true, true_or, or_false, false_or, not_true, not_false]
      refine ⟨hlp, e2.imp fun ds e => ?_⟩
      subst e
      exact ⟨_, rfl, _, rfl⟩
    · simp only [planD, XR, List.getElem?_cons_zero, List.getElem?_cons_succ, List.set_cons_zero, List.set_cons_succ, List.length_cons, List.length_nil, List.length_map, List.length_range, List.length_append, List.length_set, List.map_cons, List.map_nil, List.replicate_succ, List.replicate_zero, List.cons_append, List.nil_append, List.append_nil, Nat.reduceLeDiff, Nat.reduceLT, Nat.zero_lt_succ, Int.reduceLT, Int.reduceLE, Int.reduceAdd, Int.reduceToNat, Int.cast_ofNat_Int, Int.natCast_zero, Int.natCast_one, Int.reduceEq, Int.reduceNe, Nat.reduceEqDiff, eq_self, beq_self_eq_true, Bool.true_beq, Bool.false_beq, Classical.not_not, Bool.not_eq_false, Int.reduceNeg, Int.reducePow, Option.bind_some, Option.bind_none, Option.map_some, Option.map_none, Option.or_some, Option.or_none, Option.none_or, Option.some_or, Option.or, decide_eq_true_eq, if_true, if_false, ite_true, ite_false, and_true, true_and, Bool.not_eq_true, Bool.not_true, Bool.not_false, Bool.true_eq_false, Bool.false_eq_true, imp_false, not_false_eq_true, not_true_eq_false, forall_const, true_implies, false_implies, reduceCtorEq, Nat.reduceAdd, Nat.reduceSub, Nat.reduceLT, decide_true, decide_false, Bool.or_true, Bool.true_or, Bool.or_false, Bool.false_or, Bool.and_true, Bool.true_and, Bool.and_false, Bool.false_and, and_false, false_and, or_true, true_or, or_false, false_or, not_true, not_false]
      refine ⟨hlp, e2.imp fun ds e => ?_⟩
      subst e
      exact ⟨_, rfl, _, rfl⟩
  rintro e ⟨a5, rfl⟩
  refine wp_seq (fun e => e = [.shr o, .shr (.dat (.list ((lv p 0).map .int))), .shr (oI 0), .un, .un, a5, .un, .un, .un]) ?_ ?_
  · simp only [XR, List.getElem?_cons_zero, List.getElem?_cons_succ, List.set_cons_zero, List.set_cons_succ, List.length_cons, List.length_nil, List.length_map, List.length_range, List.length_append, List.length_set, List.map_cons, List.map_nil, List.replicate_succ, List.replicate_zero, List.cons_append, List.nil_append, List.append_nil, Nat.reduceLeDiff, Nat.reduceLT, Nat.zero_lt_succ, Int.reduceLT, Int.reduceLE, Int.reduceAdd, Int.reduceToNat, Int.cast_ofNat_Int, Int.natCast_zero, Int.natCast_one, Int.reduceEq, Int.reduceNe, Nat.reduceEqDiff, eq_self, beq_self_eq_true, Bool.true_beq, Bool.false_beq, Classical.not_not, Bool.not_eq_false, Int.reduceNeg, Int.reducePow, Option.bind_some, Option.bind_none, Option.map_some, Option.map_none, Option.or_some, Option.or_none, Option.none_or, Option.some_or, Option.or, decide_eq_true_eq, if_true, if_false, ite_true, ite_false, and_true, true_and, Bool.not_eq_true, Bool.not_true, Bool.not_false, Bool.true_eq_false, Bool.false_eq_true, imp_false, not_false_eq_true, not_true_eq_false, forall_const, true_implies, false_implies, reduceCtorEq, Nat.reduceAdd, Nat.reduceSub, Nat.reduceLT, decide_true, decide_false, Bool.or_true, Bool.true_or, Bool.or_false, Bool.false_or, Bool.and_true, Bool.true_and, Bool.and_false, Bool.false_and, and_false, false_and, or_true, true_or, or_false, false_or, not_true, not_false]
    exact ⟨_, rfl, rfl⟩
  rintro e rfl
  refine wp_seq (fun e => ∃ a2 a3 a4 a5 a6 a7 a8 : Sl, e = [.shr o, .shr (.dat (.list ((leastF p).map .int))), a2, a3, a4, a5, a6, a7, a8]) ?_ ?_
  · show Wp (whileL _ _ fuel _) _
    refine wp_while (fun k e => ∃ (t : Nat) (many : Int) (a3 a4 a5 a6 a7 a8 : Sl), ((t = 0 ∧ many = 0) ∨ ∃ s, t = s + 1 ∧ many = (cardL (lv p s) : Nat) ∧ s + 1 ≤ cardL (lv p s)) ∧ k = p.length + 1 - t ∧ e = [.shr o, .shr (.dat (.list ((lv p t).map .int))), .shr (oI many), a3, a4, a5, a6, a7, a8]) ?_ fuel (p.length + 1) _ (by unfold fuel; omega) ⟨0, 0, _, _, _, _, _, _, .inl ⟨rfl, rfl⟩, rfl, rfl⟩
    rintro k e ⟨t, many, a3, a4, a5, a6, a7, a8, hm, rfl, rfl⟩
    have cn := card_n hp t
    have cp := card_pos hp t
    have ll := (lv_can hp t).len
    have gs := gSet_ints (lv p t) (by omega)
    have tn : t ≤ p.length := by
      rcases hm with ⟨rfl, _⟩ | ⟨s, rfl, _, h⟩
      · exact Nat.zero_le _
      · have := card_n hp s; omega
    simp only [XR, List.getElem?_cons_zero, List.getElem?_cons_succ, List.set_cons_zero, List.set_cons_succ, List.length_cons, List.length_nil, List.length_map, List.length_range, List.length_append, List.length_set, List.map_cons, List.map_nil, List.replicate_succ, List.replicate_zero, List.cons_append, List.nil_append, List.append_nil, Nat.reduceLeDiff, Nat.reduceLT, Nat.zero_lt_succ, Int.reduceLT, Int.reduceLE, Int.reduceAdd, Int.reduceToNat, Int.cast_ofNat_Int, Int.natCast_zero, Int.natCast_one, Int.reduceEq, Int.reduceNe, Nat.reduceEqDiff, eq_self, beq_self_eq_true, Bool.true_beq, Bool.false_beq, Classical.not_not, Bool.not_eq_false, Int.reduceNeg, Int.reducePow, Option.bind_some, Option.bind_none, Option.map_some, Option.map_none, Option.or_some, Option.or_none, Option.none_or, Option.some_or, Option.or, decide_eq_true_eq, if_true, if_false, ite_true, ite_false, and_true, true_and, Bool.not_eq_true, Bool.not_true, Bool.not_false, Bool.true_eq_false, Bool.false_eq_true, imp_false, not_false_eq_true, not_true_eq_false, forall_const, true_implies, false_implies, reduceCtorEq, Nat.reduceAdd, Nat.reduceSub, Nat.reduceLT, decide_true, decide_false, Bool.or_true, Bool.true_or, Bool.or_false, Bool.false_or, Bool.and_true, Bool.true_and, Bool.and_false, Bool.false_and, and_false, false_and, or_true, true_or, or_false, false_or, not_true, not_false, gs]
    refine ⟨_, rfl, ?_⟩
    by_cases hc : many < (cardL (lv p t) : Nat)
    · rw [if_pos (decide_eq_true hc)]
      have t1 : t + 1 ≤ cardL (lv p t) := by
        rcases hm with ⟨rfl, rfl⟩ | ⟨s, rfl, rfl, h⟩ <;> omega
      have nx : lv p (t + 1) = stepL p (lv p t) := rfl
      generalize hl : lv p t = l at *
      unfold L_grouped_2
      refine wp_gen2 (fun a3 a4 a5 a6 a7 a8 : Sl => .nx [.shr o, .shr (.dat (.list ((stepL p l).map .int))), .shr (oI (cardL l : Nat)), a3, a4, a5, a6, a7, a8]) (fun a3 a4 a5 a6 a7 a8 => ⟨p.length + 1 - (t + 1), by omega, t + 1, _, _, _, _, _, _, _, .inr ⟨t, rfl, rfl, by rw [hl]; exact t1⟩, rfl, by rw [nx, hl]⟩) ?_
      intro Q hQ
      refine wp_seq (fun e => e = [.shr o, .shr (.dat (.list (l.map .int))), .shr (oI (cardL l : Nat)), a3, a4, a5, a6, a7, a8]) ?_ ?_
      · simp only [XR, List.getElem?_cons_zero, List.getElem?_cons_succ, List.set_cons_zero, List.set_cons_succ, List.length_cons, List.length_nil, List.length_map, List.length_range, List.length_append, List.length_set, List.map_cons, List.map_nil, List.replicate_succ, List.replicate_zero, List.cons_append, List.nil_append, List.append_nil, Nat.reduceLeDiff, Nat.reduceLT, Nat.zero_lt_succ, Int.reduceLT, Int.reduceLE, Int.reduceAdd, Int.reduceToNat, Int.cast_ofNat_Int, Int.natCast_zero, Int.natCast_one, Int.reduceEq, Int.reduceNe, Nat.reduceEqDiff, eq_self, beq_self_eq_true, Bool.true_beq, Bool.false_beq, Classical.not_not, Bool.not_eq_false, Int.reduceNeg, Int.reducePow, Option.bind_some, Option.bind_none, Option.map_some, Option.map_none, Option.or_some, Option.or_none, Option.none_or, Option.some_or, Option.or, decide_eq_true_eq, if_true, if_false, ite_true, ite_false, and_true, true_and, Bool.not_eq_true, Bool.not_true, Bool.not_false, Bool.true_eq_false, Bool.false_eq_true, imp_false, not_false_eq_true, not_true_eq_false, forall_const, true_implies, false_implies, reduceCtorEq, Nat.reduceAdd, Nat.reduceSub, Nat.reduceLT, decide_true, decide_false, Bool.or_true, Bool.true_or, Bool.or_false, Bool.false_or, Bool.and_true, Bool.true_and, Bool.and_false, Bool.false_and, and_false, false_and, or_true, true_or, or_false, false_or, not_true, not_false, gs]
        exact ⟨_, rfl, rfl⟩
      rintro e rfl
      refine wp_seq (fun e => e = [.shr o, .shr (.dat (.list (l.map .int))), .shr (oI (cardL l : Nat)), .own (.lst []), a4, a5, a6, a7, a8]) ?_ ?_
      · simp only [XR, List.getElem?_cons_zero, List.getElem?_cons_succ, List.set_cons_zero, List.set_cons_succ, List.length_cons, List.length_nil, List.length_map, List.length_range, List.length_append, List.length_set, List.map_cons, List.map_nil, List.replicate_succ, List.replicate_zero, List.cons_append, List.nil_append, List.append_nil, Nat.reduceLeDiff, Nat.reduceLT, Nat.zero_lt_succ, Int.reduceLT, Int.reduceLE, Int.reduceAdd, Int.reduceToNat, Int.cast_ofNat_Int, Int.natCast_zero, Int.natCast_one, Int.reduceEq, Int.reduceNe, Nat.reduceEqDiff, eq_self, beq_self_eq_true, Bool.true_beq, Bool.false_beq, Classical.not_not, Bool.not_eq_false, Int.reduceNeg, Int.reducePow, Option.bind_some, Option.bind_none, Option.map_some, Option.map_none, Option.or_some, Option.or_none, Option.none_or, Option.some_or, Option.or, decide_eq_true_eq, if_true, if_false, ite_true, ite_false, and_true, true_and, Bool.not_eq_true, Bool.not_true, Bool.not_false, Bool.true_eq_false, Bool.false_eq_true, imp_false, not_false_eq_true, not_true_eq_false, forall_const, true_implies, false_implies, reduceCtorEq, Nat.reduceAdd, Nat.reduceSub, Nat.reduceLT, decide_true, decide_false, Bool.or_true, Bool.true_or, Bool.or_false, Bool.false_or, Bool.and_true, Bool.true_and, Bool.and_false, Bool.false_and, and_false, false_and, or_true, true_or, or_false, false_or, not_true, not_false]
        exact ⟨_, rfl, rfl⟩
      rintro e rfl
      refine wp_seq (fun e => ∃ a4 a5 a6 a7 a8 : Sl, e = [.shr o, .shr (.dat (.list (l.map .int))), .shr (oI (cardL l : Nat)), .own (.lst ((toldK p l).map kyD)), a4, a5, a6, a7, a8]) ?_ ?_
      · have e1 : asL o = some (p.map stopD) := by rcases ho with rfl | rfl <;> rfl
        simp only [XR, List.getElem?_cons_zero, List.getElem?_cons_succ, List.set_cons_zero, List.set_cons_succ, List.length_cons, List.length_nil, List.length_map, List.length_range, List.length_append, List.length_set, List.map_cons, List.map_nil, List.replicate_succ, List.replicate_zero, List.cons_append, List.nil_append, List.append_nil, Nat.reduceLeDiff, Nat.reduceLT, Nat.zero_lt_succ, Int.reduceLT, Int.reduceLE, Int.reduceAdd, Int.reduceToNat, Int.cast_ofNat_Int, Int.natCast_zero, Int.natCast_one, Int.reduceEq, Int.reduceNe, Nat.reduceEqDiff, eq_self, beq_self_eq_true, Bool.true_beq, Bool.false_beq, Classical.not_not, Bool.not_eq_false, Int.reduceNeg, Int.reducePow, Option.bind_some, Option.bind_none, Option.map_some, Option.map_none, Option.or_some, Option.or_none, Option.none_or, Option.some_or, Option.or, decide_eq_true_eq, if_true, if_false, ite_true, ite_false, and_true, true_and, Bool.not_eq_true, Bool.not_true, Bool.not_false, Bool.true_eq_false, Bool.false_eq_true, imp_false, not_false_eq_true, not_true_eq_false, forall_const, true_implies, false_implies, reduceCtorEq, Nat.reduceAdd, Nat.reduceSub, Nat.reduceLT, decide_true, decide_false, Bool.or_true, Bool.true_or, Bool.or_false, Bool.false_or, Bool.and_true, Bool.true_and, Bool.and_false, Bool.false_and, and_false, false_and, or_true, true_or, or_false, false_or, not_true, not_false, e1]
        refine wp_for (fun i e => ∃ a4 a5 a6 a7 a8 : Sl, e = [.shr o, .shr (.dat (.list (l.map .int))), .shr (oI (cardL l : Nat)), .own (.lst (((toldK p l).take i).map kyD)), a4, a5, a6, a7, a8]) ⟨_, _, _, _, _, rfl⟩ ?_ ?_
        · rintro i d e hi ⟨a4, a5, a6, a7, a8, rfl⟩
          rw [List.getElem?_mapIdx, List.getElem?_map] at hi
          obtain ⟨d', hd', rfl⟩ := Option.map_eq_some_iff.mp hi
          obtain ⟨s, hs, rfl⟩ := Option.map_eq_some_iff.mp hd'
          have hi' := (List.getElem?_eq_some_iff.mp hs).1
          have es : s = atS p (i : Nat) := by unfold atS; rw [Int.toNat_natCast, hs]; rfl
          subst es
          simp only [XR, List.getElem?_cons_zero, List.getElem?_cons_succ, List.set_cons_zero, List.set_cons_succ, List.length_cons, List.length_nil, List.length_map, List.length_range, List.length_append, List.length_set, List.map_cons, List.map_nil, List.replicate_succ, List.replicate_zero, List.cons_append, List.nil_append, List.append_nil, Nat.reduceLeDiff, Nat.reduceLT, Nat.zero_lt_succ, Int.reduceLT, Int.reduceLE, Int.reduceAdd, Int.reduceToNat, Int.cast_ofNat_Int, Int.natCast_zero, Int.natCast_one, Int.reduceEq, Int.reduceNe, Nat.reduceEqDiff, eq_self, beq_self_eq_true, Bool.true_beq, Bool.false_beq, Classical.not_not, Bool.not_eq_false, Int.reduceNeg, Int.reducePow, Option.bind_some, Option.bind_none, Option.map_some, Option.map_none, Option.or_some, Option.or_none, Option.none_or, Option.some_or, Option.or, decide_eq_true_eq, if_true, if_false, ite_true, ite_false, and_true, true_and, Bool.not_eq_true, Bool.not_true, Bool.not_false, Bool.true_eq_false, Bool.false_eq_true, imp_false, not_false_eq_true, not_true_eq_false, forall_const, true_implies, false_implies, reduceCtorEq, Nat.reduceAdd, Nat.reduceSub, Nat.reduceLT, decide_true, decide_false, Bool.or_true, Bool.true_or, Bool.or_false, Bool.false_or, Bool.and_true, Bool.true_and, Bool.and_false, Bool.false_and, and_false, false_and, or_true, true_or, or_false, false_or, not_true, not_false]
          refine (told_row hp ll (by rw [List.length_map, List.length_take, told_len]; omega) hi').imp ?_
          rintro out rfl
          rw [List.take_succ, List.map_append, show (toldK p l)[i]? = some (kE p l (i : Nat)) from told_get (i := (i : Nat)) ⟨by omega, by omega⟩]
          exact ⟨_, _, _, _, _, rfl⟩
        · rintro e ⟨a4, a5, a6, a7, a8, rfl⟩
          rw [List.length_mapIdx, List.length_map, List.take_of_length_le (by rw [told_len]; exact Nat.le_refl _)]
          exact ⟨_, rfl, _, _, _, _, _, rfl⟩
      rintro e ⟨a4, a5, a6, a7, a8, rfl⟩
      refine wp_seq (fun e => e = [.shr o, .shr (.dat (.list (l.map .int))), .shr (oI (cardL l : Nat)), .shr (.dat (.list ((toldK p l).map kyD))), a4, a5, a6, a7, a8]) ?_ ?_
      · simp only [XR, List.getElem?_cons_zero, List.getElem?_cons_succ, List.set_cons_zero, List.set_cons_succ, List.length_cons, List.length_nil, List.length_map, List.length_range, List.length_append, List.length_set, List.map_cons, List.map_nil, List.replicate_succ, List.replicate_zero, List.cons_append, List.nil_append, List.append_nil, Nat.reduceLeDiff, Nat.reduceLT, Nat.zero_lt_succ, Int.reduceLT, Int.reduceLE, Int.reduceAdd, Int.reduceToNat, Int.cast_ofNat_Int, Int.natCast_zero, Int.natCast_one, Int.reduceEq, Int.reduceNe, Nat.reduceEqDiff, eq_self, beq_self_eq_true, Bool.true_beq, Bool.false_beq, Classical.not_not, Bool.not_eq_false, Int.reduceNeg, Int.reducePow, Option.bind_some, Option.bind_none, Option.map_some, Option.map_none, Option.or_some, Option.or_none, Option.none_or, Option.some_or, Option.or, decide_eq_true_eq, if_true, if_false, ite_true, ite_false, and_true, true_and, Bool.not_eq_true, Bool.not_true, Bool.not_false, Bool.true_eq_false, Bool.false_eq_true, imp_false, not_false_eq_true, not_true_eq_false, forall_const, true_implies, false_implies, reduceCtorEq, Nat.reduceAdd, Nat.reduceSub, Nat.reduceLT, decide_true, decide_false, Bool.or_true, Bool.true_or, Bool.or_false, Bool.false_or, Bool.and_true, Bool.true_and, Bool.and_false, Bool.false_and, and_false, false_and, or_true, true_or, or_false, false_or, not_true, not_false]
        exact ⟨_, rfl, rfl⟩
      rintro e rfl
      simp only [XR, List.getElem?_cons_zero, List.getElem?_cons_succ, List.set_cons_zero, List.set_cons_succ, List.length_cons, List.length_nil, List.length_map, List.length_range, List.length_append, List.length_set, List.map_cons, List.map_nil, List.replicate_succ, List.replicate_zero, List.cons_append, List.nil_append, List.append_nil, Nat.reduceLeDiff, Nat.reduceLT, Nat.zero_lt_succ, Int.reduceLT, Int.reduceLE, Int.reduceAdd, Int.reduceToNat, Int.cast_ofNat_Int, Int.natCast_zero, Int.natCast_one, Int.reduceEq, Int.reduceNe, Nat.reduceEqDiff, eq_self, beq_self_eq_true, Bool.true_beq, Bool.false_beq, Classical.not_not, Bool.not_eq_false, Int.reduceNeg, Int.reducePow, Option.bind_some, Option.bind_none, Option.map_some, Option.map_none, Option.or_some, Option.or_none, Option.none_or, Option.some_or, Option.or, decide_eq_true_eq, if_true, if_false, ite_true, ite_false, and_true, true_and, Bool.not_eq_true, Bool.not_true, Bool.not_false, Bool.true_eq_false, Bool.false_eq_true, imp_false, not_false_eq_true, not_true_eq_false, forall_const, true_implies, false_implies, reduceCtorEq, Nat.reduceAdd, Nat.reduceSub, Nat.reduceLT, decide_true, decide_false, Bool.or_true, Bool.true_or, Bool.or_false, Bool.false_or, Bool.and_true, Bool.true_and, Bool.and_false, Bool.false_and, and_false, false_and, or_true, true_or, or_false, false_or, not_true, not_false, told_len]
      refine ⟨by omega, lc_map (g := fun k => .int (fst1 (toldK p l) k)) (fun k hk => ?_) ?_⟩
      · simp only [XR, List.getElem?_cons_zero, List.getElem?_cons_succ, List.set_cons_zero, List.set_cons_succ, List.length_cons, List.length_nil, List.length_map, List.length_range, List.length_append, List.length_set, List.map_cons, List.map_nil, List.replicate_succ, List.replicate_zero, List.cons_append, List.nil_append, List.append_nil, Nat.reduceLeDiff, Nat.reduceLT, Nat.zero_lt_succ, Int.reduceLT, Int.reduceLE, Int.reduceAdd, Int.reduceToNat, Int.cast_ofNat_Int, Int.natCast_zero, Int.natCast_one, Int.reduceEq, Int.reduceNe, Nat.reduceEqDiff, eq_self, beq_self_eq_true, Bool.true_beq, Bool.false_beq, Classical.not_not, Bool.not_eq_false, Int.reduceNeg, Int.reducePow, Option.bind_some, Option.bind_none, Option.map_some, Option.map_none, Option.or_some, Option.or_none, Option.none_or, Option.some_or, Option.or, decide_eq_true_eq, if_true, if_false, ite_true, ite_false, and_true, true_and, Bool.not_eq_true, Bool.not_true, Bool.not_false, Bool.true_eq_false, Bool.false_eq_true, imp_false, not_false_eq_true, not_true_eq_false, forall_const, true_implies, false_implies, reduceCtorEq, Nat.reduceAdd, Nat.reduceSub, Nat.reduceLT, decide_true, decide_false, Bool.or_true, Bool.true_or, Bool.or_false, Bool.false_or, Bool.and_true, Bool.true_and, Bool.and_false, Bool.false_and, and_false, false_and, or_true, true_or, or_false, false_or, not_true, not_false, idx_told hp hk]
      · have := hQ (.shr (.dat (.list ((toldK p l).map kyD)))) a4 a5 a6 a7 a8
        unfold stepL at this
        rw [List.map_map] at this
        exact this
    · rw [if_neg (by rw [decide_eq_true_eq]; exact hc)]
      rcases hm with ⟨rfl, rfl⟩ | ⟨s, rfl, rfl, h⟩
      · exact absurd (by omega) hc
      · have e1 := card_eq (lv_can hp s) (lv_can hp (s + 1)) (lv_fines s) (by omega)
        rw [show leastF p = lv p (s + 1) by rw [lv_end (by omega) e1, e1]]
        exact ⟨_, rfl, _, _, _, _, _, _, _, rfl⟩
  · rintro e ⟨a2, a3, a4, a5, a6, a7, a8, rfl⟩
    simp only [XR, List.getElem?_cons_zero, List.getElem?_cons_succ, List.set_cons_zero, List.set_cons_succ, List.length_cons, List.length_nil, List.length_map, List.length_range, List.length_append, List.length_set, List.map_cons, List.map_nil, List.replicate_succ, List.replicate_zero, List.cons_append, List.nil_append, List.append_nil, Nat.reduceLeDiff, Nat.reduceLT, Nat.zero_lt_succ, Int.reduceLT, Int.reduceLE, Int.reduceAdd, Int.reduceToNat, Int.cast_ofNat_Int, Int.natCast_zero, Int.natCast_one, Int.reduceEq, Int.reduceNe, Nat.reduceEqDiff, eq_self, beq_self_eq_true, Bool.true_beq, Bool.false_beq, Classical.not_not, Bool.not_eq_false, Int.reduceNeg, Int.reducePow, Option.bind_some, Option.bind_none, Option.map_some, Option.map_none, Option.or_some, Option.or_none, Option.none_or, Option.some_or, Option.or, decide_eq_true_eq, if_true, if_false, ite_true, ite_false, and_true, true_and, Bool.not_eq_true, Bool.not_true, Bool.not_false, Bool.true_eq_false, Bool.false_eq_true, imp_false, not_false_eq_true, not_true_eq_false, forall_const, true_implies, false_implies, reduceCtorEq, Nat.reduceAdd, Nat.reduceSub, Nat.reduceLT, decide_true, decide_false, Bool.or_true, Bool.true_or, Bool.or_false, Bool.false_or, Bool.and_true, Bool.true_and, Bool.and_false, Bool.false_and, and_false, false_and, or_true, true_or, or_false, false_or, not_true, not_false])
/-! ### small -/
theorem ord_loop {p : List Stop} (hp : PlanOk p) {o : O} {a4 a5 a6 a7 : Sl} {Q : Out → Prop} : ∀ (rs acc : List Int) (a3 : Sl), (∀ i ∈ rs, inN p i) → acc.length + rs.length ≤ 1000 →
    (∀ b3, Q (.nx [.shr o, .shr (.dat (.list ((leastF p).map .int))), .own (.lst ((adds acc (rs.map (L p))).map .int)), b3, a4, a5, a6, a7])) →
    Wp (forL (tgN 3) (L_small_1 M_need_plan M_grouped M_reached) (rs.map .int) [.shr o, .shr (.dat (.list ((leastF p).map .int))), .own (.lst (acc.map .int)), a3, a4, a5, a6, a7]) Q
  | [], acc, a3, _, _, k => ⟨_, rfl, k _⟩
  | i :: rs, acc, a3, hr, hl, k => by
    rw [List.length_cons] at hl
    rw [List.map_cons]
    have hi := hr i List.mem_cons_self
    have gi : ixD (leastF p) i = some (L p i) := ix_lk hi.1 (by rw [(least_can hp).len]; exact hi.2)
    refine wp_forC ?_
    simp only [L_small_1, XR, List.getElem?_cons_zero, List.getElem?_cons_succ, List.set_cons_zero, List.set_cons_succ, List.length_cons, List.length_nil, List.length_map, List.length_range, List.length_append, List.length_set, List.map_cons, List.map_nil, List.replicate_succ, List.replicate_zero, List.cons_append, List.nil_append, List.append_nil, Nat.reduceLeDiff, Nat.reduceLT, Nat.zero_lt_succ, Int.reduceLT, Int.reduceLE, Int.reduceAdd, Int.reduceToNat, Int.cast_ofNat_Int, Int.natCast_zero, Int.natCast_one, Int.reduceEq, Int.reduceNe, Nat.reduceEqDiff, eq_self, beq_self_eq_true, Bool.true_beq, Bool.false_beq, Classical.not_not, Bool.not_eq_false, Int.reduceNeg, Int.reducePow, Option.bind_some, Option.bind_none, Option.map_some, Option.map_none, Option.or_some, Option.or_none, Option.none_or, Option.some_or, Option.or, decide_eq_true_eq, if_true, if_false, ite_true, ite_false, and_true, true_and, Bool.not_eq_true, Bool.not_true, Bool.not_false, Bool.true_eq_false, Bool.false_eq_true, imp_false, not_false_eq_true, not_true_eq_false, forall_const, true_implies, false_implies, reduceCtorEq, Nat.reduceAdd, Nat.reduceSub, Nat.reduceLT, decide_true, decide_false, Bool.or_true, Bool.true_or, Bool.or_false, Bool.false_or, Bool.and_true, Bool.true_and, Bool.and_false, Bool.false_and, and_false, false_and, or_true, true_or, or_false, false_or, not_true, not_false, gi, nin_l]
    by_cases m : L p i ∈ acc
    · rw [decide_eq_true m]
      simp only [XR, List.getElem?_cons_zero, List.getElem?_cons_succ, List.set_cons_zero, List.set_cons_succ, List.length_cons, List.length_nil, List.length_map, List.length_range, List.length_append, List.length_set, List.map_cons, List.map_nil, List.replicate_succ, List.replicate_zero, List.cons_append, List.nil_append, List.append_nil, Nat.reduceLeDiff, Nat.reduceLT, Nat.zero_lt_succ, Int.reduceLT, Int.reduceLE, Int.reduceAdd, Int.reduceToNat, Int.cast_ofNat_Int, Int.natCast_zero, Int.natCast_one, Int.reduceEq, Int.reduceNe, Nat.reduceEqDiff, eq_self, beq_self_eq_true, Bool.true_beq, Bool.false_beq, Classical.not_not, Bool.not_eq_false, Int.reduceNeg, Int.reducePow, Option.bind_some, Option.bind_none, Option.map_some, Option.map_none, Option.or_some, Option.or_none, Option.none_or, Option.some_or, Option.or, decide_eq_true_eq, if_true, if_false, ite_true, ite_false, and_true, true_and, Bool.not_eq_true, Bool.not_true, Bool.not_false, Bool.true_eq_false, Bool.false_eq_true, imp_false, not_false_eq_true, not_true_eq_false, forall_const, true_implies, false_implies, reduceCtorEq, Nat.reduceAdd, Nat.reduceSub, Nat.reduceLT, decide_true, decide_false, Bool.or_true, Bool.true_or, Bool.or_false, Bool.false_or, Bool.and_true, Bool.true_and, Bool.and_false, Bool.false_and, and_false, false_and, or_true, true_or, or_false, false_or, not_true, not_false]
      refine ⟨_, rfl, ord_loop hp rs acc _ (fun j hj => hr j (List.mem_cons_of_mem _ hj)) (by omega) fun b3 => ?_⟩
      have := k b3
      rwa [List.map_cons, adds_in m] at this
    · rw [decide_eq_false m]
      simp only [XR, List.getElem?_cons_zero, List.getElem?_cons_succ, List.set_cons_zero, List.set_cons_succ, List.length_cons, List.length_nil, List.length_map, List.length_range, List.length_append, List.length_set, List.map_cons, List.map_nil, List.replicate_succ, List.replicate_zero, List.cons_append, List.nil_append, List.append_nil, Nat.reduceLeDiff, Nat.reduceLT, Nat.zero_lt_succ, Int.reduceLT, Int.reduceLE, Int.reduceAdd, Int.reduceToNat, Int.cast_ofNat_Int, Int.natCast_zero, Int.natCast_one, Int.reduceEq, Int.reduceNe, Nat.reduceEqDiff, eq_self, beq_self_eq_true, Bool.true_beq, Bool.false_beq, Classical.not_not, Bool.not_eq_false, Int.reduceNeg, Int.reducePow, Option.bind_some, Option.bind_none, Option.map_some, Option.map_none, Option.or_some, Option.or_none, Option.none_or, Option.some_or, Option.or, decide_eq_true_eq, if_true, if_false, ite_true, ite_false, and_true, true_and, Bool.not_eq_true, Bool.not_true, Bool.not_false, Bool.true_eq_false, Bool.false_eq_true, imp_false, not_false_eq_true, not_true_eq_false, forall_const, true_implies, false_implies, reduceCtorEq, Nat.reduceAdd, Nat.reduceSub, Nat.reduceLT, decide_true, decide_false, Bool.or_true, Bool.true_or, Bool.or_false, Bool.false_or, Bool.and_true, Bool.true_and, Bool.and_false, Bool.false_and, and_false, false_and, or_true, true_or, or_false, false_or, not_true, not_false]
      refine ⟨by omega, _, rfl, ?_⟩
      have := ord_loop hp (o := o) (a4 := a4) (a5 := a5) (a6 := a6) (a7 := a7) (Q := Q) rs (acc ++ [L p i]) (.shr (oI i)) (fun j hj => hr j (List.mem_cons_of_mem _ hj)) (by rw [List.length_append, List.length_singleton]; omega) fun b3 => by
        have := k b3
        rwa [List.map_cons, adds_out m] at this
      rw [List.map_append] at this
      exact this
theorem small_row {p : List Stop} (hp : PlanOk p) {o : O} (ho : isP p o) {x : Int} (hx : x ∈ ordF p) {found : List D} (hf : found.length ≤ 1000) {a5 a6 a7 : Sl} :
    Wp (L_small_2 M_need_plan M_grouped M_reached [.shr o, .shr (.dat (.list ((leastF p).map .int))), .shr (.dat (.list ((ordF p).map .int))), .shr (oI x), .own (.lst found), a5, a6, a7]) fun out => ∃ b5 b6 b7 : Sl, out = .nx [.shr o, .shr (.dat (.list ((leastF p).map .int))), .shr (.dat (.list ((ordF p).map .int))), .shr (oI x), .own (.lst (found ++ [stopD (mapS (phi p) (atS p x))])), b5, b6, b7] := by
  obtain ⟨xi, xl⟩ := ord_in hp hx
  have gx := ix_p ho xi
  have w6 := ways6 hp xi
  have win := ways_in hp xi
  have cl := ord_clo hp xi (by rw [xl]; exact hx)
  unfold L_small_2
  refine wp_seq (fun e => e = [.shr o, .shr (.dat (.list ((leastF p).map .int))), .shr (.dat (.list ((ordF p).map .int))), .shr (oI x), .own (.lst found), .shr (.dat (stopD (atS p x))), a6, a7]) ?_ ?_
  · simp only [XR, List.getElem?_cons_zero, List.getElem?_cons_succ, List.set_cons_zero, List.set_cons_succ, List.length_cons, List.length_nil, List.length_map, List.length_range, List.length_append, List.length_set, List.map_cons, List.map_nil, List.replicate_succ, List.replicate_zero, List.cons_append, List.nil_append, List.append_nil, Nat.reduceLeDiff, Nat.reduceLT, Nat.zero_lt_succ, Int.reduceLT, Int.reduceLE, Int.reduceAdd, Int.reduceToNat, Int.cast_ofNat_Int, Int.natCast_zero, Int.natCast_one, Int.reduceEq, Int.reduceNe, Nat.reduceEqDiff, eq_self, beq_self_eq_true, Bool.true_beq, Bool.false_beq, Classical.not_not, Bool.not_eq_false, Int.reduceNeg, Int.reducePow, Option.bind_some, Option.bind_none, Option.map_some, Option.map_none, Option.or_some, Option.or_none, Option.none_or, Option.some_or, Option.or, decide_eq_true_eq, if_true, if_false, ite_true, ite_false, and_true, true_and, Bool.not_eq_true, Bool.not_true, Bool.not_false, Bool.true_eq_false, Bool.false_eq_true, imp_false, not_false_eq_true, not_true_eq_false, forall_const, true_implies, false_implies, reduceCtorEq, Nat.reduceAdd, Nat.reduceSub, Nat.reduceLT, decide_true, decide_false, Bool.or_true, Bool.true_or, Bool.or_false, Bool.false_or, Bool.and_true, Bool.true_and, Bool.and_false, Bool.false_and, and_false, false_and, or_true, true_or, or_false, false_or, not_true, not_false, gx]
    exact ⟨_, rfl, rfl⟩
  rintro e rfl
  cases e : atS p x with
  | fin =>
    simp only [XR, List.getElem?_cons_zero, List.getElem?_cons_succ, List.set_cons_zero, List.set_cons_succ, List.length_cons, List.length_nil, List.length_map, List.length_range, List.length_append, List.length_set, List.map_cons, List.map_nil, List.replicate_succ, List.replicate_zero, List.cons_append, List.nil_append, List.append_nil, Nat.reduceLeDiff, Nat.reduceLT, Nat.zero_lt_succ, Int.reduceLT, Int.reduceLE, Int.reduceAdd, Int.reduceToNat, Int.cast_ofNat_Int, Int.natCast_zero, Int.natCast_one, Int.reduceEq, Int.reduceNe, Nat.reduceEqDiff, eq_self, beq_self_eq_true, Bool.true_beq, Bool.false_beq, Classical.not_not, Bool.not_eq_false, Int.reduceNeg, Int.reducePow, Option.bind_some, Option.bind_none, Option.map_some, Option.map_none, Option.or_some, Option.or_none, Option.none_or, Option.some_or, Option.or, decide_eq_true_eq, if_true, if_false, ite_true, ite_false, and_true, true_and, Bool.not_eq_true, Bool.not_true, Bool.not_false, Bool.true_eq_false, Bool.false_eq_true, imp_false, not_false_eq_true, not_true_eq_false, forall_const, true_implies, false_implies, reduceCtorEq, Nat.reduceAdd, Nat.reduceSub, Nat.reduceLT, decide_true, decide_false, Bool.or_true, Bool.true_or, Bool.or_false, Bool.false_or, Bool.and_true, Bool.true_and, Bool.and_false, Bool.false_and, and_false, false_and, or_true, true_or, or_false, false_or, not_true, not_false, head_any, hd_end]
    simp only [kindS, XR, List.getElem?_cons_zero, List.getElem?_cons_succ, List.set_cons_zero, List.set_cons_succ, List.length_cons, List.length_nil, List.length_map, List.length_range, List.length_append, List.length_set, List.map_cons, List.map_nil, List.replicate_succ, List.replicate_zero, List.cons_append, List.nil_append, List.append_nil, Nat.reduceLeDiff, Nat.reduceLT, Nat.zero_lt_succ, Int.reduceLT, Int.reduceLE, Int.reduceAdd, Int.reduceToNat, Int.cast_ofNat_Int, Int.natCast_zero, Int.natCast_one, Int.reduceEq, Int.reduceNe, Nat.reduceEqDiff, eq_self, beq_self_eq_true, Bool.true_beq, Bool.false_beq, Classical.not_not, Bool.not_eq_false, Int.reduceNeg, Int.reducePow, Option.bind_some, Option.bind_none, Option.map_some, Option.map_none, Option.or_some, Option.or_none, Option.none_or, Option.some_or, Option.or, decide_eq_true_eq, if_true, if_false, ite_true, ite_false, and_true, true_and, Bool.not_eq_true, Bool.not_true, Bool.not_false, Bool.true_eq_false, Bool.false_eq_true, imp_false, not_false_eq_true, not_true_eq_false, forall_const, true_implies, false_implies, reduceCtorEq, Nat.reduceAdd, Nat.reduceSub, Nat.reduceLT, decide_true, decide_false, Bool.or_true, Bool.true_or, Bool.or_false, Bool.false_or, Bool.and_true, Bool.true_and, Bool.and_false, Bool.false_and, and_false, false_and, or_true, true_or, or_false, false_or, not_true, not_false]
    exact ⟨by omega, _, _, _, rfl⟩
  | act b ws =>
    rw [e] at w6 win cl
    simp only [XR, List.getElem?_cons_zero, List.getElem?_cons_succ, List.set_cons_zero, List.set_cons_succ, List.length_cons, List.length_nil, List.length_map, List.length_range, List.length_append, List.length_set, List.map_cons, List.map_nil, List.replicate_succ, List.replicate_zero, List.cons_append, List.nil_append, List.append_nil, Nat.reduceLeDiff, Nat.reduceLT, Nat.zero_lt_succ, Int.reduceLT, Int.reduceLE, Int.reduceAdd, Int.reduceToNat, Int.cast_ofNat_Int, Int.natCast_zero, Int.natCast_one, Int.reduceEq, Int.reduceNe, Nat.reduceEqDiff, eq_self, beq_self_eq_true, Bool.true_beq, Bool.false_beq, Classical.not_not, Bool.not_eq_false, Int.reduceNeg, Int.reducePow, Option.bind_some, Option.bind_none, Option.map_some, Option.map_none, Option.or_some, Option.or_none, Option.none_or, Option.some_or, Option.or, decide_eq_true_eq, if_true, if_false, ite_true, ite_false, and_true, true_and, Bool.not_eq_true, Bool.not_true, Bool.not_false, Bool.true_eq_false, Bool.false_eq_true, imp_false, not_false_eq_true, not_true_eq_false, forall_const, true_implies, false_implies, reduceCtorEq, Nat.reduceAdd, Nat.reduceSub, Nat.reduceLT, decide_true, decide_false, Bool.or_true, Bool.true_or, Bool.or_false, Bool.false_or, Bool.and_true, Bool.true_and, Bool.and_false, Bool.false_and, and_false, false_and, or_true, true_or, or_false, false_or, not_true, not_false, head_any, hd_end]
    simp only [kindS, XR, List.getElem?_cons_zero, List.getElem?_cons_succ, List.set_cons_zero, List.set_cons_succ, List.length_cons, List.length_nil, List.length_map, List.length_range, List.length_append, List.length_set, List.map_cons, List.map_nil, List.replicate_succ, List.replicate_zero, List.cons_append, List.nil_append, List.append_nil, Nat.reduceLeDiff, Nat.reduceLT, Nat.zero_lt_succ, Int.reduceLT, Int.reduceLE, Int.reduceAdd, Int.reduceToNat, Int.cast_ofNat_Int, Int.natCast_zero, Int.natCast_one, Int.reduceEq, Int.reduceNe, Nat.reduceEqDiff, eq_self, beq_self_eq_true, Bool.true_beq, Bool.false_beq, Classical.not_not, Bool.not_eq_false, Int.reduceNeg, Int.reducePow, Option.bind_some, Option.bind_none, Option.map_some, Option.map_none, Option.or_some, Option.or_none, Option.none_or, Option.some_or, Option.or, decide_eq_true_eq, if_true, if_false, ite_true, ite_false, and_true, true_and, Bool.not_eq_true, Bool.not_true, Bool.not_false, Bool.true_eq_false, Bool.false_eq_true, imp_false, not_false_eq_true, not_true_eq_false, forall_const, true_implies, false_implies, reduceCtorEq, Nat.reduceAdd, Nat.reduceSub, Nat.reduceLT, decide_true, decide_false, Bool.or_true, Bool.true_or, Bool.or_false, Bool.false_or, Bool.and_true, Bool.true_and, Bool.and_false, Bool.false_and, and_false, false_and, or_true, true_or, or_false, false_or, not_true, not_false, act_ways]
    have w6 : ws.length ≤ 6 := w6
    refine ⟨by omega, lc_map (g := fun u => wayD (u.1, phi p u.2)) (fun u hu => ?_) ?_⟩
    · have ui := (win u hu).2
      have gi : ixD (leastF p) u.2 = some (L p u.2) := ix_lk ui.1 (by rw [(least_can hp).len]; exact ui.2)
      simp only [wayD, XR, List.getElem?_cons_zero, List.getElem?_cons_succ, List.set_cons_zero, List.set_cons_succ, List.length_cons, List.length_nil, List.length_map, List.length_range, List.length_append, List.length_set, List.map_cons, List.map_nil, List.replicate_succ, List.replicate_zero, List.cons_append, List.nil_append, List.append_nil, Nat.reduceLeDiff, Nat.reduceLT, Nat.zero_lt_succ, Int.reduceLT, Int.reduceLE, Int.reduceAdd, Int.reduceToNat, Int.cast_ofNat_Int, Int.natCast_zero, Int.natCast_one, Int.reduceEq, Int.reduceNe, Nat.reduceEqDiff, eq_self, beq_self_eq_true, Bool.true_beq, Bool.false_beq, Classical.not_not, Bool.not_eq_false, Int.reduceNeg, Int.reducePow, Option.bind_some, Option.bind_none, Option.map_some, Option.map_none, Option.or_some, Option.or_none, Option.none_or, Option.some_or, Option.or, decide_eq_true_eq, if_true, if_false, ite_true, ite_false, and_true, true_and, Bool.not_eq_true, Bool.not_true, Bool.not_false, Bool.true_eq_false, Bool.false_eq_true, imp_false, not_false_eq_true, not_true_eq_false, forall_const, true_implies, false_implies, reduceCtorEq, Nat.reduceAdd, Nat.reduceSub, Nat.reduceLT, decide_true, decide_false, Bool.or_true, Bool.true_or, Bool.or_false, Bool.false_or, Bool.and_true, Bool.true_and, Bool.and_false, Bool.false_and, and_false, false_and, or_true, true_or, or_false, false_or, not_true, not_false, gi, idx_l (.inr rfl) (cl u hu)]
      rfl
    · have e9 : stopD (mapS (phi p) (.act b ws)) = .tuple [hdD (.act b ws), .tuple (ws.map fun u => wayD (u.1, phi p u.2))] := by
        simp only [mapS, stopD, List.map_map, hdD]
        rfl
      rw [e9]
      exact ⟨by omega, _, _, _, rfl⟩
theorem small_ok {p : List Stop} {o : O} (ho : isP p o) (hp : PlanOk p) : M_small [o] = some (.lst ((smF p).map stopD)) := Wp.eq (by
  have n12 := hp.l12
  have ol := (ord_len hp).2
  have rl := rch_len hp p.length
  rw [M_small, wp_runB, B_small]
  refine wp_seq (fun e => e = [.shr o, .un, .un, .un, .un, .un, .un, .un]) ?_ ?_
  · simp only [XR, List.getElem?_cons_zero, List.getElem?_cons_succ, List.set_cons_zero, List.set_cons_succ, List.length_cons, List.length_nil, List.length_map, List.length_range, List.length_append, List.length_set, List.map_cons, List.map_nil, List.replicate_succ, List.replicate_zero, List.cons_append, List.nil_append, List.append_nil, Nat.reduceLeDiff, Nat.reduceLT, Nat.zero_lt_succ, Int.reduceLT, Int.reduceLE, Int.reduceAdd, Int.reduceToNat, Int.cast_ofNat_Int, Int.natCast_zero, Int.natCast_one, Int.reduceEq, Int.reduceNe, Nat.reduceEqDiff, eq_self, beq_self_eq_true, Bool.true_beq, Bool.false_beq, Classical.not_not, Bool.not_eq_false, Int.reduceNeg, Int.reducePow, Option.bind_some, Option.bind_none, Option.map_some, Option.map_none, Option.or_some, Option.or_none, Option.none_or, Option.some_or, Option.or, decide_eq_true_eq, if_true, if_false, ite_true, ite_false, and_true, true_and, Bool.not_eq_true, Bool.not_true, Bool.not_false, Bool.true_eq_false, Bool.false_eq_true, imp_false, not_false_eq_true, not_true_eq_false, forall_const, true_implies, false_implies, reduceCtorEq, Nat.reduceAdd, Nat.reduceSub, Nat.reduceLT, decide_true, decide_false, Bool.or_true, Bool.true_or, Bool.or_false, Bool.false_or, Bool.and_true, Bool.true_and, Bool.and_false, Bool.false_and, and_false, false_and, or_true, true_or, or_false, false_or, not_true, not_false, need_plan_ok ho hp]
    exact ⟨_, rfl, rfl⟩
  rintro e rfl
  refine wp_seq (fun e => e = [.shr o, .shr (.dat (.list ((leastF p).map .int))), .un, .un, .un, .un, .un, .un]) ?_ ?_
  · simp only [XR, List.getElem?_cons_zero, List.getElem?_cons_succ, List.set_cons_zero, List.set_cons_succ, List.length_cons, List.length_nil, List.length_map, List.length_range, List.length_append, List.length_set, List.map_cons, List.map_nil, List.replicate_succ, List.replicate_zero, List.cons_append, List.nil_append, List.append_nil, Nat.reduceLeDiff, Nat.reduceLT, Nat.zero_lt_succ, Int.reduceLT, Int.reduceLE, Int.reduceAdd, Int.reduceToNat, Int.cast_ofNat_Int, Int.natCast_zero, Int.natCast_one, Int.reduceEq, Int.reduceNe, Nat.reduceEqDiff, eq_self, beq_self_eq_true, Bool.true_beq, Bool.false_beq, Classical.not_not, Bool.not_eq_false, Int.reduceNeg, Int.reducePow, Option.bind_some, Option.bind_none, Option.map_some, Option.map_none, Option.or_some, Option.or_none, Option.none_or, Option.some_or, Option.or, decide_eq_true_eq, if_true, if_false, ite_true, ite_false, and_true, true_and, Bool.not_eq_true, Bool.not_true, Bool.not_false, Bool.true_eq_false, Bool.false_eq_true, imp_false, not_false_eq_true, not_true_eq_false, forall_const, true_implies, false_implies, reduceCtorEq, Nat.reduceAdd, Nat.reduceSub, Nat.reduceLT, decide_true, decide_false, Bool.or_true, Bool.true_or, Bool.or_false, Bool.false_or, Bool.and_true, Bool.true_and, Bool.and_false, Bool.false_and, and_false, false_and, or_true, true_or, or_false, false_or, not_true, not_false, grouped_ok ho hp]
    exact ⟨_, rfl, rfl⟩
  rintro e rfl
  refine wp_seq (fun e => e = [.shr o, .shr (.dat (.list ((leastF p).map .int))), .own (.lst []), .un, .un, .un, .un, .un]) ?_ ?_
  · simp only [XR, List.getElem?_cons_zero, List.getElem?_cons_succ, List.set_cons_zero, List.set_cons_succ, List.length_cons, List.length_nil, List.length_map, List.length_range, List.length_append, List.length_set, List.map_cons, List.map_nil, List.replicate_succ, List.replicate_zero, List.cons_append, List.nil_append, List.append_nil, Nat.reduceLeDiff, Nat.reduceLT, Nat.zero_lt_succ, Int.reduceLT, Int.reduceLE, Int.reduceAdd, Int.reduceToNat, Int.cast_ofNat_Int, Int.natCast_zero, Int.natCast_one, Int.reduceEq, Int.reduceNe, Nat.reduceEqDiff, eq_self, beq_self_eq_true, Bool.true_beq, Bool.false_beq, Classical.not_not, Bool.not_eq_false, Int.reduceNeg, Int.reducePow, Option.bind_some, Option.bind_none, Option.map_some, Option.map_none, Option.or_some, Option.or_none, Option.none_or, Option.some_or, Option.or, decide_eq_true_eq, if_true, if_false, ite_true, ite_false, and_true, true_and, Bool.not_eq_true, Bool.not_true, Bool.not_false, Bool.true_eq_false, Bool.false_eq_true, imp_false, not_false_eq_true, not_true_eq_false, forall_const, true_implies, false_implies, reduceCtorEq, Nat.reduceAdd, Nat.reduceSub, Nat.reduceLT, decide_true, decide_false, Bool.or_true, Bool.true_or, Bool.or_false, Bool.false_or, Bool.and_true, Bool.true_and, Bool.and_false, Bool.false_and, and_false, false_and, or_true, true_or, or_false, false_or, not_true, not_false]
    exact ⟨_, rfl, rfl⟩
  rintro e rfl
  refine wp_seq (fun e => ∃ a3, e = [.shr o, .shr (.dat (.list ((leastF p).map .int))), .own (.lst ((ordF p).map .int)), a3, .un, .un, .un, .un]) ?_ ?_
  · simp only [XR, List.getElem?_cons_zero, List.getElem?_cons_succ, List.set_cons_zero, List.set_cons_succ, List.length_cons, List.length_nil, List.length_map, List.length_range, List.length_append, List.length_set, List.map_cons, List.map_nil, List.replicate_succ, List.replicate_zero, List.cons_append, List.nil_append, List.append_nil, Nat.reduceLeDiff, Nat.reduceLT, Nat.zero_lt_succ, Int.reduceLT, Int.reduceLE, Int.reduceAdd, Int.reduceToNat, Int.cast_ofNat_Int, Int.natCast_zero, Int.natCast_one, Int.reduceEq, Int.reduceNe, Nat.reduceEqDiff, eq_self, beq_self_eq_true, Bool.true_beq, Bool.false_beq, Classical.not_not, Bool.not_eq_false, Int.reduceNeg, Int.reducePow, Option.bind_some, Option.bind_none, Option.map_some, Option.map_none, Option.or_some, Option.or_none, Option.none_or, Option.some_or, Option.or, decide_eq_true_eq, if_true, if_false, ite_true, ite_false, and_true, true_and, Bool.not_eq_true, Bool.not_true, Bool.not_false, Bool.true_eq_false, Bool.false_eq_true, imp_false, not_false_eq_true, not_true_eq_false, forall_const, true_implies, false_implies, reduceCtorEq, Nat.reduceAdd, Nat.reduceSub, Nat.reduceLT, decide_true, decide_false, Bool.or_true, Bool.true_or, Bool.or_false, Bool.false_or, Bool.and_true, Bool.true_and, Bool.and_false, Bool.false_and, and_false, false_and, or_true, true_or, or_false, false_or, not_true, not_false, reached_ok ho hp]
    exact ord_loop hp (rchF p) [] _ (fun i hi => rchF_in hp hi) (by show 0 + (rch p p.length).length ≤ 1000; omega) fun b3 => ⟨_, rfl, b3, rfl⟩
  rintro e ⟨a3, rfl⟩
  refine wp_seq (fun e => e = [.shr o, .shr (.dat (.list ((leastF p).map .int))), .own (.lst ((ordF p).map .int)), a3, .own (.lst []), .un, .un, .un]) ?_ ?_
  · simp only [XR, List.getElem?_cons_zero, List.getElem?_cons_succ, List.set_cons_zero, List.set_cons_succ, List.length_cons, List.length_nil, List.length_map, List.length_range, List.length_append, List.length_set, List.map_cons, List.map_nil, List.replicate_succ, List.replicate_zero, List.cons_append, List.nil_append, List.append_nil, Nat.reduceLeDiff, Nat.reduceLT, Nat.zero_lt_succ, Int.reduceLT, Int.reduceLE, Int.reduceAdd, Int.reduceToNat, Int.cast_ofNat_Int, Int.natCast_zero, Int.natCast_one, Int.reduceEq, Int.reduceNe, Nat.reduceEqDiff, eq_self, beq_self_eq_true, Bool.true_beq, Bool.false_beq, Classical.not_not, Bool.not_eq_false, Int.reduceNeg, Int.reducePow, Option.bind_some, Option.bind_none, Option.map_some, Option.map_none, Option.or_some, Option.or_none, Option.none_or, Option.some_or, Option.or, decide_eq_true_eq, if_true, if_false, ite_true, ite_false, and_true, true_and, Bool.not_eq_true, Bool.not_true, Bool.not_false, Bool.true_eq_false, Bool.false_eq_true, imp_false, not_false_eq_true, not_true_eq_false, forall_const, true_implies, false_implies, reduceCtorEq, Nat.reduceAdd, Nat.reduceSub, Nat.reduceLT, decide_true, decide_false, Bool.or_true, Bool.true_or, Bool.or_false, Bool.false_or, Bool.and_true, Bool.true_and, Bool.and_false, Bool.false_and, and_false, false_and, or_true, true_or, or_false, false_or, not_true, not_false]
    exact ⟨_, rfl, rfl⟩
  rintro e rfl
  refine wp_seq (fun e => e = [.shr o, .shr (.dat (.list ((leastF p).map .int))), .shr (.dat (.list ((ordF p).map .int))), a3, .own (.lst []), .un, .un, .un]) ?_ ?_
  · simp only [XR, List.getElem?_cons_zero, List.getElem?_cons_succ, List.set_cons_zero, List.set_cons_succ, List.length_cons, List.length_nil, List.length_map, List.length_range, List.length_append, List.length_set, List.map_cons, List.map_nil, List.replicate_succ, List.replicate_zero, List.cons_append, List.nil_append, List.append_nil, Nat.reduceLeDiff, Nat.reduceLT, Nat.zero_lt_succ, Int.reduceLT, Int.reduceLE, Int.reduceAdd, Int.reduceToNat, Int.cast_ofNat_Int, Int.natCast_zero, Int.natCast_one, Int.reduceEq, Int.reduceNe, Nat.reduceEqDiff, eq_self, beq_self_eq_true, Bool.true_beq, Bool.false_beq, Classical.not_not, Bool.not_eq_false, Int.reduceNeg, Int.reducePow, Option.bind_some, Option.bind_none, Option.map_some, Option.map_none, Option.or_some, Option.or_none, Option.none_or, Option.some_or, Option.or, decide_eq_true_eq, if_true, if_false, ite_true, ite_false, and_true, true_and, Bool.not_eq_true, Bool.not_true, Bool.not_false, Bool.true_eq_false, Bool.false_eq_true, imp_false, not_false_eq_true, not_true_eq_false, forall_const, true_implies, false_implies, reduceCtorEq, Nat.reduceAdd, Nat.reduceSub, Nat.reduceLT, decide_true, decide_false, Bool.or_true, Bool.true_or, Bool.or_false, Bool.false_or, Bool.and_true, Bool.true_and, Bool.and_false, Bool.false_and, and_false, false_and, or_true, true_or, or_false, false_or, not_true, not_false]
    exact ⟨_, rfl, rfl⟩
  rintro e rfl
  refine wp_seq (fun e => ∃ a3 a5 a6 a7 : Sl, e = [.shr o, .shr (.dat (.list ((leastF p).map .int))), .shr (.dat (.list ((ordF p).map .int))), a3, .own (.lst ((smF p).map stopD)), a5, a6, a7]) ?_ ?_
  · simp only [XR, List.getElem?_cons_zero, List.getElem?_cons_succ, List.set_cons_zero, List.set_cons_succ, List.length_cons, List.length_nil, List.length_map, List.length_range, List.length_append, List.length_set, List.map_cons, List.map_nil, List.replicate_succ, List.replicate_zero, List.cons_append, List.nil_append, List.append_nil, Nat.reduceLeDiff, Nat.reduceLT, Nat.zero_lt_succ, Int.reduceLT, Int.reduceLE, Int.reduceAdd, Int.reduceToNat, Int.cast_ofNat_Int, Int.natCast_zero, Int.natCast_one, Int.reduceEq, Int.reduceNe, Nat.reduceEqDiff, eq_self, beq_self_eq_true, Bool.true_beq, Bool.false_beq, Classical.not_not, Bool.not_eq_false, Int.reduceNeg, Int.reducePow, Option.bind_some, Option.bind_none, Option.map_some, Option.map_none, Option.or_some, Option.or_none, Option.none_or, Option.some_or, Option.or, decide_eq_true_eq, if_true, if_false, ite_true, ite_false, and_true, true_and, Bool.not_eq_true, Bool.not_true, Bool.not_false, Bool.true_eq_false, Bool.false_eq_true, imp_false, not_false_eq_true, not_true_eq_false, forall_const, true_implies, false_implies, reduceCtorEq, Nat.reduceAdd, Nat.reduceSub, Nat.reduceLT, decide_true, decide_false, Bool.or_true, Bool.true_or, Bool.or_false, Bool.false_or, Bool.and_true, Bool.true_and, Bool.and_false, Bool.false_and, and_false, false_and, or_true, true_or, or_false, false_or, not_true, not_false]
    refine wp_for (fun i e => ∃ a3 a5 a6 a7 : Sl, e = [.shr o, .shr (.dat (.list ((leastF p).map .int))), .shr (.dat (.list ((ordF p).map .int))), a3, .own (.lst (((ordF p).take i).map fun a => stopD (mapS (phi p) (atS p a)))), a5, a6, a7]) ⟨_, _, _, _, rfl⟩ ?_ ?_
    · rintro i d e hi ⟨a3, a5, a6, a7, rfl⟩
      rw [List.getElem?_map] at hi
      obtain ⟨x, hx, rfl⟩ := Option.map_eq_some_iff.mp hi
      simp only [XR, List.getElem?_cons_zero, List.getElem?_cons_succ, List.set_cons_zero, List.set_cons_succ, List.length_cons, List.length_nil, List.length_map, List.length_range, List.length_append, List.length_set, List.map_cons, List.map_nil, List.replicate_succ, List.replicate_zero, List.cons_append, List.nil_append, List.append_nil, Nat.reduceLeDiff, Nat.reduceLT, Nat.zero_lt_succ, Int.reduceLT, Int.reduceLE, Int.reduceAdd, Int.reduceToNat, Int.cast_ofNat_Int, Int.natCast_zero, Int.natCast_one, Int.reduceEq, Int.reduceNe, Nat.reduceEqDiff, eq_self, beq_self_eq_true, Bool.true_beq, Bool.false_beq, Classical.not_not, Bool.not_eq_false, Int.reduceNeg, Int.reducePow, Option.bind_some, Option.bind_none, Option.map_some, Option.map_none, Option.or_some, Option.or_none, Option.none_or, Option.some_or, Option.or, decide_eq_true_eq, if_true, if_false, ite_true, ite_false, and_true, true_and, Bool.not_eq_true, Bool.not_true, Bool.not_false, Bool.true_eq_false, Bool.false_eq_true, imp_false, not_false_eq_true, not_true_eq_false, forall_const, true_implies, false_implies, reduceCtorEq, Nat.reduceAdd, Nat.reduceSub, Nat.reduceLT, decide_true, decide_false, Bool.or_true, Bool.true_or, Bool.or_false, Bool.false_or, Bool.and_true, Bool.true_and, Bool.and_false, Bool.false_and, and_false, false_and, or_true, true_or, or_false, false_or, not_true, not_false]
      refine (small_row hp ho (List.mem_of_getElem? hx) (by rw [List.length_map, List.length_take]; omega)).imp ?_
      rintro out ⟨b5, b6, b7, rfl⟩
      rw [List.take_succ, List.map_append, hx]
      exact ⟨_, _, _, _, rfl⟩
    · rintro e ⟨a3, a5, a6, a7, rfl⟩
      rw [List.length_map, List.take_of_length_le (Nat.le_refl _)]
      unfold smF
      rw [List.map_map]
      exact ⟨_, rfl, _, _, _, _, rfl⟩
  rintro e ⟨a3, a5, a6, a7, rfl⟩
  simp only [XR, List.getElem?_cons_zero, List.getElem?_cons_succ, List.set_cons_zero, List.set_cons_succ, List.length_cons, List.length_nil, List.length_map, List.length_range, List.length_append, List.length_set, List.map_cons, List.map_nil, List.replicate_succ, List.replicate_zero, List.cons_append, List.nil_append, List.append_nil, Nat.reduceLeDiff, Nat.reduceLT, Nat.zero_lt_succ, Int.reduceLT, Int.reduceLE, Int.reduceAdd, Int.reduceToNat, Int.cast_ofNat_Int, Int.natCast_zero, Int.natCast_one, Int.reduceEq, Int.reduceNe, Nat.reduceEqDiff, eq_self, beq_self_eq_true, Bool.true_beq, Bool.false_beq, Classical.not_not, Bool.not_eq_false, Int.reduceNeg, Int.reducePow, Option.bind_some, Option.bind_none, Option.map_some, Option.map_none, Option.or_some, Option.or_none, Option.none_or, Option.some_or, Option.or, decide_eq_true_eq, if_true, if_false, ite_true, ite_false, and_true, true_and, Bool.not_eq_true, Bool.not_true, Bool.not_false, Bool.true_eq_false, Bool.false_eq_true, imp_false, not_false_eq_true, not_true_eq_false, forall_const, true_implies, false_implies, reduceCtorEq, Nat.reduceAdd, Nat.reduceSub, Nat.reduceLT, decide_true, decide_false, Bool.or_true, Bool.true_or, Bool.or_false, Bool.false_or, Bool.and_true, Bool.true_and, Bool.and_false, Bool.false_and, and_false, false_and, or_true, true_or, or_false, false_or, not_true, not_false])
end TP

namespace TP
open PySem PySem.Spec PyProof.Rows L2
theorem notin3 {s : Stop} : (gIx (.dat (stopD s)) (oI 0)).bind (fun x => gNotInA x (.dat (.tuple [.str "end", .str "send", .str "get"]))) = some (oB false) := by
  cases s with
  | fin => rfl
  | act b l => cases b <;> rfl
theorem stop_t (s : Stop) : isT "tuple" (stopD s) = true := by unfold isT; cases s <;> rfl
theorem stop_n (s : Stop) : notDict (stopD s) = true := by cases s <;> rfl
theorem is_plan_row {m : Int} {s : Stop} {o : O} {a2 a3 : Sl} (y1 : gLen o = some (oI m)) (hs : StopOk m s) : Wp (L_law_is_plan_1 [.shr o, .shr (.dat (stopD s)), a2, a3]) fun out => ∃ a2 a3, out = .nx [.shr o, .shr (.dat (stopD s)), a2, a3] := by
  have n3 := notin3 (s := s)
  have hw := hs.okWs
  unfold L_law_is_plan_1
  refine wp_seq (fun e => e = [.shr o, .shr (.dat (stopD s)), a2, a3]) ?_ ?_
  · cases s with
    | fin =>
      simp only [XR, List.getElem?_cons_zero, List.getElem?_cons_succ, List.set_cons_zero, List.set_cons_succ, List.length_cons, List.length_nil, List.length_map, List.length_range, List.length_append, List.length_set, List.map_cons, List.map_nil, List.replicate_succ, List.replicate_zero, List.cons_append, List.nil_append, List.append_nil, Nat.reduceLeDiff, Nat.reduceLT, Nat.zero_lt_succ, Int.reduceLT, Int.reduceLE, Int.reduceAdd, Int.reduceToNat, Int.cast_ofNat_Int, Int.natCast_zero, Int.natCast_one, Int.reduceEq, Int.reduceNe, Nat.reduceEqDiff, eq_self, beq_self_eq_true, Bool.true_beq, Bool.false_beq, Classical.not_not, Bool.not_eq_false, Int.reduceNeg, Int.reducePow, Option.bind_some, Option.bind_none, Option.map_some, Option.map_none, Option.or_some, Option.or_none, Option.none_or, Option.some_or, Option.or, decide_eq_true_eq, if_true, if_false, ite_true, ite_false, and_true, true_and, Bool.not_eq_true, Bool.not_true, Bool.not_false, Bool.true_eq_false, Bool.false_eq_true, imp_false, not_false_eq_true, not_true_eq_false, forall_const, true_implies, false_implies, reduceCtorEq, Nat.reduceAdd, Nat.reduceSub, Nat.reduceLT, decide_true, decide_false, Bool.or_true, Bool.true_or, Bool.or_false, Bool.false_or, Bool.and_true, Bool.true_and, Bool.and_false, Bool.false_and, and_false, false_and, or_true, true_or, or_false, false_or, not_true, not_false, stop_n, stop_t, fin_head]
      rw [show gNotInA (oS "end") (.dat (.tuple [.str "end", .str "send", .str "get"])) = some (oB false) from rfl]
      simp only [XR, List.getElem?_cons_zero, List.getElem?_cons_succ, List.set_cons_zero, List.set_cons_succ, List.length_cons, List.length_nil, List.length_map, List.length_range, List.length_append, List.length_set, List.map_cons, List.map_nil, List.replicate_succ, List.replicate_zero, List.cons_append, List.nil_append, List.append_nil, Nat.reduceLeDiff, Nat.reduceLT, Nat.zero_lt_succ, Int.reduceLT, Int.reduceLE, Int.reduceAdd, Int.reduceToNat, Int.cast_ofNat_Int, Int.natCast_zero, Int.natCast_one, Int.reduceEq, Int.reduceNe, Nat.reduceEqDiff, eq_self, beq_self_eq_true, Bool.true_beq, Bool.false_beq, Classical.not_not, Bool.not_eq_false, Int.reduceNeg, Int.reducePow, Option.bind_some, Option.bind_none, Option.map_some, Option.map_none, Option.or_some, Option.or_none, Option.none_or, Option.some_or, Option.or, decide_eq_true_eq, if_true, if_false, ite_true, ite_false, and_true, true_and, Bool.not_eq_true, Bool.not_true, Bool.not_false, Bool.true_eq_false, Bool.false_eq_true, imp_false, not_false_eq_true, not_true_eq_false, forall_const, true_implies, false_implies, reduceCtorEq, Nat.reduceAdd, Nat.reduceSub, Nat.reduceLT, decide_true, decide_false, Bool.or_true, Bool.true_or, Bool.or_false, Bool.false_or, Bool.and_true, Bool.true_and, Bool.and_false, Bool.false_and, and_false, false_and, or_true, true_or, or_false, false_or, not_true, not_false]
      exact ⟨_, rfl, rfl⟩
    | act b l =>
      simp only [XR, List.getElem?_cons_zero, List.getElem?_cons_succ, List.set_cons_zero, List.set_cons_succ, List.length_cons, List.length_nil, List.length_map, List.length_range, List.length_append, List.length_set, List.map_cons, List.map_nil, List.replicate_succ, List.replicate_zero, List.cons_append, List.nil_append, List.append_nil, Nat.reduceLeDiff, Nat.reduceLT, Nat.zero_lt_succ, Int.reduceLT, Int.reduceLE, Int.reduceAdd, Int.reduceToNat, Int.cast_ofNat_Int, Int.natCast_zero, Int.natCast_one, Int.reduceEq, Int.reduceNe, Nat.reduceEqDiff, eq_self, beq_self_eq_true, Bool.true_beq, Bool.false_beq, Classical.not_not, Bool.not_eq_false, Int.reduceNeg, Int.reducePow, Option.bind_some, Option.bind_none, Option.map_some, Option.map_none, Option.or_some, Option.or_none, Option.none_or, Option.some_or, Option.or, decide_eq_true_eq, if_true, if_false, ite_true, ite_false, and_true, true_and, Bool.not_eq_true, Bool.not_true, Bool.not_false, Bool.true_eq_false, Bool.false_eq_true, imp_false, not_false_eq_true, not_true_eq_false, forall_const, true_implies, false_implies, reduceCtorEq, Nat.reduceAdd, Nat.reduceSub, Nat.reduceLT, decide_true, decide_false, Bool.or_true, Bool.true_or, Bool.or_false, Bool.false_or, Bool.and_true, Bool.true_and, Bool.and_false, Bool.false_and, and_false, false_and, or_true, true_or, or_false, false_or, not_true, not_false, stop_n, stop_t, act_head]
      rw [show gNotInA (.dat (kindD b)) (.dat (.tuple [.str "end", .str "send", .str "get"])) = some (oB false) by cases b <;> rfl]
      simp only [XR, List.getElem?_cons_zero, List.getElem?_cons_succ, List.set_cons_zero, List.set_cons_succ, List.length_cons, List.length_nil, List.length_map, List.length_range, List.length_append, List.length_set, List.map_cons, List.map_nil, List.replicate_succ, List.replicate_zero, List.cons_append, List.nil_append, List.append_nil, Nat.reduceLeDiff, Nat.reduceLT, Nat.zero_lt_succ, Int.reduceLT, Int.reduceLE, Int.reduceAdd, Int.reduceToNat, Int.cast_ofNat_Int, Int.natCast_zero, Int.natCast_one, Int.reduceEq, Int.reduceNe, Nat.reduceEqDiff, eq_self, beq_self_eq_true, Bool.true_beq, Bool.false_beq, Classical.not_not, Bool.not_eq_false, Int.reduceNeg, Int.reducePow, Option.bind_some, Option.bind_none, Option.map_some, Option.map_none, Option.or_some, Option.or_none, Option.none_or, Option.some_or, Option.or, decide_eq_true_eq, if_true, if_false, ite_true, ite_false, and_true, true_and, Bool.not_eq_true, Bool.not_true, Bool.not_false, Bool.true_eq_false, Bool.false_eq_true, imp_false, not_false_eq_true, not_true_eq_false, forall_const, true_implies, false_implies, reduceCtorEq, Nat.reduceAdd, Nat.reduceSub, Nat.reduceLT, decide_true, decide_false, Bool.or_true, Bool.true_or, Bool.or_false, Bool.false_or, Bool.and_true, Bool.true_and, Bool.and_false, Bool.false_and, and_false, false_and, or_true, true_or, or_false, false_or, not_true, not_false]
      exact ⟨_, rfl, rfl⟩
  rintro e rfl
  refine wp_seq (fun e => e = [.shr o, .shr (.dat (stopD s)), a2, a3]) ?_ ?_
  · cases s with
    | fin =>
      simp only [XR, List.getElem?_cons_zero, List.getElem?_cons_succ, List.set_cons_zero, List.set_cons_succ, List.length_cons, List.length_nil, List.length_map, List.length_range, List.length_append, List.length_set, List.map_cons, List.map_nil, List.replicate_succ, List.replicate_zero, List.cons_append, List.nil_append, List.append_nil, Nat.reduceLeDiff, Nat.reduceLT, Nat.zero_lt_succ, Int.reduceLT, Int.reduceLE, Int.reduceAdd, Int.reduceToNat, Int.cast_ofNat_Int, Int.natCast_zero, Int.natCast_one, Int.reduceEq, Int.reduceNe, Nat.reduceEqDiff, eq_self, beq_self_eq_true, Bool.true_beq, Bool.false_beq, Classical.not_not, Bool.not_eq_false, Int.reduceNeg, Int.reducePow, Option.bind_some, Option.bind_none, Option.map_some, Option.map_none, Option.or_some, Option.or_none, Option.none_or, Option.some_or, Option.or, decide_eq_true_eq, if_true, if_false, ite_true, ite_false, and_true, true_and, Bool.not_eq_true, Bool.not_true, Bool.not_false, Bool.true_eq_false, Bool.false_eq_true, imp_false, not_false_eq_true, not_true_eq_false, forall_const, true_implies, false_implies, reduceCtorEq, Nat.reduceAdd, Nat.reduceSub, Nat.reduceLT, decide_true, decide_false, Bool.or_true, Bool.true_or, Bool.or_false, Bool.false_or, Bool.and_true, Bool.true_and, Bool.and_false, Bool.false_and, and_false, false_and, or_true, true_or, or_false, false_or, not_true, not_false, fin_head]
      rw [show gLen (.dat (stopD .fin)) = some (oI 1) from rfl, wp_some, show gNe (oI 1) (oI (2 - 1)) = some (oB false) from rfl]
      simp only [XR, List.getElem?_cons_zero, List.getElem?_cons_succ, List.set_cons_zero, List.set_cons_succ, List.length_cons, List.length_nil, List.length_map, List.length_range, List.length_append, List.length_set, List.map_cons, List.map_nil, List.replicate_succ, List.replicate_zero, List.cons_append, List.nil_append, List.append_nil, Nat.reduceLeDiff, Nat.reduceLT, Nat.zero_lt_succ, Int.reduceLT, Int.reduceLE, Int.reduceAdd, Int.reduceToNat, Int.cast_ofNat_Int, Int.natCast_zero, Int.natCast_one, Int.reduceEq, Int.reduceNe, Nat.reduceEqDiff, eq_self, beq_self_eq_true, Bool.true_beq, Bool.false_beq, Classical.not_not, Bool.not_eq_false, Int.reduceNeg, Int.reducePow, Option.bind_some, Option.bind_none, Option.map_some, Option.map_none, Option.or_some, Option.or_none, Option.none_or, Option.some_or, Option.or, decide_eq_true_eq, if_true, if_false, ite_true, ite_false, and_true, true_and, Bool.not_eq_true, Bool.not_true, Bool.not_false, Bool.true_eq_false, Bool.false_eq_true, imp_false, not_false_eq_true, not_true_eq_false, forall_const, true_implies, false_implies, reduceCtorEq, Nat.reduceAdd, Nat.reduceSub, Nat.reduceLT, decide_true, decide_false, Bool.or_true, Bool.true_or, Bool.or_false, Bool.false_or, Bool.and_true, Bool.true_and, Bool.and_false, Bool.false_and, and_false, false_and, or_true, true_or, or_false, false_or, not_true, not_false]
      exact ⟨_, rfl, rfl⟩
    | act b l =>
      simp only [XR, List.getElem?_cons_zero, List.getElem?_cons_succ, List.set_cons_zero, List.set_cons_succ, List.length_cons, List.length_nil, List.length_map, List.length_range, List.length_append, List.length_set, List.map_cons, List.map_nil, List.replicate_succ, List.replicate_zero, List.cons_append, List.nil_append, List.append_nil, Nat.reduceLeDiff, Nat.reduceLT, Nat.zero_lt_succ, Int.reduceLT, Int.reduceLE, Int.reduceAdd, Int.reduceToNat, Int.cast_ofNat_Int, Int.natCast_zero, Int.natCast_one, Int.reduceEq, Int.reduceNe, Nat.reduceEqDiff, eq_self, beq_self_eq_true, Bool.true_beq, Bool.false_beq, Classical.not_not, Bool.not_eq_false, Int.reduceNeg, Int.reducePow, Option.bind_some, Option.bind_none, Option.map_some, Option.map_none, Option.or_some, Option.or_none, Option.none_or, Option.some_or, Option.or, decide_eq_true_eq, if_true, if_false, ite_true, ite_false, and_true, true_and, Bool.not_eq_true, Bool.not_true, Bool.not_false, Bool.true_eq_false, Bool.false_eq_true, imp_false, not_false_eq_true, not_true_eq_false, forall_const, true_implies, false_implies, reduceCtorEq, Nat.reduceAdd, Nat.reduceSub, Nat.reduceLT, decide_true, decide_false, Bool.or_true, Bool.true_or, Bool.or_false, Bool.false_or, Bool.and_true, Bool.true_and, Bool.and_false, Bool.false_and, and_false, false_and, or_true, true_or, or_false, false_or, not_true, not_false, act_head, kind_end]
      rw [show gLen (.dat (stopD (.act b l))) = some (oI 2) from rfl, wp_some, show gNe (oI 2) (oI (2 - 0)) = some (oB false) from rfl]
      simp only [XR, List.getElem?_cons_zero, List.getElem?_cons_succ, List.set_cons_zero, List.set_cons_succ, List.length_cons, List.length_nil, List.length_map, List.length_range, List.length_append, List.length_set, List.map_cons, List.map_nil, List.replicate_succ, List.replicate_zero, List.cons_append, List.nil_append, List.append_nil, Nat.reduceLeDiff, Nat.reduceLT, Nat.zero_lt_succ, Int.reduceLT, Int.reduceLE, Int.reduceAdd, Int.reduceToNat, Int.cast_ofNat_Int, Int.natCast_zero, Int.natCast_one, Int.reduceEq, Int.reduceNe, Nat.reduceEqDiff, eq_self, beq_self_eq_true, Bool.true_beq, Bool.false_beq, Classical.not_not, Bool.not_eq_false, Int.reduceNeg, Int.reducePow, Option.bind_some, Option.bind_none, Option.map_some, Option.map_none, Option.or_some, Option.or_none, Option.none_or, Option.some_or, Option.or, decide_eq_true_eq, if_true, if_false, ite_true, ite_false, and_true, true_and, Bool.not_eq_true, Bool.not_true, Bool.not_false, Bool.true_eq_false, Bool.false_eq_true, imp_false, not_false_eq_true, not_true_eq_false, forall_const, true_implies, false_implies, reduceCtorEq, Nat.reduceAdd, Nat.reduceSub, Nat.reduceLT, decide_true, decide_false, Bool.or_true, Bool.true_or, Bool.or_false, Bool.false_or, Bool.and_true, Bool.true_and, Bool.and_false, Bool.false_and, and_false, false_and, or_true, true_or, or_false, false_or, not_true, not_false]
      exact ⟨_, rfl, rfl⟩
  rintro e rfl
  refine wp_seq (fun e => e = [.shr o, .shr (.dat (stopD s)), .shr (.dat (.tuple ((waysS s).map wayD))), a3]) ?_ ?_
  · cases s with
    | fin =>
      simp only [XR, List.getElem?_cons_zero, List.getElem?_cons_succ, List.set_cons_zero, List.set_cons_succ, List.length_cons, List.length_nil, List.length_map, List.length_range, List.length_append, List.length_set, List.map_cons, List.map_nil, List.replicate_succ, List.replicate_zero, List.cons_append, List.nil_append, List.append_nil, Nat.reduceLeDiff, Nat.reduceLT, Nat.zero_lt_succ, Int.reduceLT, Int.reduceLE, Int.reduceAdd, Int.reduceToNat, Int.cast_ofNat_Int, Int.natCast_zero, Int.natCast_one, Int.reduceEq, Int.reduceNe, Nat.reduceEqDiff, eq_self, beq_self_eq_true, Bool.true_beq, Bool.false_beq, Classical.not_not, Bool.not_eq_false, Int.reduceNeg, Int.reducePow, Option.bind_some, Option.bind_none, Option.map_some, Option.map_none, Option.or_some, Option.or_none, Option.none_or, Option.some_or, Option.or, decide_eq_true_eq, if_true, if_false, ite_true, ite_false, and_true, true_and, Bool.not_eq_true, Bool.not_true, Bool.not_false, Bool.true_eq_false, Bool.false_eq_true, imp_false, not_false_eq_true, not_true_eq_false, forall_const, true_implies, false_implies, reduceCtorEq, Nat.reduceAdd, Nat.reduceSub, Nat.reduceLT, decide_true, decide_false, Bool.or_true, Bool.true_or, Bool.or_false, Bool.false_or, Bool.and_true, Bool.true_and, Bool.and_false, Bool.false_and, and_false, false_and, or_true, true_or, or_false, false_or, not_true, not_false, fin_head, waysS]
      exact ⟨_, rfl, rfl⟩
    | act b l =>
      simp only [XR, List.getElem?_cons_zero, List.getElem?_cons_succ, List.set_cons_zero, List.set_cons_succ, List.length_cons, List.length_nil, List.length_map, List.length_range, List.length_append, List.length_set, List.map_cons, List.map_nil, List.replicate_succ, List.replicate_zero, List.cons_append, List.nil_append, List.append_nil, Nat.reduceLeDiff, Nat.reduceLT, Nat.zero_lt_succ, Int.reduceLT, Int.reduceLE, Int.reduceAdd, Int.reduceToNat, Int.cast_ofNat_Int, Int.natCast_zero, Int.natCast_one, Int.reduceEq, Int.reduceNe, Nat.reduceEqDiff, eq_self, beq_self_eq_true, Bool.true_beq, Bool.false_beq, Classical.not_not, Bool.not_eq_false, Int.reduceNeg, Int.reducePow, Option.bind_some, Option.bind_none, Option.map_some, Option.map_none, Option.or_some, Option.or_none, Option.none_or, Option.some_or, Option.or, decide_eq_true_eq, if_true, if_false, ite_true, ite_false, and_true, true_and, Bool.not_eq_true, Bool.not_true, Bool.not_false, Bool.true_eq_false, Bool.false_eq_true, imp_false, not_false_eq_true, not_true_eq_false, forall_const, true_implies, false_implies, reduceCtorEq, Nat.reduceAdd, Nat.reduceSub, Nat.reduceLT, decide_true, decide_false, Bool.or_true, Bool.true_or, Bool.or_false, Bool.false_or, Bool.and_true, Bool.true_and, Bool.and_false, Bool.false_and, and_false, false_and, or_true, true_or, or_false, false_or, not_true, not_false, act_head, act_ways, waysS]
      rw [show gNe (.dat (kindD b)) (oS "end") = some (oB true) by cases b <;> rfl]
      simp only [XR, List.getElem?_cons_zero, List.getElem?_cons_succ, List.set_cons_zero, List.set_cons_succ, List.length_cons, List.length_nil, List.length_map, List.length_range, List.length_append, List.length_set, List.map_cons, List.map_nil, List.replicate_succ, List.replicate_zero, List.cons_append, List.nil_append, List.append_nil, Nat.reduceLeDiff, Nat.reduceLT, Nat.zero_lt_succ, Int.reduceLT, Int.reduceLE, Int.reduceAdd, Int.reduceToNat, Int.cast_ofNat_Int, Int.natCast_zero, Int.natCast_one, Int.reduceEq, Int.reduceNe, Nat.reduceEqDiff, eq_self, beq_self_eq_true, Bool.true_beq, Bool.false_beq, Classical.not_not, Bool.not_eq_false, Int.reduceNeg, Int.reducePow, Option.bind_some, Option.bind_none, Option.map_some, Option.map_none, Option.or_some, Option.or_none, Option.none_or, Option.some_or, Option.or, decide_eq_true_eq, if_true, if_false, ite_true, ite_false, and_true, true_and, Bool.not_eq_true, Bool.not_true, Bool.not_false, Bool.true_eq_false, Bool.false_eq_true, imp_false, not_false_eq_true, not_true_eq_false, forall_const, true_implies, false_implies, reduceCtorEq, Nat.reduceAdd, Nat.reduceSub, Nat.reduceLT, decide_true, decide_false, Bool.or_true, Bool.true_or, Bool.or_false, Bool.false_or, Bool.and_true, Bool.true_and, Bool.and_false, Bool.false_and, and_false, false_and, or_true, true_or, or_false, false_or, not_true, not_false]
      exact ⟨_, rfl, rfl⟩
  rintro e rfl
  have l6 : (waysS s).length ≤ 6 := by
    cases s with
    | fin => exact Nat.zero_le _
    | act b l => exact hs.l6
  have rng : ∀ u ∈ waysS s, 0 ≤ u.2 ∧ u.2 < m := by
    cases s with
    | fin => intro u hu; cases hu
    | act b l => exact fun u hu => hs.ok u hu |>.2
  have so : ((waysS s).map (·.1)).Pairwise wLt := by
    cases s with
    | fin => exact .nil
    | act b l => exact List.pairwise_map.mpr hs.so
  have hok : ∀ x ∈ (waysS s).map (·.1), wOk x := fun x hx => by
    obtain ⟨u, hu, rfl⟩ := List.mem_map.mp hx
    exact hw.2 u hu
  generalize waysS s = ws at hw l6 rng so hok ⊢
  generalize stopD s = sd
  refine wp_seq (fun e => e = [.shr o, .shr (.dat sd), .shr (.dat (.tuple (ws.map wayD))), a3]) ?_ ?_
  · simp only [XR, List.getElem?_cons_zero, List.getElem?_cons_succ, List.set_cons_zero, List.set_cons_succ, List.length_cons, List.length_nil, List.length_map, List.length_range, List.length_append, List.length_set, List.map_cons, List.map_nil, List.replicate_succ, List.replicate_zero, List.cons_append, List.nil_append, List.append_nil, Nat.reduceLeDiff, Nat.reduceLT, Nat.zero_lt_succ, Int.reduceLT, Int.reduceLE, Int.reduceAdd, Int.reduceToNat, Int.cast_ofNat_Int, Int.natCast_zero, Int.natCast_one, Int.reduceEq, Int.reduceNe, Nat.reduceEqDiff, eq_self, beq_self_eq_true, Bool.true_beq, Bool.false_beq, Classical.not_not, Bool.not_eq_false, Int.reduceNeg, Int.reducePow, Option.bind_some, Option.bind_none, Option.map_some, Option.map_none, Option.or_some, Option.or_none, Option.none_or, Option.some_or, Option.or, decide_eq_true_eq, if_true, if_false, ite_true, ite_false, and_true, true_and, Bool.not_eq_true, Bool.not_true, Bool.not_false, Bool.true_eq_false, Bool.false_eq_true, imp_false, not_false_eq_true, not_true_eq_false, forall_const, true_implies, false_implies, reduceCtorEq, Nat.reduceAdd, Nat.reduceSub, Nat.reduceLT, decide_true, decide_false, Bool.or_true, Bool.true_or, Bool.or_false, Bool.false_or, Bool.and_true, Bool.true_and, Bool.and_false, Bool.false_and, and_false, false_and, or_true, true_or, or_false, false_or, not_true, not_false]
    refine ⟨by omega, lc_none (fun u m => ?_) ?_⟩
    · simp only [XR, List.getElem?_cons_zero, List.getElem?_cons_succ, List.set_cons_zero, List.set_cons_succ, List.length_cons, List.length_nil, List.length_map, List.length_range, List.length_append, List.length_set, List.map_cons, List.map_nil, List.replicate_succ, List.replicate_zero, List.cons_append, List.nil_append, List.append_nil, Nat.reduceLeDiff, Nat.reduceLT, Nat.zero_lt_succ, Int.reduceLT, Int.reduceLE, Int.reduceAdd, Int.reduceToNat, Int.cast_ofNat_Int, Int.natCast_zero, Int.natCast_one, Int.reduceEq, Int.reduceNe, Nat.reduceEqDiff, eq_self, beq_self_eq_true, Bool.true_beq, Bool.false_beq, Classical.not_not, Bool.not_eq_false, Int.reduceNeg, Int.reducePow, Option.bind_some, Option.bind_none, Option.map_some, Option.map_none, Option.or_some, Option.or_none, Option.none_or, Option.some_or, Option.or, decide_eq_true_eq, if_true, if_false, ite_true, ite_false, and_true, true_and, Bool.not_eq_true, Bool.not_true, Bool.not_false, Bool.true_eq_false, Bool.false_eq_true, imp_false, not_false_eq_true, not_true_eq_false, forall_const, true_implies, false_implies, reduceCtorEq, Nat.reduceAdd, Nat.reduceSub, Nat.reduceLT, decide_true, decide_false, Bool.or_true, Bool.true_or, Bool.or_false, Bool.false_or, Bool.and_true, Bool.true_and, Bool.and_false, Bool.false_and, and_false, false_and, or_true, true_or, or_false, false_or, not_true, not_false, way_n, way_t]
    · simp only [XR, List.getElem?_cons_zero, List.getElem?_cons_succ, List.set_cons_zero, List.set_cons_succ, List.length_cons, List.length_nil, List.length_map, List.length_range, List.length_append, List.length_set, List.map_cons, List.map_nil, List.replicate_succ, List.replicate_zero, List.cons_append, List.nil_append, List.append_nil, Nat.reduceLeDiff, Nat.reduceLT, Nat.zero_lt_succ, Int.reduceLT, Int.reduceLE, Int.reduceAdd, Int.reduceToNat, Int.cast_ofNat_Int, Int.natCast_zero, Int.natCast_one, Int.reduceEq, Int.reduceNe, Nat.reduceEqDiff, eq_self, beq_self_eq_true, Bool.true_beq, Bool.false_beq, Classical.not_not, Bool.not_eq_false, Int.reduceNeg, Int.reducePow, Option.bind_some, Option.bind_none, Option.map_some, Option.map_none, Option.or_some, Option.or_none, Option.none_or, Option.some_or, Option.or, decide_eq_true_eq, if_true, if_false, ite_true, ite_false, and_true, true_and, Bool.not_eq_true, Bool.not_true, Bool.not_false, Bool.true_eq_false, Bool.false_eq_true, imp_false, not_false_eq_true, not_true_eq_false, forall_const, true_implies, false_implies, reduceCtorEq, Nat.reduceAdd, Nat.reduceSub, Nat.reduceLT, decide_true, decide_false, Bool.or_true, Bool.true_or, Bool.or_false, Bool.false_or, Bool.and_true, Bool.true_and, Bool.and_false, Bool.false_and, and_false, false_and, or_true, true_or, or_false, false_or, not_true, not_false]
      exact ⟨_, rfl, rfl⟩
  rintro e rfl
  refine wp_seq (fun e => e = [.shr o, .shr (.dat sd), .shr (.dat (.tuple (ws.map wayD))), a3]) ?_ ?_
  · simp only [XR, List.getElem?_cons_zero, List.getElem?_cons_succ, List.set_cons_zero, List.set_cons_succ, List.length_cons, List.length_nil, List.length_map, List.length_range, List.length_append, List.length_set, List.map_cons, List.map_nil, List.replicate_succ, List.replicate_zero, List.cons_append, List.nil_append, List.append_nil, Nat.reduceLeDiff, Nat.reduceLT, Nat.zero_lt_succ, Int.reduceLT, Int.reduceLE, Int.reduceAdd, Int.reduceToNat, Int.cast_ofNat_Int, Int.natCast_zero, Int.natCast_one, Int.reduceEq, Int.reduceNe, Nat.reduceEqDiff, eq_self, beq_self_eq_true, Bool.true_beq, Bool.false_beq, Classical.not_not, Bool.not_eq_false, Int.reduceNeg, Int.reducePow, Option.bind_some, Option.bind_none, Option.map_some, Option.map_none, Option.or_some, Option.or_none, Option.none_or, Option.some_or, Option.or, decide_eq_true_eq, if_true, if_false, ite_true, ite_false, and_true, true_and, Bool.not_eq_true, Bool.not_true, Bool.not_false, Bool.true_eq_false, Bool.false_eq_true, imp_false, not_false_eq_true, not_true_eq_false, forall_const, true_implies, false_implies, reduceCtorEq, Nat.reduceAdd, Nat.reduceSub, Nat.reduceLT, decide_true, decide_false, Bool.or_true, Bool.true_or, Bool.or_false, Bool.false_or, Bool.and_true, Bool.true_and, Bool.and_false, Bool.false_and, and_false, false_and, or_true, true_or, or_false, false_or, not_true, not_false]
    refine ⟨by omega, lc_none (fun u m => ?_) ?_⟩
    · simp only [XR, List.getElem?_cons_zero, List.getElem?_cons_succ, List.set_cons_zero, List.set_cons_succ, List.length_cons, List.length_nil, List.length_map, List.length_range, List.length_append, List.length_set, List.map_cons, List.map_nil, List.replicate_succ, List.replicate_zero, List.cons_append, List.nil_append, List.append_nil, Nat.reduceLeDiff, Nat.reduceLT, Nat.zero_lt_succ, Int.reduceLT, Int.reduceLE, Int.reduceAdd, Int.reduceToNat, Int.cast_ofNat_Int, Int.natCast_zero, Int.natCast_one, Int.reduceEq, Int.reduceNe, Nat.reduceEqDiff, eq_self, beq_self_eq_true, Bool.true_beq, Bool.false_beq, Classical.not_not, Bool.not_eq_false, Int.reduceNeg, Int.reducePow, Option.bind_some, Option.bind_none, Option.map_some, Option.map_none, Option.or_some, Option.or_none, Option.none_or, Option.some_or, Option.or, decide_eq_true_eq, if_true, if_false, ite_true, ite_false, and_true, true_and, Bool.not_eq_true, Bool.not_true, Bool.not_false, Bool.true_eq_false, Bool.false_eq_true, imp_false, not_false_eq_true, not_true_eq_false, forall_const, true_implies, false_implies, reduceCtorEq, Nat.reduceAdd, Nat.reduceSub, Nat.reduceLT, decide_true, decide_false, Bool.or_true, Bool.true_or, Bool.or_false, Bool.false_or, Bool.and_true, Bool.true_and, Bool.and_false, Bool.false_and, and_false, false_and, or_true, true_or, or_false, false_or, not_true, not_false, way_l]
    · simp only [XR, List.getElem?_cons_zero, List.getElem?_cons_succ, List.set_cons_zero, List.set_cons_succ, List.length_cons, List.length_nil, List.length_map, List.length_range, List.length_append, List.length_set, List.map_cons, List.map_nil, List.replicate_succ, List.replicate_zero, List.cons_append, List.nil_append, List.append_nil, Nat.reduceLeDiff, Nat.reduceLT, Nat.zero_lt_succ, Int.reduceLT, Int.reduceLE, Int.reduceAdd, Int.reduceToNat, Int.cast_ofNat_Int, Int.natCast_zero, Int.natCast_one, Int.reduceEq, Int.reduceNe, Nat.reduceEqDiff, eq_self, beq_self_eq_true, Bool.true_beq, Bool.false_beq, Classical.not_not, Bool.not_eq_false, Int.reduceNeg, Int.reducePow, Option.bind_some, Option.bind_none, Option.map_some, Option.map_none, Option.or_some, Option.or_none, Option.none_or, Option.some_or, Option.or, decide_eq_true_eq, if_true, if_false, ite_true, ite_false, and_true, true_and, Bool.not_eq_true, Bool.not_true, Bool.not_false, Bool.true_eq_false, Bool.false_eq_true, imp_false, not_false_eq_true, not_true_eq_false, forall_const, true_implies, false_implies, reduceCtorEq, Nat.reduceAdd, Nat.reduceSub, Nat.reduceLT, decide_true, decide_false, Bool.or_true, Bool.true_or, Bool.or_false, Bool.false_or, Bool.and_true, Bool.true_and, Bool.and_false, Bool.false_and, and_false, false_and, or_true, true_or, or_false, false_or, not_true, not_false]
      exact ⟨_, rfl, rfl⟩
  rintro e rfl
  refine wp_seq (fun e => e = [.shr o, .shr (.dat sd), .shr (.dat (.tuple (ws.map wayD))), a3]) ?_ ?_
  · simp only [XR, List.getElem?_cons_zero, List.getElem?_cons_succ, List.set_cons_zero, List.set_cons_succ, List.length_cons, List.length_nil, List.length_map, List.length_range, List.length_append, List.length_set, List.map_cons, List.map_nil, List.replicate_succ, List.replicate_zero, List.cons_append, List.nil_append, List.append_nil, Nat.reduceLeDiff, Nat.reduceLT, Nat.zero_lt_succ, Int.reduceLT, Int.reduceLE, Int.reduceAdd, Int.reduceToNat, Int.cast_ofNat_Int, Int.natCast_zero, Int.natCast_one, Int.reduceEq, Int.reduceNe, Nat.reduceEqDiff, eq_self, beq_self_eq_true, Bool.true_beq, Bool.false_beq, Classical.not_not, Bool.not_eq_false, Int.reduceNeg, Int.reducePow, Option.bind_some, Option.bind_none, Option.map_some, Option.map_none, Option.or_some, Option.or_none, Option.none_or, Option.some_or, Option.or, decide_eq_true_eq, if_true, if_false, ite_true, ite_false, and_true, true_and, Bool.not_eq_true, Bool.not_true, Bool.not_false, Bool.true_eq_false, Bool.false_eq_true, imp_false, not_false_eq_true, not_true_eq_false, forall_const, true_implies, false_implies, reduceCtorEq, Nat.reduceAdd, Nat.reduceSub, Nat.reduceLT, decide_true, decide_false, Bool.or_true, Bool.true_or, Bool.or_false, Bool.false_or, Bool.and_true, Bool.true_and, Bool.and_false, Bool.false_and, and_false, false_and, or_true, true_or, or_false, false_or, not_true, not_false]
    refine ⟨by omega, lc_none (fun u m => ?_) ?_⟩
    · simp only [XR, List.getElem?_cons_zero, List.getElem?_cons_succ, List.set_cons_zero, List.set_cons_succ, List.length_cons, List.length_nil, List.length_map, List.length_range, List.length_append, List.length_set, List.map_cons, List.map_nil, List.replicate_succ, List.replicate_zero, List.cons_append, List.nil_append, List.append_nil, Nat.reduceLeDiff, Nat.reduceLT, Nat.zero_lt_succ, Int.reduceLT, Int.reduceLE, Int.reduceAdd, Int.reduceToNat, Int.cast_ofNat_Int, Int.natCast_zero, Int.natCast_one, Int.reduceEq, Int.reduceNe, Nat.reduceEqDiff, eq_self, beq_self_eq_true, Bool.true_beq, Bool.false_beq, Classical.not_not, Bool.not_eq_false, Int.reduceNeg, Int.reducePow, Option.bind_some, Option.bind_none, Option.map_some, Option.map_none, Option.or_some, Option.or_none, Option.none_or, Option.some_or, Option.or, decide_eq_true_eq, if_true, if_false, ite_true, ite_false, and_true, true_and, Bool.not_eq_true, Bool.not_true, Bool.not_false, Bool.true_eq_false, Bool.false_eq_true, imp_false, not_false_eq_true, not_true_eq_false, forall_const, true_implies, false_implies, reduceCtorEq, Nat.reduceAdd, Nat.reduceSub, Nat.reduceLT, decide_true, decide_false, Bool.or_true, Bool.true_or, Bool.or_false, Bool.false_or, Bool.and_true, Bool.true_and, Bool.and_false, Bool.false_and, and_false, false_and, or_true, true_or, or_false, false_or, not_true, not_false, way_1, y1]
      obtain ⟨r1, r2⟩ := rng u m
      exact ⟨fun _ => by rw [decide_eq_true r2]; rfl, fun z => absurd r1 z⟩
    · simp only [XR, List.getElem?_cons_zero, List.getElem?_cons_succ, List.set_cons_zero, List.set_cons_succ, List.length_cons, List.length_nil, List.length_map, List.length_range, List.length_append, List.length_set, List.map_cons, List.map_nil, List.replicate_succ, List.replicate_zero, List.cons_append, List.nil_append, List.append_nil, Nat.reduceLeDiff, Nat.reduceLT, Nat.zero_lt_succ, Int.reduceLT, Int.reduceLE, Int.reduceAdd, Int.reduceToNat, Int.cast_ofNat_Int, Int.natCast_zero, Int.natCast_one, Int.reduceEq, Int.reduceNe, Nat.reduceEqDiff, eq_self, beq_self_eq_true, Bool.true_beq, Bool.false_beq, Classical.not_not, Bool.not_eq_false, Int.reduceNeg, Int.reducePow, Option.bind_some, Option.bind_none, Option.map_some, Option.map_none, Option.or_some, Option.or_none, Option.none_or, Option.some_or, Option.or, decide_eq_true_eq, if_true, if_false, ite_true, ite_false, and_true, true_and, Bool.not_eq_true, Bool.not_true, Bool.not_false, Bool.true_eq_false, Bool.false_eq_true, imp_false, not_false_eq_true, not_true_eq_false, forall_const, true_implies, false_implies, reduceCtorEq, Nat.reduceAdd, Nat.reduceSub, Nat.reduceLT, decide_true, decide_false, Bool.or_true, Bool.true_or, Bool.or_false, Bool.false_or, Bool.and_true, Bool.true_and, Bool.and_false, Bool.false_and, and_false, false_and, or_true, true_or, or_false, false_or, not_true, not_false, nil_ne]
      exact ⟨_, rfl, rfl⟩
  rintro e rfl
  have cmp : Wp (eLc (itV 2) (tgN 3) [3] (eYes) (e2 gIx (eVar 3) (eC (.int 0))) [.shr o, .shr (.dat sd), .shr (.dat (.tuple (ws.map wayD))), a3]) fun x => x = .lst ((ws.map (·.1)).map .str) := by
    simp only [XR, List.getElem?_cons_zero, List.getElem?_cons_succ, List.set_cons_zero, List.set_cons_succ, List.length_cons, List.length_nil, List.length_map, List.length_range, List.length_append, List.length_set, List.map_cons, List.map_nil, List.replicate_succ, List.replicate_zero, List.cons_append, List.nil_append, List.append_nil, Nat.reduceLeDiff, Nat.reduceLT, Nat.zero_lt_succ, Int.reduceLT, Int.reduceLE, Int.reduceAdd, Int.reduceToNat, Int.cast_ofNat_Int, Int.natCast_zero, Int.natCast_one, Int.reduceEq, Int.reduceNe, Nat.reduceEqDiff, eq_self, beq_self_eq_true, Bool.true_beq, Bool.false_beq, Classical.not_not, Bool.not_eq_false, Int.reduceNeg, Int.reducePow, Option.bind_some, Option.bind_none, Option.map_some, Option.map_none, Option.or_some, Option.or_none, Option.none_or, Option.some_or, Option.or, decide_eq_true_eq, if_true, if_false, ite_true, ite_false, and_true, true_and, Bool.not_eq_true, Bool.not_true, Bool.not_false, Bool.true_eq_false, Bool.false_eq_true, imp_false, not_false_eq_true, not_true_eq_false, forall_const, true_implies, false_implies, reduceCtorEq, Nat.reduceAdd, Nat.reduceSub, Nat.reduceLT, decide_true, decide_false, Bool.or_true, Bool.true_or, Bool.or_false, Bool.false_or, Bool.and_true, Bool.true_and, Bool.and_false, Bool.false_and, and_false, false_and, or_true, true_or, or_false, false_or, not_true, not_false]
    refine ⟨by omega, lc_map (g := fun u => .str u.1) (fun u m => ?_) (by rw [List.map_map]; rfl)⟩
    simp only [XR, List.getElem?_cons_zero, List.getElem?_cons_succ, List.set_cons_zero, List.set_cons_succ, List.length_cons, List.length_nil, List.length_map, List.length_range, List.length_append, List.length_set, List.map_cons, List.map_nil, List.replicate_succ, List.replicate_zero, List.cons_append, List.nil_append, List.append_nil, Nat.reduceLeDiff, Nat.reduceLT, Nat.zero_lt_succ, Int.reduceLT, Int.reduceLE, Int.reduceAdd, Int.reduceToNat, Int.cast_ofNat_Int, Int.natCast_zero, Int.natCast_one, Int.reduceEq, Int.reduceNe, Nat.reduceEqDiff, eq_self, beq_self_eq_true, Bool.true_beq, Bool.false_beq, Classical.not_not, Bool.not_eq_false, Int.reduceNeg, Int.reducePow, Option.bind_some, Option.bind_none, Option.map_some, Option.map_none, Option.or_some, Option.or_none, Option.none_or, Option.some_or, Option.or, decide_eq_true_eq, if_true, if_false, ite_true, ite_false, and_true, true_and, Bool.not_eq_true, Bool.not_true, Bool.not_false, Bool.true_eq_false, Bool.false_eq_true, imp_false, not_false_eq_true, not_true_eq_false, forall_const, true_implies, false_implies, reduceCtorEq, Nat.reduceAdd, Nat.reduceSub, Nat.reduceLT, decide_true, decide_false, Bool.or_true, Bool.true_or, Bool.or_false, Bool.false_or, Bool.and_true, Bool.true_and, Bool.and_false, Bool.false_and, and_false, false_and, or_true, true_or, or_false, false_or, not_true, not_false, way_0]
  have ls : (ws.map (·.1)).length ≤ 4000 := by rw [List.length_map]; omega
  refine w_if (w_e2 (cmp.imp ?_))
  rintro a rfl
  have e2 : Wp (eSortSet (eLc (itV 2) (tgN 3) [3] (eYes) (e2 gIx (eVar 3) (eC (.int 0)))) [.shr o, .shr (.dat sd), .shr (.dat (.tuple (ws.map wayD))), a3]) fun x => x = .lst ((ws.map (·.1)).map .str) := by
    show Wp ((eLc _ _ _ _ _ _).bind gSortSet) _
    rw [wp_bind]
    refine cmp.imp ?_
    rintro a rfl
    exact ⟨_, sortSet_id so ls, rfl⟩
  refine e2.imp ?_
  rintro b rfl
  exact ⟨_, ne_same rfl rfl (shaped_strs hok), false, rfl, _, rfl, _, _, rfl⟩
theorem law_is_plan_ok {p : List Stop} {o : O} (ho : o = .lst (p.map stopD) ∨ o = .dat (planD p)) (hp : PlanOk p) : M_law_is_plan [o] = some (oB true) := Wp.eq (by
  have l1 := hp.l1
  have l2 := hp.l12
  have y1 : gLen o = some (oI p.length) := by
    rcases ho with rfl | rfl <;> (show some (oI ((p.map stopD).length : Nat)) = _; rw [List.length_map])
  have y2 : itO o = some (p.map stopD) := by rcases ho with rfl | rfl <;> rfl
  have y3 : ∃ d, o.data = some d ∧ notDict d = true ∧ isT "list" d = true := by rcases ho with rfl | rfl <;> exact ⟨_, rfl, rfl, by unfold isT; rfl⟩
  obtain ⟨d, y3, y4, y5⟩ := y3
  rw [M_law_is_plan, wp_runB, B_law_is_plan]
  refine wp_seq (fun e => e = [.shr o, .un, .un, .un]) ?_ ?_
  · simp only [XR, List.getElem?_cons_zero, List.getElem?_cons_succ, List.set_cons_zero, List.set_cons_succ, List.length_cons, List.length_nil, List.length_map, List.length_range, List.length_append, List.length_set, List.map_cons, List.map_nil, List.replicate_succ, List.replicate_zero, List.cons_append, List.nil_append, List.append_nil, Nat.reduceLeDiff, Nat.reduceLT, Nat.zero_lt_succ, Int.reduceLT, Int.reduceLE, Int.reduceAdd, Int.reduceToNat, Int.cast_ofNat_Int, Int.natCast_zero, Int.natCast_one, Int.reduceEq, Int.reduceNe, Nat.reduceEqDiff, eq_self, beq_self_eq_true, Bool.true_beq, Bool.false_beq, Classical.not_not, Bool.not_eq_false, Int.reduceNeg, Int.reducePow, Option.bind_some, Option.bind_none, Option.map_some, Option.map_none, Option.or_some, Option.or_none, Option.none_or, Option.some_or, Option.or, decide_eq_true_eq, if_true, if_false, ite_true, ite_false, and_true, true_and, Bool.not_eq_true, Bool.not_true, Bool.not_false, Bool.true_eq_false, Bool.false_eq_true, imp_false, not_false_eq_true, not_true_eq_false, forall_const, true_implies, false_implies, reduceCtorEq, Nat.reduceAdd, Nat.reduceSub, Nat.reduceLT, decide_true, decide_false, Bool.or_true, Bool.true_or, Bool.or_false, Bool.false_or, Bool.and_true, Bool.true_and, Bool.and_false, Bool.false_and, and_false, false_and, or_true, true_or, or_false, false_or, not_true, not_false, y1, y3, y4, y5]
    refine ⟨fun h => ⟨fun h2 => ?_, fun _ => ⟨_, rfl, rfl⟩⟩, fun h => ?_⟩
    · simp at h2; omega
    · omega
  rintro e rfl
  simp only [XR, List.getElem?_cons_zero, List.getElem?_cons_succ, List.set_cons_zero, List.set_cons_succ, List.length_cons, List.length_nil, List.length_map, List.length_range, List.length_append, List.length_set, List.map_cons, List.map_nil, List.replicate_succ, List.replicate_zero, List.cons_append, List.nil_append, List.append_nil, Nat.reduceLeDiff, Nat.reduceLT, Nat.zero_lt_succ, Int.reduceLT, Int.reduceLE, Int.reduceAdd, Int.reduceToNat, Int.cast_ofNat_Int, Int.natCast_zero, Int.natCast_one, Int.reduceEq, Int.reduceNe, Nat.reduceEqDiff, eq_self, beq_self_eq_true, Bool.true_beq, Bool.false_beq, Classical.not_not, Bool.not_eq_false, Int.reduceNeg, Int.reducePow, Option.bind_some, Option.bind_none, Option.map_some, Option.map_none, Option.or_some, Option.or_none, Option.none_or, Option.some_or, Option.or, decide_eq_true_eq, if_true, if_false, ite_true, ite_false, and_true, true_and, Bool.not_eq_true, Bool.not_true, Bool.not_false, Bool.true_eq_false, Bool.false_eq_true, imp_false, not_false_eq_true, not_true_eq_false, forall_const, true_implies, false_implies, reduceCtorEq, Nat.reduceAdd, Nat.reduceSub, Nat.reduceLT, decide_true, decide_false, Bool.or_true, Bool.true_or, Bool.or_false, Bool.false_or, Bool.and_true, Bool.true_and, Bool.and_false, Bool.false_and, and_false, false_and, or_true, true_or, or_false, false_or, not_true, not_false, y2]
  refine wp_for (fun i e => ∃ a1 a2 a3 : Sl, e = [.shr o, a1, a2, a3]) ⟨_, _, _, rfl⟩ ?_ ?_
  · rintro i d e hi ⟨a1, a2, a3, rfl⟩
    rw [List.getElem?_map] at hi
    obtain ⟨s, hs, rfl⟩ := Option.map_eq_some_iff.mp hi
    simp only [XR, List.getElem?_cons_zero, List.getElem?_cons_succ, List.set_cons_zero, List.set_cons_succ, List.length_cons, List.length_nil, List.length_map, List.length_range, List.length_append, List.length_set, List.map_cons, List.map_nil, List.replicate_succ, List.replicate_zero, List.cons_append, List.nil_append, List.append_nil, Nat.reduceLeDiff, Nat.reduceLT, Nat.zero_lt_succ, Int.reduceLT, Int.reduceLE, Int.reduceAdd, Int.reduceToNat, Int.cast_ofNat_Int, Int.natCast_zero, Int.natCast_one, Int.reduceEq, Int.reduceNe, Nat.reduceEqDiff, eq_self, beq_self_eq_true, Bool.true_beq, Bool.false_beq, Classical.not_not, Bool.not_eq_false, Int.reduceNeg, Int.reducePow, Option.bind_some, Option.bind_none, Option.map_some, Option.map_none, Option.or_some, Option.or_none, Option.none_or, Option.some_or, Option.or, decide_eq_true_eq, if_true, if_false, ite_true, ite_false, and_true, true_and, Bool.not_eq_true, Bool.not_true, Bool.not_false, Bool.true_eq_false, Bool.false_eq_true, imp_false, not_false_eq_true, not_true_eq_false, forall_const, true_implies, false_implies, reduceCtorEq, Nat.reduceAdd, Nat.reduceSub, Nat.reduceLT, decide_true, decide_false, Bool.or_true, Bool.true_or, Bool.or_false, Bool.false_or, Bool.and_true, Bool.true_and, Bool.and_false, Bool.false_and, and_false, false_and, or_true, true_or, or_false, false_or, not_true, not_false]
    refine (is_plan_row y1 (hp.ok s (List.mem_of_getElem? hs))).imp ?_
    rintro out ⟨a2, a3, rfl⟩
    exact ⟨_, _, _, rfl⟩
  · rintro e ⟨a1, a2, a3, rfl⟩
    simp only [XR, List.getElem?_cons_zero, List.getElem?_cons_succ, List.set_cons_zero, List.set_cons_succ, List.length_cons, List.length_nil, List.length_map, List.length_range, List.length_append, List.length_set, List.map_cons, List.map_nil, List.replicate_succ, List.replicate_zero, List.cons_append, List.nil_append, List.append_nil, Nat.reduceLeDiff, Nat.reduceLT, Nat.zero_lt_succ, Int.reduceLT, Int.reduceLE, Int.reduceAdd, Int.reduceToNat, Int.cast_ofNat_Int, Int.natCast_zero, Int.natCast_one, Int.reduceEq, Int.reduceNe, Nat.reduceEqDiff, eq_self, beq_self_eq_true, Bool.true_beq, Bool.false_beq, Classical.not_not, Bool.not_eq_false, Int.reduceNeg, Int.reducePow, Option.bind_some, Option.bind_none, Option.map_some, Option.map_none, Option.or_some, Option.or_none, Option.none_or, Option.some_or, Option.or, decide_eq_true_eq, if_true, if_false, ite_true, ite_false, and_true, true_and, Bool.not_eq_true, Bool.not_true, Bool.not_false, Bool.true_eq_false, Bool.false_eq_true, imp_false, not_false_eq_true, not_true_eq_false, forall_const, true_implies, false_implies, reduceCtorEq, Nat.reduceAdd, Nat.reduceSub, Nat.reduceLT, decide_true, decide_false, Bool.or_true, Bool.true_or, Bool.or_false, Bool.false_or, Bool.and_true, Bool.true_and, Bool.and_false, Bool.false_and, and_false, false_and, or_true, true_or, or_false, false_or, not_true, not_false])
end TP

/-! Alk: k03's own functions: twice, order, alike, unlike. -/
namespace TP
open PySem PySem.Spec PyProof.Rows L2
theorem lc_pair {α β : Type} {f0 : α → D} {g : β → D} (P : α → β → Prop) {tg : Tg} {f : Ex} {env : En} {Q : List D → Prop} {l : List α} (h : ∀ a ∈ l, Wp (tg (f0 a) env) fun e1 => Wp (f e1) fun o => ∃ y, o = .dat (g y) ∧ P a y) (q : ∀ l' : List β, Paired P l l' → Q (l'.map g)) : Wp (lcL tg eYes f env (l.map f0)) Q := by
  induction l generalizing Q with
  | nil => exact ⟨[], rfl, q [] .nil⟩
  | cons a l ih =>
    obtain ⟨e1, q1, o, q2, y, rfl, p⟩ := h a List.mem_cons_self
    rw [List.map_cons]
    unfold lcL
    rw [q1, Option.bind_some]
    show Wp ((f e1).bind _) Q
    rw [q2, Option.bind_some]
    show Wp ((lcL tg eYes f env _).map _) Q
    rw [wp_map]
    exact ih (fun a m => h a (List.mem_cons_of_mem _ m)) fun l' hl => q (y :: l') (.cons p hl)
/-! ### a plan told twice -/
theorem paired_fst {P : Str × Int → Str × Int → Prop} (hP : ∀ u v, P u v → v.1 = u.1) : ∀ {l l' : List (Str × Int)}, Paired P l l' → l'.map (·.1) = l.map (·.1)
  | _, _, .nil => rfl
  | _, _, .cons h t => by rw [List.map_cons, List.map_cons, hP _ _ h, paired_fst hP t]
theorem paired_mem {A B : Type} {P : A → B → Prop} : ∀ {l : List A} {l' : List B}, Paired P l l' → ∀ v ∈ l', ∃ u ∈ l, P u v
  | _, _, .nil, v, m => by cases m
  | _, _, .cons h t, v, m => by
    rcases List.mem_cons.mp m with rfl | m
    · exact ⟨_, List.mem_cons_self, h⟩
    · obtain ⟨u, hu, p⟩ := paired_mem t v m
      exact ⟨u, List.mem_cons_of_mem _ hu, p⟩
theorem pair_mod {n i : Nat} (h : 0 < n) : 0 ≤ ((i : Nat) : Int) % (n : Int) ∧ ((i : Nat) : Int) % (n : Int) < n := ⟨Int.emod_nonneg _ (by omega), Int.emod_lt_of_pos _ (by omega)⟩
theorem twice_row {p : List Stop} {c : Int} {o : O} (ho : isP p o) (hp : PlanOk p) (hc : CellOk c) (h6 : p.length ≤ 6) {q : List Stop} (hq : q.length ≤ 1000) {i : Nat} (hi : i < 2 * p.length) {a5 a6 a7 a8 a9 : Sl} :
    Wp (L_law_twice_1 M_law_mixed [.shr (oI c), .shr o, .shr (oI p.length), .own (.lst (q.map stopD)), .shr (oI (i : Nat)), a5, a6, a7, a8, a9]) fun out => ∃ (s : Stop) (b5 b6 b7 b8 b9 : Sl), StopOk (2 * p.length : Nat) s ∧ out = .nx [.shr (oI c), .shr o, .shr (oI p.length), .own (.lst ((q ++ [s]).map stopD)), .shr (oI (i : Nat)), b5, b6, b7, b8, b9] := by
  have l1 := hp.l1
  have hn : inN p (((i : Nat) : Int) % p.length) := pair_mod (by omega)
  have gx := ix_p ho hn
  have so := at_ok hp hn
  unfold L_law_twice_1
  refine wp_seq (fun e => e = [.shr (oI c), .shr o, .shr (oI p.length), .own (.lst (q.map stopD)), .shr (oI (i : Nat)), .shr (.dat (stopD (atS p (((i : Nat) : Int) % p.length)))), a6, a7, a8, a9]) ?_ ?_
  · simp only [XR, List.getElem?_cons_zero, List.getElem?_cons_succ, List.set_cons_zero, List.set_cons_succ, List.length_cons, List.length_nil, List.length_map, List.length_range, List.length_append, List.length_set, List.map_cons, List.map_nil, List.replicate_succ, List.replicate_zero, List.cons_append, List.nil_append, List.append_nil, Nat.reduceLeDiff, Nat.reduceLT, Nat.zero_lt_succ, Int.reduceLT, Int.reduceLE, Int.reduceAdd, Int.reduceToNat, Int.cast_ofNat_Int, Int.natCast_zero, Int.natCast_one, Int.reduceEq, Int.reduceNe, Nat.reduceEqDiff, eq_self, beq_self_eq_true, Bool.true_beq, Bool.false_beq, Classical.not_not, Bool.not_eq_false, Int.reduceNeg, Int.reducePow, Option.bind_some, Option.bind_none, Option.map_some, Option.map_none, Option.or_some, Option.or_none, Option.none_or, Option.some_or, Option.or, decide_eq_true_eq, if_true, if_false, ite_true, ite_false, and_true, true_and, Bool.not_eq_true, Bool.not_true, Bool.not_false, Bool.true_eq_false, Bool.false_eq_true, imp_false, not_false_eq_true, not_true_eq_false, forall_const, true_implies, false_implies, reduceCtorEq, Nat.reduceAdd, Nat.reduceSub, Nat.reduceLT, decide_true, decide_false, Bool.or_true, Bool.true_or, Bool.or_false, Bool.false_or, Bool.and_true, Bool.true_and, Bool.and_false, Bool.false_and, and_false, false_and, or_true, true_or, or_false, false_or, not_true, not_false, gx]
    exact ⟨by omega, _, rfl, rfl⟩
  rintro e rfl
  cases e : atS p (((i : Nat) : Int) % p.length) with
  | fin =>
    simp only [XR, List.getElem?_cons_zero, List.getElem?_cons_succ, List.set_cons_zero, List.set_cons_succ, List.length_cons, List.length_nil, List.length_map, List.length_range, List.length_append, List.length_set, List.map_cons, List.map_nil, List.replicate_succ, List.replicate_zero, List.cons_append, List.nil_append, List.append_nil, Nat.reduceLeDiff, Nat.reduceLT, Nat.zero_lt_succ, Int.reduceLT, Int.reduceLE, Int.reduceAdd, Int.reduceToNat, Int.cast_ofNat_Int, Int.natCast_zero, Int.natCast_one, Int.reduceEq, Int.reduceNe, Nat.reduceEqDiff, eq_self, beq_self_eq_true, Bool.true_beq, Bool.false_beq, Classical.not_not, Bool.not_eq_false, Int.reduceNeg, Int.reducePow, Option.bind_some, Option.bind_none, Option.map_some, Option.map_none, Option.or_some, Option.or_none, Option.none_or, Option.some_or, Option.or, decide_eq_true_eq, if_true, if_false, ite_true, ite_false, and_true, true_and, Bool.not_eq_true, Bool.not_true, Bool.not_false, Bool.true_eq_false, Bool.false_eq_true, imp_false, not_false_eq_true, not_true_eq_false, forall_const, true_implies, false_implies, reduceCtorEq, Nat.reduceAdd, Nat.reduceSub, Nat.reduceLT, decide_true, decide_false, Bool.or_true, Bool.true_or, Bool.or_false, Bool.false_or, Bool.and_true, Bool.true_and, Bool.and_false, Bool.false_and, and_false, false_and, or_true, true_or, or_false, false_or, not_true, not_false, head_any, hd_end]
    simp only [kindS, XR, List.getElem?_cons_zero, List.getElem?_cons_succ, List.set_cons_zero, List.set_cons_succ, List.length_cons, List.length_nil, List.length_map, List.length_range, List.length_append, List.length_set, List.map_cons, List.map_nil, List.replicate_succ, List.replicate_zero, List.cons_append, List.nil_append, List.append_nil, Nat.reduceLeDiff, Nat.reduceLT, Nat.zero_lt_succ, Int.reduceLT, Int.reduceLE, Int.reduceAdd, Int.reduceToNat, Int.cast_ofNat_Int, Int.natCast_zero, Int.natCast_one, Int.reduceEq, Int.reduceNe, Nat.reduceEqDiff, eq_self, beq_self_eq_true, Bool.true_beq, Bool.false_beq, Classical.not_not, Bool.not_eq_false, Int.reduceNeg, Int.reducePow, Option.bind_some, Option.bind_none, Option.map_some, Option.map_none, Option.or_some, Option.or_none, Option.none_or, Option.some_or, Option.or, decide_eq_true_eq, if_true, if_false, ite_true, ite_false, and_true, true_and, Bool.not_eq_true, Bool.not_true, Bool.not_false, Bool.true_eq_false, Bool.false_eq_true, imp_false, not_false_eq_true, not_true_eq_false, forall_const, true_implies, false_implies, reduceCtorEq, Nat.reduceAdd, Nat.reduceSub, Nat.reduceLT, decide_true, decide_false, Bool.or_true, Bool.true_or, Bool.or_false, Bool.false_or, Bool.and_true, Bool.true_and, Bool.and_false, Bool.false_and, and_false, false_and, or_true, true_or, or_false, false_or, not_true, not_false]
    simp only [List.map_append, List.map_cons, List.map_nil]
    exact ⟨by omega, .fin, _, _, _, _, _, trivial, rfl⟩
  | act b ws =>
    rw [e] at so
    have so : WaysOk p.length ws := so
    have w6 := so.l6
    refine w_else ?_ ?_
    · simp only [XR, List.getElem?_cons_zero, List.getElem?_cons_succ, List.set_cons_zero, List.set_cons_succ, List.length_cons, List.length_nil, List.length_map, List.length_range, List.length_append, List.length_set, List.map_cons, List.map_nil, List.replicate_succ, List.replicate_zero, List.cons_append, List.nil_append, List.append_nil, Nat.reduceLeDiff, Nat.reduceLT, Nat.zero_lt_succ, Int.reduceLT, Int.reduceLE, Int.reduceAdd, Int.reduceToNat, Int.cast_ofNat_Int, Int.natCast_zero, Int.natCast_one, Int.reduceEq, Int.reduceNe, Nat.reduceEqDiff, eq_self, beq_self_eq_true, Bool.true_beq, Bool.false_beq, Classical.not_not, Bool.not_eq_false, Int.reduceNeg, Int.reducePow, Option.bind_some, Option.bind_none, Option.map_some, Option.map_none, Option.or_some, Option.or_none, Option.none_or, Option.some_or, Option.or, decide_eq_true_eq, if_true, if_false, ite_true, ite_false, and_true, true_and, Bool.not_eq_true, Bool.not_true, Bool.not_false, Bool.true_eq_false, Bool.false_eq_true, imp_false, not_false_eq_true, not_true_eq_false, forall_const, true_implies, false_implies, reduceCtorEq, Nat.reduceAdd, Nat.reduceSub, Nat.reduceLT, decide_true, decide_false, Bool.or_true, Bool.true_or, Bool.or_false, Bool.false_or, Bool.and_true, Bool.true_and, Bool.and_false, Bool.false_and, and_false, false_and, or_true, true_or, or_false, false_or, not_true, not_false, act_head, kind_end]
    refine wp_seq (fun e => ∃ l : List (Str × Int), WaysOk (2 * p.length : Nat) l ∧ e = [.shr (oI c), .shr o, .shr (oI p.length), .own (.lst (q.map stopD)), .shr (oI (i : Nat)), .shr (.dat (stopD (.act b ws))), .shr (.dat (.list (l.map wayD))), a7, a8, a9]) ?_ ?_
    · simp only [XR, List.getElem?_cons_zero, List.getElem?_cons_succ, List.set_cons_zero, List.set_cons_succ, List.length_cons, List.length_nil, List.length_map, List.length_range, List.length_append, List.length_set, List.map_cons, List.map_nil, List.replicate_succ, List.replicate_zero, List.cons_append, List.nil_append, List.append_nil, Nat.reduceLeDiff, Nat.reduceLT, Nat.zero_lt_succ, Int.reduceLT, Int.reduceLE, Int.reduceAdd, Int.reduceToNat, Int.cast_ofNat_Int, Int.natCast_zero, Int.natCast_one, Int.reduceEq, Int.reduceNe, Nat.reduceEqDiff, eq_self, beq_self_eq_true, Bool.true_beq, Bool.false_beq, Classical.not_not, Bool.not_eq_false, Int.reduceNeg, Int.reducePow, Option.bind_some, Option.bind_none, Option.map_some, Option.map_none, Option.or_some, Option.or_none, Option.none_or, Option.some_or, Option.or, decide_eq_true_eq, if_true, if_false, ite_true, ite_false, and_true, true_and, Bool.not_eq_true, Bool.not_true, Bool.not_false, Bool.true_eq_false, Bool.false_eq_true, imp_false, not_false_eq_true, not_true_eq_false, forall_const, true_implies, false_implies, reduceCtorEq, Nat.reduceAdd, Nat.reduceSub, Nat.reduceLT, decide_true, decide_false, Bool.or_true, Bool.true_or, Bool.or_false, Bool.false_or, Bool.and_true, Bool.true_and, Bool.and_false, Bool.false_and, and_false, false_and, or_true, true_or, or_false, false_or, not_true, not_false, act_ways]
      refine ⟨by omega, lc_pair (g := wayD) (fun u v => v.1 = u.1 ∧ 0 ≤ v.2 ∧ v.2 < (2 * p.length : Nat)) (fun u hu => ?_) fun l hl => ?_⟩
      · obtain ⟨w1, w2, w3⟩ := so.ok u hu
        simp only [wayD, XR, List.getElem?_cons_zero, List.getElem?_cons_succ, List.set_cons_zero, List.set_cons_succ, List.length_cons, List.length_nil, List.length_map, List.length_range, List.length_append, List.length_set, List.map_cons, List.map_nil, List.replicate_succ, List.replicate_zero, List.cons_append, List.nil_append, List.append_nil, Nat.reduceLeDiff, Nat.reduceLT, Nat.zero_lt_succ, Int.reduceLT, Int.reduceLE, Int.reduceAdd, Int.reduceToNat, Int.cast_ofNat_Int, Int.natCast_zero, Int.natCast_one, Int.reduceEq, Int.reduceNe, Nat.reduceEqDiff, eq_self, beq_self_eq_true, Bool.true_beq, Bool.false_beq, Classical.not_not, Bool.not_eq_false, Int.reduceNeg, Int.reducePow, Option.bind_some, Option.bind_none, Option.map_some, Option.map_none, Option.or_some, Option.or_none, Option.none_or, Option.some_or, Option.or, decide_eq_true_eq, if_true, if_false, ite_true, ite_false, and_true, true_and, Bool.not_eq_true, Bool.not_true, Bool.not_false, Bool.true_eq_false, Bool.false_eq_true, imp_false, not_false_eq_true, not_true_eq_false, forall_const, true_implies, false_implies, reduceCtorEq, Nat.reduceAdd, Nat.reduceSub, Nat.reduceLT, decide_true, decide_false, Bool.or_true, Bool.true_or, Bool.or_false, Bool.false_or, Bool.and_true, Bool.true_and, Bool.and_false, Bool.false_and, and_false, false_and, or_true, true_or, or_false, false_or, not_true, not_false]
        refine w_mixed hc (by omega) fun x x0 x1 => ?_
        simp only [XR, List.getElem?_cons_zero, List.getElem?_cons_succ, List.set_cons_zero, List.set_cons_succ, List.length_cons, List.length_nil, List.length_map, List.length_range, List.length_append, List.length_set, List.map_cons, List.map_nil, List.replicate_succ, List.replicate_zero, List.cons_append, List.nil_append, List.append_nil, Nat.reduceLeDiff, Nat.reduceLT, Nat.zero_lt_succ, Int.reduceLT, Int.reduceLE, Int.reduceAdd, Int.reduceToNat, Int.cast_ofNat_Int, Int.natCast_zero, Int.natCast_one, Int.reduceEq, Int.reduceNe, Nat.reduceEqDiff, eq_self, beq_self_eq_true, Bool.true_beq, Bool.false_beq, Classical.not_not, Bool.not_eq_false, Int.reduceNeg, Int.reducePow, Option.bind_some, Option.bind_none, Option.map_some, Option.map_none, Option.or_some, Option.or_none, Option.none_or, Option.some_or, Option.or, decide_eq_true_eq, if_true, if_false, ite_true, ite_false, and_true, true_and, Bool.not_eq_true, Bool.not_true, Bool.not_false, Bool.true_eq_false, Bool.false_eq_true, imp_false, not_false_eq_true, not_true_eq_false, forall_const, true_implies, false_implies, reduceCtorEq, Nat.reduceAdd, Nat.reduceSub, Nat.reduceLT, decide_true, decide_false, Bool.or_true, Bool.true_or, Bool.or_false, Bool.false_or, Bool.and_true, Bool.true_and, Bool.and_false, Bool.false_and, and_false, false_and, or_true, true_or, or_false, false_or, not_true, not_false]
        refine ⟨cMul_l (by omega), ?_⟩
        refine ⟨(u.1, u.2 + p.length * (x / 5 % 2)), rfl, rfl, ?_, ?_⟩
        · show 0 ≤ u.2 + p.length * (x / 5 % 2)
          rcases (show x / 5 % 2 = 0 ∨ x / 5 % 2 = 1 by omega) with h | h <;> rw [h] <;> omega
        · show u.2 + p.length * (x / 5 % 2) < (2 * p.length : Nat)
          rcases (show x / 5 % 2 = 0 ∨ x / 5 % 2 = 1 by omega) with h | h <;> rw [h] <;> omega
      · have ll := hl.length
        have lf := paired_fst (fun u v h => h.1) hl
        refine ⟨_, rfl, l, ⟨by have := so.l1; omega, by omega, fun v hv => ?_, ?_⟩, rfl⟩
        · obtain ⟨u, hu, h1, h2, h3⟩ := paired_mem hl v hv
          rw [h1]
          exact ⟨(so.ok u hu).1, h2, h3⟩
        · have : (ws.map (·.1)).Pairwise wLt := List.pairwise_map.mpr so.so
          rw [← lf] at this
          exact List.pairwise_map.mp this
    rintro e ⟨l, lo, rfl⟩
    have l6 := lo.l6
    refine wp_seq (fun e => e = [.shr (oI c), .shr o, .shr (oI p.length), .own (.lst (q.map stopD)), .shr (oI (i : Nat)), .shr (.dat (stopD (.act b ws))), .shr (.dat (.list (l.map wayD))), .shr (.dat (kindD b)), a8, a9]) ?_ ?_
    · simp only [XR, List.getElem?_cons_zero, List.getElem?_cons_succ, List.set_cons_zero, List.set_cons_succ, List.length_cons, List.length_nil, List.length_map, List.length_range, List.length_append, List.length_set, List.map_cons, List.map_nil, List.replicate_succ, List.replicate_zero, List.cons_append, List.nil_append, List.append_nil, Nat.reduceLeDiff, Nat.reduceLT, Nat.zero_lt_succ, Int.reduceLT, Int.reduceLE, Int.reduceAdd, Int.reduceToNat, Int.cast_ofNat_Int, Int.natCast_zero, Int.natCast_one, Int.reduceEq, Int.reduceNe, Nat.reduceEqDiff, eq_self, beq_self_eq_true, Bool.true_beq, Bool.false_beq, Classical.not_not, Bool.not_eq_false, Int.reduceNeg, Int.reducePow, Option.bind_some, Option.bind_none, Option.map_some, Option.map_none, Option.or_some, Option.or_none, Option.none_or, Option.some_or, Option.or, decide_eq_true_eq, if_true, if_false, ite_true, ite_false, and_true, true_and, Bool.not_eq_true, Bool.not_true, Bool.not_false, Bool.true_eq_false, Bool.false_eq_true, imp_false, not_false_eq_true, not_true_eq_false, forall_const, true_implies, false_implies, reduceCtorEq, Nat.reduceAdd, Nat.reduceSub, Nat.reduceLT, decide_true, decide_false, Bool.or_true, Bool.true_or, Bool.or_false, Bool.false_or, Bool.and_true, Bool.true_and, Bool.and_false, Bool.false_and, and_false, false_and, or_true, true_or, or_false, false_or, not_true, not_false, act_head]
      exact ⟨_, rfl, rfl⟩
    rintro e rfl
    refine wp_seq (fun e => ∃ b' : Bool, e = [.shr (oI c), .shr o, .shr (oI p.length), .own (.lst (q.map stopD)), .shr (oI (i : Nat)), .shr (.dat (stopD (.act b ws))), .shr (.dat (.list (l.map wayD))), .shr (.dat (kindD b')), a8, a9]) ?_ ?_
    · refine w_if ?_
      have t : Wp (eAnd (e2 gGe (eVar 4) (eVar 2)) (e2 gEq (e2 gMod (e2 gDiv (eFn 2 M_law_mixed (eCons (eVar 0) (eCons (e2 gMul (eC (.int 5)) (eVar 4)) (eNil)))) (eC (.int 7))) (eC (.int 4))) (eC (.int 1))) [.shr (oI c), .shr o, .shr (oI p.length), .own (.lst (q.map stopD)), .shr (oI (i : Nat)), .shr (.dat (stopD (.act b ws))), .shr (.dat (.list (l.map wayD))), .shr (.dat (kindD b)), a8, a9]) fun o => ∃ t, o = oB t := by
        simp only [XR, List.getElem?_cons_zero, List.getElem?_cons_succ, List.set_cons_zero, List.set_cons_succ, List.length_cons, List.length_nil, List.length_map, List.length_range, List.length_append, List.length_set, List.map_cons, List.map_nil, List.replicate_succ, List.replicate_zero, List.cons_append, List.nil_append, List.append_nil, Nat.reduceLeDiff, Nat.reduceLT, Nat.zero_lt_succ, Int.reduceLT, Int.reduceLE, Int.reduceAdd, Int.reduceToNat, Int.cast_ofNat_Int, Int.natCast_zero, Int.natCast_one, Int.reduceEq, Int.reduceNe, Nat.reduceEqDiff, eq_self, beq_self_eq_true, Bool.true_beq, Bool.false_beq, Classical.not_not, Bool.not_eq_false, Int.reduceNeg, Int.reducePow, Option.bind_some, Option.bind_none, Option.map_some, Option.map_none, Option.or_some, Option.or_none, Option.none_or, Option.some_or, Option.or, decide_eq_true_eq, if_true, if_false, ite_true, ite_false, and_true, true_and, Bool.not_eq_true, Bool.not_true, Bool.not_false, Bool.true_eq_false, Bool.false_eq_true, imp_false, not_false_eq_true, not_true_eq_false, forall_const, true_implies, false_implies, reduceCtorEq, Nat.reduceAdd, Nat.reduceSub, Nat.reduceLT, decide_true, decide_false, Bool.or_true, Bool.true_or, Bool.or_false, Bool.false_or, Bool.and_true, Bool.true_and, Bool.and_false, Bool.false_and, and_false, false_and, or_true, true_or, or_false, false_or, not_true, not_false]
        exact ⟨fun _ => w_mixed hc (by omega) fun x x0 x1 => by simp only [XR, List.getElem?_cons_zero, List.getElem?_cons_succ, List.set_cons_zero, List.set_cons_succ, List.length_cons, List.length_nil, List.length_map, List.length_range, List.length_append, List.length_set, List.map_cons, List.map_nil, List.replicate_succ, List.replicate_zero, List.cons_append, List.nil_append, List.append_nil, Nat.reduceLeDiff, Nat.reduceLT, Nat.zero_lt_succ, Int.reduceLT, Int.reduceLE, Int.reduceAdd, Int.reduceToNat, Int.cast_ofNat_Int, Int.natCast_zero, Int.natCast_one, Int.reduceEq, Int.reduceNe, Nat.reduceEqDiff, eq_self, beq_self_eq_true, Bool.true_beq, Bool.false_beq, Classical.not_not, Bool.not_eq_false, Int.reduceNeg, Int.reducePow, Option.bind_some, Option.bind_none, Option.map_some, Option.map_none, Option.or_some, Option.or_none, Option.none_or, Option.some_or, Option.or, decide_eq_true_eq, if_true, if_false, ite_true, ite_false, and_true, true_and, Bool.not_eq_true, Bool.not_true, Bool.not_false, Bool.true_eq_false, Bool.false_eq_true, imp_false, not_false_eq_true, not_true_eq_false, forall_const, true_implies, false_implies, reduceCtorEq, Nat.reduceAdd, Nat.reduceSub, Nat.reduceLT, decide_true, decide_false, Bool.or_true, Bool.true_or, Bool.or_false, Bool.false_or, Bool.and_true, Bool.true_and, Bool.and_false, Bool.false_and, and_false, false_and, or_true, true_or, or_false, false_or, not_true, not_false]; exact ⟨_, rfl⟩, fun _ => ⟨_, rfl⟩⟩
      refine t.imp ?_
      rintro o ⟨t, rfl⟩
      refine ⟨t, rfl, ?_⟩
      cases t with
      | false => rw [if_neg Bool.false_ne_true]; exact ⟨_, rfl, _, rfl, b, rfl⟩
      | true =>
        rw [if_pos rfl]
        cases b with
        | true =>
          simp only [XR, List.getElem?_cons_zero, List.getElem?_cons_succ, List.set_cons_zero, List.set_cons_succ, List.length_cons, List.length_nil, List.length_map, List.length_range, List.length_append, List.length_set, List.map_cons, List.map_nil, List.replicate_succ, List.replicate_zero, List.cons_append, List.nil_append, List.append_nil, Nat.reduceLeDiff, Nat.reduceLT, Nat.zero_lt_succ, Int.reduceLT, Int.reduceLE, Int.reduceAdd, Int.reduceToNat, Int.cast_ofNat_Int, Int.natCast_zero, Int.natCast_one, Int.reduceEq, Int.reduceNe, Nat.reduceEqDiff, eq_self, beq_self_eq_true, Bool.true_beq, Bool.false_beq, Classical.not_not, Bool.not_eq_false, Int.reduceNeg, Int.reducePow, Option.bind_some, Option.bind_none, Option.map_some, Option.map_none, Option.or_some, Option.or_none, Option.none_or, Option.some_or, Option.or, decide_eq_true_eq, if_true, if_false, ite_true, ite_false, and_true, true_and, Bool.not_eq_true, Bool.not_true, Bool.not_false, Bool.true_eq_false, Bool.false_eq_true, imp_false, not_false_eq_true, not_true_eq_false, forall_const, true_implies, false_implies, reduceCtorEq, Nat.reduceAdd, Nat.reduceSub, Nat.reduceLT, decide_true, decide_false, Bool.or_true, Bool.true_or, Bool.or_false, Bool.false_or, Bool.and_true, Bool.true_and, Bool.and_false, Bool.false_and, and_false, false_and, or_true, true_or, or_false, false_or, not_true, not_false, act_head]
          rw [show gEq (.dat (kindD true)) (oS "send") = some (oB true) from rfl]
          simp only [XR, List.getElem?_cons_zero, List.getElem?_cons_succ, List.set_cons_zero, List.set_cons_succ, List.length_cons, List.length_nil, List.length_map, List.length_range, List.length_append, List.length_set, List.map_cons, List.map_nil, List.replicate_succ, List.replicate_zero, List.cons_append, List.nil_append, List.append_nil, Nat.reduceLeDiff, Nat.reduceLT, Nat.zero_lt_succ, Int.reduceLT, Int.reduceLE, Int.reduceAdd, Int.reduceToNat, Int.cast_ofNat_Int, Int.natCast_zero, Int.natCast_one, Int.reduceEq, Int.reduceNe, Nat.reduceEqDiff, eq_self, beq_self_eq_true, Bool.true_beq, Bool.false_beq, Classical.not_not, Bool.not_eq_false, Int.reduceNeg, Int.reducePow, Option.bind_some, Option.bind_none, Option.map_some, Option.map_none, Option.or_some, Option.or_none, Option.none_or, Option.some_or, Option.or, decide_eq_true_eq, if_true, if_false, ite_true, ite_false, and_true, true_and, Bool.not_eq_true, Bool.not_true, Bool.not_false, Bool.true_eq_false, Bool.false_eq_true, imp_false, not_false_eq_true, not_true_eq_false, forall_const, true_implies, false_implies, reduceCtorEq, Nat.reduceAdd, Nat.reduceSub, Nat.reduceLT, decide_true, decide_false, Bool.or_true, Bool.true_or, Bool.or_false, Bool.false_or, Bool.and_true, Bool.true_and, Bool.and_false, Bool.false_and, and_false, false_and, or_true, true_or, or_false, false_or, not_true, not_false]
          exact ⟨_, rfl, false, rfl⟩
        | false =>
          simp only [XR, List.getElem?_cons_zero, List.getElem?_cons_succ, List.set_cons_zero, List.set_cons_succ, List.length_cons, List.length_nil, List.length_map, List.length_range, List.length_append, List.length_set, List.map_cons, List.map_nil, List.replicate_succ, List.replicate_zero, List.cons_append, List.nil_append, List.append_nil, Nat.reduceLeDiff, Nat.reduceLT, Nat.zero_lt_succ, Int.reduceLT, Int.reduceLE, Int.reduceAdd, Int.reduceToNat, Int.cast_ofNat_Int, Int.natCast_zero, Int.natCast_one, Int.reduceEq, Int.reduceNe, Nat.reduceEqDiff, eq_self, beq_self_eq_true, Bool.true_beq, Bool.false_beq, Classical.not_not, Bool.not_eq_false, Int.reduceNeg, Int.reducePow, Option.bind_some, Option.bind_none, Option.map_some, Option.map_none, Option.or_some, Option.or_none, Option.none_or, Option.some_or, Option.or, decide_eq_true_eq, if_true, if_false, ite_true, ite_false, and_true, true_and, Bool.not_eq_true, Bool.not_true, Bool.not_false, Bool.true_eq_false, Bool.false_eq_true, imp_false, not_false_eq_true, not_true_eq_false, forall_const, true_implies, false_implies, reduceCtorEq, Nat.reduceAdd, Nat.reduceSub, Nat.reduceLT, decide_true, decide_false, Bool.or_true, Bool.true_or, Bool.or_false, Bool.false_or, Bool.and_true, Bool.true_and, Bool.and_false, Bool.false_and, and_false, false_and, or_true, true_or, or_false, false_or, not_true, not_false, act_head]
          rw [show gEq (.dat (kindD false)) (oS "send") = some (oB false) from rfl]
          simp only [XR, List.getElem?_cons_zero, List.getElem?_cons_succ, List.set_cons_zero, List.set_cons_succ, List.length_cons, List.length_nil, List.length_map, List.length_range, List.length_append, List.length_set, List.map_cons, List.map_nil, List.replicate_succ, List.replicate_zero, List.cons_append, List.nil_append, List.append_nil, Nat.reduceLeDiff, Nat.reduceLT, Nat.zero_lt_succ, Int.reduceLT, Int.reduceLE, Int.reduceAdd, Int.reduceToNat, Int.cast_ofNat_Int, Int.natCast_zero, Int.natCast_one, Int.reduceEq, Int.reduceNe, Nat.reduceEqDiff, eq_self, beq_self_eq_true, Bool.true_beq, Bool.false_beq, Classical.not_not, Bool.not_eq_false, Int.reduceNeg, Int.reducePow, Option.bind_some, Option.bind_none, Option.map_some, Option.map_none, Option.or_some, Option.or_none, Option.none_or, Option.some_or, Option.or, decide_eq_true_eq, if_true, if_false, ite_true, ite_false, and_true, true_and, Bool.not_eq_true, Bool.not_true, Bool.not_false, Bool.true_eq_false, Bool.false_eq_true, imp_false, not_false_eq_true, not_true_eq_false, forall_const, true_implies, false_implies, reduceCtorEq, Nat.reduceAdd, Nat.reduceSub, Nat.reduceLT, decide_true, decide_false, Bool.or_true, Bool.true_or, Bool.or_false, Bool.false_or, Bool.and_true, Bool.true_and, Bool.and_false, Bool.false_and, and_false, false_and, or_true, true_or, or_false, false_or, not_true, not_false]
          exact ⟨_, rfl, true, rfl⟩
    rintro e ⟨b', rfl⟩
    simp only [XR, List.getElem?_cons_zero, List.getElem?_cons_succ, List.set_cons_zero, List.set_cons_succ, List.length_cons, List.length_nil, List.length_map, List.length_range, List.length_append, List.length_set, List.map_cons, List.map_nil, List.replicate_succ, List.replicate_zero, List.cons_append, List.nil_append, List.append_nil, Nat.reduceLeDiff, Nat.reduceLT, Nat.zero_lt_succ, Int.reduceLT, Int.reduceLE, Int.reduceAdd, Int.reduceToNat, Int.cast_ofNat_Int, Int.natCast_zero, Int.natCast_one, Int.reduceEq, Int.reduceNe, Nat.reduceEqDiff, eq_self, beq_self_eq_true, Bool.true_beq, Bool.false_beq, Classical.not_not, Bool.not_eq_false, Int.reduceNeg, Int.reducePow, Option.bind_some, Option.bind_none, Option.map_some, Option.map_none, Option.or_some, Option.or_none, Option.none_or, Option.some_or, Option.or, decide_eq_true_eq, if_true, if_false, ite_true, ite_false, and_true, true_and, Bool.not_eq_true, Bool.not_true, Bool.not_false, Bool.true_eq_false, Bool.false_eq_true, imp_false, not_false_eq_true, not_true_eq_false, forall_const, true_implies, false_implies, reduceCtorEq, Nat.reduceAdd, Nat.reduceSub, Nat.reduceLT, decide_true, decide_false, Bool.or_true, Bool.true_or, Bool.or_false, Bool.false_or, Bool.and_true, Bool.true_and, Bool.and_false, Bool.false_and, and_false, false_and, or_true, true_or, or_false, false_or, not_true, not_false]
    simp only [List.map_append, List.map_cons, List.map_nil]
    exact ⟨by omega, .act b' l, _, _, _, _, _, lo, rfl⟩
theorem w_twice {p : List Stop} {c : Int} {Q : O → Prop} (hp : PlanOk p) (hc : CellOk c) (k : ∀ (q : List Stop) (o' : O), PlanOk q → isP q o' → Q o') : Wp (M_law_twice [oI c, .dat (planD p)]) Q := by
  have l1 := hp.l1
  have ho : isP p (.dat (planD p)) := .inr rfl
  rw [M_law_twice, wp_runB, B_law_twice]
  refine wp_seq (fun e => e = [.shr (oI c), .shr (.dat (planD p)), .shr (oI p.length), .un, .un, .un, .un, .un, .un, .un]) ?_ ?_
  · simp only [XR, List.getElem?_cons_zero, List.getElem?_cons_succ, List.set_cons_zero, List.set_cons_succ, List.length_cons, List.length_nil, List.length_map, List.length_range, List.length_append, List.length_set, List.map_cons, List.map_nil, List.replicate_succ, List.replicate_zero, List.cons_append, List.nil_append, List.append_nil, Nat.reduceLeDiff, Nat.reduceLT, Nat.zero_lt_succ, Int.reduceLT, Int.reduceLE, Int.reduceAdd, Int.reduceToNat, Int.cast_ofNat_Int, Int.natCast_zero, Int.natCast_one, Int.reduceEq, Int.reduceNe, Nat.reduceEqDiff, eq_self, beq_self_eq_true, Bool.true_beq, Bool.false_beq, Classical.not_not, Bool.not_eq_false, Int.reduceNeg, Int.reducePow, Option.bind_some, Option.bind_none, Option.map_some, Option.map_none, Option.or_some, Option.or_none, Option.none_or, Option.some_or, Option.or, decide_eq_true_eq, if_true, if_false, ite_true, ite_false, and_true, true_and, Bool.not_eq_true, Bool.not_true, Bool.not_false, Bool.true_eq_false, Bool.false_eq_true, imp_false, not_false_eq_true, not_true_eq_false, forall_const, true_implies, false_implies, reduceCtorEq, Nat.reduceAdd, Nat.reduceSub, Nat.reduceLT, decide_true, decide_false, Bool.or_true, Bool.true_or, Bool.or_false, Bool.false_or, Bool.and_true, Bool.true_and, Bool.and_false, Bool.false_and, and_false, false_and, or_true, true_or, or_false, false_or, not_true, not_false, len_p ho]
    exact ⟨_, rfl, rfl⟩
  rintro e rfl
  refine wp_seqR (fun e => p.length ≤ 6 ∧ e = [.shr (oI c), .shr (.dat (planD p)), .shr (oI p.length), .un, .un, .un, .un, .un, .un, .un]) ?_ ?_
  · simp only [XR, List.getElem?_cons_zero, List.getElem?_cons_succ, List.set_cons_zero, List.set_cons_succ, List.length_cons, List.length_nil, List.length_map, List.length_range, List.length_append, List.length_set, List.map_cons, List.map_nil, List.replicate_succ, List.replicate_zero, List.cons_append, List.nil_append, List.append_nil, Nat.reduceLeDiff, Nat.reduceLT, Nat.zero_lt_succ, Int.reduceLT, Int.reduceLE, Int.reduceAdd, Int.reduceToNat, Int.cast_ofNat_Int, Int.natCast_zero, Int.natCast_one, Int.reduceEq, Int.reduceNe, Nat.reduceEqDiff, eq_self, beq_self_eq_true, Bool.true_beq, Bool.false_beq, Classical.not_not, Bool.not_eq_false, Int.reduceNeg, Int.reducePow, Option.bind_some, Option.bind_none, Option.map_some, Option.map_none, Option.or_some, Option.or_none, Option.none_or, Option.some_or, Option.or, decide_eq_true_eq, if_true, if_false, ite_true, ite_false, and_true, true_and, Bool.not_eq_true, Bool.not_true, Bool.not_false, Bool.true_eq_false, Bool.false_eq_true, imp_false, not_false_eq_true, not_true_eq_false, forall_const, true_implies, false_implies, reduceCtorEq, Nat.reduceAdd, Nat.reduceSub, Nat.reduceLT, decide_true, decide_false, Bool.or_true, Bool.true_or, Bool.or_false, Bool.false_or, Bool.and_true, Bool.true_and, Bool.and_false, Bool.false_and, and_false, false_and, or_true, true_or, or_false, false_or, not_true, not_false]
    exact ⟨fun _ => .inr ⟨_, rfl, k p _ hp (.inr rfl)⟩, fun _ => ⟨fun _ => .inr ⟨_, rfl, k p _ hp (.inr rfl)⟩, fun h => .inl ⟨_, rfl, by have := of_decide_eq_false h; omega, rfl⟩⟩⟩
  rintro e ⟨h6, rfl⟩
  refine wp_seq (fun e => e = [.shr (oI c), .shr (.dat (planD p)), .shr (oI p.length), .own (.lst ([] : List D)), .un, .un, .un, .un, .un, .un]) ?_ ?_
  · simp only [XR, List.getElem?_cons_zero, List.getElem?_cons_succ, List.set_cons_zero, List.set_cons_succ, List.length_cons, List.length_nil, List.length_map, List.length_range, List.length_append, List.length_set, List.map_cons, List.map_nil, List.replicate_succ, List.replicate_zero, List.cons_append, List.nil_append, List.append_nil, Nat.reduceLeDiff, Nat.reduceLT, Nat.zero_lt_succ, Int.reduceLT, Int.reduceLE, Int.reduceAdd, Int.reduceToNat, Int.cast_ofNat_Int, Int.natCast_zero, Int.natCast_one, Int.reduceEq, Int.reduceNe, Nat.reduceEqDiff, eq_self, beq_self_eq_true, Bool.true_beq, Bool.false_beq, Classical.not_not, Bool.not_eq_false, Int.reduceNeg, Int.reducePow, Option.bind_some, Option.bind_none, Option.map_some, Option.map_none, Option.or_some, Option.or_none, Option.none_or, Option.some_or, Option.or, decide_eq_true_eq, if_true, if_false, ite_true, ite_false, and_true, true_and, Bool.not_eq_true, Bool.not_true, Bool.not_false, Bool.true_eq_false, Bool.false_eq_true, imp_false, not_false_eq_true, not_true_eq_false, forall_const, true_implies, false_implies, reduceCtorEq, Nat.reduceAdd, Nat.reduceSub, Nat.reduceLT, decide_true, decide_false, Bool.or_true, Bool.true_or, Bool.or_false, Bool.false_or, Bool.and_true, Bool.true_and, Bool.and_false, Bool.false_and, and_false, false_and, or_true, true_or, or_false, false_or, not_true, not_false]
    exact ⟨_, rfl, rfl⟩
  rintro e rfl
  refine wp_seq (fun e => ∃ (q : List Stop) (b4 b5 b6 b7 b8 b9 : Sl), q.length = 2 * p.length ∧ (∀ s ∈ q, StopOk (2 * p.length : Nat) s) ∧ e = [.shr (oI c), .shr (.dat (planD p)), .shr (oI p.length), .own (.lst (q.map stopD)), b4, b5, b6, b7, b8, b9]) ?_ ?_
  · simp only [XR, List.getElem?_cons_zero, List.getElem?_cons_succ, List.set_cons_zero, List.set_cons_succ, List.length_cons, List.length_nil, List.length_map, List.length_range, List.length_append, List.length_set, List.map_cons, List.map_nil, List.replicate_succ, List.replicate_zero, List.cons_append, List.nil_append, List.append_nil, Nat.reduceLeDiff, Nat.reduceLT, Nat.zero_lt_succ, Int.reduceLT, Int.reduceLE, Int.reduceAdd, Int.reduceToNat, Int.cast_ofNat_Int, Int.natCast_zero, Int.natCast_one, Int.reduceEq, Int.reduceNe, Nat.reduceEqDiff, eq_self, beq_self_eq_true, Bool.true_beq, Bool.false_beq, Classical.not_not, Bool.not_eq_false, Int.reduceNeg, Int.reducePow, Option.bind_some, Option.bind_none, Option.map_some, Option.map_none, Option.or_some, Option.or_none, Option.none_or, Option.some_or, Option.or, decide_eq_true_eq, if_true, if_false, ite_true, ite_false, and_true, true_and, Bool.not_eq_true, Bool.not_true, Bool.not_false, Bool.true_eq_false, Bool.false_eq_true, imp_false, not_false_eq_true, not_true_eq_false, forall_const, true_implies, false_implies, reduceCtorEq, Nat.reduceAdd, Nat.reduceSub, Nat.reduceLT, decide_true, decide_false, Bool.or_true, Bool.true_or, Bool.or_false, Bool.false_or, Bool.and_true, Bool.true_and, Bool.and_false, Bool.false_and, and_false, false_and, or_true, true_or, or_false, false_or, not_true, not_false]
    refine ⟨by omega, ?_⟩
    rw [show (2 * (p.length : Int)).toNat = 2 * p.length by omega]
    refine wp_for (fun i e => ∃ (q : List Stop) (b4 b5 b6 b7 b8 b9 : Sl), q.length = i ∧ (∀ s ∈ q, StopOk (2 * p.length : Nat) s) ∧ e = [.shr (oI c), .shr (.dat (planD p)), .shr (oI p.length), .own (.lst (q.map stopD)), b4, b5, b6, b7, b8, b9]) ⟨[], _, _, _, _, _, _, rfl, by simp, rfl⟩ ?_ ?_
    · rintro i d e hi ⟨q, b4, b5, b6, b7, b8, b9, hl, hok, rfl⟩
      obtain ⟨rfl, hi2⟩ := rng_get hi
      simp only [XR, List.getElem?_cons_zero, List.getElem?_cons_succ, List.set_cons_zero, List.set_cons_succ, List.length_cons, List.length_nil, List.length_map, List.length_range, List.length_append, List.length_set, List.map_cons, List.map_nil, List.replicate_succ, List.replicate_zero, List.cons_append, List.nil_append, List.append_nil, Nat.reduceLeDiff, Nat.reduceLT, Nat.zero_lt_succ, Int.reduceLT, Int.reduceLE, Int.reduceAdd, Int.reduceToNat, Int.cast_ofNat_Int, Int.natCast_zero, Int.natCast_one, Int.reduceEq, Int.reduceNe, Nat.reduceEqDiff, eq_self, beq_self_eq_true, Bool.true_beq, Bool.false_beq, Classical.not_not, Bool.not_eq_false, Int.reduceNeg, Int.reducePow, Option.bind_some, Option.bind_none, Option.map_some, Option.map_none, Option.or_some, Option.or_none, Option.none_or, Option.some_or, Option.or, decide_eq_true_eq, if_true, if_false, ite_true, ite_false, and_true, true_and, Bool.not_eq_true, Bool.not_true, Bool.not_false, Bool.true_eq_false, Bool.false_eq_true, imp_false, not_false_eq_true, not_true_eq_false, forall_const, true_implies, false_implies, reduceCtorEq, Nat.reduceAdd, Nat.reduceSub, Nat.reduceLT, decide_true, decide_false, Bool.or_true, Bool.true_or, Bool.or_false, Bool.false_or, Bool.and_true, Bool.true_and, Bool.and_false, Bool.false_and, and_false, false_and, or_true, true_or, or_false, false_or, not_true, not_false]
      refine (twice_row ho hp hc h6 (by omega) hi2).imp ?_
      rintro out ⟨s, c5, c6, c7, c8, c9, hs, rfl⟩
      refine ⟨_, _, _, _, _, _, _, by rw [List.length_append, hl]; rfl, fun x m => ?_, rfl⟩
      rcases List.mem_append.mp m with m | m
      · exact hok x m
      · rw [List.mem_singleton.mp m]; exact hs
    · rintro e ⟨q, b4, b5, b6, b7, b8, b9, hl, hok, rfl⟩
      rw [List.length_map, List.length_range] at hl
      exact ⟨_, rfl, q, _, _, _, _, _, _, hl, hok, rfl⟩
  rintro e ⟨q, b4, b5, b6, b7, b8, b9, hl, hok, rfl⟩
  simp only [XR, List.getElem?_cons_zero, List.getElem?_cons_succ, List.set_cons_zero, List.set_cons_succ, List.length_cons, List.length_nil, List.length_map, List.length_range, List.length_append, List.length_set, List.map_cons, List.map_nil, List.replicate_succ, List.replicate_zero, List.cons_append, List.nil_append, List.append_nil, Nat.reduceLeDiff, Nat.reduceLT, Nat.zero_lt_succ, Int.reduceLT, Int.reduceLE, Int.reduceAdd, Int.reduceToNat, Int.cast_ofNat_Int, Int.natCast_zero, Int.natCast_one, Int.reduceEq, Int.reduceNe, Nat.reduceEqDiff, eq_self, beq_self_eq_true, Bool.true_beq, Bool.false_beq, Classical.not_not, Bool.not_eq_false, Int.reduceNeg, Int.reducePow, Option.bind_some, Option.bind_none, Option.map_some, Option.map_none, Option.or_some, Option.or_none, Option.none_or, Option.some_or, Option.or, decide_eq_true_eq, if_true, if_false, ite_true, ite_false, and_true, true_and, Bool.not_eq_true, Bool.not_true, Bool.not_false, Bool.true_eq_false, Bool.false_eq_true, imp_false, not_false_eq_true, not_true_eq_false, forall_const, true_implies, false_implies, reduceCtorEq, Nat.reduceAdd, Nat.reduceSub, Nat.reduceLT, decide_true, decide_false, Bool.or_true, Bool.true_or, Bool.or_false, Bool.false_or, Bool.and_true, Bool.true_and, Bool.and_false, Bool.false_and, and_false, false_and, or_true, true_or, or_false, false_or, not_true, not_false]
  exact k q _ ⟨by omega, by omega, fun s m => by rw [hl]; exact hok s m⟩ (.inl rfl)
/-! ### the order -/
theorem order_loop {o : O} {a2 : Sl} {Q : Out → Prop} : ∀ (ws : List (Str × Int)) (fs : List Int) (a3 a4 : Sl), fs.length + ws.length ≤ 1000 →
    (∀ b3 b4, Q (.nx [.shr o, .own (.lst ((adds fs (ws.map (·.2))).map .int)), a2, b3, b4])) →
    Wp (forL (tg2 3 4) L_law_order_1 (ws.map wayD) [.shr o, .own (.lst (fs.map .int)), a2, a3, a4]) Q := fun ws fs a3 a4 h k => new_loop ws fs a3 a4 h k
theorem law_order_ok {p : List Stop} {o : O} (ho : isP p o) (hp : PlanOk p) : M_law_order [o] = some (.lst ((rchF p).map .int)) := Wp.eq (by
  have n12 := hp.l12
  rw [M_law_order, wp_runB, B_law_order]
  refine wp_seq (fun e => e = [.shr o, .own (.lst ((rch p 0).map .int)), .un, .un, .un]) ?_ ?_
  · simp only [XR, List.getElem?_cons_zero, List.getElem?_cons_succ, List.set_cons_zero, List.set_cons_succ, List.length_cons, List.length_nil, List.length_map, List.length_range, List.length_append, List.length_set, List.map_cons, List.map_nil, List.replicate_succ, List.replicate_zero, List.cons_append, List.nil_append, List.append_nil, Nat.reduceLeDiff, Nat.reduceLT, Nat.zero_lt_succ, Int.reduceLT, Int.reduceLE, Int.reduceAdd, Int.reduceToNat, Int.cast_ofNat_Int, Int.natCast_zero, Int.natCast_one, Int.reduceEq, Int.reduceNe, Nat.reduceEqDiff, eq_self, beq_self_eq_true, Bool.true_beq, Bool.false_beq, Classical.not_not, Bool.not_eq_false, Int.reduceNeg, Int.reducePow, Option.bind_some, Option.bind_none, Option.map_some, Option.map_none, Option.or_some, Option.or_none, Option.none_or, Option.some_or, Option.or, decide_eq_true_eq, if_true, if_false, ite_true, ite_false, and_true, true_and, Bool.not_eq_true, Bool.not_true, Bool.not_false, Bool.true_eq_false, Bool.false_eq_true, imp_false, not_false_eq_true, not_true_eq_false, forall_const, true_implies, false_implies, reduceCtorEq, Nat.reduceAdd, Nat.reduceSub, Nat.reduceLT, decide_true, decide_false, Bool.or_true, Bool.true_or, Bool.or_false, Bool.false_or, Bool.and_true, Bool.true_and, Bool.and_false, Bool.false_and, and_false, false_and, or_true, true_or, or_false, false_or, not_true, not_false]
    exact ⟨_, rfl, rfl⟩
  rintro e rfl
  refine wp_seq (fun e => ∃ a2 a3 a4 : Sl, e = [.shr o, .own (.lst ((rchF p).map .int)), a2, a3, a4]) ?_ ?_
  · simp only [XR, List.getElem?_cons_zero, List.getElem?_cons_succ, List.set_cons_zero, List.set_cons_succ, List.length_cons, List.length_nil, List.length_map, List.length_range, List.length_append, List.length_set, List.map_cons, List.map_nil, List.replicate_succ, List.replicate_zero, List.cons_append, List.nil_append, List.append_nil, Nat.reduceLeDiff, Nat.reduceLT, Nat.zero_lt_succ, Int.reduceLT, Int.reduceLE, Int.reduceAdd, Int.reduceToNat, Int.cast_ofNat_Int, Int.natCast_zero, Int.natCast_one, Int.reduceEq, Int.reduceNe, Nat.reduceEqDiff, eq_self, beq_self_eq_true, Bool.true_beq, Bool.false_beq, Classical.not_not, Bool.not_eq_false, Int.reduceNeg, Int.reducePow, Option.bind_some, Option.bind_none, Option.map_some, Option.map_none, Option.or_some, Option.or_none, Option.none_or, Option.some_or, Option.or, decide_eq_true_eq, if_true, if_false, ite_true, ite_false, and_true, true_and, Bool.not_eq_true, Bool.not_true, Bool.not_false, Bool.true_eq_false, Bool.false_eq_true, imp_false, not_false_eq_true, not_true_eq_false, forall_const, true_implies, false_implies, reduceCtorEq, Nat.reduceAdd, Nat.reduceSub, Nat.reduceLT, decide_true, decide_false, Bool.or_true, Bool.true_or, Bool.or_false, Bool.false_or, Bool.and_true, Bool.true_and, Bool.and_false, Bool.false_and, and_false, false_and, or_true, true_or, or_false, false_or, not_true, not_false, len_p ho]
    refine ⟨by omega, ?_⟩
    rw [Int.toNat_natCast]
    refine wp_for (fun t e => ∃ a2 a3 a4 : Sl, e = [.shr o, .own (.lst ((rch p t).map .int)), a2, a3, a4]) ⟨_, _, _, rfl⟩ ?_ ?_
    · rintro t d e hi ⟨a2, a3, a4, rfl⟩
      obtain ⟨rfl, hi⟩ := rng_get hi
      have le := rch_len hp t
      simp only [XR, List.getElem?_cons_zero, List.getElem?_cons_succ, List.set_cons_zero, List.set_cons_succ, List.length_cons, List.length_nil, List.length_map, List.length_range, List.length_append, List.length_set, List.map_cons, List.map_nil, List.replicate_succ, List.replicate_zero, List.cons_append, List.nil_append, List.append_nil, Nat.reduceLeDiff, Nat.reduceLT, Nat.zero_lt_succ, Int.reduceLT, Int.reduceLE, Int.reduceAdd, Int.reduceToNat, Int.cast_ofNat_Int, Int.natCast_zero, Int.natCast_one, Int.reduceEq, Int.reduceNe, Nat.reduceEqDiff, eq_self, beq_self_eq_true, Bool.true_beq, Bool.false_beq, Classical.not_not, Bool.not_eq_false, Int.reduceNeg, Int.reducePow, Option.bind_some, Option.bind_none, Option.map_some, Option.map_none, Option.or_some, Option.or_none, Option.none_or, Option.some_or, Option.or, decide_eq_true_eq, if_true, if_false, ite_true, ite_false, and_true, true_and, Bool.not_eq_true, Bool.not_true, Bool.not_false, Bool.true_eq_false, Bool.false_eq_true, imp_false, not_false_eq_true, not_true_eq_false, forall_const, true_implies, false_implies, reduceCtorEq, Nat.reduceAdd, Nat.reduceSub, Nat.reduceLT, decide_true, decide_false, Bool.or_true, Bool.true_or, Bool.or_false, Bool.false_or, Bool.and_true, Bool.true_and, Bool.and_false, Bool.false_and, and_false, false_and, or_true, true_or, or_false, false_or, not_true, not_false]
      rcases Nat.lt_or_ge t (rch p t).length with hl | hl
      · have ex := List.getElem?_eq_getElem hl
        generalize (rch p t)[t] = i at ex
        have hi := rch_in hp t i (List.mem_of_getElem? ex)
        have w6 := ways6 hp hi
        unfold L_law_order_2
        cases e : atS p i with
        | fin =>
          refine w_else (w_andT ?_ ?_) ?_
          · simp only [XR, List.getElem?_cons_zero, List.getElem?_cons_succ, List.set_cons_zero, List.set_cons_succ, List.length_cons, List.length_nil, List.length_map, List.length_range, List.length_append, List.length_set, List.map_cons, List.map_nil, List.replicate_succ, List.replicate_zero, List.cons_append, List.nil_append, List.append_nil, Nat.reduceLeDiff, Nat.reduceLT, Nat.zero_lt_succ, Int.reduceLT, Int.reduceLE, Int.reduceAdd, Int.reduceToNat, Int.cast_ofNat_Int, Int.natCast_zero, Int.natCast_one, Int.reduceEq, Int.reduceNe, Nat.reduceEqDiff, eq_self, beq_self_eq_true, Bool.true_beq, Bool.false_beq, Classical.not_not, Bool.not_eq_false, Int.reduceNeg, Int.reducePow, Option.bind_some, Option.bind_none, Option.map_some, Option.map_none, Option.or_some, Option.or_none, Option.none_or, Option.some_or, Option.or, decide_eq_true_eq, if_true, if_false, ite_true, ite_false, and_true, true_and, Bool.not_eq_true, Bool.not_true, Bool.not_false, Bool.true_eq_false, Bool.false_eq_true, imp_false, not_false_eq_true, not_true_eq_false, forall_const, true_implies, false_implies, reduceCtorEq, Nat.reduceAdd, Nat.reduceSub, Nat.reduceLT, decide_true, decide_false, Bool.or_true, Bool.true_or, Bool.or_false, Bool.false_or, Bool.and_true, Bool.true_and, Bool.and_false, Bool.false_and, and_false, false_and, or_true, true_or, or_false, false_or, not_true, not_false, decide_eq_true (show (t : Int) < (rch p t).length by omega)]
          · simp only [XR, List.getElem?_cons_zero, List.getElem?_cons_succ, List.set_cons_zero, List.set_cons_succ, List.length_cons, List.length_nil, List.length_map, List.length_range, List.length_append, List.length_set, List.map_cons, List.map_nil, List.replicate_succ, List.replicate_zero, List.cons_append, List.nil_append, List.append_nil, Nat.reduceLeDiff, Nat.reduceLT, Nat.zero_lt_succ, Int.reduceLT, Int.reduceLE, Int.reduceAdd, Int.reduceToNat, Int.cast_ofNat_Int, Int.natCast_zero, Int.natCast_one, Int.reduceEq, Int.reduceNe, Nat.reduceEqDiff, eq_self, beq_self_eq_true, Bool.true_beq, Bool.false_beq, Classical.not_not, Bool.not_eq_false, Int.reduceNeg, Int.reducePow, Option.bind_some, Option.bind_none, Option.map_some, Option.map_none, Option.or_some, Option.or_none, Option.none_or, Option.some_or, Option.or, decide_eq_true_eq, if_true, if_false, ite_true, ite_false, and_true, true_and, Bool.not_eq_true, Bool.not_true, Bool.not_false, Bool.true_eq_false, Bool.false_eq_true, imp_false, not_false_eq_true, not_true_eq_false, forall_const, true_implies, false_implies, reduceCtorEq, Nat.reduceAdd, Nat.reduceSub, Nat.reduceLT, decide_true, decide_false, Bool.or_true, Bool.true_or, Bool.or_false, Bool.false_or, Bool.and_true, Bool.true_and, Bool.and_false, Bool.false_and, and_false, false_and, or_true, true_or, or_false, false_or, not_true, not_false, ixI ex, ix_p ho hi, e, fin_head]
          · have : rch p (t + 1) = rch p t := by rw [rch_some ex]; unfold gls; rw [e]; rfl
            rw [this]
            exact ⟨_, rfl, _, _, _, rfl⟩
        | act b ws =>
          rw [e] at w6
          have w6 : ws.length ≤ 6 := w6
          refine w_then (w_andT ?_ ?_) ?_
          · simp only [XR, List.getElem?_cons_zero, List.getElem?_cons_succ, List.set_cons_zero, List.set_cons_succ, List.length_cons, List.length_nil, List.length_map, List.length_range, List.length_append, List.length_set, List.map_cons, List.map_nil, List.replicate_succ, List.replicate_zero, List.cons_append, List.nil_append, List.append_nil, Nat.reduceLeDiff, Nat.reduceLT, Nat.zero_lt_succ, Int.reduceLT, Int.reduceLE, Int.reduceAdd, Int.reduceToNat, Int.cast_ofNat_Int, Int.natCast_zero, Int.natCast_one, Int.reduceEq, Int.reduceNe, Nat.reduceEqDiff, eq_self, beq_self_eq_true, Bool.true_beq, Bool.false_beq, Classical.not_not, Bool.not_eq_false, Int.reduceNeg, Int.reducePow, Option.bind_some, Option.bind_none, Option.map_some, Option.map_none, Option.or_some, Option.or_none, Option.none_or, Option.some_or, Option.or, decide_eq_true_eq, if_true, if_false, ite_true, ite_false, and_true, true_and, Bool.not_eq_true, Bool.not_true, Bool.not_false, Bool.true_eq_false, Bool.false_eq_true, imp_false, not_false_eq_true, not_true_eq_false, forall_const, true_implies, false_implies, reduceCtorEq, Nat.reduceAdd, Nat.reduceSub, Nat.reduceLT, decide_true, decide_false, Bool.or_true, Bool.true_or, Bool.or_false, Bool.false_or, Bool.and_true, Bool.true_and, Bool.and_false, Bool.false_and, and_false, false_and, or_true, true_or, or_false, false_or, not_true, not_false, decide_eq_true (show (t : Int) < (rch p t).length by omega)]
          · simp only [XR, List.getElem?_cons_zero, List.getElem?_cons_succ, List.set_cons_zero, List.set_cons_succ, List.length_cons, List.length_nil, List.length_map, List.length_range, List.length_append, List.length_set, List.map_cons, List.map_nil, List.replicate_succ, List.replicate_zero, List.cons_append, List.nil_append, List.append_nil, Nat.reduceLeDiff, Nat.reduceLT, Nat.zero_lt_succ, Int.reduceLT, Int.reduceLE, Int.reduceAdd, Int.reduceToNat, Int.cast_ofNat_Int, Int.natCast_zero, Int.natCast_one, Int.reduceEq, Int.reduceNe, Nat.reduceEqDiff, eq_self, beq_self_eq_true, Bool.true_beq, Bool.false_beq, Classical.not_not, Bool.not_eq_false, Int.reduceNeg, Int.reducePow, Option.bind_some, Option.bind_none, Option.map_some, Option.map_none, Option.or_some, Option.or_none, Option.none_or, Option.some_or, Option.or, decide_eq_true_eq, if_true, if_false, ite_true, ite_false, and_true, true_and, Bool.not_eq_true, Bool.not_true, Bool.not_false, Bool.true_eq_false, Bool.false_eq_true, imp_false, not_false_eq_true, not_true_eq_false, forall_const, true_implies, false_implies, reduceCtorEq, Nat.reduceAdd, Nat.reduceSub, Nat.reduceLT, decide_true, decide_false, Bool.or_true, Bool.true_or, Bool.or_false, Bool.false_or, Bool.and_true, Bool.true_and, Bool.and_false, Bool.false_and, and_false, false_and, or_true, true_or, or_false, false_or, not_true, not_false, ixI ex, ix_p ho hi, e, act_head]
            exact ⟨_, (by cases b <;> rfl), rfl⟩
          · simp only [XR, List.getElem?_cons_zero, List.getElem?_cons_succ, List.set_cons_zero, List.set_cons_succ, List.length_cons, List.length_nil, List.length_map, List.length_range, List.length_append, List.length_set, List.map_cons, List.map_nil, List.replicate_succ, List.replicate_zero, List.cons_append, List.nil_append, List.append_nil, Nat.reduceLeDiff, Nat.reduceLT, Nat.zero_lt_succ, Int.reduceLT, Int.reduceLE, Int.reduceAdd, Int.reduceToNat, Int.cast_ofNat_Int, Int.natCast_zero, Int.natCast_one, Int.reduceEq, Int.reduceNe, Nat.reduceEqDiff, eq_self, beq_self_eq_true, Bool.true_beq, Bool.false_beq, Classical.not_not, Bool.not_eq_false, Int.reduceNeg, Int.reducePow, Option.bind_some, Option.bind_none, Option.map_some, Option.map_none, Option.or_some, Option.or_none, Option.none_or, Option.some_or, Option.or, decide_eq_true_eq, if_true, if_false, ite_true, ite_false, and_true, true_and, Bool.not_eq_true, Bool.not_true, Bool.not_false, Bool.true_eq_false, Bool.false_eq_true, imp_false, not_false_eq_true, not_true_eq_false, forall_const, true_implies, false_implies, reduceCtorEq, Nat.reduceAdd, Nat.reduceSub, Nat.reduceLT, decide_true, decide_false, Bool.or_true, Bool.true_or, Bool.or_false, Bool.false_or, Bool.and_true, Bool.true_and, Bool.and_false, Bool.false_and, and_false, false_and, or_true, true_or, or_false, false_or, not_true, not_false, ixI ex, ix_p ho hi, e, act_ways]
            refine order_loop _ _ _ _ (by omega) fun b3 b4 => ?_
            have e : adds (rch p t) (ws.map (·.2)) = rch p (t + 1) := by rw [rch_some ex]; unfold gls; rw [e]; rfl
            rw [e]
            exact ⟨_, _, _, rfl⟩
      · unfold L_law_order_2
        refine w_else (w_andF ?_) ?_
        · simp only [XR, List.getElem?_cons_zero, List.getElem?_cons_succ, List.set_cons_zero, List.set_cons_succ, List.length_cons, List.length_nil, List.length_map, List.length_range, List.length_append, List.length_set, List.map_cons, List.map_nil, List.replicate_succ, List.replicate_zero, List.cons_append, List.nil_append, List.append_nil, Nat.reduceLeDiff, Nat.reduceLT, Nat.zero_lt_succ, Int.reduceLT, Int.reduceLE, Int.reduceAdd, Int.reduceToNat, Int.cast_ofNat_Int, Int.natCast_zero, Int.natCast_one, Int.reduceEq, Int.reduceNe, Nat.reduceEqDiff, eq_self, beq_self_eq_true, Bool.true_beq, Bool.false_beq, Classical.not_not, Bool.not_eq_false, Int.reduceNeg, Int.reducePow, Option.bind_some, Option.bind_none, Option.map_some, Option.map_none, Option.or_some, Option.or_none, Option.none_or, Option.some_or, Option.or, decide_eq_true_eq, if_true, if_false, ite_true, ite_false, and_true, true_and, Bool.not_eq_true, Bool.not_true, Bool.not_false, Bool.true_eq_false, Bool.false_eq_true, imp_false, not_false_eq_true, not_true_eq_false, forall_const, true_implies, false_implies, reduceCtorEq, Nat.reduceAdd, Nat.reduceSub, Nat.reduceLT, decide_true, decide_false, Bool.or_true, Bool.true_or, Bool.or_false, Bool.false_or, Bool.and_true, Bool.true_and, Bool.and_false, Bool.false_and, and_false, false_and, or_true, true_or, or_false, false_or, not_true, not_false, decide_eq_false (show ¬ (t : Int) < (rch p t).length by omega)]
        · rw [rch_none (List.getElem?_eq_none_iff.mpr hl)]
          exact ⟨_, rfl, _, _, _, rfl⟩
    · rintro e ⟨a2, a3, a4, rfl⟩
      rw [List.length_map, List.length_range]
      exact ⟨_, rfl, _, _, _, rfl⟩
  rintro e ⟨a2, a3, a4, rfl⟩
  simp only [XR, List.getElem?_cons_zero, List.getElem?_cons_succ, List.set_cons_zero, List.set_cons_succ, List.length_cons, List.length_nil, List.length_map, List.length_range, List.length_append, List.length_set, List.map_cons, List.map_nil, List.replicate_succ, List.replicate_zero, List.cons_append, List.nil_append, List.append_nil, Nat.reduceLeDiff, Nat.reduceLT, Nat.zero_lt_succ, Int.reduceLT, Int.reduceLE, Int.reduceAdd, Int.reduceToNat, Int.cast_ofNat_Int, Int.natCast_zero, Int.natCast_one, Int.reduceEq, Int.reduceNe, Nat.reduceEqDiff, eq_self, beq_self_eq_true, Bool.true_beq, Bool.false_beq, Classical.not_not, Bool.not_eq_false, Int.reduceNeg, Int.reducePow, Option.bind_some, Option.bind_none, Option.map_some, Option.map_none, Option.or_some, Option.or_none, Option.none_or, Option.some_or, Option.or, decide_eq_true_eq, if_true, if_false, ite_true, ite_false, and_true, true_and, Bool.not_eq_true, Bool.not_true, Bool.not_false, Bool.true_eq_false, Bool.false_eq_true, imp_false, not_false_eq_true, not_true_eq_false, forall_const, true_implies, false_implies, reduceCtorEq, Nat.reduceAdd, Nat.reduceSub, Nat.reduceLT, decide_true, decide_false, Bool.or_true, Bool.true_or, Bool.or_false, Bool.false_or, Bool.and_true, Bool.true_and, Bool.and_false, Bool.false_and, and_false, false_and, or_true, true_or, or_false, false_or, not_true, not_false])
/-! ### alike -/
theorem sortKeysS {m : Int} {s : Stop} (h : StopOk m s) : gSortKeys (.dK ((waysS s).map entD)) = some (.lst (((waysS s).map (·.1)).map .str)) := by
  have e1 : ∀ l : List (Str × Int), asSs ((l.map entD).map (·.1)) = some (l.map (·.1)) := fun l => by
    induction l with
    | nil => rfl
    | cons u l ih => rw [List.map_cons, List.map_cons]; show (asSs ((l.map entD).map (·.1))).map _ = _; rw [ih]; rfl
  have ok : (decide (((waysS s).map (·.1)).length < 64) && risK ((waysS s).map (·.1))) = true := by
    rw [Bool.and_eq_true]
    unfold risK
    cases s with
    | fin => exact ⟨by decide, decide_eq_true .nil⟩
    | act b l =>
      have h : WaysOk m l := h
      exact ⟨decide_eq_true (by rw [List.length_map]; have := h.l6; show l.length < 64; omega), decide_eq_true (List.pairwise_map.mpr h.so)⟩
  show ((asSs (((waysS s).map entD).map (·.1))).bind fun ks => if (decide (ks.length < 64) && risK ks) = true then some (O.lst (ks.map .str)) else none) = _
  rw [e1, Option.bind_some, if_pos ok]
theorem sortKeysD {m : Int} {s : Stop} (h : StopOk m s) : gSortKeys (.dat (.dict ((waysS s).map entD))) = some (.lst (((waysS s).map (·.1)).map .str)) := by
  have := sortKeysS h
  unfold gSortKeys at this ⊢
  rw [dic_ways]
  exact this
def Mat (p q : List Stop) (B : Int → Int → Prop) : Prop := ∀ i j, B i j → inN p i ∧ inN q j ∧ kindS (atS p i) = kindS (atS q j) ∧ Paired (fun u v => u.1 = v.1 ∧ B u.2 v.2) (waysS (atS p i)) (waysS (atS q j))
theorem paired_eq_fst {B : Int → Int → Prop} : ∀ {l l' : List (Str × Int)}, Paired (fun u v => u.1 = v.1 ∧ B u.2 v.2) l l' → l.map (·.1) = l'.map (·.1)
  | _, _, .nil => rfl
  | _, _, .cons h t => by rw [List.map_cons, List.map_cons, h.1, paired_eq_fst t]
theorem paired_next {B : Int → Int → Prop} {w : Str} : ∀ {l l' : List (Str × Int)}, Paired (fun u v => u.1 = v.1 ∧ B u.2 v.2) l l' → (∃ u ∈ l, u.1 = w) → ∃ g1 g2, nextL l w = some g1 ∧ nextL l' w = some g2 ∧ B g1 g2
  | _, _, .nil, h => by obtain ⟨u, m, _⟩ := h; cases m
  | _, _, .cons (a := u) (b := v) h t, k => by
    rw [nextL, nextL]
    by_cases e : u.1 = w
    · rw [if_pos e, if_pos (by rw [← h.1]; exact e)]
      exact ⟨_, _, rfl, rfl, h.2⟩
    · rw [if_neg e, if_neg (by rw [← h.1]; exact e)]
      obtain ⟨x, m, ex⟩ := k
      rcases List.mem_cons.mp m with rfl | m
      · exact absurd ex e
      · exact paired_next t ⟨x, m, ex⟩
theorem any_prs {y : Pr} {fs : List Pr} : (fs.any fun x => decide (x = y)) = decide (y ∈ fs) := by
  rw [Bool.eq_iff_iff, List.any_eq_true, decide_eq_true_eq]
  constructor
  · rintro ⟨x, m, e⟩
    exact of_decide_eq_true e ▸ m
  · exact fun m => ⟨y, m, decide_eq_true rfl⟩
def hdA (o1 o2 : O) (fs : List Pr) (t : Nat) (a b : Int) (r : En) : En := .shr o1 :: .shr o2 :: .own (.lst (fs.map prD)) :: .shr (oI (t : Nat)) :: .shr (oI a) :: .shr (oI b) :: r
theorem alike_in {p q : List Stop} {B : Int → Int → Prop} (hB : Mat p q B) {o1 o2 : O} (h1 : isP p o1) (h2 : isP q o2) (hp : PlanOk p) (hq : PlanOk q) {a b : Int} (hab : B a b) {t : Nat} {Q : Out → Prop} : ∀ (ws : List (Str × Int)), (∀ u ∈ ws, u ∈ waysS (atS p a)) → ∀ (fs : List Pr) (a6 a7 : Sl), fs.Nodup → (∀ x ∈ fs, B x.1 x.2) → fs.length + ws.length ≤ 1000 →
    (∀ (gs : List Pr) b6 b7, gs.Nodup → (∀ x ∈ gs, B x.1 x.2) → fs.length ≤ gs.length → Q (.nx [.shr o1, .shr o2, .own (.lst (gs.map prD)), .shr (oI (t : Nat)), .shr (oI a), .shr (oI b), b6, b7])) →
    Wp (forL (tgN 6) (L_law_alike_1 M_law_ways) (ws.map fun u => .str u.1) [.shr o1, .shr o2, .own (.lst (fs.map prD)), .shr (oI (t : Nat)), .shr (oI a), .shr (oI b), a6, a7]) Q
  | [], _, fs, a6, a7, nd, all, _, k => ⟨_, rfl, k fs _ _ nd all (Nat.le_refl _)⟩
  | u :: ws, hw, fs, a6, a7, nd, all, hl, k => by
    rw [List.length_cons] at hl
    obtain ⟨ha, hb, _, hpr⟩ := hB a b hab
    obtain ⟨g1, g2, e1, e2, hg⟩ := paired_next hpr ⟨u, hw u List.mem_cons_self, rfl⟩
    rw [List.map_cons]
    refine wp_forC ?_
    have ni := notin_prs (y := (g1, g2)) (fs := fs)
    rw [any_prs] at ni
    simp only [prD] at ni
    have d1 : (nextL (waysS (atS p a)) u.1).map PyData.int = some (.int g1) := by rw [e1]; rfl
    have d2 : (nextL (waysS (atS q b)) u.1).map PyData.int = some (.int g2) := by rw [e2]; rfl
    simp only [L_law_alike_1, XR, List.getElem?_cons_zero, List.getElem?_cons_succ, List.set_cons_zero, List.set_cons_succ, List.length_cons, List.length_nil, List.length_map, List.length_range, List.length_append, List.length_set, List.map_cons, List.map_nil, List.replicate_succ, List.replicate_zero, List.cons_append, List.nil_append, List.append_nil, Nat.reduceLeDiff, Nat.reduceLT, Nat.zero_lt_succ, Int.reduceLT, Int.reduceLE, Int.reduceAdd, Int.reduceToNat, Int.cast_ofNat_Int, Int.natCast_zero, Int.natCast_one, Int.reduceEq, Int.reduceNe, Nat.reduceEqDiff, eq_self, beq_self_eq_true, Bool.true_beq, Bool.false_beq, Classical.not_not, Bool.not_eq_false, Int.reduceNeg, Int.reducePow, Option.bind_some, Option.bind_none, Option.map_some, Option.map_none, Option.or_some, Option.or_none, Option.none_or, Option.some_or, Option.or, decide_eq_true_eq, if_true, if_false, ite_true, ite_false, and_true, true_and, Bool.not_eq_true, Bool.not_true, Bool.not_false, Bool.true_eq_false, Bool.false_eq_true, imp_false, not_false_eq_true, not_true_eq_false, forall_const, true_implies, false_implies, reduceCtorEq, Nat.reduceAdd, Nat.reduceSub, Nat.reduceLT, decide_true, decide_false, Bool.or_true, Bool.true_or, Bool.or_false, Bool.false_or, Bool.and_true, Bool.true_and, Bool.and_false, Bool.false_and, and_false, false_and, or_true, true_or, or_false, false_or, not_true, not_false, ix_p h1 ha, ix_p h2 hb, law_ways_ok (at_ok hp ha), law_ways_ok (at_ok hq hb), get_key, d1, d2, ni]
    by_cases m : (g1, g2) ∈ fs
    · rw [decide_eq_true m]
      simp only [XR, List.getElem?_cons_zero, List.getElem?_cons_succ, List.set_cons_zero, List.set_cons_succ, List.length_cons, List.length_nil, List.length_map, List.length_range, List.length_append, List.length_set, List.map_cons, List.map_nil, List.replicate_succ, List.replicate_zero, List.cons_append, List.nil_append, List.append_nil, Nat.reduceLeDiff, Nat.reduceLT, Nat.zero_lt_succ, Int.reduceLT, Int.reduceLE, Int.reduceAdd, Int.reduceToNat, Int.cast_ofNat_Int, Int.natCast_zero, Int.natCast_one, Int.reduceEq, Int.reduceNe, Nat.reduceEqDiff, eq_self, beq_self_eq_true, Bool.true_beq, Bool.false_beq, Classical.not_not, Bool.not_eq_false, Int.reduceNeg, Int.reducePow, Option.bind_some, Option.bind_none, Option.map_some, Option.map_none, Option.or_some, Option.or_none, Option.none_or, Option.some_or, Option.or, decide_eq_true_eq, if_true, if_false, ite_true, ite_false, and_true, true_and, Bool.not_eq_true, Bool.not_true, Bool.not_false, Bool.true_eq_false, Bool.false_eq_true, imp_false, not_false_eq_true, not_true_eq_false, forall_const, true_implies, false_implies, reduceCtorEq, Nat.reduceAdd, Nat.reduceSub, Nat.reduceLT, decide_true, decide_false, Bool.or_true, Bool.true_or, Bool.or_false, Bool.false_or, Bool.and_true, Bool.true_and, Bool.and_false, Bool.false_and, and_false, false_and, or_true, true_or, or_false, false_or, not_true, not_false]
      exact ⟨_, rfl, alike_in hB h1 h2 hp hq hab ws (fun v hv => hw v (List.mem_cons_of_mem _ hv)) fs _ _ nd all (by omega) k⟩
    · rw [decide_eq_false m]
      simp only [XR, List.getElem?_cons_zero, List.getElem?_cons_succ, List.set_cons_zero, List.set_cons_succ, List.length_cons, List.length_nil, List.length_map, List.length_range, List.length_append, List.length_set, List.map_cons, List.map_nil, List.replicate_succ, List.replicate_zero, List.cons_append, List.nil_append, List.append_nil, Nat.reduceLeDiff, Nat.reduceLT, Nat.zero_lt_succ, Int.reduceLT, Int.reduceLE, Int.reduceAdd, Int.reduceToNat, Int.cast_ofNat_Int, Int.natCast_zero, Int.natCast_one, Int.reduceEq, Int.reduceNe, Nat.reduceEqDiff, eq_self, beq_self_eq_true, Bool.true_beq, Bool.false_beq, Classical.not_not, Bool.not_eq_false, Int.reduceNeg, Int.reducePow, Option.bind_some, Option.bind_none, Option.map_some, Option.map_none, Option.or_some, Option.or_none, Option.none_or, Option.some_or, Option.or, decide_eq_true_eq, if_true, if_false, ite_true, ite_false, and_true, true_and, Bool.not_eq_true, Bool.not_true, Bool.not_false, Bool.true_eq_false, Bool.false_eq_true, imp_false, not_false_eq_true, not_true_eq_false, forall_const, true_implies, false_implies, reduceCtorEq, Nat.reduceAdd, Nat.reduceSub, Nat.reduceLT, decide_true, decide_false, Bool.or_true, Bool.true_or, Bool.or_false, Bool.false_or, Bool.and_true, Bool.true_and, Bool.and_false, Bool.false_and, and_false, false_and, or_true, true_or, or_false, false_or, not_true, not_false]
      refine ⟨by omega, _, rfl, ?_⟩
      have := alike_in hB h1 h2 hp hq hab (t := t) (Q := Q) ws (fun v hv => hw v (List.mem_cons_of_mem _ hv)) (fs ++ [(g1, g2)]) (.shr (oS u.1)) (.shr (.dat (prD (g1, g2)))) (List.nodup_append.mpr ⟨nd, by simp, fun x hx y hy e => m (by rw [List.mem_singleton.mp hy] at e; exact e ▸ hx)⟩) (fun x hx => by
        rcases List.mem_append.mp hx with h | h
        · exact all x h
        · rw [List.mem_singleton.mp h]; exact hg) (by rw [List.length_append, List.length_singleton]; omega) fun gs b6 b7 n1 n2 n3 => k gs b6 b7 n1 n2 (by rw [List.length_append, List.length_singleton] at n3; omega)
      rw [List.map_append] at this
      exact this
theorem law_alike_ok {p q : List Stop} {B : Int → Int → Prop} (hB : Mat p q B) (b0 : B 0 0) {o1 o2 : O} (h1 : isP p o1) (h2 : isP q o2) (hp : PlanOk p) (hq : PlanOk q) : M_law_alike [o1, o2] = some (oB true) := Wp.eq (by
  have n1 := hp.l12
  have n2 := hq.l12
  have mn : p.length * q.length ≤ 144 := Nat.mul_le_mul n1 n2
  have few : ∀ fs : List Pr, fs.Nodup → (∀ x ∈ fs, B x.1 x.2) → fs.length ≤ 144 := fun fs nd all => by
    have := pair_nodup (m := p.length) (n := q.length) nd fun x m => ⟨(hB _ _ (all x m)).1, (hB _ _ (all x m)).2.1⟩
    omega
  rw [M_law_alike, wp_runB, B_law_alike]
  refine wp_seq (fun e => e = [.shr o1, .shr o2, .own (.lst ([((0 : Int), (0 : Int))].map prD)), .un, .un, .un, .un, .un]) ?_ ?_
  · simp only [XR, List.getElem?_cons_zero, List.getElem?_cons_succ, List.set_cons_zero, List.set_cons_succ, List.length_cons, List.length_nil, List.length_map, List.length_range, List.length_append, List.length_set, List.map_cons, List.map_nil, List.replicate_succ, List.replicate_zero, List.cons_append, List.nil_append, List.append_nil, Nat.reduceLeDiff, Nat.reduceLT, Nat.zero_lt_succ, Int.reduceLT, Int.reduceLE, Int.reduceAdd, Int.reduceToNat, Int.cast_ofNat_Int, Int.natCast_zero, Int.natCast_one, Int.reduceEq, Int.reduceNe, Nat.reduceEqDiff, eq_self, beq_self_eq_true, Bool.true_beq, Bool.false_beq, Classical.not_not, Bool.not_eq_false, Int.reduceNeg, Int.reducePow, Option.bind_some, Option.bind_none, Option.map_some, Option.map_none, Option.or_some, Option.or_none, Option.none_or, Option.some_or, Option.or, decide_eq_true_eq, if_true, if_false, ite_true, ite_false, and_true, true_and, Bool.not_eq_true, Bool.not_true, Bool.not_false, Bool.true_eq_false, Bool.false_eq_true, imp_false, not_false_eq_true, not_true_eq_false, forall_const, true_implies, false_implies, reduceCtorEq, Nat.reduceAdd, Nat.reduceSub, Nat.reduceLT, decide_true, decide_false, Bool.or_true, Bool.true_or, Bool.or_false, Bool.false_or, Bool.and_true, Bool.true_and, Bool.and_false, Bool.false_and, and_false, false_and, or_true, true_or, or_false, false_or, not_true, not_false]
    exact ⟨_, rfl, rfl⟩
  rintro e rfl
  refine wp_seq (fun e => e = [.shr o1, .shr o2, .own (.lst ([((0 : Int), (0 : Int))].map prD)), .shr (oI (0 : Nat)), .un, .un, .un, .un]) ?_ ?_
  · simp only [XR, List.getElem?_cons_zero, List.getElem?_cons_succ, List.set_cons_zero, List.set_cons_succ, List.length_cons, List.length_nil, List.length_map, List.length_range, List.length_append, List.length_set, List.map_cons, List.map_nil, List.replicate_succ, List.replicate_zero, List.cons_append, List.nil_append, List.append_nil, Nat.reduceLeDiff, Nat.reduceLT, Nat.zero_lt_succ, Int.reduceLT, Int.reduceLE, Int.reduceAdd, Int.reduceToNat, Int.cast_ofNat_Int, Int.natCast_zero, Int.natCast_one, Int.reduceEq, Int.reduceNe, Nat.reduceEqDiff, eq_self, beq_self_eq_true, Bool.true_beq, Bool.false_beq, Classical.not_not, Bool.not_eq_false, Int.reduceNeg, Int.reducePow, Option.bind_some, Option.bind_none, Option.map_some, Option.map_none, Option.or_some, Option.or_none, Option.none_or, Option.some_or, Option.or, decide_eq_true_eq, if_true, if_false, ite_true, ite_false, and_true, true_and, Bool.not_eq_true, Bool.not_true, Bool.not_false, Bool.true_eq_false, Bool.false_eq_true, imp_false, not_false_eq_true, not_true_eq_false, forall_const, true_implies, false_implies, reduceCtorEq, Nat.reduceAdd, Nat.reduceSub, Nat.reduceLT, decide_true, decide_false, Bool.or_true, Bool.true_or, Bool.or_false, Bool.false_or, Bool.and_true, Bool.true_and, Bool.and_false, Bool.false_and, and_false, false_and, or_true, true_or, or_false, false_or, not_true, not_false]
    exact ⟨_, rfl, rfl⟩
  rintro e rfl
  refine wp_seq (fun e => True) ?_ ?_
  · show Wp (whileL _ _ fuel _) _
    refine wp_while (fun k e => ∃ (t : Nat) (fs : List Pr) (a4 a5 a6 a7 : Sl), fs.Nodup ∧ (∀ x ∈ fs, B x.1 x.2) ∧ t ≤ fs.length ∧ k = 144 - t ∧ e = [.shr o1, .shr o2, .own (.lst (fs.map prD)), .shr (oI (t : Nat)), a4, a5, a6, a7]) ?_ fuel 144 _ (by unfold fuel; omega) ⟨0, [(0, 0)], _, _, _, _, by simp, fun x m => by rw [List.mem_singleton.mp m]; exact b0, Nat.zero_le _, rfl, rfl⟩
    rintro k e ⟨t, fs, a4, a5, a6, a7, nd, all, ht, rfl, rfl⟩
    have le := few fs nd all
    simp only [XR, List.getElem?_cons_zero, List.getElem?_cons_succ, List.set_cons_zero, List.set_cons_succ, List.length_cons, List.length_nil, List.length_map, List.length_range, List.length_append, List.length_set, List.map_cons, List.map_nil, List.replicate_succ, List.replicate_zero, List.cons_append, List.nil_append, List.append_nil, Nat.reduceLeDiff, Nat.reduceLT, Nat.zero_lt_succ, Int.reduceLT, Int.reduceLE, Int.reduceAdd, Int.reduceToNat, Int.cast_ofNat_Int, Int.natCast_zero, Int.natCast_one, Int.reduceEq, Int.reduceNe, Nat.reduceEqDiff, eq_self, beq_self_eq_true, Bool.true_beq, Bool.false_beq, Classical.not_not, Bool.not_eq_false, Int.reduceNeg, Int.reducePow, Option.bind_some, Option.bind_none, Option.map_some, Option.map_none, Option.or_some, Option.or_none, Option.none_or, Option.some_or, Option.or, decide_eq_true_eq, if_true, if_false, ite_true, ite_false, and_true, true_and, Bool.not_eq_true, Bool.not_true, Bool.not_false, Bool.true_eq_false, Bool.false_eq_true, imp_false, not_false_eq_true, not_true_eq_false, forall_const, true_implies, false_implies, reduceCtorEq, Nat.reduceAdd, Nat.reduceSub, Nat.reduceLT, decide_true, decide_false, Bool.or_true, Bool.true_or, Bool.or_false, Bool.false_or, Bool.and_true, Bool.true_and, Bool.and_false, Bool.false_and, and_false, false_and, or_true, true_or, or_false, false_or, not_true, not_false]
    refine ⟨_, rfl, ?_⟩
    rcases Nat.lt_or_ge t fs.length with hl | hl
    · rw [if_pos (decide_eq_true (by omega))]
      have ex := List.getElem?_eq_getElem hl
      generalize fs[t] = x at ex
      have hx := all x (List.mem_of_getElem? ex)
      obtain ⟨ha, hb, hk, hpr⟩ := hB _ _ hx
      have w6 := ways6 hp ha
      have ix : ixD fs (t : Nat) = some x := by rw [ixD_get (by omega) (by omega), Int.toNat_natCast, ex]
      have i1 := ix_p h1 ha
      have i2 := ix_p h2 hb
      unfold L_law_alike_2
      refine wp_seq (fun e => e = [.shr o1, .shr o2, .own (.lst (fs.map prD)), .shr (oI (t : Nat)), .shr (oI x.1), .shr (oI x.2), a6, a7]) ?_ ?_
      · simp only [XR, List.getElem?_cons_zero, List.getElem?_cons_succ, List.set_cons_zero, List.set_cons_succ, List.length_cons, List.length_nil, List.length_map, List.length_range, List.length_append, List.length_set, List.map_cons, List.map_nil, List.replicate_succ, List.replicate_zero, List.cons_append, List.nil_append, List.append_nil, Nat.reduceLeDiff, Nat.reduceLT, Nat.zero_lt_succ, Int.reduceLT, Int.reduceLE, Int.reduceAdd, Int.reduceToNat, Int.cast_ofNat_Int, Int.natCast_zero, Int.natCast_one, Int.reduceEq, Int.reduceNe, Nat.reduceEqDiff, eq_self, beq_self_eq_true, Bool.true_beq, Bool.false_beq, Classical.not_not, Bool.not_eq_false, Int.reduceNeg, Int.reducePow, Option.bind_some, Option.bind_none, Option.map_some, Option.map_none, Option.or_some, Option.or_none, Option.none_or, Option.some_or, Option.or, decide_eq_true_eq, if_true, if_false, ite_true, ite_false, and_true, true_and, Bool.not_eq_true, Bool.not_true, Bool.not_false, Bool.true_eq_false, Bool.false_eq_true, imp_false, not_false_eq_true, not_true_eq_false, forall_const, true_implies, false_implies, reduceCtorEq, Nat.reduceAdd, Nat.reduceSub, Nat.reduceLT, decide_true, decide_false, Bool.or_true, Bool.true_or, Bool.or_false, Bool.false_or, Bool.and_true, Bool.true_and, Bool.and_false, Bool.false_and, and_false, false_and, or_true, true_or, or_false, false_or, not_true, not_false, ix]
        simp only [prD, XR, List.getElem?_cons_zero, List.getElem?_cons_succ, List.set_cons_zero, List.set_cons_succ, List.length_cons, List.length_nil, List.length_map, List.length_range, List.length_append, List.length_set, List.map_cons, List.map_nil, List.replicate_succ, List.replicate_zero, List.cons_append, List.nil_append, List.append_nil, Nat.reduceLeDiff, Nat.reduceLT, Nat.zero_lt_succ, Int.reduceLT, Int.reduceLE, Int.reduceAdd, Int.reduceToNat, Int.cast_ofNat_Int, Int.natCast_zero, Int.natCast_one, Int.reduceEq, Int.reduceNe, Nat.reduceEqDiff, eq_self, beq_self_eq_true, Bool.true_beq, Bool.false_beq, Classical.not_not, Bool.not_eq_false, Int.reduceNeg, Int.reducePow, Option.bind_some, Option.bind_none, Option.map_some, Option.map_none, Option.or_some, Option.or_none, Option.none_or, Option.some_or, Option.or, decide_eq_true_eq, if_true, if_false, ite_true, ite_false, and_true, true_and, Bool.not_eq_true, Bool.not_true, Bool.not_false, Bool.true_eq_false, Bool.false_eq_true, imp_false, not_false_eq_true, not_true_eq_false, forall_const, true_implies, false_implies, reduceCtorEq, Nat.reduceAdd, Nat.reduceSub, Nat.reduceLT, decide_true, decide_false, Bool.or_true, Bool.true_or, Bool.or_false, Bool.false_or, Bool.and_true, Bool.true_and, Bool.and_false, Bool.false_and, and_false, false_and, or_true, true_or, or_false, false_or, not_true, not_false]
        exact ⟨_, rfl, rfl⟩
      rintro e rfl
      refine wp_seq (fun e => e = [.shr o1, .shr o2, .own (.lst (fs.map prD)), .shr (oI ((t + 1 : Nat) : Int)), .shr (oI x.1), .shr (oI x.2), a6, a7]) ?_ ?_
      · simp only [XR, List.getElem?_cons_zero, List.getElem?_cons_succ, List.set_cons_zero, List.set_cons_succ, List.length_cons, List.length_nil, List.length_map, List.length_range, List.length_append, List.length_set, List.map_cons, List.map_nil, List.replicate_succ, List.replicate_zero, List.cons_append, List.nil_append, List.append_nil, Nat.reduceLeDiff, Nat.reduceLT, Nat.zero_lt_succ, Int.reduceLT, Int.reduceLE, Int.reduceAdd, Int.reduceToNat, Int.cast_ofNat_Int, Int.natCast_zero, Int.natCast_one, Int.reduceEq, Int.reduceNe, Nat.reduceEqDiff, eq_self, beq_self_eq_true, Bool.true_beq, Bool.false_beq, Classical.not_not, Bool.not_eq_false, Int.reduceNeg, Int.reducePow, Option.bind_some, Option.bind_none, Option.map_some, Option.map_none, Option.or_some, Option.or_none, Option.none_or, Option.some_or, Option.or, decide_eq_true_eq, if_true, if_false, ite_true, ite_false, and_true, true_and, Bool.not_eq_true, Bool.not_true, Bool.not_false, Bool.true_eq_false, Bool.false_eq_true, imp_false, not_false_eq_true, not_true_eq_false, forall_const, true_implies, false_implies, reduceCtorEq, Nat.reduceAdd, Nat.reduceSub, Nat.reduceLT, decide_true, decide_false, Bool.or_true, Bool.true_or, Bool.or_false, Bool.false_or, Bool.and_true, Bool.true_and, Bool.and_false, Bool.false_and, and_false, false_and, or_true, true_or, or_false, false_or, not_true, not_false]
        exact ⟨_, rfl, rfl⟩
      rintro e rfl
      refine wp_seq _ (w_skip (w_orF ?_ ?_)) ?_
      · simp only [XR, List.getElem?_cons_zero, List.getElem?_cons_succ, List.set_cons_zero, List.set_cons_succ, List.length_cons, List.length_nil, List.length_map, List.length_range, List.length_append, List.length_set, List.map_cons, List.map_nil, List.replicate_succ, List.replicate_zero, List.cons_append, List.nil_append, List.append_nil, Nat.reduceLeDiff, Nat.reduceLT, Nat.zero_lt_succ, Int.reduceLT, Int.reduceLE, Int.reduceAdd, Int.reduceToNat, Int.cast_ofNat_Int, Int.natCast_zero, Int.natCast_one, Int.reduceEq, Int.reduceNe, Nat.reduceEqDiff, eq_self, beq_self_eq_true, Bool.true_beq, Bool.false_beq, Classical.not_not, Bool.not_eq_false, Int.reduceNeg, Int.reducePow, Option.bind_some, Option.bind_none, Option.map_some, Option.map_none, Option.or_some, Option.or_none, Option.none_or, Option.some_or, Option.or, decide_eq_true_eq, if_true, if_false, ite_true, ite_false, and_true, true_and, Bool.not_eq_true, Bool.not_true, Bool.not_false, Bool.true_eq_false, Bool.false_eq_true, imp_false, not_false_eq_true, not_true_eq_false, forall_const, true_implies, false_implies, reduceCtorEq, Nat.reduceAdd, Nat.reduceSub, Nat.reduceLT, decide_true, decide_false, Bool.or_true, Bool.true_or, Bool.or_false, Bool.false_or, Bool.and_true, Bool.true_and, Bool.and_false, Bool.false_and, and_false, false_and, or_true, true_or, or_false, false_or, not_true, not_false, i1, i2, head_any, hd_ne, hk]
      · simp only [XR, List.getElem?_cons_zero, List.getElem?_cons_succ, List.set_cons_zero, List.set_cons_succ, List.length_cons, List.length_nil, List.length_map, List.length_range, List.length_append, List.length_set, List.map_cons, List.map_nil, List.replicate_succ, List.replicate_zero, List.cons_append, List.nil_append, List.append_nil, Nat.reduceLeDiff, Nat.reduceLT, Nat.zero_lt_succ, Int.reduceLT, Int.reduceLE, Int.reduceAdd, Int.reduceToNat, Int.cast_ofNat_Int, Int.natCast_zero, Int.natCast_one, Int.reduceEq, Int.reduceNe, Nat.reduceEqDiff, eq_self, beq_self_eq_true, Bool.true_beq, Bool.false_beq, Classical.not_not, Bool.not_eq_false, Int.reduceNeg, Int.reducePow, Option.bind_some, Option.bind_none, Option.map_some, Option.map_none, Option.or_some, Option.or_none, Option.none_or, Option.some_or, Option.or, decide_eq_true_eq, if_true, if_false, ite_true, ite_false, and_true, true_and, Bool.not_eq_true, Bool.not_true, Bool.not_false, Bool.true_eq_false, Bool.false_eq_true, imp_false, not_false_eq_true, not_true_eq_false, forall_const, true_implies, false_implies, reduceCtorEq, Nat.reduceAdd, Nat.reduceSub, Nat.reduceLT, decide_true, decide_false, Bool.or_true, Bool.true_or, Bool.or_false, Bool.false_or, Bool.and_true, Bool.true_and, Bool.and_false, Bool.false_and, and_false, false_and, or_true, true_or, or_false, false_or, not_true, not_false, i1, i2, law_ways_ok (at_ok hp ha), law_ways_ok (at_ok hq hb), sortKeysS (at_ok hp ha), sortKeysS (at_ok hq hb)]
        rw [paired_eq_fst hpr]
        exact ⟨_, ne_same rfl rfl (shaped_strs fun w hw => by
          obtain ⟨u, hu, rfl⟩ := List.mem_map.mp hw
          exact (ways_in hq hb u hu).1), rfl⟩
      rintro e rfl
      have wl := law_ways_ok (at_ok hp ha)
      simp only [XR, List.getElem?_cons_zero, List.getElem?_cons_succ, List.set_cons_zero, List.set_cons_succ, List.length_cons, List.length_nil, List.length_map, List.length_range, List.length_append, List.length_set, List.map_cons, List.map_nil, List.replicate_succ, List.replicate_zero, List.cons_append, List.nil_append, List.append_nil, Nat.reduceLeDiff, Nat.reduceLT, Nat.zero_lt_succ, Int.reduceLT, Int.reduceLE, Int.reduceAdd, Int.reduceToNat, Int.cast_ofNat_Int, Int.natCast_zero, Int.natCast_one, Int.reduceEq, Int.reduceNe, Nat.reduceEqDiff, eq_self, beq_self_eq_true, Bool.true_beq, Bool.false_beq, Classical.not_not, Bool.not_eq_false, Int.reduceNeg, Int.reducePow, Option.bind_some, Option.bind_none, Option.map_some, Option.map_none, Option.or_some, Option.or_none, Option.none_or, Option.some_or, Option.or, decide_eq_true_eq, if_true, if_false, ite_true, ite_false, and_true, true_and, Bool.not_eq_true, Bool.not_true, Bool.not_false, Bool.true_eq_false, Bool.false_eq_true, imp_false, not_false_eq_true, not_true_eq_false, forall_const, true_implies, false_implies, reduceCtorEq, Nat.reduceAdd, Nat.reduceSub, Nat.reduceLT, decide_true, decide_false, Bool.or_true, Bool.true_or, Bool.or_false, Bool.false_or, Bool.and_true, Bool.true_and, Bool.and_false, Bool.false_and, and_false, false_and, or_true, true_or, or_false, false_or, not_true, not_false, i1, wl, keys_ways]
      refine alike_in hB h1 h2 hp hq hx _ (fun u hu => hu) fs _ _ nd all (by omega) fun gs b6 b7 n1 n2 n3 => ?_
      exact ⟨144 - (t + 1), by omega, t + 1, gs, _, _, _, _, n1, n2, by omega, rfl, rfl⟩
    · rw [if_neg (by rw [decide_eq_true_eq]; omega)]
      exact ⟨_, rfl⟩
  rintro e _
  exact ⟨_, rfl, rfl⟩)
/-! ### unlike -/
def prL (n : Nat) : List Pr := (List.range n).flatMap fun a => (List.range a).map fun b => (((a : Nat) : Int), ((b : Nat) : Int))
theorem prL_succ (n : Nat) : prL (n + 1) = prL n ++ (List.range n).map fun b => (((n : Nat) : Int), ((b : Nat) : Int)) := by
  unfold prL
  rw [List.range_succ, List.flatMap_append]
  simp
theorem prL_mem {n : Nat} {x y : Int} : (x, y) ∈ prL n ↔ 0 ≤ y ∧ y < x ∧ x < n := by
  unfold prL
  rw [List.mem_flatMap]
  constructor
  · rintro ⟨a, ha, m⟩
    obtain ⟨b, hb, e⟩ := List.mem_map.mp m
    have := List.mem_range.mp ha
    have := List.mem_range.mp hb
    cases e
    exact ⟨by omega, by omega, by omega⟩
  · rintro ⟨h0, h1, h2⟩
    refine ⟨x.toNat, List.mem_range.mpr (by omega), List.mem_map.mpr ⟨y.toNat, List.mem_range.mpr (by omega), ?_⟩⟩
    exact Prod.ext (by show ((x.toNat : Nat) : Int) = x; omega) (by show ((y.toNat : Nat) : Int) = y; omega)
theorem prL_nd : ∀ n : Nat, (prL n).Nodup
  | 0 => List.nodup_nil
  | n + 1 => by
    rw [prL_succ, List.nodup_append]
    refine ⟨prL_nd n, List.pairwise_map.mpr (List.nodup_range.imp fun {a b} h e => h (by have := (Prod.mk.inj e).2; omega)), fun u hu v hv e => ?_⟩
    obtain ⟨b, hb, rfl⟩ := List.mem_map.mp hv
    subst e
    have := (prL_mem.mp hu).2.2
    omega
theorem prL_len : ∀ n : Nat, (prL n).length ≤ n * n
  | 0 => Nat.le_refl _
  | n + 1 => by
    rw [prL_succ, List.length_append, List.length_map, List.length_range]
    have := prL_len n
    have : (n + 1) * (n + 1) = n * n + n + n + 1 := by rw [Nat.add_mul, Nat.mul_add]; omega
    omega
def tbT (fs : List Pr) : List (D × D) := fs.map fun x => (prD x, .bool true)
theorem tb_get {fs : List Pr} {x : Pr} : (getD (tbT fs) (prD x)).isSome = decide (x ∈ fs) := by
  have e := getD_tab (kf := prD) (vf := fun _ : Unit => PyData.bool true) eqv_pr (fs.map fun x => (x, ())) x
  rw [List.map_map] at e
  show (getD (List.map ((fun p : Pr × Unit => (prD p.1, PyData.bool true)) ∘ fun x => (x, ())) fs) (prD x)).isSome = _
  rw [e, Option.isSome_map, Bool.eq_iff_iff, decide_eq_true_eq]
  cases h : lkG (fs.map fun x => (x, ())) x with
  | none =>
    rw [lkG_none, List.map_map] at h
    have h : x ∉ fs.map id := h
    rw [List.map_id] at h
    exact ⟨fun z => (by cases z), fun z => absurd z h⟩
  | some u =>
    obtain ⟨y, hy, e⟩ := List.mem_map.mp (lkG_some h)
    cases e
    exact ⟨fun _ => hy, fun _ => rfl⟩
theorem tb_out {fs : List Pr} {x : Pr} (h : x ∉ fs) : putD (tbT fs) (prD x) (.bool true) = tbT (fs ++ [x]) := by
  unfold putD
  rw [if_neg]
  · unfold tbT; rw [List.map_append]; rfl
  · rw [List.any_eq_true]
    rintro ⟨kv, m, e⟩
    obtain ⟨y, hy, rfl⟩ := List.mem_map.mp m
    have e : PyData.eqv (prD y) (prD x) = true := e
    rw [eqv_pr] at e
    exact h (of_decide_eq_true e ▸ hy)
theorem tb_in {fs : List Pr} {x : Pr} (h : x ∈ fs) : putD (tbT fs) (prD x) (.bool true) = tbT fs := by
  unfold putD
  rw [if_pos]
  · unfold tbT
    rw [List.map_map]
    refine List.map_congr_left fun y hy => ?_
    show (if PyData.eqv (prD y) (prD x) = true then (prD y, PyData.bool true) else (prD y, PyData.bool true)) = _
    split <;> rfl
  · rw [List.any_eq_true]
    exact ⟨_, List.mem_map.mpr ⟨x, h, rfl⟩, by show PyData.eqv (prD x) (prD x) = true; rw [eqv_pr]; exact decide_eq_true rfl⟩
theorem eqv_strs : ∀ xs ys : List Str, PyData.eqvAll (xs.map .str) (ys.map .str) = decide (xs = ys)
  | [], [] => by rw [List.map_nil, PyData.eqvAll]; rfl
  | [], y :: ys => by rw [List.map_nil, List.map_cons, PyData.eqvAll]; rfl
  | x :: xs, [] => by rw [List.map_nil, List.map_cons, PyData.eqvAll]; rfl
  | x :: xs, y :: ys => by
    rw [List.map_cons, List.map_cons, PyData.eqvAll, eqv_ss, eqv_strs xs ys, ← Bool.decide_and]
    exact decide_eq_decide.mpr (by rw [List.cons.injEq])
theorem ne_strs {xs ys : List Str} (hx : ∀ x ∈ xs, wOk x) (hy : ∀ x ∈ ys, wOk x) : gNe (.lst (xs.map .str)) (.lst (ys.map .str)) = some (oB (!decide (xs = ys))) := by
  have e : okEq (.list (xs.map .str)) (.list (ys.map .str)) = true := by
    unfold okEq
    rw [shaped_strs hx, shaped_strs hy]
    simp
  show (if okEq (.list (xs.map .str)) (.list (ys.map .str)) = true then some (oB (!PyData.eqv (.list (xs.map .str)) (.list (ys.map .str)))) else none) = _
  rw [if_pos e, show PyData.eqv (.list (xs.map .str)) (.list (ys.map .str)) = PyData.eqvAll (xs.map .str) (ys.map .str) by rw [PyData.eqv], eqv_strs]
theorem ne_nilP {xs : List Pr} : gNe (.lst (xs.map prD)) (.lst []) = some (oB (!xs.isEmpty)) := by
  have e : okEq (.list (xs.map prD)) (.list []) = true := by
    unfold okEq
    rw [shaped_prs, show SeqAt.shaped (.list []) = true from rfl]
    simp
  show (if okEq (.list (xs.map prD)) (.list []) = true then some (oB (!PyData.eqv (.list (xs.map prD)) (.list []))) else none) = _
  rw [if_pos e]
  cases xs <;> rfl
def mxmn (a b : Int) : Pr := (if b > a then b else a, if b < a then b else a)
def enU (p : List Stop) (o : O) (ps fs : List Pr) (t a b : Sl) (r : En) : En := [.shr o, .shr (.dat (.list (ps.map prD))), a, .own (.dT (tbT fs)), t, b] ++ r
theorem paired_memL {A B : Type} {P : A → B → Prop} : ∀ {l : List A} {l' : List B}, Paired P l l' → ∀ u ∈ l, ∃ v ∈ l', P u v
  | _, _, .nil, v, m => by cases m
  | _, _, .cons h t, v, m => by
    rcases List.mem_cons.mp m with rfl | m
    · exact ⟨_, List.mem_cons_self, h⟩
    · obtain ⟨u, hu, p⟩ := paired_memL t v m
      exact ⟨u, List.mem_cons_of_mem _ hu, p⟩
theorem dis_ways {m : Int} {s : Stop} (h : StopOk m s) : (waysS s).Pairwise fun a b => a.1 ≠ b.1 := by
  cases s with
  | fin => exact .nil
  | act b l => exact (show WaysOk m l from h).so.imp fun {a b} h z => by rw [z] at h; exact wLt_irr _ h
theorem maps_eq {f : Int → Int} : ∀ (l m : List (Str × Int)), l.map (·.1) = m.map (·.1) → l.Pairwise (fun a b => a.1 ≠ b.1) → (∀ w g1 g2, nextL l w = some g1 → nextL m w = some g2 → f g1 = f g2) → l.map (fun u => (u.1, f u.2)) = m.map fun u => (u.1, f u.2)
  | [], [], _, _, _ => rfl
  | [], _ :: _, h, _, _ => by cases h
  | _ :: _, [], h, _, _ => by cases h
  | u :: l, v :: m, h, d, k => by
    rw [List.map_cons, List.map_cons] at h
    have h1 : u.1 = v.1 := (List.cons.inj h).1
    have hh := k u.1 u.2 v.2 (by rw [nextL, if_pos rfl]) (by rw [nextL, if_pos h1.symm])
    have d2 := List.pairwise_cons.mp d
    rw [List.map_cons, List.map_cons, hh, h1, maps_eq l m (List.cons.inj h).2 d2.2 fun w g1 g2 e1 e2 => k w g1 g2 (by
      rw [nextL, if_neg fun z => d2.1 _ (nextL_mem e1) z]
      exact e1) (by
      rw [nextL, if_neg fun z => d2.1 _ (nextL_mem e1) (h1.trans z)]
      exact e2)]
/-- what a row does: what is told grows by the pair, where some level tells it apart -/
theorem unlike_row {p : List Stop} {o : O} (ho : isP p o) (hp : PlanOk p) {ps fs : List Pr} (hf : fs.length ≤ 1000) {a b : Int} (ha : inN p a) (hb : inN p b) (nd : fs.Nodup) {l : List Int} {t a6 a7 a8 a9 a10 : Sl} :
    Wp (L_law_unlike_2 M_law_ways [.shr o, .shr (.dat (.list (ps.map prD))), .shr (oI a), .own (.dT (tbT fs)), t, .shr (oI b), a6, a7, a8, a9, a10]) fun out => ∃ (gs : List Pr) (b6 b7 b8 b9 b10 : Sl), gs.Nodup ∧ (∀ x ∈ fs, x ∈ gs) ∧ (∀ x ∈ gs, x ∈ fs ∨ x = (a, b)) ∧
      (kE p l a ≠ kE p l b → lk l a = lk l b → (∀ x y, inN p x → inN p y → y < x → lk l x ≠ lk l y → (x, y) ∈ fs) → (a, b) ∈ gs) ∧
      out = .nx [.shr o, .shr (.dat (.list (ps.map prD))), .shr (oI a), .own (.dT (tbT gs)), t, .shr (oI b), b6, b7, b8, b9, b10] := by
  have sa := at_ok hp ha
  have sb := at_ok hp hb
  have wa := ways_in hp ha
  have wb := ways_in hp hb
  have la := ways6 hp ha
  have xa := ix_p ho ha
  have xb := ix_p ho hb
  -- the pair is told
  have tell : ∀ {a6 a7 a8 a9 a10 : Sl}, Wp (sDPut 3 (eC (.bool true)) (eTup (eCons (eDat 2) (eCons (eDat 5) (eNil)))) [.shr o, .shr (.dat (.list (ps.map prD))), .shr (oI a), .own (.dT (tbT fs)), t, .shr (oI b), a6, a7, a8, a9, a10]) fun out => ∃ (gs : List Pr) (b6 b7 b8 b9 b10 : Sl), gs.Nodup ∧ (∀ x ∈ fs, x ∈ gs) ∧ (∀ x ∈ gs, x ∈ fs ∨ x = (a, b)) ∧ (a, b) ∈ gs ∧
      out = .nx [.shr o, .shr (.dat (.list (ps.map prD))), .shr (oI a), .own (.dT (tbT gs)), t, .shr (oI b), b6, b7, b8, b9, b10] := by
    intro a6 a7 a8 a9 a10
    have e : (PyData.tuple [.int a, .int b]) = prD (a, b) := rfl
    have tl : (tbT fs).length ≤ 999999 := by unfold tbT; rw [List.length_map]; omega
    simp only [XR, List.getElem?_cons_zero, List.getElem?_cons_succ, List.set_cons_zero, List.set_cons_succ, List.length_cons, List.length_nil, List.length_map, List.length_range, List.length_append, List.length_set, List.map_cons, List.map_nil, List.replicate_succ, List.replicate_zero, List.cons_append, List.nil_append, List.append_nil, Nat.reduceLeDiff, Nat.reduceLT, Nat.zero_lt_succ, Int.reduceLT, Int.reduceLE, Int.reduceAdd, Int.reduceToNat, Int.cast_ofNat_Int, Int.natCast_zero, Int.natCast_one, Int.reduceEq, Int.reduceNe, Nat.reduceEqDiff, eq_self, beq_self_eq_true, Bool.true_beq, Bool.false_beq, Classical.not_not, Bool.not_eq_false, Int.reduceNeg, Int.reducePow, Option.bind_some, Option.bind_none, Option.map_some, Option.map_none, Option.or_some, Option.or_none, Option.none_or, Option.some_or, Option.or, decide_eq_true_eq, if_true, if_false, ite_true, ite_false, and_true, true_and, Bool.not_eq_true, Bool.not_true, Bool.not_false, Bool.true_eq_false, Bool.false_eq_true, imp_false, not_false_eq_true, not_true_eq_false, forall_const, true_implies, false_implies, reduceCtorEq, Nat.reduceAdd, Nat.reduceSub, Nat.reduceLT, decide_true, decide_false, Bool.or_true, Bool.true_or, Bool.or_false, Bool.false_or, Bool.and_true, Bool.true_and, Bool.and_false, Bool.false_and, and_false, false_and, or_true, true_or, or_false, false_or, not_true, not_false]
    rw [e]
    refine ⟨by omega, ?_⟩
    by_cases m : (a, b) ∈ fs
    · rw [tb_in m]
      exact ⟨fs, _, _, _, _, _, nd, fun x h => h, fun x h => .inl h, m, rfl⟩
    · rw [tb_out m]
      refine ⟨fs ++ [(a, b)], _, _, _, _, _, List.nodup_append.mpr ⟨nd, by simp, fun u hu v hv e => m (by rw [List.mem_singleton.mp hv] at e; exact e ▸ hu)⟩, fun x h => List.mem_append_left _ h, fun x h => ?_, List.mem_append_right _ List.mem_cons_self, rfl⟩
      rcases List.mem_append.mp h with h | h
      · exact .inl h
      · exact .inr (List.mem_singleton.mp h)
  unfold L_law_unlike_2
  refine wp_seq (fun e => e = [.shr o, .shr (.dat (.list (ps.map prD))), .shr (oI a), .own (.dT (tbT fs)), t, .shr (oI b), .shr (.dat (.dict ((waysS (atS p a)).map entD))), .shr (.dat (.dict ((waysS (atS p b)).map entD))), a8, a9, a10]) ?_ ?_
  · simp only [XR, List.getElem?_cons_zero, List.getElem?_cons_succ, List.set_cons_zero, List.set_cons_succ, List.length_cons, List.length_nil, List.length_map, List.length_range, List.length_append, List.length_set, List.map_cons, List.map_nil, List.replicate_succ, List.replicate_zero, List.cons_append, List.nil_append, List.append_nil, Nat.reduceLeDiff, Nat.reduceLT, Nat.zero_lt_succ, Int.reduceLT, Int.reduceLE, Int.reduceAdd, Int.reduceToNat, Int.cast_ofNat_Int, Int.natCast_zero, Int.natCast_one, Int.reduceEq, Int.reduceNe, Nat.reduceEqDiff, eq_self, beq_self_eq_true, Bool.true_beq, Bool.false_beq, Classical.not_not, Bool.not_eq_false, Int.reduceNeg, Int.reducePow, Option.bind_some, Option.bind_none, Option.map_some, Option.map_none, Option.or_some, Option.or_none, Option.none_or, Option.some_or, Option.or, decide_eq_true_eq, if_true, if_false, ite_true, ite_false, and_true, true_and, Bool.not_eq_true, Bool.not_true, Bool.not_false, Bool.true_eq_false, Bool.false_eq_true, imp_false, not_false_eq_true, not_true_eq_false, forall_const, true_implies, false_implies, reduceCtorEq, Nat.reduceAdd, Nat.reduceSub, Nat.reduceLT, decide_true, decide_false, Bool.or_true, Bool.true_or, Bool.or_false, Bool.false_or, Bool.and_true, Bool.true_and, Bool.and_false, Bool.false_and, and_false, false_and, or_true, true_or, or_false, false_or, not_true, not_false, xa, xb, law_ways_ok sa, law_ways_ok sb]
    exact ⟨_, rfl, rfl⟩
  rintro e rfl
  refine w_if (w_or ?_)
  have c1 : Wp (e2 gNe (e2 gIx (e2 gIx (eVar 0) (eVar 2)) (eC (.int 0))) (e2 gIx (e2 gIx (eVar 0) (eVar 5)) (eC (.int 0))) [.shr o, .shr (.dat (.list (ps.map prD))), .shr (oI a), .own (.dT (tbT fs)), t, .shr (oI b), .shr (.dat (.dict ((waysS (atS p a)).map entD))), .shr (.dat (.dict ((waysS (atS p b)).map entD))), a8, a9, a10]) fun o => o = oB (!decide (kindS (atS p a) = kindS (atS p b))) := by
    simp only [XR, List.getElem?_cons_zero, List.getElem?_cons_succ, List.set_cons_zero, List.set_cons_succ, List.length_cons, List.length_nil, List.length_map, List.length_range, List.length_append, List.length_set, List.map_cons, List.map_nil, List.replicate_succ, List.replicate_zero, List.cons_append, List.nil_append, List.append_nil, Nat.reduceLeDiff, Nat.reduceLT, Nat.zero_lt_succ, Int.reduceLT, Int.reduceLE, Int.reduceAdd, Int.reduceToNat, Int.cast_ofNat_Int, Int.natCast_zero, Int.natCast_one, Int.reduceEq, Int.reduceNe, Nat.reduceEqDiff, eq_self, beq_self_eq_true, Bool.true_beq, Bool.false_beq, Classical.not_not, Bool.not_eq_false, Int.reduceNeg, Int.reducePow, Option.bind_some, Option.bind_none, Option.map_some, Option.map_none, Option.or_some, Option.or_none, Option.none_or, Option.some_or, Option.or, decide_eq_true_eq, if_true, if_false, ite_true, ite_false, and_true, true_and, Bool.not_eq_true, Bool.not_true, Bool.not_false, Bool.true_eq_false, Bool.false_eq_true, imp_false, not_false_eq_true, not_true_eq_false, forall_const, true_implies, false_implies, reduceCtorEq, Nat.reduceAdd, Nat.reduceSub, Nat.reduceLT, decide_true, decide_false, Bool.or_true, Bool.true_or, Bool.or_false, Bool.false_or, Bool.and_true, Bool.true_and, Bool.and_false, Bool.false_and, and_false, false_and, or_true, true_or, or_false, false_or, not_true, not_false, xa, xb, head_any, hd_ne]
  refine c1.imp ?_
  rintro _ rfl
  refine ⟨_, rfl, ?_⟩
  by_cases hk : kindS (atS p a) = kindS (atS p b)
  · rw [decide_eq_true hk, if_neg (by simp)]
    have c2 : Wp (e2 gNe (eCall (g1 gSortKeys) (eCons (eVar 6) (eNil))) (eCall (g1 gSortKeys) (eCons (eVar 7) (eNil))) [.shr o, .shr (.dat (.list (ps.map prD))), .shr (oI a), .own (.dT (tbT fs)), t, .shr (oI b), .shr (.dat (.dict ((waysS (atS p a)).map entD))), .shr (.dat (.dict ((waysS (atS p b)).map entD))), a8, a9, a10]) fun o => o = oB (!decide ((waysS (atS p a)).map (·.1) = (waysS (atS p b)).map (·.1))) := by
      simp only [XR, List.getElem?_cons_zero, List.getElem?_cons_succ, List.set_cons_zero, List.set_cons_succ, List.length_cons, List.length_nil, List.length_map, List.length_range, List.length_append, List.length_set, List.map_cons, List.map_nil, List.replicate_succ, List.replicate_zero, List.cons_append, List.nil_append, List.append_nil, Nat.reduceLeDiff, Nat.reduceLT, Nat.zero_lt_succ, Int.reduceLT, Int.reduceLE, Int.reduceAdd, Int.reduceToNat, Int.cast_ofNat_Int, Int.natCast_zero, Int.natCast_one, Int.reduceEq, Int.reduceNe, Nat.reduceEqDiff, eq_self, beq_self_eq_true, Bool.true_beq, Bool.false_beq, Classical.not_not, Bool.not_eq_false, Int.reduceNeg, Int.reducePow, Option.bind_some, Option.bind_none, Option.map_some, Option.map_none, Option.or_some, Option.or_none, Option.none_or, Option.some_or, Option.or, decide_eq_true_eq, if_true, if_false, ite_true, ite_false, and_true, true_and, Bool.not_eq_true, Bool.not_true, Bool.not_false, Bool.true_eq_false, Bool.false_eq_true, imp_false, not_false_eq_true, not_true_eq_false, forall_const, true_implies, false_implies, reduceCtorEq, Nat.reduceAdd, Nat.reduceSub, Nat.reduceLT, decide_true, decide_false, Bool.or_true, Bool.true_or, Bool.or_false, Bool.false_or, Bool.and_true, Bool.true_and, Bool.and_false, Bool.false_and, and_false, false_and, or_true, true_or, or_false, false_or, not_true, not_false, sortKeysD sa, sortKeysD sb]
      refine ⟨_, ne_strs (fun w hw => ?_) (fun w hw => ?_), rfl⟩
      · obtain ⟨u, hu, rfl⟩ := List.mem_map.mp hw
        exact (wa u hu).1
      · obtain ⟨u, hu, rfl⟩ := List.mem_map.mp hw
        exact (wb u hu).1
    refine c2.imp ?_
    rintro _ rfl
    refine ⟨_, rfl, ?_⟩
    by_cases hw : (waysS (atS p a)).map (·.1) = (waysS (atS p b)).map (·.1)
    · rw [decide_eq_true hw, if_neg (by simp)]
      refine wp_seq (fun e => ∃ gl : List Pr, Paired (fun (u : Str × Int) y => ∃ g1 g2, nextL (waysS (atS p a)) u.1 = some g1 ∧ nextL (waysS (atS p b)) u.1 = some g2 ∧ y = mxmn g1 g2) (waysS (atS p a)) gl ∧ e = [.shr o, .shr (.dat (.list (ps.map prD))), .shr (oI a), .own (.dT (tbT fs)), t, .shr (oI b), .shr (.dat (.dict ((waysS (atS p a)).map entD))), .shr (.dat (.dict ((waysS (atS p b)).map entD))), .shr (.dat (.list (gl.map prD))), a9, a10]) ?_ ?_
      · simp only [XR, List.getElem?_cons_zero, List.getElem?_cons_succ, List.set_cons_zero, List.set_cons_succ, List.length_cons, List.length_nil, List.length_map, List.length_range, List.length_append, List.length_set, List.map_cons, List.map_nil, List.replicate_succ, List.replicate_zero, List.cons_append, List.nil_append, List.append_nil, Nat.reduceLeDiff, Nat.reduceLT, Nat.zero_lt_succ, Int.reduceLT, Int.reduceLE, Int.reduceAdd, Int.reduceToNat, Int.cast_ofNat_Int, Int.natCast_zero, Int.natCast_one, Int.reduceEq, Int.reduceNe, Nat.reduceEqDiff, eq_self, beq_self_eq_true, Bool.true_beq, Bool.false_beq, Classical.not_not, Bool.not_eq_false, Int.reduceNeg, Int.reducePow, Option.bind_some, Option.bind_none, Option.map_some, Option.map_none, Option.or_some, Option.or_none, Option.none_or, Option.some_or, Option.or, decide_eq_true_eq, if_true, if_false, ite_true, ite_false, and_true, true_and, Bool.not_eq_true, Bool.not_true, Bool.not_false, Bool.true_eq_false, Bool.false_eq_true, imp_false, not_false_eq_true, not_true_eq_false, forall_const, true_implies, false_implies, reduceCtorEq, Nat.reduceAdd, Nat.reduceSub, Nat.reduceLT, decide_true, decide_false, Bool.or_true, Bool.true_or, Bool.or_false, Bool.false_or, Bool.and_true, Bool.true_and, Bool.and_false, Bool.false_and, and_false, false_and, or_true, true_or, or_false, false_or, not_true, not_false, keys_ways]
        refine ⟨by omega, lc_pair (g := prD) (fun (u : Str × Int) y => ∃ g1 g2, nextL (waysS (atS p a)) u.1 = some g1 ∧ nextL (waysS (atS p b)) u.1 = some g2 ∧ y = mxmn g1 g2) (fun u hu => ?_) fun gl hgl => ?_⟩
        · obtain ⟨g1, e1⟩ := nextL_any (w := u.1) ⟨u, hu, rfl⟩
          obtain ⟨g2, e2⟩ := nextL_any (ws := waysS (atS p b)) (w := u.1) (by
            have : u.1 ∈ (waysS (atS p b)).map (·.1) := hw ▸ List.mem_map_of_mem hu
            obtain ⟨v, hv, ev⟩ := List.mem_map.mp this
            exact ⟨v, hv, ev⟩)
          have d1 : (nextL (waysS (atS p a)) u.1).map PyData.int = some (.int g1) := by rw [e1]; rfl
          have d2 : (nextL (waysS (atS p b)) u.1).map PyData.int = some (.int g2) := by rw [e2]; rfl
          simp only [XR, List.getElem?_cons_zero, List.getElem?_cons_succ, List.set_cons_zero, List.set_cons_succ, List.length_cons, List.length_nil, List.length_map, List.length_range, List.length_append, List.length_set, List.map_cons, List.map_nil, List.replicate_succ, List.replicate_zero, List.cons_append, List.nil_append, List.append_nil, Nat.reduceLeDiff, Nat.reduceLT, Nat.zero_lt_succ, Int.reduceLT, Int.reduceLE, Int.reduceAdd, Int.reduceToNat, Int.cast_ofNat_Int, Int.natCast_zero, Int.natCast_one, Int.reduceEq, Int.reduceNe, Nat.reduceEqDiff, eq_self, beq_self_eq_true, Bool.true_beq, Bool.false_beq, Classical.not_not, Bool.not_eq_false, Int.reduceNeg, Int.reducePow, Option.bind_some, Option.bind_none, Option.map_some, Option.map_none, Option.or_some, Option.or_none, Option.none_or, Option.some_or, Option.or, decide_eq_true_eq, if_true, if_false, ite_true, ite_false, and_true, true_and, Bool.not_eq_true, Bool.not_true, Bool.not_false, Bool.true_eq_false, Bool.false_eq_true, imp_false, not_false_eq_true, not_true_eq_false, forall_const, true_implies, false_implies, reduceCtorEq, Nat.reduceAdd, Nat.reduceSub, Nat.reduceLT, decide_true, decide_false, Bool.or_true, Bool.true_or, Bool.or_false, Bool.false_or, Bool.and_true, Bool.true_and, Bool.and_false, Bool.false_and, and_false, false_and, or_true, true_or, or_false, false_or, not_true, not_false, dic_ways, get_key, d1, d2]
          exact ⟨mxmn g1 g2, rfl, g1, g2, e1, e2, rfl⟩
        · exact ⟨_, rfl, gl, hgl, rfl⟩
      rintro e ⟨gl, hgl, rfl⟩
      have ll := hgl.length
      refine w_if ?_
      have c3 : Wp (e2 gNe (eLc (itV 8) (tgN 10) [10] (eDIn (eVar 10) (eVar 3)) (eDat 10)) (eLst (eNil)) [.shr o, .shr (.dat (.list (ps.map prD))), .shr (oI a), .own (.dT (tbT fs)), t, .shr (oI b), .shr (.dat (.dict ((waysS (atS p a)).map entD))), .shr (.dat (.dict ((waysS (atS p b)).map entD))), .shr (.dat (.list (gl.map prD))), a9, a10]) fun o => o = oB (!(gl.filter fun x => decide (x ∈ fs)).isEmpty) := by
        simp only [XR, List.getElem?_cons_zero, List.getElem?_cons_succ, List.set_cons_zero, List.set_cons_succ, List.length_cons, List.length_nil, List.length_map, List.length_range, List.length_append, List.length_set, List.map_cons, List.map_nil, List.replicate_succ, List.replicate_zero, List.cons_append, List.nil_append, List.append_nil, Nat.reduceLeDiff, Nat.reduceLT, Nat.zero_lt_succ, Int.reduceLT, Int.reduceLE, Int.reduceAdd, Int.reduceToNat, Int.cast_ofNat_Int, Int.natCast_zero, Int.natCast_one, Int.reduceEq, Int.reduceNe, Nat.reduceEqDiff, eq_self, beq_self_eq_true, Bool.true_beq, Bool.false_beq, Classical.not_not, Bool.not_eq_false, Int.reduceNeg, Int.reducePow, Option.bind_some, Option.bind_none, Option.map_some, Option.map_none, Option.or_some, Option.or_none, Option.none_or, Option.some_or, Option.or, decide_eq_true_eq, if_true, if_false, ite_true, ite_false, and_true, true_and, Bool.not_eq_true, Bool.not_true, Bool.not_false, Bool.true_eq_false, Bool.false_eq_true, imp_false, not_false_eq_true, not_true_eq_false, forall_const, true_implies, false_implies, reduceCtorEq, Nat.reduceAdd, Nat.reduceSub, Nat.reduceLT, decide_true, decide_false, Bool.or_true, Bool.true_or, Bool.or_false, Bool.false_or, Bool.and_true, Bool.true_and, Bool.and_false, Bool.false_and, and_false, false_and, or_true, true_or, or_false, false_or, not_true, not_false]
        refine ⟨by omega, lc_filt (g := prD) (fun x => decide (x ∈ fs)) (fun x _ => ?_) ?_⟩
        · have e : asKs [PyData.int x.1, PyData.int x.2] = some [.inl x.1, .inl x.2] := rfl
          have e2 := tb_get (fs := fs) (x := x)
          have e3 : prD x = .tuple [.int x.1, .int x.2] := rfl
          rw [e3] at e2
          simp only [e3, XR, List.getElem?_cons_zero, List.getElem?_cons_succ, List.set_cons_zero, List.set_cons_succ, List.length_cons, List.length_nil, List.length_map, List.length_range, List.length_append, List.length_set, List.map_cons, List.map_nil, List.replicate_succ, List.replicate_zero, List.cons_append, List.nil_append, List.append_nil, Nat.reduceLeDiff, Nat.reduceLT, Nat.zero_lt_succ, Int.reduceLT, Int.reduceLE, Int.reduceAdd, Int.reduceToNat, Int.cast_ofNat_Int, Int.natCast_zero, Int.natCast_one, Int.reduceEq, Int.reduceNe, Nat.reduceEqDiff, eq_self, beq_self_eq_true, Bool.true_beq, Bool.false_beq, Classical.not_not, Bool.not_eq_false, Int.reduceNeg, Int.reducePow, Option.bind_some, Option.bind_none, Option.map_some, Option.map_none, Option.or_some, Option.or_none, Option.none_or, Option.some_or, Option.or, decide_eq_true_eq, if_true, if_false, ite_true, ite_false, and_true, true_and, Bool.not_eq_true, Bool.not_true, Bool.not_false, Bool.true_eq_false, Bool.false_eq_true, imp_false, not_false_eq_true, not_true_eq_false, forall_const, true_implies, false_implies, reduceCtorEq, Nat.reduceAdd, Nat.reduceSub, Nat.reduceLT, decide_true, decide_false, Bool.or_true, Bool.true_or, Bool.or_false, Bool.false_or, Bool.and_true, Bool.true_and, Bool.and_false, Bool.false_and, and_false, false_and, or_true, true_or, or_false, false_or, not_true, not_false, e2]
          exact fun _ => trivial
        · simp only [XR, List.getElem?_cons_zero, List.getElem?_cons_succ, List.set_cons_zero, List.set_cons_succ, List.length_cons, List.length_nil, List.length_map, List.length_range, List.length_append, List.length_set, List.map_cons, List.map_nil, List.replicate_succ, List.replicate_zero, List.cons_append, List.nil_append, List.append_nil, Nat.reduceLeDiff, Nat.reduceLT, Nat.zero_lt_succ, Int.reduceLT, Int.reduceLE, Int.reduceAdd, Int.reduceToNat, Int.cast_ofNat_Int, Int.natCast_zero, Int.natCast_one, Int.reduceEq, Int.reduceNe, Nat.reduceEqDiff, eq_self, beq_self_eq_true, Bool.true_beq, Bool.false_beq, Classical.not_not, Bool.not_eq_false, Int.reduceNeg, Int.reducePow, Option.bind_some, Option.bind_none, Option.map_some, Option.map_none, Option.or_some, Option.or_none, Option.none_or, Option.some_or, Option.or, decide_eq_true_eq, if_true, if_false, ite_true, ite_false, and_true, true_and, Bool.not_eq_true, Bool.not_true, Bool.not_false, Bool.true_eq_false, Bool.false_eq_true, imp_false, not_false_eq_true, not_true_eq_false, forall_const, true_implies, false_implies, reduceCtorEq, Nat.reduceAdd, Nat.reduceSub, Nat.reduceLT, decide_true, decide_false, Bool.or_true, Bool.true_or, Bool.or_false, Bool.false_or, Bool.and_true, Bool.true_and, Bool.and_false, Bool.false_and, and_false, false_and, or_true, true_or, or_false, false_or, not_true, not_false, ne_nilP]
      refine c3.imp ?_
      rintro _ rfl
      refine ⟨_, rfl, ?_⟩
      cases hE : (gl.filter fun x => decide (x ∈ fs)).isEmpty with
      | false =>
        rw [if_pos (by simp)]
        refine tell.imp ?_
        rintro out ⟨gs, b6, b7, b8, b9, b10, h1, h2, h3, h4, rfl⟩
        exact ⟨gs, _, _, _, _, _, h1, h2, h3, fun _ _ _ => h4, rfl⟩
      | true =>
        rw [if_neg (by simp)]
        refine ⟨_, rfl, fs, _, _, _, _, _, nd, fun x h => h, fun x h => .inl h, fun hne hl hall => ?_, rfl⟩
        refine absurd ?_ hne
        unfold kE
        rw [hl, hk]
        congr 2
        -- no word leads apart
        have hE := List.isEmpty_iff.mp hE
        have none_in : ∀ x ∈ gl, x ∉ fs := fun x hx m => by
          have := List.filter_eq_nil_iff.mp hE x hx
          exact this (decide_eq_true m)
        have same : ∀ u ∈ waysS (atS p a), ∀ g1 g2, nextL (waysS (atS p a)) u.1 = some g1 → nextL (waysS (atS p b)) u.1 = some g2 → lk l g1 = lk l g2 := by
          intro u hu g1 g2 e1 e2
          refine Classical.byContradiction fun n => ?_
          have : ∃ y ∈ gl, y = mxmn g1 g2 := by
            obtain ⟨y, hy, g1', g2', f1, f2, rfl⟩ := paired_memL hgl u hu
            rw [e1] at f1; rw [e2] at f2
            cases f1; cases f2
            exact ⟨_, hy, rfl⟩
          obtain ⟨y, hy, rfl⟩ := this
          have i1 := (wa _ (nextL_mem e1)).2
          have i2 := (wb _ (nextL_mem e2)).2
          refine none_in _ hy ?_
          unfold mxmn
          rcases Int.lt_trichotomy g1 g2 with h | h | h
          · rw [if_pos h, if_neg (by omega)]
            exact hall g2 g1 i2 i1 h fun z => n z.symm
          · subst h; exact absurd rfl n
          · rw [if_neg (by omega), if_pos h]
            exact hall g1 g2 i1 i2 h n
        refine maps_eq _ _ hw (dis_ways sa) fun w g1 g2 e1 e2 => ?_
        have m1 := nextL_mem e1
        exact same _ m1 g1 g2 e1 e2
    · rw [decide_eq_false hw, if_pos (show (!false) = true from rfl)]
      refine tell.imp ?_
      rintro out ⟨gs, b6, b7, b8, b9, b10, h1, h2, h3, h4, rfl⟩
      exact ⟨gs, _, _, _, _, _, h1, h2, h3, fun _ _ _ => h4, rfl⟩
  · rw [decide_eq_false hk, if_pos (show (!false) = true from rfl)]
    refine ⟨true, rfl, ?_⟩
    rw [if_pos rfl]
    refine tell.imp ?_
    rintro out ⟨gs, b6, b7, b8, b9, b10, h1, h2, h3, h4, rfl⟩
    exact ⟨gs, _, _, _, _, _, h1, h2, h3, fun _ _ _ => h4, rfl⟩
theorem unlike_pairs {p : List Stop} {o : O} (ho : isP p o) (hp : PlanOk p) : Wp (forL (tgN 2) (L_law_unlike_1 M_law_ways) ((List.range p.length).map fun i => .int (i : Nat)) [.shr o, .shr (.dat (.list [])), .un, .un, .un, .un, .un, .un, .un, .un, .un]) fun out => ∃ a2 a5 : Sl, out = .nx [.shr o, .shr (.dat (.list ((prL p.length).map prD))), a2, .un, .un, a5, .un, .un, .un, .un, .un] := by
  have n12 := hp.l12
  refine wp_for (fun i e => ∃ a2 a5 : Sl, e = [.shr o, .shr (.dat (.list ((prL i).map prD))), a2, .un, .un, a5, .un, .un, .un, .un, .un]) ⟨_, _, rfl⟩ ?_ ?_
  · rintro i d e hi ⟨a2, a5, rfl⟩
    obtain ⟨rfl, hi⟩ := rng_get hi
    have ll := prL_len i
    have : i * i ≤ 12 * 12 := Nat.mul_le_mul (by omega) (by omega)
    simp only [L_law_unlike_1, XR, List.getElem?_cons_zero, List.getElem?_cons_succ, List.set_cons_zero, List.set_cons_succ, List.length_cons, List.length_nil, List.length_map, List.length_range, List.length_append, List.length_set, List.map_cons, List.map_nil, List.replicate_succ, List.replicate_zero, List.cons_append, List.nil_append, List.append_nil, Nat.reduceLeDiff, Nat.reduceLT, Nat.zero_lt_succ, Int.reduceLT, Int.reduceLE, Int.reduceAdd, Int.reduceToNat, Int.cast_ofNat_Int, Int.natCast_zero, Int.natCast_one, Int.reduceEq, Int.reduceNe, Nat.reduceEqDiff, eq_self, beq_self_eq_true, Bool.true_beq, Bool.false_beq, Classical.not_not, Bool.not_eq_false, Int.reduceNeg, Int.reducePow, Option.bind_some, Option.bind_none, Option.map_some, Option.map_none, Option.or_some, Option.or_none, Option.none_or, Option.some_or, Option.or, decide_eq_true_eq, if_true, if_false, ite_true, ite_false, and_true, true_and, Bool.not_eq_true, Bool.not_true, Bool.not_false, Bool.true_eq_false, Bool.false_eq_true, imp_false, not_false_eq_true, not_true_eq_false, forall_const, true_implies, false_implies, reduceCtorEq, Nat.reduceAdd, Nat.reduceSub, Nat.reduceLT, decide_true, decide_false, Bool.or_true, Bool.true_or, Bool.or_false, Bool.false_or, Bool.and_true, Bool.true_and, Bool.and_false, Bool.false_and, and_false, false_and, or_true, true_or, or_false, false_or, not_true, not_false]
    refine ⟨by omega, by omega, ?_⟩
    rw [Int.toNat_natCast]
    refine lc_rng prD (fun k y => y = (((i : Nat) : Int), ((k : Nat) : Int))) (fun k hk => ?_) fun l hl hP => ?_
    · simp only [XR, List.getElem?_cons_zero, List.getElem?_cons_succ, List.set_cons_zero, List.set_cons_succ, List.length_cons, List.length_nil, List.length_map, List.length_range, List.length_append, List.length_set, List.map_cons, List.map_nil, List.replicate_succ, List.replicate_zero, List.cons_append, List.nil_append, List.append_nil, Nat.reduceLeDiff, Nat.reduceLT, Nat.zero_lt_succ, Int.reduceLT, Int.reduceLE, Int.reduceAdd, Int.reduceToNat, Int.cast_ofNat_Int, Int.natCast_zero, Int.natCast_one, Int.reduceEq, Int.reduceNe, Nat.reduceEqDiff, eq_self, beq_self_eq_true, Bool.true_beq, Bool.false_beq, Classical.not_not, Bool.not_eq_false, Int.reduceNeg, Int.reducePow, Option.bind_some, Option.bind_none, Option.map_some, Option.map_none, Option.or_some, Option.or_none, Option.none_or, Option.some_or, Option.or, decide_eq_true_eq, if_true, if_false, ite_true, ite_false, and_true, true_and, Bool.not_eq_true, Bool.not_true, Bool.not_false, Bool.true_eq_false, Bool.false_eq_true, imp_false, not_false_eq_true, not_true_eq_false, forall_const, true_implies, false_implies, reduceCtorEq, Nat.reduceAdd, Nat.reduceSub, Nat.reduceLT, decide_true, decide_false, Bool.or_true, Bool.true_or, Bool.or_false, Bool.false_or, Bool.and_true, Bool.true_and, Bool.and_false, Bool.false_and, and_false, false_and, or_true, true_or, or_false, false_or, not_true, not_false]
      exact ⟨_, rfl, rfl⟩
    · have el : l = (List.range i).map fun b => (((i : Nat) : Int), ((b : Nat) : Int)) := by
        refine List.ext_getElem (by rw [hl, List.length_map, List.length_range]) fun k k1 k2 => ?_
        rw [List.getElem_map, List.getElem_range]
        exact hP k _ (List.getElem?_eq_getElem k1)
      subst el
      rw [prL_succ, List.map_append]
      exact ⟨by simp only [List.length_map, List.length_range]; omega, _, _, rfl⟩
  · rintro e ⟨a2, a5, rfl⟩
    rw [List.length_map, List.length_range]
    exact ⟨_, _, rfl⟩
/-- one turn over all pairs: what the next level tells apart is told -/
theorem unlike_turn {p : List Stop} {o : O} (ho : isP p o) (hp : PlanOk p) {k : Nat} {fs : List Pr} (nd : fs.Nodup) (sub : ∀ x ∈ fs, x ∈ prL p.length) (hall : ∀ x y, inN p x → inN p y → y < x → lk (lv p k) x ≠ lk (lv p k) y → (x, y) ∈ fs) {a2 t a5 a6 a7 a8 a9 a10 : Sl} :
    Wp (L_law_unlike_3 M_law_ways [.shr o, .shr (.dat (.list ((prL p.length).map prD))), a2, .own (.dT (tbT fs)), t, a5, a6, a7, a8, a9, a10]) fun out => ∃ (gs : List Pr) (b2 b5 b6 b7 b8 b9 b10 : Sl), gs.Nodup ∧ (∀ x ∈ gs, x ∈ prL p.length) ∧ (∀ x y, inN p x → inN p y → y < x → lk (lv p (k + 1)) x ≠ lk (lv p (k + 1)) y → (x, y) ∈ gs) ∧
      out = .nx [.shr o, .shr (.dat (.list ((prL p.length).map prD))), b2, .own (.dT (tbT gs)), t, b5, b6, b7, b8, b9, b10] := by
  have n12 := hp.l12
  have few : ∀ gs : List Pr, gs.Nodup → (∀ x ∈ gs, x ∈ prL p.length) → gs.length ≤ 1000 := fun gs n m => by
    have := pair_nodup (m := p.length) (n := p.length) n fun x hx => by
      have := prL_mem.mp (show (x.1, x.2) ∈ prL p.length from m x hx)
      omega
    have : p.length * p.length ≤ 12 * 12 := Nat.mul_le_mul n12 n12
    omega
  unfold L_law_unlike_3
  simp only [XR, List.getElem?_cons_zero, List.getElem?_cons_succ, List.set_cons_zero, List.set_cons_succ, List.length_cons, List.length_nil, List.length_map, List.length_range, List.length_append, List.length_set, List.map_cons, List.map_nil, List.replicate_succ, List.replicate_zero, List.cons_append, List.nil_append, List.append_nil, Nat.reduceLeDiff, Nat.reduceLT, Nat.zero_lt_succ, Int.reduceLT, Int.reduceLE, Int.reduceAdd, Int.reduceToNat, Int.cast_ofNat_Int, Int.natCast_zero, Int.natCast_one, Int.reduceEq, Int.reduceNe, Nat.reduceEqDiff, eq_self, beq_self_eq_true, Bool.true_beq, Bool.false_beq, Classical.not_not, Bool.not_eq_false, Int.reduceNeg, Int.reducePow, Option.bind_some, Option.bind_none, Option.map_some, Option.map_none, Option.or_some, Option.or_none, Option.none_or, Option.some_or, Option.or, decide_eq_true_eq, if_true, if_false, ite_true, ite_false, and_true, true_and, Bool.not_eq_true, Bool.not_true, Bool.not_false, Bool.true_eq_false, Bool.false_eq_true, imp_false, not_false_eq_true, not_true_eq_false, forall_const, true_implies, false_implies, reduceCtorEq, Nat.reduceAdd, Nat.reduceSub, Nat.reduceLT, decide_true, decide_false, Bool.or_true, Bool.true_or, Bool.or_false, Bool.false_or, Bool.and_true, Bool.true_and, Bool.and_false, Bool.false_and, and_false, false_and, or_true, true_or, or_false, false_or, not_true, not_false]
  refine wp_for (fun i e => ∃ (gs : List Pr) (b2 b5 b6 b7 b8 b9 b10 : Sl), gs.Nodup ∧ (∀ x ∈ gs, x ∈ prL p.length) ∧ (∀ x ∈ fs, x ∈ gs) ∧ (∀ j x, j < i → (prL p.length)[j]? = some x → lk (lv p (k + 1)) x.1 ≠ lk (lv p (k + 1)) x.2 → x ∈ gs) ∧
    e = [.shr o, .shr (.dat (.list ((prL p.length).map prD))), b2, .own (.dT (tbT gs)), t, b5, b6, b7, b8, b9, b10]) ⟨fs, _, _, _, _, _, _, _, nd, sub, fun x h => h, fun j x h => absurd h (Nat.not_lt_zero _), rfl⟩ ?_ ?_
  · rintro i d e hi ⟨gs, b2, b5, b6, b7, b8, b9, b10, nd', sub', inc, hdone, rfl⟩
    rw [List.getElem?_map] at hi
    obtain ⟨x, hx, rfl⟩ := Option.map_eq_some_iff.mp hi
    have hm := List.mem_of_getElem? hx
    have hr := prL_mem.mp (show (x.1, x.2) ∈ prL p.length from hm)
    have ha : inN p x.1 := ⟨by omega, by omega⟩
    have hb : inN p x.2 := ⟨by omega, by omega⟩
    simp only [prD, XR, List.getElem?_cons_zero, List.getElem?_cons_succ, List.set_cons_zero, List.set_cons_succ, List.length_cons, List.length_nil, List.length_map, List.length_range, List.length_append, List.length_set, List.map_cons, List.map_nil, List.replicate_succ, List.replicate_zero, List.cons_append, List.nil_append, List.append_nil, Nat.reduceLeDiff, Nat.reduceLT, Nat.zero_lt_succ, Int.reduceLT, Int.reduceLE, Int.reduceAdd, Int.reduceToNat, Int.cast_ofNat_Int, Int.natCast_zero, Int.natCast_one, Int.reduceEq, Int.reduceNe, Nat.reduceEqDiff, eq_self, beq_self_eq_true, Bool.true_beq, Bool.false_beq, Classical.not_not, Bool.not_eq_false, Int.reduceNeg, Int.reducePow, Option.bind_some, Option.bind_none, Option.map_some, Option.map_none, Option.or_some, Option.or_none, Option.none_or, Option.some_or, Option.or, decide_eq_true_eq, if_true, if_false, ite_true, ite_false, and_true, true_and, Bool.not_eq_true, Bool.not_true, Bool.not_false, Bool.true_eq_false, Bool.false_eq_true, imp_false, not_false_eq_true, not_true_eq_false, forall_const, true_implies, false_implies, reduceCtorEq, Nat.reduceAdd, Nat.reduceSub, Nat.reduceLT, decide_true, decide_false, Bool.or_true, Bool.true_or, Bool.or_false, Bool.false_or, Bool.and_true, Bool.true_and, Bool.and_false, Bool.false_and, and_false, false_and, or_true, true_or, or_false, false_or, not_true, not_false]
    refine (unlike_row ho hp (few gs nd' sub') ha hb nd' (l := lv p k)).imp ?_
    rintro out ⟨gs2, c6, c7, c8, c9, c10, h1, h2, h3, h4, rfl⟩
    refine ⟨gs2, _, _, _, _, _, _, _, h1, fun y hy => ?_, fun y hy => h2 y (inc y hy), fun j y hj ey hd => ?_, rfl⟩
    · rcases h3 y hy with h | rfl
      · exact sub' y h
      · exact hm
    · rcases Nat.lt_succ_iff_lt_or_eq.mp hj with hj | rfl
      · exact h2 y (hdone j y hj ey hd)
      · rw [hx] at ey; cases ey
        have hne : kE p (lv p k) x.1 ≠ kE p (lv p k) x.2 := fun z => hd ((step_iff ha hb).mpr z)
        by_cases hl : lk (lv p k) x.1 = lk (lv p k) x.2
        · exact h4 hne hl fun u v hu hv hlt hn => inc _ (hall u v hu hv hlt hn)
        · exact h2 _ (inc _ (hall x.1 x.2 ha hb hr.2.1 hl))
  · rintro e ⟨gs, b2, b5, b6, b7, b8, b9, b10, nd', sub', inc, hdone, rfl⟩
    rw [List.length_map] at hdone
    refine ⟨gs, _, _, _, _, _, _, _, nd', sub', fun x y hx hy hlt hn => ?_, rfl⟩
    have hm : (x, y) ∈ prL p.length := prL_mem.mpr ⟨hy.1, hlt, hx.2⟩
    obtain ⟨j, hj, ej⟩ := List.mem_iff_getElem.mp hm
    exact hdone j (x, y) hj (by rw [List.getElem?_eq_getElem hj, ej]) hn
theorem lv_next {p : List Stop} (k : Nat) : lv p (k + 1) = stepL p (lv p k) := rfl
theorem law_unlike_ok {p : List Stop} {o : O} (ho : isP p o) (hp : PlanOk p) (hr : ∀ i, inN p i → L p i = i) : M_law_unlike [o] = some (oB true) := Wp.eq (by
  have n12 := hp.l12
  rw [M_law_unlike, wp_runB, B_law_unlike]
  refine wp_seq (fun e => e = [.shr o, .shr (.dat (.list [])), .un, .un, .un, .un, .un, .un, .un, .un, .un]) ?_ ?_
  · simp only [XR, List.getElem?_cons_zero, List.getElem?_cons_succ, List.set_cons_zero, List.set_cons_succ, List.length_cons, List.length_nil, List.length_map, List.length_range, List.length_append, List.length_set, List.map_cons, List.map_nil, List.replicate_succ, List.replicate_zero, List.cons_append, List.nil_append, List.append_nil, Nat.reduceLeDiff, Nat.reduceLT, Nat.zero_lt_succ, Int.reduceLT, Int.reduceLE, Int.reduceAdd, Int.reduceToNat, Int.cast_ofNat_Int, Int.natCast_zero, Int.natCast_one, Int.reduceEq, Int.reduceNe, Nat.reduceEqDiff, eq_self, beq_self_eq_true, Bool.true_beq, Bool.false_beq, Classical.not_not, Bool.not_eq_false, Int.reduceNeg, Int.reducePow, Option.bind_some, Option.bind_none, Option.map_some, Option.map_none, Option.or_some, Option.or_none, Option.none_or, Option.some_or, Option.or, decide_eq_true_eq, if_true, if_false, ite_true, ite_false, and_true, true_and, Bool.not_eq_true, Bool.not_true, Bool.not_false, Bool.true_eq_false, Bool.false_eq_true, imp_false, not_false_eq_true, not_true_eq_false, forall_const, true_implies, false_implies, reduceCtorEq, Nat.reduceAdd, Nat.reduceSub, Nat.reduceLT, decide_true, decide_false, Bool.or_true, Bool.true_or, Bool.or_false, Bool.false_or, Bool.and_true, Bool.true_and, Bool.and_false, Bool.false_and, and_false, false_and, or_true, true_or, or_false, false_or, not_true, not_false]
    exact ⟨_, rfl, rfl⟩
  rintro e rfl
  refine wp_seq (fun e => ∃ a2 a5 : Sl, e = [.shr o, .shr (.dat (.list ((prL p.length).map prD))), a2, .un, .un, a5, .un, .un, .un, .un, .un]) ?_ ?_
  · simp only [XR, List.getElem?_cons_zero, List.getElem?_cons_succ, List.set_cons_zero, List.set_cons_succ, List.length_cons, List.length_nil, List.length_map, List.length_range, List.length_append, List.length_set, List.map_cons, List.map_nil, List.replicate_succ, List.replicate_zero, List.cons_append, List.nil_append, List.append_nil, Nat.reduceLeDiff, Nat.reduceLT, Nat.zero_lt_succ, Int.reduceLT, Int.reduceLE, Int.reduceAdd, Int.reduceToNat, Int.cast_ofNat_Int, Int.natCast_zero, Int.natCast_one, Int.reduceEq, Int.reduceNe, Nat.reduceEqDiff, eq_self, beq_self_eq_true, Bool.true_beq, Bool.false_beq, Classical.not_not, Bool.not_eq_false, Int.reduceNeg, Int.reducePow, Option.bind_some, Option.bind_none, Option.map_some, Option.map_none, Option.or_some, Option.or_none, Option.none_or, Option.some_or, Option.or, decide_eq_true_eq, if_true, if_false, ite_true, ite_false, and_true, true_and, Bool.not_eq_true, Bool.not_true, Bool.not_false, Bool.true_eq_false, Bool.false_eq_true, imp_false, not_false_eq_true, not_true_eq_false, forall_const, true_implies, false_implies, reduceCtorEq, Nat.reduceAdd, Nat.reduceSub, Nat.reduceLT, decide_true, decide_false, Bool.or_true, Bool.true_or, Bool.or_false, Bool.false_or, Bool.and_true, Bool.true_and, Bool.and_false, Bool.false_and, and_false, false_and, or_true, true_or, or_false, false_or, not_true, not_false, len_p ho]
    refine ⟨by omega, ?_⟩
    rw [Int.toNat_natCast]
    refine (unlike_pairs ho hp).imp ?_
    rintro out ⟨a2, a5, rfl⟩
    exact ⟨_, rfl, _, _, rfl⟩
  rintro e ⟨a2, a5, rfl⟩
  refine wp_seq (fun e => e = [.shr o, .shr (.dat (.list ((prL p.length).map prD))), a2, .own (.dT (tbT [])), .un, a5, .un, .un, .un, .un, .un]) ?_ ?_
  · have : eNewT (.shr o :: [.shr (.dat (.list ((prL p.length).map prD))), a2, .un, .un, a5, .un, .un, .un, .un, .un]) = some (.dT []) := rfl
    simp only [XR, List.getElem?_cons_zero, List.getElem?_cons_succ, List.set_cons_zero, List.set_cons_succ, List.length_cons, List.length_nil, List.length_map, List.length_range, List.length_append, List.length_set, List.map_cons, List.map_nil, List.replicate_succ, List.replicate_zero, List.cons_append, List.nil_append, List.append_nil, Nat.reduceLeDiff, Nat.reduceLT, Nat.zero_lt_succ, Int.reduceLT, Int.reduceLE, Int.reduceAdd, Int.reduceToNat, Int.cast_ofNat_Int, Int.natCast_zero, Int.natCast_one, Int.reduceEq, Int.reduceNe, Nat.reduceEqDiff, eq_self, beq_self_eq_true, Bool.true_beq, Bool.false_beq, Classical.not_not, Bool.not_eq_false, Int.reduceNeg, Int.reducePow, Option.bind_some, Option.bind_none, Option.map_some, Option.map_none, Option.or_some, Option.or_none, Option.none_or, Option.some_or, Option.or, decide_eq_true_eq, if_true, if_false, ite_true, ite_false, and_true, true_and, Bool.not_eq_true, Bool.not_true, Bool.not_false, Bool.true_eq_false, Bool.false_eq_true, imp_false, not_false_eq_true, not_true_eq_false, forall_const, true_implies, false_implies, reduceCtorEq, Nat.reduceAdd, Nat.reduceSub, Nat.reduceLT, decide_true, decide_false, Bool.or_true, Bool.true_or, Bool.or_false, Bool.false_or, Bool.and_true, Bool.true_and, Bool.and_false, Bool.false_and, and_false, false_and, or_true, true_or, or_false, false_or, not_true, not_false, this]
    exact ⟨_, rfl, rfl⟩
  rintro e rfl
  refine wp_seq (fun e => ∃ (gs : List Pr) (b2 b4 b5 b6 b7 b8 b9 b10 : Sl), gs.Nodup ∧ (∀ x ∈ gs, x ∈ prL p.length) ∧ (∀ x ∈ prL p.length, x ∈ gs) ∧
      e = [.shr o, .shr (.dat (.list ((prL p.length).map prD))), b2, .own (.dT (tbT gs)), b4, b5, b6, b7, b8, b9, b10]) ?_ ?_
  · refine w_forR (n := (p.length : Int) + 1) (Wp.eq (by simp only [XR, List.getElem?_cons_zero, List.getElem?_cons_succ, List.set_cons_zero, List.set_cons_succ, List.length_cons, List.length_nil, List.length_map, List.length_range, List.length_append, List.length_set, List.map_cons, List.map_nil, List.replicate_succ, List.replicate_zero, List.cons_append, List.nil_append, List.append_nil, Nat.reduceLeDiff, Nat.reduceLT, Nat.zero_lt_succ, Int.reduceLT, Int.reduceLE, Int.reduceAdd, Int.reduceToNat, Int.cast_ofNat_Int, Int.natCast_zero, Int.natCast_one, Int.reduceEq, Int.reduceNe, Nat.reduceEqDiff, eq_self, beq_self_eq_true, Bool.true_beq, Bool.false_beq, Classical.not_not, Bool.not_eq_false, Int.reduceNeg, Int.reducePow, Option.bind_some, Option.bind_none, Option.map_some, Option.map_none, Option.or_some, Option.or_none, Option.none_or, Option.some_or, Option.or, decide_eq_true_eq, if_true, if_false, ite_true, ite_false, and_true, true_and, Bool.not_eq_true, Bool.not_true, Bool.not_false, Bool.true_eq_false, Bool.false_eq_true, imp_false, not_false_eq_true, not_true_eq_false, forall_const, true_implies, false_implies, reduceCtorEq, Nat.reduceAdd, Nat.reduceSub, Nat.reduceLT, decide_true, decide_false, Bool.or_true, Bool.true_or, Bool.or_false, Bool.false_or, Bool.and_true, Bool.true_and, Bool.and_false, Bool.false_and, and_false, false_and, or_true, true_or, or_false, false_or, not_true, not_false, len_p ho])) (by omega) (by omega) ?_
    rw [show ((p.length : Int) + 1).toNat = p.length + 1 by omega]
    refine wp_for (fun k e => ∃ (gs : List Pr) (b2 b4 b5 b6 b7 b8 b9 b10 : Sl), gs.Nodup ∧ (∀ x ∈ gs, x ∈ prL p.length) ∧ (∀ x y, inN p x → inN p y → y < x → lk (lv p k) x ≠ lk (lv p k) y → (x, y) ∈ gs) ∧
      e = [.shr o, .shr (.dat (.list ((prL p.length).map prD))), b2, .own (.dT (tbT gs)), b4, b5, b6, b7, b8, b9, b10]) ⟨[], _, _, _, _, _, _, _, _, .nil, by simp, fun x y _ _ _ h => absurd (by unfold lv; rw [lk_rep, lk_rep]) h, rfl⟩ ?_ ?_
    · rintro k d e hi ⟨gs, b2, b4, b5, b6, b7, b8, b9, b10, h1, h2, h3, rfl⟩
      obtain ⟨rfl, hi⟩ := rng_get hi
      simp only [XR, List.getElem?_cons_zero, List.getElem?_cons_succ, List.set_cons_zero, List.set_cons_succ, List.length_cons, List.length_nil, List.length_map, List.length_range, List.length_append, List.length_set, List.map_cons, List.map_nil, List.replicate_succ, List.replicate_zero, List.cons_append, List.nil_append, List.append_nil, Nat.reduceLeDiff, Nat.reduceLT, Nat.zero_lt_succ, Int.reduceLT, Int.reduceLE, Int.reduceAdd, Int.reduceToNat, Int.cast_ofNat_Int, Int.natCast_zero, Int.natCast_one, Int.reduceEq, Int.reduceNe, Nat.reduceEqDiff, eq_self, beq_self_eq_true, Bool.true_beq, Bool.false_beq, Classical.not_not, Bool.not_eq_false, Int.reduceNeg, Int.reducePow, Option.bind_some, Option.bind_none, Option.map_some, Option.map_none, Option.or_some, Option.or_none, Option.none_or, Option.some_or, Option.or, decide_eq_true_eq, if_true, if_false, ite_true, ite_false, and_true, true_and, Bool.not_eq_true, Bool.not_true, Bool.not_false, Bool.true_eq_false, Bool.false_eq_true, imp_false, not_false_eq_true, not_true_eq_false, forall_const, true_implies, false_implies, reduceCtorEq, Nat.reduceAdd, Nat.reduceSub, Nat.reduceLT, decide_true, decide_false, Bool.or_true, Bool.true_or, Bool.or_false, Bool.false_or, Bool.and_true, Bool.true_and, Bool.and_false, Bool.false_and, and_false, false_and, or_true, true_or, or_false, false_or, not_true, not_false]
      refine (unlike_turn ho hp h1 h2 h3).imp ?_
      rintro out ⟨gs2, c2, c5, c6, c7, c8, c9, c10, g1, g2, g3, rfl⟩
      exact ⟨gs2, _, _, _, _, _, _, _, _, g1, g2, g3, rfl⟩
    · rintro e ⟨gs, b2, b4, b5, b6, b7, b8, b9, b10, h1, h2, h3, rfl⟩
      rw [List.length_map, List.length_range] at h3
      refine ⟨_, rfl, gs, _, _, _, _, _, _, _, _, h1, h2, fun x hx => ?_, rfl⟩
      have hm := prL_mem.mp (show (x.1, x.2) ∈ prL p.length from hx)
      have ha : inN p x.1 := ⟨by omega, by omega⟩
      have hb : inN p x.2 := ⟨by omega, by omega⟩
      refine h3 x.1 x.2 ha hb hm.2.1 fun z => ?_
      have e : lv p (p.length + 1) = leastF p := (lv_next _).trans (least_fix hp)
      rw [e] at z
      have z : L p x.1 = L p x.2 := z
      rw [hr _ ha, hr _ hb] at z
      omega
  rintro e ⟨gs, b2, b4, b5, b6, b7, b8, b9, b10, h1, h2, h3, rfl⟩
  have el : gs.length = (prL p.length).length := ((List.perm_ext_iff_of_nodup h1 (prL_nd _)).mpr fun x => ⟨h2 x, h3 x⟩).length_eq
  have tl : (tbT gs).length = gs.length := by unfold tbT; rw [List.length_map]
  simp only [XR, List.getElem?_cons_zero, List.getElem?_cons_succ, List.set_cons_zero, List.set_cons_succ, List.length_cons, List.length_nil, List.length_map, List.length_range, List.length_append, List.length_set, List.map_cons, List.map_nil, List.replicate_succ, List.replicate_zero, List.cons_append, List.nil_append, List.append_nil, Nat.reduceLeDiff, Nat.reduceLT, Nat.zero_lt_succ, Int.reduceLT, Int.reduceLE, Int.reduceAdd, Int.reduceToNat, Int.cast_ofNat_Int, Int.natCast_zero, Int.natCast_one, Int.reduceEq, Int.reduceNe, Nat.reduceEqDiff, eq_self, beq_self_eq_true, Bool.true_beq, Bool.false_beq, Classical.not_not, Bool.not_eq_false, Int.reduceNeg, Int.reducePow, Option.bind_some, Option.bind_none, Option.map_some, Option.map_none, Option.or_some, Option.or_none, Option.none_or, Option.some_or, Option.or, decide_eq_true_eq, if_true, if_false, ite_true, ite_false, and_true, true_and, Bool.not_eq_true, Bool.not_true, Bool.not_false, Bool.true_eq_false, Bool.false_eq_true, imp_false, not_false_eq_true, not_true_eq_false, forall_const, true_implies, false_implies, reduceCtorEq, Nat.reduceAdd, Nat.reduceSub, Nat.reduceLT, decide_true, decide_false, Bool.or_true, Bool.true_or, Bool.or_false, Bool.false_or, Bool.and_true, Bool.true_and, Bool.and_false, Bool.false_and, and_false, false_and, or_true, true_or, or_false, false_or, not_true, not_false, tl, el])
end TP

namespace TP
open PySem PySem.Spec PyProof.Rows L2
theorem sm_mat {p : List Stop} (hp : PlanOk p) : Mat p (smF p) fun i j => inN p i ∧ L p i ∈ ordF p ∧ j = phi p i := by
  rintro i j ⟨hi, ho, rfl⟩
  obtain ⟨k, w⟩ := at_phi hp hi ho
  refine ⟨hi, phi_in ho, k.symm, ?_⟩
  rw [w]
  have all : ∀ l : List (Str × Int), (∀ u ∈ l, u ∈ waysS (atS p i)) → Paired (fun u v => u.1 = v.1 ∧ inN p u.2 ∧ L p u.2 ∈ ordF p ∧ v.2 = phi p u.2) l (l.map fun u => (u.1, phi p u.2)) := by
    intro l
    induction l with
    | nil => intro _; exact .nil
    | cons u l ih => intro h; exact .cons ⟨rfl, (ways_in hp hi u (h u List.mem_cons_self)).2, ord_clo hp hi ho u (h u List.mem_cons_self), rfl⟩ (ih fun v m => h v (List.mem_cons_of_mem _ m))
  exact all _ fun u m => m
theorem ok_set0 {p : List Stop} (hp : PlanOk p) : PlanOk (p.set 0 .fin) := by
  refine ⟨by rw [List.length_set]; exact hp.l1, by rw [List.length_set]; exact hp.l12, fun s m => ?_⟩
  rw [List.length_set]
  rcases List.mem_or_eq_of_mem_set m with m | rfl
  · exact hp.ok s m
  · trivial
theorem data_p {p : List Stop} {o : O} (ho : isP p o) : o.data = some (planD p) := by rcases ho with rfl | rfl <;> rfl
theorem main : ∀ ns : List Int, ns.length ≤ 63 → (∀ z ∈ ns, Builtin.Int.intBits z ≤ 1048576) → M_law [.scr ns] = some (.dat (.bool true)) := fun ns hl hb => Wp.eq (by
  rw [M_law, wp_runB, B_law]
  refine wp_seq (fun e => ∃ c : Int, CellOk c ∧ e = [.shr (.scr ns), .shr (oI c), .un, .un, .un, .un]) ?_ ?_
  · simp only [XR, List.getElem?_cons_zero, List.getElem?_cons_succ, List.set_cons_zero, List.set_cons_succ, List.length_cons, List.length_nil, List.length_map, List.length_range, List.length_append, List.length_set, List.map_cons, List.map_nil, List.replicate_succ, List.replicate_zero, List.cons_append, List.nil_append, List.append_nil, Nat.reduceLeDiff, Nat.reduceLT, Nat.zero_lt_succ, Int.reduceLT, Int.reduceLE, Int.reduceAdd, Int.reduceToNat, Int.cast_ofNat_Int, Int.natCast_zero, Int.natCast_one, Int.reduceEq, Int.reduceNe, Nat.reduceEqDiff, eq_self, beq_self_eq_true, Bool.true_beq, Bool.false_beq, Classical.not_not, Bool.not_eq_false, Int.reduceNeg, Int.reducePow, Option.bind_some, Option.bind_none, Option.map_some, Option.map_none, Option.or_some, Option.or_none, Option.none_or, Option.some_or, Option.or, decide_eq_true_eq, if_true, if_false, ite_true, ite_false, and_true, true_and, Bool.not_eq_true, Bool.not_true, Bool.not_false, Bool.true_eq_false, Bool.false_eq_true, imp_false, not_false_eq_true, not_true_eq_false, forall_const, true_implies, false_implies, reduceCtorEq, Nat.reduceAdd, Nat.reduceSub, Nat.reduceLT, decide_true, decide_false, Bool.or_true, Bool.true_or, Bool.or_false, Bool.false_or, Bool.and_true, Bool.true_and, Bool.and_false, Bool.false_and, and_false, false_and, or_true, true_or, or_false, false_or, not_true, not_false]
    refine w_cell_at (k := 1) hb fun c h => ?_
    simp only [XR, List.getElem?_cons_zero, List.getElem?_cons_succ, List.set_cons_zero, List.set_cons_succ, List.length_cons, List.length_nil, List.length_map, List.length_range, List.length_append, List.length_set, List.map_cons, List.map_nil, List.replicate_succ, List.replicate_zero, List.cons_append, List.nil_append, List.append_nil, Nat.reduceLeDiff, Nat.reduceLT, Nat.zero_lt_succ, Int.reduceLT, Int.reduceLE, Int.reduceAdd, Int.reduceToNat, Int.cast_ofNat_Int, Int.natCast_zero, Int.natCast_one, Int.reduceEq, Int.reduceNe, Nat.reduceEqDiff, eq_self, beq_self_eq_true, Bool.true_beq, Bool.false_beq, Classical.not_not, Bool.not_eq_false, Int.reduceNeg, Int.reducePow, Option.bind_some, Option.bind_none, Option.map_some, Option.map_none, Option.or_some, Option.or_none, Option.none_or, Option.some_or, Option.or, decide_eq_true_eq, if_true, if_false, ite_true, ite_false, and_true, true_and, Bool.not_eq_true, Bool.not_true, Bool.not_false, Bool.true_eq_false, Bool.false_eq_true, imp_false, not_false_eq_true, not_true_eq_false, forall_const, true_implies, false_implies, reduceCtorEq, Nat.reduceAdd, Nat.reduceSub, Nat.reduceLT, decide_true, decide_false, Bool.or_true, Bool.true_or, Bool.or_false, Bool.false_or, Bool.and_true, Bool.true_and, Bool.and_false, Bool.false_and, and_false, false_and, or_true, true_or, or_false, false_or, not_true, not_false]
    exact ⟨_, rfl, c, h, rfl⟩
  rintro e ⟨c, hc, rfl⟩
  refine wp_seq (fun e => ∃ p : List Stop, PlanOk p ∧ e = [.shr (.scr ns), .shr (oI c), .shr (.dat (planD p)), .un, .un, .un]) ?_ ?_
  · simp only [XR, List.getElem?_cons_zero, List.getElem?_cons_succ, List.set_cons_zero, List.set_cons_succ, List.length_cons, List.length_nil, List.length_map, List.length_range, List.length_append, List.length_set, List.map_cons, List.map_nil, List.replicate_succ, List.replicate_zero, List.cons_append, List.nil_append, List.append_nil, Nat.reduceLeDiff, Nat.reduceLT, Nat.zero_lt_succ, Int.reduceLT, Int.reduceLE, Int.reduceAdd, Int.reduceToNat, Int.cast_ofNat_Int, Int.natCast_zero, Int.natCast_one, Int.reduceEq, Int.reduceNe, Nat.reduceEqDiff, eq_self, beq_self_eq_true, Bool.true_beq, Bool.false_beq, Classical.not_not, Bool.not_eq_false, Int.reduceNeg, Int.reducePow, Option.bind_some, Option.bind_none, Option.map_some, Option.map_none, Option.or_some, Option.or_none, Option.none_or, Option.some_or, Option.or, decide_eq_true_eq, if_true, if_false, ite_true, ite_false, and_true, true_and, Bool.not_eq_true, Bool.not_true, Bool.not_false, Bool.true_eq_false, Bool.false_eq_true, imp_false, not_false_eq_true, not_true_eq_false, forall_const, true_implies, false_implies, reduceCtorEq, Nat.reduceAdd, Nat.reduceSub, Nat.reduceLT, decide_true, decide_false, Bool.or_true, Bool.true_or, Bool.or_false, Bool.false_or, Bool.and_true, Bool.true_and, Bool.and_false, Bool.false_and, and_false, false_and, or_true, true_or, or_false, false_or, not_true, not_false]
    refine w_cell_at (k := 2) hb fun c2 h2 => w_cell_at (k := 0) hb fun c0 h0 => w_words h0 fun ws l w s => w_plan (.inl rfl) hc l w s fun p0 hp0 _ => ?_
    simp only [XR, List.getElem?_cons_zero, List.getElem?_cons_succ, List.set_cons_zero, List.set_cons_succ, List.length_cons, List.length_nil, List.length_map, List.length_range, List.length_append, List.length_set, List.map_cons, List.map_nil, List.replicate_succ, List.replicate_zero, List.cons_append, List.nil_append, List.append_nil, Nat.reduceLeDiff, Nat.reduceLT, Nat.zero_lt_succ, Int.reduceLT, Int.reduceLE, Int.reduceAdd, Int.reduceToNat, Int.cast_ofNat_Int, Int.natCast_zero, Int.natCast_one, Int.reduceEq, Int.reduceNe, Nat.reduceEqDiff, eq_self, beq_self_eq_true, Bool.true_beq, Bool.false_beq, Classical.not_not, Bool.not_eq_false, Int.reduceNeg, Int.reducePow, Option.bind_some, Option.bind_none, Option.map_some, Option.map_none, Option.or_some, Option.or_none, Option.none_or, Option.some_or, Option.or, decide_eq_true_eq, if_true, if_false, ite_true, ite_false, and_true, true_and, Bool.not_eq_true, Bool.not_true, Bool.not_false, Bool.true_eq_false, Bool.false_eq_true, imp_false, not_false_eq_true, not_true_eq_false, forall_const, true_implies, false_implies, reduceCtorEq, Nat.reduceAdd, Nat.reduceSub, Nat.reduceLT, decide_true, decide_false, Bool.or_true, Bool.true_or, Bool.or_false, Bool.false_or, Bool.and_true, Bool.true_and, Bool.and_false, Bool.false_and, and_false, false_and, or_true, true_or, or_false, false_or, not_true, not_false]
    have := w_twice (c := c2) (Q := fun o => ∃ d, o.data = some d ∧ ∃ p, PlanOk p ∧ d = planD p) hp0 h2 fun q o' hq ho => ⟨_, data_p ho, q, hq, rfl⟩
    unfold planD at this
    refine this.imp ?_
    rintro o ⟨d, ed, p, hp, rfl⟩
    exact ⟨_, ed, _, rfl, p, hp, rfl⟩
  rintro e ⟨p, hp, rfl⟩
  have n12 := hp.l12
  have hs := sm_ok hp
  have s12 := hs.l12
  refine wp_seq (fun e => e = [.shr (.scr ns), .shr (oI c), .shr (.dat (planD p)), .own (.lst (p.map stopD)), .un, .un]) ?_ ?_
  · simp only [planD, XR, List.getElem?_cons_zero, List.getElem?_cons_succ, List.set_cons_zero, List.set_cons_succ, List.length_cons, List.length_nil, List.length_map, List.length_range, List.length_append, List.length_set, List.map_cons, List.map_nil, List.replicate_succ, List.replicate_zero, List.cons_append, List.nil_append, List.append_nil, Nat.reduceLeDiff, Nat.reduceLT, Nat.zero_lt_succ, Int.reduceLT, Int.reduceLE, Int.reduceAdd, Int.reduceToNat, Int.cast_ofNat_Int, Int.natCast_zero, Int.natCast_one, Int.reduceEq, Int.reduceNe, Nat.reduceEqDiff, eq_self, beq_self_eq_true, Bool.true_beq, Bool.false_beq, Classical.not_not, Bool.not_eq_false, Int.reduceNeg, Int.reducePow, Option.bind_some, Option.bind_none, Option.map_some, Option.map_none, Option.or_some, Option.or_none, Option.none_or, Option.some_or, Option.or, decide_eq_true_eq, if_true, if_false, ite_true, ite_false, and_true, true_and, Bool.not_eq_true, Bool.not_true, Bool.not_false, Bool.true_eq_false, Bool.false_eq_true, imp_false, not_false_eq_true, not_true_eq_false, forall_const, true_implies, false_implies, reduceCtorEq, Nat.reduceAdd, Nat.reduceSub, Nat.reduceLT, decide_true, decide_false, Bool.or_true, Bool.true_or, Bool.or_false, Bool.false_or, Bool.and_true, Bool.true_and, Bool.and_false, Bool.false_and, and_false, false_and, or_true, true_or, or_false, false_or, not_true, not_false]
    exact ⟨_, rfl, rfl⟩
  rintro e rfl
  refine wp_seq (fun e => e = [.shr (.scr ns), .shr (oI c), .shr (.dat (planD p)), .own (.lst (p.map stopD)), .own (.lst ((smF p).map stopD)), .un]) (w_own (w_fn1 (a := .lst (p.map stopD)) rfl ⟨_, small_ok (.inl rfl) hp, by simp, _, rfl, rfl⟩)) ?_
  rintro e rfl
  refine wp_seq _ (w_skip (w_orF (w_e2 ⟨.lst (p.map stopD), rfl, .dat (planD p), rfl, _, ne_same (d := planD p) rfl rfl (shaped_plan hp), rfl⟩) (w_orF (w_notB (w_fn1 (a := .lst ((smF p).map stopD)) rfl ⟨_, law_is_plan_ok (.inl rfl) hs, rfl⟩)) (w_e2 (w_fn1 (a := .lst ((smF p).map stopD)) rfl ⟨_, law_order_ok (.inl rfl) hs, ?_⟩))))) ?_
  · have e1 : Wp (eListR (eCall (g1 gLen) (eCons (eVar 4) (eNil))) [.shr (.scr ns), .shr (oI c), .shr (.dat (planD p)), .own (.lst (p.map stopD)), .own (.lst ((smF p).map stopD)), .un]) fun o => o = .lst ((rgI (smF p).length).map .int) := by
      simp only [XR, List.getElem?_cons_zero, List.getElem?_cons_succ, List.set_cons_zero, List.set_cons_succ, List.length_cons, List.length_nil, List.length_map, List.length_range, List.length_append, List.length_set, List.map_cons, List.map_nil, List.replicate_succ, List.replicate_zero, List.cons_append, List.nil_append, List.append_nil, Nat.reduceLeDiff, Nat.reduceLT, Nat.zero_lt_succ, Int.reduceLT, Int.reduceLE, Int.reduceAdd, Int.reduceToNat, Int.cast_ofNat_Int, Int.natCast_zero, Int.natCast_one, Int.reduceEq, Int.reduceNe, Nat.reduceEqDiff, eq_self, beq_self_eq_true, Bool.true_beq, Bool.false_beq, Classical.not_not, Bool.not_eq_false, Int.reduceNeg, Int.reducePow, Option.bind_some, Option.bind_none, Option.map_some, Option.map_none, Option.or_some, Option.or_none, Option.none_or, Option.some_or, Option.or, decide_eq_true_eq, if_true, if_false, ite_true, ite_false, and_true, true_and, Bool.not_eq_true, Bool.not_true, Bool.not_false, Bool.true_eq_false, Bool.false_eq_true, imp_false, not_false_eq_true, not_true_eq_false, forall_const, true_implies, false_implies, reduceCtorEq, Nat.reduceAdd, Nat.reduceSub, Nat.reduceLT, decide_true, decide_false, Bool.or_true, Bool.true_or, Bool.or_false, Bool.false_or, Bool.and_true, Bool.true_and, Bool.and_false, Bool.false_and, and_false, false_and, or_true, true_or, or_false, false_or, not_true, not_false]
      refine ⟨by omega, ?_⟩
      rw [Int.toNat_natCast, List.map_map]
      rfl
    refine e1.imp ?_
    rintro _ rfl
    rw [sm_rchF hp]
    exact ⟨_, ne_same rfl rfl (shp_ints _), rfl⟩
  rintro e rfl
  refine wp_seq _ (w_skip (w_orF (w_notB (w_fn2 (a := .dat (planD p)) (b := .lst ((smF p).map stopD)) rfl rfl ⟨_, law_alike_ok (sm_mat hp) ⟨inN0 hp, by rw [lc0 hp]; exact List.mem_of_getElem? (ord_head hp), (phi_0 hp).symm⟩ (.inr rfl) (.inl rfl) hp hs, rfl⟩)) (w_orF (w_notB (w_fn1 (a := .lst ((smF p).map stopD)) rfl ⟨_, law_unlike_ok (.inl rfl) hs (fun i hi => sm_L hp hi), rfl⟩)) (w_e2 (w_fn1 (a := .lst ((smF p).map stopD)) rfl ⟨_, small_ok (.inl rfl) hs, .lst ((smF p).map stopD), rfl, ?_⟩))))) ?_
  · rw [sm_sm hp]
    exact ⟨_, ne_same (d := planD (smF p)) rfl rfl (shaped_plan hs), rfl⟩
  rintro e rfl
  refine wp_seq (fun e => e = [.shr (.scr ns), .shr (oI c), .shr (.dat (planD p)), .own (.lst (p.map stopD)), .own (.lst ((smF p).map stopD)), .shr (.dat (planD (smF p)))]) ?_ ?_
  · simp only [XR, List.getElem?_cons_zero, List.getElem?_cons_succ, List.set_cons_zero, List.set_cons_succ, List.length_cons, List.length_nil, List.length_map, List.length_range, List.length_append, List.length_set, List.map_cons, List.map_nil, List.replicate_succ, List.replicate_zero, List.cons_append, List.nil_append, List.append_nil, Nat.reduceLeDiff, Nat.reduceLT, Nat.zero_lt_succ, Int.reduceLT, Int.reduceLE, Int.reduceAdd, Int.reduceToNat, Int.cast_ofNat_Int, Int.natCast_zero, Int.natCast_one, Int.reduceEq, Int.reduceNe, Nat.reduceEqDiff, eq_self, beq_self_eq_true, Bool.true_beq, Bool.false_beq, Classical.not_not, Bool.not_eq_false, Int.reduceNeg, Int.reducePow, Option.bind_some, Option.bind_none, Option.map_some, Option.map_none, Option.or_some, Option.or_none, Option.none_or, Option.some_or, Option.or, decide_eq_true_eq, if_true, if_false, ite_true, ite_false, and_true, true_and, Bool.not_eq_true, Bool.not_true, Bool.not_false, Bool.true_eq_false, Bool.false_eq_true, imp_false, not_false_eq_true, not_true_eq_false, forall_const, true_implies, false_implies, reduceCtorEq, Nat.reduceAdd, Nat.reduceSub, Nat.reduceLT, decide_true, decide_false, Bool.or_true, Bool.true_or, Bool.or_false, Bool.false_or, Bool.and_true, Bool.true_and, Bool.and_false, Bool.false_and, and_false, false_and, or_true, true_or, or_false, false_or, not_true, not_false]
    exact ⟨_, rfl, rfl⟩
  rintro e rfl
  refine wp_seq (fun e => e = [.shr (.scr ns), .shr (oI c), .shr (.dat (planD p)), .own (.lst (p.map stopD)), .own (.lst []), .shr (.dat (planD (smF p)))]) ?_ ?_
  · simp only [XR, List.getElem?_cons_zero, List.getElem?_cons_succ, List.set_cons_zero, List.set_cons_succ, List.length_cons, List.length_nil, List.length_map, List.length_range, List.length_append, List.length_set, List.map_cons, List.map_nil, List.replicate_succ, List.replicate_zero, List.cons_append, List.nil_append, List.append_nil, Nat.reduceLeDiff, Nat.reduceLT, Nat.zero_lt_succ, Int.reduceLT, Int.reduceLE, Int.reduceAdd, Int.reduceToNat, Int.cast_ofNat_Int, Int.natCast_zero, Int.natCast_one, Int.reduceEq, Int.reduceNe, Nat.reduceEqDiff, eq_self, beq_self_eq_true, Bool.true_beq, Bool.false_beq, Classical.not_not, Bool.not_eq_false, Int.reduceNeg, Int.reducePow, Option.bind_some, Option.bind_none, Option.map_some, Option.map_none, Option.or_some, Option.or_none, Option.none_or, Option.some_or, Option.or, decide_eq_true_eq, if_true, if_false, ite_true, ite_false, and_true, true_and, Bool.not_eq_true, Bool.not_true, Bool.not_false, Bool.true_eq_false, Bool.false_eq_true, imp_false, not_false_eq_true, not_true_eq_false, forall_const, true_implies, false_implies, reduceCtorEq, Nat.reduceAdd, Nat.reduceSub, Nat.reduceLT, decide_true, decide_false, Bool.or_true, Bool.true_or, Bool.or_false, Bool.false_or, Bool.and_true, Bool.true_and, Bool.and_false, Bool.false_and, and_false, false_and, or_true, true_or, or_false, false_or, not_true, not_false]
    exact ⟨_, rfl, rfl⟩
  rintro e rfl
  refine wp_seq (fun e => e = [.shr (.scr ns), .shr (oI c), .shr (.dat (planD p)), .own (.lst ((p.set 0 .fin).map stopD)), .own (.lst []), .shr (.dat (planD (smF p)))]) ?_ ?_
  · simp only [XR, List.getElem?_cons_zero, List.getElem?_cons_succ, List.set_cons_zero, List.set_cons_succ, List.length_cons, List.length_nil, List.length_map, List.length_range, List.length_append, List.length_set, List.map_cons, List.map_nil, List.replicate_succ, List.replicate_zero, List.cons_append, List.nil_append, List.append_nil, Nat.reduceLeDiff, Nat.reduceLT, Nat.zero_lt_succ, Int.reduceLT, Int.reduceLE, Int.reduceAdd, Int.reduceToNat, Int.cast_ofNat_Int, Int.natCast_zero, Int.natCast_one, Int.reduceEq, Int.reduceNe, Nat.reduceEqDiff, eq_self, beq_self_eq_true, Bool.true_beq, Bool.false_beq, Classical.not_not, Bool.not_eq_false, Int.reduceNeg, Int.reducePow, Option.bind_some, Option.bind_none, Option.map_some, Option.map_none, Option.or_some, Option.or_none, Option.none_or, Option.some_or, Option.or, decide_eq_true_eq, if_true, if_false, ite_true, ite_false, and_true, true_and, Bool.not_eq_true, Bool.not_true, Bool.not_false, Bool.true_eq_false, Bool.false_eq_true, imp_false, not_false_eq_true, not_true_eq_false, forall_const, true_implies, false_implies, reduceCtorEq, Nat.reduceAdd, Nat.reduceSub, Nat.reduceLT, decide_true, decide_false, Bool.or_true, Bool.true_or, Bool.or_false, Bool.false_or, Bool.and_true, Bool.true_and, Bool.and_false, Bool.false_and, and_false, false_and, or_true, true_or, or_false, false_or, not_true, not_false]
    refine wp_ixN (by decide) (by have := hp.l1; omega) fun k hk k0 => ?_
    obtain rfl : k = 0 := by omega
    refine ⟨_, rfl, ?_⟩
    rw [List.map_set]
    rfl
  rintro e rfl
  have h0 := ok_set0 hp
  have e0 : atS (p.set 0 .fin) 0 = .fin := by
    have := hp.l1
    show ((p.set 0 .fin)[(0 : Nat)]?).getD .fin = .fin
    rw [List.getElem?_set_self (by omega)]
    rfl
  refine w_ret ((w_andT (b := true) (w_e2 (w_fn1 (a := .dat (planD p)) rfl ⟨_, small_ok (.inr rfl) hp, .dat (planD (smF p)), rfl, _, eq_same (d := planD (smF p)) rfl rfl (shaped_plan hs), rfl⟩)) (w_e2 (w_fn1 (a := .lst ((p.set 0 .fin).map stopD)) rfl ⟨_, small_ok (.inl rfl) h0, .lst [.tuple [.str "end"]], rfl, ?_⟩))).imp ?_)
  · rw [sm_fin h0 e0]
    exact ⟨_, eq_same (d := .list [.tuple [.str "end"]]) rfl rfl (by decide +kernel), rfl⟩
  · rintro _ rfl
    rfl)
end TP

namespace TP
open PySem PySem.Spec PyProof.Rows L2
def topS (i : Nat) : Stmt := PySem.Challenge.pw_talkplans_k03_small_plans.main.body.getD i (.Pass ⟨0, 0, 0, 0⟩)
abbrev s_is_whole : Stmt := topS 8
abbrev s_is_place : Stmt := topS 9
abbrev s_is_word : Stmt := topS 10
abbrev s_are_ways : Stmt := topS 11
abbrev s_is_stop : Stmt := topS 12
abbrev s_need_plan : Stmt := topS 13
abbrev s_ways_of : Stmt := topS 14
abbrev s_reached : Stmt := topS 15
abbrev s_grouped : Stmt := topS 16
abbrev s_small : Stmt := topS 17
abbrev s_law_cell_at : Stmt := topS 19
abbrev s_law_mixed : Stmt := topS 20
abbrev s_law_words : Stmt := topS 21
abbrev s_law_plan : Stmt := topS 22
abbrev s_law_goal : Stmt := topS 23
abbrev s_law_ways : Stmt := topS 24
abbrev s_law_twice : Stmt := topS 25
abbrev s_law_is_plan : Stmt := topS 26
abbrev s_law_order : Stmt := topS 27
abbrev s_law_alike : Stmt := topS 28
abbrev s_law_unlike : Stmt := topS 29
abbrev s_law : Stmt := topS 30
structure Txt (K : PySem.W.Frag) (mg : Str → Option Value) : Prop where
  b_all : mg "all" = none
  b_bool : mg "bool" = none
  b_dict : mg "dict" = none
  b_enumerate : mg "enumerate" = none
  b_int : mg "int" = none
  b_isinstance : mg "isinstance" = none
  b_len : mg "len" = none
  b_list : mg "list" = none
  b_max : mg "max" = none
  b_min : mg "min" = none
  b_range : mg "range" = none
  b_set : mg "set" = none
  b_sorted : mg "sorted" = none
  b_str : mg "str" = none
  b_tuple : mg "tuple" = none
  e_LETTERS : ∃ t, mg "LETTERS" = some (.str "abcdefghijklmnopqrstuvwxyz" t)
  e_MOST_SIGNS : ∃ t, mg "MOST_SIGNS" = some (.int 8 t)
  e_MOST_STOPS : ∃ t, mg "MOST_STOPS" = some (.int 12 t)
  e_MOST_WORDS : ∃ t, mg "MOST_WORDS" = some (.int 6 t)
theorem Txt.c_LETTERS {K : PySem.W.Frag} {mg : Str → Option Value} (T : Txt K mg) : ∃ t, mg "LETTERS" = some (.str "abcdefghijklmnopqrstuvwxyz" t) := T.e_LETTERS
theorem Txt.c_MOST_SIGNS {K : PySem.W.Frag} {mg : Str → Option Value} (T : Txt K mg) : ∃ t, mg "MOST_SIGNS" = some (.int 8 t) := T.e_MOST_SIGNS
theorem Txt.c_MOST_STOPS {K : PySem.W.Frag} {mg : Str → Option Value} (T : Txt K mg) : ∃ t, mg "MOST_STOPS" = some (.int 12 t) := T.e_MOST_STOPS
theorem Txt.c_MOST_WORDS {K : PySem.W.Frag} {mg : Str → Option Value} (T : Txt K mg) : ∃ t, mg "MOST_WORDS" = some (.int 6 t) := T.e_MOST_WORDS
section
variable {P : Program} {w : World} {K : PySem.W.Frag} {mg : Str → Option Value} {base : Heap}
abbrev N_is_whole : List Str := ["thing"]
theorem sc_is_whole : FnScope N_is_whole ["thing"] (defScope s_is_whole) := ⟨rfl, rfl, rfl, by decide +kernel, rfl, by decide +kernel, by decide +kernel⟩
theorem c_is_whole (T : Txt K mg) (Df : DefAt K mg "is_whole" s_is_whole ["thing"])  : Cal P w K mg base "is_whole" 1 1 M_is_whole := cal_of (body := B_is_whole) Df sc_is_whole rfl runB_ok fun f cdv A outer s H E hr => psx_one (psx_ret (pf_and (pf_x (pf_isi rfl T.b_isinstance (px_var (i := 0)) rfl T.b_int boot_int kit_int)) (pf_one (pf_not (pf_x (pf_isi rfl T.b_isinstance (px_var (i := 0)) rfl T.b_bool boot_bool kit_bool))))))
abbrev N_is_place : List Str := ["thing", "many"]
theorem sc_is_place : FnScope N_is_place ["thing", "many"] (defScope s_is_place) := ⟨rfl, rfl, rfl, by decide +kernel, rfl, by decide +kernel, by decide +kernel⟩
theorem c_is_place (T : Txt K mg) (Df : DefAt K mg "is_place" s_is_place ["thing", "many"]) (C_is_whole : Cal P w K mg base "is_whole" 1 1 M_is_whole) : Cal P w K mg base "is_place" 2 2 M_is_place := cal_of (body := B_is_place M_is_whole) Df sc_is_place rfl runB_ok fun f cdv A outer s H E hr => psx_one (psx_ret (pf_and (pf_x (pf_cal C_is_whole hr (ha := pas_cons (px_var (i := 0)) (pas_nil)))) (pf_one (pf_chain op_le' ok_le' op_lt ok_lt (pf_x (pf_int)) (px_var (i := 0)) (px_var (i := 1))))))
abbrev N_is_word : List Str := ["thing", "sign"]
theorem sc_is_word : FnScope N_is_word ["thing"] (defScope s_is_word) := ⟨rfl, rfl, rfl, by decide +kernel, rfl, by decide +kernel, by decide +kernel⟩
theorem c_is_word (T : Txt K mg) (Df : DefAt K mg "is_word" s_is_word ["thing"])  : Cal P w K mg base "is_word" 1 1 M_is_word := cal_of (body := B_is_word) Df sc_is_word rfl runB_ok fun f cdv A outer s H E hr => let ⟨_, g_LETTERS⟩ := T.e_LETTERS; let ⟨_, g_MOST_SIGNS⟩ := T.e_MOST_SIGNS; psx_cons (psx_if (ptc_w (ptw_or (ptc_not (pt_of (pf_x (pf_isi rfl T.b_isinstance (px_var (i := 0)) rfl T.b_str boot_str kit_str)))) (ptw_or1 (ptc_not (ptc_chain op_le' ok_le' op_le' ok_le' (pf_x (pf_int)) (pf_x (pf_callB cr_len' ok_len rfl T.b_len boot_len (pas_cons (px_var (i := 0)) (pas_nil)))) (pf_x (pf_glob (v := .int 8) (by rfl) g_MOST_SIGNS ⟨_, rfl⟩ (fun _ => .int _)))))))) (psx_one (psx_ret (pf_bl))) (psx_nil)) (psx_one (psx_ret (pf_callB (cr_all rfl) ok_all rfl T.b_all boot_all (pas_cons (pf_x (pf_lc (own := [("sign", 1)]) rfl sc_is_word.nd (pix_v (i := 0)) (blkOk_by (own := [("sign", 1)]) (N := N_is_word) (sc := defScope s_is_word) (by decide +kernel)) (fun _ _ _ _ _ => pgx_name (i := 1) sc_is_word.nd) (fun _ _ _ _ _ => ptx_nil) (fun _ _ _ _ _ => pf_cmp op_in_sign ok_inS (px_var (i := 1)) (pf_x (pf_glob (v := .str "abcdefghijklmnopqrstuvwxyz") (by rfl) g_LETTERS ⟨_, rfl⟩ (fun _ => .str _)))))) (pas_nil)))))
abbrev N_are_ways : List Str := ["thing", "many", "last", "way"]
theorem sc_are_ways : FnScope N_are_ways ["thing", "many"] (defScope s_are_ways) := ⟨rfl, rfl, rfl, by decide +kernel, rfl, by decide +kernel, by decide +kernel⟩
theorem c_are_ways (T : Txt K mg) (Df : DefAt K mg "are_ways" s_are_ways ["thing", "many"]) (C_is_place : Cal P w K mg base "is_place" 2 2 M_is_place) (C_is_word : Cal P w K mg base "is_word" 1 1 M_is_word) : Cal P w K mg base "are_ways" 2 3 M_are_ways := cal_of (body := B_are_ways M_is_place M_is_word) Df sc_are_ways rfl runB_ok fun f cdv A outer s H E hr => let ⟨_, g_MOST_WORDS⟩ := T.e_MOST_WORDS; psx_cons (psx_if (ptc_w (ptw_or (ptc_not (pt_of (pf_x (pf_isi rfl T.b_isinstance (px_var (i := 0)) rfl T.b_tuple boot_tuple kit_tuple)))) (ptw_or1 (ptc_not (ptc_chain op_le' ok_le' op_le' ok_le' (pf_x (pf_int)) (pf_x (pf_callB cr_len' ok_len rfl T.b_len boot_len (pas_cons (px_var (i := 0)) (pas_nil)))) (pf_x (pf_glob (v := .int 6) (by rfl) g_MOST_WORDS ⟨_, rfl⟩ (fun _ => .int _)))))))) (psx_one (psx_ret (pf_bl))) (psx_nil)) (psx_cons (psx_set (i := 2) (pf_str) sc_are_ways.nd) (psx_cons (psx_for (hi := pix_v (i := 0)) (hg := pgx_name (i := 3) sc_are_ways.nd) (hb := psx_cons (psx_if (ptc_w (ptw_or (ptc_not (pt_of (pf_x (pf_isi rfl T.b_isinstance (px_var (i := 3)) rfl T.b_tuple boot_tuple kit_tuple)))) (ptw_or (ptc_cmp (op_ne' hr) ok_ne (pf_x (pf_callB cr_len' ok_len rfl T.b_len boot_len (pas_cons (px_var (i := 3)) (pas_nil)))) (pf_x (pf_int))) (ptw_or (ptc_not (pt_of (pf_x (pf_cal C_is_word hr (ha := pas_cons (pf_x (pf_ix ix_seq ok_ix (px_var (i := 3)) (pf_x (pf_int)))) (pas_nil)))))) (ptw_or1 (ptc_not (pt_of (pf_x (pf_cal C_is_place hr (ha := pas_cons (pf_x (pf_ix ix_seq ok_ix (px_var (i := 3)) (pf_x (pf_int)))) (pas_cons (px_var (i := 1)) (pas_nil)))))))))))) (psx_one (psx_ret (pf_bl))) (psx_nil)) (psx_cons (psx_if (ptc_cmp op_le' ok_le' (pf_x (pf_ix ix_seq ok_ix (px_var (i := 3)) (pf_x (pf_int)))) (px_var (i := 2))) (psx_one (psx_ret (pf_bl))) (psx_nil)) (psx_one (psx_set (i := 2) (pf_ix ix_seq ok_ix (px_var (i := 3)) (pf_x (pf_int))) sc_are_ways.nd))))) (psx_one (psx_ret (pf_bl)))))
abbrev N_is_stop : List Str := ["thing", "many"]
theorem sc_is_stop : FnScope N_is_stop ["thing", "many"] (defScope s_is_stop) := ⟨rfl, rfl, rfl, by decide +kernel, rfl, by decide +kernel, by decide +kernel⟩
theorem c_is_stop (T : Txt K mg) (Df : DefAt K mg "is_stop" s_is_stop ["thing", "many"]) (C_are_ways : Cal P w K mg base "are_ways" 2 3 M_are_ways) : Cal P w K mg base "is_stop" 2 4 M_is_stop := cal_of (body := B_is_stop M_are_ways) Df sc_is_stop rfl runB_ok fun f cdv A outer s H E hr => psx_cons (psx_if (ptc_w (ptw_or (ptc_not (pt_of (pf_x (pf_isi rfl T.b_isinstance (px_var (i := 0)) rfl T.b_tuple boot_tuple kit_tuple)))) (ptw_or (ptc_cmp (op_eq' hr) ok_eq (pf_x (pf_callB cr_len' ok_len rfl T.b_len boot_len (pas_cons (px_var (i := 0)) (pas_nil)))) (pf_x (pf_int))) (ptw_or1 (ptc_not (pt_of (pf_x (pf_isi rfl T.b_isinstance (pf_x (pf_ix ix_seq ok_ix (px_var (i := 0)) (pf_x (pf_int)))) rfl T.b_str boot_str kit_str)))))))) (psx_one (psx_ret (pf_bl))) (psx_nil)) (psx_cons (psx_if (ptc_cmp (op_eq' hr) ok_eq (pf_x (pf_ix ix_seq ok_ix (px_var (i := 0)) (pf_x (pf_int)))) (pf_x (pf_str))) (psx_one (psx_ret (pf_cmp (op_eq' hr) ok_eq (pf_x (pf_callB cr_len' ok_len rfl T.b_len boot_len (pas_cons (px_var (i := 0)) (pas_nil)))) (pf_x (pf_int))))) (psx_nil)) (psx_one (psx_ret (pf_and (pf_x (pf_cmp (op_inA hr) ok_inA (pf_x (pf_ix ix_seq ok_ix (px_var (i := 0)) (pf_x (pf_int)))) (pf_x (pf_tup (pas_cons (pf_x (pf_str)) (pas_cons (pf_x (pf_str)) (pas_nil))))))) (pf_and (pf_x (pf_cmp (op_eq' hr) ok_eq (pf_x (pf_callB cr_len' ok_len rfl T.b_len boot_len (pas_cons (px_var (i := 0)) (pas_nil)))) (pf_x (pf_int)))) (pf_one (pf_cal C_are_ways hr (ha := pas_cons (pf_x (pf_ix ix_seq ok_ix (px_var (i := 0)) (pf_x (pf_int)))) (pas_cons (px_var (i := 1)) (pas_nil))))))))))
abbrev N_need_plan : List Str := ["plan", "stop"]
theorem sc_need_plan : FnScope N_need_plan ["plan"] (defScope s_need_plan) := ⟨rfl, rfl, rfl, by decide +kernel, rfl, by decide +kernel, by decide +kernel⟩
theorem c_need_plan (T : Txt K mg) (Df : DefAt K mg "need_plan" s_need_plan ["plan"]) (C_is_stop : Cal P w K mg base "is_stop" 2 4 M_is_stop) : Cal P w K mg base "need_plan" 1 5 M_need_plan := cal_of (body := B_need_plan M_is_stop) Df sc_need_plan rfl runB_ok fun f cdv A outer s H E hr => let ⟨_, g_MOST_STOPS⟩ := T.e_MOST_STOPS; psx_cons (psx_if (ptc_w (ptw_or (ptc_not (pt_of (pf_x (pf_isi rfl T.b_isinstance (px_var (i := 0)) rfl T.b_list boot_list kit_list)))) (ptw_or1 (ptc_not (ptc_chain op_le' ok_le' op_le' ok_le' (pf_x (pf_int)) (pf_x (pf_callB cr_len' ok_len rfl T.b_len boot_len (pas_cons (px_var (i := 0)) (pas_nil)))) (pf_x (pf_glob (v := .int 12) (by rfl) g_MOST_STOPS ⟨_, rfl⟩ (fun _ => .int _)))))))) (psx_one (psx_never)) (psx_nil)) (psx_one (psx_for (hi := pix_v (i := 0)) (hg := pgx_name (i := 1) sc_need_plan.nd) (hb := psx_one (psx_if (ptc_not (pt_of (pf_x (pf_cal C_is_stop hr (ha := pas_cons (px_var (i := 1)) (pas_cons (pf_x (pf_callB cr_len' ok_len rfl T.b_len boot_len (pas_cons (px_var (i := 0)) (pas_nil)))) (pas_nil))))))) (psx_one (psx_never)) (psx_nil)))))
abbrev N_ways_of : List Str := ["stop"]
theorem sc_ways_of : FnScope N_ways_of ["stop"] (defScope s_ways_of) := ⟨rfl, rfl, rfl, by decide +kernel, rfl, by decide +kernel, by decide +kernel⟩
theorem c_ways_of (T : Txt K mg) (Df : DefAt K mg "ways_of" s_ways_of ["stop"])  : Cal P w K mg base "ways_of" 1 1 M_ways_of := cal_of (body := B_ways_of) Df sc_ways_of rfl runB_ok fun f cdv A outer s H E hr => psx_cons (psx_if (ptc_cmp (op_eq' hr) ok_eq (pf_x (pf_ix ix_seq ok_ix (px_var (i := 0)) (pf_x (pf_int)))) (pf_x (pf_str))) (psx_one (psx_ret (pf_tup (pas_nil)))) (psx_nil)) (psx_one (psx_ret (pf_ix ix_seq ok_ix (px_var (i := 0)) (pf_x (pf_int)))))
abbrev N_reached : List Str := ["plan", "found", "at", "word", "goal"]
theorem sc_reached : FnScope N_reached ["plan"] (defScope s_reached) := ⟨rfl, rfl, rfl, by decide +kernel, rfl, by decide +kernel, by decide +kernel⟩
theorem c_reached (T : Txt K mg) (Df : DefAt K mg "reached" s_reached ["plan"]) (C_ways_of : Cal P w K mg base "ways_of" 1 1 M_ways_of) : Cal P w K mg base "reached" 1 2 M_reached := cal_of (body := B_reached M_ways_of) Df sc_reached rfl runB_ok fun f cdv A outer s H E hr => psx_cons (psx_own (i := 1) (pf_lst (pas_cons (pf_x (pf_int)) (pas_nil))) sc_reached.nd) (psx_cons (psx_set (i := 2) (pf_int) sc_reached.nd) (psx_cons (psx_while (hc := ptc_cmp op_lt ok_lt (px_var (i := 2)) (pf_x (pf_callB cr_len' ok_len rfl T.b_len boot_len (pas_cons (px_var (i := 1)) (pas_nil))))) (hb := psx_cons (psx_for (hi := pix_e (pf_cal C_ways_of hr (ha := pas_cons (pf_x (pf_ix ix_seq ok_ix (px_var (i := 0)) (pf_x (pf_ix ix_seq ok_ix (px_var (i := 1)) (px_var (i := 2)))))) (pas_nil)))) (hg := pgx_tup2 (i := 3) (j := 4) rfl sc_reached.nd) (hb := psx_one (psx_if (ptc_cmp (op_notInA hr) ok_notInA (px_var (i := 4)) (px_var (i := 1))) (psx_one (psx_app (i := 1) (pf_dat (i := 4)))) (psx_nil)))) (psx_one (psx_set (i := 2) (pf_op op_add' ok_add (px_var (i := 2)) (pf_x (pf_int))) sc_reached.nd)))) (psx_one (psx_retV (i := 1)))))
abbrev N_grouped : List Str := ["plan", "least", "many", "told", "at", "stop", "word", "goal", "one"]
theorem sc_grouped : FnScope N_grouped ["plan"] (defScope s_grouped) := ⟨rfl, rfl, rfl, by decide +kernel, rfl, by decide +kernel, by decide +kernel⟩
theorem c_grouped (T : Txt K mg) (Df : DefAt K mg "grouped" s_grouped ["plan"]) (C_ways_of : Cal P w K mg base "ways_of" 1 1 M_ways_of) : Cal P w K mg base "grouped" 1 2 M_grouped := cal_of (body := B_grouped M_ways_of) Df sc_grouped rfl runB_ok fun f cdv A outer s H E hr => psx_cons (psx_set (i := 1) (pf_frz (pf_lc (own := [("stop", 5)]) rfl sc_grouped.nd (pix_v (i := 0)) (blkOk_by (own := [("stop", 5)]) (N := N_grouped) (sc := defScope s_grouped) (by decide +kernel)) (fun _ _ _ _ _ => pgx_name (i := 5) sc_grouped.nd) (fun _ _ _ _ _ => ptx_nil) (fun _ _ _ _ _ => pf_int))) sc_grouped.nd) (psx_cons (psx_set (i := 2) (pf_int) sc_grouped.nd) (psx_cons (psx_while (hc := ptc_cmp op_gt ok_gt (pf_x (pf_lenSet rfl T.b_len rfl T.b_set (px_var (i := 1)))) (px_var (i := 2))) (hb := psx_cons (psx_set (i := 2) (pf_lenSet rfl T.b_len rfl T.b_set (px_var (i := 1))) sc_grouped.nd) (psx_cons (psx_own (i := 3) (pf_lst (pas_nil)) sc_grouped.nd) (psx_cons (psx_for (hi := pix_enum (i := 0) rfl T.b_enumerate) (hg := pgx_tup2 (i := 4) (j := 5) rfl sc_grouped.nd) (hb := psx_one (psx_app (i := 3) (pf_tup (pas_cons (pf_x (pf_ix ix_seq ok_ix (px_var (i := 1)) (px_var (i := 4)))) (pas_cons (pf_x (pf_ix ix_seq ok_ix (px_var (i := 5)) (pf_x (pf_int)))) (pas_cons (pf_x (pf_callTy cr_tuple ok_tuple rfl T.b_tuple boot_tuple (pas_cons (pf_x (pf_lc (own := [("word", 6), ("goal", 7)]) rfl sc_grouped.nd (pix_e (pf_cal C_ways_of hr (ha := pas_cons (px_var (i := 5)) (pas_nil)))) (blkOk_by (own := [("word", 6), ("goal", 7)]) (N := N_grouped) (sc := defScope s_grouped) (by decide +kernel)) (fun _ _ _ _ _ => pgx_tup2 (i := 6) (j := 7) rfl sc_grouped.nd) (fun _ _ _ _ _ => ptx_nil) (fun _ _ _ _ _ => pf_tup (pas_cons (pf_x (pf_dat (i := 6))) (pas_cons (pf_x (pf_ix ix_seq ok_ix (px_var (i := 1)) (px_var (i := 7)))) (pas_nil)))))) (pas_nil)))) (pas_nil)))))))) (psx_frz (psx_one (psx_set (i := 1) (pf_frz (pf_lc (own := [("one", 8)]) rfl sc_grouped.nd (pix_v (i := 3)) (blkOk_by (own := [("one", 8)]) (N := N_grouped) (sc := defScope s_grouped) (by decide +kernel)) (fun _ _ _ _ _ => pgx_name (i := 8) sc_grouped.nd) (fun _ _ _ _ _ => ptx_nil) (fun _ _ _ _ _ => pf_index hr (px_var (i := 3)) (px_var (i := 8))))) sc_grouped.nd))))))) (psx_one (psx_retV (i := 1)))))
abbrev N_small : List Str := ["plan", "least", "order", "at", "found", "stop", "word", "goal"]
theorem sc_small : FnScope N_small ["plan"] (defScope s_small) := ⟨rfl, rfl, rfl, by decide +kernel, rfl, by decide +kernel, by decide +kernel⟩
theorem c_small (T : Txt K mg) (Df : DefAt K mg "small" s_small ["plan"]) (C_need_plan : Cal P w K mg base "need_plan" 1 5 M_need_plan) (C_grouped : Cal P w K mg base "grouped" 1 2 M_grouped) (C_reached : Cal P w K mg base "reached" 1 2 M_reached) : Cal P w K mg base "small" 1 6 M_small := cal_of (body := B_small M_need_plan M_grouped M_reached) Df sc_small rfl runB_ok fun f cdv A outer s H E hr => psx_cons (psx_exp (pf_x (pf_cal C_need_plan hr (ha := pas_cons (px_var (i := 0)) (pas_nil))))) (psx_cons (psx_set (i := 1) (pf_frz (pf_cal C_grouped hr (ha := pas_cons (px_var (i := 0)) (pas_nil)))) sc_small.nd) (psx_cons (psx_own (i := 2) (pf_lst (pas_nil)) sc_small.nd) (psx_cons (psx_for (hi := pix_e (pf_frz (pf_cal C_reached hr (ha := pas_cons (px_var (i := 0)) (pas_nil))))) (hg := pgx_name (i := 3) sc_small.nd) (hb := psx_one (psx_if (ptc_cmp (op_notInA hr) ok_notInA (pf_x (pf_ix ix_seq ok_ix (px_var (i := 1)) (px_var (i := 3)))) (px_var (i := 2))) (psx_one (psx_app (i := 2) (pf_ix ix_seq ok_ix (px_var (i := 1)) (px_var (i := 3))))) (psx_nil)))) (psx_cons (psx_own (i := 4) (pf_lst (pas_nil)) sc_small.nd) (psx_frz (psx_cons (psx_for (hi := pix_v (i := 2)) (hg := pgx_name (i := 3) sc_small.nd) (hb := psx_cons (psx_set (i := 5) (pf_ix ix_seq ok_ix (px_var (i := 0)) (px_var (i := 3))) sc_small.nd) (psx_one (psx_if (ptc_cmp (op_eq' hr) ok_eq (pf_x (pf_ix ix_seq ok_ix (px_var (i := 5)) (pf_x (pf_int)))) (pf_x (pf_str))) (psx_one (psx_app (i := 4) (pf_dat (i := 5)))) (psx_one (psx_app (i := 4) (pf_tup (pas_cons (pf_x (pf_ix ix_seq ok_ix (px_var (i := 5)) (pf_x (pf_int)))) (pas_cons (pf_x (pf_callTy cr_tuple ok_tuple rfl T.b_tuple boot_tuple (pas_cons (pf_x (pf_lc (own := [("word", 6), ("goal", 7)]) rfl sc_small.nd (pix_e (pf_ix ix_seq ok_ix (px_var (i := 5)) (pf_x (pf_int)))) (blkOk_by (own := [("word", 6), ("goal", 7)]) (N := N_small) (sc := defScope s_small) (by decide +kernel)) (fun _ _ _ _ _ => pgx_tup2 (i := 6) (j := 7) rfl sc_small.nd) (fun _ _ _ _ _ => ptx_nil) (fun _ _ _ _ _ => pf_tup (pas_cons (pf_x (pf_dat (i := 6))) (pas_cons (pf_x (pf_index hr (px_var (i := 2)) (pf_x (pf_ix ix_seq ok_ix (px_var (i := 1)) (px_var (i := 7)))))) (pas_nil)))))) (pas_nil)))) (pas_nil)))))))))) (psx_one (psx_retV (i := 4)))))))))
abbrev N_law_cell_at : List Str := ["_law_script", "_law_k"]
theorem sc_law_cell_at : FnScope N_law_cell_at ["_law_script", "_law_k"] (defScope s_law_cell_at) := ⟨rfl, rfl, rfl, by decide +kernel, rfl, by decide +kernel, by decide +kernel⟩
theorem c_law_cell_at (T : Txt K mg) (Df : DefAt K mg "_law_cell_at" s_law_cell_at ["_law_script", "_law_k"])  : Cal P w K mg base "_law_cell_at" 2 1 M_law_cell_at := cal_of (body := B_law_cell_at) Df sc_law_cell_at rfl runB_ok fun f cdv A outer s H E hr => psx_cons (psx_if (ptc_cmp op_lt ok_lt (px_var (i := 1)) (pf_x (pf_callB cr_len' ok_len rfl T.b_len boot_len (pas_cons (px_var (i := 0)) (pas_nil))))) (psx_one (psx_ret (pf_ix ix_seq ok_ix (px_var (i := 0)) (px_var (i := 1))))) (psx_nil)) (psx_one (psx_ret (pf_int)))
abbrev N_law_mixed : List Str := ["_law_cell", "_law_k"]
theorem sc_law_mixed : FnScope N_law_mixed ["_law_cell", "_law_k"] (defScope s_law_mixed) := ⟨rfl, rfl, rfl, by decide +kernel, rfl, by decide +kernel, by decide +kernel⟩
theorem c_law_mixed (T : Txt K mg) (Df : DefAt K mg "_law_mixed" s_law_mixed ["_law_cell", "_law_k"])  : Cal P w K mg base "_law_mixed" 2 1 M_law_mixed := cal_of (body := B_law_mixed) Df sc_law_mixed rfl runB_ok fun f cdv A outer s H E hr => psx_one (psx_ret (pf_op op_mod ok_mod (pf_x (pf_op op_mul' ok_mul (pf_x (pf_op op_powW ok_pow (pf_x (pf_op op_add' ok_add (pf_x (pf_op op_add' ok_add (px_var (i := 0)) (pf_x (pf_op op_mul' ok_mul (pf_x (pf_int)) (px_var (i := 1)))))) (pf_x (pf_int)))) (pf_x (pf_int)))) (pf_x (pf_int)))) (pf_x (pf_int))))
abbrev N_law_words : List Str := ["_law_cell", "_law_letters", "_law_size", "_law_some", "_law_k", "_law_row", "_law_at", "_law_word", "_law_j"]
theorem sc_law_words : FnScope N_law_words ["_law_cell"] (defScope s_law_words) := ⟨rfl, rfl, rfl, by decide +kernel, rfl, by decide +kernel, by decide +kernel⟩
theorem c_law_words (T : Txt K mg) (Df : DefAt K mg "_law_words" s_law_words ["_law_cell"]) (C_law_mixed : Cal P w K mg base "_law_mixed" 2 1 M_law_mixed) : Cal P w K mg base "_law_words" 1 2 M_law_words := cal_of (body := B_law_words M_law_mixed) Df sc_law_words rfl runB_ok fun f cdv A outer s H E hr => psx_cons (psx_set (i := 1) (pf_str) sc_law_words.nd) (psx_cons (psx_set (i := 2) (pf_op op_add' ok_add (pf_x (pf_int)) (pf_x (pf_op op_mod ok_mod (pf_x (pf_op op_fdiv ok_div (px_var (i := 0)) (pf_x (pf_int)))) (pf_x (pf_int))))) sc_law_words.nd) (psx_cons (psx_own (i := 3) (pf_lst (pas_nil)) sc_law_words.nd) (psx_cons (psx_for (hi := pix_range rfl T.b_range (pf_x (pf_int))) (hg := pgx_name (i := 4) sc_law_words.nd) (hb := psx_cons (psx_ownLc (ps_lcSet (own := [("_law_j", 8)]) (i := 5) rfl sc_law_words.nd rfl rfl (sw_true rfl rfl rfl (by decide +kernel)) (pix_range rfl T.b_range (px_var (i := 2))) (blkOk_by (own := [("_law_j", 8)]) (N := N_law_words) (sc := defScope s_law_words) (by decide +kernel)) (fun _ _ _ _ _ => pgx_name (i := 8) sc_law_words.nd) (fun _ _ _ _ _ => ptx_nil) (fun _ _ _ _ _ => pf_ix ix_seq ok_ix (px_var (i := 1)) (pf_x (pf_op op_mod ok_mod (pf_x (pf_op op_add' ok_add (pf_x (pf_op op_fdiv ok_div (px_var (i := 0)) (pf_x (pf_int)))) (pf_x (pf_op op_mul' ok_mul (pf_x (pf_int)) (px_var (i := 8)))))) (pf_x (pf_int))))))) (psx_cons (psx_set (i := 6) (pf_op op_mod ok_mod (pf_x (pf_op op_fdiv ok_div (px_var (i := 0)) (pf_x (pf_int)))) (px_var (i := 2))) sc_law_words.nd) (psx_cons (psx_setI (i := 5) (pf_ix ix_seq ok_ix (px_var (i := 1)) (pf_x (pf_op op_mod ok_mod (pf_x (pf_op op_add' ok_add (pf_x (pf_op op_fdiv ok_div (px_var (i := 0)) (pf_x (pf_int)))) (pf_x (pf_op op_mul' ok_mul (pf_x (pf_int)) (px_var (i := 4)))))) (pf_x (pf_int))))) (px_var (i := 6))) (psx_cons (psx_set (i := 7) (pf_join (pf_x (pf_str)) (px_var (i := 5))) sc_law_words.nd) (psx_cons (psx_if (ptc_cmp (op_eq' hr) ok_eq (pf_x (pf_op op_mod ok_mod (px_var (i := 0)) (pf_x (pf_int)))) (pf_x (pf_int))) (psx_one (psx_set (i := 7) (pf_join (pf_x (pf_str)) (pf_x (pf_lc (own := [("_law_j", 8)]) rfl sc_law_words.nd (pix_range rfl T.b_range (pf_x (pf_op op_add' ok_add (pf_x (pf_op op_add' ok_add (px_var (i := 4)) (pf_x (pf_int)))) (pf_x (pf_op op_mod ok_mod (pf_x (pf_op op_fdiv ok_div (px_var (i := 0)) (pf_x (pf_int)))) (pf_x (pf_int))))))) (blkOk_by (own := [("_law_j", 8)]) (N := N_law_words) (sc := defScope s_law_words) (by decide +kernel)) (fun _ _ _ _ _ => pgx_name (i := 8) sc_law_words.nd) (fun _ _ _ _ _ => ptx_nil) (fun _ _ _ _ _ => pf_ix ix_seq ok_ix (px_var (i := 1)) (pf_x (pf_op op_mod ok_mod (pf_x (pf_op op_add' ok_add (pf_x (pf_op op_fdiv ok_div (px_var (i := 0)) (pf_x (pf_int)))) (pf_x (pf_op op_mul' ok_mul (pf_x (pf_int)) (px_var (i := 8)))))) (pf_x (pf_int)))))))) sc_law_words.nd)) (psx_nil)) (psx_cons (psx_if (ptc_cmp (op_eq' hr) ok_eq (pf_x (pf_op op_mod ok_mod (px_var (i := 0)) (pf_x (pf_int)))) (pf_x (pf_int))) (psx_one (psx_set (i := 7) (pf_join (pf_x (pf_str)) (pf_x (pf_lc (own := [("_law_j", 8)]) rfl sc_law_words.nd (pix_range rfl T.b_range (pf_x (pf_op op_add' ok_add (pf_x (pf_int)) (pf_x (pf_op op_mod ok_mod (pf_x (pf_op op_add' ok_add (pf_x (pf_op op_fdiv ok_div (px_var (i := 0)) (pf_x (pf_int)))) (px_var (i := 4)))) (pf_x (pf_int))))))) (blkOk_by (own := [("_law_j", 8)]) (N := N_law_words) (sc := defScope s_law_words) (by decide +kernel)) (fun _ _ _ _ _ => pgx_name (i := 8) sc_law_words.nd) (fun _ _ _ _ _ => ptx_nil) (fun _ _ _ _ _ => pf_ix ix_seq ok_ix (px_var (i := 1)) (pf_x (pf_op op_mod ok_mod (pf_x (pf_cal C_law_mixed hr (ha := pas_cons (px_var (i := 0)) (pas_cons (pf_x (pf_op op_add' ok_add (pf_x (pf_op op_mul' ok_mul (pf_x (pf_int)) (px_var (i := 4)))) (px_var (i := 8)))) (pas_nil))))) (pf_x (pf_int)))))))) sc_law_words.nd)) (psx_nil)) (psx_one (psx_app (i := 3) (pf_dat (i := 7))))))))))) (psx_cons (psx_if (ptc_cmp op_lt ok_lt (pf_x (pf_lenSet rfl T.b_len rfl T.b_set (px_var (i := 3)))) (pf_x (pf_int))) (psx_one (psx_ret (pf_lst (pas_cons (pf_x (pf_str)) (pas_cons (pf_x (pf_str)) (pas_cons (pf_x (pf_str)) (pas_cons (pf_x (pf_str)) (pas_cons (pf_x (pf_str)) (pas_cons (pf_x (pf_str)) (pas_nil)))))))))) (psx_nil)) (psx_one (psx_ret (pf_callB (cr_sortedD hr) ok_sorted rfl T.b_sorted boot_sorted (pas_cons (px_var (i := 3)) (pas_nil)))))))))
abbrev N_law_plan : List Str := ["_law_cell", "_law_words_here", "_law_many", "_law_plan_here", "_law_at", "_law_more", "_law_kind", "_law_size", "_law_chosen", "_law_ways_here", "_law_k"]
theorem sc_law_plan : FnScope N_law_plan ["_law_cell", "_law_words_here"] (defScope s_law_plan) := ⟨rfl, rfl, rfl, by decide +kernel, rfl, by decide +kernel, by decide +kernel⟩
theorem c_law_plan (T : Txt K mg) (Df : DefAt K mg "_law_plan" s_law_plan ["_law_cell", "_law_words_here"]) (C_law_mixed : Cal P w K mg base "_law_mixed" 2 1 M_law_mixed) (C_law_goal : Cal P w K mg base "_law_goal" 4 2 M_law_goal) : Cal P w K mg base "_law_plan" 2 3 M_law_plan := cal_of (body := B_law_plan M_law_mixed M_law_goal) Df sc_law_plan rfl runB_ok fun f cdv A outer s H E hr => psx_cons (psx_set (i := 2) (pf_op op_add' ok_add (pf_x (pf_int)) (pf_x (pf_op op_mod ok_mod (px_var (i := 0)) (pf_x (pf_int))))) sc_law_plan.nd) (psx_cons (psx_if (ptc_cmp (op_eq' hr) ok_eq (pf_x (pf_op op_mod ok_mod (pf_x (pf_op op_fdiv ok_div (px_var (i := 0)) (pf_x (pf_int)))) (pf_x (pf_int)))) (pf_x (pf_int))) (psx_one (psx_set (i := 2) (pf_op op_add' ok_add (pf_x (pf_int)) (pf_x (pf_op op_mod ok_mod (px_var (i := 0)) (pf_x (pf_int))))) sc_law_plan.nd)) (psx_nil)) (psx_cons (psx_own (i := 3) (pf_lst (pas_nil)) sc_law_plan.nd) (psx_cons (psx_for (hi := pix_range rfl T.b_range (px_var (i := 2))) (hg := pgx_name (i := 4) sc_law_plan.nd) (hb := psx_cons (psx_set (i := 5) (pf_cal C_law_mixed hr (ha := pas_cons (pf_x (pf_op op_fdiv ok_div (px_var (i := 0)) (pf_x (pf_int)))) (pas_cons (pf_x (pf_op op_mul' ok_mul (pf_x (pf_int)) (px_var (i := 4)))) (pas_nil)))) sc_law_plan.nd) (psx_cons (psx_set (i := 6) (pf_ix ix_seq ok_ix (pf_x (pf_lst (pas_cons (pf_x (pf_str)) (pas_cons (pf_x (pf_str)) (pas_cons (pf_x (pf_str)) (pas_cons (pf_x (pf_str)) (pas_cons (pf_x (pf_str)) (pas_cons (pf_x (pf_str)) (pas_cons (pf_x (pf_str)) (pas_nil)))))))))) (pf_x (pf_op op_mod ok_mod (px_var (i := 5)) (pf_x (pf_int))))) sc_law_plan.nd) (psx_one (psx_if (ptc_w (ptw_or (ptc_cmp (op_eq' hr) ok_eq (px_var (i := 6)) (pf_x (pf_str))) (ptw_or1 (ptc_w (ptw_and (ptc_cmp op_gt ok_gt (px_var (i := 4)) (pf_x (pf_int))) (ptw_and (ptc_cmp (op_eq' hr) ok_eq (px_var (i := 4)) (pf_x (pf_op op_sub ok_sub (px_var (i := 2)) (pf_x (pf_int))))) (ptw_and1 (ptc_cmp op_gt ok_gt (pf_x (pf_op op_mod ok_mod (pf_x (pf_op op_fdiv ok_div (px_var (i := 5)) (pf_x (pf_int)))) (pf_x (pf_int)))) (pf_x (pf_int)))))))))) (psx_one (psx_app (i := 3) (pf_tup (pas_cons (pf_x (pf_str)) (pas_nil))))) (psx_cons (psx_set (i := 7) (pf_ix ix_seq ok_ix (pf_x (pf_lst (pas_cons (pf_x (pf_int)) (pas_cons (pf_x (pf_int)) (pas_cons (pf_x (pf_int)) (pas_cons (pf_x (pf_int)) (pas_cons (pf_x (pf_int)) (pas_cons (pf_x (pf_int)) (pas_nil))))))))) (pf_x (pf_op op_mod ok_mod (pf_x (pf_op op_fdiv ok_div (px_var (i := 5)) (pf_x (pf_int)))) (pf_x (pf_int))))) sc_law_plan.nd) (psx_cons (psx_set (i := 8) (pf_frz (pf_lc (own := [("_law_k", 10)]) rfl sc_law_plan.nd (pix_range rfl T.b_range (px_var (i := 7))) (blkOk_by (own := [("_law_k", 10)]) (N := N_law_plan) (sc := defScope s_law_plan) (by decide +kernel)) (fun _ _ _ _ _ => pgx_name (i := 10) sc_law_plan.nd) (fun _ _ _ _ _ => ptx_nil) (fun _ _ _ _ _ => pf_ix ix_seq ok_ix (px_var (i := 1)) (pf_x (pf_op op_mod ok_mod (pf_x (pf_op op_add' ok_add (pf_x (pf_op op_fdiv ok_div (px_var (i := 5)) (pf_x (pf_int)))) (px_var (i := 10)))) (pf_x (pf_int))))))) sc_law_plan.nd) (psx_cons (psx_setLc (ps_lcFrz (ps_lcSet (own := [("_law_k", 10)]) (i := 9) rfl sc_law_plan.nd rfl rfl (sw_true rfl rfl rfl (by decide +kernel)) (pix_range rfl T.b_range (px_var (i := 7))) (blkOk_by (own := [("_law_k", 10)]) (N := N_law_plan) (sc := defScope s_law_plan) (by decide +kernel)) (fun _ _ _ _ _ => pgx_name (i := 10) sc_law_plan.nd) (fun _ _ _ _ _ => ptx_nil) (fun _ _ _ _ _ => pf_tup (pas_cons (pf_x (pf_ix ix_seq ok_ix (px_var (i := 8)) (px_var (i := 10)))) (pas_cons (pf_x (pf_cal C_law_goal hr (ha := pas_cons (px_var (i := 0)) (pas_cons (px_var (i := 4)) (pas_cons (px_var (i := 10)) (pas_cons (px_var (i := 2)) (pas_nil))))))) (pas_nil))))))) (psx_one (psx_app (i := 3) (pf_tup (pas_cons (pf_x (pf_dat (i := 6))) (pas_cons (pf_x (pf_callTy cr_tuple ok_tuple rfl T.b_tuple boot_tuple (pas_cons (pf_x (pf_callB (cr_sortedD hr) ok_sorted rfl T.b_sorted boot_sorted (pas_cons (px_var (i := 9)) (pas_nil)))) (pas_nil)))) (pas_nil)))))))))))))) (psx_one (psx_retV (i := 3))))))
abbrev N_law_goal : List Str := ["_law_cell", "_law_at", "_law_k", "_law_many", "_law_more"]
theorem sc_law_goal : FnScope N_law_goal ["_law_cell", "_law_at", "_law_k", "_law_many"] (defScope s_law_goal) := ⟨rfl, rfl, rfl, by decide +kernel, rfl, by decide +kernel, by decide +kernel⟩
theorem c_law_goal (T : Txt K mg) (Df : DefAt K mg "_law_goal" s_law_goal ["_law_cell", "_law_at", "_law_k", "_law_many"]) (C_law_mixed : Cal P w K mg base "_law_mixed" 2 1 M_law_mixed) : Cal P w K mg base "_law_goal" 4 2 M_law_goal := cal_of (body := B_law_goal M_law_mixed) Df sc_law_goal rfl runB_ok fun f cdv A outer s H E hr => psx_cons (psx_set (i := 4) (pf_cal C_law_mixed hr (ha := pas_cons (pf_x (pf_op op_fdiv ok_div (px_var (i := 0)) (pf_x (pf_int)))) (pas_cons (pf_x (pf_op op_add' ok_add (pf_x (pf_op op_add' ok_add (pf_x (pf_op op_mul' ok_mul (pf_x (pf_int)) (px_var (i := 1)))) (pf_x (pf_int)))) (px_var (i := 2)))) (pas_nil)))) sc_law_goal.nd) (psx_one (psx_ret (pf_ix ix_seq ok_ix (pf_x (pf_lst (pas_cons (pf_x (pf_callB (call_min2 rfl) ok_min2 rfl T.b_min boot_min (pas_cons (pf_x (pf_op op_add' ok_add (px_var (i := 1)) (pf_x (pf_int)))) (pas_cons (pf_x (pf_op op_sub ok_sub (px_var (i := 3)) (pf_x (pf_int)))) (pas_nil))))) (pas_cons (pf_x (pf_callB (call_min2 rfl) ok_min2 rfl T.b_min boot_min (pas_cons (pf_x (pf_op op_add' ok_add (px_var (i := 1)) (pf_x (pf_int)))) (pas_cons (pf_x (pf_op op_sub ok_sub (px_var (i := 3)) (pf_x (pf_int)))) (pas_nil))))) (pas_cons (pf_x (pf_op op_mod ok_mod (pf_x (pf_op op_fdiv ok_div (px_var (i := 4)) (pf_x (pf_int)))) (px_var (i := 3)))) (pas_cons (pf_x (pf_int)) (pas_nil))))))) (pf_x (pf_op op_mod ok_mod (px_var (i := 4)) (pf_x (pf_int)))))))
abbrev N_law_ways : List Str := ["_law_stop"]
theorem sc_law_ways : FnScope N_law_ways ["_law_stop"] (defScope s_law_ways) := ⟨rfl, rfl, rfl, by decide +kernel, rfl, by decide +kernel, by decide +kernel⟩
theorem c_law_ways (T : Txt K mg) (Df : DefAt K mg "_law_ways" s_law_ways ["_law_stop"])  : Cal P w K mg base "_law_ways" 1 1 M_law_ways := cal_of (body := B_law_ways) Df sc_law_ways rfl runB_ok fun f cdv A outer s H E hr => psx_cons (psx_if (ptc_cmp (op_eq' hr) ok_eq (pf_x (pf_ix ix_seq ok_ix (px_var (i := 0)) (pf_x (pf_int)))) (pf_x (pf_str))) (psx_one (psx_ret (pf_newK))) (psx_nil)) (psx_one (psx_ret (pf_callTy (cr_dict rfl) ok_dict rfl T.b_dict boot_dict (pas_cons (pf_x (pf_ix ix_seq ok_ix (px_var (i := 0)) (pf_x (pf_int)))) (pas_nil)))))
abbrev N_law_twice : List Str := ["_law_cell", "_law_plan_here", "_law_many", "_law_found", "_law_at", "_law_stop", "_law_ways_here", "_law_kind", "_law_word", "_law_goal_here"]
theorem sc_law_twice : FnScope N_law_twice ["_law_cell", "_law_plan_here"] (defScope s_law_twice) := ⟨rfl, rfl, rfl, by decide +kernel, rfl, by decide +kernel, by decide +kernel⟩
theorem c_law_twice (T : Txt K mg) (Df : DefAt K mg "_law_twice" s_law_twice ["_law_cell", "_law_plan_here"]) (C_law_mixed : Cal P w K mg base "_law_mixed" 2 1 M_law_mixed) : Cal P w K mg base "_law_twice" 2 2 M_law_twice := cal_of (body := B_law_twice M_law_mixed) Df sc_law_twice rfl runB_ok fun f cdv A outer s H E hr => psx_cons (psx_set (i := 2) (pf_callB cr_len' ok_len rfl T.b_len boot_len (pas_cons (px_var (i := 1)) (pas_nil))) sc_law_twice.nd) (psx_cons (psx_if (ptc_w (ptw_or (ptc_cmp op_gt ok_gt (pf_x (pf_op op_mod ok_mod (px_var (i := 0)) (pf_x (pf_int)))) (pf_x (pf_int))) (ptw_or1 (ptc_cmp op_gt ok_gt (px_var (i := 2)) (pf_x (pf_int)))))) (psx_one (psx_retV (i := 1))) (psx_nil)) (psx_cons (psx_own (i := 3) (pf_lst (pas_nil)) sc_law_twice.nd) (psx_cons (psx_for (hi := pix_range rfl T.b_range (pf_x (pf_op op_mul' ok_mul (pf_x (pf_int)) (px_var (i := 2))))) (hg := pgx_name (i := 4) sc_law_twice.nd) (hb := psx_cons (psx_set (i := 5) (pf_ix ix_seq ok_ix (px_var (i := 1)) (pf_x (pf_op op_mod ok_mod (px_var (i := 4)) (px_var (i := 2))))) sc_law_twice.nd) (psx_one (psx_if (ptc_cmp (op_eq' hr) ok_eq (pf_x (pf_ix ix_seq ok_ix (px_var (i := 5)) (pf_x (pf_int)))) (pf_x (pf_str))) (psx_one (psx_app (i := 3) (pf_dat (i := 5)))) (psx_cons (psx_setLc (ps_lcFrz (ps_lcSet (own := [("_law_word", 8), ("_law_goal_here", 9)]) (i := 6) rfl sc_law_twice.nd rfl rfl (sw_true rfl rfl rfl (by decide +kernel)) (pix_e (pf_ix ix_seq ok_ix (px_var (i := 5)) (pf_x (pf_int)))) (blkOk_by (own := [("_law_word", 8), ("_law_goal_here", 9)]) (N := N_law_twice) (sc := defScope s_law_twice) (by decide +kernel)) (fun _ _ _ _ _ => pgx_tup2 (i := 8) (j := 9) rfl sc_law_twice.nd) (fun _ _ _ _ _ => ptx_nil) (fun _ _ _ _ _ => pf_tup (pas_cons (pf_x (pf_dat (i := 8))) (pas_cons (pf_x (pf_op op_add' ok_add (px_var (i := 9)) (pf_x (pf_op op_mul' ok_mul (px_var (i := 2)) (pf_x (pf_op op_mod ok_mod (pf_x (pf_op op_fdiv ok_div (pf_x (pf_cal C_law_mixed hr (ha := pas_cons (px_var (i := 0)) (pas_cons (pf_x (pf_op op_add' ok_add (pf_x (pf_op op_mul' ok_mul (pf_x (pf_int)) (px_var (i := 4)))) (px_var (i := 9)))) (pas_nil))))) (pf_x (pf_int)))) (pf_x (pf_int)))))))) (pas_nil))))))) (psx_cons (psx_set (i := 7) (pf_ix ix_seq ok_ix (px_var (i := 5)) (pf_x (pf_int))) sc_law_twice.nd) (psx_cons (psx_if (ptc_w (ptw_and (ptc_cmp op_ge ok_ge (px_var (i := 4)) (px_var (i := 2))) (ptw_and1 (ptc_cmp (op_eq' hr) ok_eq (pf_x (pf_op op_mod ok_mod (pf_x (pf_op op_fdiv ok_div (pf_x (pf_cal C_law_mixed hr (ha := pas_cons (px_var (i := 0)) (pas_cons (pf_x (pf_op op_mul' ok_mul (pf_x (pf_int)) (px_var (i := 4)))) (pas_nil))))) (pf_x (pf_int)))) (pf_x (pf_int)))) (pf_x (pf_int)))))) (psx_one (psx_set (i := 7) (pf_ix ix_seq ok_ix (pf_x (pf_lst (pas_cons (pf_x (pf_str)) (pas_cons (pf_x (pf_str)) (pas_nil))))) (pf_x (pf_callTy call_int1 ok_int rfl T.b_int boot_int (pas_cons (pf_x (pf_cmp (op_eq' hr) ok_eq (pf_x (pf_ix ix_seq ok_ix (px_var (i := 5)) (pf_x (pf_int)))) (pf_x (pf_str)))) (pas_nil))))) sc_law_twice.nd)) (psx_nil)) (psx_one (psx_app (i := 3) (pf_tup (pas_cons (pf_x (pf_dat (i := 7))) (pas_cons (pf_x (pf_callTy cr_tuple ok_tuple rfl T.b_tuple boot_tuple (pas_cons (px_var (i := 6)) (pas_nil)))) (pas_nil))))))))))))) (psx_one (psx_retV (i := 3))))))
abbrev N_law_is_plan : List Str := ["_law_plan_here", "_law_stop", "_law_ways_here", "_law_way"]
theorem sc_law_is_plan : FnScope N_law_is_plan ["_law_plan_here"] (defScope s_law_is_plan) := ⟨rfl, rfl, rfl, by decide +kernel, rfl, by decide +kernel, by decide +kernel⟩
theorem c_law_is_plan (T : Txt K mg) (Df : DefAt K mg "_law_is_plan" s_law_is_plan ["_law_plan_here"])  : Cal P w K mg base "_law_is_plan" 1 1 M_law_is_plan := cal_of (body := B_law_is_plan) Df sc_law_is_plan rfl runB_ok fun f cdv A outer s H E hr => psx_cons (psx_if (ptc_w (ptw_or (ptc_not (pt_of (pf_x (pf_isi rfl T.b_isinstance (px_var (i := 0)) rfl T.b_list boot_list kit_list)))) (ptw_or1 (ptc_not (ptc_chain op_le' ok_le' op_le' ok_le' (pf_x (pf_int)) (pf_x (pf_callB cr_len' ok_len rfl T.b_len boot_len (pas_cons (px_var (i := 0)) (pas_nil)))) (pf_x (pf_int))))))) (psx_one (psx_ret (pf_bl))) (psx_nil)) (psx_cons (psx_for (hi := pix_v (i := 0)) (hg := pgx_name (i := 1) sc_law_is_plan.nd) (hb := psx_cons (psx_if (ptc_w (ptw_or (ptc_not (pt_of (pf_x (pf_isi rfl T.b_isinstance (px_var (i := 1)) rfl T.b_tuple boot_tuple kit_tuple)))) (ptw_or1 (ptc_cmp (op_notInA hr) ok_notInA (pf_x (pf_ix ix_seq ok_ix (px_var (i := 1)) (pf_x (pf_int)))) (pf_x (pf_tup (pas_cons (pf_x (pf_str)) (pas_cons (pf_x (pf_str)) (pas_cons (pf_x (pf_str)) (pas_nil)))))))))) (psx_one (psx_ret (pf_bl))) (psx_nil)) (psx_cons (psx_if (ptc_cmp (op_ne' hr) ok_ne (pf_x (pf_callB cr_len' ok_len rfl T.b_len boot_len (pas_cons (px_var (i := 1)) (pas_nil)))) (pf_x (pf_op op_sub ok_sub (pf_x (pf_int)) (pf_x (pf_callTy call_int1 ok_int rfl T.b_int boot_int (pas_cons (pf_x (pf_cmp (op_eq' hr) ok_eq (pf_x (pf_ix ix_seq ok_ix (px_var (i := 1)) (pf_x (pf_int)))) (pf_x (pf_str)))) (pas_nil))))))) (psx_one (psx_ret (pf_bl))) (psx_nil)) (psx_cons (psx_set (i := 2) (pf_if (ptc_cmp (op_ne' hr) ok_ne (pf_x (pf_ix ix_seq ok_ix (px_var (i := 1)) (pf_x (pf_int)))) (pf_x (pf_str))) (pf_ix ix_seq ok_ix (px_var (i := 1)) (pf_x (pf_int))) (pf_tup (pas_nil))) sc_law_is_plan.nd) (psx_cons (psx_if (ptc_w (ptw_or (ptc_not (pt_of (pf_x (pf_isi rfl T.b_isinstance (px_var (i := 2)) rfl T.b_tuple boot_tuple kit_tuple)))) (ptw_or1 (ptc_cmp op_gt ok_gt (pf_x (pf_callB cr_len' ok_len rfl T.b_len boot_len (pas_cons (pf_x (pf_lc (own := [("_law_way", 3)]) rfl sc_law_is_plan.nd (pix_v (i := 2)) (blkOk_by (own := [("_law_way", 3)]) (N := N_law_is_plan) (sc := defScope s_law_is_plan) (by decide +kernel)) (fun _ _ _ _ _ => pgx_name (i := 3) sc_law_is_plan.nd) (fun _ _ _ _ _ => ptx_one (ptc_not (pt_of (pf_x (pf_isi rfl T.b_isinstance (px_var (i := 3)) rfl T.b_tuple boot_tuple kit_tuple))))) (fun _ _ _ _ _ => pf_dat (i := 3)))) (pas_nil)))) (pf_x (pf_int)))))) (psx_one (psx_ret (pf_bl))) (psx_nil)) (psx_cons (psx_if (ptc_cmp op_gt ok_gt (pf_x (pf_callB cr_len' ok_len rfl T.b_len boot_len (pas_cons (pf_x (pf_lc (own := [("_law_way", 3)]) rfl sc_law_is_plan.nd (pix_v (i := 2)) (blkOk_by (own := [("_law_way", 3)]) (N := N_law_is_plan) (sc := defScope s_law_is_plan) (by decide +kernel)) (fun _ _ _ _ _ => pgx_name (i := 3) sc_law_is_plan.nd) (fun _ _ _ _ _ => ptx_one (ptc_cmp (op_ne' hr) ok_ne (pf_x (pf_callB cr_len' ok_len rfl T.b_len boot_len (pas_cons (px_var (i := 3)) (pas_nil)))) (pf_x (pf_int)))) (fun _ _ _ _ _ => pf_dat (i := 3)))) (pas_nil)))) (pf_x (pf_int))) (psx_one (psx_ret (pf_bl))) (psx_nil)) (psx_cons (psx_if (ptc_cmp (op_ne' hr) ok_ne (pf_x (pf_lc (own := [("_law_way", 3)]) rfl sc_law_is_plan.nd (pix_v (i := 2)) (blkOk_by (own := [("_law_way", 3)]) (N := N_law_is_plan) (sc := defScope s_law_is_plan) (by decide +kernel)) (fun _ _ _ _ _ => pgx_name (i := 3) sc_law_is_plan.nd) (fun _ _ _ _ _ => ptx_one (ptc_w (ptw_or (pt_of (pf_x (pf_isi rfl T.b_isinstance (pf_x (pf_ix ix_seq ok_ix (px_var (i := 3)) (pf_x (pf_int)))) rfl T.b_bool boot_bool kit_bool))) (ptw_or1 (ptc_not (ptc_chain op_le' ok_le' op_lt ok_lt (pf_x (pf_int)) (pf_x (pf_ix ix_seq ok_ix (px_var (i := 3)) (pf_x (pf_int)))) (pf_x (pf_callB cr_len' ok_len rfl T.b_len boot_len (pas_cons (px_var (i := 0)) (pas_nil)))))))))) (fun _ _ _ _ _ => pf_dat (i := 3)))) (pf_x (pf_lst (pas_nil)))) (psx_one (psx_ret (pf_bl))) (psx_nil)) (psx_one (psx_if (ptc_cmp (op_ne' hr) ok_ne (pf_x (pf_lc (own := [("_law_way", 3)]) rfl sc_law_is_plan.nd (pix_v (i := 2)) (blkOk_by (own := [("_law_way", 3)]) (N := N_law_is_plan) (sc := defScope s_law_is_plan) (by decide +kernel)) (fun _ _ _ _ _ => pgx_name (i := 3) sc_law_is_plan.nd) (fun _ _ _ _ _ => ptx_nil) (fun _ _ _ _ _ => pf_ix ix_seq ok_ix (px_var (i := 3)) (pf_x (pf_int))))) (pf_x (pf_sortSet hr rfl T.b_sorted rfl T.b_set (pf_x (pf_lc (own := [("_law_way", 3)]) rfl sc_law_is_plan.nd (pix_v (i := 2)) (blkOk_by (own := [("_law_way", 3)]) (N := N_law_is_plan) (sc := defScope s_law_is_plan) (by decide +kernel)) (fun _ _ _ _ _ => pgx_name (i := 3) sc_law_is_plan.nd) (fun _ _ _ _ _ => ptx_nil) (fun _ _ _ _ _ => pf_ix ix_seq ok_ix (px_var (i := 3)) (pf_x (pf_int)))))))) (psx_one (psx_ret (pf_bl))) (psx_nil)))))))))) (psx_one (psx_ret (pf_bl))))
abbrev N_law_order : List Str := ["_law_plan_here", "_law_found", "_law_turn", "_law_word", "_law_goal_here"]
theorem sc_law_order : FnScope N_law_order ["_law_plan_here"] (defScope s_law_order) := ⟨rfl, rfl, rfl, by decide +kernel, rfl, by decide +kernel, by decide +kernel⟩
theorem c_law_order (T : Txt K mg) (Df : DefAt K mg "_law_order" s_law_order ["_law_plan_here"])  : Cal P w K mg base "_law_order" 1 1 M_law_order := cal_of (body := B_law_order) Df sc_law_order rfl runB_ok fun f cdv A outer s H E hr => psx_cons (psx_own (i := 1) (pf_lst (pas_cons (pf_x (pf_int)) (pas_nil))) sc_law_order.nd) (psx_cons (psx_for (hi := pix_range rfl T.b_range (pf_x (pf_callB cr_len' ok_len rfl T.b_len boot_len (pas_cons (px_var (i := 0)) (pas_nil))))) (hg := pgx_name (i := 2) sc_law_order.nd) (hb := psx_one (psx_if (ptc_w (ptw_and (ptc_cmp op_lt ok_lt (px_var (i := 2)) (pf_x (pf_callB cr_len' ok_len rfl T.b_len boot_len (pas_cons (px_var (i := 1)) (pas_nil))))) (ptw_and1 (ptc_cmp (op_ne' hr) ok_ne (pf_x (pf_ix ix_seq ok_ix (pf_x (pf_ix ix_seq ok_ix (px_var (i := 0)) (pf_x (pf_ix ix_seq ok_ix (px_var (i := 1)) (px_var (i := 2)))))) (pf_x (pf_int)))) (pf_x (pf_str)))))) (psx_one (psx_for (hi := pix_e (pf_ix ix_seq ok_ix (pf_x (pf_ix ix_seq ok_ix (px_var (i := 0)) (pf_x (pf_ix ix_seq ok_ix (px_var (i := 1)) (px_var (i := 2)))))) (pf_x (pf_int)))) (hg := pgx_tup2 (i := 3) (j := 4) rfl sc_law_order.nd) (hb := psx_one (psx_if (ptc_cmp (op_notInA hr) ok_notInA (px_var (i := 4)) (px_var (i := 1))) (psx_one (psx_app (i := 1) (pf_dat (i := 4)))) (psx_nil))))) (psx_nil)))) (psx_one (psx_retV (i := 1))))
abbrev N_law_alike : List Str := ["_law_one", "_law_other", "_law_found", "_law_place", "_law_a", "_law_b", "_law_word", "_law_goal_here"]
theorem sc_law_alike : FnScope N_law_alike ["_law_one", "_law_other"] (defScope s_law_alike) := ⟨rfl, rfl, rfl, by decide +kernel, rfl, by decide +kernel, by decide +kernel⟩
theorem c_law_alike (T : Txt K mg) (Df : DefAt K mg "_law_alike" s_law_alike ["_law_one", "_law_other"]) (C_law_ways : Cal P w K mg base "_law_ways" 1 1 M_law_ways) : Cal P w K mg base "_law_alike" 2 2 M_law_alike := cal_of (body := B_law_alike M_law_ways) Df sc_law_alike rfl runB_ok fun f cdv A outer s H E hr => psx_cons (psx_own (i := 2) (pf_lst (pas_cons (pf_x (pf_tup (pas_cons (pf_x (pf_int)) (pas_cons (pf_x (pf_int)) (pas_nil))))) (pas_nil))) sc_law_alike.nd) (psx_cons (psx_set (i := 3) (pf_int) sc_law_alike.nd) (psx_cons (psx_while (hc := ptc_cmp op_lt ok_lt (px_var (i := 3)) (pf_x (pf_callB cr_len' ok_len rfl T.b_len boot_len (pas_cons (px_var (i := 2)) (pas_nil))))) (hb := psx_cons (psx_asg (pf_ix ix_seq ok_ix (px_var (i := 2)) (px_var (i := 3))) (pgx_tup2 (i := 4) (j := 5) rfl sc_law_alike.nd)) (psx_cons (psx_set (i := 3) (pf_op op_add' ok_add (px_var (i := 3)) (pf_x (pf_int))) sc_law_alike.nd) (psx_cons (psx_if (ptc_w (ptw_or (ptc_cmp (op_ne' hr) ok_ne (pf_x (pf_ix ix_seq ok_ix (pf_x (pf_ix ix_seq ok_ix (px_var (i := 0)) (px_var (i := 4)))) (pf_x (pf_int)))) (pf_x (pf_ix ix_seq ok_ix (pf_x (pf_ix ix_seq ok_ix (px_var (i := 1)) (px_var (i := 5)))) (pf_x (pf_int))))) (ptw_or1 (ptc_cmp (op_ne' hr) ok_ne (pf_x (pf_callB (call_sortedD rfl) ok_sortKeys rfl T.b_sorted boot_sorted (pas_cons (pf_x (pf_cal C_law_ways hr (ha := pas_cons (pf_x (pf_ix ix_seq ok_ix (px_var (i := 0)) (px_var (i := 4)))) (pas_nil)))) (pas_nil)))) (pf_x (pf_callB (call_sortedD rfl) ok_sortKeys rfl T.b_sorted boot_sorted (pas_cons (pf_x (pf_cal C_law_ways hr (ha := pas_cons (pf_x (pf_ix ix_seq ok_ix (px_var (i := 1)) (px_var (i := 5)))) (pas_nil)))) (pas_nil)))))))) (psx_one (psx_ret (pf_bl))) (psx_nil)) (psx_one (psx_for (hi := pix_keys (pf_frz (pf_cal C_law_ways hr (ha := pas_cons (pf_x (pf_ix ix_seq ok_ix (px_var (i := 0)) (px_var (i := 4)))) (pas_nil))))) (hg := pgx_name (i := 6) sc_law_alike.nd) (hb := psx_cons (psx_set (i := 7) (pf_tup (pas_cons (pf_x (pf_dget hr (pf_x (pf_cal C_law_ways hr (ha := pas_cons (pf_x (pf_ix ix_seq ok_ix (px_var (i := 0)) (px_var (i := 4)))) (pas_nil)))) (px_var (i := 6)))) (pas_cons (pf_x (pf_dget hr (pf_x (pf_cal C_law_ways hr (ha := pas_cons (pf_x (pf_ix ix_seq ok_ix (px_var (i := 1)) (px_var (i := 5)))) (pas_nil)))) (px_var (i := 6)))) (pas_nil)))) sc_law_alike.nd) (psx_one (psx_if (ptc_cmp (op_notInA hr) ok_notInA (px_var (i := 7)) (px_var (i := 2))) (psx_one (psx_app (i := 2) (pf_dat (i := 7)))) (psx_nil)))))))))) (psx_one (psx_ret (pf_bl)))))
abbrev N_law_unlike : List Str := ["_law_plan_here", "_law_pairs", "_law_a", "_law_told", "_law_turn", "_law_b", "_law_here", "_law_there", "_law_goals", "_law_word", "_law_goal_here"]
theorem sc_law_unlike : FnScope N_law_unlike ["_law_plan_here"] (defScope s_law_unlike) := ⟨rfl, rfl, rfl, by decide +kernel, rfl, by decide +kernel, by decide +kernel⟩
theorem c_law_unlike (T : Txt K mg) (Df : DefAt K mg "_law_unlike" s_law_unlike ["_law_plan_here"]) (C_law_ways : Cal P w K mg base "_law_ways" 1 1 M_law_ways) : Cal P w K mg base "_law_unlike" 1 2 M_law_unlike := cal_of (body := B_law_unlike M_law_ways) Df sc_law_unlike rfl runB_ok fun f cdv A outer s H E hr => psx_cons (psx_set (i := 1) (pf_frz (pf_lst (pas_nil))) sc_law_unlike.nd) (psx_cons (psx_for (hi := pix_range rfl T.b_range (pf_x (pf_callB cr_len' ok_len rfl T.b_len boot_len (pas_cons (px_var (i := 0)) (pas_nil))))) (hg := pgx_name (i := 2) sc_law_unlike.nd) (hb := psx_one (psx_set (i := 1) (pf_frz (pf_op op_add' ok_add (px_var (i := 1)) (pf_x (pf_lc (own := [("_law_b", 5)]) rfl sc_law_unlike.nd (pix_range rfl T.b_range (px_var (i := 2))) (blkOk_by (own := [("_law_b", 5)]) (N := N_law_unlike) (sc := defScope s_law_unlike) (by decide +kernel)) (fun _ _ _ _ _ => pgx_name (i := 5) sc_law_unlike.nd) (fun _ _ _ _ _ => ptx_nil) (fun _ _ _ _ _ => pf_tup (pas_cons (pf_x (pf_dat (i := 2))) (pas_cons (pf_x (pf_dat (i := 5))) (pas_nil)))))))) sc_law_unlike.nd))) (psx_cons (psx_own (i := 3) pf_newT sc_law_unlike.nd) (psx_cons (psx_for (hi := pix_range rfl T.b_range (pf_x (pf_op op_add' ok_add (pf_x (pf_callB cr_len' ok_len rfl T.b_len boot_len (pas_cons (px_var (i := 0)) (pas_nil)))) (pf_x (pf_int))))) (hg := pgx_name (i := 4) sc_law_unlike.nd) (hb := psx_one (psx_for (hi := pix_v (i := 1)) (hg := pgx_tup2 (i := 2) (j := 5) rfl sc_law_unlike.nd) (hb := psx_cons (psx_asg (pf_tup (pas_cons (pf_x (pf_frz (pf_cal C_law_ways hr (ha := pas_cons (pf_x (pf_ix ix_seq ok_ix (px_var (i := 0)) (px_var (i := 2)))) (pas_nil))))) (pas_cons (pf_x (pf_frz (pf_cal C_law_ways hr (ha := pas_cons (pf_x (pf_ix ix_seq ok_ix (px_var (i := 0)) (px_var (i := 5)))) (pas_nil))))) (pas_nil)))) (pgx_tup2 (i := 6) (j := 7) rfl sc_law_unlike.nd)) (psx_one (psx_if (ptc_w (ptw_or (ptc_cmp (op_ne' hr) ok_ne (pf_x (pf_ix ix_seq ok_ix (pf_x (pf_ix ix_seq ok_ix (px_var (i := 0)) (px_var (i := 2)))) (pf_x (pf_int)))) (pf_x (pf_ix ix_seq ok_ix (pf_x (pf_ix ix_seq ok_ix (px_var (i := 0)) (px_var (i := 5)))) (pf_x (pf_int))))) (ptw_or1 (ptc_cmp (op_ne' hr) ok_ne (pf_x (pf_callB (call_sortedD rfl) ok_sortKeys rfl T.b_sorted boot_sorted (pas_cons (px_var (i := 6)) (pas_nil)))) (pf_x (pf_callB (call_sortedD rfl) ok_sortKeys rfl T.b_sorted boot_sorted (pas_cons (px_var (i := 7)) (pas_nil)))))))) (psx_one (psx_dput (i := 3) hr (pf_bl) (pf_x (pf_tup (pas_cons (pf_x (pf_dat (i := 2))) (pas_cons (pf_x (pf_dat (i := 5))) (pas_nil))))))) (psx_cons (psx_setLc (ps_lcFrz (ps_lcSet (own := [("_law_word", 9)]) (i := 8) rfl sc_law_unlike.nd rfl rfl (sw_true rfl rfl rfl (by decide +kernel)) (pix_keys (pf_dat (i := 6))) (blkOk_by (own := [("_law_word", 9)]) (N := N_law_unlike) (sc := defScope s_law_unlike) (by decide +kernel)) (fun _ _ _ _ _ => pgx_name (i := 9) sc_law_unlike.nd) (fun _ _ _ _ _ => ptx_nil) (fun _ _ _ _ _ => pf_tup (pas_cons (pf_x (pf_callB (call_max2 rfl) ok_max2 rfl T.b_max boot_max (pas_cons (pf_x (pf_dget hr (px_var (i := 6)) (px_var (i := 9)))) (pas_cons (pf_x (pf_dget hr (px_var (i := 7)) (px_var (i := 9)))) (pas_nil))))) (pas_cons (pf_x (pf_callB (call_min2 rfl) ok_min2 rfl T.b_min boot_min (pas_cons (pf_x (pf_dget hr (px_var (i := 6)) (px_var (i := 9)))) (pas_cons (pf_x (pf_dget hr (px_var (i := 7)) (px_var (i := 9)))) (pas_nil))))) (pas_nil))))))) (psx_one (psx_if (ptc_cmp (op_ne' hr) ok_ne (pf_x (pf_lc (own := [("_law_goal_here", 10)]) rfl sc_law_unlike.nd (pix_v (i := 8)) (blkOk_by (own := [("_law_goal_here", 10)]) (N := N_law_unlike) (sc := defScope s_law_unlike) (by decide +kernel)) (fun _ _ _ _ _ => pgx_name (i := 10) sc_law_unlike.nd) (fun _ _ _ _ _ => ptx_one (ptc_din hr (px_var (i := 10)) (px_var (i := 3)))) (fun _ _ _ _ _ => pf_dat (i := 10)))) (pf_x (pf_lst (pas_nil)))) (psx_one (psx_dput (i := 3) hr (pf_bl) (pf_x (pf_tup (pas_cons (pf_x (pf_dat (i := 2))) (pas_cons (pf_x (pf_dat (i := 5))) (pas_nil))))))) (psx_nil)))))))))) (psx_one (psx_ret (pf_cmp (op_eq' hr) ok_eq (pf_x (pf_callB call_len_dT ok_lenT rfl T.b_len boot_len (pas_cons (px_var (i := 3)) (pas_nil)))) (pf_x (pf_callB cr_len' ok_len rfl T.b_len boot_len (pas_cons (px_var (i := 1)) (pas_nil))))))))))
abbrev N_law : List Str := ["_law_script", "_law_cell", "_law_plan_here", "_law_handed", "_law_found", "_law_kept"]
theorem sc_law : FnScope N_law ["_law_script"] (defScope s_law) := ⟨rfl, rfl, rfl, by decide +kernel, rfl, by decide +kernel, by decide +kernel⟩
theorem c_law {fa : Addr} {fd : FuncData} (T : Txt K mg) (F : Fun K "law" "law" s_law fa fd) (C_law_cell_at : Cal P w K mg base "_law_cell_at" 2 1 M_law_cell_at) (C_law_twice : Cal P w K mg base "_law_twice" 2 2 M_law_twice) (C_law_plan : Cal P w K mg base "_law_plan" 2 3 M_law_plan) (C_law_words : Cal P w K mg base "_law_words" 1 2 M_law_words) (C_small : Cal P w K mg base "small" 1 6 M_small) (C_law_order : Cal P w K mg base "_law_order" 1 1 M_law_order) (C_law_is_plan : Cal P w K mg base "_law_is_plan" 1 1 M_law_is_plan) (C_law_unlike : Cal P w K mg base "_law_unlike" 1 2 M_law_unlike) (C_law_alike : Cal P w K mg base "_law_alike" 2 2 M_law_alike) : FnOk P w K mg base CX0 7 fa fd ["_law_script"] (SpF K 1 M_law) := fn_ok (body := B_law M_law_cell_at M_law_twice M_law_plan M_law_words M_small M_law_order M_law_is_plan M_law_unlike M_law_alike) F sc_law rfl runB_ok fun cdv A outer s H E hr => psx_cons (psx_set (i := 1) (pf_cal C_law_cell_at hr (ha := pas_cons (px_var (i := 0)) (pas_cons (pf_x (pf_int)) (pas_nil)))) sc_law.nd) (psx_cons (psx_set (i := 2) (pf_frz (pf_cal C_law_twice hr (ha := pas_cons (pf_x (pf_cal C_law_cell_at hr (ha := pas_cons (px_var (i := 0)) (pas_cons (pf_x (pf_int)) (pas_nil))))) (pas_cons (pf_x (pf_frz (pf_cal C_law_plan hr (ha := pas_cons (px_var (i := 1)) (pas_cons (pf_x (pf_cal C_law_words hr (ha := pas_cons (pf_x (pf_cal C_law_cell_at hr (ha := pas_cons (px_var (i := 0)) (pas_cons (pf_x (pf_int)) (pas_nil))))) (pas_nil)))) (pas_nil)))))) (pas_nil))))) sc_law.nd) (psx_cons (psx_own (i := 3) (pf_callTy call_list_of ok_list rfl T.b_list boot_list (pas_cons (px_var (i := 2)) (pas_nil))) sc_law.nd) (psx_cons (psx_own (i := 4) (pf_cal C_small hr (ha := pas_cons (px_var (i := 3)) (pas_nil))) sc_law.nd) (psx_cons (psx_if (ptc_w (ptw_or (ptc_cmp (op_ne' hr) ok_ne (px_var (i := 3)) (px_var (i := 2))) (ptw_or (ptc_not (pt_of (pf_x (pf_cal C_law_is_plan hr (ha := pas_cons (px_var (i := 4)) (pas_nil)))))) (ptw_or1 (ptc_cmp (op_ne' hr) ok_ne (pf_x (pf_cal C_law_order hr (ha := pas_cons (px_var (i := 4)) (pas_nil)))) (pf_x (pf_listR rfl T.b_list rfl T.b_range (pf_x (pf_callB cr_len' ok_len rfl T.b_len boot_len (pas_cons (px_var (i := 4)) (pas_nil))))))))))) (psx_one (psx_ret (pf_bl))) (psx_nil)) (psx_cons (psx_if (ptc_w (ptw_or (ptc_not (pt_of (pf_x (pf_cal C_law_alike hr (ha := pas_cons (px_var (i := 2)) (pas_cons (px_var (i := 4)) (pas_nil))))))) (ptw_or (ptc_not (pt_of (pf_x (pf_cal C_law_unlike hr (ha := pas_cons (px_var (i := 4)) (pas_nil)))))) (ptw_or1 (ptc_cmp (op_ne' hr) ok_ne (pf_x (pf_cal C_small hr (ha := pas_cons (px_var (i := 4)) (pas_nil)))) (px_var (i := 4))))))) (psx_one (psx_ret (pf_bl))) (psx_nil)) (psx_cons (psx_set (i := 5) (pf_frz (pf_callTy call_list_of ok_list rfl T.b_list boot_list (pas_cons (px_var (i := 4)) (pas_nil)))) sc_law.nd) (psx_cons (psx_clr (i := 4)) (psx_cons (psx_setI (i := 3) (pf_tup (pas_cons (pf_x (pf_str)) (pas_nil))) (pf_x (pf_int))) (psx_one (psx_ret (pf_and (pf_x (pf_cmp (op_eq' hr) ok_eq (pf_x (pf_cal C_small hr (ha := pas_cons (px_var (i := 2)) (pas_nil)))) (px_var (i := 5)))) (pf_one (pf_cmp (op_eq' hr) ok_eq (pf_x (pf_cal C_small hr (ha := pas_cons (px_var (i := 3)) (pas_nil)))) (pf_x (pf_lst (pas_cons (pf_x (pf_tup (pas_cons (pf_x (pf_str)) (pas_nil)))) (pas_nil)))))))))))))))))
end


theorem all_mk {l : PySem.W.OpenLaw} {w : World} {K : PySem.W.Frag} {h : Heap} {mg : Str → Option Value} {fa : Addr} (X : K.In h) (G : h.Ns mainGlobals mg) (hfa : mg "law" = some (.ref fa))
    {f0 : Addr} {oc0 kV0 dc0 pm0 cd0 ct0 : Value} {od0 an0 : Option Addr} {sl0 : Array (Option Value)}
    (a0 : PySem.W.nsIn K mainGlobals "is_whole" = some (some (.ref f0))) (l0 : K.lookup f0 = some ⟨oc0, od0, .func (PySem.W.fnOf "is_whole" "is_whole" (defArgs s_is_whole) (defBody s_is_whole) (defScope s_is_whole) .none kV0 dc0 pm0 an0 cd0 ct0), sl0⟩) (d0 : PySem.W.codeIn K cd0 "is_whole" = true) (k0 : PySem.W.keepIn K (.ref f0) = true)
    {f1 : Addr} {oc1 kV1 dc1 pm1 cd1 ct1 : Value} {od1 an1 : Option Addr} {sl1 : Array (Option Value)}
    (a1 : PySem.W.nsIn K mainGlobals "is_place" = some (some (.ref f1))) (l1 : K.lookup f1 = some ⟨oc1, od1, .func (PySem.W.fnOf "is_place" "is_place" (defArgs s_is_place) (defBody s_is_place) (defScope s_is_place) .none kV1 dc1 pm1 an1 cd1 ct1), sl1⟩) (d1 : PySem.W.codeIn K cd1 "is_place" = true) (k1 : PySem.W.keepIn K (.ref f1) = true)
    {f2 : Addr} {oc2 kV2 dc2 pm2 cd2 ct2 : Value} {od2 an2 : Option Addr} {sl2 : Array (Option Value)}
    (a2 : PySem.W.nsIn K mainGlobals "is_word" = some (some (.ref f2))) (l2 : K.lookup f2 = some ⟨oc2, od2, .func (PySem.W.fnOf "is_word" "is_word" (defArgs s_is_word) (defBody s_is_word) (defScope s_is_word) .none kV2 dc2 pm2 an2 cd2 ct2), sl2⟩) (d2 : PySem.W.codeIn K cd2 "is_word" = true) (k2 : PySem.W.keepIn K (.ref f2) = true)
    {f3 : Addr} {oc3 kV3 dc3 pm3 cd3 ct3 : Value} {od3 an3 : Option Addr} {sl3 : Array (Option Value)}
    (a3 : PySem.W.nsIn K mainGlobals "are_ways" = some (some (.ref f3))) (l3 : K.lookup f3 = some ⟨oc3, od3, .func (PySem.W.fnOf "are_ways" "are_ways" (defArgs s_are_ways) (defBody s_are_ways) (defScope s_are_ways) .none kV3 dc3 pm3 an3 cd3 ct3), sl3⟩) (d3 : PySem.W.codeIn K cd3 "are_ways" = true) (k3 : PySem.W.keepIn K (.ref f3) = true)
    {f4 : Addr} {oc4 kV4 dc4 pm4 cd4 ct4 : Value} {od4 an4 : Option Addr} {sl4 : Array (Option Value)}
    (a4 : PySem.W.nsIn K mainGlobals "is_stop" = some (some (.ref f4))) (l4 : K.lookup f4 = some ⟨oc4, od4, .func (PySem.W.fnOf "is_stop" "is_stop" (defArgs s_is_stop) (defBody s_is_stop) (defScope s_is_stop) .none kV4 dc4 pm4 an4 cd4 ct4), sl4⟩) (d4 : PySem.W.codeIn K cd4 "is_stop" = true) (k4 : PySem.W.keepIn K (.ref f4) = true)
    {f5 : Addr} {oc5 kV5 dc5 pm5 cd5 ct5 : Value} {od5 an5 : Option Addr} {sl5 : Array (Option Value)}
    (a5 : PySem.W.nsIn K mainGlobals "need_plan" = some (some (.ref f5))) (l5 : K.lookup f5 = some ⟨oc5, od5, .func (PySem.W.fnOf "need_plan" "need_plan" (defArgs s_need_plan) (defBody s_need_plan) (defScope s_need_plan) .none kV5 dc5 pm5 an5 cd5 ct5), sl5⟩) (d5 : PySem.W.codeIn K cd5 "need_plan" = true) (k5 : PySem.W.keepIn K (.ref f5) = true)
    {f6 : Addr} {oc6 kV6 dc6 pm6 cd6 ct6 : Value} {od6 an6 : Option Addr} {sl6 : Array (Option Value)}
    (a6 : PySem.W.nsIn K mainGlobals "ways_of" = some (some (.ref f6))) (l6 : K.lookup f6 = some ⟨oc6, od6, .func (PySem.W.fnOf "ways_of" "ways_of" (defArgs s_ways_of) (defBody s_ways_of) (defScope s_ways_of) .none kV6 dc6 pm6 an6 cd6 ct6), sl6⟩) (d6 : PySem.W.codeIn K cd6 "ways_of" = true) (k6 : PySem.W.keepIn K (.ref f6) = true)
    {f7 : Addr} {oc7 kV7 dc7 pm7 cd7 ct7 : Value} {od7 an7 : Option Addr} {sl7 : Array (Option Value)}
    (a7 : PySem.W.nsIn K mainGlobals "reached" = some (some (.ref f7))) (l7 : K.lookup f7 = some ⟨oc7, od7, .func (PySem.W.fnOf "reached" "reached" (defArgs s_reached) (defBody s_reached) (defScope s_reached) .none kV7 dc7 pm7 an7 cd7 ct7), sl7⟩) (d7 : PySem.W.codeIn K cd7 "reached" = true) (k7 : PySem.W.keepIn K (.ref f7) = true)
    {f8 : Addr} {oc8 kV8 dc8 pm8 cd8 ct8 : Value} {od8 an8 : Option Addr} {sl8 : Array (Option Value)}
    (a8 : PySem.W.nsIn K mainGlobals "grouped" = some (some (.ref f8))) (l8 : K.lookup f8 = some ⟨oc8, od8, .func (PySem.W.fnOf "grouped" "grouped" (defArgs s_grouped) (defBody s_grouped) (defScope s_grouped) .none kV8 dc8 pm8 an8 cd8 ct8), sl8⟩) (d8 : PySem.W.codeIn K cd8 "grouped" = true) (k8 : PySem.W.keepIn K (.ref f8) = true)
    {f9 : Addr} {oc9 kV9 dc9 pm9 cd9 ct9 : Value} {od9 an9 : Option Addr} {sl9 : Array (Option Value)}
    (a9 : PySem.W.nsIn K mainGlobals "small" = some (some (.ref f9))) (l9 : K.lookup f9 = some ⟨oc9, od9, .func (PySem.W.fnOf "small" "small" (defArgs s_small) (defBody s_small) (defScope s_small) .none kV9 dc9 pm9 an9 cd9 ct9), sl9⟩) (d9 : PySem.W.codeIn K cd9 "small" = true) (k9 : PySem.W.keepIn K (.ref f9) = true)
    {f10 : Addr} {oc10 kV10 dc10 pm10 cd10 ct10 : Value} {od10 an10 : Option Addr} {sl10 : Array (Option Value)}
    (a10 : PySem.W.nsIn K mainGlobals "_law_cell_at" = some (some (.ref f10))) (l10 : K.lookup f10 = some ⟨oc10, od10, .func (PySem.W.fnOf "_law_cell_at" "_law_cell_at" (defArgs s_law_cell_at) (defBody s_law_cell_at) (defScope s_law_cell_at) .none kV10 dc10 pm10 an10 cd10 ct10), sl10⟩) (d10 : PySem.W.codeIn K cd10 "_law_cell_at" = true) (k10 : PySem.W.keepIn K (.ref f10) = true)
    {f11 : Addr} {oc11 kV11 dc11 pm11 cd11 ct11 : Value} {od11 an11 : Option Addr} {sl11 : Array (Option Value)}
    (a11 : PySem.W.nsIn K mainGlobals "_law_mixed" = some (some (.ref f11))) (l11 : K.lookup f11 = some ⟨oc11, od11, .func (PySem.W.fnOf "_law_mixed" "_law_mixed" (defArgs s_law_mixed) (defBody s_law_mixed) (defScope s_law_mixed) .none kV11 dc11 pm11 an11 cd11 ct11), sl11⟩) (d11 : PySem.W.codeIn K cd11 "_law_mixed" = true) (k11 : PySem.W.keepIn K (.ref f11) = true)
    {f12 : Addr} {oc12 kV12 dc12 pm12 cd12 ct12 : Value} {od12 an12 : Option Addr} {sl12 : Array (Option Value)}
    (a12 : PySem.W.nsIn K mainGlobals "_law_words" = some (some (.ref f12))) (l12 : K.lookup f12 = some ⟨oc12, od12, .func (PySem.W.fnOf "_law_words" "_law_words" (defArgs s_law_words) (defBody s_law_words) (defScope s_law_words) .none kV12 dc12 pm12 an12 cd12 ct12), sl12⟩) (d12 : PySem.W.codeIn K cd12 "_law_words" = true) (k12 : PySem.W.keepIn K (.ref f12) = true)
    {f13 : Addr} {oc13 kV13 dc13 pm13 cd13 ct13 : Value} {od13 an13 : Option Addr} {sl13 : Array (Option Value)}
    (a13 : PySem.W.nsIn K mainGlobals "_law_plan" = some (some (.ref f13))) (l13 : K.lookup f13 = some ⟨oc13, od13, .func (PySem.W.fnOf "_law_plan" "_law_plan" (defArgs s_law_plan) (defBody s_law_plan) (defScope s_law_plan) .none kV13 dc13 pm13 an13 cd13 ct13), sl13⟩) (d13 : PySem.W.codeIn K cd13 "_law_plan" = true) (k13 : PySem.W.keepIn K (.ref f13) = true)
    {f14 : Addr} {oc14 kV14 dc14 pm14 cd14 ct14 : Value} {od14 an14 : Option Addr} {sl14 : Array (Option Value)}
    (a14 : PySem.W.nsIn K mainGlobals "_law_goal" = some (some (.ref f14))) (l14 : K.lookup f14 = some ⟨oc14, od14, .func (PySem.W.fnOf "_law_goal" "_law_goal" (defArgs s_law_goal) (defBody s_law_goal) (defScope s_law_goal) .none kV14 dc14 pm14 an14 cd14 ct14), sl14⟩) (d14 : PySem.W.codeIn K cd14 "_law_goal" = true) (k14 : PySem.W.keepIn K (.ref f14) = true)
    {f15 : Addr} {oc15 kV15 dc15 pm15 cd15 ct15 : Value} {od15 an15 : Option Addr} {sl15 : Array (Option Value)}
    (a15 : PySem.W.nsIn K mainGlobals "_law_ways" = some (some (.ref f15))) (l15 : K.lookup f15 = some ⟨oc15, od15, .func (PySem.W.fnOf "_law_ways" "_law_ways" (defArgs s_law_ways) (defBody s_law_ways) (defScope s_law_ways) .none kV15 dc15 pm15 an15 cd15 ct15), sl15⟩) (d15 : PySem.W.codeIn K cd15 "_law_ways" = true) (k15 : PySem.W.keepIn K (.ref f15) = true)
    {f16 : Addr} {oc16 kV16 dc16 pm16 cd16 ct16 : Value} {od16 an16 : Option Addr} {sl16 : Array (Option Value)}
    (a16 : PySem.W.nsIn K mainGlobals "_law_twice" = some (some (.ref f16))) (l16 : K.lookup f16 = some ⟨oc16, od16, .func (PySem.W.fnOf "_law_twice" "_law_twice" (defArgs s_law_twice) (defBody s_law_twice) (defScope s_law_twice) .none kV16 dc16 pm16 an16 cd16 ct16), sl16⟩) (d16 : PySem.W.codeIn K cd16 "_law_twice" = true) (k16 : PySem.W.keepIn K (.ref f16) = true)
    {f17 : Addr} {oc17 kV17 dc17 pm17 cd17 ct17 : Value} {od17 an17 : Option Addr} {sl17 : Array (Option Value)}
    (a17 : PySem.W.nsIn K mainGlobals "_law_is_plan" = some (some (.ref f17))) (l17 : K.lookup f17 = some ⟨oc17, od17, .func (PySem.W.fnOf "_law_is_plan" "_law_is_plan" (defArgs s_law_is_plan) (defBody s_law_is_plan) (defScope s_law_is_plan) .none kV17 dc17 pm17 an17 cd17 ct17), sl17⟩) (d17 : PySem.W.codeIn K cd17 "_law_is_plan" = true) (k17 : PySem.W.keepIn K (.ref f17) = true)
    {f18 : Addr} {oc18 kV18 dc18 pm18 cd18 ct18 : Value} {od18 an18 : Option Addr} {sl18 : Array (Option Value)}
    (a18 : PySem.W.nsIn K mainGlobals "_law_order" = some (some (.ref f18))) (l18 : K.lookup f18 = some ⟨oc18, od18, .func (PySem.W.fnOf "_law_order" "_law_order" (defArgs s_law_order) (defBody s_law_order) (defScope s_law_order) .none kV18 dc18 pm18 an18 cd18 ct18), sl18⟩) (d18 : PySem.W.codeIn K cd18 "_law_order" = true) (k18 : PySem.W.keepIn K (.ref f18) = true)
    {f19 : Addr} {oc19 kV19 dc19 pm19 cd19 ct19 : Value} {od19 an19 : Option Addr} {sl19 : Array (Option Value)}
    (a19 : PySem.W.nsIn K mainGlobals "_law_alike" = some (some (.ref f19))) (l19 : K.lookup f19 = some ⟨oc19, od19, .func (PySem.W.fnOf "_law_alike" "_law_alike" (defArgs s_law_alike) (defBody s_law_alike) (defScope s_law_alike) .none kV19 dc19 pm19 an19 cd19 ct19), sl19⟩) (d19 : PySem.W.codeIn K cd19 "_law_alike" = true) (k19 : PySem.W.keepIn K (.ref f19) = true)
    {f20 : Addr} {oc20 kV20 dc20 pm20 cd20 ct20 : Value} {od20 an20 : Option Addr} {sl20 : Array (Option Value)}
    (a20 : PySem.W.nsIn K mainGlobals "_law_unlike" = some (some (.ref f20))) (l20 : K.lookup f20 = some ⟨oc20, od20, .func (PySem.W.fnOf "_law_unlike" "_law_unlike" (defArgs s_law_unlike) (defBody s_law_unlike) (defScope s_law_unlike) .none kV20 dc20 pm20 an20 cd20 ct20), sl20⟩) (d20 : PySem.W.codeIn K cd20 "_law_unlike" = true) (k20 : PySem.W.keepIn K (.ref f20) = true)
    {f21 : Addr} {oc21 kV21 dc21 pm21 cd21 ct21 : Value} {od21 an21 : Option Addr} {sl21 : Array (Option Value)}
    (a21 : PySem.W.nsIn K mainGlobals "law" = some (some (.ref f21))) (l21 : K.lookup f21 = some ⟨oc21, od21, .func (PySem.W.fnOf "law" "law" (defArgs s_law) (defBody s_law) (defScope s_law) .none kV21 dc21 pm21 an21 cd21 ct21), sl21⟩) (d21 : PySem.W.codeIn K cd21 "law" = true) (k21 : PySem.W.keepIn K (.ref f21) = true)
    (z0 : PySem.W.nsIn K mainGlobals "all" = some none)
    (z1 : PySem.W.nsIn K mainGlobals "bool" = some none)
    (z2 : PySem.W.nsIn K mainGlobals "dict" = some none)
    (z3 : PySem.W.nsIn K mainGlobals "enumerate" = some none)
    (z4 : PySem.W.nsIn K mainGlobals "int" = some none)
    (z5 : PySem.W.nsIn K mainGlobals "isinstance" = some none)
    (z6 : PySem.W.nsIn K mainGlobals "len" = some none)
    (z7 : PySem.W.nsIn K mainGlobals "list" = some none)
    (z8 : PySem.W.nsIn K mainGlobals "max" = some none)
    (z9 : PySem.W.nsIn K mainGlobals "min" = some none)
    (z10 : PySem.W.nsIn K mainGlobals "range" = some none)
    (z11 : PySem.W.nsIn K mainGlobals "set" = some none)
    (z12 : PySem.W.nsIn K mainGlobals "sorted" = some none)
    (z13 : PySem.W.nsIn K mainGlobals "str" = some none)
    (z14 : PySem.W.nsIn K mainGlobals "tuple" = some none)
    {t0 : Tok} (y0 : PySem.W.nsIn K mainGlobals "LETTERS" = some (some (.str "abcdefghijklmnopqrstuvwxyz" t0)))
    {t1 : Tok} (y1 : PySem.W.nsIn K mainGlobals "MOST_SIGNS" = some (some (.int 8 t1)))
    {t2 : Tok} (y2 : PySem.W.nsIn K mainGlobals "MOST_STOPS" = some (some (.int 12 t2)))
    {t3 : Tok} (y3 : PySem.W.nsIn K mainGlobals "MOST_WORDS" = some (some (.int 6 t3))) :
    ∃ fd : FuncData, (∀ (s : Shared) (v : Value), BindsTo s fd ⟨[v], []⟩ [("_law_script", v)]) ∧ ∀ base : Heap, K.In base → base.Ns mainGlobals mg → FnOk l.prog w K mg base CX0 7 fa fd ["_law_script"] (SpF K 1 M_law) := by
  have T : Txt K mg := ⟨PySem.W.mg_none_of X G z0, PySem.W.mg_none_of X G z1, PySem.W.mg_none_of X G z2, PySem.W.mg_none_of X G z3, PySem.W.mg_none_of X G z4, PySem.W.mg_none_of X G z5, PySem.W.mg_none_of X G z6, PySem.W.mg_none_of X G z7, PySem.W.mg_none_of X G z8, PySem.W.mg_none_of X G z9, PySem.W.mg_none_of X G z10, PySem.W.mg_none_of X G z11, PySem.W.mg_none_of X G z12, PySem.W.mg_none_of X G z13, PySem.W.mg_none_of X G z14, ⟨t0, PySem.W.mg_of X G y0⟩, ⟨t1, PySem.W.mg_of X G y1⟩, ⟨t2, PySem.W.mg_of X G y2⟩, ⟨t3, PySem.W.mg_of X G y3⟩⟩
  have D_is_whole : DefAt K mg "is_whole" s_is_whole ["thing"] := defAt_mk X G a0 l0 d0 k0 fun _ _ _ _ _ _ us hl => match us, hl with | [_], _ => rfl
  have D_is_place : DefAt K mg "is_place" s_is_place ["thing", "many"] := defAt_mk X G a1 l1 d1 k1 fun _ _ _ _ _ _ us hl => match us, hl with | [_, _], _ => rfl
  have D_is_word : DefAt K mg "is_word" s_is_word ["thing"] := defAt_mk X G a2 l2 d2 k2 fun _ _ _ _ _ _ us hl => match us, hl with | [_], _ => rfl
  have D_are_ways : DefAt K mg "are_ways" s_are_ways ["thing", "many"] := defAt_mk X G a3 l3 d3 k3 fun _ _ _ _ _ _ us hl => match us, hl with | [_, _], _ => rfl
  have D_is_stop : DefAt K mg "is_stop" s_is_stop ["thing", "many"] := defAt_mk X G a4 l4 d4 k4 fun _ _ _ _ _ _ us hl => match us, hl with | [_, _], _ => rfl
  have D_need_plan : DefAt K mg "need_plan" s_need_plan ["plan"] := defAt_mk X G a5 l5 d5 k5 fun _ _ _ _ _ _ us hl => match us, hl with | [_], _ => rfl
  have D_ways_of : DefAt K mg "ways_of" s_ways_of ["stop"] := defAt_mk X G a6 l6 d6 k6 fun _ _ _ _ _ _ us hl => match us, hl with | [_], _ => rfl
  have D_reached : DefAt K mg "reached" s_reached ["plan"] := defAt_mk X G a7 l7 d7 k7 fun _ _ _ _ _ _ us hl => match us, hl with | [_], _ => rfl
  have D_grouped : DefAt K mg "grouped" s_grouped ["plan"] := defAt_mk X G a8 l8 d8 k8 fun _ _ _ _ _ _ us hl => match us, hl with | [_], _ => rfl
  have D_small : DefAt K mg "small" s_small ["plan"] := defAt_mk X G a9 l9 d9 k9 fun _ _ _ _ _ _ us hl => match us, hl with | [_], _ => rfl
  have D_law_cell_at : DefAt K mg "_law_cell_at" s_law_cell_at ["_law_script", "_law_k"] := defAt_mk X G a10 l10 d10 k10 fun _ _ _ _ _ _ us hl => match us, hl with | [_, _], _ => rfl
  have D_law_mixed : DefAt K mg "_law_mixed" s_law_mixed ["_law_cell", "_law_k"] := defAt_mk X G a11 l11 d11 k11 fun _ _ _ _ _ _ us hl => match us, hl with | [_, _], _ => rfl
  have D_law_words : DefAt K mg "_law_words" s_law_words ["_law_cell"] := defAt_mk X G a12 l12 d12 k12 fun _ _ _ _ _ _ us hl => match us, hl with | [_], _ => rfl
  have D_law_plan : DefAt K mg "_law_plan" s_law_plan ["_law_cell", "_law_words_here"] := defAt_mk X G a13 l13 d13 k13 fun _ _ _ _ _ _ us hl => match us, hl with | [_, _], _ => rfl
  have D_law_goal : DefAt K mg "_law_goal" s_law_goal ["_law_cell", "_law_at", "_law_k", "_law_many"] := defAt_mk X G a14 l14 d14 k14 fun _ _ _ _ _ _ us hl => match us, hl with | [_, _, _, _], _ => rfl
  have D_law_ways : DefAt K mg "_law_ways" s_law_ways ["_law_stop"] := defAt_mk X G a15 l15 d15 k15 fun _ _ _ _ _ _ us hl => match us, hl with | [_], _ => rfl
  have D_law_twice : DefAt K mg "_law_twice" s_law_twice ["_law_cell", "_law_plan_here"] := defAt_mk X G a16 l16 d16 k16 fun _ _ _ _ _ _ us hl => match us, hl with | [_, _], _ => rfl
  have D_law_is_plan : DefAt K mg "_law_is_plan" s_law_is_plan ["_law_plan_here"] := defAt_mk X G a17 l17 d17 k17 fun _ _ _ _ _ _ us hl => match us, hl with | [_], _ => rfl
  have D_law_order : DefAt K mg "_law_order" s_law_order ["_law_plan_here"] := defAt_mk X G a18 l18 d18 k18 fun _ _ _ _ _ _ us hl => match us, hl with | [_], _ => rfl
  have D_law_alike : DefAt K mg "_law_alike" s_law_alike ["_law_one", "_law_other"] := defAt_mk X G a19 l19 d19 k19 fun _ _ _ _ _ _ us hl => match us, hl with | [_, _], _ => rfl
  have D_law_unlike : DefAt K mg "_law_unlike" s_law_unlike ["_law_plan_here"] := defAt_mk X G a20 l20 d20 k20 fun _ _ _ _ _ _ us hl => match us, hl with | [_], _ => rfl
  have D_law : DefAt K mg "law" s_law ["_law_script"] := defAt_mk X G a21 l21 d21 k21 fun _ _ _ _ _ _ us hl => match us, hl with | [_], _ => rfl
  have e := hfa.symm.trans (PySem.W.mg_of X G a21)
  cases e
  refine ⟨PySem.W.fnOf "law" "law" (defArgs s_law) (defBody s_law) (defScope s_law) .none kV21 dc21 pm21 an21 cd21 ct21, fun s v => .of_eq rfl, fun base _ _ => ?_⟩
  have C_is_whole := c_is_whole (P := l.prog) (w := w) (base := base) T D_is_whole
  have C_is_word := c_is_word (P := l.prog) (w := w) (base := base) T D_is_word
  have C_ways_of := c_ways_of (P := l.prog) (w := w) (base := base) T D_ways_of
  have C_law_cell_at := c_law_cell_at (P := l.prog) (w := w) (base := base) T D_law_cell_at
  have C_law_mixed := c_law_mixed (P := l.prog) (w := w) (base := base) T D_law_mixed
  have C_law_ways := c_law_ways (P := l.prog) (w := w) (base := base) T D_law_ways
  have C_law_is_plan := c_law_is_plan (P := l.prog) (w := w) (base := base) T D_law_is_plan
  have C_law_order := c_law_order (P := l.prog) (w := w) (base := base) T D_law_order
  have C_is_place := c_is_place (P := l.prog) (w := w) (base := base) T D_is_place C_is_whole
  have C_reached := c_reached (P := l.prog) (w := w) (base := base) T D_reached C_ways_of
  have C_grouped := c_grouped (P := l.prog) (w := w) (base := base) T D_grouped C_ways_of
  have C_law_words := c_law_words (P := l.prog) (w := w) (base := base) T D_law_words C_law_mixed
  have C_law_goal := c_law_goal (P := l.prog) (w := w) (base := base) T D_law_goal C_law_mixed
  have C_law_twice := c_law_twice (P := l.prog) (w := w) (base := base) T D_law_twice C_law_mixed
  have C_law_alike := c_law_alike (P := l.prog) (w := w) (base := base) T D_law_alike C_law_ways
  have C_law_unlike := c_law_unlike (P := l.prog) (w := w) (base := base) T D_law_unlike C_law_ways
  have C_are_ways := c_are_ways (P := l.prog) (w := w) (base := base) T D_are_ways C_is_place C_is_word
  have C_law_plan := c_law_plan (P := l.prog) (w := w) (base := base) T D_law_plan C_law_mixed C_law_goal
  have C_is_stop := c_is_stop (P := l.prog) (w := w) (base := base) T D_is_stop C_are_ways
  have C_need_plan := c_need_plan (P := l.prog) (w := w) (base := base) T D_need_plan C_is_stop
  have C_small := c_small (P := l.prog) (w := w) (base := base) T D_small C_need_plan C_grouped C_reached
  exact c_law T (fun_mk (st := s_law) l21 d21 k21) C_law_cell_at C_law_twice C_law_plan C_law_words C_small C_law_order C_law_is_plan C_law_unlike C_law_alike
end TP
open PySem PySem.W PyProof.Rows
set_option maxHeartbeats 0 in
theorem PySem.Challenge.cw_talkplans_k03_small_plans_holds : PySem.Challenge.rw_talkplans_k03_small_plans.Holds := by
  w_on
  o_law
  k_head
  (case hw => w_witness2)
  k_fill
  refine L2.walk_ofB (l := PySem.Challenge.rw_talkplans_k03_small_plans) (n := 63) (k := 7) (x := "_law_script") (CX := fun _ => L2.CX0) (sp := fun w => TP.SpF _ 1 TP.M_law) rfl (by decide) rfl ⟨rfl, by decide, by decide⟩ (fun w h Y => PySem.W.kIn_of Y) ?F (fun w H a ns hl hb hO hS => TP.law_sp hS (TP.main ns hl hb)) (fun _ _ _ _ _ h => h)
  case F =>
    intro w mg fa h KX G hmg
    refine' TP.all_mk KX G hmg ?a0 ?l0 ?d0 ?k0 ?a1 ?l1 ?d1 ?k1 ?a2 ?l2 ?d2 ?k2 ?a3 ?l3 ?d3 ?k3 ?a4 ?l4 ?d4 ?k4 ?a5 ?l5 ?d5 ?k5 ?a6 ?l6 ?d6 ?k6 ?a7 ?l7 ?d7 ?k7 ?a8 ?l8 ?d8 ?k8 ?a9 ?l9 ?d9 ?k9 ?a10 ?l10 ?d10 ?k10 ?a11 ?l11 ?d11 ?k11 ?a12 ?l12 ?d12 ?k12 ?a13 ?l13 ?d13 ?k13 ?a14 ?l14 ?d14 ?k14 ?a15 ?l15 ?d15 ?k15 ?a16 ?l16 ?d16 ?k16 ?a17 ?l17 ?d17 ?k17 ?a18 ?l18 ?d18 ?k18 ?a19 ?l19 ?d19 ?k19 ?a20 ?l20 ?d20 ?k20 ?a21 ?l21 ?d21 ?k21 ?z0 ?z1 ?z2 ?z3 ?z4 ?z5 ?z6 ?z7 ?z8 ?z9 ?z10 ?z11 ?z12 ?z13 ?z14 ?y0 ?y1 ?y2 ?y3
    (case a0 => k_is)
    (case l0 => k_is)
    (case d0 => k_is)
    (case k0 => k_is)
    (case a1 => k_is)
    (case l1 => k_is)
    (case d1 => k_is)
    (case k1 => k_is)
    (case a2 => k_is)
    (case l2 => k_is)
    (case d2 => k_is)
    (case k2 => k_is)
    (case a3 => k_is)
    (case l3 => k_is)
    (case d3 => k_is)
    (case k3 => k_is)
    (case a4 => k_is)
    (case l4 => k_is)
    (case d4 => k_is)
    (case k4 => k_is)
    (case a5 => k_is)
    (case l5 => k_is)
    (case d5 => k_is)
    (case k5 => k_is)
    (case a6 => k_is)
    (case l6 => k_is)
    (case d6 => k_is)
    (case k6 => k_is)
    (case a7 => k_is)
    (case l7 => k_is)
    (case d7 => k_is)
    (case k7 => k_is)
    (case a8 => k_is)
    (case l8 => k_is)
    (case d8 => k_is)
    (case k8 => k_is)
    (case a9 => k_is)
    (case l9 => k_is)
    (case d9 => k_is)
    (case k9 => k_is)
    (case a10 => k_is)
    (case l10 => k_is)
    (case d10 => k_is)
    (case k10 => k_is)
    (case a11 => k_is)
    (case l11 => k_is)
    (case d11 => k_is)
    (case k11 => k_is)
    (case a12 => k_is)
    (case l12 => k_is)
    (case d12 => k_is)
    (case k12 => k_is)
    (case a13 => k_is)
    (case l13 => k_is)
    (case d13 => k_is)
    (case k13 => k_is)
    (case a14 => k_is)
    (case l14 => k_is)
    (case d14 => k_is)
    (case k14 => k_is)
    (case a15 => k_is)
    (case l15 => k_is)
    (case d15 => k_is)
    (case k15 => k_is)
    (case a16 => k_is)
    (case l16 => k_is)
    (case d16 => k_is)
    (case k16 => k_is)
    (case a17 => k_is)
    (case l17 => k_is)
    (case d17 => k_is)
    (case k17 => k_is)
    (case a18 => k_is)
    (case l18 => k_is)
    (case d18 => k_is)
    (case k18 => k_is)
    (case a19 => k_is)
    (case l19 => k_is)
    (case d19 => k_is)
    (case k19 => k_is)
    (case a20 => k_is)
    (case l20 => k_is)
    (case d20 => k_is)
    (case k20 => k_is)
    (case a21 => k_is)
    (case l21 => k_is)
    (case d21 => k_is)
    (case k21 => k_is)
    (case z0 => k_is)
    (case z1 => k_is)
    (case z2 => k_is)
    (case z3 => k_is)
    (case z4 => k_is)
    (case z5 => k_is)
    (case z6 => k_is)
    (case z7 => k_is)
    (case z8 => k_is)
    (case z9 => k_is)
    (case z10 => k_is)
    (case z11 => k_is)
    (case z12 => k_is)
    (case z13 => k_is)
    (case z14 => k_is)
    (case y0 => k_is)
    (case y1 => k_is)
    (case y2 => k_is)
    (case y3 => k_is)
