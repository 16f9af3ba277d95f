import PyProof.Rows.All
import Wide.All
import OpenK.AllK
import Wide.FinOn
import HandS.ForMost
import HandS.Evl
import HandS.IsInst
import HandS.Deep
import HandS.Wide
import HandS.Style
import HandS.Zip
import HandS.TupAny
import KE.SortData
import KE.DataMinMax
import KE.DataAny
import KE.DataIsa
import HandS.More
import HandS.Flow
import HandS.Codes
import HandS.Text
import HandS.HeadHook3
import PyProof.ListStr
import PyProof.EnumMake
import HandS.Star
import HandS.SetFor
import KE.SortCalls
import PyProof.Rows.RegReprOcc
import PySem.Challenge.RW_evenlylaid_k64_whole_all_bars_of_a_ring
set_option Elab.async false
set_option linter.all false
set_option autoImplicit false
set_option maxRecDepth 100000
/-! DL1: data, environments, the readings by denotations -/
namespace DL
open PySem PySem.Spec PyProof.Rows L2 Evl

/-- how long a text, a list may be here -/
abbrev LIM : Nat := 1000000
theorem lim_line : LIM ≤ sizeLine := by rw [sizeLine_eq]; decide

abbrev PD := PyData
abbrev Sg := L2.St

/-! ### what a value means -/
def keyD : L2.Key → PD
  | .inl i => .int i
  | .inr x => .str x

mutual
inductive Rp (K : PySem.W.Frag) (H : Hp) : V → PD → Prop
  | non : Rp K H .non .none
  | bl (b : Bool) : Rp K H (.bl b) (.bool b)
  | int (i : Int) : Rp K H (.int i) (.int i)
  | str (x : Str) : Rp K H (.str x) (.str x)
  | lst {a : Addr} {xs : List V} {ds : List PD} : H a = some (.lst xs) → RpAll K H xs ds → Rp K H (.ref a) (.list ds)
  | tup {a : Addr} {xs : List V} {ds : List PD} : SqT K H a xs → RpAll K H xs ds → Rp K H (.ref a) (.tuple ds)
  | dct {a : Addr} {ks : List L2.Key} {vs : List V} {ds : List PD} : Rd H a (.dK (ks.zip vs)) → RpAll K H vs ds → ks.length = vs.length → Rp K H (.ref a) (.dict ((ks.map keyD).zip ds))
inductive RpAll (K : PySem.W.Frag) (H : Hp) : List V → List PD → Prop
  | nil : RpAll K H [] []
  | cons {v : V} {vs : List V} {d : PD} {ds : List PD} : Rp K H v d → RpAll K H vs ds → RpAll K H (v :: vs) (d :: ds)
end

theorem ex_rd' {H H' : Hp} {a : Addr} {u : HO} (e : Ex H H') (h : Rd H a u) : Rd H' a u := ex_rd e h
mutual
theorem Rp.mono {K : PySem.W.Frag} {H H' : Hp} (e : Ex H H') : ∀ {v : V} {d : PD}, Rp K H v d → Rp K H' v d
  | _, _, .non => .non
  | _, _, .bl b => .bl b
  | _, _, .int i => .int i
  | _, _, .str x => .str x
  | _, _, .lst h a => .lst (e _ _ h) (RpAll.mono e a)
  | _, _, .tup h a => .tup (ex_t e h) (RpAll.mono e a)
  | _, _, .dct h a l => .dct (ex_rd e h) (RpAll.mono e a) l
theorem RpAll.mono {K : PySem.W.Frag} {H H' : Hp} (e : Ex H H') : ∀ {vs : List V} {ds : List PD}, RpAll K H vs ds → RpAll K H' vs ds
  | _, _, .nil => .nil
  | _, _, .cons h a => .cons (Rp.mono e h) (RpAll.mono e a)
end
theorem RpAll.length {K : PySem.W.Frag} {H : Hp} : ∀ {vs : List V} {ds : List PD}, RpAll K H vs ds → vs.length = ds.length
  | _, _, .nil => rfl
  | _, _, .cons _ a => congrArg (· + 1) (RpAll.length a)
theorem RpAll.get {K : PySem.W.Frag} {H : Hp} : ∀ {vs : List V} {ds : List PD} {i : Nat} {d : PD}, RpAll K H vs ds → ds[i]? = some d → ∃ v, vs[i]? = some v ∧ Rp K H v d
  | _, _, i, d, .nil, h => by simp at h
  | _, _, 0, d, .cons r _, h => by simp at h; subst h; exact ⟨_, rfl, r⟩
  | _, _, i + 1, d, .cons _ t, h => by
    obtain ⟨v, h1, h2⟩ := RpAll.get (i := i) t (by simpa using h)
    exact ⟨v, by simpa using h1, h2⟩
theorem RpAll.get' {K : PySem.W.Frag} {H : Hp} : ∀ {vs : List V} {ds : List PD} {i : Nat} {v : V}, RpAll K H vs ds → vs[i]? = some v → ∃ d, ds[i]? = some d ∧ Rp K H v d
  | _, _, i, d, .nil, h => by simp at h
  | _, _, 0, d, .cons r _, h => by simp at h; subst h; exact ⟨_, rfl, r⟩
  | _, _, i + 1, d, .cons _ t, h => by
    obtain ⟨v, h1, h2⟩ := RpAll.get' (i := i) t (by simpa using h)
    exact ⟨v, by simpa using h1, h2⟩
theorem RpAll.append {K : PySem.W.Frag} {H : Hp} : ∀ {vs ws : List V} {ds es : List PD}, RpAll K H vs ds → RpAll K H ws es → RpAll K H (vs ++ ws) (ds ++ es)
  | _, _, _, _, .nil, h => h
  | _, _, _, _, .cons r t, h => .cons r (RpAll.append t h)
theorem RpAll.drop {K : PySem.W.Frag} {H : Hp} : ∀ {vs : List V} {ds : List PD} (n : Nat), RpAll K H vs ds → RpAll K H (vs.drop n) (ds.drop n)
  | _, _, 0, h => h
  | _, _, n + 1, .nil => .nil
  | _, _, n + 1, .cons _ t => RpAll.drop n t
theorem RpAll.take {K : PySem.W.Frag} {H : Hp} : ∀ {vs : List V} {ds : List PD} (n : Nat), RpAll K H vs ds → RpAll K H (vs.take n) (ds.take n)
  | _, _, 0, _ => .nil
  | _, _, n + 1, .nil => .nil
  | _, _, n + 1, .cons r t => .cons r (RpAll.take n t)
theorem RpAll.set {K : PySem.W.Frag} {H : Hp} {v : V} {d : PD} (r : Rp K H v d) : ∀ {vs : List V} {ds : List PD} (n : Nat), RpAll K H vs ds → RpAll K H (vs.set n v) (ds.set n d)
  | _, _, _, .nil => .nil
  | _, _, 0, .cons _ t => .cons r t
  | _, _, n + 1, .cons q t => .cons q (RpAll.set r n t)
theorem RpAll.reverse {K : PySem.W.Frag} {H : Hp} : ∀ {vs : List V} {ds : List PD}, RpAll K H vs ds → RpAll K H vs.reverse ds.reverse
  | _, _, .nil => .nil
  | _, _, .cons r t => by
    rw [List.reverse_cons, List.reverse_cons]
    exact RpAll.append (RpAll.reverse t) (.cons r .nil)
theorem RpAll.ints {K : PySem.W.Frag} {H : Hp} : ∀ {vs : List V} {ns : List Int}, RpAll K H vs (ns.map PyData.int) → vs = ns.map V.int
  | _, [], .nil => rfl
  | _, n :: ns, .cons r t => by
    cases r
    rw [RpAll.ints t]
    rfl
theorem RpAll.strs {K : PySem.W.Frag} {H : Hp} : ∀ {vs : List V} {ns : List Str}, RpAll K H vs (ns.map PyData.str) → vs = ns.map V.str
  | _, [], .nil => rfl
  | _, n :: ns, .cons r t => by
    cases r
    rw [RpAll.strs t]
    rfl
theorem RpAll.bls {K : PySem.W.Frag} {H : Hp} : ∀ {vs : List V} {ns : List Bool}, RpAll K H vs (ns.map PyData.bool) → vs = ns.map V.bl
  | _, [], .nil => rfl
  | _, n :: ns, .cons r t => by
    cases r
    rw [RpAll.bls t]
    rfl
theorem RpAll.of_strs {K : PySem.W.Frag} {H : Hp} : ∀ (ns : List Str), RpAll K H (ns.map V.str) (ns.map PyData.str)
  | [] => .nil
  | n :: ns => .cons (.str n) (RpAll.of_strs ns)
theorem RpAll.of_ints {K : PySem.W.Frag} {H : Hp} : ∀ (ns : List Int), RpAll K H (ns.map V.int) (ns.map PyData.int)
  | [] => .nil
  | n :: ns => .cons (.int n) (RpAll.of_ints ns)

/-! ### the draws' state -/
structure Strm where
  sa : Addr
  ca : Addr
  cells : List Int
  cur : Int
  cnt : Int
  mix : Int
abbrev SS := Option Strm
def adrs : SS → List Addr
  | none => []
  | some z => [z.sa, z.ca]
def SOk (s : SS) (Hs H : Hp) : Prop := match s with
  | none => True
  | some z => z.sa ≠ z.ca ∧ Hs z.sa = none ∧ Hs z.ca = none ∧ H z.sa = some (.lst [.ref z.ca, .int z.cur, .int z.cnt, .int z.mix]) ∧ H z.ca = some (.lst (z.cells.map V.int))

/-! ### environments -/
inductive Sl where
  | d (x : PD)
  | p (a : Addr)
  | own (xs : List PD)
abbrev Rho := List (Option Sl)
def rget : Rho → Nat → Option Sl
  | [], _ => none
  | e :: _, 0 => e
  | _ :: r, n + 1 => rget r n
def rset : Rho → Nat → Option Sl → Rho
  | [], _, _ => []
  | _ :: r, 0, x => x :: r
  | e :: r, n + 1, x => e :: rset r n x
theorem rset_length : ∀ (ρ : Rho) (i : Nat) (x : Option Sl), (rset ρ i x).length = ρ.length
  | [], _, _ => rfl
  | _ :: _, 0, _ => rfl
  | _ :: r, n + 1, x => congrArg (· + 1) (rset_length r n x)
theorem rget_set_ne : ∀ (ρ : Rho) (i j : Nat) (x : Option Sl), j ≠ i → rget (rset ρ i x) j = rget ρ j
  | [], _, _, _, _ => rfl
  | _ :: _, 0, 0, _, h => absurd rfl h
  | _ :: _, 0, j + 1, _, _ => rfl
  | _ :: _, n + 1, 0, _, _ => rfl
  | _ :: r, n + 1, j + 1, x, h => rget_set_ne r n j x fun e => h (congrArg (· + 1) e)
theorem rget_set_eq : ∀ (ρ : Rho) (i : Nat) (x : Option Sl), i < ρ.length → rget (rset ρ i x) i = x
  | [], i, x, h => absurd h (Nat.not_lt_zero i)
  | _ :: _, 0, _, _ => rfl
  | _ :: r, n + 1, x, h => rget_set_eq r n x (Nat.lt_of_succ_lt_succ h)
theorem rget_lt : ∀ {ρ : Rho} {i : Nat} {e : Sl}, rget ρ i = some e → i < ρ.length
  | [], i, e, h => by cases h
  | _ :: r, 0, e, h => Nat.succ_pos _
  | _ :: r, n + 1, e, h => Nat.succ_lt_succ (rget_lt (ρ := r) h)

/-- the entry of the function -/
structure Base where
  H : Hp
  Hs : Hp
  s : SS

/-- the heap's part -/
structure Hk (B : Base) (s : SS) (Hs H : Hp) : Prop where
  sub : Ex Hs H
  st : SOk s Hs H
  ad : adrs s = adrs B.s
  ex0 : Ex B.Hs Hs
  kp0 : ∀ a o, B.H a = some o → a ∉ adrs B.s → H a = some o
  nw0 : ∀ a o, Hs a = some o → B.Hs a = some o ∨ B.H a = none
  dm0 : ∀ a, H a = none → B.H a = none

def SlOk (K : PySem.W.Frag) (B : Base) (Hs H : Hp) (v : V) : Sl → Prop
  | .d x => Rp K Hs v x
  | .p a => v = .ref a
  | .own xs => ∃ a vs, v = .ref a ∧ H a = some (.lst vs) ∧ Hs a = none ∧ B.H a = none ∧ a ∉ adrs B.s ∧ RpAll K Hs vs xs

structure Ok (K : PySem.W.Frag) (B : Base) (ρ : Rho) (σ : Sg) (s : SS) (Hs H : Hp) : Prop where
  hk : Hk B s Hs H
  len : σ.length = ρ.length
  sl : ∀ (i : Nat) (e : Sl), rget ρ i = some e → ∃ v : V, σ[i]? = some (some v) ∧ SlOk K B Hs H v e
  dis : ∀ (i j : Nat) (xs ys : List PD) (v : V), rget ρ i = some (.own xs) → rget ρ j = some (.own ys) → σ[i]? = some (some v) → σ[j]? = some (some v) → i = j

/-- behind an expression -/
structure Nx (K : PySem.W.Frag) (B : Base) (ρ : Rho) (σ : Sg) (s' : SS) (Hs H Hs' H' : Hp) : Prop where
  ok : Ok K B ρ σ s' Hs' H'
  ex : Ex Hs Hs'
  kp : ∀ a o, H a = some o → a ∉ adrs B.s → H' a = some o
  nw : ∀ a o, H a = some o → Hs a = none → Hs' a = none

theorem SOk.adr {s : SS} {Hs H : Hp} {a : Addr} (h : SOk s Hs H) (m : a ∈ adrs s) : Hs a = none := by
  cases s with
  | none => cases m
  | some z =>
    obtain ⟨h1, h2, h3, h4, h5⟩ := h
    rcases List.mem_cons.mp m with e | m
    · rw [e]; exact h2
    · rcases List.mem_cons.mp m with e | m
      · rw [e]; exact h3
      · cases m
theorem Nx.refl {K : PySem.W.Frag} {B : Base} {ρ : Rho} {σ : Sg} {s : SS} {Hs H : Hp} (h : Ok K B ρ σ s Hs H) : Nx K B ρ σ s Hs H Hs H := ⟨h, Ex.refl _, fun _ _ e _ => e, fun _ _ _ n => n⟩
theorem Nx.trans {K : PySem.W.Frag} {B : Base} {ρ : Rho} {σ : Sg} {s1 s2 : SS} {Hs H Hs1 H1 Hs2 H2 : Hp} (a : Nx K B ρ σ s1 Hs H Hs1 H1) (b : Nx K B ρ σ s2 Hs1 H1 Hs2 H2) : Nx K B ρ σ s2 Hs H Hs2 H2 :=
  ⟨b.ok, a.ex.trans b.ex, fun x o e n => b.kp x o (a.kp x o e n) n, fun x o e n => by
    by_cases h : x ∈ adrs B.s
    · exact b.ok.hk.st.adr (by rw [b.ok.hk.ad]; exact h)
    · exact b.nw x o (a.kp x o e h) (a.nw x o e n)⟩

/-- an object laid at a fresh address -/
theorem SOk.laid {s : SS} {Hs H : Hp} {p : Addr} {o : HO} (h : SOk s Hs H) (hp : H p = none) : SOk s (upd Hs p o) (upd H p o) := by
  cases s with
  | none => trivial
  | some z =>
    obtain ⟨h1, h2, h3, h4, h5⟩ := h
    have n1 : z.sa ≠ p := ne_of_none h4 hp
    have n2 : z.ca ≠ p := ne_of_none h5 hp
    exact ⟨h1, by rw [upd_ne n1]; exact h2, by rw [upd_ne n2]; exact h3, by rw [upd_ne n1]; exact h4, by rw [upd_ne n2]; exact h5⟩
theorem SOk.laidO {s : SS} {Hs H : Hp} {p : Addr} {o : HO} (h : SOk s Hs H) (hp : H p = none) : SOk s Hs (upd H p o) := by
  cases s with
  | none => trivial
  | some z =>
    obtain ⟨h1, h2, h3, h4, h5⟩ := h
    have n1 : z.sa ≠ p := ne_of_none h4 hp
    have n2 : z.ca ≠ p := ne_of_none h5 hp
    exact ⟨h1, h2, h3, by rw [upd_ne n1]; exact h4, by rw [upd_ne n2]; exact h5⟩
theorem Ex.laid {Hs H : Hp} {p : Addr} {o : HO} (h : Ex Hs H) (hp : H p = none) : Ex (upd Hs p o) (upd H p o) := fun a u e => by
  by_cases q : a = p
  · subst q
    rw [upd_same] at e ⊢
    exact e
  · rw [upd_ne q] at e ⊢
    exact h a u e
theorem hs_none {Hs H : Hp} {p : Addr} (h : Ex Hs H) (hp : H p = none) : Hs p = none := by
  cases e : Hs p with
  | none => rfl
  | some o => rw [h p o e] at hp; cases hp
theorem Hk.laid {B : Base} {s : SS} {Hs H : Hp} {p : Addr} {o : HO} (h : Hk B s Hs H) (hp : H p = none) : Hk B s (upd Hs p o) (upd H p o) := by
  refine ⟨Ex.laid h.sub hp, h.st.laid hp, h.ad, fun a u e => ?_, fun a u e n => ?_, fun a u e => ?_, fun a e => ?_⟩
  · have := h.ex0 a u e
    rw [upd_ne (ne_of_none this (hs_none h.sub hp))]
    exact this
  · have := h.kp0 a u e n
    rw [upd_ne (ne_of_none this hp)]
    exact this
  · by_cases q : a = p
    · subst q
      exact .inr (h.dm0 a hp)
    · rw [upd_ne q] at e
      exact h.nw0 a u e
  · by_cases q : a = p
    · subst q
      rw [upd_same] at e
      cases e
    · rw [upd_ne q] at e
      exact h.dm0 a e
/-- .. not shared (yet) -/
theorem Hk.laidO {B : Base} {s : SS} {Hs H : Hp} {p : Addr} {o : HO} (h : Hk B s Hs H) (hp : H p = none) : Hk B s Hs (upd H p o) := by
  refine ⟨fun a u e => ?_, h.st.laidO hp, h.ad, h.ex0, fun a u e n => ?_, h.nw0, fun a e => ?_⟩
  · have := h.sub a u e
    rw [upd_ne (ne_of_none this hp)]
    exact this
  · have := h.kp0 a u e n
    rw [upd_ne (ne_of_none this hp)]
    exact this
  · by_cases q : a = p
    · subst q
      rw [upd_same] at e
      cases e
    · rw [upd_ne q] at e
      exact h.dm0 a e
theorem SlOk.step {K : PySem.W.Frag} {B : Base} {Hs H Hs' H' : Hp} {v : V} {e : Sl} (ex : Ex Hs Hs') (kp : ∀ a o, H a = some o → a ∉ adrs B.s → H' a = some o)
    (nw : ∀ a o, H a = some o → Hs a = none → Hs' a = none) (h : SlOk K B Hs H v e) : SlOk K B Hs' H' v e := by
  cases e with
  | d x => exact Rp.mono ex h
  | p a => exact h
  | own xs =>
    obtain ⟨a, vs, h1, h2, h3, h4, h5, h6⟩ := h
    exact ⟨a, vs, h1, kp a _ h2 h5, nw a _ h2 h3, h4, h5, RpAll.mono ex h6⟩
theorem Ok.step {K : PySem.W.Frag} {B : Base} {ρ : Rho} {σ : Sg} {s s' : SS} {Hs H Hs' H' : Hp} (h : Ok K B ρ σ s Hs H) (hk : Hk B s' Hs' H') (ex : Ex Hs Hs') (kp : ∀ a o, H a = some o → a ∉ adrs B.s → H' a = some o)
    (nw : ∀ a o, H a = some o → Hs a = none → Hs' a = none) : Ok K B ρ σ s' Hs' H' :=
  ⟨hk, h.len, fun i e q => let ⟨v, h1, h2⟩ := h.sl i e q; ⟨v, h1, h2.step ex kp nw⟩, h.dis⟩
theorem Ok.laid {K : PySem.W.Frag} {B : Base} {ρ : Rho} {σ : Sg} {s : SS} {Hs H : Hp} {p : Addr} {o : HO} (h : Ok K B ρ σ s Hs H) (hp : H p = none) : Nx K B ρ σ s Hs H (upd Hs p o) (upd H p o) := by
  have ex : Ex Hs (upd Hs p o) := Ex.new (hs_none h.hk.sub hp)
  have kp : ∀ a u, H a = some u → a ∉ adrs B.s → upd H p o a = some u := fun a u e _ => by rw [upd_ne (ne_of_none e hp)]; exact e
  exact ⟨h.step (h.hk.laid hp) ex kp fun a u e n => by rw [upd_ne (ne_of_none e hp)]; exact n, ex, kp, fun a u e n => by rw [upd_ne (ne_of_none e hp)]; exact n⟩
theorem Ok.laidO {K : PySem.W.Frag} {B : Base} {ρ : Rho} {σ : Sg} {s : SS} {Hs H : Hp} {p : Addr} {o : HO} (h : Ok K B ρ σ s Hs H) (hp : H p = none) : Nx K B ρ σ s Hs H Hs (upd H p o) := by
  have kp : ∀ a u, H a = some u → a ∉ adrs B.s → upd H p o a = some u := fun a u e _ => by rw [upd_ne (ne_of_none e hp)]; exact e
  exact ⟨h.step (h.hk.laidO hp) (Ex.refl _) kp fun a u e n => n, Ex.refl _, kp, fun _ _ _ n => n⟩

/-! ### denotations -/
abbrev M (α : Type) := SS → Option (α × SS)
def M.ret {α : Type} (a : α) : M α := fun s => some (a, s)
def M.fail {α : Type} : M α := fun _ => none
def M.bnd {α β : Type} (m : M α) (f : α → M β) : M β := fun s => match m s with
  | none => none
  | some (a, s1) => f a s1
def M.lift {α : Type} (o : Option α) : M α := fun s => match o with
  | none => none
  | some a => some (a, s)
theorem M.bnd_some {α β : Type} {m : M α} {f : α → M β} {s s' : SS} {b : β} (h : M.bnd m f s = some (b, s')) : ∃ a s1, m s = some (a, s1) ∧ f a s1 = some (b, s') := by
  unfold M.bnd at h
  cases e : m s with
  | none => rw [e] at h; cases h
  | some p => rw [e] at h; exact ⟨p.1, p.2, rfl, h⟩
theorem M.lift_some {α : Type} {o : Option α} {s s' : SS} {a : α} (h : M.lift o s = some (a, s')) : o = some a ∧ s' = s := by
  unfold M.lift at h
  cases o with
  | none => cases h
  | some b => cases h; exact ⟨rfl, rfl⟩

abbrev DE := Rho → M PD
abbrev DT := Rho → M (List PD)
abbrev DB := Rho → M Bool

section
variable (K : PySem.W.Frag) (B : Base)
def tE (m : DE) : TE := fun σ H Q => ∃ ρ s Hs d s', Ok K B ρ σ s Hs H ∧ m ρ s = some (d, s') ∧ ∀ v Hs' H', Nx K B ρ σ s' Hs H Hs' H' → Rp K Hs' v d → Q v H'
def tB (m : DB) : TT := fun σ H Q => ∃ ρ s Hs b s', Ok K B ρ σ s Hs H ∧ m ρ s = some (b, s') ∧ ∀ Hs' H', Nx K B ρ σ s' Hs H Hs' H' → Q b H'
/-- a sequence that is shared, or the own list of a slot -/
def seqOf : PD → Option (List PD)
  | .list xs => some xs
  | .tuple xs => some xs
  | _ => none
def TV (ρ : Rho) (σ : Sg) (Hs : Hp) (v : V) (xs : List PD) : Prop := (∃ d, Rp K Hs v d ∧ seqOf d = some xs) ∨ ∃ i : Nat, σ[i]? = some (some v) ∧ rget ρ i = some (.own xs)
def tQ (m : DT) : TE := fun σ H Q => ∃ ρ s Hs xs s', Ok K B ρ σ s Hs H ∧ m ρ s = some (xs, s') ∧ ∀ v Hs' H', Nx K B ρ σ s' Hs H Hs' H' → TV K ρ σ Hs' v xs → Q v H'
/-- a new list, not shared yet -/
def tF (m : DT) : TE := fun σ H Q => ∃ ρ s Hs xs s', Ok K B ρ σ s Hs H ∧ m ρ s = some (xs, s') ∧ ∀ p vs Hs' H', Nx K B ρ σ s' Hs H Hs' H' → H p = none → Hs' p = none → H' p = some (.lst vs) → RpAll K Hs' vs xs → Q (.ref p) H'
end

/-- arguments: data, or the draws -/
inductive Ag where
  | d (x : PD)
  | p (a : Addr)
def AgOk (K : PySem.W.Frag) (Hs : Hp) (v : V) : Ag → Prop
  | .d x => Rp K Hs v x
  | .p a => v = .ref a
inductive AgAll (K : PySem.W.Frag) (Hs : Hp) : List V → List Ag → Prop
  | nil : AgAll K Hs [] []
  | cons {v : V} {vs : List V} {d : Ag} {ds : List Ag} : AgOk K Hs v d → AgAll K Hs vs ds → AgAll K Hs (v :: vs) (d :: ds)
theorem AgOk.mono {K : PySem.W.Frag} {Hs Hs' : Hp} (e : Ex Hs Hs') {v : V} {g : Ag} (h : AgOk K Hs v g) : AgOk K Hs' v g := by
  cases g with
  | d x => exact Rp.mono e h
  | p a => exact h
theorem AgAll.mono {K : PySem.W.Frag} {Hs Hs' : Hp} (e : Ex Hs Hs') : ∀ {vs : List V} {ds : List Ag}, AgAll K Hs vs ds → AgAll K Hs' vs ds
  | _, _, .nil => .nil
  | _, _, .cons h t => .cons (h.mono e) (AgAll.mono e t)
theorem AgAll.length {K : PySem.W.Frag} {Hs : Hp} : ∀ {vs : List V} {ds : List Ag}, AgAll K Hs vs ds → vs.length = ds.length
  | _, _, .nil => rfl
  | _, _, .cons _ a => congrArg (· + 1) (AgAll.length a)
theorem AgAll.append {K : PySem.W.Frag} {Hs : Hp} : ∀ {vs ws : List V} {ds es : List Ag}, AgAll K Hs vs ds → AgAll K Hs ws es → AgAll K Hs (vs ++ ws) (ds ++ es)
  | _, _, _, _, .nil, h => h
  | _, _, _, _, .cons r t, h => .cons r (AgAll.append t h)
abbrev DA := Rho → M (List Ag)
def tA (K : PySem.W.Frag) (B : Base) (m : DA) : TA := fun σ H Q => ∃ ρ s Hs ds s', Ok K B ρ σ s Hs H ∧ m ρ s = some (ds, s') ∧ ∀ vs Hs' H', Nx K B ρ σ s' Hs H Hs' H' → AgAll K Hs' vs ds → Q vs H'

/-- statements -/
inductive Fl where
  | nx (ρ : Rho)
  | rt (d : PD)
  | bk (ρ : Rho)
  | ct (ρ : Rho)
abbrev DS := Rho → M Fl
def FlOk (K : PySem.W.Frag) (B : Base) (D : Ends) (s' : SS) (Hs : Hp) : Fl → Prop
  | .nx ρ' => ∀ σ' Hs' H', Ok K B ρ' σ' s' Hs' H' → Ex Hs Hs' → D.nx σ' H'
  | .bk ρ' => ∀ σ' Hs' H', Ok K B ρ' σ' s' Hs' H' → Ex Hs Hs' → D.bk σ' H'
  | .ct ρ' => ∀ σ' Hs' H', Ok K B ρ' σ' s' Hs' H' → Ex Hs Hs' → D.ct σ' H'
  | .rt d => ∀ v Hs' H', Hk B s' Hs' H' → Rp K Hs' v d → D.rt v H'
def tS (K : PySem.W.Frag) (B : Base) (m : DS) : TS := fun D σ H => ∃ ρ s Hs fl s', Ok K B ρ σ s Hs H ∧ m ρ s = some (fl, s') ∧ FlOk K B D s' Hs fl
theorem FlOk.mono {K : PySem.W.Frag} {B : Base} {D : Ends} {s' : SS} {Hs Hs1 : Hp} {fl : Fl} (h : FlOk K B D s' Hs fl) (e : Ex Hs Hs1) : FlOk K B D s' Hs1 fl := by
  cases fl with
  | nx ρ => exact fun σ' Hs' H' ok x => h σ' Hs' H' ok (e.trans x)
  | bk ρ => exact fun σ' Hs' H' ok x => h σ' Hs' H' ok (e.trans x)
  | ct ρ => exact fun σ' Hs' H' ok x => h σ' Hs' H' ok (e.trans x)
  | rt d => exact h

/-! ### weakening -/
theorem _root_.L2.PE.imp {X : Cx} {e : Expr} {t t' : TE} (h : PE X e t) (i : ∀ σ H Q, t' σ H Q → t σ H Q) : PE X e t' := ⟨fun pins s σ H Q I q => h.run pins s σ H Q I (i _ _ _ q)⟩
theorem _root_.L2.PT.imp {X : Cx} {e : Expr} {t t' : TT} (h : PT X e t) (i : ∀ σ H Q, t' σ H Q → t σ H Q) : PT X e t' := ⟨fun pins s σ H Q I q => h.run pins s σ H Q I (i _ _ _ q)⟩
theorem _root_.L2.PW.imp {X : Cx} {e : Expr} {t t' : TT} (h : PW X e t) (i : ∀ σ H Q, t' σ H Q → t σ H Q) : PW X e t' := ⟨fun wh pins s σ H Q I q => h.run wh pins s σ H Q I (i _ _ _ q)⟩
theorem _root_.L2.PA.imp {X : Cx} {e : List Expr} {t t' : TA} (h : PA X e t) (i : ∀ σ H Q, t' σ H Q → t σ H Q) : PA X e t' := ⟨fun pos pins s σ H Q I q => h.run pos pins s σ H Q I (i _ _ _ q)⟩
theorem _root_.L2.PS.imp {X : Cx} {e : Stmt} {t t' : TS} (h : PS X e t) (i : ∀ D σ H, t' D σ H → t D σ H) : PS X e t' := ⟨fun pins s σ H D I q => h.run pins s σ H D I (i _ _ _ q)⟩
theorem _root_.L2.PSs.imp {X : Cx} {e : List Stmt} {t t' : TS} (h : PSs X e t) (i : ∀ D σ H, t' D σ H → t D σ H) : PSs X e t' := ⟨fun pins s σ H D I q => h.run pins s σ H D I (i _ _ _ q)⟩
theorem _root_.L2.PG.imp {X : Cx} {e : Expr} {t t' : TG} (h : PG X e t) (i : ∀ v σ H Q, t' v σ H Q → t v σ H Q) : PG X e t' := ⟨fun pins s σ H v u Q I r q => h.run pins s σ H v u Q I r (i _ _ _ _ q)⟩
theorem _root_.L2.PI.imp {X : Cx} {tg e : Expr} {t t' : TI} (h : PI X tg e t) (i : ∀ σ H R, t' σ H R → t σ H R) : PI X tg e t' := ⟨fun pins s σ H R I q => h.run pins s σ H R I (i _ _ _ q)⟩
end DL

/-! DL2: expressions by denotations -/
namespace DL
open PySem PySem.Spec PyProof.Rows L2 Evl

/-! ### from the abstract heap to the library's data -/
section
variable {X : Cx} {pins : List (Addr × Obj)} {σ : Sg} {H : Hp} {s : Shared}
mutual
theorem Rp.reads (I : Inv X pins σ H s) : ∀ (d : PD) (v : V) (u : Value), Rp X.K H v d → RelV v u → d.plain = true → ∃ as, Reads s.heap u d as
  | .none, _, _, h, r, _ => by cases h; cases r; exact ⟨_, Reads.none⟩
  | .bool b, _, _, h, r, _ => by cases h; cases r; exact ⟨_, Reads.bool b⟩
  | .int i, _, _, h, r, _ => by cases h; obtain ⟨t, rfl⟩ := r; exact ⟨_, Reads.int i t⟩
  | .str x, _, _, h, r, _ => by cases h; obtain ⟨t, rfl⟩ := r; exact ⟨_, Reads.str x t⟩
  | .list ds, _, _, h, r, p => by
    cases h with
    | lst hs ha =>
      cases r
      obtain ⟨its, rv, ⟨o, n, ho, hc, _, hd⟩, _⟩ := I.list (SqL.of hs)
      obtain ⟨as, hr⟩ := Rp.readsAll I ds _ its ha rv (by simpa [PyData.plain] using p)
      exact ⟨_, Reads.list ho hc hd hr⟩
  | .tuple ds, _, _, h, r, p => by
    cases h with
    | tup hs ha =>
      cases r
      obtain ⟨its, rv, ⟨o, ho, hc, n, hd⟩, _⟩ := I.tuple hs
      obtain ⟨as, hr⟩ := Rp.readsAll I ds _ its ha rv (by simpa [PyData.plain] using p)
      exact ⟨_, Reads.tuple ho hc hd hr⟩
  | .dict _, _, _, _, _, p => by cases p
theorem Rp.readsAll (I : Inv X pins σ H s) : ∀ (ds : List PD) (vs : List V) (us : List Value), RpAll X.K H vs ds → Vals vs us → PyData.plainAll ds = true → ∃ as, ReadsAll s.heap us ds as
  | [], _, _, h, r, _ => by cases h; cases r; exact ⟨_, ReadsAll.nil⟩
  | d :: ds, _, _, h, r, p => by
    have p' : d.plain = true ∧ PyData.plainAll ds = true := by simpa [PyData.plainAll] using p
    cases h with
    | cons h1 h2 =>
      cases r with
      | cons r1 r2 =>
        obtain ⟨as, q1⟩ := Rp.reads I d _ _ h1 r1 p'.1
        obtain ⟨bs, q2⟩ := Rp.readsAll I ds _ _ h2 r2 p'.2
        exact ⟨_, ReadsAll.cons q1 q2⟩
end
end

/-! ### operations by data -/
section
variable {X : Cx} {B : Base}
/-- two values -/
def OpD (X : Cx) (B : Base) (f : Value → Value → Sem Value) (g : PD → PD → Option PD) : Prop :=
  ∃ r : R2, OpR X f r ∧ ∀ (ρ : Rho) (σ : Sg) (s : SS) (Hs H : Hp) (x y d : PD) (v u : V) (Q : VK), Ok X.K B ρ σ s Hs H → g x y = some d → Rp X.K Hs v x → Rp X.K Hs u y →
    (∀ w Hs' H', Nx X.K B ρ σ s Hs H Hs' H' → Rp X.K Hs' w d → Q w H') → r v u H Q
def eOp (g : PD → PD → Option PD) (f1 f2 : DE) : DE := fun ρ => (f1 ρ).bnd fun x => (f2 ρ).bnd fun y => M.lift (g x y)
def bOp (g : PD → PD → Option PD) (f1 f2 : DE) : DB := fun ρ => (f1 ρ).bnd fun x => (f2 ρ).bnd fun y s => match g x y with
  | some (.bool b) => some (b, s)
  | _ => none

theorem tE_op {r : R2} {g : PD → PD → Option PD} {f1 f2 : DE} (h : ∀ (ρ : Rho) (σ : Sg) (s : SS) (Hs H : Hp) (x y d : PD) (v u : V) (Q : VK), Ok X.K B ρ σ s Hs H → g x y = some d → Rp X.K Hs v x → Rp X.K Hs u y →
    (∀ w Hs' H', Nx X.K B ρ σ s Hs H Hs' H' → Rp X.K Hs' w d → Q w H') → r v u H Q) (σ : Sg) (H : Hp) (Q : VK) (hq : tE X.K B (eOp g f1 f2) σ H Q) : tOp r (tE X.K B f1) (tE X.K B f2) σ H Q := by
  obtain ⟨ρ, s, Hs, d, s', ok, e, q⟩ := hq
  obtain ⟨x, s1, e1, e⟩ := M.bnd_some e
  obtain ⟨y, s2, e2, e⟩ := M.bnd_some e
  obtain ⟨e3, rfl⟩ := M.lift_some e
  refine ⟨ρ, s, Hs, x, s1, ok, e1, fun v Hs1 H1 n1 r1 => ?_⟩
  refine ⟨ρ, s1, Hs1, y, _, n1.ok, e2, fun u Hs2 H2 n2 r2 => ?_⟩
  exact h ρ σ _ Hs2 H2 x y d v u Q n2.ok e3 (r1.mono n2.ex) r2 fun w Hs' H' n3 r3 => q w Hs' H' (n1.trans (n2.trans n3)) r3
theorem tB_op {r : R2} {g : PD → PD → Option PD} {f1 f2 : DE} (h : ∀ (ρ : Rho) (σ : Sg) (s : SS) (Hs H : Hp) (x y d : PD) (v u : V) (Q : VK), Ok X.K B ρ σ s Hs H → g x y = some d → Rp X.K Hs v x → Rp X.K Hs u y →
    (∀ w Hs' H', Nx X.K B ρ σ s Hs H Hs' H' → Rp X.K Hs' w d → Q w H') → r v u H Q) (σ : Sg) (H : Hp) (Q : Bool → Hp → Prop) (hq : tB X.K B (bOp g f1 f2) σ H Q) : tTest (tOp r (tE X.K B f1) (tE X.K B f2)) σ H Q := by
  obtain ⟨ρ, s, Hs, b, s', ok, e, q⟩ := hq
  obtain ⟨x, s1, e1, e⟩ := M.bnd_some e
  obtain ⟨y, s2, e2, e⟩ := M.bnd_some e
  refine ⟨ρ, s, Hs, x, s1, ok, e1, fun v Hs1 H1 n1 r1 => ?_⟩
  refine ⟨ρ, s1, Hs1, y, _, n1.ok, e2, fun u Hs2 H2 n2 r2 => ?_⟩
  cases hg : g x y with
  | none => rw [hg] at e; cases e
  | some d =>
    rw [hg] at e
    cases d with
    | bool k =>
      cases e
      exact h ρ σ _ Hs2 H2 x y _ v u _ n2.ok hg (r1.mono n2.ex) r2 fun w Hs' H' n3 r3 => by
        cases r3
        exact ⟨_, rfl, q Hs' H' (n1.trans (n2.trans n3))⟩
    | _ => cases e
variable {a b c : Expr} {pos : Pos} {f1 f2 f3 : DE} {g g' : PD → PD → Option PD}
theorem d_op {op : Operator} (ho : OpD X B (binaryOp op) g) (ha : PE X a (tE X.K B f1)) (hb : PE X b (tE X.K B f2)) : PE X (.BinOp a op b pos) (tE X.K B (eOp g f1 f2)) := by
  obtain ⟨r, hr, h⟩ := ho
  exact (pe_op hr ha hb).imp (tE_op h)
theorem d_cmp {op : CmpOp} (ho : OpD X B (compareOp op) g) (ha : PE X a (tE X.K B f1)) (hb : PE X b (tE X.K B f2)) (hm : behindInMarks op b = false) : PE X (.Compare a [op] [b] pos) (tE X.K B (eOp g f1 f2)) := by
  obtain ⟨r, hr, h⟩ := ho
  exact (pe_cmpR hr ha hb hm).imp (tE_op h)
theorem t_cmp {op : CmpOp} (ho : OpD X B (compareOp op) g) (ha : PE X a (tE X.K B f1)) (hb : PE X b (tE X.K B f2)) (hm : behindInMarks op b = false) : PT X (.Compare a [op] [b] pos) (tB X.K B (bOp g f1 f2)) := by
  obtain ⟨r, hr, h⟩ := ho
  exact (pt_cmpR hr ha hb hm).imp (tB_op h)

/-! ### names, constants -/
def eVar (i : Nat) : DE := fun ρ s => match rget ρ i with
  | some (.d x) => some (x, s)
  | _ => none
def eC (c : PD) : DE := fun _ s => some (c, s)
theorem d_var (i : Nat) {x : Str} {pos : Pos} (hN : X.N[i]? = some x := by rfl) (hv : Vis X.env.scope x := by first | exact Or.inl rfl | exact Or.inr (Or.inl rfl) | exact Or.inr (Or.inr rfl)) (hd : (x == ("__debug__" : Str)) = false := by decide)
    (hcd : (x == ("__classdict__" : Str)) = false := by decide) : PE X (.Name x pos) (tE X.K B (eVar i)) := (pe_var hN hv hd hcd).imp fun σ H Q ⟨ρ, s, Hs, d, s', ok, e, q⟩ => by
  unfold eVar at e
  cases h : rget ρ i with
  | none => rw [h] at e; cases e
  | some z =>
    rw [h] at e
    cases z with
    | d x =>
      cases e
      obtain ⟨v, h1, h2⟩ := ok.sl i _ h
      exact ⟨v, h1, q v Hs H (Nx.refl ok) h2⟩
    | p a => cases e
    | own xs => cases e
theorem d_const {v : V} {c : PD} {e : Expr} (h : PE X e (tC v)) (r : ∀ Hs, Rp X.K Hs v c) : PE X e (tE X.K B (eC c)) := h.imp fun σ H Q ⟨ρ, s, Hs, d, s', ok, e, q⟩ => by
  cases e
  exact q v Hs H (Nx.refl ok) (r Hs)
theorem d_int {i : Int} {j pos} : PE X (.Constant (.int i) j pos) (tE X.K B (eC (.int i))) := d_const pe_int fun _ => .int i
theorem d_str {i : Str} {j pos} : PE X (.Constant (.str i) j pos) (tE X.K B (eC (.str i))) := d_const pe_str fun _ => .str i
theorem d_bl {i : Bool} {j pos} : PE X (.Constant (.bool i) j pos) (tE X.K B (eC (.bool i))) := d_const pe_bl fun _ => .bl i
theorem d_non {j pos} : PE X (.Constant .none j pos) (tE X.K B (eC .none)) := d_const pe_non fun _ => .non

/-! ### the rules for operators -/
/-- nothing is laid -/
theorem OpD.flat {f : Value → Value → Sem Value} {r : R2} (hr : OpR X f r) (h : ∀ (Hs H : Hp) (x y d : PD) (v u : V) (Q : VK), Ex Hs H → g x y = some d → Rp X.K Hs v x → Rp X.K Hs u y → (∀ w, Rp X.K Hs w d → Q w H) → r v u H Q) : OpD X B f g :=
  ⟨r, hr, fun ρ σ s Hs H x y d v u Q ok e rx ry q => h Hs H x y d v u Q ok.hk.sub e rx ry fun w rw => q w Hs H (Nx.refl ok) rw⟩
def intOp (h : Int → Int → Option PD) : PD → PD → Option PD
  | .int i, .int j => h i j
  | _, _ => none
theorem OpD.ints {f : Value → Value → Sem Value} {C : Int → Int → Prop} {h : Int → Int → Option PD} {k : Int → Int → V} (hr : OpR X f (rI C k)) (hh : ∀ i j d, h i j = some d → C i j ∧ ∀ Hs, Rp X.K Hs (k i j) d) : OpD X B f (intOp h) :=
  OpD.flat hr fun Hs H x y d v u Q ex e rx ry q => by
    cases rx <;> cases ry <;> first | cases e | skip
    rename_i i j
    obtain ⟨hc, hv⟩ := hh i j d e
    exact ⟨i, j, rfl, rfl, hc, q _ (hv Hs)⟩
theorem OpR.I0 {f : Value → Value → Sem Value} {k : Int → Int → V} (h : OpR X f (rI0 k)) : OpR X f (rI (fun _ _ => True) k) := by
  intro pins s σ H x y v u Q I rx ry q
  obtain ⟨i, j, e1, e2, _, q⟩ := q
  exact h pins s σ H x y v u Q I rx ry ⟨i, j, e1, e2, q⟩

/-- one of two rules, by the data -/
theorem OpD.or {f : Value → Value → Sem Value} (h : OpD X B f g) (h' : OpD X B f g') {k : PD → PD → Option PD} (hk : ∀ x y d, k x y = some d → g x y = some d ∨ g' x y = some d) : OpD X B f k := by
  obtain ⟨r, hr, q⟩ := h
  obtain ⟨r', hr', q'⟩ := h'
  refine ⟨_, OpR.or hr hr', fun ρ σ s Hs H x y d v u Q ok e rx ry z => ?_⟩
  rcases hk x y d e with e | e
  · exact .inl (q ρ σ s Hs H x y d v u Q ok e rx ry z)
  · exact .inr (q' ρ σ s Hs H x y d v u Q ok e rx ry z)
theorem OpD.imp {f : Value → Value → Sem Value} (h : OpD X B f g) (i : ∀ x y d, g' x y = some d → g x y = some d) : OpD X B f g' := by
  obtain ⟨r, hr, q⟩ := h
  exact ⟨r, hr, fun ρ σ s Hs H x y d v u Q ok e rx ry z => q ρ σ s Hs H x y d v u Q ok (i _ _ _ e) rx ry z⟩

/-! #### + -/
def addI : PD → PD → Option PD := intOp fun i j => some (.int (i + j))
def subI : PD → PD → Option PD := intOp fun i j => some (.int (i - j))
theorem od_addI : OpD X B (binaryOp .Add) addI := OpD.ints (OpR.I0 op_add) fun i j d e => by cases e; exact ⟨trivial, fun _ => .int _⟩
theorem od_sub : OpD X B (binaryOp .Sub) subI := OpD.ints (OpR.I0 op_sub) fun i j d e => by cases e; exact ⟨trivial, fun _ => .int _⟩
def addS : PD → PD → Option PD
  | .str i, .str j => if i.length + j.length ≤ LIM then some (.str (i ++ j)) else none
  | _, _ => none
theorem od_addS : OpD X B (binaryOp .Add) addS := OpD.flat op_add_str fun Hs H x y d v u Q ex e rx ry q => by
  cases rx <;> cases ry <;> first | (simp only [addS] at e; done) | cases e | skip
  rename_i i j
  simp only [addS] at e
  split at e
  · rename_i hl
    cases e
    exact ⟨i, j, rfl, rfl, Nat.le_trans hl lim_line, q _ (.str _)⟩
  · cases e
def addL : PD → PD → Option PD
  | .list i, .list j => if i.length + j.length ≤ LIM then some (.list (i ++ j)) else none
  | _, _ => none
theorem od_addL : OpD X B (binaryOp .Add) addL := ⟨_, op_cat, fun ρ σ s Hs H x y d v u Q ok e rx ry q => by
  cases rx <;> cases ry <;> first | (simp only [addL] at e; done) | cases e | skip
  rename_i a xs ds ha hs b ys es hb ht
  simp only [addL] at e
  split at e
  · rename_i hl
    cases e
    refine ⟨a, b, xs, ys, rfl, rfl, ok.hk.sub _ _ ha, ok.hk.sub _ _ hb, Nat.le_trans (by rw [hs.length, ht.length]; exact hl) lim_line, fun p hp => ?_⟩
    have n := ok.laid (o := .lst (xs ++ ys)) hp
    exact q _ _ _ n (.lst upd_same ((hs.append ht).mono n.ex))
  · cases e⟩
def addT : PD → PD → Option PD
  | .tuple i, .tuple j => if i.length + j.length ≤ LIM then some (.tuple (i ++ j)) else none
  | _, _ => none
theorem ok_t {K : PySem.W.Frag} {H H' : Hp} {a : Addr} {xs : List V} (e : Ex H H') (h : SqT K H a xs) : SqT K H' a xs := ex_t e h
theorem app_nil_l {α : Type} {xs ys : List α} (h : xs = []) : xs ++ ys = ys := by rw [h]; rfl
theorem od_addT : OpD X B (binaryOp .Add) addT := ⟨_, op_catA, fun ρ σ s Hs H x y d v u Q ok e rx ry q => by
  cases rx <;> cases ry <;> first | (simp only [addT] at e; done) | cases e | skip
  rename_i a xs ds ha hs b ys es hb ht
  simp only [addT] at e
  split at e
  · rename_i hl
    cases e
    have hz : xs.length + ys.length ≤ sizeLine := Nat.le_trans (by rw [hs.length, ht.length]; exact hl) lim_line
    refine ⟨a, b, xs, ys, rfl, rfl, ok_t ok.hk.sub ha, ok_t ok.hk.sub hb, hz, fun h => ?_, fun _ h => ?_, fun _ _ p hp => ?_⟩
    · subst h
      cases hs
      exact q _ _ _ (Nx.refl ok) (.tup hb ht)
    · subst h
      cases ht
      rw [List.append_nil] at q
      exact q _ _ _ (Nx.refl ok) (.tup ha hs)
    · have n := ok.laid (o := .tup (xs ++ ys)) hp
      exact q _ _ _ n (.tup (SqT.of upd_same) ((hs.append ht).mono n.ex))
  · cases e⟩

/-- + -/
def addD (x y : PD) : Option PD := match x, y with
  | .int i, .int j => some (.int (i + j))
  | .str i, .str j => if i.length + j.length ≤ LIM then some (.str (i ++ j)) else none
  | .list i, .list j => if i.length + j.length ≤ LIM then some (.list (i ++ j)) else none
  | .tuple i, .tuple j => if i.length + j.length ≤ LIM then some (.tuple (i ++ j)) else none
  | _, _ => none
theorem od_add : OpD X B (binaryOp .Add) addD :=
  OpD.or (OpD.or (k := fun x y => match x, y with | .int i, .int j => some (.int (i + j)) | .str i, .str j => if i.length + j.length ≤ LIM then some (.str (i ++ j)) else none | _, _ => none) od_addI od_addS fun x y d e => by
      cases x <;> cases y <;> first | exact .inl e | exact .inr e | cases e)
    (OpD.or (k := fun x y => match x, y with | .list i, .list j => if i.length + j.length ≤ LIM then some (.list (i ++ j)) else none | .tuple i, .tuple j => if i.length + j.length ≤ LIM then some (.tuple (i ++ j)) else none | _, _ => none) od_addL od_addT fun x y d e => by
      cases x <;> cases y <;> first | exact .inl e | exact .inr e | cases e) fun x y d e => by
    cases x <;> cases y <;> first | exact .inl e | exact .inr e | cases e

/-! #### * -/
abbrev B64 : Nat := 18446744073709551616
def mulI : PD → PD → Option PD := intOp fun i j => if i.natAbs < B64 ∨ j.natAbs < B64 then some (.int (i * j)) else none
theorem od_mulI : OpD X B (binaryOp .Mult) mulI := OpD.ints op_mul fun i j d e => by
  split at e
  · rename_i h
    cases e
    refine ⟨?_, fun _ => .int _⟩
    have h64 : (2 : Int) ^ 64 = 18446744073709551616 := by decide
    have hb : B64 = 18446744073709551616 := rfl
    show (-(2 ^ 64) < i ∧ i < 2 ^ 64) ∨ (-(2 ^ 64) < j ∧ j < 2 ^ 64)
    rw [h64]
    rcases h with h | h
    · left; omega
    · right; omega
  · cases e
/-- a text gone several times -/
def repS (x : Str) (n : Int) : Str := ⟨((List.replicate n.toNat x.cps.toList).flatten).toArray⟩
theorem repS_length (x : Str) (n : Int) : (repS x n).length = x.length * n.toNat := by
  obtain ⟨⟨l⟩⟩ := x
  show ((List.replicate n.toNat l).flatten).toArray.size = l.toArray.size * n.toNat
  simp [Nat.mul_comm]
theorem fold_app (c : Array Nat) : ∀ (n : Nat) (a : Array Nat), (List.replicate n c).foldl (· ++ ·) a = a ++ ((List.replicate n c.toList).flatten).toArray
  | 0, a => by simp
  | n + 1, a => by
    rw [List.replicate_succ, List.foldl_cons, fold_app c n, List.replicate_succ, List.flatten_cons]
    apply Array.toList_inj.mp
    simp
def mulS : PD → PD → Option PD
  | .str x, .int n => if x.length * n.toNat ≤ LIM ∧ n.natAbs < 1000000000 then some (.str (repS x n)) else none
  | _, _ => none
theorem op_mulS : OpR X (binaryOp .Mult) (fun x y H Q => ∃ z n, x = .str z ∧ y = .int n ∧ z.length * n.toNat ≤ LIM ∧ n.natAbs < 1000000000 ∧ Q (.str (repS z n)) H) := by
  intro pins s σ H x y v u Q I rx ry h
  obtain ⟨z, n, rfl, rfl, h1, h2, q⟩ := h
  obtain ⟨t, rfl⟩ := rx
  obtain ⟨t', rfl⟩ := ry
  have hs : sizeLine = 16777216 := sizeLine_eq
  have e0 : (⟨(List.replicate n.toNat z.cps).foldl (· ++ ·) #[]⟩ : Str) = repS z n := by
    unfold repS
    rw [fold_app]
    simp
  refine PySem.P.mul_str ?_ ?_ ?_ ?_
  · have a1 : decide (n < -(2 ^ 63 : Int)) = false := decide_eq_false (by omega)
    have a2 : decide (n ≥ 2 ^ 63) = false := decide_eq_false (by omega)
    rw [a1, a2]; rfl
  · intro hn _
    have hn1 : 1 ≤ n := by omega
    have hn2 : ((n.toNat : Nat) : Int) = n := Int.toNat_of_nonneg (by omega)
    intro hgt
    have h3 : ((z.length : Int)) * n ≤ (LIM : Int) := by
      rw [← hn2]
      exact_mod_cast h1
    have h4 : (2 ^ 63 - 1 : Int) / n * n + (2 ^ 63 - 1 : Int) % n = (2 ^ 63 - 1 : Int) := by
      rw [Int.mul_comm]; exact Int.mul_ediv_add_emod _ _
    have h5 : (2 ^ 63 - 1 : Int) % n < n := Int.emod_lt_of_pos _ (by omega)
    have h6 : ((2 ^ 63 - 1 : Int) / n + 1) * n ≤ (z.length : Int) * n := Int.mul_le_mul_of_nonneg_right (by omega) (by omega)
    rw [Int.add_mul, Int.one_mul] at h6
    have h7 : (LIM : Int) = 1000000 := rfl
    omega
  · intro hn _
    unfold Builtin.Str.tooLong
    exact decide_eq_false (by have : LIM = 1000000 := rfl; omega)
  · by_cases hn : n < 1
    · rw [if_pos hn]
      have e1 : n.toNat = 0 := by omega
      have e2 : repS z n = Str.empty := by unfold repS; rw [e1]; rfl
      rw [e2] at q
      exact ⟨by decide, .str Str.empty, H, I.tok _, ⟨_, rfl⟩, q⟩
    · rw [if_neg hn]
      by_cases hm : (n == 1 || z.length == 0) = true
      · rw [if_pos hm]
        have e2 : repS z n = z := by
          rw [Bool.or_eq_true] at hm
          obtain ⟨⟨l⟩⟩ := z
          rcases hm with hm | hm
          · have : n = 1 := by simpa using hm
            subst this
            show (⟨((List.replicate 1 l).flatten).toArray⟩ : Str) = ⟨⟨l⟩⟩
            simp
          · have : l = [] := by
              have h3 : l.length = 0 := by simpa [Str.length] using hm
              exact List.eq_nil_of_length_eq_zero h3
            subst this
            show (⟨((List.replicate n.toNat ([] : List Nat)).flatten).toArray⟩ : Str) = ⟨⟨[]⟩⟩
            simp
        rw [e2] at q
        exact ⟨.str z, H, I, ⟨_, rfl⟩, q⟩
      · rw [if_neg hm, e0]
        refine ⟨?_, .str _, H, I.tok _, ⟨_, rfl⟩, q⟩
        rw [repS_length]
        have : LIM = 1000000 := rfl
        omega

theorem od_mulS : OpD X B (binaryOp .Mult) mulS := OpD.flat op_mulS fun Hs H x y d v u Q ex e rx ry q => by
  cases rx <;> cases ry <;> first | (simp only [mulS] at e; done) | cases e | skip
  rename_i z n
  simp only [mulS] at e
  split at e
  · rename_i hl
    cases e
    exact ⟨z, n, rfl, rfl, hl.1, hl.2, q _ (.str _)⟩
  · cases e
def mulL : PD → PD → Option PD
  | .list x, .int n => if x.length * n.toNat ≤ LIM ∧ n.natAbs < 1000000000 then some (.list (List.replicate n.toNat x).flatten) else none
  | _, _ => none
theorem RpAll.rep {K : PySem.W.Frag} {H : Hp} {vs : List V} {ds : List PD} (h : RpAll K H vs ds) : ∀ n : Nat, RpAll K H (List.replicate n vs).flatten (List.replicate n ds).flatten
  | 0 => .nil
  | n + 1 => by
    rw [List.replicate_succ, List.replicate_succ, List.flatten_cons, List.flatten_cons]
    exact h.append (RpAll.rep h n)
theorem od_mulL : OpD X B (binaryOp .Mult) mulL := ⟨_, op_rep, fun ρ σ s Hs H x y d v u Q ok e rx ry q => by
  cases rx <;> cases ry <;> first | (simp only [mulL] at e; done) | cases e | skip
  rename_i a xs ds ha hs n
  simp only [mulL] at e
  split at e
  · rename_i hl
    cases e
    obtain ⟨h1, h2⟩ := hl
    have e63 : (2 : Int) ^ 63 = 9223372036854775808 := by decide
    refine ⟨a, n, xs, rfl, rfl, ok.hk.sub _ _ ha, by omega, by omega, Nat.le_trans (by rw [hs.length]; exact h1) lim_line, fun p hp => ?_⟩
    have nn := ok.laid (o := .lst (List.replicate n.toNat xs).flatten) hp
    exact q _ _ _ nn (.lst upd_same ((hs.rep _).mono nn.ex))
  · cases e⟩
def mulD (x y : PD) : Option PD := match x, y with
  | .int i, .int j => if i.natAbs < B64 ∨ j.natAbs < B64 then some (.int (i * j)) else none
  | .str x, .int n => if x.length * n.toNat ≤ LIM ∧ n.natAbs < 1000000000 then some (.str (repS x n)) else none
  | .list x, .int n => if x.length * n.toNat ≤ LIM ∧ n.natAbs < 1000000000 then some (.list (List.replicate n.toNat x).flatten) else none
  | _, _ => none
theorem od_mul : OpD X B (binaryOp .Mult) mulD :=
  OpD.or od_mulI (OpD.or (k := fun x y => match x, y with | .str x, .int n => if x.length * n.toNat ≤ LIM ∧ n.natAbs < 1000000000 then some (.str (repS x n)) else none | .list x, .int n => if x.length * n.toNat ≤ LIM ∧ n.natAbs < 1000000000 then some (.list (List.replicate n.toNat x).flatten) else none | _, _ => none) od_mulS od_mulL fun x y d e => by
      cases x <;> cases y <;> first | exact .inl e | exact .inr e | cases e) fun x y d e => by
    cases x <;> cases y <;> first | exact .inl e | exact .inr e | cases e

/-! #### //, %, ** -/
def fdivD : PD → PD → Option PD := intOp fun i j => if 0 < j ∧ j < 1073741824 then some (.int (i / j)) else none
theorem od_fdiv : OpD X B (binaryOp .FloorDiv) fdivD := OpD.ints op_fdiv fun i j d e => by
  split at e
  · rename_i h
    cases e
    exact ⟨h, fun _ => .int _⟩
  · cases e
def modD : PD → PD → Option PD := intOp fun i j => if 0 < j then some (.int (i % j)) else none
theorem od_mod : OpD X B (binaryOp .Mod) modD := OpD.ints op_mod fun i j d e => by
  split at e
  · rename_i h
    cases e
    exact ⟨h, fun _ => .int _⟩
  · cases e
def powD : PD → PD → Option PD := intOp fun i j => if 0 ≤ j ∧ j ≤ 1000000 ∧ i.natAbs < B64 then some (.int (i ^ j.toNat)) else none
theorem od_pow : OpD X B (binaryOp .Pow) powD := OpD.ints op_pow fun i j d e => by
  split at e
  · rename_i h
    cases e
    refine ⟨⟨h.1, h.2.1, ?_⟩, fun _ => .int _⟩
    have hb : B64 = 2 ^ 64 := by decide
    rw [← hb]
    exact h.2.2
  · cases e

/-! #### order -/
def ltD (x y : PD) : Option PD := match x, y with
  | .int i, .int j => some (.bool (decide (i < j)))
  | .str i, .str j => some (.bool (decide (i.cps.toList < j.cps.toList)))
  | _, _ => none
def leD (x y : PD) : Option PD := match x, y with
  | .int i, .int j => some (.bool (decide (i ≤ j)))
  | .str i, .str j => some (.bool (!decide (j.cps.toList < i.cps.toList)))
  | _, _ => none
def gtD (x y : PD) : Option PD := ltD y x
def geD (x y : PD) : Option PD := leD y x
def strOp (h : Str → Str → PD) : PD → PD → Option PD
  | .str i, .str j => some (h i j)
  | _, _ => none
theorem OpD.strs {f : Value → Value → Sem Value} {k : Str → Str → V} {h : Str → Str → PD} (hr : OpR X f (fun x y H Q => ∃ i j, x = .str i ∧ y = .str j ∧ Q (k i j) H)) (hh : ∀ i j Hs, Rp X.K Hs (k i j) (h i j)) : OpD X B f (strOp h) :=
  OpD.flat hr fun Hs H x y d v u Q ex e rx ry q => by
    cases rx <;> cases ry <;> first | cases e | skip
    all_goals exact ⟨_, _, rfl, rfl, q _ (hh _ _ _)⟩
theorem od_ltI : OpD X B (compareOp .Lt) (intOp fun i j => some (.bool (decide (i < j)))) := OpD.ints (OpR.I0 op_lt) fun i j d e => by cases e; exact ⟨trivial, fun _ => .bl _⟩
theorem od_leI : OpD X B (compareOp .LtE) (intOp fun i j => some (.bool (decide (i ≤ j)))) := OpD.ints (OpR.I0 op_le) fun i j d e => by cases e; exact ⟨trivial, fun _ => .bl _⟩
theorem od_gtI : OpD X B (compareOp .Gt) (intOp fun i j => some (.bool (decide (j < i)))) := OpD.ints (OpR.I0 op_gt) fun i j d e => by cases e; exact ⟨trivial, fun _ => .bl _⟩
theorem od_geI : OpD X B (compareOp .GtE) (intOp fun i j => some (.bool (decide (j ≤ i)))) := OpD.ints (OpR.I0 op_ge) fun i j d e => by cases e; exact ⟨trivial, fun _ => .bl _⟩
theorem od_lt : OpD X B (compareOp .Lt) ltD := OpD.or od_ltI (OpD.strs (h := fun i j => .bool (decide (i.cps.toList < j.cps.toList))) op_lt_str fun _ _ _ => .bl _) fun x y d e => by
  cases x <;> cases y <;> first | exact .inl e | exact .inr e | cases e
theorem od_le : OpD X B (compareOp .LtE) leD := OpD.or od_leI (OpD.strs (h := fun i j => .bool (!decide (j.cps.toList < i.cps.toList))) op_le_str fun _ _ _ => .bl _) fun x y d e => by
  cases x <;> cases y <;> first | exact .inl e | exact .inr e | cases e
theorem od_gt : OpD X B (compareOp .Gt) gtD := OpD.or od_gtI (OpD.strs (h := fun i j => .bool (decide (j.cps.toList < i.cps.toList))) op_gt_str fun _ _ _ => .bl _) fun x y d e => by
  cases x <;> cases y <;> first | exact .inl e | exact .inr e | cases e
theorem od_ge : OpD X B (compareOp .GtE) geD := OpD.or od_geI (OpD.strs (h := fun i j => .bool (!decide (i.cps.toList < j.cps.toList))) op_ge_str fun _ _ _ => .bl _) fun x y d e => by
  cases x <;> cases y <;> first | exact .inl e | exact .inr e | cases e

/-! #### ==, != -/
def flatP (d : PD) : Bool := d.plain && decide (d.depth ≤ 60)
def eqD (x y : PD) : Option PD := if flatP x && flatP y then some (.bool (PyData.eqv x y)) else none
def neD (x y : PD) : Option PD := if flatP x && flatP y then some (.bool (!PyData.eqv x y)) else none
theorem od_eq (hu : X.A.units + 64 < cLine) : OpD X B (compareOp .Eq) eqD := by
  refine ⟨fun x y H Q => ∃ d e, Rp X.K H x d ∧ Rp X.K H y e ∧ flatP d = true ∧ flatP e = true ∧ Q (.bl (PyData.eqv d e)) H, ?_, fun ρ σ s Hs H x y d v u Q ok e rx ry q => ?_⟩
  · intro pins s σ H x y v u Q I rx ry h
    obtain ⟨d, e, hd, he, p1, p2, q⟩ := h
    obtain ⟨p1, l1⟩ := Bool.and_eq_true_iff.mp p1
    obtain ⟨p2, l2⟩ := Bool.and_eq_true_iff.mp p2
    obtain ⟨as, r1⟩ := Rp.reads I d x v hd rx p1
    obtain ⟨bs, r2⟩ := Rp.reads I e y u he ry p2
    have l1' := of_decide_eq_true l1
    exact PySem.SeqAt.eq_plain r1 r2 p1 p2 (by omega) ⟨.bl _, H, I, rfl, q⟩
  · unfold eqD at e
    split at e
    · rename_i h
      cases e
      obtain ⟨p1, p2⟩ := Bool.and_eq_true_iff.mp h
      exact ⟨x, y, rx.mono ok.hk.sub, ry.mono ok.hk.sub, p1, p2, q _ _ _ (Nx.refl ok) (.bl _)⟩
    · cases e
theorem od_ne (hu : X.A.units + 64 < cLine) : OpD X B (compareOp .NotEq) neD := by
  refine ⟨fun x y H Q => ∃ d e, Rp X.K H x d ∧ Rp X.K H y e ∧ flatP d = true ∧ flatP e = true ∧ Q (.bl (!PyData.eqv d e)) H, ?_, fun ρ σ s Hs H x y d v u Q ok e rx ry q => ?_⟩
  · intro pins s σ H x y v u Q I rx ry h
    obtain ⟨d, e, hd, he, p1, p2, q⟩ := h
    obtain ⟨p1, l1⟩ := Bool.and_eq_true_iff.mp p1
    obtain ⟨p2, l2⟩ := Bool.and_eq_true_iff.mp p2
    obtain ⟨as, r1⟩ := Rp.reads I d x v hd rx p1
    obtain ⟨bs, r2⟩ := Rp.reads I e y u he ry p2
    have l1' := of_decide_eq_true l1
    exact PySem.SeqAt.ne_plain r1 r2 p1 p2 (by omega) ⟨.bl _, H, I, rfl, q⟩
  · unfold neD at e
    split at e
    · rename_i h
      cases e
      obtain ⟨p1, p2⟩ := Bool.and_eq_true_iff.mp h
      exact ⟨x, y, rx.mono ok.hk.sub, ry.mono ok.hk.sub, p1, p2, q _ _ _ (Nx.refl ok) (.bl _)⟩
    · cases e
end
end DL

/-! DL3: in, subscripts, tests, calls -/
namespace DL
open PySem PySem.Spec PyProof.Rows L2 Evl
section
variable {X : Cx} {B : Base} {a b c : Expr} {pos : Pos} {f1 f2 f3 : DE} {g g' : PD → PD → Option PD}

/-! ### in -/
def flatA (ds : List PD) : Bool := PyData.plainAll ds && decide (PyData.depthAll ds ≤ 58)
def hasS (i j : Str) : Bool := !(Builtin.Str.occurrences j i 0 j.length 1).isEmpty
def inD (x y : PD) : Option PD := match y with
  | .list ds => if flatP x && flatA ds then some (.bool (ds.any fun z => PyData.eqv z x)) else none
  | .tuple ds => if flatP x && flatA ds then some (.bool (ds.any fun z => PyData.eqv z x)) else none
  | .str j => match x with
    | .str ⟨⟨[c]⟩⟩ => some (.bool (decide (c ∈ j.cps.toList)))
    | .str i => some (.bool (hasS i j))
    | _ => none
  | _ => none
def notInD (x y : PD) : Option PD := match inD x y with
  | some (.bool b) => some (.bool (!b))
  | _ => none
theorem in_seq_run {neg : Bool} (hu : X.A.units + 64 < cLine) : OpR X (compareOp (if neg then .NotIn else .In)) (fun x y H Q => ∃ d e ds, Rp X.K H x d ∧ Rp X.K H y e ∧ seqOf e = some ds ∧ flatP d = true ∧ flatA ds = true ∧ Q (.bl (if neg then !(ds.any fun z => PyData.eqv z d) else ds.any fun z => PyData.eqv z d)) H) := by
  intro pins s σ H x y v u Q I rx ry h
  obtain ⟨d, e, ds, hd, he, hs, p1, p2, q⟩ := h
  obtain ⟨p1, l1⟩ := Bool.and_eq_true_iff.mp p1
  obtain ⟨p2, l2⟩ := Bool.and_eq_true_iff.mp p2
  have l1' := of_decide_eq_true l1
  obtain ⟨as, r1⟩ := Rp.reads I d x v hd rx p1
  cases e <;> first | cases hs | skip
  · obtain ⟨bs, r2⟩ := Rp.reads I _ y u he ry (by simpa [PyData.plain] using p2)
    cases neg with
    | true => exact PySem.SeqAt.notIn_list_data r2 r1 p2 p1 (by omega) ⟨.bl _, H, I, rfl, q⟩
    | false => exact PySem.SeqAt.in_list_data r2 r1 p2 p1 (by omega) ⟨.bl _, H, I, rfl, q⟩
  · obtain ⟨bs, r2⟩ := Rp.reads I _ y u he ry (by simpa [PyData.plain] using p2)
    cases neg with
    | true => exact PySem.SeqAt.notIn_tuple_data r2 r1 p2 p1 (by omega) ⟨.bl _, H, I, rfl, q⟩
    | false => exact PySem.SeqAt.in_tuple_data r2 r1 p2 p1 (by omega) ⟨.bl _, H, I, rfl, q⟩
def inSeqD (neg : Bool) (x y : PD) : Option PD := match seqOf y with
  | some ds => if flatP x && flatA ds then some (.bool (if neg then !(ds.any fun z => PyData.eqv z x) else ds.any fun z => PyData.eqv z x)) else none
  | none => none
theorem od_inSeq {neg : Bool} (hu : X.A.units + 64 < cLine) : OpD X B (compareOp (if neg then .NotIn else .In)) (inSeqD neg) :=
  ⟨_, in_seq_run (neg := neg) hu, fun ρ σ s Hs H x y d v u Q ok e rx ry q => by
    unfold inSeqD at e
    split at e
    · rename_i ds hs
      split at e
      · rename_i h
        cases e
        obtain ⟨p1, p2⟩ := Bool.and_eq_true_iff.mp h
        exact ⟨x, y, ds, rx.mono ok.hk.sub, ry.mono ok.hk.sub, hs, p1, p2, q _ _ _ (Nx.refl ok) (.bl _)⟩
      · cases e
    · cases e⟩
def inStrD (neg : Bool) (x y : PD) : Option PD := match x, y with
  | .str ⟨⟨[c]⟩⟩, .str j => some (.bool (if neg then !decide (c ∈ j.cps.toList) else decide (c ∈ j.cps.toList)))
  | .str i, .str j => some (.bool (if neg then !(hasS i j) else hasS i j))
  | _, _ => none
theorem op_in_strX {neg : Bool} : OpR X (compareOp (if neg then .NotIn else .In)) (fun x y H Q => (∃ i j, x = .str i ∧ y = .str j ∧ Q (.bl (if neg then !(hasS i j) else hasS i j)) H) ∨ ∃ (c : Nat) (j : Str), x = .str ⟨#[c]⟩ ∧ y = .str j ∧ Q (.bl (if neg then !decide (c ∈ j.cps.toList) else decide (c ∈ j.cps.toList))) H) := by
  cases neg with
  | false => exact OpR.or op_in_str op_in_sign
  | true => exact OpR.or op_notin_str op_notIn_sign
theorem od_inStr {neg : Bool} : OpD X B (compareOp (if neg then .NotIn else .In)) (inStrD neg) :=
  OpD.flat (op_in_strX (neg := neg)) fun Hs H x y d v u Q ex e rx ry q => by
    unfold inStrD at e
    split at e
    · cases rx
      cases ry
      cases e
      exact .inr ⟨_, _, rfl, rfl, q _ (.bl _)⟩
    · cases rx
      cases ry
      cases e
      exact .inl ⟨_, _, rfl, rfl, q _ (.bl _)⟩
    · cases e
theorem od_in (hu : X.A.units + 64 < cLine) : OpD X B (compareOp .In) inD := OpD.or (od_inSeq (neg := false) hu) (od_inStr (neg := false)) fun x y d e => by
  cases y <;> first | exact .inl e | skip
  cases x <;> first | (cases e; done) | skip
  rename_i j i
  right
  show inStrD false _ _ = _
  rw [← e]
  unfold inD inStrD
  obtain ⟨⟨l⟩⟩ := i
  match l with
  | [] => rfl
  | [c] => rfl
  | _ :: _ :: _ => rfl
theorem od_notIn (hu : X.A.units + 64 < cLine) : OpD X B (compareOp .NotIn) notInD := OpD.or (od_inSeq (neg := true) hu) (od_inStr (neg := true)) fun x y d e => by
  unfold notInD at e
  split at e
  · rename_i b h
    cases e
    cases y <;> first | (cases h; done) | skip
    · cases x <;> first | (cases h; done) | skip
      rename_i j i
      right
      unfold inD at h
      unfold inStrD
      obtain ⟨⟨l⟩⟩ := i
      match l with
      | [] => cases h; rfl
      | [c] => cases h; rfl
      | _ :: _ :: _ => cases h; rfl
    · left
      unfold inD at h
      unfold inSeqD
      dsimp only [seqOf] at h ⊢
      split at h
      · cases h; rw [if_pos (by assumption)]; rfl
      · cases h
    · left
      unfold inD at h
      unfold inSeqD
      dsimp only [seqOf] at h ⊢
      split at h
      · cases h; rw [if_pos (by assumption)]; rfl
      · cases h
  · cases e

/-! ### is None -/
def isNonB : PD → Bool
  | .none => true
  | _ => false
def isNonD (f : DE) : DE := fun ρ => (f ρ).bnd fun x => M.ret (.bool (isNonB x))
def notNonD (f : DE) : DE := fun ρ => (f ρ).bnd fun x => M.ret (.bool (!isNonB x))
theorem Rp.non_iff {K : PySem.W.Frag} {H : Hp} {v : V} {x : PD} (h : Rp K H v x) : decide (v = .non) = isNonB x := by
  cases h <;> rfl
theorem _root_.L2.PC.imp {X : Cx} {op : CmpOp} {a b : Expr} {t t' : TE} (h : PC X op a b t) (i : ∀ σ H Q, t' σ H Q → t σ H Q) : PC X op a b t' := ⟨fun pins s σ H Q I q => h.run pins s σ H Q I (i _ _ _ q)⟩
theorem pcR {op : CmpOp} {r : R2} {ta tb : TE} (ho : OpR X (compareOp op) r) (ha : PE X a ta) (hb : PE X b tb) : PC X op a b (tOp r ta tb) := ⟨fun pins s σ H Q I h => binT ha hb I h fun v u s2 x y H2 I2 rx ry q => ho pins s2 σ H2 x y v u Q I2 rx ry q⟩
theorem pc_isNonD {j pos'} (ha : PE X a (tE X.K B f1)) : PC X .Is a (.Constant .none j pos') (tE X.K B (isNonD f1)) := (pc_isN ha).imp fun σ H Q ⟨ρ, s, Hs, d, s', ok, e, q⟩ => by
  obtain ⟨x, s1, e1, e2⟩ := M.bnd_some e
  cases e2
  exact ⟨ρ, s, Hs, x, _, ok, e1, fun v Hs1 H1 n1 r1 => by
    show Q (.bl (decide (v = .non))) H1
    rw [r1.non_iff]; exact q _ Hs1 H1 n1 (.bl _)⟩
theorem d_isNon {j pos'} (ha : PE X a (tE X.K B f1)) : PE X (.Compare a [.Is] [.Constant .none j pos'] pos) (tE X.K B (isNonD f1)) := pe_cmp (pc_isNonD ha)
theorem pc_notNonD {j pos'} (ha : PE X a (tE X.K B f1)) : PC X .IsNot a (.Constant .none j pos') (tE X.K B (notNonD f1)) := (pc_notN ha).imp fun σ H Q ⟨ρ, s, Hs, d, s', ok, e, q⟩ => by
  obtain ⟨x, s1, e1, e2⟩ := M.bnd_some e
  cases e2
  refine ⟨ρ, s, Hs, x, _, ok, e1, fun v Hs1 H1 n1 r1 => ?_⟩
  show Q (.bl (!decide (v = .non))) H1
  rw [r1.non_iff]
  exact q _ Hs1 H1 n1 (.bl _)

/-! ### tests -/
/-- a value that is a bool, as a test -/
def bOf (f : DE) : DB := fun ρ s => match f ρ s with
  | some (.bool b, s') => some (b, s')
  | _ => none
theorem tB_of {σ : Sg} {H : Hp} {Q : Bool → Hp → Prop} (h : tB X.K B (bOf f1) σ H Q) : L2.tB (tE X.K B f1) σ H Q := by
  obtain ⟨ρ, s, Hs, b, s', ok, e, q⟩ := h
  unfold bOf at e
  split at e
  · rename_i b' s1 h1
    cases e
    refine ⟨ρ, s, Hs, .bool b, s', ok, h1, fun v Hs1 H1 n1 r1 => ?_⟩
    cases r1
    exact ⟨b, rfl, q Hs1 H1 n1⟩
  · cases e
theorem t_pc {op : CmpOp} (h : PC X op a b (tE X.K B f1)) (hm : behindInMarks op b = false) : PT X (.Compare a [op] [b] pos) (tB X.K B (bOf f1)) := (pt_cmp h hm).imp fun _ _ _ => tB_of
theorem d_notNon {j pos'} (ha : PE X a (tE X.K B f1)) : PE X (.Compare a [.IsNot] [.Constant .none j pos'] pos) (tE X.K B (notNonD f1)) := pe_cmp (pc_notNonD ha)
theorem t_isNon {j pos'} (ha : PE X a (tE X.K B f1)) : PT X (.Compare a [.Is] [.Constant .none j pos'] pos) (tB X.K B (bOf (isNonD f1))) := t_pc (pc_isNonD ha) (by rfl)
theorem t_notNon {j pos'} (ha : PE X a (tE X.K B f1)) : PT X (.Compare a [.IsNot] [.Constant .none j pos'] pos) (tB X.K B (bOf (notNonD f1))) := t_pc (pc_notNonD ha) (by rfl)
theorem t_val {e : Expr} (h : PE X e (tE X.K B f1)) (he : ∀ whole, isTrue e X.env whole = (do let v ← whole; standAt e.pos; holding [v] (truthy v)) := by intro _; rfl) : PT X e (tB X.K B (bOf f1)) := (pt_val h he).imp fun _ _ _ => tB_of
/-- a value's truth -/
def truD : PD → Option Bool
  | .none => some false
  | .bool b => some b
  | .int i => some (i != 0)
  | .str x => if x.length ≤ LIM then some ((x.length : Int) != 0) else none
  | .list xs => some (!xs.isEmpty)
  | .tuple xs => some (!xs.isEmpty)
  | .dict _ => none
def bTru (f : DE) : DB := fun ρ => (f ρ).bnd fun x => M.lift (truD x)
theorem RpAll.isEmpty {K : PySem.W.Frag} {H : Hp} {vs : List V} {ds : List PD} (h : RpAll K H vs ds) : ds.isEmpty = vs.isEmpty := by cases h <;> rfl
theorem tru_of {K : PySem.W.Frag} {H : Hp} {v : V} {x : PD} {k : Bool} (r : Rp K H v x) (h : truD x = some k) : TruV K v H k := by
  cases r with
  | non => cases h; rfl
  | bl b => cases h; rfl
  | int i => cases h; rfl
  | str x =>
    unfold truD at h
    dsimp only at h
    split at h
    · cases h; exact ⟨Nat.le_trans (by assumption) lim_line, rfl⟩
    · cases h
  | lst ha hs => cases h; exact .inl ⟨_, SqL.of ha, by rw [hs.isEmpty]⟩
  | tup ha hs => cases h; exact .inr (.inl ⟨_, ha, by rw [hs.isEmpty]⟩)
  | dct _ _ _ => cases h
theorem t_tru {e : Expr} (h : PE X e (tE X.K B f1)) (he : ∀ whole, isTrue e X.env whole = (do let v ← whole; standAt e.pos; holding [v] (truthy v)) := by intro _; rfl) : PT X e (tB X.K B (bTru f1)) := (pt_truth h he).imp fun σ H Q ⟨ρ, s, Hs, b, s', ok, e, q⟩ => by
  obtain ⟨x, s1, e1, e2⟩ := M.bnd_some e
  obtain ⟨e3, rfl⟩ := M.lift_some e2
  exact ⟨ρ, s, Hs, x, _, ok, e1, fun v Hs1 H1 n1 r1 => ⟨b, tru_of (r1.mono n1.ok.hk.sub) e3, q Hs1 H1 n1⟩⟩
/-- the truth of an own list -/
def qVar (i : Nat) : DT := fun ρ s => match rget ρ i with
  | some (.own xs) => some (xs, s)
  | some (.d x) => (match seqOf x with | some xs => some (xs, s) | none => none)
  | _ => none
theorem q_var (i : Nat) {x : Str} {pos : Pos} (hN : X.N[i]? = some x := by rfl) (hv : Vis X.env.scope x := by first | exact Or.inl rfl | exact Or.inr (Or.inl rfl) | exact Or.inr (Or.inr rfl)) (hd : (x == ("__debug__" : Str)) = false := by decide)
    (hcd : (x == ("__classdict__" : Str)) = false := by decide) : PE X (.Name x pos) (tQ X.K B (qVar i)) := (pe_var hN hv hd hcd).imp fun σ H Q ⟨ρ, s, Hs, d, s', ok, e, q⟩ => by
  unfold qVar at e
  cases h : rget ρ i with
  | none => rw [h] at e; cases e
  | some z =>
    rw [h] at e
    obtain ⟨v, h1, h2⟩ := ok.sl i _ h
    cases z with
    | d x =>
      dsimp only at e
      split at e
      · rename_i xs hx
        cases e
        exact ⟨v, h1, q v Hs H (Nx.refl ok) (.inl ⟨x, h2, hx⟩)⟩
      · cases e
    | p a => cases e
    | own xs =>
      cases e
      exact ⟨v, h1, q v Hs H (Nx.refl ok) (.inr ⟨i, h1, h⟩)⟩
def qOf (f : DE) : DT := fun ρ => (f ρ).bnd fun x => M.lift (seqOf x)
theorem q_of {e : Expr} (h : PE X e (tE X.K B f1)) : PE X e (tQ X.K B (qOf f1)) := h.imp fun σ H Q ⟨ρ, s, Hs, xs, s', ok, e, q⟩ => by
  obtain ⟨x, s1, e1, e2⟩ := M.bnd_some e
  obtain ⟨e3, rfl⟩ := M.lift_some e2
  exact ⟨ρ, s, Hs, x, _, ok, e1, fun v Hs1 H1 n1 r1 => q v Hs1 H1 n1 (.inl ⟨x, r1, e3⟩)⟩
/-- what a sequence's value is -/
theorem TV.sq {ρ : Rho} {σ : Sg} {s : SS} {Hs H : Hp} {v : V} {xs : List PD} (ok : Ok X.K B ρ σ s Hs H) (t : TV X.K ρ σ Hs v xs) : ∃ p vs, v = .ref p ∧ (H p = some (.lst vs) ∨ SqT X.K H p vs) ∧ RpAll X.K Hs vs xs := by
  rcases t with ⟨d, r, e⟩ | ⟨i, h1, h2⟩
  · cases r <;> first | (cases e; done) | skip
    · cases e
      rename_i a vs ha hs
      exact ⟨a, vs, rfl, .inl (ok.hk.sub _ _ ha), hs⟩
    · cases e
      rename_i a vs ha hs
      exact ⟨a, vs, rfl, .inr (ex_t ok.hk.sub ha), hs⟩
  · obtain ⟨v', h3, a, vs, h4, h5, _, _, _, h6⟩ := ok.sl i _ h2
    rw [h1] at h3
    cases h3
    exact ⟨a, vs, h4, .inl h5, h6⟩
theorem TV.mono {ρ : Rho} {σ : Sg} {Hs Hs' : Hp} {v : V} {xs : List PD} (t : TV X.K ρ σ Hs v xs) (e : Ex Hs Hs') : TV X.K ρ σ Hs' v xs := by
  rcases t with ⟨d, r, h⟩ | h
  · exact .inl ⟨d, r.mono e, h⟩
  · exact .inr h
def bTruQ (f : DT) : DB := fun ρ => (f ρ).bnd fun xs => M.ret (!xs.isEmpty)
theorem t_truQ {e : Expr} {f : DT} (h : PE X e (tQ X.K B f)) (he : ∀ whole, isTrue e X.env whole = (do let v ← whole; standAt e.pos; holding [v] (truthy v)) := by intro _; rfl) : PT X e (tB X.K B (bTruQ f)) := (pt_truth h he).imp fun σ H Q ⟨ρ, s, Hs, b, s', ok, e, q⟩ => by
  obtain ⟨x, s1, e1, e2⟩ := M.bnd_some e
  cases e2
  refine ⟨ρ, s, Hs, x, _, ok, e1, fun v Hs1 H1 n1 r1 => ⟨_, ?_, q Hs1 H1 n1⟩⟩
  obtain ⟨p, vs, rfl, hp, hs⟩ := r1.sq n1.ok
  rcases hp with hp | hp
  · exact .inl ⟨vs, SqL.of hp, by rw [hs.isEmpty]⟩
  · exact .inr (.inl ⟨vs, hp, by rw [hs.isEmpty]⟩)

def bAnd (f g : DB) : DB := fun ρ => (f ρ).bnd fun b => if b then g ρ else M.ret false
def bOr (f g : DB) : DB := fun ρ => (f ρ).bnd fun b => if b then M.ret true else g ρ
def bNot (f : DB) : DB := fun ρ => (f ρ).bnd fun b => M.ret (!b)
variable {k1 k2 k3 : DB} {rest : List Expr}
theorem w_and1 (ha : PT X a (tB X.K B k1)) : PW X (.BoolOp .And [a] pos) (tB X.K B k1) := pw_and1 ha
theorem w_or1 (ha : PT X a (tB X.K B k1)) : PW X (.BoolOp .Or [a] pos) (tB X.K B k1) := pw_or1 ha
theorem w_and (ha : PT X a (tB X.K B k1)) (hb : PW X (.BoolOp .And (b :: rest) pos) (tB X.K B k2)) : PW X (.BoolOp .And (a :: b :: rest) pos) (tB X.K B (bAnd k1 k2)) := (pw_and ha hb).imp fun σ H Q ⟨ρ, s, Hs, d, s', ok, e, q⟩ => by
  obtain ⟨x, s1, e1, e2⟩ := M.bnd_some e
  refine ⟨ρ, s, Hs, x, s1, ok, e1, fun Hs1 H1 n1 => ?_⟩
  cases x with
  | true => exact ⟨ρ, s1, Hs1, d, s', n1.ok, e2, fun Hs2 H2 n2 => q Hs2 H2 (n1.trans n2)⟩
  | false => cases e2; exact q Hs1 H1 n1
theorem w_or (ha : PT X a (tB X.K B k1)) (hb : PW X (.BoolOp .Or (b :: rest) pos) (tB X.K B k2)) : PW X (.BoolOp .Or (a :: b :: rest) pos) (tB X.K B (bOr k1 k2)) := (pw_or ha hb).imp fun σ H Q ⟨ρ, s, Hs, d, s', ok, e, q⟩ => by
  obtain ⟨x, s1, e1, e2⟩ := M.bnd_some e
  refine ⟨ρ, s, Hs, x, s1, ok, e1, fun Hs1 H1 n1 => ?_⟩
  cases x with
  | false => exact ⟨ρ, s1, Hs1, d, s', n1.ok, e2, fun Hs2 H2 n2 => q Hs2 H2 (n1.trans n2)⟩
  | true => cases e2; exact q Hs1 H1 n1
theorem t_not (ha : PT X a (tB X.K B k1)) : PT X (.UnaryOp .Not a pos) (tB X.K B (bNot k1)) := (pt_not ha).imp fun σ H Q ⟨ρ, s, Hs, d, s', ok, e, q⟩ => by
  obtain ⟨x, s1, e1, e2⟩ := M.bnd_some e
  cases e2
  exact ⟨ρ, s, Hs, x, _, ok, e1, fun Hs1 H1 n1 => q Hs1 H1 n1⟩
/-- as values: the first a bool -/
def eAnd (f g : DE) : DE := fun ρ => (f ρ).bnd fun x => match x with
  | .bool true => g ρ
  | .bool false => M.ret (.bool false)
  | _ => M.fail
def eOr (f g : DE) : DE := fun ρ => (f ρ).bnd fun x => match x with
  | .bool false => g ρ
  | .bool true => M.ret (.bool true)
  | _ => M.fail
def eNot (f : DE) : DE := fun ρ => (f ρ).bnd fun x => match x with
  | .bool b => M.ret (.bool (!b))
  | _ => M.fail
theorem d_one {op} (h : PE X a (tE X.K B f1)) : PE X (.BoolOp op [a] pos) (tE X.K B f1) := pe_one h
theorem d_and (ha : PE X a (tE X.K B f1)) (hb : PE X (.BoolOp .And (b :: rest) pos) (tE X.K B f2)) : PE X (.BoolOp .And (a :: b :: rest) pos) (tE X.K B (eAnd f1 f2)) := (pe_and ha hb).imp fun σ H Q ⟨ρ, s, Hs, d, s', ok, e, q⟩ => by
  obtain ⟨x, s1, e1, e2⟩ := M.bnd_some e
  refine ⟨ρ, s, Hs, x, s1, ok, e1, fun v Hs1 H1 n1 r1 => ?_⟩
  cases r1 <;> first | (cases e2; done) | skip
  rename_i k
  refine ⟨k, rfl, ?_⟩
  cases k with
  | true => exact ⟨ρ, s1, Hs1, d, s', n1.ok, e2, fun w Hs2 H2 n2 r2 => q w Hs2 H2 (n1.trans n2) r2⟩
  | false => cases e2; exact q _ Hs1 H1 n1 (.bl _)
theorem d_or (ha : PE X a (tE X.K B f1)) (hb : PE X (.BoolOp .Or (b :: rest) pos) (tE X.K B f2)) : PE X (.BoolOp .Or (a :: b :: rest) pos) (tE X.K B (eOr f1 f2)) := (pe_or ha hb).imp fun σ H Q ⟨ρ, s, Hs, d, s', ok, e, q⟩ => by
  obtain ⟨x, s1, e1, e2⟩ := M.bnd_some e
  refine ⟨ρ, s, Hs, x, s1, ok, e1, fun v Hs1 H1 n1 r1 => ?_⟩
  cases r1 <;> first | (cases e2; done) | skip
  rename_i k
  refine ⟨k, rfl, ?_⟩
  cases k with
  | false => exact ⟨ρ, s1, Hs1, d, s', n1.ok, e2, fun w Hs2 H2 n2 r2 => q w Hs2 H2 (n1.trans n2) r2⟩
  | true => cases e2; exact q _ Hs1 H1 n1 (.bl _)
theorem d_not (ha : PE X a (tE X.K B f1)) : PE X (.UnaryOp .Not a pos) (tE X.K B (eNot f1)) := (pe_not ha).imp fun σ H Q ⟨ρ, s, Hs, d, s', ok, e, q⟩ => by
  obtain ⟨x, s1, e1, e2⟩ := M.bnd_some e
  refine ⟨ρ, s, Hs, x, s1, ok, e1, fun v Hs1 H1 n1 r1 => ?_⟩
  cases r1 <;> first | (cases e2; done) | skip
  rename_i k
  cases e2
  exact ⟨k, rfl, q _ Hs1 H1 n1 (.bl _)⟩
def eIf (t : DB) (f g : DE) : DE := fun ρ => (t ρ).bnd fun b => if b then f ρ else g ρ
theorem d_ifExp (hc : PT X c (tB X.K B k1)) (ha : PE X a (tE X.K B f1)) (hb : PE X b (tE X.K B f2)) : PE X (.IfExp c a b pos) (tE X.K B (eIf k1 f1 f2)) := (pe_ifExp hc ha hb).imp fun σ H Q ⟨ρ, s, Hs, d, s', ok, e, q⟩ => by
  obtain ⟨x, s1, e1, e2⟩ := M.bnd_some e
  refine ⟨ρ, s, Hs, x, s1, ok, e1, fun Hs1 H1 n1 => ?_⟩
  cases x with
  | true => exact ⟨ρ, s1, Hs1, d, s', n1.ok, e2, fun w Hs2 H2 n2 r2 => q w Hs2 H2 (n1.trans n2) r2⟩
  | false => exact ⟨ρ, s1, Hs1, d, s', n1.ok, e2, fun w Hs2 H2 n2 r2 => q w Hs2 H2 (n1.trans n2) r2⟩
/-- a test as a value -/
def eNeg (f : DE) : DE := fun ρ => (f ρ).bnd fun x => match x with
  | .int i => M.ret (.int (-i))
  | _ => M.fail
theorem d_neg (ha : PE X a (tE X.K B f1)) : PE X (.UnaryOp .USub a pos) (tE X.K B (eNeg f1)) := (pe_un un_neg ha).imp fun σ H Q ⟨ρ, s, Hs, d, s', ok, e, q⟩ => by
  obtain ⟨x, s1, e1, e2⟩ := M.bnd_some e
  refine ⟨ρ, s, Hs, x, s1, ok, e1, fun v Hs1 H1 n1 r1 => ?_⟩
  cases r1 <;> first | (cases e2; done) | skip
  rename_i k
  cases e2
  exact ⟨k, rfl, q _ Hs1 H1 n1 (.int _)⟩
end
end DL

/-! DL4: subscripts, slices, displays, arguments, calls -/
namespace DL
open PySem PySem.Spec PyProof.Rows L2 Evl
section
variable {X : Cx} {B : Base} {a b c e : Expr} {pos : Pos} {f1 f2 f3 : DE} {g g' : PD → PD → Option PD}

/-! ### x[i] -/
def itemD (x y : PD) : Option PD := match x, y with
  | .list ds, .int i => atI ds i
  | .tuple ds, .int i => atI ds i
  | .str z, .int i => if z.length ≤ LIM then (atI z.cps.toList i).map fun c => .str ⟨⟨[c]⟩⟩ else none
  | _, _ => none
theorem atI_rp {K : PySem.W.Frag} {H : Hp} {vs : List V} {ds : List PD} {i : Int} {d : PD} (h : RpAll K H vs ds) (e : atI ds i = some d) : ∃ v, atI vs i = some v ∧ Rp K H v d := by
  unfold atI at e ⊢
  rw [h.length]
  cases hi : ixN ds.length i with
  | none => rw [hi] at e; cases e
  | some j =>
    rw [hi] at e
    exact h.get e
theorem d_item (ha : PE X a (tE X.K B f1)) (hb : PE X b (tE X.K B f2)) (hs : PlainIx b := by exact fun _ _ => rfl) : PE X (.Subscript a b pos) (tE X.K B (eOp itemD f1 f2)) :=
  (pe_ix ix_seq ha hb hs).imp (tE_op fun ρ σ s Hs H x y d v u Q ok e rx ry q => by
    cases rx <;> cases ry <;> first | (cases e; done) | skip
    · rename_i z i
      unfold itemD at e
      dsimp only at e
      split at e
      · rename_i hl
        cases h : atI z.cps.toList i with
        | none => rw [h] at e; cases e
        | some c =>
          rw [h] at e
          cases e
          exact .inr (.inr ⟨z, i, c, rfl, rfl, Nat.le_trans hl lim_line, h, q _ _ _ (Nx.refl ok) (.str _)⟩)
      · cases e
    · rename_i p vs ds hp hs i
      obtain ⟨w, h1, h2⟩ := atI_rp hs e
      exact .inl ⟨p, vs, i, w, rfl, rfl, SqL.of (ok.hk.sub _ _ hp), h1, q _ _ _ (Nx.refl ok) h2⟩
    · rename_i p vs ds hp hs i
      obtain ⟨w, h1, h2⟩ := atI_rp hs e
      exact .inr (.inl ⟨p, vs, i, w, rfl, rfl, ex_t ok.hk.sub hp, h1, q _ _ _ (Nx.refl ok) h2⟩))
/-- of an own list -/
def eItemQ (f : DT) (g : DE) : DE := fun ρ => (f ρ).bnd fun xs => (g ρ).bnd fun y => match y with
  | .int i => M.lift (atI xs i)
  | _ => M.fail
theorem d_itemQ {f : DT} (ha : PE X a (tQ X.K B f)) (hb : PE X b (tE X.K B f2)) (hs : PlainIx b := by exact fun _ _ => rfl) : PE X (.Subscript a b pos) (tE X.K B (eItemQ f f2)) :=
  (pe_ix ix_seq ha hb hs).imp fun σ H Q ⟨ρ, s, Hs, d, s', ok, e, q⟩ => by
    obtain ⟨xs, s1, e1, e2⟩ := M.bnd_some e
    obtain ⟨y, s2, e2, e3⟩ := M.bnd_some e2
    refine ⟨ρ, s, Hs, xs, s1, ok, e1, fun v Hs1 H1 n1 r1 => ?_⟩
    refine ⟨ρ, s1, Hs1, y, s2, n1.ok, e2, fun u Hs2 H2 n2 r2 => ?_⟩
    cases r2 <;> first | (cases e3; done) | skip
    rename_i i
    obtain ⟨e4, rfl⟩ := M.lift_some e3
    obtain ⟨p, vs, rfl, hp, hs⟩ := (r1.mono n2.ex).sq n2.ok
    obtain ⟨w, h1, h2⟩ := atI_rp hs e4
    rcases hp with hp | hp
    · exact .inl ⟨p, vs, i, w, rfl, rfl, SqL.of hp, h1, q _ Hs2 H2 (n1.trans n2) h2⟩
    · exact .inr (.inl ⟨p, vs, i, w, rfl, rfl, hp, h1, q _ Hs2 H2 (n1.trans n2) h2⟩)

/-! ### x[lo:hi] -/
def cutA {α : Type} (xs : List α) (lo hi : Option Int) : List α := (xs.drop (HT.sIx xs.length 0 lo)).take (HT.sIx xs.length xs.length hi - HT.sIx xs.length 0 lo)
theorem cutA_rp {K : PySem.W.Frag} {H : Hp} {vs : List V} {ds : List PD} {lo hi : Option Int} (h : RpAll K H vs ds) : RpAll K H (cutV vs lo hi) (cutA ds lo hi) := by
  unfold cutV cutA
  rw [h.length]
  exact (h.drop _).take _
abbrev DO := Rho → M (Option Int)
def tOI (K : PySem.W.Frag) (B : Base) (m : DO) : TO := fun σ H Q => ∃ ρ s Hs o s', Ok K B ρ σ s Hs H ∧ m ρ s = some (o, s') ∧ ∀ Hs' H', Nx K B ρ σ s' Hs H Hs' H' → Q o H'
def oNone : DO := fun _ s => some (none, s)
def oSome (f : DE) : DO := fun ρ s => match f ρ s with
  | some (.int i, s') => some (some i, s')
  | _ => none
theorem o_none : PO X none (tOI X.K B oNone) := ⟨fun pins s σ H Q I h => by
  obtain ⟨ρ, s0, Hs, o, s', ok, e, q⟩ := h
  cases e
  exact po_none.run pins s σ H Q I (q Hs H (Nx.refl ok))⟩
theorem o_some (h : PE X e (tE X.K B f1)) : PO X (some e) (tOI X.K B (oSome f1)) := ⟨fun pins s σ H Q I q => by
  refine (po_some h).run pins s σ H Q I ?_
  obtain ⟨ρ, s0, Hs, o, s', ok, e, q⟩ := q
  unfold oSome at e
  split at e
  · rename_i i s1 h1
    cases e
    refine ⟨ρ, s0, Hs, .int i, s', ok, h1, fun v Hs1 H1 n1 r1 => ?_⟩
    cases r1
    exact ⟨i, rfl, q Hs1 H1 n1⟩
  · cases e⟩
def sliceD (x : PD) (lo hi : Option Int) : Option PD := match x with
  | .str z => if z.length ≤ LIM then some (.str ⟨⟨cutA z.cps.toList lo hi⟩⟩) else none
  | .list ds => some (.list (cutA ds lo hi))
  | .tuple ds => some (.tuple (cutA ds lo hi))
  | _ => none
def eSlice (f : DE) (lo hi : DO) : DE := fun ρ => (f ρ).bnd fun x => (lo ρ).bnd fun l => (hi ρ).bnd fun h => M.lift (sliceD x l h)
theorem cutS_cut (z : Str) (lo hi : Option Int) : cutS z lo hi = ⟨⟨cutA z.cps.toList lo hi⟩⟩ := rfl
theorem cut_all {α : Type} {xs : List α} {lo hi : Option Int} (h : HT.sIx xs.length 0 lo = 0 ∧ HT.sIx xs.length xs.length hi = xs.length) : cutA xs lo hi = xs := by
  unfold cutA
  rw [h.1, h.2, List.drop_zero, Nat.sub_zero, List.take_length]
theorem slT_all : SlR X (rSlA X.K) := sl_tupA
theorem d_slice {lo hi : Option Expr} {p2 : Pos} {ol oh : DO} (ha : PE X a (tE X.K B f1)) (hl : PO X lo (tOI X.K B ol)) (hh : PO X hi (tOI X.K B oh)) : PE X (.Subscript a (.Slice lo hi none p2) pos) (tE X.K B (eSlice f1 ol oh)) :=
  (pe_slice (SlR.or (SlR.or sl_str sl_list) slT_all) ha hl hh).imp fun σ H Q ⟨ρ, s, Hs, d, s', ok, e, q⟩ => by
    obtain ⟨x, s1, e1, e2⟩ := M.bnd_some e
    obtain ⟨l, s2, e2, e3⟩ := M.bnd_some e2
    obtain ⟨h, s3, e3, e4⟩ := M.bnd_some e3
    obtain ⟨e5, rfl⟩ := M.lift_some e4
    refine ⟨ρ, s, Hs, x, s1, ok, e1, fun v Hs1 H1 n1 r1 => ?_⟩
    refine ⟨ρ, s1, Hs1, l, s2, n1.ok, e2, fun Hs2 H2 n2 => ?_⟩
    refine ⟨ρ, s2, Hs2, h, _, n2.ok, e3, fun Hs3 H3 n3 => ?_⟩
    have n := n1.trans (n2.trans n3)
    have r := (r1.mono n2.ex).mono n3.ex
    cases r <;> first | (cases e5; done) | skip
    · rename_i z
      unfold sliceD at e5
      dsimp only at e5
      split at e5
      · rename_i hl
        cases e5
        exact .inl (.inl ⟨z, rfl, Nat.le_trans hl lim_line, q _ Hs3 H3 n (.str _)⟩)
      · cases e5
    · rename_i p vs ds hp hs
      cases e5
      refine .inl (.inr ⟨p, vs, rfl, SqL.of (n3.ok.hk.sub _ _ hp), fun p' hp' => ?_⟩)
      have nn := n3.ok.laid (o := .lst (cutV vs l h)) hp'
      exact q _ _ _ (n.trans nn) (.lst upd_same ((cutA_rp hs).mono nn.ex))
    · rename_i p vs ds hp hs
      cases e5
      refine .inr ⟨p, vs, rfl, ex_t n3.ok.hk.sub hp, fun hall => ?_, fun hall p' hp' => ?_⟩
      · rw [hs.length] at hall
        rw [cut_all hall] at q
        exact q _ Hs3 H3 n (.tup hp hs)
      · have nn := n3.ok.laid (o := .tup (cutV vs l h)) hp'
        exact q _ _ _ (n.trans nn) (.tup (SqT.of upd_same) ((cutA_rp hs).mono nn.ex))

/-! ### x[::-1] -/
def revD : PD → Option PD
  | .str z => if z.length ≤ LIM then some (.str ⟨⟨z.cps.toList.reverse⟩⟩) else none
  | .list ds => some (.list ds.reverse)
  | _ => none
def eRev (f : DE) : DE := fun ρ => (f ρ).bnd fun x => M.lift (revD x)
theorem rev_text (x : Str) (u : Tok) : Txt.sliceBy x none none (-1, u) = ⟨⟨x.cps.toList.reverse⟩⟩ := by
  have h := step_rev_list x u
  obtain ⟨⟨l⟩⟩ := x
  have h2 : (Txt.sliceBy ⟨⟨l⟩⟩ none none (-1, u)).cps.toList = l.reverse := by
    rw [h]
    show (List.range l.toArray.size).map (fun k => l.toArray.getD (l.toArray.size - 1 - k) 0) = l.reverse
    apply List.ext_getElem
    · simp
    · intro i h1 h2
      simp at h1
      have h3 : l.length - 1 - i < l.length := by omega
      simp [Array.getD, List.getElem_reverse, h3]
  generalize Txt.sliceBy ⟨⟨l⟩⟩ none none (-1, u) = z at h2
  obtain ⟨⟨m⟩⟩ := z
  have : m = l.reverse := h2
  rw [this]
theorem pe_rev {te : TE} {k : Nat} {p1 p2 p3 pos : Pos} (he : PE X e te) : PE X (.Subscript e (.Slice none none (some (.UnaryOp .USub (.Constant (.int 1) k p1) p2)) p3) pos)
    (fun σ H Q => te σ H fun x H1 => (∃ a xs, x = .ref a ∧ SqL X.K H1 a xs ∧ ∀ p, H1 p = none → Q (.ref p) (upd H1 p (.lst xs.reverse))) ∨ ∃ z, x = .str z ∧ z.length ≤ sizeLine ∧ Q (.str ⟨⟨z.cps.toList.reverse⟩⟩) H1) := by
  refine ⟨fun pins s σ H Q I h => ?_⟩
  refine Subscript_ (thn (he.run pins s σ H _ I h) fun v s1 ⟨x, H1, I1, r1, q1⟩ => ?_)
  have hst : PO X (some (.UnaryOp .USub (.Constant (.int 1) k p1) p2)) (tPart (tUn (rU fun i => .int (-i)) (tC (.int 1)))) := po_some (pe_un un_neg pe_int)
  refine wpAny_Slice (thn (po_none.run pins s1 σ H1 (fun o H2 => o = none ∧ H2 = H1) I1 ⟨rfl, rfl⟩) fun vl s2 ⟨l, H2, I2, pl, el, e2⟩ => ?_)
  subst el e2
  refine thn (po_none.run pins s2 σ H2 (fun o H3 => o = none ∧ H3 = H2) I2 ⟨rfl, rfl⟩) fun vu s3 ⟨u, H3, I3, pu, eu, e3⟩ => ?_
  subst eu e3
  refine thn (hst.run pins s3 σ H3 (fun o H4 => o = some (-1) ∧ H4 = H3) I3 ⟨1, rfl, -1, rfl, rfl, rfl⟩) fun vs s4 ⟨o, H4, I4, ps, eo, e4⟩ => ?_
  subst eo e4
  have I5 : Inv X pins σ H4 { s4 with heap := s4.heap.push { cls := .type "slice", data := .fields #[vl, vu, vs] } } := I4.kept (t' := s4.toks) fun b ob q => Heap.get?_push_of_some _ q
  rcases q1 with ⟨a, xs, rfl, hx, q⟩ | ⟨z, rfl, hz, q⟩
  · cases r1
    obtain ⟨its, r, ht, hz⟩ := I5.list hx
    have hlen := r.length
    show wpAny (model X.prog X.w) X.A (subscriptTail e (.Slice none none (some (.UnaryOp .USub (.Constant (.int 1) k p1) p2)) p3) (.ref a) (.ref s4.heap.objs.size)) (EP X pins σ Q) X.xe { s4 with heap := s4.heap.push { cls := .type "slice", data := .fields #[vl, vu, vs] } }
    refine tail_any (ops := [.ref a, .ref s4.heap.objs.size]) ht.isList.typeIs (PySem.slot_list_getitem.lookup) ?_ (by with_unfolding_all rfl)
    refine wpAny_getItem_list_slice ht.isList (Heap.IsSliceOf.new _ vl vu vs) pl pu ps (by decide) ?_ (by rw [List.size_toArray]; omega)
    rw [PySem.W.krv_pick]
    refine ⟨.ref _, _, I5.laid (t' := s4.toks) (o := .lst xs.reverse) (fun b ob q => Heap.get?_push_of_some _ q) (Nat.le_refl _) ?_, rfl, q _ (I5.hok.fresh (Nat.le_refl _))⟩
    exact ⟨by rw [List.length_reverse]; exact hz, _, 0, r.reverse, Heap.get?_push_size _ rfl⟩
  · obtain ⟨t, rfl⟩ := r1
    show wpAny (model X.prog X.w) X.A (subscriptTail e (.Slice none none (some (.UnaryOp .USub (.Constant (.int 1) k p1) p2)) p3) (.str z t) (.ref s4.heap.objs.size)) (EP X pins σ Q) X.xe { s4 with heap := s4.heap.push { cls := .type "slice", data := .fields #[vl, vu, vs] } }
    refine tail_any (ops := [.str z t, .ref s4.heap.objs.size]) (typeIs_str _ z t) F.slot_str_getitem.lookup ?_ (by with_unfolding_all rfl)
    obtain ⟨l, rfl, el⟩ := IsPart.raw pl
    obtain ⟨u, rfl, eu⟩ := IsPart.raw pu
    obtain ⟨w, rfl, ew⟩ := IsPart.raw ps
    cases l with
    | some l => cases el
    | none =>
      cases u with
      | some u => cases eu
      | none =>
        cases w with
        | none => cases ew
        | some w =>
          obtain ⟨w1, w2⟩ := w
          have : w1 = -1 := Option.some.inj (show some w1 = some (-1 : Int) from ew)
          subst this
          refine wpAny_getItem_str_slice (l := none) (u := none) (st := some (-1, w2)) ⟨_, Heap.get?_push_size _ rfl, rfl, rfl⟩ rfl ?_
          have hrl : (⟨⟨z.cps.toList.reverse⟩⟩ : Str).length ≤ sizeLine := by
            obtain ⟨⟨l⟩⟩ := z
            show l.reverse.length ≤ _
            rw [List.length_reverse]
            exact hz
          have e1 := rev_text z w2
          unfold Txt.sliceBy at e1
          have hno : ¬ ((((some ((-1 : Int), w2)).map (·.1)).getD 1 == 1 && (slicePicked z none none (some (-1, w2))).length == z.length) = true) := by
            have : ((((some ((-1 : Int), w2)).map (·.1)).getD 1 == 1)) = false := rfl
            rw [this]; simp
          rw [if_neg hno] at e1
          unfold sliceMade
          rw [if_neg hno, e1]
          exact ⟨hrl, .str _, H4, I5.tok _, ⟨_, rfl⟩, q⟩
theorem d_rev {k : Nat} {p1 p2 p3 pos : Pos} (he : PE X e (tE X.K B f1)) : PE X (.Subscript e (.Slice none none (some (.UnaryOp .USub (.Constant (.int 1) k p1) p2)) p3) pos) (tE X.K B (eRev f1)) := (pe_rev he).imp fun σ H Q ⟨ρ, s, Hs, d, s', ok, e, q⟩ => by
  obtain ⟨x, s1, e1, e2⟩ := M.bnd_some e
  obtain ⟨e5, rfl⟩ := M.lift_some e2
  refine ⟨ρ, s, Hs, x, _, ok, e1, fun v Hs1 H1 n1 r1 => ?_⟩
  cases r1 <;> first | (cases e5; done) | skip
  · rename_i z
    unfold revD at e5
    dsimp only at e5
    split at e5
    · rename_i hl
      cases e5
      exact .inr ⟨z, rfl, Nat.le_trans hl lim_line, q _ Hs1 H1 n1 (.str _)⟩
    · cases e5
  · rename_i p vs ds hp hs
    cases e5
    refine .inl ⟨p, vs, rfl, SqL.of (n1.ok.hk.sub _ _ hp), fun p' hp' => ?_⟩
    have nn := n1.ok.laid (o := .lst vs.reverse) hp'
    exact q _ _ _ (n1.trans nn) (.lst upd_same (hs.reverse.mono nn.ex))
end
end DL

/-! DL5: displays, arguments, calls of functions and of built-ins -/
namespace DL
open PySem PySem.Spec PyProof.Rows L2 Evl
section
variable {X : Cx} {B : Base} {a b c e : Expr} {es : List Expr} {pos : Pos} {f1 f2 f3 : DE} {g g' : PD → PD → Option PD}

/-! ### written items -/
def tL (K : PySem.W.Frag) (B : Base) (m : DT) : TA := fun σ H Q => ∃ ρ s Hs ds s', Ok K B ρ σ s Hs H ∧ m ρ s = some (ds, s') ∧ ∀ vs Hs' H', Nx K B ρ σ s' Hs H Hs' H' → RpAll K Hs' vs ds → Q vs H'
def lNil : DT := fun _ s => some ([], s)
def lCons (f : DE) (r : DT) : DT := fun ρ => (f ρ).bnd fun x => (r ρ).bnd fun xs => M.ret (x :: xs)
variable {r1 r2 : DT}
theorem l_nil : PA X [] (tL X.K B lNil) := pa_nil.imp fun σ H Q ⟨ρ, s, Hs, d, s', ok, e, q⟩ => by
  cases e
  exact q [] Hs H (Nx.refl ok) .nil
theorem l_cons (ha : PE X e (tE X.K B f1)) (hr : PA X es (tL X.K B r1)) (hs : starEach (e :: es) X.env = (false, eval e X.env) :: starEach es X.env := by rfl) : PA X (e :: es) (tL X.K B (lCons f1 r1)) :=
  (pa_cons ha hr hs).imp fun σ H Q ⟨ρ, s, Hs, d, s', ok, e, q⟩ => by
    obtain ⟨x, s1, e1, e2⟩ := M.bnd_some e
    obtain ⟨xs, s2, e2, e3⟩ := M.bnd_some e2
    cases e3
    refine ⟨ρ, s, Hs, x, s1, ok, e1, fun v Hs1 H1 n1 q1 => ?_⟩
    exact ⟨ρ, s1, Hs1, xs, _, n1.ok, e2, fun vs Hs2 H2 n2 q2 => q _ Hs2 H2 (n1.trans n2) (.cons (q1.mono n2.ex) q2)⟩
def eTup (f : DT) : DE := fun ρ => (f ρ).bnd fun xs => if xs.length ≤ LIM then M.ret (.tuple xs) else M.fail
def eLst (f : DT) : DE := fun ρ => (f ρ).bnd fun xs => if xs.length ≤ LIM then M.ret (.list xs) else M.fail
def fLst (f : DT) : DT := fun ρ => (f ρ).bnd fun xs => if xs.length ≤ LIM then M.ret xs else M.fail
theorem d_tup {k} (h : PA X es (tL X.K B r1)) : PE X (.Tuple es k pos) (tE X.K B (eTup r1)) := (pe_tup h).imp fun σ H Q ⟨ρ, s, Hs, d, s', ok, e, q⟩ => by
  obtain ⟨xs, s1, e1, e2⟩ := M.bnd_some e
  split at e2
  · rename_i hl
    cases e2
    refine ⟨ρ, s, Hs, xs, _, ok, e1, fun vs Hs1 H1 n1 q1 => ⟨Nat.le_trans (by rw [q1.length]; exact hl) lim_line, fun p hp => ?_⟩⟩
    have nn := n1.ok.laid (o := .tup vs) hp
    exact q _ _ _ (n1.trans nn) (.tup (SqT.of upd_same) (q1.mono nn.ex))
  · cases e2
/-- a new list that is not shared yet becomes shared -/
theorem tF_E {σ : Sg} {H : Hp} {Q : VK} {m : DT} (h : tE X.K B (fun ρ => (m ρ).bnd fun xs => M.ret (.list xs)) σ H Q) : tF X.K B m σ H Q := by
  obtain ⟨ρ, s, Hs, d, s', ok, e, q⟩ := h
  obtain ⟨xs, s1, e1, e2⟩ := M.bnd_some e
  cases e2
  refine ⟨ρ, s, Hs, xs, _, ok, e1, fun p vs Hs1 H1 n1 h0 h1 h2 r => ?_⟩
  -- share it
  have ex : Ex Hs1 (upd Hs1 p (.lst vs)) := Ex.new h1
  have hk := n1.ok.hk
  have hk' : Hk B s' (upd Hs1 p (.lst vs)) H1 := by
    refine ⟨fun a u q => ?_, ?_, hk.ad, hk.ex0.trans ex, hk.kp0, fun a u q => ?_, hk.dm0⟩
    · by_cases z : a = p
      · subst z; rw [upd_same] at q; cases q; exact h2
      · rw [upd_ne z] at q; exact hk.sub a u q
    · have st := hk.st
      cases s' with
      | none => trivial
      | some z =>
        obtain ⟨g1, g2, g3, g4, g5⟩ := st
        have ad : adrs B.s = [z.sa, z.ca] := hk.ad.symm
        have st0 := ok.hk.st
        have ad0 : adrs s = adrs B.s := ok.hk.ad
        cases s with
        | none => rw [ad] at ad0; cases ad0
        | some z0 =>
          rw [ad] at ad0
          have e1 : z0.sa = z.sa := (List.cons.inj ad0).1
          have e2 : z0.ca = z.ca := (List.cons.inj (List.cons.inj ad0).2).1
          obtain ⟨k1, k2, k3, k4, k5⟩ := st0
          have n1 : z.sa ≠ p := fun w => by rw [← w, ← e1, k4] at h0; cases h0
          have n2 : z.ca ≠ p := fun w => by rw [← w, ← e2, k5] at h0; cases h0
          exact ⟨g1, by rw [upd_ne n1]; exact g2, by rw [upd_ne n2]; exact g3, g4, g5⟩
    · by_cases z : a = p
      · subst z; exact .inr (ok.hk.dm0 a h0)
      · rw [upd_ne z] at q; exact hk.nw0 a u q
  have ok' : Ok X.K B ρ σ s' (upd Hs1 p (.lst vs)) H1 := by
    refine ⟨hk', n1.ok.len, fun i z hz => ?_, n1.ok.dis⟩
    obtain ⟨v, w1, w2⟩ := n1.ok.sl i z hz
    refine ⟨v, w1, ?_⟩
    cases z with
    | d x => exact Rp.mono ex w2
    | p a => exact w2
    | own ys =>
      obtain ⟨a, us, g1, g2, g3, g4, g5, g6⟩ := w2
      obtain ⟨v', w1', a', us', g1', g2', _⟩ := ok.sl i _ hz
      rw [w1] at w1'
      cases w1'
      rw [g1] at g1'
      cases g1'
      have na : a ≠ p := fun z => by rw [z, h0] at g2'; cases g2'
      exact ⟨a, us, g1, g2, by rw [upd_ne na]; exact g3, g4, g5, RpAll.mono ex g6⟩
  exact q _ _ H1 ⟨ok', n1.ex.trans ex, n1.kp, fun a u e n => by
    have na : a ≠ p := fun z => by rw [z, h0] at e; cases e
    rw [upd_ne na]
    exact n1.nw a u e n⟩ (.lst upd_same (r.mono ex))
theorem f_E {m : DT} (h : PE X e (tF X.K B m)) : PE X e (tE X.K B (fun ρ => (m ρ).bnd fun xs => M.ret (.list xs))) := h.imp fun _ _ _ => tF_E
theorem f_lst (h : PA X es (tL X.K B r1)) : PE X (.List es pos) (tF X.K B (fLst r1)) := (pe_lst h).imp fun σ H Q ⟨ρ, s, Hs, d, s', ok, e, q⟩ => by
  obtain ⟨xs, s1, e1, e2⟩ := M.bnd_some e
  split at e2
  · rename_i hl
    cases e2
    refine ⟨ρ, s, Hs, _, _, ok, e1, fun vs Hs1 H1 n1 q1 => ⟨Nat.le_trans (by rw [q1.length]; exact hl) lim_line, fun p hp => ?_⟩⟩
    have nn := n1.ok.laidO (o := .lst vs) hp
    refine q p vs _ _ (n1.trans nn) ?_ (hs_none n1.ok.hk.sub hp) upd_same q1
    cases h : H p with
    | none => rfl
    | some o =>
      by_cases z : p ∈ adrs B.s
      · exfalso
        have hk := n1.ok.hk
        rw [← hk.ad] at z
        have st := hk.st
        cases s' with
        | none => cases z
        | some w =>
          obtain ⟨_, _, _, g4, g5⟩ := st
          rcases List.mem_cons.mp z with z | z
          · rw [z, g4] at hp; cases hp
          · rcases List.mem_cons.mp z with z | z
            · rw [z, g5] at hp; cases hp
            · cases z
      · rw [n1.kp p o h z] at hp; cases hp
  · cases e2
theorem d_lst (h : PA X es (tL X.K B r1)) : PE X (.List es pos) (tE X.K B (eLst r1)) := (f_E (f_lst h)).imp fun σ H Q ⟨ρ, s, Hs, d, s', ok, e, q⟩ => by
  obtain ⟨xs, s1, e1, e2⟩ := M.bnd_some e
  split at e2
  · rename_i hl
    cases e2
    refine ⟨ρ, s, Hs, _, _, ok, ?_, q⟩
    show M.bnd (M.bnd (r1 ρ) fun xs => if xs.length ≤ LIM then M.ret xs else M.fail) _ s = _
    unfold M.bnd
    rw [e1]
    dsimp only
    rw [if_pos hl]
    rfl
  · cases e2

/-! ### arguments -/
def aNil : DA := fun _ s => some ([], s)
def aCons (f : DE) (r : DA) : DA := fun ρ => (f ρ).bnd fun x => (r ρ).bnd fun xs => M.ret (.d x :: xs)
def pVar (i : Nat) : Rho → M Addr := fun ρ s => match rget ρ i with
  | some (.p a) => some (a, s)
  | _ => none
def aConsP (i : Nat) (r : DA) : DA := fun ρ => (pVar i ρ).bnd fun a => (r ρ).bnd fun xs => M.ret (.p a :: xs)
variable {q1 q2 : DA}
theorem a_nil : PA X [] (tA X.K B aNil) := pa_nil.imp fun σ H Q ⟨ρ, s, Hs, d, s', ok, e, q⟩ => by
  cases e
  exact q [] Hs H (Nx.refl ok) .nil
theorem a_cons (ha : PE X e (tE X.K B f1)) (hr : PA X es (tA X.K B q1)) (hs : starEach (e :: es) X.env = (false, eval e X.env) :: starEach es X.env := by rfl) : PA X (e :: es) (tA X.K B (aCons f1 q1)) :=
  (pa_cons ha hr hs).imp fun σ H Q ⟨ρ, s, Hs, d, s', ok, e, q⟩ => by
    obtain ⟨x, s1, e1, e2⟩ := M.bnd_some e
    obtain ⟨xs, s2, e2, e3⟩ := M.bnd_some e2
    cases e3
    refine ⟨ρ, s, Hs, x, s1, ok, e1, fun v Hs1 H1 n1 w1 => ?_⟩
    exact ⟨ρ, s1, Hs1, xs, _, n1.ok, e2, fun vs Hs2 H2 n2 w2 => q _ Hs2 H2 (n1.trans n2) (.cons (show AgOk X.K Hs2 v (.d x) from w1.mono n2.ex) w2)⟩
theorem a_consP (i : Nat) {x : Str} {pos : Pos} (hr : PA X es (tA X.K B q1)) (hN : X.N[i]? = some x := by rfl) (hv : Vis X.env.scope x := by first | exact Or.inl rfl | exact Or.inr (Or.inl rfl) | exact Or.inr (Or.inr rfl)) (hd : (x == ("__debug__" : Str)) = false := by decide)
    (hcd : (x == ("__classdict__" : Str)) = false := by decide) (hs : starEach (.Name x pos :: es) X.env = (false, eval (.Name x pos) X.env) :: starEach es X.env := by rfl) : PA X (.Name x pos :: es) (tA X.K B (aConsP i q1)) :=
  (pa_cons (pe_var hN hv hd hcd) hr hs).imp fun σ H Q ⟨ρ, s, Hs, d, s', ok, e, q⟩ => by
    obtain ⟨x, s1, e1, e2⟩ := M.bnd_some e
    obtain ⟨xs, s2, e2, e3⟩ := M.bnd_some e2
    cases e3
    unfold pVar at e1
    cases h : rget ρ i with
    | none => rw [h] at e1; cases e1
    | some z =>
      rw [h] at e1
      cases z with
      | p a =>
        cases e1
        obtain ⟨v, h1, h2⟩ := ok.sl i _ h
        exact ⟨v, h1, ⟨ρ, _, Hs, xs, _, ok, e2, fun vs Hs2 H2 n2 w2 => q _ Hs2 H2 n2 (.cons h2 w2)⟩⟩
      | d x => cases e1
      | own xs => cases e1

/-! ### what a function promises -/
/-- φ: what comes of the arguments -/
abbrev Fn := List Ag → M PD
structure Since (s : SS) (Hs H : Hp) (s' : SS) (Hs' H' : Hp) : Prop where
  ex : Ex Hs Hs'
  sub : Ex Hs' H'
  st : SOk s' Hs' H'
  ad : adrs s' = adrs s
  kp : ∀ a o, H a = some o → a ∉ adrs s → H' a = some o
  nw : ∀ a o, Hs' a = some o → Hs a = some o ∨ H a = none
  dm : ∀ a, H' a = none → H a = none
def spD (K : PySem.W.Frag) (n : Nat) (φ : Fn) : Sp := fun vs H Q _ => ∃ Hs s ds d s', ds.length = n ∧ Ex Hs H ∧ SOk s Hs H ∧ AgAll K Hs vs ds ∧ φ ds s = some (d, s') ∧ ∀ v Hs' H', Since s Hs H s' Hs' H' → Rp K Hs' v d → Q v H'
structure FnD (P : Program) (w : World) (K : PySem.W.Frag) (mg : Str → Option Value) (base : Heap) (x : Str) (st : Stmt) (ps : List Str) (k : Nat) (φ : Fn) : Prop where
  ex : ∃ f fd nm, mg x = some (.ref f) ∧ Fun K nm nm st f fd ∧ FnOk P w K mg base CX0 k f fd ps (spD K ps.length φ) ∧ Binds K fd ps []
theorem since_ok {K : PySem.W.Frag} {ρ : Rho} {σ : Sg} {s s' : SS} {Hs H Hs' H' : Hp} (ok : Ok K B ρ σ s Hs H) (n : Since s Hs H s' Hs' H') : Nx K B ρ σ s' Hs H Hs' H' := by
  have hk := ok.hk
  have ad : adrs s = adrs B.s := hk.ad
  have kp : ∀ a o, H a = some o → a ∉ adrs B.s → H' a = some o := fun a o e h => n.kp a o e (by rw [ad]; exact h)
  have nw : ∀ a o, H a = some o → Hs a = none → Hs' a = none := fun a o e h => by
    cases q : Hs' a with
    | none => rfl
    | some u =>
      rcases n.nw a u q with z | z
      · rw [h] at z; cases z
      · rw [e] at z; cases z
  refine ⟨ok.step ⟨n.sub, n.st, n.ad.trans ad, hk.ex0.trans n.ex, fun a o e h => kp a o (hk.kp0 a o e h) h, fun a o e => ?_, fun a e => hk.dm0 a (n.dm a e)⟩ n.ex kp nw, n.ex, kp, nw⟩
  rcases n.nw a o e with z | z
  · exact hk.nw0 a o z
  · exact .inr (hk.dm0 a z)
def eCall (φ : Fn) (m : DA) : DE := fun ρ => (m ρ).bnd φ
def cF (φ : Fn) (n : Nat) (m : DA) : DE := fun ρ => ((m ρ).bnd fun ds s => if ds.length = n then some (ds, s) else none).bnd φ
theorem d_call {P : Program} {w : World} {K : PySem.W.Frag} {mg : Str → Option Value} {base : Heap} {x : Str} {st : Stmt} {ps : List Str} {k j : Nat} {φ : Fn} {m : DA} {p pos : Pos} {A : Around} (F : FnD P w K mg base x st ps k φ) (hr : Room j A) (hj : k ≤ j) (hg : Gl X x)
    (ha : PA X (e :: es) (tA X.K B m)) (hl : (e :: es).length = ps.length := by rfl) (hdb : (x == ("__debug__" : Str)) = false := by decide) (he : starEach (e :: es) X.env = (false, eval e X.env) :: starEach es X.env := by rfl) (hpl : (backTo pos (starEach es X.env)).any (·.1) = false := by rfl)
    (hX : X.prog = P ∧ X.w = w ∧ X.K = K ∧ X.mg = mg ∧ X.base = base ∧ X.A = A := by exact ⟨rfl, rfl, rfl, rfl, rfl, rfl⟩) :
    PE X (.Call (.Name x p) (e :: es) [] pos) (tE X.K B (cF φ ps.length m)) := by
  obtain ⟨rfl, rfl, rfl, rfl, rfl, rfl⟩ := hX
  obtain ⟨f, fd, nm, h1, h2, h3, h4⟩ := F.ex
  refine (pe_call h3 (hr.mono hj) hg h1 h2.kp h4 .nil pass0 ha hdb he hpl).imp fun σ H Q ⟨ρ, s, Hs, d, s', ok, e, q⟩ => ?_
  obtain ⟨ds, s1, e1, e2⟩ := M.bnd_some e
  obtain ⟨ds', s2, e1, e3⟩ := M.bnd_some e1
  split at e3
  · rename_i hlen
    cases e3
    refine ⟨ρ, s, Hs, ds, s1, ok, e1, fun vs Hs1 H1 n1 w1 => ?_⟩
    refine ⟨Hs1, s1, ds, d, s', hlen, n1.ok.hk.sub, n1.ok.hk.st, by rw [List.append_nil]; exact w1, e2, fun v Hs' H' n r => ?_⟩
    exact q v Hs' H' (n1.trans (since_ok n1.ok n)) r
  · cases e3
end
end DL

/-! DL6: statements, loops, functions -/
namespace DL
open PySem PySem.Spec PyProof.Rows L2 Evl
section
variable {X : Cx} {B : Base} {a b c e : Expr} {es : List Expr} {pos : Pos} {f1 f2 f3 : DE} {st : Stmt} {rest : List Stmt} {m1 m2 m3 : DS} {t1 t2 : DB}

/-! ### slots stored -/
theorem Ok.set {ρ : Rho} {σ : Sg} {s : SS} {Hs H : Hp} {i : Nat} {v : V} {z : Sl} (ok : Ok X.K B ρ σ s Hs H) (h : SlOk X.K B Hs H v z) (hd : ∀ xs, z = .own xs → ∀ (j : Nat) (ys : List PD), rget ρ j = some (.own ys) → σ[j]? = some (some v) → j = i) :
    Ok X.K B (rset ρ i (some z)) (σ.set i (some v)) s Hs H := by
  have hlen := ok.len
  refine ⟨ok.hk, by rw [List.length_set, rset_length]; exact hlen, fun j w hw => ?_, fun j k xs ys u h1 h2 h3 h4 => ?_⟩
  · by_cases q : j = i
    · subst q
      have hj : j < ρ.length := by have := rget_lt hw; rw [rset_length] at this; exact this
      rw [rget_set_eq ρ j _ hj] at hw
      cases hw
      exact ⟨v, by rw [List.getElem?_set_self (by omega)], h⟩
    · rw [rget_set_ne ρ i j _ q] at hw
      obtain ⟨u, g1, g2⟩ := ok.sl j w hw
      exact ⟨u, by rw [List.getElem?_set_ne (Ne.symm q)]; exact g1, g2⟩
  · by_cases q : j = i
    · subst q
      by_cases q2 : k = j
      · exact q2.symm
      · have hj : j < ρ.length := by have := rget_lt h1; rw [rset_length] at this; exact this
        rw [rget_set_eq ρ j _ hj] at h1
        rw [rget_set_ne ρ j k _ q2] at h2
        rw [List.getElem?_set_self (by omega)] at h3
        rw [List.getElem?_set_ne (Ne.symm q2)] at h4
        cases h3
        exact (hd xs (Option.some.inj h1) k ys h2 h4).symm
    · rw [rget_set_ne ρ i j _ q] at h1
      rw [List.getElem?_set_ne (Ne.symm q)] at h3
      by_cases q2 : k = i
      · subst q2
        have hj : k < ρ.length := by have := rget_lt h2; rw [rset_length] at this; exact this
        rw [rget_set_eq ρ k _ hj] at h2
        rw [List.getElem?_set_self (by omega)] at h4
        cases h4
        exact hd ys (Option.some.inj h2) j xs h1 h3
      · rw [rget_set_ne ρ i k _ q2] at h2
        rw [List.getElem?_set_ne (Ne.symm q2)] at h4
        exact ok.dis j k xs ys u h1 h2 h3 h4
theorem Ok.setD {ρ : Rho} {σ : Sg} {s : SS} {Hs H : Hp} {i : Nat} {v : V} {d : PD} (ok : Ok X.K B ρ σ s Hs H) (h : Rp X.K Hs v d) : Ok X.K B (rset ρ i (some (.d d))) (σ.set i (some v)) s Hs H :=
  ok.set (z := .d d) h fun xs e => by cases e
/-- a slot forgotten -/
theorem Ok.wipe1 {ρ : Rho} {σ : Sg} {s : SS} {Hs H : Hp} {i : Nat} (ok : Ok X.K B ρ σ s Hs H) : Ok X.K B (rset ρ i none) (σ.set i none) s Hs H := by
  refine ⟨ok.hk, by rw [List.length_set, rset_length]; exact ok.len, fun j w hw => ?_, fun j k xs ys u h1 h2 h3 h4 => ?_⟩
  · by_cases q : j = i
    · subst q
      have hj : j < ρ.length := by have := rget_lt hw; rw [rset_length] at this; exact this
      rw [rget_set_eq ρ j _ hj] at hw
      cases hw
    · rw [rget_set_ne ρ i j _ q] at hw
      obtain ⟨u, g1, g2⟩ := ok.sl j w hw
      exact ⟨u, by rw [List.getElem?_set_ne (Ne.symm q)]; exact g1, g2⟩
  · have ne : ∀ j' zs, rget (rset ρ i none) j' = some (.own zs) → j' ≠ i := fun j' zs h q => by
      subst q
      have hj : j' < ρ.length := by have := rget_lt h; rw [rset_length] at this; exact this
      rw [rget_set_eq ρ j' _ hj] at h
      cases h
    have n1 := ne j xs h1
    have n2 := ne k ys h2
    rw [rget_set_ne ρ i j _ n1] at h1
    rw [rget_set_ne ρ i k _ n2] at h2
    rw [List.getElem?_set_ne (Ne.symm n1)] at h3
    rw [List.getElem?_set_ne (Ne.symm n2)] at h4
    exact ok.dis j k xs ys u h1 h2 h3 h4

/-! ### blocks -/
def sNil : DS := fun ρ s => some (.nx ρ, s)
def sSeq (f g : DS) : DS := fun ρ s => match f ρ s with
  | some (.nx ρ1, s1) => g ρ1 s1
  | r => r
theorem ss_nil : PSs X [] (tS X.K B sNil) := pss_nil.imp fun D σ H ⟨ρ, s, Hs, fl, s', ok, e, q⟩ => by
  cases e
  exact q σ Hs H ok (Ex.refl _)
theorem tS_seq (D : Ends) (σ : Sg) (H : Hp) (h : tS X.K B (sSeq m1 m2) D σ H) : tSeq (tS X.K B m1) (tS X.K B m2) D σ H := by
  obtain ⟨ρ, s, Hs, fl, s', ok, e, q⟩ := h
  unfold sSeq at e
  cases h1 : m1 ρ s with
  | none => rw [h1] at e; cases e
  | some p =>
    obtain ⟨f, s1⟩ := p
    rw [h1] at e
    refine ⟨ρ, s, Hs, f, s1, ok, h1, ?_⟩
    cases f with
    | nx ρ1 => exact fun σ' Hs' H' ok' x => ⟨ρ1, s1, Hs', fl, s', ok', e, q.mono x⟩
    | rt d => cases e; exact q
    | bk ρ1 => cases e; exact q
    | ct ρ1 => cases e; exact q
theorem ss_cons (h1 : PS X st (tS X.K B m1)) (h2 : PSs X rest (tS X.K B m2)) : PSs X (st :: rest) (tS X.K B (sSeq m1 m2)) := (pss_cons h1 h2).imp tS_seq
theorem ss_one (h1 : PS X st (tS X.K B m1)) : PSs X [st] (tS X.K B m1) := pss_one h1
def sFail : DS := fun _ _ => none
theorem s_never : PS X st (tS X.K B sFail) := ps_never.imp fun D σ H ⟨ρ, s, Hs, fl, s', ok, e, q⟩ => by cases e
theorem ss_never : PSs X rest (tS X.K B sFail) := pss_never.imp fun D σ H ⟨ρ, s, Hs, fl, s', ok, e, q⟩ => by cases e
theorem s_pass : PS X (.Pass pos) (tS X.K B sNil) := ps_pass.imp fun D σ H ⟨ρ, s, Hs, fl, s', ok, e, q⟩ => by
  cases e
  exact q σ Hs H ok (Ex.refl _)
def sBrk : DS := fun ρ s => some (.bk ρ, s)
def sCnt : DS := fun ρ s => some (.ct ρ, s)
theorem s_break : PS X (.Break pos) (tS X.K B sBrk) := ps_break.imp fun D σ H ⟨ρ, s, Hs, fl, s', ok, e, q⟩ => by
  cases e
  exact q σ Hs H ok (Ex.refl _)
theorem s_continue : PS X (.Continue pos) (tS X.K B sCnt) := ps_continue.imp fun D σ H ⟨ρ, s, Hs, fl, s', ok, e, q⟩ => by
  cases e
  exact q σ Hs H ok (Ex.refl _)
def sRet (f : DE) : DS := fun ρ => (f ρ).bnd fun d => M.ret (.rt d)
theorem s_ret (h : PE X e (tE X.K B f1)) : PS X (.Return (some e) pos) (tS X.K B (sRet f1)) := (ps_ret h).imp fun D σ H ⟨ρ, s, Hs, fl, s', ok, e, q⟩ => by
  obtain ⟨d, s1, e1, e2⟩ := M.bnd_some e
  cases e2
  exact ⟨ρ, s, Hs, d, _, ok, e1, fun v Hs1 H1 n1 r1 => q v Hs1 H1 n1.ok.hk r1⟩
def sIf (t : DB) (f g : DS) : DS := fun ρ => (t ρ).bnd fun b => if b then f ρ else g ρ
theorem s_if {x y : List Stmt} (hc : PT X c (tB X.K B t1)) (ha : PSs X x (tS X.K B m1)) (hb : PSs X y (tS X.K B m2)) : PS X (.If c x y pos) (tS X.K B (sIf t1 m1 m2)) := (ps_if hc ha hb).imp fun D σ H ⟨ρ, s, Hs, fl, s', ok, e, q⟩ => by
  obtain ⟨b, s1, e1, e2⟩ := M.bnd_some e
  refine ⟨ρ, s, Hs, b, s1, ok, e1, fun Hs1 H1 n1 => ?_⟩
  cases b with
  | true => exact ⟨ρ, s1, Hs1, fl, s', n1.ok, e2, q.mono n1.ex⟩
  | false => exact ⟨ρ, s1, Hs1, fl, s', n1.ok, e2, q.mono n1.ex⟩
/-- name = value -/
def sAsg (i : Nat) (f : DE) : DS := fun ρ => (f ρ).bnd fun d => M.ret (.nx (rset ρ i (some (.d d))))
theorem tAsg_d {i : Nat} (D : Ends) (σ : Sg) (H : Hp) (h : tS X.K B (sAsg i f1) D σ H) : tAsg (tE X.K B f1) (gName i) D σ H := by
  obtain ⟨ρ, s, Hs, fl, s', ok, e, q⟩ := h
  obtain ⟨d, s1, e1, e2⟩ := M.bnd_some e
  cases e2
  exact ⟨ρ, s, Hs, d, _, ok, e1, fun v Hs1 H1 n1 r1 => q _ Hs1 H1 (n1.ok.setD r1) n1.ex⟩
theorem s_asg (i : Nat) {x : Str} {pos' : Pos} (h : PE X e (tE X.K B f1)) (hN : X.N.Nodup) (hi : X.N[i]? = some x := by rfl) (hx : Loc X.env.scope x := by first | exact Or.inl rfl | exact Or.inr rfl) (hs : swapsWith e (some (.Name x pos')) pos.line X.env = pure false := by rfl)
    (hf : X.fn x = true ∨ X.env.scope.names.lookup x = some .local := by first | exact .inl rfl | exact .inr rfl | assumption) : PS X (.Assign [.Name x pos'] e pos) (tS X.K B (sAsg i f1)) := (ps_set hN hi hx h hs hf).imp tAsg_d
/-- name = [..], an own list -/
def sOwn (i : Nat) (f : DT) : DS := fun ρ => (f ρ).bnd fun xs => M.ret (.nx (rset ρ i (some (.own xs))))
theorem adr_there {B : Base} {s : SS} {Hs H : Hp} {p : Addr} (hk : Hk B s Hs H) (hp : H p = none) : p ∉ adrs B.s := fun z => by
  rw [← hk.ad] at z
  have st := hk.st
  cases s with
  | none => cases z
  | some w =>
    obtain ⟨_, _, _, g4, g5⟩ := st
    rcases List.mem_cons.mp z with z | z
    · rw [z, g4] at hp; cases hp
    · rcases List.mem_cons.mp z with z | z
      · rw [z, g5] at hp; cases hp
      · cases z
theorem tAsg_own {i : Nat} {f : DT} (D : Ends) (σ : Sg) (H : Hp) (h : tS X.K B (sOwn i f) D σ H) : tAsg (tF X.K B f) (gName i) D σ H := by
  obtain ⟨ρ, s, Hs, fl, s', ok, e, q⟩ := h
  obtain ⟨xs, s1, e1, e2⟩ := M.bnd_some e
  cases e2
  refine ⟨ρ, s, Hs, xs, _, ok, e1, fun p vs Hs1 H1 n1 h0 h1 h2 r => ?_⟩
  refine q _ Hs1 H1 (n1.ok.set (z := .own xs) ⟨p, vs, rfl, h2, h1, ok.hk.dm0 p h0, adr_there ok.hk h0, r⟩ fun ys _ j zs hj hv => ?_) n1.ex
  obtain ⟨v', w1, a', us, g1, g2, _⟩ := ok.sl j _ hj
  rw [hv] at w1
  cases w1
  cases g1
  rw [h0] at g2
  cases g2
theorem s_own (i : Nat) {f : DT} {x : Str} {pos' : Pos} (h : PE X e (tF X.K B f)) (hN : X.N.Nodup) (hi : X.N[i]? = some x := by rfl) (hx : Loc X.env.scope x := by first | exact Or.inl rfl | exact Or.inr rfl) (hs : swapsWith e (some (.Name x pos')) pos.line X.env = pure false := by rfl)
    (hf : X.fn x = true ∨ X.env.scope.names.lookup x = some .local := by first | exact .inl rfl | exact .inr rfl | assumption) : PS X (.Assign [.Name x pos'] e pos) (tS X.K B (sOwn i f)) := (ps_set hN hi hx h hs hf).imp tAsg_own
/-- an own list is shared from here on (nothing is done) -/
def frz (i : Nat) (ρ : Rho) : Rho := match rget ρ i with
  | some (.own xs) => rset ρ i (some (.d (.list xs)))
  | _ => ρ
theorem Ok.frz {ρ : Rho} {σ : Sg} {s : SS} {Hs H : Hp} (i : Nat) (ok : Ok X.K B ρ σ s Hs H) : ∃ Hs', Ok X.K B (DL.frz i ρ) σ s Hs' H ∧ Ex Hs Hs' := by
  unfold DL.frz
  cases h : rget ρ i with
  | none => exact ⟨Hs, ok, Ex.refl _⟩
  | some z =>
    cases z with
    | d x => exact ⟨Hs, ok, Ex.refl _⟩
    | p a => exact ⟨Hs, ok, Ex.refl _⟩
    | own xs =>
      obtain ⟨v, h1, p, vs, h2, h3, h4, h5, h6, h7⟩ := ok.sl i _ h
      subst h2
      have ex : Ex Hs (upd Hs p (.lst vs)) := Ex.new h4
      have hk := ok.hk
      refine ⟨upd Hs p (.lst vs), ⟨⟨fun a u q => ?_, ?_, hk.ad, hk.ex0.trans ex, hk.kp0, fun a u q => ?_, hk.dm0⟩, by rw [rset_length]; exact ok.len, fun j w hw => ?_, fun j k ys zs u g1 g2 g3 g4 => ?_⟩, ex⟩
      · by_cases z : a = p
        · subst z; rw [upd_same] at q; cases q; exact h3
        · rw [upd_ne z] at q; exact hk.sub a u q
      · have st := hk.st
        cases s with
        | none => trivial
        | some z =>
          obtain ⟨g1, g2, g3, g4, g5⟩ := st
          have ad : adrs B.s = [z.sa, z.ca] := hk.ad.symm
          rw [ad] at h6
          have n1 : z.sa ≠ p := fun w => h6 (by rw [w]; exact List.mem_cons_self)
          have n2 : z.ca ≠ p := fun w => h6 (by rw [w]; exact List.mem_cons_of_mem _ List.mem_cons_self)
          exact ⟨g1, by rw [upd_ne n1]; exact g2, by rw [upd_ne n2]; exact g3, g4, g5⟩
      · by_cases z : a = p
        · subst z; exact .inr h5
        · rw [upd_ne z] at q; exact hk.nw0 a u q
      · by_cases z : j = i
        · subst z
          rw [rget_set_eq ρ j _ (rget_lt h)] at hw
          cases hw
          exact ⟨_, h1, Rp.lst upd_same (RpAll.mono ex h7)⟩
        · rw [rget_set_ne ρ i j _ z] at hw
          obtain ⟨u, g1, g2⟩ := ok.sl j w hw
          refine ⟨u, g1, ?_⟩
          cases w with
          | d x => exact Rp.mono ex g2
          | p a => exact g2
          | own ys =>
            obtain ⟨a, us, k1, k2, k3, k4, k5, k6⟩ := g2
            have na : a ≠ p := fun w => by
              subst w
              subst k1
              exact z (ok.dis j i ys xs _ hw h g1 h1)
            exact ⟨a, us, k1, k2, by rw [upd_ne na]; exact k3, k4, k5, RpAll.mono ex k6⟩
      · have ne : ∀ j' zs, rget (rset ρ i (some (.d (.list xs)))) j' = some (.own zs) → j' ≠ i := fun j' zs h' q => by
          subst q
          rw [rget_set_eq ρ j' _ (rget_lt h)] at h'
          cases h'
        have n1 := ne j ys g1
        have n2 := ne k zs g2
        rw [rget_set_ne ρ i j _ n1] at g1
        rw [rget_set_ne ρ i k _ n2] at g2
        exact ok.dis j k ys zs u g1 g2 g3 g4
def sFrz (i : Nat) (m : DS) : DS := fun ρ => m (frz i ρ)
theorem ss_frz (i : Nat) {sts : List Stmt} (h : PSs X sts (tS X.K B m1)) : PSs X sts (tS X.K B (sFrz i m1)) := h.imp fun D σ H ⟨ρ, s, Hs, fl, s', ok, e, q⟩ => by
  obtain ⟨Hs', ok', x⟩ := ok.frz i
  exact ⟨_, s, Hs', fl, s', ok', e, q.mono x⟩
theorem s_frz (i : Nat) (h : PS X st (tS X.K B m1)) : PS X st (tS X.K B (sFrz i m1)) := h.imp fun D σ H ⟨ρ, s, Hs, fl, s', ok, e, q⟩ => by
  obtain ⟨Hs', ok', x⟩ := ok.frz i
  exact ⟨_, s, Hs', fl, s', ok', e, q.mono x⟩
/-- an expression whose value is dropped -/
def sDrop (f : DE) : DS := fun ρ => (f ρ).bnd fun _ => M.ret (.nx ρ)
theorem s_drop (h : PE X e (tE X.K B f1)) (hs : swapsWith e none pos.line X.env = pure false := by rfl) : PS X (.Expr e pos) (tS X.K B (sDrop f1)) := (ps_expr h hs).imp fun D σ H ⟨ρ, s, Hs, fl, s', ok, e, q⟩ => by
  obtain ⟨d, s1, e1, e2⟩ := M.bnd_some e
  cases e2
  exact ⟨ρ, s, Hs, d, _, ok, e1, fun v Hs1 H1 n1 r1 => q _ Hs1 H1 n1.ok n1.ex⟩

/-! ### own lists changed -/
theorem own_upd {ρ : Rho} {σ : Sg} {s : SS} {Hs H : Hp} {i : Nat} {xs ys : List PD} {p : Addr} {vs ws : List V} (ok : Ok X.K B ρ σ s Hs H) (h : rget ρ i = some (.own xs)) (hv : σ[i]? = some (some (.ref p))) (hp : H p = some (.lst vs)) (hr : RpAll X.K Hs ws ys) :
    Ok X.K B (rset ρ i (some (.own ys))) σ s Hs (upd H p (.lst ws)) := by
  obtain ⟨v, h1, p', vs', h2, h3, h4, h5, h6, h7⟩ := ok.sl i _ h
  rw [hv] at h1
  cases h1
  cases h2
  have hk := ok.hk
  refine ⟨⟨fun a u q => ?_, ?_, hk.ad, hk.ex0, fun a o e n => ?_, hk.nw0, fun a e => ?_⟩, by rw [rset_length]; exact ok.len, fun j w hw => ?_, fun j k ys' zs u g1 g2 g3 g4 => ?_⟩
  · by_cases z : a = p
    · subst z; rw [h4] at q; cases q
    · rw [upd_ne z]; exact hk.sub a u q
  · have st := hk.st
    cases s with
    | none => trivial
    | some z =>
      obtain ⟨g1, g2, g3, g4, g5⟩ := st
      have ad : adrs B.s = [z.sa, z.ca] := hk.ad.symm
      rw [ad] at h6
      have n1 : z.sa ≠ p := fun w => h6 (by rw [w]; exact List.mem_cons_self)
      have n2 : z.ca ≠ p := fun w => h6 (by rw [w]; exact List.mem_cons_of_mem _ List.mem_cons_self)
      exact ⟨g1, g2, g3, by rw [upd_ne n1]; exact g4, by rw [upd_ne n2]; exact g5⟩
  · by_cases z : a = p
    · subst z; rw [h5] at e; cases e
    · rw [upd_ne z]; exact hk.kp0 a o e n
  · by_cases z : a = p
    · subst z; rw [upd_same] at e; cases e
    · rw [upd_ne z] at e; exact hk.dm0 a e
  · by_cases z : j = i
    · subst z
      rw [rget_set_eq ρ j _ (rget_lt h)] at hw
      cases hw
      exact ⟨_, hv, p, ws, rfl, upd_same, h4, h5, h6, hr⟩
    · rw [rget_set_ne ρ i j _ z] at hw
      obtain ⟨u, g1, g2⟩ := ok.sl j w hw
      refine ⟨u, g1, ?_⟩
      cases w with
      | d x => exact g2
      | p a => exact g2
      | own ys2 =>
        obtain ⟨a, us, k1, k2, k3, k4, k5, k6⟩ := g2
        have na : a ≠ p := fun w => by
          subst w
          subst k1
          exact z (ok.dis j i ys2 xs _ hw h g1 hv)
        exact ⟨a, us, k1, by rw [upd_ne na]; exact k2, k3, k4, k5, k6⟩
  · have go : ∀ j' zs, rget (rset ρ i (some (.own ys))) j' = some (.own zs) → ∃ zs', rget ρ j' = some (.own zs') := fun j' zs h' => by
      by_cases z : j' = i
      · subst z; exact ⟨xs, h⟩
      · rw [rget_set_ne ρ i j' _ z] at h'; exact ⟨zs, h'⟩
    obtain ⟨y1, k1⟩ := go j _ g1
    obtain ⟨y2, k2⟩ := go k _ g2
    exact ok.dis j k y1 y2 u k1 k2 g3 g4
/-- found.append(e) -/
def sApp (i : Nat) (f : DE) : DS := fun ρ => (f ρ).bnd fun d s => match rget ρ i with
  | some (.own xs) => if xs.length < LIM then some (.nx (rset ρ i (some (.own (xs ++ [d])))), s) else none
  | _ => none
theorem s_app (i : Nat) {x : Str} {p0 apos cpos pos : Pos} (h : PE X e (tE X.K B f1)) (hN : X.N[i]? = some x := by rfl) (hv : Vis X.env.scope x := by first | exact Or.inl rfl | exact Or.inr (Or.inl rfl) | exact Or.inr (Or.inr rfl)) (hd : (x == ("__debug__" : Str)) = false := by decide)
    (hcd : (x == ("__classdict__" : Str)) = false := by decide) (hbase : attributeBase (.Name x p0) "append" X.env (eval (.Name x p0) X.env) = eval (.Name x p0) X.env := by rfl)
    (hfew : ((backTo cpos (starEach [e] X.env)).all (fun x => !x.1) && (backToKw cpos (keywordEach [] X.env)).all (fun x => x.1.isSome)
      && decide ([e].length + ([] : List Keyword).length + (if ([] : List Keyword).isEmpty then 0 else 1) < 30)) = true := by rfl)
    (hline : (apos.endLine == cpos.line) = true := by rfl) (hs : starEach [e] X.env = [(false, eval e X.env)] := by rfl) (hsw : swapsWith (.Call (.Attribute (.Name x p0) "append" apos) [e] [] cpos) none pos.line X.env = pure false := by rfl) :
    PS X (.Expr (.Call (.Attribute (.Name x p0) "append" apos) [e] [] cpos) pos) (tS X.K B (sApp i f1)) :=
  (ps_expr (pe_bm PySem.F.plainAttrs_list PySem.F.slot_list_append PySem.F.type_list_append mt_append (pe_var hN hv hd hcd) (pa_cons h pa_nil (by rw [hs]; rfl)) hbase hfew hline (by rw [hs]; rfl) (by rfl)) hsw).imp fun D σ H ⟨ρ, s, Hs, fl, s', ok, e, q⟩ => by
    obtain ⟨d, s1, e1, e2⟩ := M.bnd_some e
    cases h : rget ρ i with
    | none => rw [h] at e2; cases e2
    | some z =>
      rw [h] at e2
      cases z with
      | d x => cases e2
      | p a => cases e2
      | own xs =>
        dsimp only at e2
        split at e2
        · rename_i hl
          cases e2
          obtain ⟨v, h1, p, vs, h2, h3, h4, h5, h6, h7⟩ := ok.sl i _ h
          subst h2
          refine ⟨_, h1, .inl ⟨rfl, _, SqL.of h3⟩, ⟨ρ, s, Hs, d, _, ok, e1, fun w Hs1 H1 n1 r1 => ?_⟩⟩
          obtain ⟨v', h1', p', vs', h2', h3', h4', h5', h6', h7'⟩ := n1.ok.sl i _ h
          rw [h1] at h1'
          cases h1'
          cases h2'
          refine ⟨p, vs', w, rfl, rfl, h3', Nat.lt_of_lt_of_le (by rw [h7'.length]; exact hl) lim_line, ?_⟩
          exact q _ Hs1 _ (own_upd n1.ok h h1 h3' (h7'.append (.cons r1 .nil))) n1.ex
        · cases e2
/-- found.pop() -/
def sPop (i : Nat) : DS := fun ρ s => match rget ρ i with
  | some (.own xs) => if xs.isEmpty then none else some (.nx (rset ρ i (some (.own xs.dropLast))), s)
  | _ => none
theorem RpAll.dropLast {K : PySem.W.Frag} {H : Hp} {vs : List V} {ds : List PD} (h : RpAll K H vs ds) : RpAll K H vs.dropLast ds.dropLast := by
  rw [List.dropLast_eq_take, List.dropLast_eq_take, h.length]
  exact h.take _
theorem s_pop (i : Nat) {x : Str} {p0 apos cpos pos : Pos} (hN : X.N[i]? = some x := by rfl) (hv : Vis X.env.scope x := by first | exact Or.inl rfl | exact Or.inr (Or.inl rfl) | exact Or.inr (Or.inr rfl)) (hd : (x == ("__debug__" : Str)) = false := by decide)
    (hcd : (x == ("__classdict__" : Str)) = false := by decide) (hbase : attributeBase (.Name x p0) "pop" X.env (eval (.Name x p0) X.env) = eval (.Name x p0) X.env := by rfl)
    (hline : (apos.endLine == cpos.line) = true := by rfl) (hsw : swapsWith (.Call (.Attribute (.Name x p0) "pop" apos) [] [] cpos) none pos.line X.env = pure false := by rfl) :
    PS X (.Expr (.Call (.Attribute (.Name x p0) "pop" apos) [] [] cpos) pos) (tS X.K B (sPop i)) :=
  (ps_expr (pe_bm0 PySem.F.plainAttrs_list PySem.F.slot_list_pop PySem.F.type_list_pop mt_pop (pe_var hN hv hd hcd) hbase hline) hsw).imp fun D σ H ⟨ρ, s, Hs, fl, s', ok, e, q⟩ => by
    unfold sPop at e
    cases h : rget ρ i with
    | none => rw [h] at e; cases e
    | some z =>
      rw [h] at e
      cases z with
      | d x => cases e
      | p a => cases e
      | own xs =>
        dsimp only at e
        split at e
        · cases e
        · rename_i hl
          cases e
          obtain ⟨v, h1, p, vs, h2, h3, h4, h5, h6, h7⟩ := ok.sl i _ h
          subst h2
          have hne : vs ≠ [] := fun z => hl (by rw [h7.isEmpty, z]; rfl)
          have hlt : vs.length - 1 < vs.length := by have := List.length_pos_iff.mpr hne; omega
          exact ⟨_, h1, .inl ⟨rfl, _, SqL.of h3⟩, p, vs, vs[vs.length - 1], rfl, rfl, h3, List.getElem?_eq_getElem hlt, q _ Hs _ (own_upd ok h h1 h3 h7.dropLast) (Ex.refl _)⟩

/-! ### targets -/
abbrev DG := PD → Rho → Option Rho
/-- but for some slots the same -/
def Bt (vs : List Nat) (σ σ' : Sg) : Prop := σ'.length = σ.length ∧ ∀ j : Nat, j ∉ vs → σ'[j]? = σ[j]?
theorem Bt.refl {vs : List Nat} {σ : Sg} : Bt vs σ σ := ⟨rfl, fun _ _ => rfl⟩
theorem Bt.trans {vs : List Nat} {σ σ1 σ2 : Sg} (a : Bt vs σ σ1) (b : Bt vs σ1 σ2) : Bt vs σ σ2 := ⟨b.1.trans a.1, fun j h => (b.2 j h).trans (a.2 j h)⟩
theorem Bt.sub {vs ws : List Nat} {σ σ1 : Sg} (a : Bt vs σ σ1) (h : ∀ i ∈ vs, i ∈ ws) : Bt ws σ σ1 := ⟨a.1, fun j n => a.2 j fun m => n (h j m)⟩
/-- what a target leaves -/
structure Gx (K : PySem.W.Frag) (B : Base) (vs : List Nat) (ρ' : Rho) (σ : Sg) (s : SS) (Hs H : Hp) (σ' : Sg) (Hs' H' : Hp) : Prop where
  ok : Ok K B ρ' σ' s Hs' H'
  ex : Ex Hs Hs'
  kp : ∀ a o, H a = some o → a ∉ adrs B.s → H' a = some o
  nw : ∀ a o, H a = some o → Hs a = none → Hs' a = none
  bt : Bt vs σ σ'
def tG (K : PySem.W.Frag) (B : Base) (vs : List Nat) (g : DG) : TG := fun v σ H Q => ∃ ρ s Hs d ρ', Ok K B ρ σ s Hs H ∧ Rp K Hs v d ∧ g d ρ = some ρ' ∧ ∀ σ' Hs' H', Gx K B vs ρ' σ s Hs H σ' Hs' H' → Q σ' H'
def gVar (i : Nat) : DG := fun d ρ => some (rset ρ i (some (.d d)))
theorem g_var (i : Nat) {x : Str} {pos : Pos} (hN : X.N.Nodup) (hi : X.N[i]? = some x := by rfl) (hx : Loc X.env.scope x := by first | exact Or.inl rfl | exact Or.inr rfl) (hf : X.fn x = true ∨ X.env.scope.names.lookup x = some .local := by first | exact .inl rfl | exact .inr rfl | assumption) :
    PG X (.Name x pos) (tG X.K B [i] (gVar i)) := (pg_name hN hi hx hf).imp fun v σ H Q ⟨ρ, s, Hs, d, ρ', ok, r, e, q⟩ => by
  cases e
  exact q _ Hs H ⟨ok.setD r, Ex.refl _, fun _ _ h _ => h, fun _ _ _ n => n, by rw [List.length_set], fun j h => by
    rw [List.getElem?_set_ne]
    intro z
    exact h (by rw [z]; exact List.mem_cons_self)⟩
end
end DL

/-! DL7: targets of several names, what is walked, loops, functions -/
namespace DL
open PySem PySem.Spec PyProof.Rows L2 Evl
section
variable {X : Cx} {B : Base} {a b c e tg : Expr} {es : List Expr} {pos : Pos} {f1 f2 f3 : DE} {st : Stmt} {rest body : List Stmt} {m1 m2 m3 : DS} {t1 t2 : DB} {g : DG}

/-! ### (a, b) = a pair -/
variable {vs ws : List Nat}
abbrev DGs := List PD → Rho → Option Rho
def tGs (K : PySem.W.Frag) (B : Base) (ws : List Nat) (g : DGs) : TGs := fun vs σ H Q => ∃ ρ s Hs ds ρ', Ok K B ρ σ s Hs H ∧ RpAll K Hs vs ds ∧ g ds ρ = some ρ' ∧ ∀ σ' Hs' H', Gx K B ws ρ' σ s Hs H σ' Hs' H' → Q σ' H'
def gNilD : DGs := fun ds ρ => match ds with
  | [] => some ρ
  | _ => none
def gConsD (g : DG) (r : DGs) : DGs := fun ds ρ => match ds with
  | d :: ds => (g d ρ).bind (r ds)
  | [] => none
theorem _root_.L2.PGs.imp {X : Cx} {e : List Expr} {t t' : TGs} (h : PGs X e t) (i : ∀ v σ H Q, t' v σ H Q → t v σ H Q) : PGs X e t' := ⟨fun pins s σ H v u Q I r q => h.run pins s σ H v u Q I r (i _ _ _ _ q)⟩
theorem gs_nil : PGs X [] (tGs X.K B [] gNilD) := pgs_nil.imp fun v σ H Q ⟨ρ, s, Hs, ds, ρ', ok, r, e, q⟩ => by
  cases r with
  | nil => cases e; exact ⟨rfl, q σ Hs H ⟨ok, Ex.refl _, fun _ _ h _ => h, fun _ _ _ n => n, Bt.refl⟩⟩
  | cons _ _ => cases e
theorem gs_cons {r : DGs} (h1 : PG X e (tG X.K B vs g)) (h2 : PGs X es (tGs X.K B ws r)) (hs : (assignEach (e :: es) X.env).map (·.2) = assign e X.env :: (assignEach es X.env).map (·.2) := by rfl) : PGs X (e :: es) (tGs X.K B (vs ++ ws) (gConsD g r)) :=
  (pgs_cons h1 h2 hs).imp fun us σ H Q ⟨ρ, s, Hs, ds, ρ', ok, rr, e, q⟩ => by
    cases rr with
    | nil => cases e
    | cons r1 r2 =>
      unfold gConsD at e
      dsimp only at e
      revert e
      rename_i v us d ds _
      intro e
      cases h : g d ρ with
      | none => rw [h] at e; cases e
      | some ρ1 =>
        rw [h] at e
        refine ⟨v, us, rfl, ρ, s, Hs, d, ρ1, ok, r1, h, fun σ1 Hs1 H1 x1 => ?_⟩
        refine ⟨ρ1, s, Hs1, ds, ρ', x1.ok, RpAll.mono x1.ex r2, e, fun σ2 Hs2 H2 x2 => q σ2 Hs2 H2 ⟨x2.ok, x1.ex.trans x2.ex, fun a o h n => x2.kp a o (x1.kp a o h n) n, fun a o h n => ?_, (x1.bt.sub fun i m => List.mem_append_left _ m).trans (x2.bt.sub fun i m => List.mem_append_right _ m)⟩⟩
        by_cases z : a ∈ adrs B.s
        · exact x2.ok.hk.st.adr (by rw [x2.ok.hk.ad]; exact z)
        · exact x2.nw a o (x1.kp a o h z) (x1.nw a o h n)
def gTupD (n : Nat) (r : DGs) : DG := fun d ρ => match d with
  | .tuple ds => if ds.length = n then r ds ρ else none
  | _ => none
theorem g_tup {k : Nat} {r : DGs} {n : Nat} (hc : X.calm = true) (h : PGs X es (tGs X.K B ws r)) (hn : (assignEach es X.env).length = n := by rfl) (hst : (assignEach es X.env).findIdx? (·.1) = none := by rfl) : PG X (.Tuple es k pos) (tG X.K B ws (gTupD n r)) :=
  (pg_tup hc h hn hst).imp fun v σ H Q ⟨ρ, s, Hs, d, ρ', ok, rr, e, q⟩ => by
    cases rr <;> first | (cases e; done) | skip
    rename_i p vs ds hp hs _
    unfold gTupD at e
    dsimp only at e
    split at e
    · rename_i hl
      exact ⟨p, vs, rfl, ex_t ok.hk.sub hp, by rw [hs.length]; exact hl, ρ, s, Hs, ds, ρ', ok, hs, e, q⟩
    · cases e
/-- target = value -/
def sAsgG (g : DG) (f : DE) : DS := fun ρ => (f ρ).bnd fun d s => match g d ρ with
  | some ρ' => some (.nx ρ', s)
  | none => none
theorem s_asgG (h : PE X e (tE X.K B f1)) (hg : PG X tg (tG X.K B vs g)) (hs : swapsWithSole [tg] e pos.line X.env = pure false := by rfl) (hw : swappedStores [tg] e X.env = pure none := by rfl)
    (h1 : (assignEach [tg] X.env).map (·.2) = [assign tg X.env] := by rfl) : PS X (.Assign [tg] e pos) (tS X.K B (sAsgG g f1)) := (ps_asg h hg hs hw h1).imp fun D σ H ⟨ρ, s, Hs, fl, s', ok, e, q⟩ => by
  obtain ⟨d, s1, e1, e2⟩ := M.bnd_some e
  refine ⟨ρ, s, Hs, d, s1, ok, e1, fun v Hs1 H1 n1 r1 => ?_⟩
  split at e2
  · rename_i ρ' hg
    cases e2
    exact ⟨ρ, _, Hs1, d, ρ', n1.ok, r1, hg, fun σ2 Hs2 H2 x => q σ2 Hs2 H2 x.ok (n1.ex.trans x.ex)⟩
  · cases e2
/-- a, b = x, y with plain local names -/
def sPar (i j : Nat) (f : DT) : DS := fun ρ => (f ρ).bnd fun ds s => match ds with
  | [x, y] => some (.nx (rset (rset ρ i (some (.d x))) j (some (.d y))), s)
  | _ => none
theorem s_par {i j : Nat} {x y : Str} {px py pt : Pos} {kt k2 pt2} {f : DT} (hc : X.calm = true) (hN : X.N.Nodup) (ha : PA X [a, b] (tL X.K B f)) (hij : i ≠ j) (hi : X.N[i]? = some x := by rfl) (hj : X.N[j]? = some y := by rfl)
    (hx : X.env.scope.names.lookup x = some .local := by rfl) (hy : X.env.scope.names.lookup y = some .local := by rfl)
    (hw : swappedStores [.Tuple [.Name x px, .Name y py] kt pt] (.Tuple [a, b] k2 pt2) X.env = pure (some [x, y]) := by rfl)
    (hs : swapsWithSole [.Tuple [.Name x px, .Name y py] kt pt] (.Tuple [a, b] k2 pt2) pos.line X.env = pure false := by rfl) :
    PS X (.Assign [.Tuple [.Name x px, .Name y py] kt pt] (.Tuple [a, b] k2 pt2) pos) (tS X.K B (sPar i j f)) := (ps_par hc hN hi hj hij hx hy ha hw hs).imp fun D σ H ⟨ρ, s, Hs, fl, s', ok, e, q⟩ => by
  obtain ⟨ds, s1, e1, e2⟩ := M.bnd_some e
  refine ⟨ρ, s, Hs, ds, s1, ok, e1, fun vs Hs1 H1 n1 r1 => ?_⟩
  match ds, vs, r1, e2 with
  | [x, y], _, .cons r1 (.cons r2 .nil), e2 =>
    cases e2
    exact ⟨_, _, rfl, q _ Hs1 H1 ((n1.ok.setD r1).setD r2) n1.ex⟩
def sPar3 (i j l : Nat) (f : DT) : DS := fun ρ => (f ρ).bnd fun ds s => match ds with
  | [x, y, z] => some (.nx (rset (rset (rset ρ i (some (.d x))) j (some (.d y))) l (some (.d z))), s)
  | _ => none
theorem s_par3 {i j l : Nat} {x y z : Str} {px py pz pt : Pos} {kt k2 pt2} {f : DT} (hc : X.calm = true) (hN : X.N.Nodup) (ha : PA X [a, b, c] (tL X.K B f)) (hij : i ≠ j) (hil : i ≠ l) (hjl : j ≠ l) (hi : X.N[i]? = some x := by rfl) (hj : X.N[j]? = some y := by rfl) (hl : X.N[l]? = some z := by rfl)
    (hx : X.env.scope.names.lookup x = some .local := by rfl) (hy : X.env.scope.names.lookup y = some .local := by rfl) (hz : X.env.scope.names.lookup z = some .local := by rfl)
    (hw : swappedStores [.Tuple [.Name x px, .Name y py, .Name z pz] kt pt] (.Tuple [a, b, c] k2 pt2) X.env = pure (some [x, y, z]) := by rfl)
    (hs : swapsWithSole [.Tuple [.Name x px, .Name y py, .Name z pz] kt pt] (.Tuple [a, b, c] k2 pt2) pos.line X.env = pure false := by rfl) :
    PS X (.Assign [.Tuple [.Name x px, .Name y py, .Name z pz] kt pt] (.Tuple [a, b, c] k2 pt2) pos) (tS X.K B (sPar3 i j l f)) := (ps_par3 hc hN hi hj hl hij hil hjl hx hy hz ha hw hs).imp fun D σ H ⟨ρ, s, Hs, fl, s', ok, e, q⟩ => by
  obtain ⟨ds, s1, e1, e2⟩ := M.bnd_some e
  refine ⟨ρ, s, Hs, ds, s1, ok, e1, fun vs Hs1 H1 n1 r1 => ?_⟩
  match ds, vs, r1, e2 with
  | [x, y, z], _, .cons r1 (.cons r2 (.cons r3 .nil)), e2 =>
    cases e2
    exact ⟨_, _, _, rfl, q _ Hs1 H1 (((n1.ok.setD r1).setD r2).setD r3) n1.ex⟩
/-- name += e -/
def sAug (i : Nat) (f : DE) : DS := fun ρ s => match rget ρ i with
  | some (.d x) => (f ρ).bnd (fun y => (M.lift (addI x y)).bnd fun z => M.ret (.nx (rset ρ i (some (.d z))))) s
  | _ => none
theorem s_aug (i : Nat) {x : Str} {pos' : Pos} (h : PE X e (tE X.K B f1)) (hN : X.N.Nodup) (hi : X.N[i]? = some x := by rfl) (hx : Loc X.env.scope x := by first | exact Or.inl rfl | exact Or.inr rfl)
    (hf : X.fn x = true ∨ X.env.scope.names.lookup x = some .local := by first | exact .inl rfl | exact .inr rfl | assumption) : PS X (.AugAssign (.Name x pos') .Add e pos) (tS X.K B (sAug i f1)) := (ps_aug hN hi hx h ip_add hf).imp fun D σ H ⟨ρ, s, Hs, fl, s', ok, e, q⟩ => by
  unfold sAug at e
  cases h : rget ρ i with
  | none => rw [h] at e; cases e
  | some z =>
    rw [h] at e
    cases z with
    | p a => cases e
    | own xs => cases e
    | d x =>
      dsimp only at e
      obtain ⟨y, s1, e1, e2⟩ := M.bnd_some e
      obtain ⟨z, s2, e2, e3⟩ := M.bnd_some e2
      obtain ⟨e4, rfl⟩ := M.lift_some e2
      cases e3
      obtain ⟨v, h1, h2⟩ := ok.sl i _ h
      refine ⟨v, h1, ρ, s, Hs, y, _, ok, e1, fun w Hs1 H1 n1 r1 => ?_⟩
      cases h2 <;> cases r1 <;> first | (cases e4; done) | skip
      cases e4
      exact ⟨_, _, rfl, rfl, q _ Hs1 H1 (n1.ok.setD (.int _)) n1.ex⟩

/-! ### what is walked -/
def Yl (K : PySem.W.Frag) (B : Base) (J : It) (Hs0 : Hp) (xs : List PD) : Prop := ∀ (i : Nat) (ρ : Rho) (σ : Sg) (s : SS) (Hs H : Hp), Ok K B ρ σ s Hs H → Ex Hs0 Hs →
  (∀ d, xs[i]? = some d → J.go i H ∧ ∀ x H', J.yld i H x H' → ∃ Hs', Nx K B ρ σ s Hs H Hs' H' ∧ Rp K Hs' x d) ∧ (xs.length ≤ i → J.stop i H)
def tI (K : PySem.W.Frag) (B : Base) (m : DT) : TI := fun σ H R => ∃ ρ s Hs xs s', Ok K B ρ σ s Hs H ∧ m ρ s = some (xs, s') ∧ ∀ J Hs' H', Nx K B ρ σ s' Hs H Hs' H' → Yl K B J Hs' xs → R J H'
theorem yl_list {p : Addr} {vs : List V} {ds : List PD} {Hs0 : Hp} (h : Hs0 p = some (.lst vs)) (r : RpAll X.K Hs0 vs ds) : Yl X.K B (Itl X.K p) Hs0 ds := fun i ρ σ s Hs H ok x => by
  have hp : H p = some (.lst vs) := ok.hk.sub _ _ (x _ _ h)
  refine ⟨fun d hd => ?_, fun hl => ⟨vs, SqL.of hp, by rw [r.length]; exact hl⟩⟩
  obtain ⟨v, h1, h2⟩ := r.get hd
  refine ⟨⟨vs, v, SqL.of hp, h1⟩, fun y H' hy => ?_⟩
  obtain ⟨rfl, hy⟩ := hy
  have := hy vs (SqL.of hp)
  rw [h1] at this
  cases this
  exact ⟨Hs, Nx.refl ok, h2.mono x⟩
theorem yl_tup {p : Addr} {vs : List V} {ds : List PD} {Hs0 : Hp} (h : SqT X.K Hs0 p vs) (r : RpAll X.K Hs0 vs ds) : Yl X.K B (Itt X.K p) Hs0 ds := fun i ρ σ s Hs H ok x => by
  have hp : SqT X.K H p vs := ex_t ok.hk.sub (ex_t x h)
  refine ⟨fun d hd => ?_, fun hl => ⟨vs, hp, by rw [r.length]; exact hl⟩⟩
  obtain ⟨v, h1, h2⟩ := r.get hd
  refine ⟨⟨vs, v, hp, h1⟩, fun y H' hy => ?_⟩
  obtain ⟨rfl, hy⟩ := hy
  have := hy vs hp
  rw [h1] at this
  cases this
  exact ⟨Hs, Nx.refl ok, h2.mono x⟩
/-- a list -/
def lstOf : PD → Option (List PD)
  | .list xs => some xs
  | _ => none
def tupOf : PD → Option (List PD)
  | .tuple xs => some xs
  | _ => none
def iOf (o : PD → Option (List PD)) (f : DE) : DT := fun ρ => (f ρ).bnd fun x => M.lift (o x)
theorem i_list (h : PE X e (tE X.K B f1)) : PI X tg e (tI X.K B (iOf lstOf f1)) := (pi_list h).imp fun σ H R ⟨ρ, s, Hs, xs, s', ok, e, q⟩ => by
  obtain ⟨d, s1, e1, e2⟩ := M.bnd_some e
  obtain ⟨e3, rfl⟩ := M.lift_some e2
  refine ⟨ρ, s, Hs, d, _, ok, e1, fun v Hs1 H1 n1 r1 => ?_⟩
  cases r1 <;> first | (cases e3; done) | skip
  rename_i p vs ds hp hs
  cases e3
  exact ⟨p, rfl, ⟨vs, SqL.of (n1.ok.hk.sub _ _ hp)⟩, q _ Hs1 H1 n1 (yl_list hp hs)⟩
theorem i_tup (h : PE X e (tE X.K B f1)) : PI X tg e (tI X.K B (iOf tupOf f1)) := (pi_tup h).imp fun σ H R ⟨ρ, s, Hs, xs, s', ok, e, q⟩ => by
  obtain ⟨d, s1, e1, e2⟩ := M.bnd_some e
  obtain ⟨e3, rfl⟩ := M.lift_some e2
  refine ⟨ρ, s, Hs, d, _, ok, e1, fun v Hs1 H1 n1 r1 => ?_⟩
  cases r1 <;> first | (cases e3; done) | skip
  rename_i p vs ds hp hs
  cases e3
  exact ⟨p, rfl, ⟨vs, ex_t n1.ok.hk.sub hp⟩, q _ Hs1 H1 n1 (yl_tup hp hs)⟩
/-- the signs of a text -/
def signs (x : Str) : List PD := x.cps.toList.map fun c => .str ⟨⟨[c]⟩⟩
def strOf : PD → Option (List PD)
  | .str x => some (signs x)
  | _ => none
theorem i_str (h : PE X e (tE X.K B f1)) : PI X tg e (tI X.K B (iOf strOf f1)) := (pi_str h).imp fun σ H R ⟨ρ, s, Hs, xs, s', ok, e, q⟩ => by
  obtain ⟨d, s1, e1, e2⟩ := M.bnd_some e
  obtain ⟨e3, rfl⟩ := M.lift_some e2
  refine ⟨ρ, s, Hs, d, _, ok, e1, fun v Hs1 H1 n1 r1 => ?_⟩
  cases r1 <;> first | (cases e3; done) | skip
  rename_i x
  cases e3
  refine ⟨x, rfl, q _ Hs1 H1 n1 fun i ρ' σ' s2 Hs' H' ok' x' => ⟨fun d hd => ?_, fun hl => ?_⟩⟩
  · unfold signs at hd
    rw [List.getElem?_map] at hd
    cases h : x.cps.toList[i]? with
    | none => rw [h] at hd; cases hd
    | some c =>
      rw [h] at hd
      cases hd
      have hi : i < x.cps.size := by have := (List.getElem?_eq_some_iff.mp h).1; simpa using this
      refine ⟨hi, fun y H2 hy => ?_⟩
      obtain ⟨rfl, c', h2, rfl⟩ := hy
      have : c' = c := by
        rw [← Array.getElem?_toList, h] at h2
        exact (Option.some.inj h2).symm
      subst this
      exact ⟨Hs', Nx.refl ok', .str _⟩
  · show x.cps.size ≤ i
    unfold signs at hl
    simpa using hl
/-- range(n), range(a, b) -/
def rangeL (lo : Int) (n : Nat) : List PD := (List.range n).map fun (k : Nat) => .int (lo + (k : Int))
theorem yl_range {lo : Int} {n : Nat} {Hs0 : Hp} : Yl X.K B (Itr lo n) Hs0 (rangeL lo n) := fun i ρ σ s Hs H ok x => by
  unfold rangeL
  refine ⟨fun d hd => ?_, fun hl => ?_⟩
  · rw [List.getElem?_map] at hd
    cases h : (List.range n)[i]? with
    | none => rw [h] at hd; cases hd
    | some k =>
      rw [h] at hd
      cases hd
      obtain ⟨hi, hk⟩ := List.getElem?_eq_some_iff.mp h
      rw [List.length_range] at hi
      rw [List.getElem_range] at hk
      subst hk
      refine ⟨hi, fun y H' hy => ?_⟩
      obtain ⟨rfl, rfl⟩ := hy
      exact ⟨Hs, Nx.refl ok, .int _⟩
  · rw [List.length_map, List.length_range] at hl
    exact hl
def RLIM : Int := 1000000000
def iRange1 (f : DE) : DT := fun ρ => (f ρ).bnd fun x s => match x with
  | .int j => if -RLIM ≤ j ∧ j ≤ RLIM then some (rangeL 0 j.toNat, s) else none
  | _ => none
theorem i_range1 {p : Pos} (h : PE X e (tE X.K B f1)) (hm : X.mg "range" = none) (hg : Gl X "range" := by rfl) (hs : starEach [e] X.env = [(false, eval e X.env)] := by rfl) : PI X tg (.Call (.Name "range" p) [e] [] pos) (tI X.K B (iRange1 f1)) :=
  (pi_range1 hg hm (pa_cons h pa_nil (by rw [hs]; rfl)) hs).imp fun σ H R ⟨ρ, s, Hs, xs, s', ok, e, q⟩ => by
    obtain ⟨d, s1, e1, e2⟩ := M.bnd_some e
    refine ⟨ρ, s, Hs, d, s1, ok, e1, fun v Hs1 H1 n1 r1 => ?_⟩
    cases r1 <;> first | (cases e2; done) | skip
    rename_i j
    dsimp only at e2
    split at e2
    · rename_i hj
      cases e2
      have e62 : (2 : Int) ^ 62 = 4611686018427387904 := by decide
      have er : RLIM = 1000000000 := rfl
      exact ⟨j, rfl, by omega, by omega, q _ Hs1 H1 n1 yl_range⟩
    · cases e2
def iRange2 (f g : DE) : DT := fun ρ => (f ρ).bnd fun x => (g ρ).bnd fun y s => match x, y with
  | .int i, .int j => if -RLIM ≤ i ∧ i ≤ RLIM ∧ -RLIM ≤ j ∧ j ≤ RLIM then some (rangeL i (j - i).toNat, s) else none
  | _, _ => none
theorem i_range2 {p : Pos} (ha : PE X a (tE X.K B f1)) (hb : PE X b (tE X.K B f2)) (hm : X.mg "range" = none) (hg : Gl X "range" := by rfl) (hs : starEach [a, b] X.env = [(false, eval a X.env), (false, eval b X.env)] := by rfl) (hs2 : starEach [b] X.env = [(false, eval b X.env)] := by rfl) : PI X tg (.Call (.Name "range" p) [a, b] [] pos) (tI X.K B (iRange2 f1 f2)) :=
  (pi_range2 hg hm (pa_cons ha (pa_cons hb pa_nil (by rw [hs2]; rfl)) (by rw [hs, hs2])) hs hs2).imp fun σ H R ⟨ρ, s, Hs, xs, s', ok, e, q⟩ => by
    obtain ⟨d, s1, e1, e2⟩ := M.bnd_some e
    obtain ⟨d2, s2, e2, e3⟩ := M.bnd_some e2
    refine ⟨ρ, s, Hs, d, s1, ok, e1, fun v Hs1 H1 n1 r1 => ⟨ρ, s1, Hs1, d2, s2, n1.ok, e2, fun v2 Hs2 H2 n2 r2 => ?_⟩⟩
    cases r1 <;> cases r2 <;> first | (cases e3; done) | skip
    rename_i i _ j
    dsimp only at e3
    split at e3
    · rename_i hj
      cases e3
      have e62 : (2 : Int) ^ 62 = 4611686018427387904 := by decide
      have er : RLIM = 1000000000 := rfl
      exact ⟨i, j, rfl, ⟨by omega, by omega, by omega, by omega⟩, q _ Hs2 H2 (n1.trans n2) yl_range⟩
    · cases e3
/-! ### for -/
def loopD (g : DG) (f : DS) : List PD → DS
  | [] => sNil
  | d :: ds => fun ρ s => match g d ρ with
    | none => none
    | some ρ1 => match f ρ1 s with
      | some (.nx ρ2, s2) => loopD g f ds ρ2 s2
      | some (.ct ρ2, s2) => loopD g f ds ρ2 s2
      | some (.bk ρ2, s2) => some (.nx ρ2, s2)
      | some (.rt d, s2) => some (.rt d, s2)
      | none => none
def sFor (m : DT) (g : DG) (f : DS) : DS := fun ρ => (m ρ).bnd fun xs => loopD g f xs ρ
theorem s_for {iter : Expr} {mi : DT} (hp : PassesOwn (model X.prog X.w) X.A X.env X.xe) (hc : X.calm = true) (hi : PI X tg iter (tI X.K B mi)) (hg : PG X tg (tG X.K B vs g)) (hb : PSs X body (tS X.K B m1))
    (hs : ∀ x, foldedSetIterable iter X.env x = pure x := by intro _; rfl) : PS X (.For tg iter body [] pos) (tS X.K B (sFor mi g m1)) := (ps_for hp hc hi hg hb hs).imp fun D σ H ⟨ρ, s, Hs, fl, s', ok, e, q⟩ => by
  obtain ⟨xs, s1, e1, e2⟩ := M.bnd_some e
  refine ⟨ρ, s, Hs, xs, s1, ok, e1, fun J Hs1 H1 n1 yl => ?_⟩
  refine ⟨fun i n σ H => n = xs.length - i ∧ ∃ ρ s Hs, Ok X.K B ρ σ s Hs H ∧ Ex Hs1 Hs ∧ i ≤ xs.length ∧ loopD g m1 (xs.drop i) ρ s = some (fl, s'), ⟨xs.length, by simp, ρ, s1, Hs1, n1.ok, Ex.refl _, Nat.zero_le _, by rw [List.drop_zero]; exact e2⟩, ?_⟩
  rintro i n σ2 H2 ⟨rfl, ρ2, s2, Hs2, ok2, x2, hi2, e3⟩
  obtain ⟨y1, y2⟩ := yl i ρ2 σ2 s2 Hs2 H2 ok2 x2
  by_cases hlt : i < xs.length
  · rw [List.drop_eq_getElem_cons hlt] at e3
    obtain ⟨go, yd⟩ := y1 xs[i] (List.getElem?_eq_getElem hlt)
    unfold loopD at e3
    cases hg1 : g xs[i] ρ2 with
    | none => rw [hg1] at e3; cases e3
    | some ρ3 =>
      rw [hg1] at e3
      dsimp only at e3
      refine .inr ⟨go, fun σ' H' => ∃ ρ s Hs, Ok X.K B ρ σ' s Hs H' ∧ Ex Hs1 Hs ∧ loopD g m1 (xs.drop (i + 1)) ρ s = some (fl, s'), fun σ' H' ⟨ρ', s4, Hs', o4, x4, e4⟩ => ⟨xs.length - (i + 1), by omega, rfl, ρ', s4, Hs', o4, x4, hlt, e4⟩, fun x H' hy => ?_⟩
      obtain ⟨Hs3, n3, r3⟩ := yd x H' hy
      refine ⟨ρ2, s2, Hs3, xs[i], ρ3, n3.ok, r3, hg1, fun σ4 Hs4 H4 ⟨ok4, x4, _, _, _⟩ => ?_⟩
      cases hm : m1 ρ3 s2 with
      | none => rw [hm] at e3; cases e3
      | some p =>
        obtain ⟨f5, s5⟩ := p
        rw [hm] at e3
        refine ⟨ρ3, s2, Hs4, f5, s5, ok4, hm, ?_⟩
        have xx : Ex Hs1 Hs4 := x2.trans (n3.ex.trans x4)
        cases f5 with
        | nx ρ5 => exact fun σ6 Hs6 H6 ok6 x6 => ⟨ρ5, s5, Hs6, ok6, xx.trans x6, e3⟩
        | ct ρ5 => exact fun σ6 Hs6 H6 ok6 x6 => ⟨ρ5, s5, Hs6, ok6, xx.trans x6, e3⟩
        | bk ρ5 => cases e3; exact fun σ6 Hs6 H6 ok6 x6 => q σ6 Hs6 H6 ok6 (n1.ex.trans (xx.trans x6))
        | rt d => cases e3; exact q
  · have hle : i = xs.length := by omega
    subst hle
    rw [List.drop_length] at e3
    cases e3
    exact .inl ⟨y2 (Nat.le_refl _), q σ2 Hs2 H2 ok2 (n1.ex.trans x2)⟩
/-! ### while: so many turns at most -/
def whileD (t : DB) (f : DS) : Nat → DS
  | 0 => sFail
  | n + 1 => fun ρ s => match t ρ s with
    | none => none
    | some (false, s1) => some (.nx ρ, s1)
    | some (true, s1) => match f ρ s1 with
      | some (.nx ρ2, s2) => whileD t f n ρ2 s2
      | some (.ct ρ2, s2) => whileD t f n ρ2 s2
      | some (.bk ρ2, s2) => some (.nx ρ2, s2)
      | some (.rt d, s2) => some (.rt d, s2)
      | none => none
theorem s_while (n : Nat) (hp : PassesOwn (model X.prog X.w) X.A X.env X.xe) (hc : PT X c (tB X.K B t1)) (hb : PSs X body (tS X.K B m1)) : PS X (.While c body [] pos) (tS X.K B (whileD t1 m1 n)) := (ps_while hp hc hb).imp fun D σ H ⟨ρ, s, Hs, fl, s', ok, e, q⟩ => by
  refine ⟨fun n σ H => ∃ ρ s Hs1, Ok X.K B ρ σ s Hs1 H ∧ Ex Hs Hs1 ∧ whileD t1 m1 n ρ s = some (fl, s'), ⟨n, ρ, s, Hs, ok, Ex.refl _, e⟩, ?_⟩
  rintro n σ2 H2 ⟨ρ2, s2, Hs2, ok2, x2, e2⟩
  cases n with
  | zero => cases e2
  | succ n =>
    unfold whileD at e2
    cases ht : t1 ρ2 s2 with
    | none => rw [ht] at e2; cases e2
    | some p =>
      obtain ⟨b, s3⟩ := p
      rw [ht] at e2
      refine ⟨ρ2, s2, Hs2, b, s3, ok2, ht, fun Hs3 H3 n3 => ?_⟩
      cases b with
      | false =>
        cases e2
        exact q σ2 Hs3 H3 n3.ok (x2.trans n3.ex)
      | true =>
        dsimp only at e2
        refine ⟨fun σ' H' => ∃ ρ s Hs1, Ok X.K B ρ σ' s Hs1 H' ∧ Ex Hs Hs1 ∧ whileD t1 m1 n ρ s = some (fl, s'), fun σ' H' h => ⟨n, Nat.lt_succ_self _, h⟩, ?_⟩
        cases hm : m1 ρ2 s3 with
        | none => rw [hm] at e2; cases e2
        | some p =>
          obtain ⟨f5, s5⟩ := p
          rw [hm] at e2
          refine ⟨ρ2, s3, Hs3, f5, s5, n3.ok, hm, ?_⟩
          have xx : Ex Hs Hs3 := x2.trans n3.ex
          cases f5 with
          | nx ρ5 => exact fun σ6 Hs6 H6 ok6 x6 => ⟨ρ5, s5, Hs6, ok6, xx.trans x6, e2⟩
          | ct ρ5 => exact fun σ6 Hs6 H6 ok6 x6 => ⟨ρ5, s5, Hs6, ok6, xx.trans x6, e2⟩
          | bk ρ5 => cases e2; exact fun σ6 Hs6 H6 ok6 x6 => q σ6 Hs6 H6 ok6 (xx.trans x6)
          | rt d => cases e2; exact q
end

/-! ### a function by its body -/
def slOf : Ag → Sl
  | .d x => .d x
  | .p a => .p a
def startD (n : Nat) (ds : List Ag) : Rho := ds.map (fun g => some (slOf g)) ++ List.replicate (n - ds.length) none
def runD (n : Nat) (f : DS) : Fn := fun ds s => match f (startD n ds) s with
  | some (.rt d, s') => some (d, s')
  | some (.nx _, s') => some (.none, s')
  | _ => none
section
variable {P : Program} {w : World} {K : PySem.W.Frag} {mg : Str → Option Value} {base : Heap}
theorem rget_start : ∀ (ds : List Ag) (m i : Nat) (e : Sl), rget (ds.map (fun g => some (slOf g)) ++ List.replicate m none) i = some e → ∃ g, ds[i]? = some g ∧ e = slOf g
  | [], m, i, e, h => by
    exfalso
    have : ∀ (m i : Nat), rget (List.replicate m none) i = none := fun m => by
      induction m with
      | zero => intro i; rfl
      | succ m ih => intro i; cases i with
        | zero => rfl
        | succ i => exact ih i
    rw [List.map_nil, List.nil_append, this] at h
    cases h
  | g :: ds, m, 0, e, h => by
    cases h
    exact ⟨g, rfl, rfl⟩
  | g :: ds, m, i + 1, e, h => by
    obtain ⟨g', h1, h2⟩ := rget_start ds m i e h
    exact ⟨g', by simpa using h1, h2⟩
theorem AgAll.get {K : PySem.W.Frag} {Hs : Hp} : ∀ {vs : List V} {ds : List Ag} {i : Nat} {g : Ag}, AgAll K Hs vs ds → ds[i]? = some g → ∃ v, vs[i]? = some v ∧ AgOk K Hs v g
  | _, _, i, g, .nil, h => by simp at h
  | _, _, 0, g, .cons r _, h => by simp at h; subst h; exact ⟨_, rfl, r⟩
  | _, _, i + 1, g, .cons _ t, h => by
    obtain ⟨v, h1, h2⟩ := AgAll.get (i := i) t (by simpa using h)
    exact ⟨v, by simpa using h1, h2⟩
theorem ok_start {N : List Str} {vs : List V} {ds : List Ag} {s : SS} {Hs H : Hp} (hx : Ex Hs H) (hs : SOk s Hs H) (ha : AgAll K Hs vs ds) : Ok K ⟨H, Hs, s⟩ (startD N.length ds) (L2.start N vs) s Hs H := by
  refine ⟨⟨hx, hs, rfl, Ex.refl _, fun _ _ h _ => h, fun a o h => .inl h, fun _ h => h⟩, ?_, fun i e h => ?_, fun i j xs ys v h1 => ?_⟩
  · unfold startD L2.start
    simp [ha.length]
  · obtain ⟨g, h1, h2⟩ := rget_start ds _ i e h
    obtain ⟨v, h3, h4⟩ := ha.get h1
    subst h2
    refine ⟨v, ?_, ?_⟩
    · unfold L2.start
      have hi : i < vs.length := (List.getElem?_eq_some_iff.mp h3).1
      rw [List.getElem?_append_left (by simpa using hi), List.getElem?_map, h3]
      rfl
    · cases g with
      | d x => exact h4
      | p a => exact h4
  · obtain ⟨g, _, h2⟩ := rget_start ds _ i _ h1
    cases g <;> cases h2
theorem fn_D {x nm : Str} {st : Stmt} {f : Addr} {fd : FuncData} {N ps : List Str} {k : Nat} {φ : Fn} {F : DS} (Fu : Fun K nm nm st f fd) (S : FnScope N ps (defScope st)) (hm : mg x = some (.ref f)) (hb : Binds K fd ps [])
    (hbody : ∀ (cdv : Value) (A : Around) (outer : List PySem.Env) (s : Shared) (H : Hp) (E : XK) (B : Base), Room k (A.deeper (envOfC nm (defScope st) s.heap.objs.size f cdv)) →
      PSs (cxOf CX0 P w K mg base N nm (defScope st) f cdv A outer s H E).nox (defBody st) (tS K B F))
    (hφ : ∀ ds s d s', ds.length = ps.length → φ ds s = some (d, s') → runD N.length F ds s = some (d, s')) : FnD P w K mg base x st ps (k + 1) φ := by
  refine ⟨f, fd, nm, hm, Fu, Fu.ok S (fun vs H Q E h => ?_) (fun cdv A outer s H vs Q E hr h => ?_), hb⟩
  · obtain ⟨Hs, s, ds, d, s', hl, _, _, ha, _⟩ := h
    rw [ha.length, hl]
  · obtain ⟨Hs, s0, ds, d, s', hl, hx, hs, ha, e, q⟩ := h
    refine ⟨_, hbody cdv A outer s H E ⟨H, Hs, s0⟩ hr, ?_⟩
    have e2 := hφ ds s0 d s' hl e
    unfold runD at e2
    have fin : ∀ (v : V) (Hs' H' : Hp), Hk ⟨H, Hs, s0⟩ s' Hs' H' → Rp K Hs' v d → Q v H' := fun v Hs' H' hk r => q v Hs' H' ⟨hk.ex0, hk.sub, hk.st, hk.ad, hk.kp0, hk.nw0, hk.dm0⟩ r
    cases hF : F (startD N.length ds) s0 with
    | none => rw [hF] at e2; cases e2
    | some p =>
      obtain ⟨fl, s1⟩ := p
      rw [hF] at e2
      refine ⟨startD N.length ds, s0, Hs, fl, s1, ok_start hx hs ha, hF, ?_⟩
      cases fl with
      | rt d' => cases e2; exact fin
      | nx ρ => cases e2; exact fun σ' Hs' H' ok _ => fin V.non Hs' H' ok.hk .non
      | bk ρ => cases e2
      | ct ρ => cases e2
end
end DL

/-! DL8: comprehensions -/
namespace DL
open PySem PySem.Spec PyProof.Rows L2 Evl
section
variable {X : Cx} {B : Base} {a b c e tg : Expr} {es : List Expr} {pos : Pos} {f1 f2 f3 : DE} {st : Stmt} {t1 t2 : DB} {g : DG} {vs ws : List Nat}

def wipeR (ρ : Rho) : List Nat → Rho
  | [] => ρ
  | v :: vs => rset (wipeR ρ vs) v none
theorem Ok.wipe {ρ : Rho} {σ : Sg} {s : SS} {Hs H : Hp} (ok : Ok X.K B ρ σ s Hs H) : ∀ vs : List Nat, Ok X.K B (wipeR ρ vs) (wipe σ vs) s Hs H
  | [] => ok
  | v :: vs => (Ok.wipe ok vs).wipe1
theorem wipe_get (σ : Sg) (j : Nat) : ∀ vs : List Nat, (wipe σ vs)[j]? = if j ∈ vs then (σ[j]?).map (fun _ => none) else σ[j]?
  | [] => by simp [wipe]
  | v :: vs => by
    unfold wipe
    by_cases h : v = j
    · subst h
      rw [if_pos List.mem_cons_self]
      by_cases hl : v < σ.length
      · rw [List.getElem?_set_self (by rw [wipe_length]; exact hl), List.getElem?_eq_getElem hl]
        rfl
      · rw [List.getElem?_eq_none (l := σ) (by omega), List.getElem?_eq_none (by rw [List.length_set, wipe_length]; omega)]
        rfl
    · rw [List.getElem?_set_ne h, wipe_get σ j vs]
      by_cases h2 : j ∈ vs
      · rw [if_pos h2, if_pos (List.mem_cons_of_mem _ h2)]
      · rw [if_neg h2, if_neg (by
          intro m
          rcases List.mem_cons.mp m with m | m
          · exact h m.symm
          · exact h2 m)]
theorem wipe_bt {σ σ' : Sg} {vs ws : List Nat} (h : Bt vs (wipe σ ws) σ') (hv : ∀ i ∈ vs, i ∈ ws) : wipe σ' ws = wipe σ ws := by
  apply List.ext_getElem?
  intro j
  rw [wipe_get, wipe_get]
  by_cases m : j ∈ ws
  · rw [if_pos m, if_pos m]
    have hl : σ'.length = σ.length := h.1.trans (wipe_length σ ws)
    by_cases q : j < σ.length
    · rw [List.getElem?_eq_getElem q, List.getElem?_eq_getElem (by omega)]
      rfl
    · rw [List.getElem?_eq_none (by omega), List.getElem?_eq_none (by omega)]
  · rw [if_neg m, if_neg m, h.2 j (fun z => m (hv j z)), wipe_get, if_neg m]

/-- what a comprehension gives -/
def compL (g : DG) (t : DB) (f : DE) (ρ : Rho) : List PD → M (List PD)
  | [] => M.ret []
  | d :: ds => match g d ρ with
    | none => M.fail
    | some ρ1 => (t ρ1).bnd fun b => if b then (f ρ1).bnd fun y => (compL g t f ρ ds).bnd fun r => M.ret (y :: r) else compL g t f ρ ds
def fComp (vs : List Nat) (m : DT) (g : DG) (t : DB) (f : DE) : DT := fun ρ => (m ρ).bnd fun xs => if xs.length ≤ LIM then compL g t f (wipeR ρ vs) xs else M.fail
def bYes : DB := fun _ => M.ret true
theorem ts_nil : PTs X [] (tB X.K B bYes) := ⟨fun pins s σ H Q I h => by
  obtain ⟨ρ, s0, Hs, b, s', ok, e, q⟩ := h
  cases e
  exact pts_nil.run pins s σ H Q I (q Hs H (Nx.refl ok))⟩
theorem ts_one (h : PT X c (tB X.K B t1)) : PTs X [c] (tB X.K B t1) := pts_one h

/-- the list under way is changed -/
theorem Ok.updF {ρ : Rho} {σ : Sg} {s : SS} {Hs H : Hp} {p : Addr} {o : HO} (ok : Ok X.K B ρ σ s Hs H) (h1 : Hs p = none) (h2 : B.H p = none) (h3 : p ∉ adrs B.s) (h4 : ∀ (i : Nat) (xs : List PD), rget ρ i = some (.own xs) → σ[i]? ≠ some (some (.ref p))) :
    Ok X.K B ρ σ s Hs (upd H p o) := by
  have hk := ok.hk
  refine ⟨⟨fun a u q => ?_, ?_, hk.ad, hk.ex0, fun a o e n => ?_, hk.nw0, fun a e => ?_⟩, ok.len, fun j w hw => ?_, ok.dis⟩
  · have na : a ≠ p := fun z => by subst z; rw [h1] at q; cases q
    rw [upd_ne na]; exact hk.sub a u q
  · have st := hk.st
    cases s with
    | none => trivial
    | some z =>
      obtain ⟨g1, g2, g3, g4, g5⟩ := st
      have ad : adrs B.s = [z.sa, z.ca] := hk.ad.symm
      rw [ad] at h3
      have n1 : z.sa ≠ p := fun w => h3 (by rw [w]; exact List.mem_cons_self)
      have n2 : z.ca ≠ p := fun w => h3 (by rw [w]; exact List.mem_cons_of_mem _ List.mem_cons_self)
      exact ⟨g1, g2, g3, by rw [upd_ne n1]; exact g4, by rw [upd_ne n2]; exact g5⟩
  · have na : a ≠ p := fun z => by subst z; rw [h2] at e; cases e
    rw [upd_ne na]; exact hk.kp0 a o e n
  · by_cases z : a = p
    · subst z; rw [upd_same] at e; cases e
    · rw [upd_ne z] at e; exact hk.dm0 a e
  · obtain ⟨u, g1, g2⟩ := ok.sl j w hw
    refine ⟨u, g1, ?_⟩
    cases w with
    | d x => exact g2
    | p a => exact g2
    | own ys =>
      obtain ⟨a, us, k1, k2, k3, k4, k5, k6⟩ := g2
      have na : a ≠ p := fun z => by subst z; subst k1; exact h4 j ys hw g1
      exact ⟨a, us, k1, by rw [upd_ne na]; exact k2, k3, k4, k5, k6⟩

theorem tLc_f {wi : TI} {g : DG} {m : DT} {own : List (Str × Nat)} {σ : Sg} {H : Hp} {Q : VK} (hv : ∀ i ∈ vs, i ∈ own.map (·.2)) (hw : ∀ σ H R, tI X.K B m σ H R → wi σ H R) (h : tF X.K B (fComp (own.map (·.2)) m g t1 f1) σ H Q) : tLc wi (tG X.K B vs g) (tB X.K B t1) (tE X.K B f1) (own.map (·.2)) σ H Q := by
  obtain ⟨ρ, s, Hs, d, s', ok, e, q⟩ := h
  obtain ⟨xs, s1, e1, e2⟩ := M.bnd_some e
  split at e2
  · rename_i hlen
    refine hw _ _ _ ⟨ρ, s, Hs, xs, s1, ok, e1, fun J Hs1 H1 n1 yl D hD => ?_⟩
    have hDs : Hs1 D = none := hs_none n1.ok.hk.sub hD
    have hDB : B.H D = none := n1.ok.hk.dm0 D hD
    have hDa : D ∉ adrs B.s := adr_there n1.ok.hk hD
    have hDo : ∀ (i : Nat) (xs : List PD), rget ρ i = some (.own xs) → σ[i]? ≠ some (some (.ref D)) := fun i xs hi hs => by
      obtain ⟨v, w1, a, us, g1, g2, _⟩ := n1.ok.sl i _ hi
      rw [hs] at w1
      cases w1
      cases g1
      rw [hD] at g2
      cases g2
    have hDH : H D = none := by
      cases z : H D with
      | none => rfl
      | some o => rw [n1.kp D o z hDa] at hD; cases hD
    -- what holds ahead of a turn
    refine ⟨fun i n H' => n = xs.length - i ∧ i ≤ xs.length ∧ ∃ s2 Hs2 acc ds rest, Ok X.K B ρ σ s2 Hs2 H' ∧ Ex Hs1 Hs2 ∧ (∀ a o, H1 a = some o → a ∉ adrs B.s → H' a = some o) ∧ (∀ a o, H1 a = some o → Hs1 a = none → Hs2 a = none) ∧ Hs2 D = none ∧ H' D = some (.lst acc) ∧ RpAll X.K Hs2 acc ds ∧ acc.length ≤ i ∧
      compL g t1 f1 (wipeR ρ (own.map (·.2))) (xs.drop i) s2 = some (rest, s') ∧ ds ++ rest = d, ⟨xs.length, by simp, Nat.zero_le _, s1, Hs1, [], [], d, n1.ok.updF hDs hDB hDa hDo, Ex.refl _, fun a o h n => ?_, fun a o _ n => n, hDs, upd_same, .nil, Nat.zero_le _, by rw [List.drop_zero]; exact e2, rfl⟩, ?_⟩
    · rw [upd_ne (ne_of_none h hD)]; exact h
    rintro i n H' ⟨rfl, hi, s2, Hs2, acc, ds, rest, ok2, x2, kp2, nw2, dn2, da2, ra2, la2, e3, ed⟩
    by_cases hlt : i < xs.length
    · rw [List.drop_eq_getElem_cons hlt] at e3
      have okw := ok2.wipe (own.map (·.2))
      obtain ⟨y1, _⟩ := yl i _ _ s2 Hs2 H' okw x2
      obtain ⟨go, yd⟩ := y1 xs[i] (List.getElem?_eq_getElem hlt)
      unfold compL at e3
      cases hg1 : g xs[i] (wipeR ρ (own.map (·.2))) with
      | none => rw [hg1] at e3; cases e3
      | some ρ1 =>
        rw [hg1] at e3
        dsimp only at e3
        obtain ⟨b, s3, e3, e4⟩ := M.bnd_some e3
        refine .inr ⟨go, fun H'' => ∃ s2 Hs2 acc ds rest, Ok X.K B ρ σ s2 Hs2 H'' ∧ Ex Hs1 Hs2 ∧ (∀ a o, H1 a = some o → a ∉ adrs B.s → H'' a = some o) ∧ (∀ a o, H1 a = some o → Hs1 a = none → Hs2 a = none) ∧ Hs2 D = none ∧ H'' D = some (.lst acc) ∧ RpAll X.K Hs2 acc ds ∧ acc.length ≤ i + 1 ∧
          compL g t1 f1 (wipeR ρ (own.map (·.2))) (xs.drop (i + 1)) s2 = some (rest, s') ∧ ds ++ rest = d, fun H'' h => ⟨xs.length - (i + 1), by omega, rfl, hlt, h⟩, fun x H3 hy => ?_⟩
        obtain ⟨Hs3, n3, r3⟩ := yd x H3 hy
        refine ⟨_, s2, Hs3, xs[i], ρ1, n3.ok, r3, hg1, fun σ4 Hs4 H4 g4 => ⟨wipe_bt g4.bt hv, ?_⟩⟩
        refine ⟨ρ1, s2, Hs4, b, s3, g4.ok, e3, fun Hs5 H5 n5 => ?_⟩
        -- the heap up to here
        have ex5 : Ex Hs2 Hs5 := n3.ex.trans (g4.ex.trans n5.ex)
        have kp5 : ∀ a o, H' a = some o → a ∉ adrs B.s → H5 a = some o := fun a o h n => n5.kp a o (g4.kp a o (n3.kp a o h n) n) n
        have nw5 : ∀ a o, H' a = some o → Hs2 a = none → Hs5 a = none := fun a o h n => by
          by_cases z : a ∈ adrs B.s
          · exact n5.ok.hk.st.adr (by rw [n5.ok.hk.ad]; exact z)
          · exact n5.nw a o (g4.kp a o (n3.kp a o h z) z) (g4.nw a o (n3.kp a o h z) (n3.nw a o h n))
        have ok5 : Ok X.K B ρ σ s3 Hs5 H5 := ok2.step n5.ok.hk ex5 kp5 nw5
        have kpT : ∀ a o, H1 a = some o → a ∉ adrs B.s → H5 a = some o := fun a o h n => kp5 a o (kp2 a o h n) n
        have nwT : ∀ a o, H1 a = some o → Hs1 a = none → Hs5 a = none := fun a o h n => by
          by_cases z : a ∈ adrs B.s
          · exact n5.ok.hk.st.adr (by rw [n5.ok.hk.ad]; exact z)
          · exact nw5 a o (kp2 a o h z) (nw2 a o h n)
        have dn5 : Hs5 D = none := nw5 D _ da2 dn2
        have da5 : H5 D = some (.lst acc) := kp5 D _ da2 hDa
        cases b with
        | false =>
          refine iteF ?_
          rw [if_neg Bool.false_ne_true] at e4
          exact ⟨s3, Hs5, acc, ds, rest, ok5, x2.trans ex5, kpT, nwT, dn5, da5, RpAll.mono ex5 ra2, by omega, e4, ed⟩
        | true =>
          refine iteT ?_
          rw [if_pos rfl] at e4
          obtain ⟨y, s6, e5, e6⟩ := M.bnd_some e4
          obtain ⟨r', s7, e6, e7⟩ := M.bnd_some e6
          cases e7
          refine ⟨ρ1, s3, Hs5, y, s6, n5.ok, e5, fun v Hs6 H6 n6 r6 => ?_⟩
          have ex6 : Ex Hs2 Hs6 := ex5.trans n6.ex
          have kp6 : ∀ a o, H' a = some o → a ∉ adrs B.s → H6 a = some o := fun a o h n => n6.kp a o (kp5 a o h n) n
          have nw6 : ∀ a o, H' a = some o → Hs2 a = none → Hs6 a = none := fun a o h n => by
            by_cases z : a ∈ adrs B.s
            · exact n6.ok.hk.st.adr (by rw [n6.ok.hk.ad]; exact z)
            · exact n6.nw a o (kp5 a o h z) (nw5 a o h n)
          have ok6 : Ok X.K B ρ σ s6 Hs6 H6 := ok2.step n6.ok.hk ex6 kp6 nw6
          have dn6 : Hs6 D = none := nw6 D _ da2 dn2
          have da6 : H6 D = some (.lst acc) := kp6 D _ da2 hDa
          refine ⟨acc, da6, ?_, s6, Hs6, acc ++ [v], ds ++ [y], r', ok6.updF dn6 hDB hDa hDo, x2.trans ex6, fun a o h n => ?_, fun a o h n => ?_, dn6, upd_same, (RpAll.mono ex6 ra2).append (.cons r6 .nil), by rw [List.length_append]; simp; omega, e6, by rw [List.append_assoc]; exact ed⟩
          · have := lim_line
            have : (acc.length) < LIM := by omega
            omega
          · rw [upd_ne (ne_of_none h hD)]; exact kp6 a o (kp2 a o h n) n
          · by_cases z : a ∈ adrs B.s
            · exact n6.ok.hk.st.adr (by rw [n6.ok.hk.ad]; exact z)
            · exact nw6 a o (kp2 a o h z) (nw2 a o h n)
    · have hle : i = xs.length := by omega
      subst hle
      rw [List.drop_length] at e3
      cases e3
      rw [List.append_nil] at ed
      subst ed
      obtain ⟨_, y2⟩ := yl xs.length ρ σ _ Hs2 H' ok2 x2
      refine .inl ⟨y2 (Nat.le_refl _), q D acc Hs2 H' ⟨ok2, n1.ex.trans x2, fun a o h n => kp2 a o (n1.kp a o h n) n, fun a o h n => ?_⟩ hDH dn2 da2 ra2⟩
      by_cases z : a ∈ adrs B.s
      · exact ok2.hk.st.adr (by rw [ok2.hk.ad]; exact z)
      · exact nw2 a o (n1.kp a o h z) (n1.nw a o h n)
  · cases e2
def eFL (m : DT) : DE := fun ρ => (m ρ).bnd fun xs => M.ret (.list xs)
theorem f_lc {elt tg iter : Expr} {ifs : List Expr} {scope : Scope} {pos : Pos} {m : DT} (own : List (Str × Nat)) (hc : X.calm = true) (hN : X.N.Nodup) (hi : PI X tg iter (tI X.K B m)) (ok : BlkOk X.N X.env.scope scope own) (hv : ∀ i ∈ vs, i ∈ own.map (·.2))
    (hg : ∀ (s : Shared) (H : Hp) (C : Addr) (cl : List (Str × Addr)) (fp : List Addr), PG (X.blk s H scope (compEnvC scope cl C X.env) fp) tg (tG X.K B vs g)) (ht : ∀ (s : Shared) (H : Hp) (C : Addr) (cl : List (Str × Addr)) (fp : List Addr), PTs (X.blk s H scope (compEnvC scope cl C X.env) fp) ifs (tB X.K B t1))
    (he : ∀ (s : Shared) (H : Hp) (C : Addr) (cl : List (Str × Addr)) (fp : List Addr), PE (X.blk s H scope (compEnvC scope cl C X.env) fp) elt (tE X.K B f1)) (hs : ∀ x, foldedSetIterable iter X.env x = pure x := by intro _; rfl) :
    PE X (.ListComp elt [⟨tg, iter, ifs, 0⟩] scope pos) (tF X.K B (fComp (own.map (·.2)) m g t1 f1)) :=
  (pe_lc hc hN hi ok hg ht he hs).imp fun σ H Q h => tLc_f hv (fun _ _ _ h => h) h
theorem d_lc {elt tg iter : Expr} {ifs : List Expr} {scope : Scope} {pos : Pos} {m : DT} (own : List (Str × Nat)) (hc : X.calm = true) (hN : X.N.Nodup) (hi : PI X tg iter (tI X.K B m)) (ok : BlkOk X.N X.env.scope scope own) (hv : ∀ i ∈ vs, i ∈ own.map (·.2))
    (hg : ∀ (s : Shared) (H : Hp) (C : Addr) (cl : List (Str × Addr)) (fp : List Addr), PG (X.blk s H scope (compEnvC scope cl C X.env) fp) tg (tG X.K B vs g)) (ht : ∀ (s : Shared) (H : Hp) (C : Addr) (cl : List (Str × Addr)) (fp : List Addr), PTs (X.blk s H scope (compEnvC scope cl C X.env) fp) ifs (tB X.K B t1))
    (he : ∀ (s : Shared) (H : Hp) (C : Addr) (cl : List (Str × Addr)) (fp : List Addr), PE (X.blk s H scope (compEnvC scope cl C X.env) fp) elt (tE X.K B f1)) (hs : ∀ x, foldedSetIterable iter X.env x = pure x := by intro _; rfl) :
    PE X (.ListComp elt [⟨tg, iter, ifs, 0⟩] scope pos) (tE X.K B (eFL (fComp (own.map (·.2)) m g t1 f1))) := f_E (f_lc own hc hN hi ok hv hg ht he hs)
/-- name = [..] on one line, the name a local -/
theorem s_setLc (i : Nat) {y : Str} {py : Pos} {elt tg iter : Expr} {ifs : List Expr} {scope : Scope} {pos spos : Pos} {m : DT} (own : List (Str × Nat)) (hc : X.calm = true) (hN : X.N.Nodup) (hi : PI X tg iter (tI X.K B m)) (ok : BlkOk X.N X.env.scope scope own) (hv : ∀ i ∈ vs, i ∈ own.map (·.2))
    (hg : ∀ (s : Shared) (H : Hp) (C : Addr) (cl : List (Str × Addr)) (fp : List Addr), PG (X.blk s H scope (compEnvC scope cl C X.env) fp) tg (tG X.K B vs g)) (ht : ∀ (s : Shared) (H : Hp) (C : Addr) (cl : List (Str × Addr)) (fp : List Addr), PTs (X.blk s H scope (compEnvC scope cl C X.env) fp) ifs (tB X.K B t1))
    (he : ∀ (s : Shared) (H : Hp) (C : Addr) (cl : List (Str × Addr)) (fp : List Addr), PE (X.blk s H scope (compEnvC scope cl C X.env) fp) elt (tE X.K B f1))
    (hsw : swapsWith (.ListComp elt [⟨tg, iter, ifs, 0⟩] scope pos) (some (.Name y py)) spos.line X.env = pure true := by exact sw_true rfl rfl rfl (by decide +kernel)) (hy : X.N[i]? = some y := by rfl) (hyl : X.env.scope.names.lookup y = some .local := by rfl) (hs : ∀ x, foldedSetIterable iter X.env x = pure x := by intro _; rfl) :
    PS X (.Assign [.Name y py] (.ListComp elt [⟨tg, iter, ifs, 0⟩] scope pos) spos) (tS X.K B (sAsg i (eFL (fComp (own.map (·.2)) m g t1 f1)))) :=
  (ps_setLc hc hN hy hyl hsw hi ok hg ht he hs).imp fun D σ H h => by
    have h2 := tAsg_d D σ H h
    exact tLc_f hv (fun _ _ _ h => h) (tF_E h2)
theorem s_ownLc (i : Nat) {y : Str} {py : Pos} {elt tg iter : Expr} {ifs : List Expr} {scope : Scope} {pos spos : Pos} {m : DT} (own : List (Str × Nat)) (hc : X.calm = true) (hN : X.N.Nodup) (hi : PI X tg iter (tI X.K B m)) (ok : BlkOk X.N X.env.scope scope own) (hv : ∀ i ∈ vs, i ∈ own.map (·.2))
    (hg : ∀ (s : Shared) (H : Hp) (C : Addr) (cl : List (Str × Addr)) (fp : List Addr), PG (X.blk s H scope (compEnvC scope cl C X.env) fp) tg (tG X.K B vs g)) (ht : ∀ (s : Shared) (H : Hp) (C : Addr) (cl : List (Str × Addr)) (fp : List Addr), PTs (X.blk s H scope (compEnvC scope cl C X.env) fp) ifs (tB X.K B t1))
    (he : ∀ (s : Shared) (H : Hp) (C : Addr) (cl : List (Str × Addr)) (fp : List Addr), PE (X.blk s H scope (compEnvC scope cl C X.env) fp) elt (tE X.K B f1))
    (hsw : swapsWith (.ListComp elt [⟨tg, iter, ifs, 0⟩] scope pos) (some (.Name y py)) spos.line X.env = pure true := by exact sw_true rfl rfl rfl (by decide +kernel)) (hy : X.N[i]? = some y := by rfl) (hyl : X.env.scope.names.lookup y = some .local := by rfl) (hs : ∀ x, foldedSetIterable iter X.env x = pure x := by intro _; rfl) :
    PS X (.Assign [.Name y py] (.ListComp elt [⟨tg, iter, ifs, 0⟩] scope pos) spos) (tS X.K B (sOwn i (fComp (own.map (·.2)) m g t1 f1))) :=
  (ps_setLc hc hN hy hyl hsw hi ok hg ht he hs).imp fun D σ H h => by
    have h2 := tAsg_own D σ H h
    exact tLc_f hv (fun _ _ _ h => h) h2
end
end DL

/-! DL9: built-in functions -/
namespace DL
open PySem PySem.Spec PyProof.Rows L2 Evl
section
variable {X : Cx} {B : Base} {a b c e tg : Expr} {es : List Expr} {pos p : Pos} {f1 f2 f3 : DE} {x : Str} {id T : String} {k : List PD → Option PD} {r1 : DT}

/-- a call by values of data -/
def CallD (X : Cx) (B : Base) (f : Value) (k : List PD → Option PD) : Prop :=
  ∃ r, CallR X f r ∧ ∀ (ρ : Rho) (σ : Sg) (s : SS) (Hs H : Hp) (vs : List V) (ds : List PD) (d : PD) (Q : VK), Ok X.K B ρ σ s Hs H → k ds = some d → RpAll X.K Hs vs ds → (∀ w Hs' H', Nx X.K B ρ σ s Hs H Hs' H' → Rp X.K Hs' w d → Q w H') → r vs H Q
def eCallB (k : List PD → Option PD) (m : DT) : DE := fun ρ => (m ρ).bnd fun ds => M.lift (k ds)
theorem tCB_d {r : List V → Hp → VK → Prop} (h : ∀ (ρ : Rho) (σ : Sg) (s : SS) (Hs H : Hp) (vs : List V) (ds : List PD) (d : PD) (Q : VK), Ok X.K B ρ σ s Hs H → k ds = some d → RpAll X.K Hs vs ds → (∀ w Hs' H', Nx X.K B ρ σ s Hs H Hs' H' → Rp X.K Hs' w d → Q w H') → r vs H Q)
    (σ : Sg) (H : Hp) (Q : VK) (hq : tE X.K B (eCallB k r1) σ H Q) : tCB r (tL X.K B r1) σ H Q := by
  obtain ⟨ρ, s, Hs, d, s', ok, e, q⟩ := hq
  obtain ⟨ds, s1, e1, e2⟩ := M.bnd_some e
  obtain ⟨e3, rfl⟩ := M.lift_some e2
  exact ⟨ρ, s, Hs, ds, _, ok, e1, fun vs Hs1 H1 n1 w1 => h ρ σ _ Hs1 H1 vs ds d Q n1.ok e3 w1 fun w Hs' H' n r => q w Hs' H' (n1.trans n) r⟩
theorem d_callB (h : CallD X B (.builtin id) k) (ha : PA X (e :: es) (tL X.K B r1)) (hm : X.mg x = none) (hv : bootBuiltins x = some (.builtin id)) (hg : Gl X x := by rfl) (hn : x ≠ "__name__" := by decide) (hdb : (x == ("__debug__" : Str)) = false := by decide)
    (he : starEach (e :: es) X.env = (false, eval e X.env) :: starEach es X.env := by rfl) (hpl : (backTo pos (starEach es X.env)).any (·.1) = false := by rfl) : PE X (.Call (.Name x p) (e :: es) [] pos) (tE X.K B (eCallB k r1)) := by
  obtain ⟨r, hr, h⟩ := h
  exact (pe_callB hr hg hm hv ha hn hdb he hpl).imp (tCB_d h)
theorem d_callTy (h : CallD X B (.type T) k) (ha : PA X (e :: es) (tL X.K B r1)) (hm : X.mg x = none) (hv : bootBuiltins x = some (.type T)) (hg : Gl X x := by rfl) (hn : x ≠ "__name__" := by decide) (hdb : (x == ("__debug__" : Str)) = false := by decide)
    (he : starEach (e :: es) X.env = (false, eval e X.env) :: starEach es X.env := by rfl) (hpl : (backTo pos (starEach es X.env)).any (·.1) = false := by rfl) : PE X (.Call (.Name x p) (e :: es) [] pos) (tE X.K B (eCallB k r1)) := by
  obtain ⟨r, hr, h⟩ := h
  exact (pe_callTy hr hg hm hv ha hn hdb he hpl).imp (tCB_d h)
/-- .. of one sequence (also an own list) -/
def CallQ (X : Cx) (B : Base) (f : Value) (k : List PD → Option PD) : Prop :=
  ∃ r, CallR X f r ∧ ∀ (ρ : Rho) (σ : Sg) (s : SS) (Hs H : Hp) (v : V) (ds : List PD) (d : PD) (Q : VK), Ok X.K B ρ σ s Hs H → k ds = some d → TV X.K ρ σ Hs v ds → (∀ w Hs' H', Nx X.K B ρ σ s Hs H Hs' H' → Rp X.K Hs' w d → Q w H') → r [v] H Q
theorem tCB_q {r : List V → Hp → VK → Prop} (h : ∀ (ρ : Rho) (σ : Sg) (s : SS) (Hs H : Hp) (v : V) (ds : List PD) (d : PD) (Q : VK), Ok X.K B ρ σ s Hs H → k ds = some d → TV X.K ρ σ Hs v ds → (∀ w Hs' H', Nx X.K B ρ σ s Hs H Hs' H' → Rp X.K Hs' w d → Q w H') → r [v] H Q)
    (σ : Sg) (H : Hp) (Q : VK) (hq : tE X.K B (eCallB k r1) σ H Q) : tCB r (tCons (tQ X.K B r1) tNil) σ H Q := by
  obtain ⟨ρ, s, Hs, d, s', ok, e, q⟩ := hq
  obtain ⟨ds, s1, e1, e2⟩ := M.bnd_some e
  obtain ⟨e3, rfl⟩ := M.lift_some e2
  exact ⟨ρ, s, Hs, ds, _, ok, e1, fun v Hs1 H1 n1 w1 => h ρ σ _ Hs1 H1 v ds d Q n1.ok e3 w1 fun w Hs' H' n r => q w Hs' H' (n1.trans n) r⟩
theorem q_callB (h : CallQ X B (.builtin id) k) (ha : PE X e (tQ X.K B r1)) (hm : X.mg x = none) (hv : bootBuiltins x = some (.builtin id)) (hg : Gl X x := by rfl) (hn : x ≠ "__name__" := by decide) (hdb : (x == ("__debug__" : Str)) = false := by decide)
    (he : starEach [e] X.env = [(false, eval e X.env)] := by rfl) : PE X (.Call (.Name x p) [e] [] pos) (tE X.K B (eCallB k r1)) := by
  obtain ⟨r, hr, h⟩ := h
  exact (pe_callB hr hg hm hv (pa_cons ha pa_nil (by rw [he]; rfl)) hn hdb (by rw [he]; rfl) (by rfl)).imp (tCB_q h)
theorem q_callTy (h : CallQ X B (.type T) k) (ha : PE X e (tQ X.K B r1)) (hm : X.mg x = none) (hv : bootBuiltins x = some (.type T)) (hg : Gl X x := by rfl) (hn : x ≠ "__name__" := by decide) (hdb : (x == ("__debug__" : Str)) = false := by decide)
    (he : starEach [e] X.env = [(false, eval e X.env)] := by rfl) : PE X (.Call (.Name x p) [e] [] pos) (tE X.K B (eCallB k r1)) := by
  obtain ⟨r, hr, h⟩ := h
  exact (pe_callTy hr hg hm hv (pa_cons ha pa_nil (by rw [he]; rfl)) hn hdb (by rw [he]; rfl) (by rfl)).imp (tCB_q h)

/-! ### len -/
def lenD : List PD → Option PD
  | [.str z] => if z.length ≤ LIM then some (.int z.length) else none
  | [.list xs] => some (.int xs.length)
  | [.tuple xs] => some (.int xs.length)
  | _ => none
theorem cd_len : CallD X B (.builtin "len") lenD := ⟨_, CallR.or call_len_str call_len_seq, fun ρ σ s Hs H vs ds d Q ok e r q => by
  cases r with
  | nil => cases e
  | cons r1 r2 =>
    cases r2 with
    | cons _ _ => cases r1 <;> cases e
    | nil =>
      cases r1 <;> first | (cases e; done) | skip
      · rename_i z
        unfold lenD at e
        dsimp only at e
        split at e
        · cases e
          exact .inl ⟨z, rfl, Nat.le_trans (by assumption) lim_line, q _ _ _ (Nx.refl ok) (.int _)⟩
        · cases e
      · rename_i p xs ds hp hs
        cases e
        rw [← hs.length] at q
        exact .inr ⟨p, xs, rfl, .inl (SqL.of (ok.hk.sub _ _ hp)), q _ _ _ (Nx.refl ok) (.int _)⟩
      · rename_i p xs ds hp hs
        cases e
        rw [← hs.length] at q
        exact .inr ⟨p, xs, rfl, .inr (ex_t ok.hk.sub hp), q _ _ _ (Nx.refl ok) (.int _)⟩⟩
def lenQ (ds : List PD) : Option PD := some (.int ds.length)
theorem cq_len : CallQ X B (.builtin "len") lenQ := ⟨_, call_len_seq, fun ρ σ s Hs H v ds d Q ok e t q => by
  obtain ⟨p, vs, rfl, hp, hs⟩ := t.sq ok
  cases e
  rw [← hs.length] at q
  rcases hp with hp | hp
  · exact ⟨p, vs, rfl, .inl (SqL.of hp), q _ _ _ (Nx.refl ok) (.int _)⟩
  · exact ⟨p, vs, rfl, .inr hp, q _ _ _ (Nx.refl ok) (.int _)⟩⟩

/-! ### max, min of two ints; int, abs -/
def max2D : List PD → Option PD
  | [.int i, .int j] => some (.int (if j > i then j else i))
  | _ => none
def min2D : List PD → Option PD
  | [.int i, .int j] => some (.int (if j < i then j else i))
  | _ => none
theorem RpAll.int2 {K : PySem.W.Frag} {H : Hp} {vs : List V} {i j : Int} (h : RpAll K H vs [.int i, .int j]) : vs = [.int i, .int j] := by
  cases h with
  | cons r1 h =>
    cases h with
    | cons r2 h => cases h; cases r1; cases r2; rfl
theorem cd_max2 (hc : X.calm = true) : CallD X B (.builtin "max") max2D := ⟨_, call_max2 hc, fun ρ σ s Hs H vs ds d Q ok e r q => by
  unfold max2D at e
  split at e
  · cases e
    rw [r.int2]
    exact ⟨_, _, rfl, q _ _ _ (Nx.refl ok) (.int _)⟩
  · cases e⟩
theorem cd_min2 (hc : X.calm = true) : CallD X B (.builtin "min") min2D := ⟨_, call_min2 hc, fun ρ σ s Hs H vs ds d Q ok e r q => by
  unfold min2D at e
  split at e
  · cases e
    rw [r.int2]
    exact ⟨_, _, rfl, q _ _ _ (Nx.refl ok) (.int _)⟩
  · cases e⟩
def intD : List PD → Option PD
  | [.int i] => some (.int i)
  | [.bool b] => some (.int (if b then 1 else 0))
  | _ => none
theorem cd_int : CallD X B (.type "int") intD := ⟨_, call_int1, fun ρ σ s Hs H vs ds d Q ok e r q => by
  cases r with
  | nil => cases e
  | cons r1 r2 =>
    cases r2 with
    | cons _ _ => cases r1 <;> cases e
    | nil =>
      cases r1 <;> first | (cases e; done) | skip
      · cases e; exact .inr ⟨_, rfl, q _ _ _ (Nx.refl ok) (.int _)⟩
      · cases e; exact .inl ⟨_, rfl, q _ _ _ (Nx.refl ok) (.int _)⟩⟩
def absD : List PD → Option PD
  | [.int i] => some (.int (if i < 0 then -i else i))
  | _ => none
theorem cd_abs : CallD X B (.builtin "abs") absD := ⟨_, call_abs, fun ρ σ s Hs H vs ds d Q ok e r q => by
  cases r with
  | nil => cases e
  | cons r1 r2 =>
    cases r2 with
    | cons _ _ => cases r1 <;> cases e
    | nil =>
      cases r1 <;> first | (cases e; done) | skip
      cases e; exact ⟨_, rfl, q _ _ _ (Nx.refl ok) (.int _)⟩⟩

/-! ### all, any, sum of a list -/
def boolsOf : List PD → Option (List Bool)
  | [] => some []
  | .bool b :: r => (boolsOf r).map (b :: ·)
  | _ => none
theorem boolsOf_map : ∀ {ds : List PD} {bs : List Bool}, boolsOf ds = some bs → ds = bs.map PyData.bool
  | [], _, h => by cases h; rfl
  | d :: r, bs, h => by
    cases d <;> first | (cases h; done) | skip
    rename_i b
    unfold boolsOf at h
    cases e : boolsOf r with
    | none => rw [e] at h; cases h
    | some l => rw [e] at h; cases h; rw [boolsOf_map e]; rfl
def allD (ds : List PD) : Option PD := (boolsOf ds).map fun bs => .bool (bs.all fun b => b)
def anyD (ds : List PD) : Option PD := (boolsOf ds).map fun bs => .bool (bs.any fun b => b)
theorem SqLT {K : PySem.W.Frag} {H : Hp} {p : Addr} {vs : List V} (h : H p = some (.lst vs) ∨ SqT K H p vs) : SqL K H p vs ∨ SqT K H p vs := h.imp SqL.of _root_.id
/-- only lists -/
def TL (ρ : Rho) (σ : Sg) (Hs : Hp) (v : V) (xs : List PD) : Prop := Rp X.K Hs v (.list xs) ∨ ∃ i : Nat, σ[i]? = some (some v) ∧ rget ρ i = some (.own xs)
def all1D : List PD → Option PD
  | [.list xs] => allD xs
  | _ => none
theorem cd_all (hc : X.calm = true) : CallD X B (.builtin "all") all1D := ⟨_, cr_all hc, fun ρ σ s Hs H vs ds d Q ok e r q => by
  cases r with
  | nil => cases e
  | cons r1 r2 =>
    cases r2 with
    | cons _ _ => cases r1 <;> cases e
    | nil =>
      cases r1 <;> first | (cases e; done) | skip
      rename_i p xs ds hp hs
      unfold all1D allD at e
      dsimp only at e
      cases hb : boolsOf ds with
      | none => rw [hb] at e; cases e
      | some bs =>
        rw [hb] at e
        cases e
        rw [boolsOf_map hb] at hs
        have := hs.bls
        subst this
        exact ⟨p, bs, rfl, SqL.of (ok.hk.sub _ _ hp), q _ _ _ (Nx.refl ok) (.bl _)⟩⟩
def any1D : List PD → Option PD
  | [.list xs] => anyD xs
  | _ => none
theorem cd_any (hc : X.calm = true) : CallD X B (.builtin "any") any1D := ⟨_, cr_any hc, fun ρ σ s Hs H vs ds d Q ok e r q => by
  cases r with
  | nil => cases e
  | cons r1 r2 =>
    cases r2 with
    | cons _ _ => cases r1 <;> cases e
    | nil =>
      cases r1 <;> first | (cases e; done) | skip
      rename_i p xs ds hp hs
      unfold any1D anyD at e
      dsimp only at e
      cases hb : boolsOf ds with
      | none => rw [hb] at e; cases e
      | some bs =>
        rw [hb] at e
        cases e
        rw [boolsOf_map hb] at hs
        have := hs.bls
        subst this
        exact ⟨p, bs, rfl, SqL.of (ok.hk.sub _ _ hp), q _ _ _ (Nx.refl ok) (.bl _)⟩⟩
def intsOf : List PD → Option (List Int)
  | [] => some []
  | .int b :: r => (intsOf r).map (b :: ·)
  | _ => none
theorem intsOf_map : ∀ {ds : List PD} {bs : List Int}, intsOf ds = some bs → ds = bs.map PyData.int
  | [], _, h => by cases h; rfl
  | d :: r, bs, h => by
    cases d <;> first | (cases h; done) | skip
    rename_i b
    unfold intsOf at h
    cases e : intsOf r with
    | none => rw [e] at h; cases h
    | some l => rw [e] at h; cases h; rw [intsOf_map e]; rfl
def strsOf : List PD → Option (List Str)
  | [] => some []
  | .str b :: r => (strsOf r).map (b :: ·)
  | _ => none
theorem strsOf_map : ∀ {ds : List PD} {bs : List Str}, strsOf ds = some bs → ds = bs.map PyData.str
  | [], _, h => by cases h; rfl
  | d :: r, bs, h => by
    cases d <;> first | (cases h; done) | skip
    rename_i b
    unfold strsOf at h
    cases e : strsOf r with
    | none => rw [e] at h; cases h
    | some l => rw [e] at h; cases h; rw [strsOf_map e]; rfl
def sumD (ds : List PD) : Option PD := (intsOf ds).map fun ns => .int ns.sum
def sum1D : List PD → Option PD
  | [.list xs] => sumD xs
  | _ => none
theorem cd_sum (hc : X.calm = true) : CallD X B (.builtin "sum") sum1D := ⟨_, cr_sum hc, fun ρ σ s Hs H vs ds d Q ok e r q => by
  cases r with
  | nil => cases e
  | cons r1 r2 =>
    cases r2 with
    | cons _ _ => cases r1 <;> cases e
    | nil =>
      cases r1 <;> first | (cases e; done) | skip
      rename_i p xs ds hp hs
      unfold sum1D sumD at e
      dsimp only at e
      cases hb : intsOf ds with
      | none => rw [hb] at e; cases e
      | some bs =>
        rw [hb] at e
        cases e
        rw [intsOf_map hb] at hs
        have := hs.ints
        subst this
        exact ⟨p, bs, rfl, SqL.of (ok.hk.sub _ _ hp), q _ _ _ (Nx.refl ok) (.int _)⟩⟩

/-! ### min, max of a list -/
def isStrB : PD → Bool
  | .str _ => true
  | _ => false
def isIntB : PD → Bool
  | .int _ => true
  | _ => false
def noneB : PD → Bool
  | .none => true
  | _ => false
/-- all of one kind, so that < is told -/
def alikeL (xs : List PD) : Bool := xs.all isStrB || xs.all isIntB || ((xs.all fun x => xs.all fun y => PySem.W.alike x y) && xs.all fun x => !noneB x)
theorem alikeL_ok {xs : List PD} (h : alikeL xs = true) : PySem.W.AlikeAll xs := by
  unfold alikeL at h
  rw [Bool.or_eq_true, Bool.or_eq_true] at h
  rcases h with (h | h) | h
  · rw [List.all_eq_true] at h
    refine ⟨fun x hx y hy => ?_, fun x hx e => ?_⟩
    · have h1 := h x hx
      have h2 := h y hy
      cases x <;> first | (cases h1; done) | skip
      cases y <;> first | (cases h2; done) | skip
      rfl
    · have h1 := h x hx
      rw [e] at h1
      cases h1
  · rw [List.all_eq_true] at h
    refine ⟨fun x hx y hy => ?_, fun x hx e => ?_⟩
    · have h1 := h x hx
      have h2 := h y hy
      cases x <;> first | (cases h1; done) | skip
      cases y <;> first | (cases h2; done) | skip
      rfl
    · have h1 := h x hx
      rw [e] at h1
      cases h1
  · obtain ⟨h1, h2⟩ := Bool.and_eq_true_iff.mp h
    rw [List.all_eq_true] at h1 h2
    refine ⟨fun x hx y hy => ?_, fun x hx e => ?_⟩
    · have := h1 x hx
      rw [List.all_eq_true] at this
      exact this y hy
    · have := h2 x hx
      rw [e] at this
      cases this
end
end DL

/-! DL10: min and max of lists, isinstance, join, dicts, calls by name, zip -/
namespace DL
open PySem PySem.Spec PyProof.Rows L2 Evl
section
variable {X : Cx} {B : Base} {a b c e tg : Expr} {es : List Expr} {pos p : Pos} {f1 f2 f3 : DE} {x : Str} {id T : String} {k : List PD → Option PD} {r1 : DT}

theorem vals_get : ∀ {vs : List V} {us : List Value} {i : Nat} {u : Value}, Vals vs us → us[i]? = some u → ∃ v, vs[i]? = some v ∧ RelV v u
  | _, _, i, u, .nil, h => by simp at h
  | _, _, 0, u, .cons r _, h => by simp at h; subst h; exact ⟨_, rfl, r⟩
  | _, _, i + 1, u, .cons _ t, h => by
    obtain ⟨v, h1, h2⟩ := vals_get (i := i) t (by simpa using h)
    exact ⟨v, by simpa using h1, h2⟩
/-- min(xs): the first of the least -/
def minLD : List PD → Option PD
  | [.list (x :: xs)] => if alikeL (x :: xs) && flatA (x :: xs) then some (PySem.W.minD x xs) else none
  | _ => none
def maxLD : List PD → Option PD
  | [.list (x :: xs)] => if alikeL (x :: xs) && flatA (x :: xs) then some (PySem.W.maxD x xs) else none
  | _ => none
def rMinD (K : PySem.W.Frag) : List V → Hp → VK → Prop := fun vs H Q => ∃ (a : Addr) (ws : List V) (x : PD) (xs : List PD), vs = [.ref a] ∧ SqL K H a ws ∧ RpAll K H ws (x :: xs) ∧ alikeL (x :: xs) = true ∧ flatA (x :: xs) = true ∧
  ∀ (i : Nat) (v : V), ws[i]? = some v → (x :: xs)[i]? = some (PySem.W.minD x xs) → Q v H
def rMaxD (K : PySem.W.Frag) : List V → Hp → VK → Prop := fun vs H Q => ∃ (a : Addr) (ws : List V) (x : PD) (xs : List PD), vs = [.ref a] ∧ SqL K H a ws ∧ RpAll K H ws (x :: xs) ∧ alikeL (x :: xs) = true ∧ flatA (x :: xs) = true ∧
  ∀ (i : Nat) (v : V), ws[i]? = some v → (x :: xs)[i]? = some (PySem.W.maxD x xs) → Q v H
theorem flatA_i {ds : List PD} (h : flatA ds = true) : PyData.plainAll ds = true ∧ PyData.depthAll ds ≤ 58 := by
  unfold flatA at h
  rw [Bool.and_eq_true] at h
  exact ⟨h.1, by simpa using h.2⟩
theorem plain_get : ∀ {ds : List PD} {i : Nat} {d : PD}, PyData.plainAll ds = true → ds[i]? = some d → d.plain = true
  | [], i, d, _, h => by simp at h
  | e :: ds, 0, d, p, h => by
    have p' : e.plain = true ∧ PyData.plainAll ds = true := by simpa [PyData.plainAll] using p
    simp at h; subst h; exact p'.1
  | e :: ds, i + 1, d, p, h => by
    have p' : e.plain = true ∧ PyData.plainAll ds = true := by simpa [PyData.plainAll] using p
    exact plain_get (i := i) p'.2 (by simpa using h)
theorem call_minD (hc : X.calm = true) (hu : X.A.units + 64 < cLine) : CallR X (.builtin "min") (rMinD X.K) := by
  intro pins s σ H vs us Q I r h
  obtain ⟨a, ws, x, xs, rfl, hs, ha, hl, hf, q⟩ := h
  obtain ⟨hp, hd⟩ := flatA_i hf
  obtain ⟨its, rv, pl, _⟩ := I.list hs
  rw [Vals.ref1 r]
  obtain ⟨as, hr⟩ := Rp.readsAll I _ _ its ha rv hp
  have e1 : its.toArray.toList = its := by simp
  refine PySem.W.min_list_data (I.ok.hd hc) pl.isList (by rw [e1]; exact hr) (alikeL_ok hl) (by omega) fun i v h' tk bs hv hr' hk => ?_
  have hv' : its[i]? = some v := by rw [← e1, Array.getElem?_toList]; exact hv
  obtain ⟨z, hz, rz⟩ := vals_get rv hv'
  obtain ⟨d, hd', rd⟩ := ha.get' hz
  obtain ⟨bs', hr2⟩ := Rp.reads I d z v rd rz (plain_get hp hd')
  have := PySem.SeqAt.plain_unique d _ v _ _ (plain_get hp hd') (PyProof.Rows.Reads.keeps hk hr2) hr'
  subst this
  exact ⟨z, H, I.kept hk, rz, q i z hz hd'⟩
theorem call_maxD (hc : X.calm = true) (hu : X.A.units + 64 < cLine) : CallR X (.builtin "max") (rMaxD X.K) := by
  intro pins s σ H vs us Q I r h
  obtain ⟨a, ws, x, xs, rfl, hs, ha, hl, hf, q⟩ := h
  obtain ⟨hp, hd⟩ := flatA_i hf
  obtain ⟨its, rv, pl, _⟩ := I.list hs
  rw [Vals.ref1 r]
  obtain ⟨as, hr⟩ := Rp.readsAll I _ _ its ha rv hp
  have e1 : its.toArray.toList = its := by simp
  refine PySem.W.max_list_data (I.ok.hd hc) pl.isList (by rw [e1]; exact hr) (alikeL_ok hl) (by omega) fun i v h' tk bs hv hr' hk => ?_
  have hv' : its[i]? = some v := by rw [← e1, Array.getElem?_toList]; exact hv
  obtain ⟨z, hz, rz⟩ := vals_get rv hv'
  obtain ⟨d, hd', rd⟩ := ha.get' hz
  obtain ⟨bs', hr2⟩ := Rp.reads I d z v rd rz (plain_get hp hd')
  have := PySem.SeqAt.plain_unique d _ v _ _ (plain_get hp hd') (PyProof.Rows.Reads.keeps hk hr2) hr'
  subst this
  exact ⟨z, H, I.kept hk, rz, q i z hz hd'⟩
theorem cd_min (hc : X.calm = true) (hu : X.A.units + 64 < cLine) : CallD X B (.builtin "min") minLD := ⟨_, call_minD hc hu, fun ρ σ s Hs H vs ds d Q ok e r q => by
  unfold minLD at e
  split at e
  · split at e
    · rename_i hh
      cases e
      obtain ⟨h1, h2⟩ := Bool.and_eq_true_iff.mp hh
      cases r with
      | cons r1 r2 =>
        cases r2
        cases r1 with
        | lst hp hs =>
          refine ⟨_, _, _, _, rfl, SqL.of (ok.hk.sub _ _ hp), RpAll.mono ok.hk.sub hs, h1, h2, fun i v hv hd => ?_⟩
          obtain ⟨d, hd', rd⟩ := hs.get' hv
          rw [hd] at hd'
          cases hd'
          exact q _ _ _ (Nx.refl ok) rd
    · cases e
  · cases e⟩
theorem cd_max (hc : X.calm = true) (hu : X.A.units + 64 < cLine) : CallD X B (.builtin "max") maxLD := ⟨_, call_maxD hc hu, fun ρ σ s Hs H vs ds d Q ok e r q => by
  unfold maxLD at e
  split at e
  · split at e
    · rename_i hh
      cases e
      obtain ⟨h1, h2⟩ := Bool.and_eq_true_iff.mp hh
      cases r with
      | cons r1 r2 =>
        cases r2
        cases r1 with
        | lst hp hs =>
          refine ⟨_, _, _, _, rfl, SqL.of (ok.hk.sub _ _ hp), RpAll.mono ok.hk.sub hs, h1, h2, fun i v hv hd => ?_⟩
          obtain ⟨d, hd', rd⟩ := hs.get' hv
          rw [hd] at hd'
          cases hd'
          exact q _ _ _ (Nx.refl ok) rd
    · cases e
  · cases e⟩

/-! ### isinstance -/
def tyName : PD → String
  | .none => "NoneType"
  | .bool _ => "bool"
  | .int _ => "int"
  | .str _ => "str"
  | .list _ => "list"
  | .tuple _ => "tuple"
  | .dict _ => "dict"
def isiB (n T : String) : Bool := decide (n = T) || (decide (n = "bool") && decide (T = "int"))
def tysOk (T : String) : Bool := ["int", "bool", "str", "list", "tuple", "dict"].contains T
theorem kitB_all : (["NoneType", "bool", "int", "str", "list", "tuple", "dict"].all fun n => ["int", "bool", "str", "list", "tuple", "dict"].all fun T => decide (kitB n T = some (isiB n T))) = true := by decide +kernel
theorem tyName_in (x : PD) : tyName x ∈ ["NoneType", "bool", "int", "str", "list", "tuple", "dict"] := by cases x <;> simp [tyName]
theorem kit_isi {K : PySem.W.Frag} (x : PD) {T : String} (h : tysOk T = true) : PySem.W.kitOne K (.type (tyName x)) (.type T) = some (isiB (tyName x) T) := by
  have h1 := List.all_eq_true.mp kitB_all _ (tyName_in x)
  have h2 := List.all_eq_true.mp h1 T (by simpa [tysOk] using h)
  exact kit_ty (by simpa using h2)
theorem Rp.ty {K : PySem.W.Frag} {H : Hp} {v : V} {x : PD} (h : Rp K H v x) : TyX K H v (.type (tyName x)) := by
  cases h with
  | non => exact .base .non
  | bl b => exact .base (.bl b)
  | int i => exact .base (.int i)
  | str y => exact .base (.str y)
  | lst h _ => exact .base (.lst h)
  | tup h _ =>
    rcases h with h | ⟨o, its, n, h1, h2, _⟩
    · rcases h with h | ⟨o, h⟩
      · exact .base (.tup h)
      · exact .fTuple h
    · exact .kTuple h1 h2
  | dct h _ _ =>
    rcases h with h | ⟨o, h⟩
    · exact .base (.dK h)
    · exact .fDict h
def eIsi (T : String) (f : DE) : DE := fun ρ => (f ρ).bnd fun x => M.ret (.bool (isiB (tyName x) T))
theorem d_isi {T : String} {xT : Str} {p pT : Pos} (he : PE X e (tE X.K B f1)) (hm : X.mg "isinstance" = none) (hmT : X.mg xT = none) (hvT : bootBuiltins xT = some (.type T)) (hT : tysOk T = true) (hg : Gl X "isinstance" := by rfl) (hgT : Gl X xT := by rfl)
    (hn : xT ≠ "__name__" := by decide) (hdb : (xT == ("__debug__" : Str)) = false := by decide)
    (hs : starEach [e, .Name xT pT] X.env = (false, eval e X.env) :: starEach [.Name xT pT] X.env := by rfl) (hs2 : starEach [.Name xT pT] X.env = (false, eval (.Name xT pT) X.env) :: starEach [] X.env := by rfl) (hpl : (backTo pos (starEach [.Name xT pT] X.env)).any (·.1) = false := by rfl) :
    PE X (.Call (.Name "isinstance" p) [e, .Name xT pT] [] pos) (tE X.K B (eIsi T f1)) :=
  (pe_callB call_isi hg hm (by decide +kernel) (pa_cons he (pa_cons (pe_bltn (v := .ty T) hgT hmT hvT rfl hn hdb) pa_nil hs2) hs) (by decide) (by decide) hs hpl).imp fun σ H Q ⟨ρ, s, Hs, d, s', ok, e, q⟩ => by
    obtain ⟨x, s1, e1, e2⟩ := M.bnd_some e
    cases e2
    refine ⟨ρ, s, Hs, x, s', ok, e1, fun v Hs1 H1 n1 r1 => ?_⟩
    exact ⟨v, .ty T, _, _, _, rfl, .ty T, (Rp.mono n1.ok.hk.sub r1).ty, kit_isi x hT, q _ Hs1 H1 n1 (.bl _)⟩
/-- the classes of a tuple -/
def tTys (Ts : List String) : TA := fun _ H Q => Q (Ts.map V.ty) H
theorem c_nil : PA X [] (tTys []) := pa_nil.imp fun σ H Q h => h
theorem c_cons {T : String} {Ts : List String} {xT : Str} {pT : Pos} {es : List Expr} (hr : PA X es (tTys Ts)) (hmT : X.mg xT = none) (hvT : bootBuiltins xT = some (.type T)) (hgT : Gl X xT := by rfl)
    (hn : xT ≠ "__name__" := by decide) (hdb : (xT == ("__debug__" : Str)) = false := by decide) (hs : starEach (.Name xT pT :: es) X.env = (false, eval (.Name xT pT) X.env) :: starEach es X.env := by rfl) : PA X (.Name xT pT :: es) (tTys (T :: Ts)) :=
  (pa_cons (pe_bltn (v := .ty T) hgT hmT hvT rfl hn hdb) hr hs).imp fun σ H Q h => h
def anyIsi (n : String) : List String → Bool
  | [] => false
  | T :: Ts => isiB n T || anyIsi n Ts
theorem kit_any {K : PySem.W.Frag} (x : PD) : ∀ {Ts : List String}, Ts.all tysOk = true → PySem.W.kitAny K (.type (tyName x)) (Ts.map Value.type) = some (anyIsi (tyName x) Ts)
  | [], _ => rfl
  | T :: Ts, h => by
    rw [List.all_cons, Bool.and_eq_true] at h
    refine kitAny_cons (kit_isi x h.1) (fun hb => ?_) (fun hb => ?_)
    · unfold anyIsi
      rw [hb, Bool.false_or]
      exact kit_any x h.2
    · unfold anyIsi
      rw [hb, Bool.true_or]
theorem clsv_all : ∀ Ts : List String, Paired ClsV (Ts.map V.ty) (Ts.map Value.type)
  | [] => .nil
  | T :: Ts => .cons (.ty T) (clsv_all Ts)
def eIsiT (Ts : List String) (f : DE) : DE := fun ρ => (f ρ).bnd fun x => M.ret (.bool (anyIsi (tyName x) Ts))
theorem d_isiT {Ts : List String} {k : Nat} {p pT : Pos} (he : PE X e (tE X.K B f1)) (hm : X.mg "isinstance" = none) (hc : PA X es (tTys Ts)) (hT : Ts.all tysOk = true) (hl : Ts.length ≤ 6) (hg : Gl X "isinstance" := by rfl)
    (hs : starEach [e, .Tuple es k pT] X.env = (false, eval e X.env) :: starEach [.Tuple es k pT] X.env := by rfl) (hs2 : starEach [.Tuple es k pT] X.env = (false, eval (.Tuple es k pT) X.env) :: starEach [] X.env := by rfl) (hpl : (backTo pos (starEach [.Tuple es k pT] X.env)).any (·.1) = false := by rfl) :
    PE X (.Call (.Name "isinstance" p) [e, .Tuple es k pT] [] pos) (tE X.K B (eIsiT Ts f1)) :=
  (pe_callB call_isiT hg hm (by decide +kernel) (pa_cons he (pa_cons (pe_tup hc) pa_nil hs2) hs) (by decide) (by decide) hs hpl).imp fun σ H Q ⟨ρ, s, Hs, d, s', ok, e, q⟩ => by
    obtain ⟨x, s1, e1, e2⟩ := M.bnd_some e
    cases e2
    refine ⟨ρ, s, Hs, x, s', ok, e1, fun v Hs1 H1 n1 r1 => ?_⟩
    refine ⟨Nat.le_trans (by rw [List.length_map]; exact Nat.le_trans hl (by decide)) lim_line, fun tp htp => ?_⟩
    have nn := n1.ok.laid (o := .tup (Ts.map V.ty)) htp
    refine ⟨v, tp, _, _, _, _, rfl, upd_same, clsv_all Ts, (Rp.mono nn.ok.hk.sub (Rp.mono nn.ex r1)).ty, kit_any x hT, q _ _ _ (n1.trans nn) (.bl _)⟩

/-! ### join -/
def sumLen (ys : List Str) : Nat := (ys.map (·.length)).sum
def joinD (sep : Str) (xs : List PD) : Option PD := match strsOf xs with
  | some ys => if sumLen ys + ys.length * sep.length ≤ LIM then some (.str (Txt.join sep ys)) else none
  | none => none
def eJoin (f : DE) (g : DT) : DE := fun ρ => (f ρ).bnd fun x => match x with
  | .str sep => (g ρ).bnd fun xs => M.lift (joinD sep xs)
  | _ => M.fail
theorem d_join {o : Expr} {g : DT} {apos : Pos} (ho : PE X o (tE X.K B f1)) (he : PE X e (tQ X.K B g)) (hs : starEach [e] X.env = [(false, eval e X.env)] := by rfl) (hbase : attributeBase o "join" X.env (eval o X.env) = eval o X.env := by rfl) (hline : (apos.endLine == pos.line) = true := by rfl) :
    PE X (.Call (.Attribute o "join" apos) [e] [] pos) (tE X.K B (eJoin f1 g)) := (pe_join ho he hs hbase hline).imp fun σ H Q ⟨ρ, s, Hs, d, s', ok, e, q⟩ => by
  obtain ⟨x, s1, e1, e2⟩ := M.bnd_some e
  refine ⟨ρ, s, Hs, x, s1, ok, e1, fun v Hs1 H1 n1 r1 => ?_⟩
  cases r1 <;> first | (cases e2; done) | skip
  rename_i sep
  dsimp only at e2
  obtain ⟨xs, s2, e3, e4⟩ := M.bnd_some e2
  obtain ⟨e5, rfl⟩ := M.lift_some e4
  unfold joinD at e5
  cases h : strsOf xs with
  | none => rw [h] at e5; cases e5
  | some ys =>
    rw [h] at e5
    dsimp only at e5
    split at e5
    · rename_i hl
      cases e5
      refine ⟨⟨sep, rfl⟩, ρ, s1, Hs1, xs, _, n1.ok, e3, fun u Hs2 H2 n2 t => ?_⟩
      obtain ⟨p, vs, rfl, hp, hr⟩ := t.sq n2.ok
      rw [strsOf_map h] at hr
      have := hr.strs
      subst this
      exact ⟨sep, p, ys, rfl, rfl, SqLT hp, Nat.le_trans hl (by decide), q _ Hs2 H2 (n1.trans n2) (.str _)⟩
    · cases e5
end
end DL

/-! DL11: dicts, tables of the module, calls by name, zip, chains -/
namespace DL
open PySem PySem.Spec PyProof.Rows L2 Evl
section
variable {X : Cx} {B : Base} {a b c e o tg : Expr} {es : List Expr} {pos p apos cpos : Pos} {f1 f2 f3 : DE} {x : Str} {r1 : DT}

/-! ### {}, {constants} -/
theorem d_dnew : PE X (.Dict [] [] pos) (tE X.K B (eC (.dict []))) := pe_dnewK.imp fun σ H Q ⟨ρ, s, Hs, d, s', ok, e, q⟩ p hp => by
  cases e
  have nn := ok.laid (o := .dK []) hp
  exact q _ _ _ nn (.dct (ks := []) (vs := []) (ds := []) (.inl upd_same) .nil rfl)
theorem upd2 {H : Hp} {p : Addr} {o o' : HO} : upd (upd H p o) p o' = upd H p o' := by
  funext a
  by_cases h : a = p
  · subst h; rw [upd_same, upd_same]
  · rw [upd_ne h, upd_ne h, upd_ne h]
theorem d_disp {keys : List (Option Expr)} {values : List Expr} {trs : List (TE × TE)} (h : PPs X pos keys values trs) (ks : List L2.Key) (vs : List V) (ds : List PD)
    (ht : ∀ (σ : Sg) (H : Hp) (Q : List (V × V) → Hp → Prop), Q ((ks.zip vs).map fun kv => (kV kv.1, kv.2)) H → tPairs trs σ H Q) (hr : ∀ Hs, RpAll X.K Hs vs ds) (hm : mergeK [] (ks.zip vs) = ks.zip vs) (hkl : ks.length = vs.length) (hk : ks.length ≤ 15)
    (hall : keys.all (·.isSome) = true := by rfl) (hl : keys.length = values.length := by rfl) (h0 : keys ≠ [] := by exact fun z => nomatch z)
    (h15 : keys.length ≤ 15 := by decide) : PE X (.Dict keys values pos) (tE X.K B (eC (.dict ((ks.map keyD).zip ds)))) := (pe_disp h hall hl h0 h15).imp fun σ H Q ⟨ρ, s, Hs, d, s', ok, e, q⟩ p hp => by
  cases e
  refine ht _ _ _ ⟨upd_same, ks.zip vs, rfl, by rw [List.length_zip]; omega, ?_⟩
  rw [upd2, hm]
  have nn := ok.laid (o := .dK (ks.zip vs)) hp
  exact q _ _ _ nn (.dct (.inl upd_same) (hr _) hkl)
/-! ### d.get(k, x), k in d, d[k] -/
def keyIs : PD → PD → Bool
  | .int i, .int j => decide (i = j)
  | .str i, .str j => decide (i = j)
  | _, _ => false
def dlook (kvs : List (PD × PD)) (k : PD) : Option PD := (kvs.find? fun kv => keyIs kv.1 k).map (·.2)
theorem keyIs_iff (a b : L2.Key) : keyIs (keyD a) (keyD b) = decide (a = b) := by
  cases a <;> cases b <;> simp [keyIs, keyD]
theorem dlook_rp {K : PySem.W.Frag} {H : Hp} (k : L2.Key) : ∀ {ks : List L2.Key} {vs : List V} {ds : List PD}, RpAll K H vs ds → ks.length = vs.length →
    (∃ v d, valV (ks.zip vs) k = some v ∧ dlook ((ks.map keyD).zip ds) (keyD k) = some d ∧ Rp K H v d) ∨ (valV (ks.zip vs) k = none ∧ dlook ((ks.map keyD).zip ds) (keyD k) = none)
  | [], [], _, .nil, _ => .inr ⟨rfl, rfl⟩
  | k0 :: ks, v0 :: vs, d0 :: ds, .cons r0 rs, hl => by
    by_cases h : k0 = k
    · refine .inl ⟨v0, d0, valV_pos (p := (k0, v0)) h, ?_, r0⟩
      unfold dlook
      rw [List.map_cons, List.zip_cons_cons, List.find?_cons_of_pos]
      · rfl
      · show keyIs (keyD k0) (keyD k) = true
        rw [keyIs_iff, decide_eq_true h]
    · have e1 : valV ((k0 :: ks).zip (v0 :: vs)) k = valV (ks.zip vs) k := valV_neg (p := (k0, v0)) h
      have e2 : dlook (((k0 :: ks).map keyD).zip (d0 :: ds)) (keyD k) = dlook ((ks.map keyD).zip ds) (keyD k) := by
        unfold dlook
        rw [List.map_cons, List.zip_cons_cons, List.find?_cons_of_neg]
        show ¬ keyIs (keyD k0) (keyD k) = true
        rw [keyIs_iff, decide_eq_false h]
        exact Bool.false_ne_true
      rw [e1, e2]
      exact dlook_rp k rs (by simpa using hl)
def asKey : PD → Option L2.Key
  | .int i => some (.inl i)
  | .str i => some (.inr i)
  | _ => none
def get2D (d k z : PD) : Option PD := match d, asKey k with
  | .dict kvs, some _ => some ((dlook kvs k).getD z)
  | _, _ => none
def eGet2 (f g h : DE) : DE := fun ρ => (f ρ).bnd fun d => (g ρ).bnd fun k => (h ρ).bnd fun z => M.lift (get2D d k z)
theorem isD_of {K : PySem.W.Frag} {H : Hp} {v : V} {kvs : List (PD × PD)} (h : Rp K H v (.dict kvs)) : ∃ a, v = .ref a ∧ IsD H a := by
  cases h with
  | dct h _ _ => exact ⟨_, rfl, .inl ⟨_, h⟩⟩
theorem key_of {K : PySem.W.Frag} {H : Hp} {v : V} {d : PD} {k : L2.Key} (r : Rp K H v d) (h : asKey d = some k) : v = kV k ∧ d = keyD k := by
  cases r <;> cases h <;> exact ⟨rfl, rfl⟩
theorem d_get2 (hu : X.A.units + 64 < cLine) (ho : PE X o (tE X.K B f1)) (he : PE X a (tE X.K B f2)) (hf : PE X b (tE X.K B f3)) (m : M2 X o "get" apos a b cpos := by exact ⟨rfl, rfl, rfl, rfl⟩) : PE X (.Call (.Attribute o "get" apos) [a, b] [] cpos) (tE X.K B (eGet2 f1 f2 f3)) :=
  (pe_dget2 (by omega) ho he hf m).imp fun σ H Q ⟨ρ, s, Hs, d, s', ok, e, q⟩ => by
    obtain ⟨dd, s1, e1, g2⟩ := M.bnd_some e
    obtain ⟨kk, s2, e2, g3⟩ := M.bnd_some g2
    obtain ⟨zz, s3, e3, e4⟩ := M.bnd_some g3
    obtain ⟨e5, rfl⟩ := M.lift_some e4
    unfold get2D at e5
    split at e5
    · rename_i kvs k hk
      cases e5
      refine ⟨ρ, s, Hs, _, s1, ok, e1, fun v Hs1 H1 n1 rv => ?_⟩
      obtain ⟨ad, rfl, hd⟩ := isD_of (Rp.mono n1.ok.hk.sub rv)
      refine ⟨ad, rfl, hd, ρ, s1, Hs1, kk, s2, n1.ok, e2, fun y Hs2 H2 n2 ry => ?_⟩
      refine ⟨ρ, s2, Hs2, zz, _, n2.ok, e3, fun z Hs3 H3 n3 rz => ?_⟩
      obtain ⟨rfl, rfl⟩ := key_of ry hk
      have rv3 := Rp.mono (n2.ex.trans n3.ex) rv
      cases rv3 with
      | dct h rs hl =>
        refine ⟨_, .inl ⟨_, k, ex_rd n3.ok.hk.sub h, rfl, rfl⟩, ?_⟩
        rcases dlook_rp k rs hl with ⟨v', d', h1, h2, h3⟩ | ⟨h1, h2⟩
        · rw [h1]
          rw [h2] at q
          exact q _ Hs3 H3 (n1.trans (n2.trans n3)) h3
        · rw [h1]
          rw [h2] at q
          exact q _ Hs3 H3 (n1.trans (n2.trans n3)) rz
    · cases e5

/-! ### a table of the module: texts by texts -/
def klook (kvs : List (Str × Str)) (z : Str) : Option Str := (kvs.find? fun kv => decide (kv.1 = z)).map (·.2)
structure KD (K : PySem.W.Frag) (w : World) (mg : Str → Option Value) (x : Str) (kvs : List (Str × Str)) : Prop where
  ex : ∃ d es n, KDict K w d es n ∧ mg x = some (.ref d) ∧ ∀ z, match klook kvs z with
    | some v => ∃ t, PySem.W.nsIn K d z = some (some (.str v t))
    | none => PySem.W.nsIn K d z = some none
def inKD (kvs : List (Str × Str)) : PD → Option PD
  | .str z => some (.bool (klook kvs z).isSome)
  | _ => none
def itemKD (kvs : List (Str × Str)) : PD → Option PD
  | .str z => (klook kvs z).map .str
  | _ => none
def eUn (g : PD → Option PD) (f : DE) : DE := fun ρ => (f ρ).bnd fun x => M.lift (g x)
variable {kvs : List (Str × Str)}
theorem pc_inKD {xd : Str} {pd : Pos} (D : KD X.K X.w X.mg xd kvs) (ha : PE X a (tE X.K B f1)) (hg : Gl X xd) (hdb : (xd == ("__debug__" : Str)) = false) : PC X .In a (.Name xd pd) (tE X.K B (eUn (inKD kvs) f1)) := by
  obtain ⟨d, es, n, D1, hmg, hz⟩ := D.ex
  refine (pcR (op_in_kd D1) ha (pe_glob (v := .ref d) hg hmg rfl hdb)).imp fun σ H Q ⟨ρ, s, Hs, d', s', ok, e, q⟩ => ?_
  obtain ⟨x, s1, e1, e2⟩ := M.bnd_some e
  obtain ⟨e5, rfl⟩ := M.lift_some e2
  refine ⟨ρ, s, Hs, x, _, ok, e1, fun v Hs1 H1 n1 r1 => ?_⟩
  cases r1 <;> first | (cases e5; done) | skip
  rename_i z
  cases e5
  have := hz z
  cases h : klook kvs z with
  | none =>
    rw [h] at this q
    exact ⟨z, _, rfl, rfl, this, q _ Hs1 H1 n1 (.bl _)⟩
  | some w =>
    rw [h] at this q
    obtain ⟨t, ht⟩ := this
    exact ⟨z, _, rfl, rfl, ht, q _ Hs1 H1 n1 (.bl _)⟩
theorem d_inKD {w : World} {K : PySem.W.Frag} {mg : Str → Option Value} {xd : Str} {pd : Pos} (D : KD K w mg xd kvs) (ha : PE X a (tE X.K B f1)) (hg : Gl X xd := by rfl) (hdb : (xd == ("__debug__" : Str)) = false := by decide) (hm : behindInMarks .In (.Name xd pd) = false := by rfl) (hX : X.K = K ∧ X.w = w ∧ X.mg = mg := by exact ⟨rfl, rfl, rfl⟩) :
    PE X (.Compare a [.In] [.Name xd pd] pos) (tE X.K B (eUn (inKD kvs) f1)) := by
  obtain ⟨rfl, rfl, rfl⟩ := hX
  exact pe_cmp (pc_inKD D ha hg hdb) hm
theorem t_inKD {w : World} {K : PySem.W.Frag} {mg : Str → Option Value} {xd : Str} {pd : Pos} (D : KD K w mg xd kvs) (ha : PE X a (tE X.K B f1)) (hg : Gl X xd := by rfl) (hdb : (xd == ("__debug__" : Str)) = false := by decide) (hm : behindInMarks .In (.Name xd pd) = false := by rfl) (hX : X.K = K ∧ X.w = w ∧ X.mg = mg := by exact ⟨rfl, rfl, rfl⟩) :
    PT X (.Compare a [.In] [.Name xd pd] pos) (tB X.K B (bOf (eUn (inKD kvs) f1))) := by
  obtain ⟨rfl, rfl, rfl⟩ := hX
  exact t_pc (pc_inKD D ha hg hdb) hm
theorem d_itemKD {w : World} {K : PySem.W.Frag} {mg : Str → Option Value} {xd : Str} (D : KD K w mg xd kvs) (hb : PE X b (tE X.K B f1)) (hg : Gl X xd := by rfl) (hdb : (xd == ("__debug__" : Str)) = false := by decide) (hs : PlainIx b := by exact fun _ _ => rfl) (hX : X.K = K ∧ X.w = w ∧ X.mg = mg := by exact ⟨rfl, rfl, rfl⟩) :
    PE X (.Subscript (.Name xd p) b pos) (tE X.K B (eUn (itemKD kvs) f1)) := by
  obtain ⟨rfl, rfl, rfl⟩ := hX
  obtain ⟨d, es, n, D1, hmg, hz⟩ := D.ex
  refine (pe_ix ix_kdict (pe_glob (v := .ref d) hg hmg rfl hdb) hb hs).imp fun σ H Q ⟨ρ, s, Hs, d', s', ok, e, q⟩ => ?_
  obtain ⟨x, s1, e1, e2⟩ := M.bnd_some e
  obtain ⟨e5, rfl⟩ := M.lift_some e2
  refine ⟨ρ, s, Hs, x, _, ok, e1, fun v Hs1 H1 n1 r1 => ?_⟩
  cases r1 <;> first | (cases e5; done) | skip
  rename_i z
  unfold itemKD at e5
  dsimp only at e5
  have := hz z
  cases h : klook kvs z with
  | none =>
    rw [h] at e5
    cases e5
  | some w =>
    rw [h] at this e5
    cases e5
    obtain ⟨t, ht⟩ := this
    exact ⟨d, z, .str w, rfl, rfl, ⟨es, n, _, D1.at_, D1.lit, ht, ⟨t, rfl⟩⟩, q _ Hs1 H1 n1 (.str _)⟩

theorem isStr_eq {y z : Str} {t : Tok} (h : (Value.str y t).isStr z = true) : y = z := by
  unfold Value.isStr at h
  exact eq_of_beq h
theorem kd_of {K : PySem.W.Frag} {w : World} {mg : Str → Option Value} {x : Str} {kvs : List (Str × Str)} {d : Addr} (hm : mg x = some (.ref d)) (h1 : He.dicW K d = some (He.keysIn w.params (kvs.map (·.1)))) (h2 : (kvs.all fun q => match PySem.W.nsIn K d q.1 with | some (some (.str v _)) => decide (v = q.2) | _ => false) = true) : KD K w mg x kvs := by
  obtain ⟨es, n, D⟩ := He.dicW_ok h1
  refine ⟨d, es, n, D, hm, fun z => ?_⟩
  cases h : klook kvs z with
  | some v =>
    dsimp only
    unfold klook at h
    cases hf : kvs.find? fun kv => decide (kv.1 = z) with
    | none => rw [hf] at h; cases h
    | some q =>
      rw [hf] at h
      cases h
      have hq := List.mem_of_find?_eq_some hf
      have hz : q.1 = z := by simpa using List.find?_some hf
      have h3 := List.all_eq_true.mp h2 q hq
      rw [hz] at h3
      split at h3
      · rename_i v t hn
        have : v = q.2 := by simpa using h3
        subst this
        exact ⟨t, hn⟩
      · cases h3
  | none =>
    dsimp only
    have hno : ∀ q ∈ kvs, q.1 ≠ z := fun q hq e => by
      unfold klook at h
      cases hf : kvs.find? fun kv => decide (kv.1 = z) with
      | none =>
        have := List.find?_eq_none.mp hf q hq
        exact this (by simpa using e)
      | some q => rw [hf] at h; cases h
    have hkeys : es.toList.map He.keyOf = He.keysIn w.params (kvs.map (·.1)) := by
      unfold He.dicW at h1
      rw [D.at_] at h1
      dsimp only at h1
      split at h1
      · exact Option.some.inj h1
      · cases h1
    have hall : ∀ e ∈ es.toList, ∃ y t, e.key = .str y t ∧ y ≠ z := fun e he => by
      have hm : He.keyOf e ∈ He.keysIn w.params (kvs.map (·.1)) := by rw [← hkeys]; exact List.mem_map_of_mem he
      unfold He.keysIn at hm
      rw [List.map_map] at hm
      obtain ⟨q, hq, eq⟩ := List.mem_map.mp hm
      cases hk : e.key with
      | str y t =>
        unfold He.keyOf at eq
        rw [hk] at eq
        have := (Prod.mk.inj (Option.some.inj eq)).1
        exact ⟨y, t, rfl, fun z' => hno q hq (this.trans z')⟩
      | _ =>
        unfold He.keyOf at eq
        rw [hk] at eq
        cases eq
    unfold PySem.W.nsIn
    rw [D.at_]
    dsimp only
    have f1 : es.toList.find? (·.key.isStr z) = none := by
      rw [List.find?_eq_none]
      intro e he
      obtain ⟨y, t, hk, hne⟩ := hall e he
      rw [hk]
      intro w'
      exact hne (isStr_eq w')
    have f2 : (es.toList.any (·.refKey)) = false := by
      rw [List.any_eq_false]
      intro e he
      obtain ⟨y, t, hk, hne⟩ := hall e he
      unfold DictEntry.refKey
      rw [hk]
      exact Bool.false_ne_true
    rw [f1, f2]
    rfl

/-! ### f(p = e, ..), all by name in the parameters' order -/
variable {kws : List Keyword}
def tLK (K : PySem.W.Frag) (B : Base) (m : DT) : TA := tL K B m
theorem k_nil : PK X [] (tL X.K B lNil) := ⟨fun pos pins s σ H Q I h => by
  obtain ⟨ρ, s', Hs, d, s'', ok, e, q⟩ := h
  cases e
  exact pk_nil.run pos pins s σ H Q I (q [] Hs H (Nx.refl ok) .nil)⟩
theorem k_cons {nm : Option Str} {kpos : Pos} (ha : PE X e (tE X.K B f1)) (hr : PK X kws (tL X.K B r1)) : PK X (⟨nm, e, kpos⟩ :: kws) (tL X.K B (lCons f1 r1)) := ⟨fun pos pins s σ H Q I h => by
  refine (pk_cons ha hr).run pos pins s σ H Q I ?_
  obtain ⟨ρ, s, Hs, d, s', ok, e, q⟩ := h
  obtain ⟨x, s1, e1, e2⟩ := M.bnd_some e
  obtain ⟨xs, s2, e2, e3⟩ := M.bnd_some e2
  cases e3
  refine ⟨ρ, s, Hs, x, s1, ok, e1, fun v Hs1 H1 n1 q1 => ?_⟩
  exact ⟨ρ, s1, Hs1, xs, _, n1.ok, e2, fun vs Hs2 H2 n2 q2 => q _ Hs2 H2 (n1.trans n2) (.cons (q1.mono n2.ex) q2)⟩⟩
/-- how the names bind -/
def KB (st : Stmt) (ps : List Str) : Prop := ∀ (x : Str) (kV doc pm : Value) (an : Option Addr) (cdv ct : Value) (ws : List Value), ws.length = ps.length → bindArgs (PySem.W.fnOf x x (defArgs st) (defBody st) (defScope st) .none kV doc pm an cdv ct) ⟨[], ps.zip ws⟩ = pure (ps.zip ws)
theorem ag_of {K : PySem.W.Frag} {Hs : Hp} : ∀ {vs : List V} {ds : List PD}, RpAll K Hs vs ds → AgAll K Hs vs (ds.map Ag.d)
  | _, _, .nil => .nil
  | _, _, .cons r t => .cons (show AgOk K Hs _ (.d _) from r) (ag_of t)
def eCallK (φ : Fn) (m : DT) : DE := fun ρ => (m ρ).bnd fun xs => φ (xs.map Ag.d)
def cK (φ : Fn) (n : Nat) (m : DT) : DE := fun ρ => ((m ρ).bnd fun ds s => if ds.length = n then some (ds, s) else none).bnd fun xs => φ (xs.map Ag.d)
theorem d_callK {P : Program} {w : World} {K : PySem.W.Frag} {mg : Str → Option Value} {base : Heap} {A : Around} {st : Stmt} {ps : List Str} {k j : Nat} {φ : Fn} {m : DT} (F : FnD P w K mg base x st ps k φ) (hr : Room j A) (hj : k ≤ j) (hg : Gl X x) (hb : KB st ps) (hkw : PK X kws (tL X.K B m))
    (hl : kws.length = ps.length := by rfl) (hall : (backToKw pos (keywordEach kws X.env)).all (·.1.isSome) = true := by rfl) (hks : (backToKw pos (keywordEach kws X.env)).filterMap (·.1) = ps := by rfl) (hdb : (x == ("__debug__" : Str)) = false := by decide)
    (hpl : ((backTo pos (starEach [] X.env)).any (·.1) || (backToKw pos (keywordEach kws X.env)).any (·.1.isNone)) = false := by rfl)
    (hX : X.prog = P ∧ X.w = w ∧ X.K = K ∧ X.mg = mg ∧ X.base = base ∧ X.A = A := by exact ⟨rfl, rfl, rfl, rfl, rfl, rfl⟩) :
    PE X (.Call (.Name x p) [] kws pos) (tE X.K B (cK φ ps.length m)) := by
  obtain ⟨rfl, rfl, rfl, rfl, rfl, rfl⟩ := hX
  obtain ⟨f, fd, nm, h1, h2, h3, h4⟩ := F.ex
  refine ⟨fun pins s0 σ H Q I hq => ?_⟩
  obtain ⟨ρ, s, Hs, d, s', ok, e, q⟩ := hq
  obtain ⟨ds, s1, e1, e2⟩ := M.bnd_some e
  obtain ⟨ds', s2, e1, e3⟩ := M.bnd_some e1
  split at e3
  · rename_i hlen
    cases e3
    refine wpAny_Call_Name_kw (ld_glob I hg h1 ?_ hdb)
    refine PySem.W.callWith_KW0 (h₀ := X.base) I.ok.mod.kin h2.kp hall ?_ hpl
    refine thn (hkw.run pos pins s0 σ H (fun vs H1 => ∃ Hs1, Nx X.K B ρ σ s1 Hs H Hs1 H1 ∧ RpAll X.K Hs1 vs ds) I ⟨ρ, s, Hs, ds, s1, ok, e1, fun vs Hs1 H1 n1 w1 => ⟨Hs1, n1, w1⟩⟩) fun ws s3 ⟨zs, H2, I2, rz, Hs1, n1, w1⟩ => ⟨I2.kIn, ?_⟩
    rw [hks]
    have hwl : ws.length = ps.length := by rw [← rz.length, w1.length, hlen]
    have hbt : BindsTo s3 fd ⟨[], ps.zip ws⟩ (ps.zip ws) := by
      obtain ⟨oc, od, kV, doc, pm, an, cdv, ct, osl, e', _, _⟩ := h2.ex
      subst e'
      exact .of_eq (hb nm kV doc pm an cdv ct ws hwl)
    have hsp : spD X.K ps.length φ zs H2 Q E0 := ⟨Hs1, s1, ds.map Ag.d, d, s', by rw [List.length_map]; exact hlen, n1.ok.hk.sub, n1.ok.hk.st, ag_of w1, e2, fun v Hs' H' n r => q v Hs' H' (n1.trans (since_ok n1.ok n)) r⟩
    refine wpAny_call (codeAny_mono (h3.run X.A X.stack s3 H2 ⟨[], ps.zip ws⟩ ws zs Q E0 (hr.mono hj) I2.env0 hbt rz hsp) fun r s' hq => ?_)
    cases r with
    | error e => exact hq.elim
    | ok fl =>
      cases fl with
      | ret u => exact I2.after hq
      | next => exact False.elim hq
      | brk => exact False.elim hq
      | cont => exact False.elim hq
  · cases e3

/-! ### zip(xs, ys) -/
def zipL (xs ys : List PD) : List PD := (xs.zip ys).map fun p => .tuple [p.1, p.2]
theorem zipL_get {xs ys : List PD} {i : Nat} {d : PD} (h : (zipL xs ys)[i]? = some d) : ∃ x y, xs[i]? = some x ∧ ys[i]? = some y ∧ d = .tuple [x, y] := by
  unfold zipL at h
  rw [List.getElem?_map] at h
  cases e : (xs.zip ys)[i]? with
  | none => rw [e] at h; cases h
  | some q =>
    rw [e] at h
    cases h
    obtain ⟨h1, h2⟩ := List.getElem?_zip_eq_some.mp e
    exact ⟨_, _, h1, h2, rfl⟩
theorem yl_zip {p1 p2 : Addr} {vs ws : List V} {ds es : List PD} {Hs0 : Hp} (h : Hs0 p1 = some (.lst vs)) (r : RpAll X.K Hs0 vs ds) (h' : Hs0 p2 = some (.lst ws)) (r' : RpAll X.K Hs0 ws es) : Yl X.K B (Itz X.K p1 p2) Hs0 (zipL ds es) := fun i ρ σ s Hs H ok x => by
  have hp : SqL X.K H p1 vs := SqL.of (ok.hk.sub _ _ (x _ _ h))
  have hp' : SqL X.K H p2 ws := SqL.of (ok.hk.sub _ _ (x _ _ h'))
  refine ⟨fun d hd => ?_, fun hl => ⟨vs, ws, hp, hp', ?_⟩⟩
  · obtain ⟨d1, d2, g1, g2, rfl⟩ := zipL_get hd
    obtain ⟨v1, k1, k2⟩ := r.get g1
    obtain ⟨v2, l1, l2⟩ := r'.get g2
    refine ⟨⟨vs, ws, v1, v2, hp, hp', k1, l1⟩, fun y H' hy => ?_⟩
    obtain ⟨T, a, b, rfl, hT, rfl, ha, hb⟩ := hy
    have ea := ha vs hp
    have eb := hb ws hp'
    rw [k1] at ea
    rw [l1] at eb
    cases ea
    cases eb
    have nn := ok.laid (o := .tup [v1, v2]) hT
    exact ⟨_, nn, .tup (SqT.of upd_same) (.cons (Rp.mono (x.trans nn.ex) k2) (.cons (Rp.mono (x.trans nn.ex) l2) .nil))⟩
  · unfold zipL at hl
    rw [List.length_map, List.length_zip] at hl
    have := r.length
    have := r'.length
    omega
def iZip (f g : DE) : DT := fun ρ => (f ρ).bnd fun x => (g ρ).bnd fun y => match x, y with
  | .list xs, .list ys => M.ret (zipL xs ys)
  | _, _ => M.fail
def tG2 : Prop := True
theorem yl_zipT {p1 p2 : Addr} {vs ws : List V} {ds es : List PD} {Hs0 : Hp} (h : SqT X.K Hs0 p1 vs) (r : RpAll X.K Hs0 vs ds) (h' : SqT X.K Hs0 p2 ws) (r' : RpAll X.K Hs0 ws es) : Yl X.K B (RZ.ItzT X.K p1 p2) Hs0 (zipL ds es) := fun i ρ σ s Hs H ok x => by
  have hp : SqT X.K H p1 vs := ex_t ok.hk.sub (ex_t x h)
  have hp' : SqT X.K H p2 ws := ex_t ok.hk.sub (ex_t x h')
  refine ⟨fun d hd => ?_, fun hl => ⟨vs, ws, hp, hp', ?_⟩⟩
  · obtain ⟨d1, d2, g1, g2, rfl⟩ := zipL_get hd
    obtain ⟨v1, k1, k2⟩ := r.get g1
    obtain ⟨v2, l1, l2⟩ := r'.get g2
    refine ⟨⟨vs, ws, v1, v2, hp, hp', k1, l1⟩, fun y H' hy => ?_⟩
    obtain ⟨T, a, b, rfl, hT, rfl, ha, hb⟩ := hy
    have ea := ha vs hp
    have eb := hb ws hp'
    rw [k1] at ea
    rw [l1] at eb
    cases ea
    cases eb
    have nn := ok.laid (o := .tup [v1, v2]) hT
    exact ⟨_, nn, .tup (SqT.of upd_same) (.cons (Rp.mono (x.trans nn.ex) k2) (.cons (Rp.mono (x.trans nn.ex) l2) .nil))⟩
  · unfold zipL at hl
    rw [List.length_map, List.length_zip] at hl
    have := r.length
    have := r'.length
    omega
def zipD : PD → PD → Option (List PD)
  | .list xs, .list ys => some (zipL xs ys)
  | .tuple xs, .tuple ys => some (zipL xs ys)
  | _, _ => none
def iZipD (f g : DE) : DT := fun ρ => (f ρ).bnd fun x => (g ρ).bnd fun y => M.lift (zipD x y)
theorem i_zip {elts : List Expr} {kk : Nat} {tpos : Pos} (ha : PE X a (tE X.K B f1)) (hb : PE X b (tE X.K B f2)) (hm : X.mg "zip" = none) (hg : Gl X "zip" := by rfl)
    (hs : starEach [a, b] X.env = (false, eval a X.env) :: starEach [b] X.env := by rfl) (hs2 : starEach [b] X.env = (false, eval b X.env) :: starEach [] X.env := by rfl) (hpl : (backTo pos (starEach [b] X.env)).any (·.1) = false := by rfl) :
    PI X (.Tuple elts kk tpos) (.Call (.Name "zip" p) [a, b] [] pos) (tI X.K B (iZipD f1 f2)) :=
  (RZ.pi_zipA hg hm (l_cons ha (l_cons hb l_nil hs2) hs) hs hpl).imp fun σ H R ⟨ρ, s, Hs, xs, s', ok, e, q⟩ => by
    obtain ⟨x, s1, e1, g2⟩ := M.bnd_some e
    obtain ⟨y, s2, e2, g3⟩ := M.bnd_some g2
    obtain ⟨e5, rfl⟩ := M.lift_some g3
    refine ⟨ρ, s, Hs, [x, y], s', ok, ?_, fun vs Hs1 H1 n1 r1 => ?_⟩
    · unfold lCons lNil M.bnd
      rw [e1]
      dsimp only
      rw [e2]
      rfl
    · cases r1 with
      | cons r1 r2 =>
        cases r2 with
        | cons r2 r3 =>
          cases r3
          cases r1 <;> cases r2 <;> first | (cases e5; done) | skip
          · rename_i p1 vs ds hp hs p2 ws es hp' hs'
            cases e5
            exact ⟨p1, p2, vs, ws, rfl, .inl ⟨SqL.of (n1.ok.hk.sub _ _ hp), SqL.of (n1.ok.hk.sub _ _ hp'), q _ Hs1 H1 n1 (yl_zip hp hs hp' hs')⟩⟩
          · rename_i p1 vs ds hp hs p2 ws es hp' hs'
            cases e5
            exact ⟨p1, p2, vs, ws, rfl, .inr ⟨ex_t n1.ok.hk.sub hp, ex_t n1.ok.hk.sub hp', q _ Hs1 H1 n1 (yl_zipT hp hs hp' hs')⟩⟩
end
end DL

/-! DL12: the draws' state as it is read and written -/
namespace DL
open PySem PySem.Spec PyProof.Rows L2 Evl
section
variable {X : Cx} {B : Base} {a b c e o tg : Expr} {es : List Expr} {pos p apos cpos : Pos} {f1 f2 f3 : DE} {x : Str} {r1 : DT}
theorem Ok.updA {ρ : Rho} {σ : Sg} {s s' : SS} {Hs H : Hp} {q : Addr} {o : HO} (ok : Ok X.K B ρ σ s Hs H) (hq : q ∈ adrs B.s) (ha : adrs s' = adrs s) (hs : SOk s' Hs (upd H q o)) : Nx X.K B ρ σ s' Hs H Hs (upd H q o) := by
  have hk := ok.hk
  have hn : Hs q = none := hk.st.adr (by rw [hk.ad]; exact hq)
  have kp : ∀ a u, H a = some u → a ∉ adrs B.s → upd H q o a = some u := fun a u e n => by
    have : a ≠ q := fun z => n (by rw [z]; exact hq)
    rw [upd_ne this]; exact e
  refine ⟨ok.step ⟨fun a u e => ?_, hs, ha.trans hk.ad, hk.ex0, fun a u e n => kp a u (hk.kp0 a u e n) n, hk.nw0, fun a e => ?_⟩ (Ex.refl _) kp fun _ _ _ n => n, Ex.refl _, kp, fun _ _ _ n => n⟩
  · have : a ≠ q := fun z => by rw [z, hn] at e; cases e
    rw [upd_ne this]; exact hk.sub a u e
  · by_cases z : a = q
    · rw [z, upd_same] at e; cases e
    · rw [upd_ne z] at e; exact hk.dm0 a e
def strmL (z : Strm) : List V := [.ref z.ca, .int z.cur, .int z.cnt, .int z.mix]
theorem SOk.sa {z : Strm} {Hs H : Hp} (h : SOk (some z) Hs H) : H z.sa = some (.lst (strmL z)) := h.2.2.2.1
theorem SOk.ca {z : Strm} {Hs H : Hp} (h : SOk (some z) Hs H) : H z.ca = some (.lst (z.cells.map V.int)) := h.2.2.2.2
/-- stream[k], k = 1, 2, 3 -/
def fldS (z : Strm) : Nat → Option Int
  | 1 => some z.cur
  | 2 => some z.cnt
  | 3 => some z.mix
  | _ => none
def eFld (i k : Nat) : DE := fun ρ s => match rget ρ i, s with
  | some (.p a), some z => if a = z.sa then (fldS z k).map fun v => (.int v, some z) else none
  | _, _ => none
theorem eFld_some {i k : Nat} {ρ : Rho} {s s' : SS} {d : PD} (h : eFld i k ρ s = some (d, s')) : ∃ z v, rget ρ i = some (.p z.sa) ∧ s = some z ∧ s' = some z ∧ d = .int v ∧ fldS z k = some v := by
  unfold eFld at h
  split at h
  · rename_i a z hr
    split at h
    · rename_i e
      subst e
      cases h2 : fldS z k with
      | none => rw [h2] at h; cases h
      | some v => rw [h2] at h; cases h; exact ⟨z, v, hr, rfl, rfl, rfl, h2⟩
    · cases h
  · cases h
theorem at_fld {z : Strm} {k : Nat} {v : Int} (h : fldS z k = some v) : atI (strmL z) (k : Int) = some (.int v) := by
  unfold fldS at h
  split at h <;> first | (cases h; done) | (cases h; rfl)
theorem d_fld (i k : Nat) {x : Str} {px pk : Pos} {j : Nat} (hk : 1 ≤ k := by decide) (hN : X.N[i]? = some x := by rfl) (hv : Vis X.env.scope x := by first | exact Or.inl rfl | exact Or.inr (Or.inl rfl) | exact Or.inr (Or.inr rfl)) (hd : (x == ("__debug__" : Str)) = false := by decide)
    (hcd : (x == ("__classdict__" : Str)) = false := by decide) : PE X (.Subscript (.Name x px) (.Constant (.int (k : Int)) j pk) pos) (tE X.K B (eFld i k)) :=
  (pe_ix ix_list (pe_var hN hv hd hcd) pe_int (fun _ _ => rfl)).imp fun σ H Q ⟨ρ, s, Hs, d, s', ok, e, q⟩ => by
    obtain ⟨z, v, hr, rfl, rfl, rfl, hf⟩ := eFld_some e
    obtain ⟨u, h1, h2⟩ := ok.sl i _ hr
    cases h2
    exact ⟨_, h1, _, _, _, _, rfl, rfl, SqL.of ok.hk.st.sa, at_fld hf, q _ Hs H (Nx.refl ok) (.int v)⟩
/-- stream[k] = e -/
def putS (z : Strm) (k : Nat) (v : Int) : Option Strm := match k with
  | 1 => some { z with cur := v }
  | 2 => some { z with cnt := v }
  | 3 => some { z with mix := v }
  | _ => none
def sFld (i k : Nat) (f : DE) : DS := fun ρ => (f ρ).bnd fun d s => match rget ρ i, s, d with
  | some (.p a), some z, .int v => if a = z.sa then (putS z k v).map fun z' => (.nx ρ, some z') else none
  | _, _, _ => none
theorem put_fld {z z' : Strm} {k : Nat} {v : Int} (h : putS z k v = some z') : ixN (strmL z).length (k : Int) = some k ∧ (strmL z).set k (.int v) = strmL z' ∧ z'.sa = z.sa ∧ z'.ca = z.ca ∧ z'.cells = z.cells := by
  unfold putS at h
  split at h <;> first | (cases h; done) | (cases h; exact ⟨rfl, rfl, rfl, rfl, rfl⟩)
theorem s_fld (i k : Nat) {x : Str} {px pk p2 : Pos} {j : Nat} (he : PE X e (tE X.K B f1)) (hN : X.N[i]? = some x := by rfl) (hv : Vis X.env.scope x := by first | exact Or.inl rfl | exact Or.inr (Or.inl rfl) | exact Or.inr (Or.inr rfl)) (hd : (x == ("__debug__" : Str)) = false := by decide)
    (hcd : (x == ("__classdict__" : Str)) = false := by decide) (hs : swapsWithSole [.Subscript (.Name x px) (.Constant (.int (k : Int)) j pk) p2] e pos.line X.env = pure false := by rfl) (hw : swappedStores [.Subscript (.Name x px) (.Constant (.int (k : Int)) j pk) p2] e X.env = pure none := by rfl)
    (h1 : (assignEach [.Subscript (.Name x px) (.Constant (.int (k : Int)) j pk) p2] X.env).map (·.2) = [assign (.Subscript (.Name x px) (.Constant (.int (k : Int)) j pk) p2) X.env] := by rfl) :
    PS X (.Assign [.Subscript (.Name x px) (.Constant (.int (k : Int)) j pk) p2] e pos) (tS X.K B (sFld i k f1)) :=
  (ps_asg he (pg_sub (pe_var hN hv hd hcd) pe_int set_list) hs hw h1).imp fun D σ H ⟨ρ, s, Hs, fl, s', ok, e, q⟩ => by
    obtain ⟨d, s1, e1, e2⟩ := M.bnd_some e
    refine ⟨ρ, s, Hs, d, s1, ok, e1, fun v Hs1 H1 n1 r1 => ?_⟩
    split at e2
    · rename_i a z w hr
      split at e2
      · rename_i ea
        subst ea
        cases hp : putS z k w with
        | none => rw [hp] at e2; cases e2
        | some z' =>
          rw [hp] at e2
          cases e2
          cases r1
          obtain ⟨h2, h3, h4, h5, h6⟩ := put_fld hp
          obtain ⟨u, k1, k2⟩ := n1.ok.sl i _ hr
          cases k2
          have st := n1.ok.hk.st
          have hm : z.sa ∈ adrs B.s := by rw [← n1.ok.hk.ad]; exact List.mem_cons_self
          refine ⟨_, k1, z.sa, strmL z, (k : Int), k, rfl, rfl, st.sa, h2, ?_⟩
          rw [h3]
          refine q σ Hs1 _ (n1.ok.updA hm (by show [z'.sa, z'.ca] = [z.sa, z.ca]; rw [h4, h5]) ?_).ok n1.ex
          obtain ⟨g1, g2, g3, g4, g5⟩ := st
          refine ⟨by rw [h4, h5]; exact g1, by rw [h4]; exact g2, by rw [h5]; exact g3, by rw [h4, upd_same]; rfl, ?_⟩
          rw [h5, h6, upd_ne (Ne.symm g1)]
          exact g5
      · cases e2
    · cases e2
/-- stream[0] != [] -/
theorem plain_ints : ∀ ns : List Int, PyData.plainAll (ns.map PyData.int) = true
  | [] => rfl
  | n :: ns => by rw [List.map_cons, PyData.plainAll, plain_ints ns]; rfl
theorem depth_ints : ∀ ns : List Int, PyData.depthAll (ns.map PyData.int) ≤ 1
  | [] => by decide
  | n :: ns => by
    have := depth_ints ns
    rw [List.map_cons, PyData.depthAll]
    have h : (PyData.int n).depth ≤ 1 := by first | exact Nat.le_refl _ | (show 0 ≤ 1; decide) | (unfold PyData.depth; decide)
    exact Nat.max_le.mpr ⟨h, this⟩
def eMore (i : Nat) : DE := fun ρ s => match rget ρ i, s with
  | some (.p a), some z => if a = z.sa then some (.bool (!z.cells.isEmpty), some z) else none
  | _, _ => none
def rNeD (X : Cx) : R2 := fun x y H Q => ∃ d e, Rp X.K H x d ∧ Rp X.K H y e ∧ flatP d = true ∧ flatP e = true ∧ Q (.bl (!PyData.eqv d e)) H
theorem op_neD (hu : X.A.units + 64 < cLine) : OpR X (compareOp .NotEq) (rNeD X) := by
  intro pins s σ H x y v u Q I rx ry h
  obtain ⟨d, e, hd, he, p1, p2, q⟩ := h
  obtain ⟨p1, l1⟩ := Bool.and_eq_true_iff.mp p1
  obtain ⟨p2, l2⟩ := Bool.and_eq_true_iff.mp p2
  obtain ⟨as, r1⟩ := Rp.reads I d x v hd rx p1
  obtain ⟨bs, r2⟩ := Rp.reads I e y u he ry p2
  have l1' := of_decide_eq_true l1
  exact PySem.SeqAt.ne_plain r1 r2 p1 p2 (by omega) ⟨.bl _, H, I, rfl, q⟩
theorem rp_ints {K : PySem.W.Frag} {H : Hp} {a : Addr} {ns : List Int} (h : H a = some (.lst (ns.map V.int))) : Rp K H (.ref a) (.list (ns.map .int)) := .lst h (RpAll.of_ints ns)
theorem flat_ints (ns : List Int) : flatP (.list (ns.map .int)) = true := by
  unfold flatP
  rw [Bool.and_eq_true]
  refine ⟨by simpa [PyData.plain] using plain_ints ns, ?_⟩
  have := depth_ints ns
  have h2 : (PyData.list (ns.map PyData.int)).depth ≤ 60 := by rw [PyData.depth]; omega
  exact decide_eq_true h2
theorem eqv_nil (ns : List Int) : PyData.eqv (.list (ns.map .int)) (.list []) = ns.isEmpty := by
  cases ns <;> rfl
theorem pc_more (i : Nat) {x : Str} {px pk p2 p3 : Pos} {j : Nat} (hu : X.A.units + 64 < cLine) (hN : X.N[i]? = some x) (hv : Vis X.env.scope x) (hd : (x == ("__debug__" : Str)) = false)
    (hcd : (x == ("__classdict__" : Str)) = false) : PC X .NotEq (.Subscript (.Name x px) (.Constant (.int 0) j pk) p2) (.List [] p3) (tE X.K B (eMore i)) :=
  (pcR (op_neD hu) (pe_ix ix_list (pe_var hN hv hd hcd) pe_int (fun _ _ => rfl)) (pe_lst pa_nil)).imp fun σ H Q ⟨ρ, s, Hs, d, s', ok, e, q⟩ => by
    unfold eMore at e
    split at e
    · rename_i a z hr
      split at e
      · rename_i ea
        subst ea
        cases e
        obtain ⟨u, h1, h2⟩ := ok.sl i _ hr
        cases h2
        refine ⟨_, h1, z.sa, strmL z, 0, .ref z.ca, rfl, rfl, SqL.of ok.hk.st.sa, rfl, ?_⟩
        refine ⟨by decide +kernel, fun p2 hp2 => ?_⟩
        have hn := ne_of_none ok.hk.st.ca hp2
        refine ⟨.list (z.cells.map .int), .list [], rp_ints (by rw [upd_ne hn]; exact ok.hk.st.ca), .lst upd_same .nil, flat_ints _, by decide, ?_⟩
        rw [eqv_nil]
        have nn := ok.laidO (o := .lst []) hp2
        exact q _ _ _ nn (.bl _)
      · cases e
    · cases e
theorem t_more (i : Nat) {x : Str} {px pk p2 p3 : Pos} {j : Nat} (hu : X.A.units + 64 < cLine) (hN : X.N[i]? = some x := by rfl) (hv : Vis X.env.scope x := by first | exact Or.inl rfl | exact Or.inr (Or.inl rfl) | exact Or.inr (Or.inr rfl)) (hd : (x == ("__debug__" : Str)) = false := by decide)
    (hcd : (x == ("__classdict__" : Str)) = false := by decide) (hm : behindInMarks .NotEq (.List [] p3) = false := by rfl) : PT X (.Compare (.Subscript (.Name x px) (.Constant (.int 0) j pk) p2) [.NotEq] [.List [] p3] pos) (tB X.K B (bOf (eMore i))) := t_pc (pc_more i hu hN hv hd hcd) hm
/-- stream[0].pop(0) -/
def ePop0 (i : Nat) : DE := fun ρ s => match rget ρ i, s with
  | some (.p a), some z => if a = z.sa then (match z.cells with
    | c :: cs => some (.int c, some { z with cells := cs })
    | [] => none) else none
  | _, _ => none
theorem d_pop0 (i : Nat) {x : Str} {px pk p2 p4 : Pos} {j j2 : Nat} (hN : X.N[i]? = some x := by rfl) (hv : Vis X.env.scope x := by first | exact Or.inl rfl | exact Or.inr (Or.inl rfl) | exact Or.inr (Or.inr rfl)) (hd : (x == ("__debug__" : Str)) = false := by decide)
    (hcd : (x == ("__classdict__" : Str)) = false := by decide)
    (hbase : attributeBase (.Subscript (.Name x px) (.Constant (.int 0) j pk) p2) "pop" X.env (eval (.Subscript (.Name x px) (.Constant (.int 0) j pk) p2) X.env) = eval (.Subscript (.Name x px) (.Constant (.int 0) j pk) p2) X.env := by rfl)
    (hfew : ((backTo cpos (starEach [.Constant (.int 0) j2 p4] X.env)).all (fun x => !x.1) && (backToKw cpos (keywordEach [] X.env)).all (fun x => x.1.isSome)
      && decide (([.Constant (.int 0) j2 p4] : List Expr).length + ([] : List Keyword).length + (if ([] : List Keyword).isEmpty then 0 else 1) < 30)) = true := by rfl)
    (hline : (apos.endLine == cpos.line) = true := by rfl) (hs : starEach [.Constant (.int 0) j2 p4] X.env = (false, eval (.Constant (.int 0) j2 p4) X.env) :: starEach [] X.env := by rfl) (hplain : (backTo cpos (starEach [] X.env)).any (·.1) = false := by rfl) :
    PE X (.Call (.Attribute (.Subscript (.Name x px) (.Constant (.int 0) j pk) p2) "pop" apos) [.Constant (.int 0) j2 p4] [] cpos) (tE X.K B (ePop0 i)) :=
  (pe_bm PySem.F.plainAttrs_list PySem.F.slot_list_pop PySem.F.type_list_pop mt_popAt (pe_ix ix_list (pe_var hN hv hd hcd) pe_int (fun _ _ => rfl)) (pa_cons pe_int pa_nil hs) hbase hfew hline hs hplain).imp fun σ H Q ⟨ρ, s, Hs, d, s', ok, e, q⟩ => by
    unfold ePop0 at e
    split at e
    · rename_i a z hr
      split at e
      · rename_i ea
        subst ea
        split at e
        · rename_i c cs hc
          cases e
          obtain ⟨u, h1, h2⟩ := ok.sl i _ hr
          cases h2
          have st := ok.hk.st
          have hca := st.ca
          refine ⟨_, h1, z.sa, strmL z, 0, .ref z.ca, rfl, rfl, SqL.of st.sa, rfl, .inl ⟨rfl, _, SqL.of hca⟩, ?_⟩
          have hm : z.ca ∈ adrs B.s := by rw [← ok.hk.ad]; exact List.mem_cons_of_mem _ List.mem_cons_self
          rw [hc] at hca
          refine ⟨z.ca, _, 0, 0, .int c, rfl, rfl, hca, by decide, by decide, ?_, rfl, ?_⟩
          · unfold seqIndex?
            simp
          · have := ok.updA (q := z.ca) (o := .lst (cs.map V.int)) (s' := some { z with cells := cs }) hm rfl (by
              obtain ⟨g1, g2, g3, g4, g5⟩ := st
              exact ⟨g1, g2, g3, by rw [upd_ne g1]; exact g4, upd_same⟩)
            exact q _ _ _ this (.int c)
        · cases e
      · cases e
    · cases e
end
end DL

/-! DL13: the law's first statement, the law by its body -/
namespace DL
open PySem PySem.Spec PyProof.Rows L2 Evl
/-- [list(script), 0, 0, 17] -/
def spStream (K : PySem.W.Frag) : Sp := fun vs H Q _ => ∃ (a : Addr) (ns : List Int), vs = [.ref a] ∧ SqL K H a (ns.map V.int) ∧ ∀ (H' : Hp) (sa ca : Addr), sa ≠ ca → H' ca = some (.lst (ns.map V.int)) → H' sa = some (.lst [.ref ca, .int 0, .int 0, .int 17]) → Q (.ref sa) H'
section
variable {P : Program} {w : World} {K : PySem.W.Frag} {mg : Str → Option Value} {base : Heap}
theorem stream_ok {st : Stmt} {f : Addr} {fd : FuncData} {N : List Str} {p1 p2 p3 p4 p5 p6 p7 p8 : Pos} {k1 k2 k3 : Nat} (F : Fun K "_law_stream" "_law_stream" st f fd) (S : FnScope N ["script"] (defScope st)) (hN : N = (["script"] : List Str))
    (hb : defBody st = [.Return (some (.List [.Call (.Name "list" p1) [.Name "script" p2] [] p3, .Constant (.int 0) k1 p4, .Constant (.int 0) k2 p5, .Constant (.int 17) k3 p6] p7)) p8]) (hl : (defScope st).names.lookup ("list" : Str) = some .globalImplicit) (hm : mg "list" = none) (hv : (defScope st).names.lookup ("script" : Str) = some .local) :
    FnOk P w K mg base CX0 1 f fd ["script"] (spStream K) := by
  refine F.ok S (fun vs H Q E h => ?_) (fun cdv A outer s H vs Q E hr h => ?_)
  · obtain ⟨a, ns, rfl, _⟩ := h
    rfl
  · obtain ⟨a, ns, rfl, hS, q⟩ := h
    subst hN
    rw [hb]
    refine ⟨_, pss_one (ps_ret (pe_lst (pa_cons (pe_callTy call_list_of ?g hm PyProof.Rows.boot_list (pa_cons (pe_var (i := 0) rfl (Or.inl hv)) pa_nil)) (pa_cons pe_int (pa_cons pe_int (pa_cons pe_int pa_nil)))))), ?_⟩
    case g => exact hl
    refine ⟨_, rfl, a, _, rfl, .inl hS, fun l hl2 => ⟨Nat.le_trans (show 4 ≤ LIM by decide) lim_line, fun p hp => ?_⟩⟩
    have hne : p ≠ l := fun z => by rw [z, upd_same] at hp; cases hp
    exact q _ p l hne (by rw [upd_ne (Ne.symm hne), upd_same]) upd_same
abbrev FUEL : Nat := 1000000
theorem fnD_none {x nm : Str} {st : Stmt} {f : Addr} {fd : FuncData} {ps : List Str} {k : Nat} (Fu : Fun K nm nm st f fd) (hm : mg x = some (.ref f)) (hb : Binds K fd ps []) : FnD P w K mg base x st ps k (fun _ _ => none) := by
  refine ⟨f, fd, nm, hm, Fu, ⟨fun vs H Q E h => ?_, fun A outer s H args us vs Q E hr e0 hb r h => ?_⟩, hb⟩
  · obtain ⟨_, _, _, _, _, _, _, _, _, e, _⟩ := h
    cases e
  · obtain ⟨_, _, _, _, _, _, _, _, _, e, _⟩ := h
    cases e
/-- law's promise: a list of ints is handed in, True comes out -/
def spLaw (n : Nat) (K : PySem.W.Frag) : Sp := fun vs H Q _ => ∃ (a : Addr) (ns : List Int), vs = [.ref a] ∧ SqL K H a (ns.map V.int) ∧ ns.length ≤ n ∧ ∀ H', Q (.bl true) H'
def lawStart (m : Nat) (sa : Addr) : Rho := rset (List.replicate m none) 1 (some (.p sa))
theorem rget_rep : ∀ (m i : Nat), rget (List.replicate m none) i = none
  | 0, _ => rfl
  | m + 1, 0 => rfl
  | m + 1, i + 1 => rget_rep m i
theorem law_D {n : Nat} {st : Stmt} {rest : List Stmt} {f : Addr} {fd : FuncData} {N : List Str} {k : Nat} {F : DS} {p1 p2 p3 p4 p5 : Pos} (Fu : Fun K "law" "law" st f fd) (S : FnScope N ["script"] (defScope st)) (hN0 : N[0]? = some ("script" : Str)) (hN1 : N[1]? = some ("stream" : Str))
    (hb : defBody st = .Assign [.Name "stream" p1] (.Call (.Name "_law_stream" p2) [.Name "script" p3] [] p4) p5 :: rest) (hg : (defScope st).names.lookup ("_law_stream" : Str) = some .globalImplicit) (hv : (defScope st).names.lookup ("script" : Str) = some .local) (hs : (defScope st).names.lookup ("stream" : Str) = some .local)
    (hF1 : ∃ f1 fd1 st1, mg "_law_stream" = some (.ref f1) ∧ Fun K "_law_stream" "_law_stream" st1 f1 fd1 ∧ Binds K fd1 ["script"] [] ∧ FnOk P w K mg base CX0 1 f1 fd1 ["script"] (spStream K)) (hk : 1 ≤ k)
    (hbody : ∀ (cdv : Value) (A : Around) (outer : List PySem.Env) (s : Shared) (H : Hp) (E : XK) (B : Base), Room k (A.deeper (envOfC "law" (defScope st) s.heap.objs.size f cdv)) →
      PSs (cxOf CX0 P w K mg base N "law" (defScope st) f cdv A outer s H E).nox rest (tS K B F))
    (hF : ∀ (sa ca : Addr) (ns : List Int), ns.length ≤ n → ∃ s', F (lawStart N.length sa) (some ⟨sa, ca, ns, 0, 0, 17⟩) = some (.rt (.bool true), s')) : FnOk P w K mg base CX0 (k + 1) f fd ["script"] (spLaw n K) := by
  refine Fu.ok S (fun vs H Q E h => ?_) (fun cdv A outer s H vs Q E hr h => ?_)
  · obtain ⟨a, ns, rfl, _⟩ := h
    rfl
  · obtain ⟨a, ns, rfl, hS, hl, q⟩ := h
    obtain ⟨f1, fd1, st1, m1, Fu1, b1, G1⟩ := hF1
    rw [hb]
    have hrest := hbody cdv A outer s H E
    refine ⟨_, pss_cons (ps_set S.nd hN1 (Or.inl hs) (pe_call G1 (hr.mono hk) ?g m1 Fu1.kp b1 .nil pass0 (pa_cons (pe_var (i := 0) hN0 (Or.inl hv)) pa_nil)) rfl ?fn) (u := fun D σ H => ∃ B, tS K B F D σ H) ⟨fun pins s0 σ H D I h => ?h⟩, ?_⟩
    case g => exact hg
    case fn => exact .inr hs
    case h =>
      obtain ⟨B, h⟩ := h
      exact (hrest B hr).run pins s0 σ H D I h
    refine ⟨_, rfl, ?_⟩
    refine ⟨a, ns, rfl, hS, fun H' sa ca hne hca hsa => ?_⟩
    obtain ⟨s', e⟩ := hF sa ca ns hl
    have hlen : (L2.start N [V.ref a]).length = N.length := by
      have h0 : 0 < N.length := by
        cases N with
        | nil => cases hN0
        | cons _ _ => exact Nat.succ_pos _
      unfold L2.start
      simp
      omega
    have hlt : 1 < N.length := (List.getElem?_eq_some_iff.mp hN1).1
    refine ⟨⟨H', fun _ => none, some ⟨sa, ca, ns, 0, 0, 17⟩⟩, lawStart N.length sa, some ⟨sa, ca, ns, 0, 0, 17⟩, fun _ => none, _, s', ⟨⟨fun _ _ h => (by cases h), ⟨hne, rfl, rfl, hsa, hca⟩, rfl, Ex.refl _, fun _ _ h _ => h, fun _ _ h => (by cases h), fun _ h => h⟩, ?_, fun i z hz => ?_, fun i j xs ys v h1 => ?_⟩, e, fun v Hs' H2 _ r => ?_⟩
    · unfold lawStart
      rw [List.length_set, hlen, rset_length, List.length_replicate]
    · unfold lawStart at hz
      by_cases hi : i = 1
      · subst hi
        rw [rget_set_eq _ _ _ (by rw [List.length_replicate]; exact hlt)] at hz
        cases hz
        exact ⟨.ref sa, by rw [List.getElem?_set_self (by rw [hlen]; exact hlt)], rfl⟩
      · rw [rget_set_ne _ _ _ _ hi, rget_rep] at hz
        cases hz
    · unfold lawStart at h1
      by_cases hi : i = 1
      · subst hi
        rw [rget_set_eq _ _ _ (by rw [List.length_replicate]; exact hlt)] at h1
        cases h1
      · rw [rget_set_ne _ _ _ _ hi, rget_rep] at h1
        cases h1
    · cases r
      exact q H2
end
end DL

/-! DL14: the laws' own helpers: draws, picks, sameness -/
namespace DL
open PySem PySem.Spec PyProof.Rows L2
/-- a text by its code points -/
abbrev S (l : List Nat) : Str := ⟨⟨l⟩⟩
theorem d_strS {X : Cx} {B : Base} {i : Str} {l : List Nat} {j : Nat} {pos : Pos} (h : i = S l) : PE X (.Constant (.str i) j pos) (tE X.K B (eC (.str (S l)))) := by
  subst h
  exact d_str
def tDraw : DB := (bAnd (bOp eqD (eFld 0 1) (eC (.int 0))) (bOf (eMore 0)))
def fDraw : DS := (sSeq (sAsg 2 (eCallB absD (lCons (ePop0 0) lNil))) (sSeq (sFld 0 3 (eOp modD (eCallB intD (lCons (eOp addD (eOp addD (eOp mulD (eFld 0 3) (eC (.int 8191))) (eVar 2)) (eC (.int 3))) lNil)) (eC (.int 2147483647)))) (sFld 0 1 (eIf (bOp geD (eVar 2) (eOp powD (eC (.int 10)) (eC (.int 18)))) (eVar 2) (eC (.int 0))))))
def F_draw : DS := (sSeq (sFld 0 2 (eOp addD (eFld 0 2) (eC (.int 1)))) (sSeq (whileD tDraw fDraw FUEL) (sSeq (sIf (bOp gtD (eFld 0 1) (eC (.int 0))) (sSeq (sAsg 3 (eOp modD (eCallB intD (lCons (eFld 0 1) lNil)) (eVar 1))) (sSeq (sFld 0 1 (eOp fdivD (eFld 0 1) (eVar 1))) (sRet (eVar 3)))) sNil) (sSeq (sAsg 4 (eOp modD (eCallB intD (lCons (eOp powD (eOp addD (eOp addD (eFld 0 3) (eOp mulD (eC (.int 7919)) (eFld 0 2))) (eC (.int 104729))) (eC (.int 5))) lNil)) (eC (.int 2147483629)))) (sRet (eOp modD (eOp modD (eCallB intD (lCons (eOp powD (eOp addD (eOp addD (eOp mulD (eVar 4) (eC (.int 48271))) (eOp mulD (eC (.int 30011)) (eFld 0 2))) (eC (.int 29))) (eC (.int 3))) lNil)) (eC (.int 1000000007))) (eVar 1)))))))
def phi_draw : Fn := runD 5 F_draw
def F_pick : DS := (sRet (eOp itemD (eVar 1) (cF (phi_draw) 2 (aConsP 0 (aCons (eCallB lenD (lCons (eVar 1) lNil)) aNil)))))
def phi_pick : Fn := runD 2 F_pick
def F_same (φ : Fn) : DS := (sSeq (sIf (bTru (eIsiT ["list", "tuple"] (eVar 1))) (sSeq (sIf (bOr (bOp neD (eIsi "list" (eVar 0)) (eIsi "list" (eVar 1))) (bOp neD (eIsi "tuple" (eVar 0)) (eIsi "tuple" (eVar 1)))) (sRet (eC (.bool false))) sNil) (sRet (eAnd (eOp eqD (eCallB lenD (lCons (eVar 0) lNil)) (eCallB lenD (lCons (eVar 1) lNil))) (eCallB all1D (lCons (eFL (fComp [2, 3] (iZipD (eVar 0) (eVar 1)) (gTupD 2 (gConsD (gVar 2) (gConsD (gVar 3) gNilD))) bYes (cF φ 2 (aCons (eVar 2) (aCons (eVar 3) aNil))))) lNil))))) sNil) (sSeq (sIf (bTru (eIsi "dict" (eVar 1))) sFail sNil) (sSeq (sIf (bOr (bTru (eIsi "bool" (eVar 1))) (bTru (eIsi "bool" (eVar 0)))) (sRet (eAnd (eIsi "bool" (eVar 1)) (eAnd (eIsi "bool" (eVar 0)) (eOp eqD (eVar 0) (eVar 1))))) sNil) (sSeq (sIf (bOr (bOf (isNonD (eVar 1))) (bOf (isNonD (eVar 0)))) (sRet (eAnd (isNonD (eVar 1)) (isNonD (eVar 0)))) sNil) (sSeq (sIf (bOr (bOp neD (eIsi "int" (eVar 1)) (eIsi "int" (eVar 0))) (bOp neD (eIsi "str" (eVar 1)) (eIsi "str" (eVar 0)))) (sRet (eC (.bool false))) sNil) (sRet (eAnd (eNot (eIsiT ["list", "tuple", "dict"] (eVar 0))) (eOp eqD (eVar 0) (eVar 1)))))))))
def phi_same : Nat → Fn
  | 0 => fun _ _ => none
  | n + 1 => runD 4 (F_same (phi_same n))

/-! ### evaluation -/
theorem bnd_ret {α β : Type} (a : α) (f : α → M β) : M.bnd (M.ret a) f = f a := rfl
theorem b64_eq : B64 = 18446744073709551616 := by decide
theorem addD_int (i j : Int) : addD (.int i) (.int j) = some (.int (i + j)) := rfl
theorem subI_int (i j : Int) : subI (.int i) (.int j) = some (.int (i - j)) := rfl
theorem mulD_int {i j : Int} (h : i.natAbs < 18446744073709551616 ∨ j.natAbs < 18446744073709551616) : mulD (.int i) (.int j) = some (.int (i * j)) := if_pos (by rw [b64_eq]; exact h)
theorem modD_int {i j : Int} (h : 0 < j) : modD (.int i) (.int j) = some (.int (i % j)) := if_pos h
theorem fdivD_int {i j : Int} (h : 0 < j) (h' : j < 1073741824) : fdivD (.int i) (.int j) = some (.int (i / j)) := if_pos ⟨h, h'⟩
theorem powD_int {i j : Int} (h : 0 ≤ j) (h' : j ≤ 1000000) (hi : i.natAbs < 18446744073709551616) : powD (.int i) (.int j) = some (.int (i ^ j.toNat)) := if_pos ⟨h, h', by rw [b64_eq]; exact hi⟩
theorem ltD_int (i j : Int) : ltD (.int i) (.int j) = some (.bool (decide (i < j))) := rfl
theorem leD_int (i j : Int) : leD (.int i) (.int j) = some (.bool (decide (i ≤ j))) := rfl
theorem gtD_int (i j : Int) : gtD (.int i) (.int j) = some (.bool (decide (j < i))) := rfl
theorem geD_int (i j : Int) : geD (.int i) (.int j) = some (.bool (decide (j ≤ i))) := rfl
theorem flat_int (i : Int) : flatP (.int i) = true := by unfold flatP; simp [PyData.plain, PyData.depth]
theorem flat_bool (i : Bool) : flatP (.bool i) = true := by unfold flatP; simp [PyData.plain, PyData.depth]
theorem flat_str (i : Str) : flatP (.str i) = true := by unfold flatP; simp [PyData.plain, PyData.depth]
theorem beq_dec {α : Type} [BEq α] [LawfulBEq α] [DecidableEq α] (a b : α) : (a == b) = decide (a = b) := by
  by_cases h : a = b
  · subst h; simp
  · simp [h]
theorem eqD_int (i j : Int) : eqD (.int i) (.int j) = some (.bool (decide (i = j))) := by
  unfold eqD
  rw [flat_int, flat_int]
  simp [PyData.eqv, beq_dec]
theorem neD_int (i j : Int) : neD (.int i) (.int j) = some (.bool (!decide (i = j))) := by
  unfold neD
  rw [flat_int, flat_int]
  simp [PyData.eqv, beq_dec]
theorem eqD_bool (i j : Bool) : eqD (.bool i) (.bool j) = some (.bool (i == j)) := by
  unfold eqD
  rw [flat_bool, flat_bool]
  cases i <;> cases j <;> rfl
theorem neD_bool (i j : Bool) : neD (.bool i) (.bool j) = some (.bool (!(i == j))) := by
  unfold neD
  rw [flat_bool, flat_bool]
  cases i <;> cases j <;> rfl
theorem eqD_str (i j : Str) : eqD (.str i) (.str j) = some (.bool (decide (i = j))) := by
  unfold eqD
  rw [flat_str, flat_str]
  simp [PyData.eqv, beq_dec]
theorem neD_str (i j : Str) : neD (.str i) (.str j) = some (.bool (!decide (i = j))) := by
  unfold neD
  rw [flat_str, flat_str]
  simp [PyData.eqv, beq_dec]
theorem truD_bool (b : Bool) : truD (.bool b) = some b := rfl
theorem truD_int (i : Int) : truD (.int i) = some (i != 0) := rfl
theorem intD_int (i : Int) : intD [.int i] = some (.int i) := rfl
theorem absD_int (i : Int) : absD [.int i] = some (.int (if i < 0 then -i else i)) := rfl
/-- the draws' state is good: n bounds the count -/
structure Gz (n : Int) (z : Strm) : Prop where
  m0 : 0 ≤ z.mix
  m1 : z.mix < 2147483647
  c0 : 0 ≤ z.cur
  k0 : 0 ≤ z.cnt
  k1 : z.cnt ≤ n
  ln : z.cells.length ≤ 63
theorem tDraw_ev {a : Addr} {x1 x2 x3 x4 : Option Sl} {z : Strm} (h : a = z.sa) : tDraw [some (.p a), x1, x2, x3, x4] (some z) = some (decide (z.cur = 0) && !z.cells.isEmpty, some z) := by
  subst h
  by_cases hc : z.cur = 0
  · simp only [tDraw, eFld, fldS, eMore, hc, sSeq, sNil, sFail, sAsg, sRet, sIf, sDrop, sPar, sPar3, sAsgG, sFld, sBrk, sCnt, gTupD, gConsD, gNilD, gVar, eCallB, lCons, lNil, aCons, aConsP, aNil, pVar, cF, cK, eVar, eC, eOp, bOp, eIf, eTup, eLst, eSlice, oSome, oNone, eRev, eNeg, qOf, seqOf, eUn, eAnd, eOr, eNot, bAnd, bOr, bNot, bOf, bTru, bTruQ, qVar, eItemQ, eIsi, eIsiT, isiB, anyIsi, tyName, isNonD, notNonD, isNonB, eJoin, eGet2, eFL, iOf, strOf, lstOf, tupOf, bYes, sOwn, fLst, sFrz, frz, sApp, sPop, M.bnd, M.ret, M.lift, M.fail, rget, rset, wipeR, addD_int, subI_int, modD_int, ltD_int, leD_int, gtD_int, geD_int, eqD_int, neD_int, eqD_bool, neD_bool, truD_bool, truD_int, intD_int, lenQ, eCallB, List.map, List.length_cons, List.length_nil, List.cons_append, List.nil_append, List.replicate, Nat.reduceAdd, Nat.reduceSub, if_true, if_false, Bool.false_eq_true, reduceIte, Bool.not_true, Bool.not_false, Option.map_some, Option.map_none, reduceCtorEq, decide_true, decide_false, Bool.true_and]
  · simp only [tDraw, eFld, fldS, eMore, hc, sSeq, sNil, sFail, sAsg, sRet, sIf, sDrop, sPar, sPar3, sAsgG, sFld, sBrk, sCnt, gTupD, gConsD, gNilD, gVar, eCallB, lCons, lNil, aCons, aConsP, aNil, pVar, cF, cK, eVar, eC, eOp, bOp, eIf, eTup, eLst, eSlice, oSome, oNone, eRev, eNeg, qOf, seqOf, eUn, eAnd, eOr, eNot, bAnd, bOr, bNot, bOf, bTru, bTruQ, qVar, eItemQ, eIsi, eIsiT, isiB, anyIsi, tyName, isNonD, notNonD, isNonB, eJoin, eGet2, eFL, iOf, strOf, lstOf, tupOf, bYes, sOwn, fLst, sFrz, frz, sApp, sPop, M.bnd, M.ret, M.lift, M.fail, rget, rset, wipeR, addD_int, subI_int, modD_int, ltD_int, leD_int, gtD_int, geD_int, eqD_int, neD_int, eqD_bool, neD_bool, truD_bool, truD_int, intD_int, lenQ, eCallB, List.map, List.length_cons, List.length_nil, List.cons_append, List.nil_append, List.replicate, Nat.reduceAdd, Nat.reduceSub, if_true, if_false, Bool.false_eq_true, reduceIte, Bool.not_true, Bool.not_false, Option.map_some, Option.map_none, reduceCtorEq, decide_true, decide_false, Bool.false_and]
theorem fDraw_ev {a : Addr} {m : Int} {x2 x3 x4 : Option Sl} {z : Strm} {c d : Int} {cs : List Int} (h : a = z.sa) (hc : z.cells = c :: cs) (hd : d = if c < 0 then -c else c) :
    ∃ cur, (cur = d ∨ cur = 0) ∧ fDraw [some (.p a), some (.d (.int m)), x2, x3, x4] (some z) = some (.nx [some (.p a), some (.d (.int m)), some (.d (.int d)), x3, x4],
      some { z with cells := cs, mix := (z.mix * 8191 + d + 3) % 2147483647, cur := cur }) := by
  subst h
  obtain ⟨sa, ca, cells, cur, cnt, mix⟩ := z
  dsimp only at hc
  subst hc
  have h8 : mulD (.int mix) (.int 8191) = some (.int (mix * 8191)) := mulD_int (.inr (by decide))
  have h10 : powD (.int 10) (.int 18) = some (.int (10 ^ 18)) := powD_int (by decide) (by decide) (by decide)
  have hab : absD [.int c] = some (.int d) := by rw [absD_int, hd]
  have hm : modD (.int (mix * 8191 + d + 3)) (.int 2147483647) = some (.int ((mix * 8191 + d + 3) % 2147483647)) := modD_int (by decide)
  by_cases hge : (10 ^ 18 : Int) ≤ d
  · refine ⟨d, .inl rfl, ?_⟩
    have hge' := decide_eq_true hge
    simp only [fDraw, ePop0, eFld, fldS, putS, h8, h10, hab, hm, hge', sSeq, sNil, sFail, sAsg, sRet, sIf, sDrop, sPar, sPar3, sAsgG, sFld, sBrk, sCnt, gTupD, gConsD, gNilD, gVar, eCallB, lCons, lNil, aCons, aConsP, aNil, pVar, cF, cK, eVar, eC, eOp, bOp, eIf, eTup, eLst, eSlice, oSome, oNone, eRev, eNeg, qOf, seqOf, eUn, eAnd, eOr, eNot, bAnd, bOr, bNot, bOf, bTru, bTruQ, qVar, eItemQ, eIsi, eIsiT, isiB, anyIsi, tyName, isNonD, notNonD, isNonB, eJoin, eGet2, eFL, iOf, strOf, lstOf, tupOf, bYes, sOwn, fLst, sFrz, frz, sApp, sPop, M.bnd, M.ret, M.lift, M.fail, rget, rset, wipeR, addD_int, subI_int, modD_int, ltD_int, leD_int, gtD_int, geD_int, eqD_int, neD_int, eqD_bool, neD_bool, truD_bool, truD_int, intD_int, lenQ, eCallB, List.map, List.length_cons, List.length_nil, List.cons_append, List.nil_append, List.replicate, Nat.reduceAdd, Nat.reduceSub, if_true, if_false, Bool.false_eq_true, reduceIte, Bool.not_true, Bool.not_false, Option.map_some, Option.map_none, reduceCtorEq, decide_true, decide_false]
  · refine ⟨0, .inr rfl, ?_⟩
    have hge' := decide_eq_false hge
    simp only [fDraw, ePop0, eFld, fldS, putS, h8, h10, hab, hm, hge', sSeq, sNil, sFail, sAsg, sRet, sIf, sDrop, sPar, sPar3, sAsgG, sFld, sBrk, sCnt, gTupD, gConsD, gNilD, gVar, eCallB, lCons, lNil, aCons, aConsP, aNil, pVar, cF, cK, eVar, eC, eOp, bOp, eIf, eTup, eLst, eSlice, oSome, oNone, eRev, eNeg, qOf, seqOf, eUn, eAnd, eOr, eNot, bAnd, bOr, bNot, bOf, bTru, bTruQ, qVar, eItemQ, eIsi, eIsiT, isiB, anyIsi, tyName, isNonD, notNonD, isNonB, eJoin, eGet2, eFL, iOf, strOf, lstOf, tupOf, bYes, sOwn, fLst, sFrz, frz, sApp, sPop, M.bnd, M.ret, M.lift, M.fail, rget, rset, wipeR, addD_int, subI_int, modD_int, ltD_int, leD_int, gtD_int, geD_int, eqD_int, neD_int, eqD_bool, neD_bool, truD_bool, truD_int, intD_int, lenQ, eCallB, List.map, List.length_cons, List.length_nil, List.cons_append, List.nil_append, List.replicate, Nat.reduceAdd, Nat.reduceSub, if_true, if_false, Bool.false_eq_true, reduceIte, Bool.not_true, Bool.not_false, Option.map_some, Option.map_none, reduceCtorEq, decide_true, decide_false]

theorem refill_ok (n : Int) (m : Int) (x3 x4 : Option Sl) (a : Addr) : ∀ (k : Nat) (z : Strm) (x2 : Option Sl), a = z.sa → z.cells.length < k → Gz n z →
    ∃ z' x2', whileD tDraw fDraw k [some (.p a), some (.d (.int m)), x2, x3, x4] (some z) = some (.nx [some (.p a), some (.d (.int m)), x2', x3, x4], some z') ∧ Gz n z' ∧ z'.sa = z.sa ∧ z'.ca = z.ca ∧ z'.cnt = z.cnt
  | 0, z, x2, ha, hk, hz => absurd hk (Nat.not_lt_zero _)
  | k + 1, z, x2, ha, hk, hz => by
    unfold whileD
    rw [tDraw_ev ha]
    by_cases h0 : z.cur = 0
    · cases hc : z.cells with
      | nil =>
        simp only [h0, List.isEmpty_nil, Bool.not_true, Bool.and_false]
        exact ⟨z, x2, rfl, hz, rfl, rfl, rfl⟩
      | cons c cs =>
        simp only [h0, List.isEmpty_cons, Bool.not_false, Bool.and_true, decide_true]
        obtain ⟨cur, hcur, e⟩ := fDraw_ev (m := m) (x2 := x2) (x3 := x3) (x4 := x4) ha hc rfl
        rw [e]
        dsimp only
        have hd : (0 : Int) ≤ (if c < 0 then -c else c) := by split <;> omega
        have hl : cs.length < k := by rw [hc] at hk; simp at hk; omega
        have hg : Gz n { z with cells := cs, mix := (z.mix * 8191 + (if c < 0 then -c else c) + 3) % 2147483647, cur := cur } :=
          ⟨Int.emod_nonneg _ (by decide), Int.emod_lt_of_pos _ (by decide), (by dsimp only; omega), hz.k0, hz.k1, (by have := hz.ln; rw [hc] at this; simp at this; dsimp only; omega)⟩
        obtain ⟨z', x2', e', g', h1, h2, h3⟩ := refill_ok n m x3 x4 a k { z with cells := cs, mix := (z.mix * 8191 + (if c < 0 then -c else c) + 3) % 2147483647, cur := cur } _ ha hl hg
        exact ⟨z', x2', e', g', h1, h2, h3⟩
    · simp only [h0, decide_false, Bool.false_and]
      exact ⟨z, x2, rfl, hz, rfl, rfl, rfl⟩
/-- a draw below many -/
theorem draw_ok {n m : Int} {z : Strm} (hz : Gz n z) (hn : n ≤ 1000000000) (h0 : 0 < m) (h1 : m < 1073741824) :
    ∃ d z', phi_draw [.p z.sa, .d (.int m)] (some z) = some (.int d, some z') ∧ 0 ≤ d ∧ d < m ∧ Gz (n + 1) z' ∧ z'.sa = z.sa ∧ z'.ca = z.ca := by
  obtain ⟨z1, x2, e, g, s1, s2, s3⟩ := refill_ok (n + 1) m none none z.sa FUEL { z with cnt := z.cnt + 1 } none rfl (by have := hz.ln; show z.cells.length < 1000000; omega)
    ⟨hz.m0, hz.m1, hz.c0, (by have := hz.k0; dsimp only; omega), (by have := hz.k1; dsimp only; omega), hz.ln⟩
  have hmm := modD_int (i := z1.cur) h0
  have g1 := g.m0
  have g2 := g.m1
  have g3 := g.c0
  have g4 := g.k0
  have g5 := g.k1
  have s1' : z.sa = z1.sa := s1.symm
  unfold phi_draw runD startD F_draw
  simp only [slOf, eFld, fldS, putS, e, sSeq, sNil, sFail, sAsg, sRet, sIf, sDrop, sPar, sPar3, sAsgG, sFld, sBrk, sCnt, gTupD, gConsD, gNilD, gVar, eCallB, lCons, lNil, aCons, aConsP, aNil, pVar, cF, cK, eVar, eC, eOp, bOp, eIf, eTup, eLst, eSlice, oSome, oNone, eRev, eNeg, qOf, seqOf, eUn, eAnd, eOr, eNot, bAnd, bOr, bNot, bOf, bTru, bTruQ, qVar, eItemQ, eIsi, eIsiT, isiB, anyIsi, tyName, isNonD, notNonD, isNonB, eJoin, eGet2, eFL, iOf, strOf, lstOf, tupOf, bYes, sOwn, fLst, sFrz, frz, sApp, sPop, M.bnd, M.ret, M.lift, M.fail, rget, rset, wipeR, addD_int, subI_int, modD_int, ltD_int, leD_int, gtD_int, geD_int, eqD_int, neD_int, eqD_bool, neD_bool, truD_bool, truD_int, intD_int, lenQ, eCallB, List.map, List.length_cons, List.length_nil, List.cons_append, List.nil_append, List.replicate, Nat.reduceAdd, Nat.reduceSub, if_true, if_false, Bool.false_eq_true, reduceIte, Bool.not_true, Bool.not_false, Option.map_some, Option.map_none, reduceCtorEq, decide_true, decide_false]
  by_cases hc : 0 < z1.cur
  · have hc' := decide_eq_true hc
    have hf := fdivD_int (i := z1.cur) h0 h1
    simp only [s1', eFld, fldS, putS, hc', hmm, hf, sSeq, sNil, sFail, sAsg, sRet, sIf, sDrop, sPar, sPar3, sAsgG, sFld, sBrk, sCnt, gTupD, gConsD, gNilD, gVar, eCallB, lCons, lNil, aCons, aConsP, aNil, pVar, cF, cK, eVar, eC, eOp, bOp, eIf, eTup, eLst, eSlice, oSome, oNone, eRev, eNeg, qOf, seqOf, eUn, eAnd, eOr, eNot, bAnd, bOr, bNot, bOf, bTru, bTruQ, qVar, eItemQ, eIsi, eIsiT, isiB, anyIsi, tyName, isNonD, notNonD, isNonB, eJoin, eGet2, eFL, iOf, strOf, lstOf, tupOf, bYes, sOwn, fLst, sFrz, frz, sApp, sPop, M.bnd, M.ret, M.lift, M.fail, rget, rset, wipeR, addD_int, subI_int, modD_int, ltD_int, leD_int, gtD_int, geD_int, eqD_int, neD_int, eqD_bool, neD_bool, truD_bool, truD_int, intD_int, lenQ, eCallB, List.map, List.length_cons, List.length_nil, List.cons_append, List.nil_append, List.replicate, Nat.reduceAdd, Nat.reduceSub, if_true, if_false, Bool.false_eq_true, reduceIte, Bool.not_true, Bool.not_false, Option.map_some, Option.map_none, reduceCtorEq, decide_true, decide_false]
    refine ⟨_, _, rfl, Int.emod_nonneg _ (by omega), Int.emod_lt_of_pos _ h0, ⟨g1, g2, ?_, g4, g5, g.ln⟩, rfl, s2⟩
    exact Int.ediv_nonneg g3 (by omega)
  · have hc' := decide_eq_false hc
    have e1 : mulD (.int 7919) (.int z1.cnt) = some (.int (7919 * z1.cnt)) := mulD_int (.inl (by decide))
    have e2 : mulD (.int 30011) (.int z1.cnt) = some (.int (30011 * z1.cnt)) := mulD_int (.inl (by decide))
    have e3 : powD (.int (z1.mix + 7919 * z1.cnt + 104729)) (.int 5) = some (.int ((z1.mix + 7919 * z1.cnt + 104729) ^ 5)) := powD_int (by decide) (by decide) (by omega)
    generalize hq : (z1.mix + 7919 * z1.cnt + 104729) ^ 5 = q at e3
    have e4 : modD (.int q) (.int 2147483629) = some (.int (q % 2147483629)) := modD_int (by decide)
    have b1 := Int.emod_nonneg q (show (2147483629 : Int) ≠ 0 by decide)
    have b2 := Int.emod_lt_of_pos q (show (0 : Int) < 2147483629 by decide)
    generalize hr : q % 2147483629 = r at *
    have e5 : mulD (.int r) (.int 48271) = some (.int (r * 48271)) := mulD_int (.inr (by decide))
    have e6 : powD (.int (r * 48271 + 30011 * z1.cnt + 29)) (.int 3) = some (.int ((r * 48271 + 30011 * z1.cnt + 29) ^ 3)) := powD_int (by decide) (by decide) (by omega)
    generalize hp : (r * 48271 + 30011 * z1.cnt + 29) ^ 3 = p at e6
    have e7 : modD (.int p) (.int 1000000007) = some (.int (p % 1000000007)) := modD_int (by decide)
    have e8 : modD (.int (p % 1000000007)) (.int m) = some (.int (p % 1000000007 % m)) := modD_int h0
    simp only [s1', eFld, fldS, putS, hc', e1, e2, e3, e4, e5, e6, e7, e8, sSeq, sNil, sFail, sAsg, sRet, sIf, sDrop, sPar, sPar3, sAsgG, sFld, sBrk, sCnt, gTupD, gConsD, gNilD, gVar, eCallB, lCons, lNil, aCons, aConsP, aNil, pVar, cF, cK, eVar, eC, eOp, bOp, eIf, eTup, eLst, eSlice, oSome, oNone, eRev, eNeg, qOf, seqOf, eUn, eAnd, eOr, eNot, bAnd, bOr, bNot, bOf, bTru, bTruQ, qVar, eItemQ, eIsi, eIsiT, isiB, anyIsi, tyName, isNonD, notNonD, isNonB, eJoin, eGet2, eFL, iOf, strOf, lstOf, tupOf, bYes, sOwn, fLst, sFrz, frz, sApp, sPop, M.bnd, M.ret, M.lift, M.fail, rget, rset, wipeR, addD_int, subI_int, modD_int, ltD_int, leD_int, gtD_int, geD_int, eqD_int, neD_int, eqD_bool, neD_bool, truD_bool, truD_int, intD_int, lenQ, eCallB, List.map, List.length_cons, List.length_nil, List.cons_append, List.nil_append, List.replicate, Nat.reduceAdd, Nat.reduceSub, if_true, if_false, Bool.false_eq_true, reduceIte, Bool.not_true, Bool.not_false, Option.map_some, Option.map_none, reduceCtorEq, decide_true, decide_false]
    exact ⟨_, _, rfl, Int.emod_nonneg _ (by omega), Int.emod_lt_of_pos _ h0, ⟨g1, g2, g3, g4, g5, g.ln⟩, rfl, s2⟩
theorem atI_nat {α : Type} {xs : List α} {i : Nat} (h : i < xs.length) : atI xs (i : Int) = some xs[i] := by
  unfold atI ixN
  rw [if_pos (by omega), if_pos (by omega)]
  simp [h]
/-- one of several things -/
theorem pick_ok {n : Int} {xs : List PD} {z : Strm} (hz : Gz n z) (hn : n ≤ 1000000000) (h0 : xs ≠ []) (h1 : xs.length < 1073741824) :
    ∃ d z', phi_pick [.p z.sa, .d (.list xs)] (some z) = some (d, some z') ∧ d ∈ xs ∧ Gz (n + 1) z' ∧ z'.sa = z.sa ∧ z'.ca = z.ca := by
  have hl := List.length_pos_iff.mpr h0
  obtain ⟨d, z', e, d0, d1, g, s1, s2⟩ := draw_ok (m := (xs.length : Int)) hz hn (by omega) (by omega)
  have hd : (d.toNat : Int) = d := by omega
  have hlt : d.toNat < xs.length := by omega
  have ei : itemD (.list xs) (.int d) = some xs[d.toNat] := by
    have h := atI_nat (xs := xs) hlt
    rw [hd] at h
    exact h
  have el : lenD [.list xs] = some (.int xs.length) := rfl
  unfold phi_pick runD startD F_pick
  simp only [slOf, el, e, ei, sSeq, sNil, sFail, sAsg, sRet, sIf, sDrop, sPar, sPar3, sAsgG, sFld, sBrk, sCnt, gTupD, gConsD, gNilD, gVar, eCallB, lCons, lNil, aCons, aConsP, aNil, pVar, cF, cK, eVar, eC, eOp, bOp, eIf, eTup, eLst, eSlice, oSome, oNone, eRev, eNeg, qOf, seqOf, eUn, eAnd, eOr, eNot, bAnd, bOr, bNot, bOf, bTru, bTruQ, qVar, eItemQ, eIsi, eIsiT, isiB, anyIsi, tyName, isNonD, notNonD, isNonB, eJoin, eGet2, eFL, iOf, strOf, lstOf, tupOf, bYes, sOwn, fLst, sFrz, frz, sApp, sPop, M.bnd, M.ret, M.lift, M.fail, rget, rset, wipeR, addD_int, subI_int, modD_int, ltD_int, leD_int, gtD_int, geD_int, eqD_int, neD_int, eqD_bool, neD_bool, truD_bool, truD_int, intD_int, lenQ, eCallB, List.map, List.length_cons, List.length_nil, List.cons_append, List.nil_append, List.replicate, Nat.reduceAdd, Nat.reduceSub, if_true, if_false, Bool.false_eq_true, reduceIte, Bool.not_true, Bool.not_false, Option.map_some, Option.map_none, reduceCtorEq, decide_true, decide_false]
  exact ⟨_, _, rfl, List.getElem_mem _, g, s1, s2⟩

/-! ### comprehensions and loops by what they give -/
theorem compL_map {g : DG} {t : DB} {f : DE} {ρ : Rho} {s : SS} (h : PD → PD) : ∀ (xs : List PD), (∀ x ∈ xs, ∃ ρ1, g x ρ = some ρ1 ∧ t ρ1 s = some (true, s) ∧ f ρ1 s = some (h x, s)) → compL g t f ρ xs s = some (xs.map h, s)
  | [], _ => rfl
  | x :: xs, hx => by
    obtain ⟨ρ1, h1, h2, h3⟩ := hx x List.mem_cons_self
    have ih := compL_map h xs fun y hy => hx y (List.mem_cons_of_mem _ hy)
    unfold compL
    rw [h1]
    simp only [h2, h3, ih, sSeq, sNil, sFail, sAsg, sRet, sIf, sDrop, sPar, sPar3, sAsgG, sFld, sBrk, sCnt, gTupD, gConsD, gNilD, gVar, eCallB, lCons, lNil, aCons, aConsP, aNil, pVar, cF, cK, eVar, eC, eOp, bOp, eIf, eTup, eLst, eSlice, oSome, oNone, eRev, eNeg, qOf, seqOf, eUn, eAnd, eOr, eNot, bAnd, bOr, bNot, bOf, bTru, bTruQ, qVar, eItemQ, eIsi, eIsiT, isiB, anyIsi, tyName, isNonD, notNonD, isNonB, eJoin, eGet2, eFL, iOf, strOf, lstOf, tupOf, bYes, sOwn, fLst, sFrz, frz, sApp, sPop, M.bnd, M.ret, M.lift, M.fail, rget, rset, wipeR, addD_int, subI_int, modD_int, ltD_int, leD_int, gtD_int, geD_int, eqD_int, neD_int, eqD_bool, neD_bool, truD_bool, truD_int, intD_int, lenQ, eCallB, List.map, List.length_cons, List.length_nil, List.cons_append, List.nil_append, List.replicate, Nat.reduceAdd, Nat.reduceSub, if_true, if_false, Bool.false_eq_true, reduceIte, Bool.not_true, Bool.not_false, Option.map_some, Option.map_none, reduceCtorEq, decide_true, decide_false]
theorem fComp_map {vs : List Nat} {m : DT} {g : DG} {t : DB} {f : DE} {ρ : Rho} {s s1 : SS} {xs : List PD} (h : PD → PD) (hm : m ρ s = some (xs, s1)) (hl : xs.length ≤ LIM) (hx : ∀ x ∈ xs, ∃ ρ1, g x (wipeR ρ vs) = some ρ1 ∧ t ρ1 s1 = some (true, s1) ∧ f ρ1 s1 = some (h x, s1)) :
    fComp vs m g t f ρ s = some (xs.map h, s1) := by
  have := compL_map h xs hx
  simp only [fComp, hm, hl, this, sSeq, sNil, sFail, sAsg, sRet, sIf, sDrop, sPar, sPar3, sAsgG, sFld, sBrk, sCnt, gTupD, gConsD, gNilD, gVar, eCallB, lCons, lNil, aCons, aConsP, aNil, pVar, cF, cK, eVar, eC, eOp, bOp, eIf, eTup, eLst, eSlice, oSome, oNone, eRev, eNeg, qOf, seqOf, eUn, eAnd, eOr, eNot, bAnd, bOr, bNot, bOf, bTru, bTruQ, qVar, eItemQ, eIsi, eIsiT, isiB, anyIsi, tyName, isNonD, notNonD, isNonB, eJoin, eGet2, eFL, iOf, strOf, lstOf, tupOf, bYes, sOwn, fLst, sFrz, frz, sApp, sPop, M.bnd, M.ret, M.lift, M.fail, rget, rset, wipeR, addD_int, subI_int, modD_int, ltD_int, leD_int, gtD_int, geD_int, eqD_int, neD_int, eqD_bool, neD_bool, truD_bool, truD_int, intD_int, lenQ, eCallB, List.map, List.length_cons, List.length_nil, List.cons_append, List.nil_append, List.replicate, Nat.reduceAdd, Nat.reduceSub, if_true, if_false, Bool.false_eq_true, reduceIte, Bool.not_true, Bool.not_false, Option.map_some, Option.map_none, reduceCtorEq, decide_true, decide_false]
theorem boolsOf_true : ∀ (xs : List PD), boolsOf (xs.map fun _ => PyData.bool true) = some (xs.map fun _ => true)
  | [] => rfl
  | x :: xs => by
    rw [List.map_cons, List.map_cons]
    unfold boolsOf
    rw [boolsOf_true xs]
    rfl
theorem plain_mem : ∀ {xs : List PD} {x : PD}, PyData.plainAll xs = true → x ∈ xs → x.plain = true
  | y :: ys, x, h, m => by
    have h' : y.plain = true ∧ PyData.plainAll ys = true := by simpa [PyData.plainAll] using h
    rcases List.mem_cons.mp m with e | m
    · rw [e]; exact h'.1
    · exact plain_mem h'.2 m
theorem depth_mem : ∀ {xs : List PD} {x : PD}, x ∈ xs → x.depth ≤ PyData.depthAll xs
  | y :: ys, x, m => by
    rw [PyData.depthAll]
    rcases List.mem_cons.mp m with e | m
    · rw [e]; exact Nat.le_max_left _ _
    · exact Nat.le_trans (depth_mem m) (Nat.le_max_right _ _)
theorem zip_mem {d : PD} : ∀ {xs : List PD}, d ∈ zipL xs xs → ∃ x ∈ xs, d = .tuple [x, x]
  | x :: xs, h => by
    have h' : d ∈ PyData.tuple [x, x] :: zipL xs xs := h
    rcases List.mem_cons.mp h' with e | m
    · exact ⟨x, List.mem_cons_self, e⟩
    · obtain ⟨y, hy, e⟩ := zip_mem m
      exact ⟨y, List.mem_cons_of_mem _ hy, e⟩
theorem same_seq (n : Nat) (xs : List PD) (x : PD) (hx : x = .list xs ∨ x = .tuple xs) (s : SS) (hl : xs.length ≤ LIM) (ih : ∀ y ∈ xs, phi_same n [.d y, .d y] s = some (.bool true, s)) : phi_same (n + 1) [.d x, .d x] s = some (.bool true, s) := by
  have key : fComp [2, 3] (iZipD (eVar 0) (eVar 1)) (gTupD 2 (gConsD (gVar 2) (gConsD (gVar 3) gNilD))) bYes (cF (phi_same n) 2 (aCons (eVar 2) (aCons (eVar 3) aNil))) [some (.d x), some (.d x), none, none] s = some ((zipL xs xs).map (fun _ => PyData.bool true), s) := by
    refine fComp_map _ ?_ ?_ ?_
    · rcases hx with e | e
      · subst e; simp only [iZipD, zipD, sSeq, sNil, sFail, sAsg, sRet, sIf, sDrop, sPar, sPar3, sAsgG, sFld, sBrk, sCnt, gTupD, gConsD, gNilD, gVar, eCallB, lCons, lNil, aCons, aConsP, aNil, pVar, cF, cK, eVar, eC, eOp, bOp, eIf, eTup, eLst, eSlice, oSome, oNone, eRev, eNeg, qOf, seqOf, eUn, eAnd, eOr, eNot, bAnd, bOr, bNot, bOf, bTru, bTruQ, qVar, eItemQ, eIsi, eIsiT, isiB, anyIsi, tyName, isNonD, notNonD, isNonB, eJoin, eGet2, eFL, iOf, strOf, lstOf, tupOf, bYes, sOwn, fLst, sFrz, frz, sApp, sPop, M.bnd, M.ret, M.lift, M.fail, rget, rset, wipeR, addD_int, subI_int, modD_int, ltD_int, leD_int, gtD_int, geD_int, eqD_int, neD_int, eqD_bool, neD_bool, truD_bool, truD_int, intD_int, lenQ, eCallB, List.map, List.length_cons, List.length_nil, List.cons_append, List.nil_append, List.replicate, Nat.reduceAdd, Nat.reduceSub, if_true, if_false, Bool.false_eq_true, reduceIte, Bool.not_true, Bool.not_false, Option.map_some, Option.map_none, reduceCtorEq, decide_true, decide_false]
      · subst e; simp only [iZipD, zipD, sSeq, sNil, sFail, sAsg, sRet, sIf, sDrop, sPar, sPar3, sAsgG, sFld, sBrk, sCnt, gTupD, gConsD, gNilD, gVar, eCallB, lCons, lNil, aCons, aConsP, aNil, pVar, cF, cK, eVar, eC, eOp, bOp, eIf, eTup, eLst, eSlice, oSome, oNone, eRev, eNeg, qOf, seqOf, eUn, eAnd, eOr, eNot, bAnd, bOr, bNot, bOf, bTru, bTruQ, qVar, eItemQ, eIsi, eIsiT, isiB, anyIsi, tyName, isNonD, notNonD, isNonB, eJoin, eGet2, eFL, iOf, strOf, lstOf, tupOf, bYes, sOwn, fLst, sFrz, frz, sApp, sPop, M.bnd, M.ret, M.lift, M.fail, rget, rset, wipeR, addD_int, subI_int, modD_int, ltD_int, leD_int, gtD_int, geD_int, eqD_int, neD_int, eqD_bool, neD_bool, truD_bool, truD_int, intD_int, lenQ, eCallB, List.map, List.length_cons, List.length_nil, List.cons_append, List.nil_append, List.replicate, Nat.reduceAdd, Nat.reduceSub, if_true, if_false, Bool.false_eq_true, reduceIte, Bool.not_true, Bool.not_false, Option.map_some, Option.map_none, reduceCtorEq, decide_true, decide_false]
    · unfold zipL
      rw [List.length_map, List.length_zip]
      omega
    · intro d hd
      obtain ⟨y, hy, rfl⟩ := zip_mem hd
      refine ⟨[some (.d x), some (.d x), some (.d y), some (.d y)], ?_, ?_, ?_⟩
      · simp only [Option.bind, sSeq, sNil, sFail, sAsg, sRet, sIf, sDrop, sPar, sPar3, sAsgG, sFld, sBrk, sCnt, gTupD, gConsD, gNilD, gVar, eCallB, lCons, lNil, aCons, aConsP, aNil, pVar, cF, cK, eVar, eC, eOp, bOp, eIf, eTup, eLst, eSlice, oSome, oNone, eRev, eNeg, qOf, seqOf, eUn, eAnd, eOr, eNot, bAnd, bOr, bNot, bOf, bTru, bTruQ, qVar, eItemQ, eIsi, eIsiT, isiB, anyIsi, tyName, isNonD, notNonD, isNonB, eJoin, eGet2, eFL, iOf, strOf, lstOf, tupOf, bYes, sOwn, fLst, sFrz, frz, sApp, sPop, M.bnd, M.ret, M.lift, M.fail, rget, rset, wipeR, addD_int, subI_int, modD_int, ltD_int, leD_int, gtD_int, geD_int, eqD_int, neD_int, eqD_bool, neD_bool, truD_bool, truD_int, intD_int, lenQ, eCallB, List.map, List.length_cons, List.length_nil, List.cons_append, List.nil_append, List.replicate, Nat.reduceAdd, Nat.reduceSub, if_true, if_false, Bool.false_eq_true, reduceIte, Bool.not_true, Bool.not_false, Option.map_some, Option.map_none, reduceCtorEq, decide_true, decide_false]
      · simp only [sSeq, sNil, sFail, sAsg, sRet, sIf, sDrop, sPar, sPar3, sAsgG, sFld, sBrk, sCnt, gTupD, gConsD, gNilD, gVar, eCallB, lCons, lNil, aCons, aConsP, aNil, pVar, cF, cK, eVar, eC, eOp, bOp, eIf, eTup, eLst, eSlice, oSome, oNone, eRev, eNeg, qOf, seqOf, eUn, eAnd, eOr, eNot, bAnd, bOr, bNot, bOf, bTru, bTruQ, qVar, eItemQ, eIsi, eIsiT, isiB, anyIsi, tyName, isNonD, notNonD, isNonB, eJoin, eGet2, eFL, iOf, strOf, lstOf, tupOf, bYes, sOwn, fLst, sFrz, frz, sApp, sPop, M.bnd, M.ret, M.lift, M.fail, rget, rset, wipeR, addD_int, subI_int, modD_int, ltD_int, leD_int, gtD_int, geD_int, eqD_int, neD_int, eqD_bool, neD_bool, truD_bool, truD_int, intD_int, lenQ, eCallB, List.map, List.length_cons, List.length_nil, List.cons_append, List.nil_append, List.replicate, Nat.reduceAdd, Nat.reduceSub, if_true, if_false, Bool.false_eq_true, reduceIte, Bool.not_true, Bool.not_false, Option.map_some, Option.map_none, reduceCtorEq, decide_true, decide_false]
      · have := ih y hy
        simp only [this, sSeq, sNil, sFail, sAsg, sRet, sIf, sDrop, sPar, sPar3, sAsgG, sFld, sBrk, sCnt, gTupD, gConsD, gNilD, gVar, eCallB, lCons, lNil, aCons, aConsP, aNil, pVar, cF, cK, eVar, eC, eOp, bOp, eIf, eTup, eLst, eSlice, oSome, oNone, eRev, eNeg, qOf, seqOf, eUn, eAnd, eOr, eNot, bAnd, bOr, bNot, bOf, bTru, bTruQ, qVar, eItemQ, eIsi, eIsiT, isiB, anyIsi, tyName, isNonD, notNonD, isNonB, eJoin, eGet2, eFL, iOf, strOf, lstOf, tupOf, bYes, sOwn, fLst, sFrz, frz, sApp, sPop, M.bnd, M.ret, M.lift, M.fail, rget, rset, wipeR, addD_int, subI_int, modD_int, ltD_int, leD_int, gtD_int, geD_int, eqD_int, neD_int, eqD_bool, neD_bool, truD_bool, truD_int, intD_int, lenQ, eCallB, List.map, List.length_cons, List.length_nil, List.cons_append, List.nil_append, List.replicate, Nat.reduceAdd, Nat.reduceSub, if_true, if_false, Bool.false_eq_true, reduceIte, Bool.not_true, Bool.not_false, Option.map_some, Option.map_none, reduceCtorEq, decide_true, decide_false]
  have hb := boolsOf_true (zipL xs xs)
  have hall : ((zipL xs xs).map fun _ => true).all (fun b => b) = true := by rw [List.all_map]; exact List.all_eq_true.mpr fun _ _ => rfl
  have hx2 : lenD [x] = some (.int xs.length) := by rcases hx with e | e <;> subst e <;> rfl
  have ht : tyName x = "list" ∨ tyName x = "tuple" := by rcases hx with e | e <;> subst e <;> simp [tyName]
  unfold phi_same runD startD F_same
  rcases hx with e | e
  · subst e
    simp [slOf, key, hx2, all1D, allD, hb, hall, sSeq, sNil, sFail, sAsg, sRet, sIf, sDrop, sPar, sPar3, sAsgG, sFld, sBrk, sCnt, gTupD, gConsD, gNilD, gVar, eCallB, lCons, lNil, aCons, aConsP, aNil, pVar, cF, cK, eVar, eC, eOp, bOp, eIf, eTup, eLst, eSlice, oSome, oNone, eRev, eNeg, qOf, seqOf, eUn, eAnd, eOr, eNot, bAnd, bOr, bNot, bOf, bTru, bTruQ, qVar, eItemQ, eIsi, eIsiT, isiB, anyIsi, tyName, isNonD, notNonD, isNonB, eJoin, eGet2, eFL, iOf, strOf, lstOf, tupOf, bYes, sOwn, fLst, sFrz, frz, sApp, sPop, M.bnd, M.ret, M.lift, M.fail, rget, rset, wipeR, addD_int, subI_int, modD_int, ltD_int, leD_int, gtD_int, geD_int, eqD_int, neD_int, eqD_bool, neD_bool, truD_bool, truD_int, intD_int, lenQ, eCallB, List.map, List.length_cons, List.length_nil, List.cons_append, List.nil_append, List.replicate, Nat.reduceAdd, Nat.reduceSub, if_true, if_false, Bool.false_eq_true, reduceIte, Bool.not_true, Bool.not_false, Option.map_some, Option.map_none, reduceCtorEq, decide_true, decide_false]
  · subst e
    simp [slOf, key, hx2, all1D, allD, hb, hall, sSeq, sNil, sFail, sAsg, sRet, sIf, sDrop, sPar, sPar3, sAsgG, sFld, sBrk, sCnt, gTupD, gConsD, gNilD, gVar, eCallB, lCons, lNil, aCons, aConsP, aNil, pVar, cF, cK, eVar, eC, eOp, bOp, eIf, eTup, eLst, eSlice, oSome, oNone, eRev, eNeg, qOf, seqOf, eUn, eAnd, eOr, eNot, bAnd, bOr, bNot, bOf, bTru, bTruQ, qVar, eItemQ, eIsi, eIsiT, isiB, anyIsi, tyName, isNonD, notNonD, isNonB, eJoin, eGet2, eFL, iOf, strOf, lstOf, tupOf, bYes, sOwn, fLst, sFrz, frz, sApp, sPop, M.bnd, M.ret, M.lift, M.fail, rget, rset, wipeR, addD_int, subI_int, modD_int, ltD_int, leD_int, gtD_int, geD_int, eqD_int, neD_int, eqD_bool, neD_bool, truD_bool, truD_int, intD_int, lenQ, eCallB, List.map, List.length_cons, List.length_nil, List.cons_append, List.nil_append, List.replicate, Nat.reduceAdd, Nat.reduceSub, if_true, if_false, Bool.false_eq_true, reduceIte, Bool.not_true, Bool.not_false, Option.map_some, Option.map_none, reduceCtorEq, decide_true, decide_false]
theorem same_atom (n : Nat) (x : PD) (s : SS) (h : (x = .none ∨ (∃ b, x = .bool b)) ∨ (∃ i, x = .int i) ∨ ∃ t, x = .str t) : phi_same (n + 1) [.d x, .d x] s = some (.bool true, s) := by
  unfold phi_same runD startD F_same
  rcases h with (rfl | ⟨b, rfl⟩) | ⟨i, rfl⟩ | ⟨t, rfl⟩
  · simp [slOf, sSeq, sNil, sFail, sAsg, sRet, sIf, sDrop, sPar, sPar3, sAsgG, sFld, sBrk, sCnt, gTupD, gConsD, gNilD, gVar, eCallB, lCons, lNil, aCons, aConsP, aNil, pVar, cF, cK, eVar, eC, eOp, bOp, eIf, eTup, eLst, eSlice, oSome, oNone, eRev, eNeg, qOf, seqOf, eUn, eAnd, eOr, eNot, bAnd, bOr, bNot, bOf, bTru, bTruQ, qVar, eItemQ, eIsi, eIsiT, isiB, anyIsi, tyName, isNonD, notNonD, isNonB, eJoin, eGet2, eFL, iOf, strOf, lstOf, tupOf, bYes, sOwn, fLst, sFrz, frz, sApp, sPop, M.bnd, M.ret, M.lift, M.fail, rget, rset, wipeR, addD_int, subI_int, modD_int, ltD_int, leD_int, gtD_int, geD_int, eqD_int, neD_int, eqD_bool, neD_bool, truD_bool, truD_int, intD_int, lenQ, eCallB, List.map, List.length_cons, List.length_nil, List.cons_append, List.nil_append, List.replicate, Nat.reduceAdd, Nat.reduceSub, if_true, if_false, Bool.false_eq_true, reduceIte, Bool.not_true, Bool.not_false, Option.map_some, Option.map_none, reduceCtorEq, decide_true, decide_false]
  · simp [slOf, sSeq, sNil, sFail, sAsg, sRet, sIf, sDrop, sPar, sPar3, sAsgG, sFld, sBrk, sCnt, gTupD, gConsD, gNilD, gVar, eCallB, lCons, lNil, aCons, aConsP, aNil, pVar, cF, cK, eVar, eC, eOp, bOp, eIf, eTup, eLst, eSlice, oSome, oNone, eRev, eNeg, qOf, seqOf, eUn, eAnd, eOr, eNot, bAnd, bOr, bNot, bOf, bTru, bTruQ, qVar, eItemQ, eIsi, eIsiT, isiB, anyIsi, tyName, isNonD, notNonD, isNonB, eJoin, eGet2, eFL, iOf, strOf, lstOf, tupOf, bYes, sOwn, fLst, sFrz, frz, sApp, sPop, M.bnd, M.ret, M.lift, M.fail, rget, rset, wipeR, addD_int, subI_int, modD_int, ltD_int, leD_int, gtD_int, geD_int, eqD_int, neD_int, eqD_bool, neD_bool, truD_bool, truD_int, intD_int, lenQ, eCallB, List.map, List.length_cons, List.length_nil, List.cons_append, List.nil_append, List.replicate, Nat.reduceAdd, Nat.reduceSub, if_true, if_false, Bool.false_eq_true, reduceIte, Bool.not_true, Bool.not_false, Option.map_some, Option.map_none, reduceCtorEq, decide_true, decide_false]
  · simp [slOf, sSeq, sNil, sFail, sAsg, sRet, sIf, sDrop, sPar, sPar3, sAsgG, sFld, sBrk, sCnt, gTupD, gConsD, gNilD, gVar, eCallB, lCons, lNil, aCons, aConsP, aNil, pVar, cF, cK, eVar, eC, eOp, bOp, eIf, eTup, eLst, eSlice, oSome, oNone, eRev, eNeg, qOf, seqOf, eUn, eAnd, eOr, eNot, bAnd, bOr, bNot, bOf, bTru, bTruQ, qVar, eItemQ, eIsi, eIsiT, isiB, anyIsi, tyName, isNonD, notNonD, isNonB, eJoin, eGet2, eFL, iOf, strOf, lstOf, tupOf, bYes, sOwn, fLst, sFrz, frz, sApp, sPop, M.bnd, M.ret, M.lift, M.fail, rget, rset, wipeR, addD_int, subI_int, modD_int, ltD_int, leD_int, gtD_int, geD_int, eqD_int, neD_int, eqD_bool, neD_bool, truD_bool, truD_int, intD_int, lenQ, eCallB, List.map, List.length_cons, List.length_nil, List.cons_append, List.nil_append, List.replicate, Nat.reduceAdd, Nat.reduceSub, if_true, if_false, Bool.false_eq_true, reduceIte, Bool.not_true, Bool.not_false, Option.map_some, Option.map_none, reduceCtorEq, decide_true, decide_false]
  · simp [slOf, eqD_str, sSeq, sNil, sFail, sAsg, sRet, sIf, sDrop, sPar, sPar3, sAsgG, sFld, sBrk, sCnt, gTupD, gConsD, gNilD, gVar, eCallB, lCons, lNil, aCons, aConsP, aNil, pVar, cF, cK, eVar, eC, eOp, bOp, eIf, eTup, eLst, eSlice, oSome, oNone, eRev, eNeg, qOf, seqOf, eUn, eAnd, eOr, eNot, bAnd, bOr, bNot, bOf, bTru, bTruQ, qVar, eItemQ, eIsi, eIsiT, isiB, anyIsi, tyName, isNonD, notNonD, isNonB, eJoin, eGet2, eFL, iOf, strOf, lstOf, tupOf, bYes, sOwn, fLst, sFrz, frz, sApp, sPop, M.bnd, M.ret, M.lift, M.fail, rget, rset, wipeR, addD_int, subI_int, modD_int, ltD_int, leD_int, gtD_int, geD_int, eqD_int, neD_int, eqD_bool, neD_bool, truD_bool, truD_int, intD_int, lenQ, eCallB, List.map, List.length_cons, List.length_nil, List.cons_append, List.nil_append, List.replicate, Nat.reduceAdd, Nat.reduceSub, if_true, if_false, Bool.false_eq_true, reduceIte, Bool.not_true, Bool.not_false, Option.map_some, Option.map_none, reduceCtorEq, decide_true, decide_false]

/-- the same, of data without dicts -/
def small : PD → Prop
  | .list xs => xs.length ≤ LIM ∧ ∀ x ∈ xs, small x
  | .tuple xs => xs.length ≤ LIM ∧ ∀ x ∈ xs, small x
  | .dict _ => False
  | _ => True
theorem same_ok : ∀ (n : Nat) (x : PD) (s : SS), small x → x.depth < n → phi_same n [.d x, .d x] s = some (.bool true, s)
  | 0, _, _, _, h => absurd h (Nat.not_lt_zero _)
  | n + 1, x, s, hs, hd => by
    cases x with
    | none => exact same_atom n _ s (.inl (.inl rfl))
    | bool b => exact same_atom n _ s (.inl (.inr ⟨b, rfl⟩))
    | int i => exact same_atom n _ s (.inr (.inl ⟨i, rfl⟩))
    | str t => exact same_atom n _ s (.inr (.inr ⟨t, rfl⟩))
    | dict _ => unfold small at hs; exact hs.elim
    | list xs =>
      unfold small at hs
      refine same_seq n xs _ (.inl rfl) s hs.1 fun y hy => same_ok n y s (hs.2 y hy) ?_
      have := depth_mem hy
      rw [PyData.depth] at hd
      omega
    | tuple xs =>
      unfold small at hs
      refine same_seq n xs _ (.inr rfl) s hs.1 fun y hy => same_ok n y s (hs.2 y hy) ?_
      have := depth_mem hy
      rw [PyData.depth] at hd
      omega
end DL

/-! DL15: texts as lists of code points, lists, loops: how the denotations answer -/
namespace DL
open PySem
open L2 (atI ixN)
theorem s_len (l : List Nat) : (S l).length = l.length := rfl
theorem s_inj {l m : List Nat} : (S l = S m) = (l = m) := by
  apply propext
  constructor
  · intro h
    have := congrArg (fun x : Str => x.cps.toList) h
    exact this
  · intro h; rw [h]
theorem S_append (a b : List Nat) : S a ++ S b = S (a ++ b) := by
  show (⟨_⟩ : Str) = ⟨_⟩
  congr 1
  apply Array.toList_inj.mp
  simp
theorem addD_str {a b : List Nat} (h : a.length + b.length ≤ LIM) : addD (.str (S a)) (.str (S b)) = some (.str (S (a ++ b))) := by
  show (if (S a).length + (S b).length ≤ LIM then some (PyData.str (S a ++ S b)) else none) = _
  rw [if_pos (show (S a).length + (S b).length ≤ LIM from h), S_append]
theorem signs_S (l : List Nat) : signs (S l) = l.map fun c => .str (S [c]) := rfl
theorem sliceD_S {l : List Nat} {lo hi : Option Int} (h : l.length ≤ LIM) : sliceD (.str (S l)) lo hi = some (.str (S (cutA l lo hi))) := if_pos h
theorem revD_S {l : List Nat} (h : l.length ≤ LIM) : revD (.str (S l)) = some (.str (S l.reverse)) := if_pos h
theorem lenD_S {l : List Nat} (h : l.length ≤ LIM) : lenD [.str (S l)] = some (.int l.length) := if_pos h
theorem lenD_list (l : List PD) : lenD [.list l] = some (.int l.length) := rfl
theorem lenD_tuple (l : List PD) : lenD [.tuple l] = some (.int l.length) := rfl
theorem itemD_S {l : List Nat} {i : Int} (h : l.length ≤ LIM) : itemD (.str (S l)) (.int i) = (atI l i).map fun c => .str (S [c]) := if_pos h
theorem itemD_list (l : List PD) (i : Int) : itemD (.list l) (.int i) = atI l i := rfl
theorem itemD_tuple (l : List PD) (i : Int) : itemD (.tuple l) (.int i) = atI l i := rfl
theorem truD_S {l : List Nat} (h : l.length ≤ LIM) : truD (.str (S l)) = some (!l.isEmpty) := by
  unfold truD
  dsimp only
  rw [if_pos (show (S l).length ≤ LIM from h)]
  cases l with
  | nil => rfl
  | cons a l =>
    show some (((l.length + 1 : Nat) : Int) != 0) = some true
    congr 1
theorem truD_list (l : List PD) : truD (.list l) = some (!l.isEmpty) := rfl
theorem strsOf_S : ∀ (ls : List (List Nat)), strsOf (ls.map fun l => PyData.str (S l)) = some (ls.map S)
  | [] => rfl
  | l :: ls => by
    rw [List.map_cons]
    unfold strsOf
    rw [strsOf_S ls]
    rfl
theorem sumLen_S : ∀ (ls : List (List Nat)), sumLen (ls.map S) = ls.flatten.length
  | [] => rfl
  | l :: ls => by
    have h := sumLen_S ls
    unfold sumLen at h ⊢
    rw [List.map_cons, List.map_cons, List.sum_cons, List.flatten_cons, List.length_append, ← h]
    rfl
theorem joinL_nil : ∀ (ls : List (List Nat)), TL.joinL [] ls = ls.flatten
  | [] => rfl
  | [l] => by rw [List.flatten_cons, List.flatten_nil, List.append_nil]; rfl
  | l :: m :: ls => by
    rw [List.flatten_cons, ← joinL_nil (m :: ls)]
    rfl
theorem join_nil (ls : List (List Nat)) : Txt.join (S []) (ls.map S) = S ls.flatten := (SX.join_S [] ls).trans (congrArg S (joinL_nil ls))
theorem joinD_nil {ls : List (List Nat)} (h : ls.flatten.length ≤ LIM) : joinD (S []) (ls.map fun l => PyData.str (S l)) = some (.str (S ls.flatten)) := by
  unfold joinD
  rw [strsOf_S]
  dsimp only
  rw [sumLen_S, if_pos, join_nil]
  show ls.flatten.length + (ls.map S).length * 0 ≤ LIM
  omega
/-- a loop without an end of its own: h gives the next state of what is held, I holds ahead of turn i -/
theorem loop_fold {α : Type} {g : DG} {f : DS} (E : α → Option Sl → Rho) (I : Nat → α → Prop) (h : α → PD → α) (s : SS) (n : Nat) : ∀ (xs : List PD) (k : Nat) (a : α) (o : Option Sl), k + xs.length = n → I k a →
    (∀ x ∈ xs, ∀ i a o, i < n → I i a → I (i + 1) (h a x) ∧ ∃ ρ1, g x (E a o) = some ρ1 ∧ ∃ o', f ρ1 s = some (.nx (E (h a x) o'), s)) →
    ∃ o', loopD g f xs (E a o) s = some (.nx (E (xs.foldl h a) o'), s) ∧ I n (xs.foldl h a)
  | [], k, a, o, hn, ha, _ => ⟨o, rfl, by rw [← hn]; exact ha⟩
  | x :: xs, k, a, o, hn, ha, hx => by
    rw [List.length_cons] at hn
    obtain ⟨hi, ρ1, h1, o1, h2⟩ := hx x List.mem_cons_self k a o (by omega) ha
    obtain ⟨o', h3, h4⟩ := loop_fold E I h s n xs (k + 1) (h a x) o1 (by omega) hi fun y hy => hx y (List.mem_cons_of_mem _ hy)
    refine ⟨o', ?_, h4⟩
    unfold loopD
    rw [h1]
    simp only [h2]
    exact h3
theorem pow_one_map {α : Type} (l : List α) : (l.map fun c => [c]).flatten = l := by
  induction l with
  | nil => rfl
  | cons a l ih => rw [List.map_cons, List.flatten_cons, ih]; rfl

/-! ### slices -/
theorem cut_last {α : Type} (g : List α) (x : α) : cutA (g ++ [x]) (some (-1)) none = [x] := by
  unfold cutA HT.sIx
  have h : ((-1 : Int) + ((g ++ [x]).length : Int)).toNat = g.length := by rw [List.length_append]; simp; omega
  simp only [h, show ((-1 : Int) < 0) = True from by simp, if_true]
  rw [List.drop_left, List.length_append, List.length_cons, List.length_nil]
  rw [show g.length + (0 + 1) - g.length = 1 by omega]
  rfl
theorem cut_nil {α : Type} (lo hi : Option Int) : cutA ([] : List α) lo hi = [] := by
  unfold cutA
  simp
theorem cut_init {α : Type} (g : List α) (x : α) : cutA (g ++ [x]) none (some (-1)) = g := by
  unfold cutA HT.sIx
  have h : ((-1 : Int) + ((g ++ [x]).length : Int)).toNat = g.length := by rw [List.length_append]; simp; omega
  simp only [h, show ((-1 : Int) < 0) = True from by simp, if_true, List.drop_zero, Nat.sub_zero]
  exact List.take_left
theorem six_nat (n d k : Nat) : HT.sIx n d (some (k : Int)) = min k n := HT.sIx_nat n d k
theorem six_none (n d : Nat) : HT.sIx n d none = d := rfl
theorem cut_take {α : Type} (l : List α) (k : Nat) : cutA l none (some (k : Int)) = l.take k := by
  unfold cutA
  rw [six_none, six_nat, List.drop_zero, Nat.sub_zero]
  by_cases h : k ≤ l.length
  · rw [Nat.min_eq_left h]
  · rw [Nat.min_eq_right (by omega), List.take_length, List.take_of_length_le (by omega)]
theorem cut_drop {α : Type} (l : List α) (k : Nat) : cutA l (some (k : Int)) none = l.drop k := by
  unfold cutA
  rw [six_none, six_nat]
  by_cases h : k ≤ l.length
  · rw [Nat.min_eq_left h, List.take_of_length_le (by rw [List.length_drop]; exact Nat.le_refl _)]
  · rw [Nat.min_eq_right (by omega), List.drop_length, List.drop_of_length_le (by omega)]
    simp
theorem cut_mid {α : Type} (l : List α) (j k : Nat) (h : j ≤ k) (hk : k ≤ l.length) : cutA l (some (j : Int)) (some (k : Int)) = (l.drop j).take (k - j) := by
  unfold cutA
  rw [six_nat, six_nat, Nat.min_eq_left hk, Nat.min_eq_left (Nat.le_trans h hk)]
/-- without its first and its last -/
theorem cut_inner {α : Type} (x y : α) (g : List α) : cutA (x :: (g ++ [y])) (some 1) (some (-1)) = g := by
  unfold cutA HT.sIx
  have hl : (x :: (g ++ [y])).length = g.length + 2 := by simp
  have h : ((-1 : Int) + ((x :: (g ++ [y])).length : Int)).toNat = g.length + 1 := by rw [hl]; omega
  simp only [h, show ((-1 : Int) < 0) = True from by simp, show ((1 : Int) < 0) = False from by simp, if_true, if_false]
  have h1 : min (1 : Int).toNat (x :: (g ++ [y])).length = 1 := by rw [hl]; simp
  rw [h1]
  show (g ++ [y]).take (g.length + 1 - 1) = g
  exact List.take_left
theorem atI_last {α : Type} (g : List α) (x : α) : atI (g ++ [x]) (-1) = some x := by
  unfold atI ixN
  rw [if_neg (by omega), if_pos (by rw [List.length_append]; simp; omega)]
  have h : ((-1 : Int) + ((g ++ [x]).length : Int)).toNat = g.length := by rw [List.length_append]; simp; omega
  show (g ++ [x])[((-1 : Int) + ((g ++ [x]).length : Int)).toNat]? = _
  rw [h]
  simp
theorem snoc_cases {α : Type} (l : List α) : l = [] ∨ ∃ g x, l = g ++ [x] := by
  cases h : l.reverse with
  | nil => exact .inl (by simpa using h)
  | cons x r =>
    refine .inr ⟨r.reverse, x, ?_⟩
    have := congrArg List.reverse h
    simpa using this

/-! ### with draws -/
/-- the draws' state stands at these addresses, at most n draws so far -/
structure Zs (a b : PySem.Addr) (n : Int) (z : Strm) : Prop where
  g : Gz n z
  sa : z.sa = a
  ca : z.ca = b
theorem Zs.mono {a b : PySem.Addr} {n m : Int} {z : Strm} (h : Zs a b n z) (hm : n ≤ m) : Zs a b m z := ⟨⟨h.g.m0, h.g.m1, h.g.c0, h.g.k0, Int.le_trans h.g.k1 hm, h.g.ln⟩, h.sa, h.ca⟩
theorem drawZ {a b : PySem.Addr} {n m : Int} {z : Strm} (hz : Zs a b n z) (hn : n ≤ 1000000000) (h0 : 0 < m) (h1 : m < 1073741824) :
    ∃ d z', phi_draw [.p a, .d (.int m)] (some z) = some (.int d, some z') ∧ 0 ≤ d ∧ d < m ∧ Zs a b (n + 1) z' := by
  obtain ⟨g, rfl, rfl⟩ := hz
  obtain ⟨d, z', e, d0, d1, g', s1, s2⟩ := draw_ok g hn h0 h1
  exact ⟨d, z', e, d0, d1, g', s1, s2⟩
theorem pickZ {a b : PySem.Addr} {n : Int} {xs : List PD} {z : Strm} (hz : Zs a b n z) (hn : n ≤ 1000000000) (h0 : xs ≠ []) (h1 : xs.length < 1073741824) :
    ∃ d z', phi_pick [.p a, .d (.list xs)] (some z) = some (d, some z') ∧ d ∈ xs ∧ Zs a b (n + 1) z' := by
  obtain ⟨g, rfl, rfl⟩ := hz
  obtain ⟨d, z', e, hd, g', s1, s2⟩ := pick_ok g hn h0 h1
  exact ⟨d, z', e, hd, g', s1, s2⟩
theorem seq_nx {f g : DS} {ρ ρ1 : Rho} {s s1 : SS} (h : f ρ s = some (.nx ρ1, s1)) : sSeq f g ρ s = g ρ1 s1 := by unfold sSeq; rw [h]
theorem seq_rt {f g : DS} {ρ : Rho} {s s1 : SS} {d : PD} (h : f ρ s = some (.rt d, s1)) : sSeq f g ρ s = some (.rt d, s1) := by unfold sSeq; rw [h]
theorem for_ev {m : DT} {g : DG} {f : DS} {ρ : Rho} {s s1 : SS} {xs : List PD} (h : m ρ s = some (xs, s1)) : sFor m g f ρ s = loopD g f xs ρ s1 := by unfold sFor M.bnd; rw [h]
theorem compL_draw {Mx : Int} {a b : PySem.Addr} {P : PD → Prop} {g : DG} {t : DB} {f : DE} {ρ : Rho} (c : Nat) : ∀ (xs : List PD) (n : Int) (z : Strm), Zs a b n z → n + (c * xs.length : Nat) ≤ Mx →
    (∀ x ∈ xs, ∀ (n : Int) (z : Strm), Zs a b n z → n + c ≤ Mx → ∃ ρ1 d z', g x ρ = some ρ1 ∧ t ρ1 (some z) = some (true, some z) ∧ f ρ1 (some z) = some (d, some z') ∧ P d ∧ Zs a b (n + c) z') →
    ∃ ds z', compL g t f ρ xs (some z) = some (ds, some z') ∧ ds.length = xs.length ∧ (∀ d ∈ ds, P d) ∧ Zs a b (n + (c * xs.length : Nat)) z'
  | [], n, z, hz, _, _ => ⟨[], z, rfl, rfl, fun _ h => (by cases h), by simpa using hz⟩
  | x :: xs, n, z, hz, hn, hx => by
    have e1 : c * (x :: xs).length = c * xs.length + c := by rw [List.length_cons, Nat.mul_add, Nat.mul_one]
    rw [e1] at hn ⊢
    obtain ⟨ρ1, d, z1, h1, h2, h3, h4, h5⟩ := hx x List.mem_cons_self n z hz (by omega)
    obtain ⟨ds, z', h6, h7, h8, h9⟩ := compL_draw c xs (n + c) z1 h5 (by omega) fun y hy => hx y (List.mem_cons_of_mem _ hy)
    refine ⟨d :: ds, z', ?_, by rw [List.length_cons, List.length_cons, h7], fun e he => ?_, h9.mono (by omega)⟩
    · unfold compL
      rw [h1]
      simp only [h2, h3, h6, sSeq, sNil, sFail, sAsg, sRet, sIf, sDrop, sPar, sPar3, sAsgG, sFld, sBrk, sCnt, gTupD, gConsD, gNilD, gVar, eCallB, lCons, lNil, aCons, aConsP, aNil, pVar, cF, cK, eVar, eC, eOp, bOp, eIf, eTup, eLst, eSlice, oSome, oNone, eRev, eNeg, qOf, seqOf, eUn, eAnd, eOr, eNot, bAnd, bOr, bNot, bOf, bTru, bTruQ, qVar, eItemQ, eIsi, eIsiT, isiB, anyIsi, tyName, isNonD, notNonD, isNonB, eJoin, eGet2, eFL, iOf, strOf, lstOf, tupOf, bYes, sOwn, fLst, sFrz, frz, sApp, sPop, M.bnd, M.ret, M.lift, M.fail, rget, rset, wipeR, addD_int, subI_int, modD_int, ltD_int, leD_int, gtD_int, geD_int, eqD_int, neD_int, eqD_bool, neD_bool, truD_bool, truD_int, intD_int, lenQ, eCallB, List.map, List.length_cons, List.length_nil, List.cons_append, List.nil_append, List.replicate, Nat.reduceAdd, Nat.reduceSub, if_true, if_false, Bool.false_eq_true, reduceIte, Bool.not_true, Bool.not_false, Option.map_some, Option.map_none, reduceCtorEq, decide_true, decide_false]
    · rcases List.mem_cons.mp he with rfl | he
      · exact h4
      · exact h8 e he
theorem loop_draw {Mx : Int} {a b : PySem.Addr} {I : Rho → Prop} {g : DG} {f : DS} (c : Nat) : ∀ (xs : List PD) (n : Int) (ρ : Rho) (z : Strm), I ρ → Zs a b n z → n + (c * xs.length : Nat) ≤ Mx →
    (∀ x ∈ xs, ∀ (n : Int) (ρ : Rho) (z : Strm), I ρ → Zs a b n z → n + c ≤ Mx → ∃ ρ1 ρ2 z', g x ρ = some ρ1 ∧ f ρ1 (some z) = some (.nx ρ2, some z') ∧ I ρ2 ∧ Zs a b (n + c) z') →
    ∃ ρ' z', loopD g f xs ρ (some z) = some (.nx ρ', some z') ∧ I ρ' ∧ Zs a b (n + (c * xs.length : Nat)) z'
  | [], n, ρ, z, hi, hz, _, _ => ⟨ρ, z, rfl, hi, by simpa using hz⟩
  | x :: xs, n, ρ, z, hi, hz, hn, hx => by
    have e1 : c * (x :: xs).length = c * xs.length + c := by rw [List.length_cons, Nat.mul_add, Nat.mul_one]
    rw [e1] at hn ⊢
    obtain ⟨ρ1, ρ2, z1, h1, h2, h3, h4⟩ := hx x List.mem_cons_self n ρ z hi hz (by omega)
    obtain ⟨ρ', z', h5, h6, h7⟩ := loop_draw c xs (n + c) ρ2 z1 h3 h4 (by omega) fun y hy => hx y (List.mem_cons_of_mem _ hy)
    refine ⟨ρ', z', ?_, h6, h7.mono (by omega)⟩
    unfold loopD
    rw [h1]
    simp only [h2]
    exact h5
theorem range_len (n : Nat) : (rangeL 0 n).length = n := by unfold rangeL; simp
theorem range_mem {x : PD} {n : Nat} (h : x ∈ rangeL 0 n) : ∃ k : Nat, k < n ∧ x = .int (k : Int) := by
  unfold rangeL at h
  obtain ⟨k, hk, rfl⟩ := List.mem_map.mp h
  exact ⟨k, List.mem_range.mp hk, by rw [Int.zero_add]⟩
theorem start_ok (sa ca : PySem.Addr) (ns : List Int) (h : ns.length ≤ 63) : Zs sa ca 0 ⟨sa, ca, ns, 0, 0, 17⟩ := ⟨⟨show (0 : Int) ≤ 17 by decide, show (17 : Int) < 2147483647 by decide, show (0 : Int) ≤ 0 by decide, show (0 : Int) ≤ 0 by decide, show (0 : Int) ≤ 0 by decide, h⟩, rfl, rfl⟩
end DL

/-! DL16: more rules: what is walked of any kind, chains, starred items, sorted, list, tuple, counts, places -/
namespace DL
open PySem PySem.Spec PyProof.Rows L2 Evl
section
variable {X : Cx} {B : Base} {a b c e o tg : Expr} {es : List Expr} {pos p apos cpos : Pos} {f1 f2 f3 : DE} {x : Str} {r1 : DT} {id T : String} {g g' : PD → PD → Option PD}
/-- a list, a tuple, a text -/
def anyOf : PD → Option (List PD)
  | .list xs => some xs
  | .tuple xs => some xs
  | .str x => some (DL.signs x)
  | _ => none
theorem i_any (h : PE X e (tE X.K B f1)) : PI X tg e (tI X.K B (iOf anyOf f1)) := ⟨fun pins s0 σ H R I hq => by
  obtain ⟨ρ, s, Hs, xs, s', ok, e, q⟩ := hq
  obtain ⟨d, s1, e1, e2⟩ := M.bnd_some e
  obtain ⟨e3, rfl⟩ := M.lift_some e2
  cases d <;> first | (cases e3; done) | skip
  · refine (i_str (tg := tg) h).run pins s0 σ H R I ⟨ρ, s, Hs, xs, _, ok, ?_, q⟩
    unfold iOf M.bnd; rw [e1]; dsimp only; cases e3; rfl
  · refine (i_list (tg := tg) h).run pins s0 σ H R I ⟨ρ, s, Hs, xs, _, ok, ?_, q⟩
    unfold iOf M.bnd; rw [e1]; dsimp only; cases e3; rfl
  · refine (i_tup (tg := tg) h).run pins s0 σ H R I ⟨ρ, s, Hs, xs, _, ok, ?_, q⟩
    unfold iOf M.bnd; rw [e1]; dsimp only; cases e3; rfl⟩

/-! ### a < b <= c -/
def eChain (g g' : PD → PD → Option PD) (f1 f2 f3 : DE) : DE := fun ρ => (f1 ρ).bnd fun x => (f2 ρ).bnd fun y => (M.lift (g x y)).bnd fun k => match k with
  | .bool true => (f3 ρ).bnd fun z => M.lift (g' y z)
  | .bool false => M.ret (.bool false)
  | _ => M.fail
theorem tChain_d {r r' : R2} (h : ∀ (ρ : Rho) (σ : Sg) (s : SS) (Hs H : Hp) (x y d : PD) (v u : V) (Q : VK), Ok X.K B ρ σ s Hs H → g x y = some d → Rp X.K Hs v x → Rp X.K Hs u y → (∀ w Hs' H', Nx X.K B ρ σ s Hs H Hs' H' → Rp X.K Hs' w d → Q w H') → r v u H Q)
    (h' : ∀ (ρ : Rho) (σ : Sg) (s : SS) (Hs H : Hp) (x y d : PD) (v u : V) (Q : VK), Ok X.K B ρ σ s Hs H → g' x y = some d → Rp X.K Hs v x → Rp X.K Hs u y → (∀ w Hs' H', Nx X.K B ρ σ s Hs H Hs' H' → Rp X.K Hs' w d → Q w H') → r' v u H Q)
    (σ : Sg) (H : Hp) (Q : VK) (hq : tE X.K B (eChain g g' f1 f2 f3) σ H Q) : tChain r r' (tE X.K B f1) (tE X.K B f2) (tE X.K B f3) σ H Q := by
  obtain ⟨ρ, s, Hs, d, s', ok, e, q⟩ := hq
  obtain ⟨x1, s1, e1, g1⟩ := M.bnd_some e
  obtain ⟨y1, s2, e2, g2⟩ := M.bnd_some g1
  obtain ⟨k1, s3, e3, g3⟩ := M.bnd_some g2
  obtain ⟨e4, rfl⟩ := M.lift_some e3
  refine ⟨ρ, s, Hs, x1, s1, ok, e1, fun v Hs1 H1 n1 r1 => ⟨ρ, s1, Hs1, y1, _, n1.ok, e2, fun u Hs2 H2 n2 r2 => ?_⟩⟩
  refine h ρ σ _ Hs2 H2 x1 y1 k1 v u _ n2.ok e4 (r1.mono n2.ex) r2 fun w Hs3 H3 n3 r3 => ?_
  cases r3 <;> first | (cases g3; done) | skip
  rename_i k
  refine ⟨k, rfl, ?_⟩
  cases k with
  | false =>
    refine iteF ?_
    cases g3
    exact q _ Hs3 H3 (n1.trans (n2.trans n3)) (.bl _)
  | true =>
    refine iteT ?_
    dsimp only at g3
    obtain ⟨z1, s5, e5, g5⟩ := M.bnd_some g3
    obtain ⟨e6, rfl⟩ := M.lift_some g5
    refine ⟨ρ, _, Hs3, z1, _, n3.ok, e5, fun w' Hs4 H4 n4 r4 => ?_⟩
    exact h' ρ σ _ Hs4 H4 y1 z1 d u w' Q n4.ok e6 ((r2.mono n3.ex).mono n4.ex) r4 fun w Hs5 H5 n5 r5 => q w Hs5 H5 (n1.trans (n2.trans (n3.trans (n4.trans n5)))) r5
theorem d_chain {op op' : CmpOp} (ho : OpD X B (compareOp op) g) (ho' : OpD X B (compareOp op') g') (ha : PE X a (tE X.K B f1)) (hb : PE X b (tE X.K B f2)) (hc : PE X c (tE X.K B f3)) (hm : lastMarks [op, op'] [b, c] = false) :
    PE X (.Compare a [op, op'] [b, c] pos) (tE X.K B (eChain g g' f1 f2 f3)) := by
  obtain ⟨r, hr, h⟩ := ho
  obtain ⟨r', hr', h'⟩ := ho'
  exact (pe_chain hr hr' ha hb hc hm).imp (tChain_d h h')
theorem t_chain {op op' : CmpOp} (ho : OpD X B (compareOp op) g) (ho' : OpD X B (compareOp op') g') (ha : PE X a (tE X.K B f1)) (hb : PE X b (tE X.K B f2)) (hc : PE X c (tE X.K B f3)) (hm : lastMarks [op, op'] [b, c] = false) :
    PT X (.Compare a [op, op'] [b, c] pos) (tB X.K B (bOf (eChain g g' f1 f2 f3))) := by
  obtain ⟨r, hr, h⟩ := ho
  obtain ⟨r', hr', h'⟩ := ho'
  exact (pt_chain hr hr' ha hb hc hm).imp fun σ H Q hq => tChain_d h h' _ _ _ (tB_of hq)

/-! ### *e in a display -/
def lStar (f : DT) (r : DT) : DT := fun ρ => (f ρ).bnd fun xs => (r ρ).bnd fun ys => M.ret (xs ++ ys)
theorem l_star {f : DT} (he : PE X e (tQ X.K B f)) (hr : PA X es (tL X.K B r1)) (hs : starEach (.Starred e p :: es) X.env = (true, eval e X.env) :: starEach es X.env := by rfl) : PA X (.Starred e p :: es) (tL X.K B (lStar f r1)) :=
  (StX.pa_star he hr hs).imp fun σ H Q ⟨ρ, s, Hs, d, s', ok, e, q⟩ => by
    obtain ⟨xs, s1, e1, e2⟩ := M.bnd_some e
    obtain ⟨ys, s2, e2, e3⟩ := M.bnd_some e2
    cases e3
    refine ⟨ρ, s, Hs, xs, s1, ok, e1, fun v Hs1 H1 n1 t => ?_⟩
    obtain ⟨p, vs, rfl, hp, hs⟩ := t.sq n1.ok
    refine ⟨p, vs, rfl, hp.symm.imp (fun h => h) SqL.of, ρ, s1, Hs1, ys, _, n1.ok, e2, fun ws Hs2 H2 n2 w2 => ?_⟩
    exact q _ Hs2 H2 (n1.trans n2) ((RpAll.mono n2.ex hs).append w2)

/-! ### calls that give new lists -/
theorem fresh_back {ρ : Rho} {σ : Sg} {s' : SS} {Hs H Hs1 H1 : Hp} {q : Addr} (n1 : Nx X.K B ρ σ s' Hs H Hs1 H1) (hp : H1 q = none) : H q = none := by
  cases h : H q with
  | none => rfl
  | some o =>
    by_cases z : q ∈ adrs B.s
    · exfalso
      have hk := n1.ok.hk
      rw [← hk.ad] at z
      have st := hk.st
      cases s' with
      | none => cases z
      | some w =>
        obtain ⟨_, _, _, g4, g5⟩ := st
        rcases List.mem_cons.mp z with z | z
        · rw [z, g4] at hp; cases hp
        · rcases List.mem_cons.mp z with z | z
          · rw [z, g5] at hp; cases hp
          · cases z
    · rw [n1.kp q o h z] at hp; cases hp
def CallL (X : Cx) (B : Base) (f : Value) (k : List PD → Option (List PD)) : Prop :=
  ∃ r, CallR X f r ∧ ∀ (ρ : Rho) (σ : Sg) (s : SS) (Hs H : Hp) (vs : List V) (ds out : List PD) (Q : VK), Ok X.K B ρ σ s Hs H → k ds = some out → RpAll X.K Hs vs ds → (∀ l ws, H l = none → RpAll X.K Hs ws out → Q (.ref l) (upd H l (.lst ws))) → r vs H Q
def fCallB (k : List PD → Option (List PD)) (m : DT) : DT := fun ρ => (m ρ).bnd fun ds => M.lift (k ds)
theorem tCB_l {k : List PD → Option (List PD)} {r : List V → Hp → VK → Prop} (h : ∀ (ρ : Rho) (σ : Sg) (s : SS) (Hs H : Hp) (vs : List V) (ds out : List PD) (Q : VK), Ok X.K B ρ σ s Hs H → k ds = some out → RpAll X.K Hs vs ds → (∀ l ws, H l = none → RpAll X.K Hs ws out → Q (.ref l) (upd H l (.lst ws))) → r vs H Q)
    (σ : Sg) (H : Hp) (Q : VK) (hq : tF X.K B (fCallB k r1) σ H Q) : tCB r (tL X.K B r1) σ H Q := by
  obtain ⟨ρ, s, Hs, d, s', ok, e, q⟩ := hq
  obtain ⟨ds, s1, e1, e2⟩ := M.bnd_some e
  obtain ⟨e3, rfl⟩ := M.lift_some e2
  refine ⟨ρ, s, Hs, ds, _, ok, e1, fun vs Hs1 H1 n1 w1 => h ρ σ _ Hs1 H1 vs ds d Q n1.ok e3 w1 fun l ws hl hw => ?_⟩
  have nn := n1.ok.laidO (o := .lst ws) hl
  exact q l ws _ _ (n1.trans nn) (fresh_back n1 hl) (hs_none n1.ok.hk.sub hl) upd_same hw
theorem f_callB {k : List PD → Option (List PD)} (h : CallL X B (.builtin id) k) (ha : PA X (e :: es) (tL X.K B r1)) (hm : X.mg x = none) (hv : bootBuiltins x = some (.builtin id)) (hg : Gl X x := by rfl) (hn : x ≠ "__name__" := by decide) (hdb : (x == ("__debug__" : Str)) = false := by decide)
    (he : starEach (e :: es) X.env = (false, eval e X.env) :: starEach es X.env := by rfl) (hpl : (backTo pos (starEach es X.env)).any (·.1) = false := by rfl) : PE X (.Call (.Name x p) (e :: es) [] pos) (tF X.K B (fCallB k r1)) := by
  obtain ⟨r, hr, h⟩ := h
  exact (pe_callB hr hg hm hv ha hn hdb he hpl).imp (tCB_l h)
theorem f_callTy {k : List PD → Option (List PD)} (h : CallL X B (.type T) k) (ha : PA X (e :: es) (tL X.K B r1)) (hm : X.mg x = none) (hv : bootBuiltins x = some (.type T)) (hg : Gl X x := by rfl) (hn : x ≠ "__name__" := by decide) (hdb : (x == ("__debug__" : Str)) = false := by decide)
    (he : starEach (e :: es) X.env = (false, eval e X.env) :: starEach es X.env := by rfl) (hpl : (backTo pos (starEach es X.env)).any (·.1) = false := by rfl) : PE X (.Call (.Name x p) (e :: es) [] pos) (tF X.K B (fCallB k r1)) := by
  obtain ⟨r, hr, h⟩ := h
  exact (pe_callTy hr hg hm hv ha hn hdb he hpl).imp (tCB_l h)
/-- as data at once -/
theorem d_callBL {k : List PD → Option (List PD)} (h : CallL X B (.builtin id) k) (ha : PA X (e :: es) (tL X.K B r1)) (hm : X.mg x = none) (hv : bootBuiltins x = some (.builtin id)) (hg : Gl X x := by rfl) (hn : x ≠ "__name__" := by decide) (hdb : (x == ("__debug__" : Str)) = false := by decide)
    (he : starEach (e :: es) X.env = (false, eval e X.env) :: starEach es X.env := by rfl) (hpl : (backTo pos (starEach es X.env)).any (·.1) = false := by rfl) : PE X (.Call (.Name x p) (e :: es) [] pos) (tE X.K B (eFL (fCallB k r1))) := f_E (f_callB h ha hm hv hg hn hdb he hpl)
theorem d_callTyL {k : List PD → Option (List PD)} (h : CallL X B (.type T) k) (ha : PA X (e :: es) (tL X.K B r1)) (hm : X.mg x = none) (hv : bootBuiltins x = some (.type T)) (hg : Gl X x := by rfl) (hn : x ≠ "__name__" := by decide) (hdb : (x == ("__debug__" : Str)) = false := by decide)
    (he : starEach (e :: es) X.env = (false, eval e X.env) :: starEach es X.env := by rfl) (hpl : (backTo pos (starEach es X.env)).any (·.1) = false := by rfl) : PE X (.Call (.Name x p) (e :: es) [] pos) (tE X.K B (eFL (fCallB k r1))) := f_E (f_callTy h ha hm hv hg hn hdb he hpl)
/-! #### list(x) -/
theorem signs_vals {x : Str} {acc : Array Value} (h : ItemsOf (SignAt x) acc x.cps.size) : Vals (x.cps.toList.map fun n => V.str ⟨⟨[n]⟩⟩) acc.toList := by
  refine vals_of_idx _ _ (by rw [List.length_map, Array.length_toList, Array.length_toList]; exact h.1) fun j u hj => ?_
  obtain ⟨c, t, hc, rfl⟩ := h.2 j u (by rw [← Array.getElem?_toList]; exact hj)
  refine ⟨.str ⟨⟨[c]⟩⟩, ?_, ⟨_, rfl⟩⟩
  rw [List.getElem?_map, Array.getElem?_toList, hc]
  rfl
theorem call_listS (hc : X.calm = true) : CallR X (.type "list") (fun xs H Q => ∃ z : Str, xs = [.str z] ∧ z.length ≤ LIM ∧ ∀ l, H l = none → Q (.ref l) (upd H l (.lst (z.cps.toList.map fun n => V.str ⟨⟨[n]⟩⟩)))) := by
  intro pins s σ H xs us Q I r h
  obtain ⟨z, rfl, hz, q⟩ := h
  obtain ⟨u, rfl, t, rfl⟩ := vals1 r
  have hzs : z.cps.size ≤ sizeLine := Nat.le_trans hz lim_line
  refine call_list_str (hn := hzs) (I.ok.hd hc) z t fun h' tk acc' c' hk e hi => ?_
  refine ⟨.ref s.heap.objs.size, _, I.laid (t' := tk) hk (Nat.le_refl _) (show ObjOk X.prog X.w _ h' _ (.lst (z.cps.toList.map fun n => V.str ⟨⟨[n]⟩⟩)) from ⟨by rw [List.length_map, Array.length_toList]; exact hzs, acc'.toList, c', signs_vals hi, by rw [Array.toArray_toList]; exact e⟩), rfl, q _ (I.hok.fresh (Nat.le_refl _))⟩
def listD : List PD → Option (List PD)
  | [.list xs] => some xs
  | [.tuple xs] => some xs
  | [.str z] => if z.length ≤ LIM then some (DL.signs z) else none
  | _ => none
theorem cl_list (hc : X.calm = true) : CallL X B (.type "list") listD := ⟨_, CallR.or (call_listS hc) call_list_of, fun ρ σ s Hs H vs ds out Q ok e r q => by
  cases r with
  | nil => cases e
  | cons r1 r2 =>
    cases r2 with
    | cons _ _ => cases r1 <;> cases e
    | nil =>
      cases r1 <;> first | (cases e; done) | skip
      · rename_i z
        unfold listD at e
        dsimp only at e
        split at e
        · rename_i hz
          cases e
          refine .inl ⟨z, rfl, hz, fun l hl => q l _ hl ?_⟩
          have := RpAll.of_strs (K := X.K) (H := Hs) (z.cps.toList.map fun n => ⟨⟨[n]⟩⟩)
          rw [List.map_map, List.map_map] at this
          exact this
        · cases e
      · rename_i p xs ds hp hs
        cases e
        exact .inr ⟨p, xs, rfl, .inl (SqL.of (ok.hk.sub _ _ hp)), fun l hl => q l _ hl hs⟩
      · rename_i p xs ds hp hs
        cases e
        exact .inr ⟨p, xs, rfl, .inr (ex_t ok.hk.sub hp), fun l hl => q l _ hl hs⟩⟩
/-! #### tuple(x) of a list, a tuple -/
def tupleD : List PD → Option PD
  | [.list xs] => some (.tuple xs)
  | [.tuple xs] => some (.tuple xs)
  | _ => none
theorem cd_tuple : CallD X B (.type "tuple") tupleD := ⟨_, call_tuple_of, fun ρ σ s Hs H vs ds d Q ok e r q => by
  cases r with
  | nil => cases e
  | cons r1 r2 =>
    cases r2 with
    | cons _ _ => cases r1 <;> cases e
    | nil =>
      cases r1 <;> first | (cases e; done) | skip
      · rename_i p xs ds hp hs
        cases e
        refine ⟨p, xs, rfl, .inl ⟨SqL.of (ok.hk.sub _ _ hp), fun l hl => ?_⟩⟩
        have nn := ok.laid (o := .tup xs) hl
        exact q _ _ _ nn (.tup (SqT.of upd_same) (hs.mono nn.ex))
      · rename_i p xs ds hp hs
        cases e
        exact ⟨p, xs, rfl, .inr ⟨ex_t ok.hk.sub hp, q _ _ _ (Nx.refl ok) (.tup hp hs)⟩⟩⟩
/-! #### sorted(xs) -/
def sortB (xs : List PD) : Bool := (xs.all fun d => match d with | .tuple (_ :: _) => true | _ => false) || xs.all fun d => match d with | .tuple _ => false | .none => false | _ => true
theorem sortB_ok {xs : List PD} (h : sortB xs = true) : PySem.W.Sortable xs := by
  unfold sortB at h
  rw [Bool.or_eq_true] at h
  rcases h with h | h
  · rw [List.all_eq_true] at h
    refine .inl fun d hd => ?_
    have := h d hd
    split at this
    · exact ⟨_, _, rfl⟩
    · cases this
  · rw [List.all_eq_true] at h
    refine .inr fun d hd => ⟨fun z => ?_, fun ys z => ?_⟩
    · have := h d hd
      rw [z] at this
      cases this
    · have := h d hd
      rw [z] at this
      cases this
def sortedD : List PD → Option (List PD)
  | [.list xs] => if alikeL xs && flatA xs && sortB xs && decide (xs.length ≤ LIM) then some (xs.mergeSort (PySem.W.dataLe false _root_.id)) else none
  | _ => none
theorem each_v {K : PySem.W.Frag} {H : Hp} : ∀ {ws : List V} {us : List Value} {ds : List PD}, Vals ws us → RpAll K H ws ds → PySem.W.EachIs (fun u d => ∃ v, RelV v u ∧ Rp K H v d) us ds
  | _, _, _, .nil, .nil => .nil
  | _, _, _, .cons r t, .cons p q => .cons ⟨_, r, p⟩ (each_v t q)
theorem v_each {K : PySem.W.Frag} {H : Hp} : ∀ {us : List Value} {ds : List PD}, PySem.W.EachIs (fun u d => ∃ v, RelV v u ∧ Rp K H v d) us ds → ∃ ws, Vals ws us ∧ RpAll K H ws ds
  | _, _, .nil => ⟨[], .nil, .nil⟩
  | _, _, .cons ⟨v, r, p⟩ t => by
    obtain ⟨ws, h1, h2⟩ := v_each t
    exact ⟨v :: ws, .cons r h1, .cons p h2⟩
theorem call_sortedX (hu : X.A.units + 64 < cLine) : CallR X (.builtin "sorted") (fun vs H Q => ∃ (Hs : Hp) (a : Addr) (ws : List V) (xs : List PD), Ex Hs H ∧ vs = [.ref a] ∧ SqL X.K H a ws ∧ RpAll X.K Hs ws xs ∧ alikeL xs = true ∧ flatA xs = true ∧ sortB xs = true ∧ xs.length ≤ LIM ∧
    ∀ (l : Addr) (ws' : List V), H l = none → RpAll X.K Hs ws' (xs.mergeSort (PySem.W.dataLe false _root_.id)) → Q (.ref l) (upd H l (.lst ws'))) := by
  intro pins s σ H vs us Q I r h
  obtain ⟨Hs, a, ws, xs, hx, rfl, hs, ha, hl, hf, hb, hz, q⟩ := h
  obtain ⟨hp, hd⟩ := flatA_i hf
  obtain ⟨its, rv, pl, _⟩ := I.list hs
  rw [Vals.ref1 r]
  obtain ⟨as, hr⟩ := Rp.readsAll I _ _ its (ha.mono hx) rv hp
  have em : xs.map _root_.id = xs := List.map_id xs
  have hal : PySem.W.AllAlike (xs.map _root_.id) := by
    rw [em]
    exact fun d hd d' hd' => (alikeL_ok hl).1 d hd d' hd'
  refine PySem.W.sorted_data (enc := _root_.id) pl.isList (each_v rv ha) (PySem.W.readsAll_each _root_.id (by rw [em]; exact hr)) hal (by rw [em]; exact sortB_ok hb) (Nat.le_trans hz lim_line) (fun b hb => ?_) fun out ho eo => ?_
  · have : b.depth ≤ PyData.depthAll xs := depth_mem hb
    show X.A.units + 2 + b.depth < cLine
    omega
  · obtain ⟨ws', h1, h2⟩ := v_each eo
    obtain ⟨ep, he'⟩ := PyProof.Rows.sortedAll_at s.heap its (List.toArray out)
    have hlen : ws'.length ≤ sizeLine := by
      rw [h1.length, ho]
      exact Nat.le_trans hz lim_line
    exact ⟨.ref _, upd H (s.heap.objs.size + 1) (.lst ws'), I.laid (t' := s.toks) (fun _ _ => PyProof.Rows.sortedAll_old) (Nat.le_succ _) ⟨hlen, out, ep, h1, he'⟩, rfl, q _ ws' (I.hok.fresh (Nat.le_succ _)) h2⟩
theorem cl_sorted (hu : X.A.units + 64 < cLine) : CallL X B (.builtin "sorted") sortedD := ⟨_, call_sortedX hu, fun ρ σ s Hs H vs ds out Q ok e r q => by
  unfold sortedD at e
  split at e
  · split at e
    · rename_i hh
      cases e
      simp only [Bool.and_eq_true, decide_eq_true_eq] at hh
      obtain ⟨⟨⟨h1, h2⟩, h3⟩, h4⟩ := hh
      cases r with
      | cons r1 r2 =>
        cases r2
        cases r1 with
        | lst hp hs =>
          exact ⟨Hs, _, _, _, ok.hk.sub, rfl, SqL.of (ok.hk.sub _ _ hp), hs, h1, h2, h3, h4, fun l ws' hl hw => q l ws' hl hw⟩
    · cases e
  · cases e⟩
end
end DL

/-! DL17: methods, own lists in tuples, items stored -/
namespace DL
open PySem PySem.Spec PyProof.Rows L2 Evl
section
variable {X : Cx} {B : Base} {a b c e o tg : Expr} {es : List Expr} {pos p apos cpos : Pos} {f1 f2 f3 : DE} {x : Str} {r1 : DT} {id T : String} {g g' : PD → PD → Option PD}
/-! ### x.count(y) of texts -/
def cntD : PD → PD → Option PD
  | .str a, .str b => some (.int (Txt.count a b))
  | _, _ => none
theorem d_count (ho : PE X o (tE X.K B f1)) (he : PE X e (tE X.K B f2)) (hs : starEach [e] X.env = [(false, eval e X.env)] := by rfl) (hbase : attributeBase o "count" X.env (eval o X.env) = eval o X.env := by rfl) (hline : (apos.endLine == pos.line) = true := by rfl) :
    PE X (.Call (.Attribute o "count" apos) [e] [] pos) (tE X.K B (eOp cntD f1 f2)) := (pe_m1 PySem.F.slot_str_count PySem.F.type_str_count mt_count ho he hs hbase hline).imp fun σ H Q ⟨ρ, s, Hs, d, s', ok, e, q⟩ => by
  obtain ⟨x1, s1, e1, g1⟩ := M.bnd_some e
  obtain ⟨y1, s2, e2, g2⟩ := M.bnd_some g1
  obtain ⟨e4, rfl⟩ := M.lift_some g2
  refine ⟨ρ, s, Hs, x1, s1, ok, e1, fun v Hs1 H1 n1 r1 => ?_⟩
  cases r1 <;> first | (cases e4; done) | skip
  rename_i u
  refine ⟨⟨u, rfl⟩, ρ, s1, Hs1, y1, _, n1.ok, e2, fun w Hs2 H2 n2 r2 => ?_⟩
  cases r2 <;> first | (cases e4; done) | skip
  rename_i u2
  cases e4
  exact ⟨u, u2, rfl, rfl, q _ Hs2 H2 (n1.trans n2) (.int _)⟩
/-! ### xs.index(y), y there -/
def atomB : PD → Bool
  | .none => true
  | .bool _ => true
  | .int _ => true
  | .str _ => true
  | _ => false
def eqA : PD → PD → Bool
  | .none, .none => true
  | .bool a, .bool b => a == b
  | .bool a, .int b => (if a then 1 else 0) == b
  | .int a, .bool b => a == (if b then 1 else 0)
  | .int a, .int b => a == b
  | .str a, .str b => a == b
  | _, _ => false
def idxD (x y : PD) : Option PD := match x with
  | .list xs => if xs.all atomB && atomB y then (xs.findIdx? fun z => eqA z y).map fun (j : Nat) => .int (j : Int) else none
  | _ => none
theorem atom_flat {K : PySem.W.Frag} {H : Hp} {v : V} {d : PD} (r : Rp K H v d) (h : atomB d = true) : flatV v = true := by
  cases r <;> first | rfl | cases h
theorem atoms_flat {K : PySem.W.Frag} {H : Hp} : ∀ {vs : List V} {ds : List PD}, RpAll K H vs ds → ds.all atomB = true → vs.all flatV = true
  | _, _, .nil, _ => rfl
  | _, _, .cons r t, h => by
    rw [List.all_cons, Bool.and_eq_true] at h ⊢
    exact ⟨atom_flat r h.1, atoms_flat t h.2⟩
theorem eqA_eqV {K : PySem.W.Frag} {H : Hp} {v w : V} {d e : PD} (r : Rp K H v d) (r' : Rp K H w e) (h : atomB d = true) (h' : atomB e = true) : eqV v w = eqA d e := by
  cases r <;> first | (cases h; done) | skip
  all_goals cases r' <;> first | (cases h'; done) | rfl
theorem d_index (ho : PE X o (tE X.K B f1)) (he : PE X e (tE X.K B f2)) (hbase : attributeBase o "index" X.env (eval o X.env) = eval o X.env := by rfl)
    (hfew : ((backTo cpos (starEach [e] X.env)).all (fun x => !x.1) && (backToKw cpos (keywordEach [] X.env)).all (fun x => x.1.isSome)
      && decide ([e].length + ([] : List Keyword).length + (if ([] : List Keyword).isEmpty then 0 else 1) < 30)) = true := by rfl)
    (hline : (apos.endLine == cpos.line) = true := by rfl) (hs : starEach [e] X.env = (false, eval e X.env) :: starEach [] X.env := by rfl) (hplain : (backTo cpos (starEach [] X.env)).any (·.1) = false := by rfl) :
    PE X (.Call (.Attribute o "index" apos) [e] [] cpos) (tE X.K B (eOp idxD f1 f2)) :=
  (pe_bm PySem.F.plainAttrs_list PySem.F.slot_list_index PySem.F.type_list_index mt_index ho (pa_cons he pa_nil hs) hbase hfew hline hs hplain).imp fun σ H Q ⟨ρ, s, Hs, d, s', ok, e, q⟩ => by
    obtain ⟨x1, s1, e1, g1⟩ := M.bnd_some e
    obtain ⟨y1, s2, e2, g2⟩ := M.bnd_some g1
    obtain ⟨e4, rfl⟩ := M.lift_some g2
    refine ⟨ρ, s, Hs, x1, s1, ok, e1, fun v Hs1 H1 n1 r1 => ?_⟩
    cases r1 <;> first | (cases e4; done) | skip
    rename_i p vs ds hp hs
    refine ⟨.inl ⟨rfl, _, SqL.of (n1.ok.hk.sub _ _ hp)⟩, ρ, s1, Hs1, y1, _, n1.ok, e2, fun w Hs2 H2 n2 r2 => ?_⟩
    unfold idxD at e4
    dsimp only at e4
    split at e4
    · rename_i hh
      obtain ⟨h1, h2⟩ := Bool.and_eq_true_iff.mp hh
      cases hj : ds.findIdx? fun z => eqA z y1 with
      | none => rw [hj] at e4; cases e4
      | some j =>
        rw [hj] at e4
        cases e4
        obtain ⟨hjl, hjt, hjn⟩ := List.findIdx?_eq_some_iff_getElem.mp hj
        have hs2 := hs.mono n2.ex
        obtain ⟨z, hz, rz⟩ := hs2.get (List.getElem?_eq_getElem hjl)
        have hat : ∀ d ∈ ds, atomB d = true := List.all_eq_true.mp h1
        refine ⟨p, vs, w, j, z, rfl, rfl, SqL.of (n2.ok.hk.sub _ _ (n2.ex _ _ hp)), atom_flat r2 h2, atoms_flat hs2 h1, hz, ?_, fun m z' hm hz' => ?_, q _ Hs2 H2 (n1.trans n2) (.int _)⟩
        · rw [eqA_eqV rz r2 (hat _ (List.getElem_mem _)) h2]
          exact hjt
        · obtain ⟨d', hd', rd'⟩ := hs2.get' hz'
          obtain ⟨hml, hme⟩ := List.getElem?_eq_some_iff.mp hd'
          rw [eqA_eqV rd' r2 (hat _ (List.mem_of_getElem? hd')) h2, ← hme]
          have := hjn m hm
          simpa using this
    · cases e4

/-! ### several values, own lists among them -/
inductive LsAll (K : PySem.W.Frag) (B : Base) (H0 Hs H : Hp) : List V → List Sl → List Addr → Prop
  | nil : LsAll K B H0 Hs H [] [] []
  | d {v : V} {vs : List V} {x : PD} {sl : List Sl} {ps : List Addr} : Rp K Hs v x → LsAll K B H0 Hs H vs sl ps → LsAll K B H0 Hs H (v :: vs) (.d x :: sl) ps
  | own {p : Addr} {ws : List V} {vs : List V} {xs : List PD} {sl : List Sl} {ps : List Addr} : H p = some (.lst ws) → Hs p = none → H0 p = none → p ∉ ps → RpAll K Hs ws xs → LsAll K B H0 Hs H vs sl ps → LsAll K B H0 Hs H (.ref p :: vs) (.own xs :: sl) (p :: ps)
def tLs (K : PySem.W.Frag) (B : Base) (m : Rho → M (List Sl)) : TA := fun σ H Q => ∃ ρ s Hs ds s', Ok K B ρ σ s Hs H ∧ m ρ s = some (ds, s') ∧ ∀ vs Hs' H' ps, Nx K B ρ σ s' Hs H Hs' H' → LsAll K B H Hs' H' vs ds ps → Q vs H'
abbrev DLs := Rho → M (List Sl)
def oNil : DLs := fun _ s => some ([], s)
def oConsD (f : DE) (r : DLs) : DLs := fun ρ => (f ρ).bnd fun x => (r ρ).bnd fun xs => M.ret (.d x :: xs)
def oConsO (f : DT) (r : DLs) : DLs := fun ρ => (f ρ).bnd fun x => (r ρ).bnd fun xs => M.ret (.own x :: xs)
theorem LsAll.back {K : PySem.W.Frag} {H0 H0' Hs H : Hp} (hb : ∀ q : Addr, H0' q = none → H0 q = none) : ∀ {vs : List V} {sl : List Sl} {ps : List Addr}, LsAll K B H0' Hs H vs sl ps → LsAll K B H0 Hs H vs sl ps
  | _, _, _, .nil => .nil
  | _, _, _, .d r t => .d r (LsAll.back hb t)
  | _, _, _, .own h1 h2 h3 h4 h5 t => .own h1 h2 (hb _ h3) h4 h5 (LsAll.back hb t)
theorem LsAll.fresh {K : PySem.W.Frag} {H0 Hs H : Hp} : ∀ {vs : List V} {sl : List Sl} {ps : List Addr}, LsAll K B H0 Hs H vs sl ps → ∀ q ∈ ps, H0 q = none
  | _, _, _, .nil, q, h => by cases h
  | _, _, _, .d r t, q, h => LsAll.fresh t q h
  | _, _, _, .own h1 h2 h3 h4 h5 t, q, h => by
    rcases List.mem_cons.mp h with rfl | h
    · exact h3
    · exact LsAll.fresh t q h
theorem ls_len {K : PySem.W.Frag} {H0 Hs H : Hp} : ∀ {vs : List V} {sl : List Sl} {ps : List Addr}, LsAll K B H0 Hs H vs sl ps → vs.length = sl.length
  | _, _, _, .nil => rfl
  | _, _, _, .d _ t => congrArg (· + 1) (ls_len t)
  | _, _, _, .own _ _ _ _ _ t => congrArg (· + 1) (ls_len t)
theorem o_nil : PA X [] (tLs X.K B oNil) := pa_nil.imp fun σ H Q ⟨ρ, s, Hs, d, s', ok, e, q⟩ => by
  cases e
  exact q [] Hs H [] (Nx.refl ok) .nil
theorem o_consD {r : DLs} (ha : PE X e (tE X.K B f1)) (hr : PA X es (tLs X.K B r)) (hs : starEach (e :: es) X.env = (false, eval e X.env) :: starEach es X.env := by rfl) : PA X (e :: es) (tLs X.K B (oConsD f1 r)) :=
  (pa_cons ha hr hs).imp fun σ H Q ⟨ρ, s, Hs, d, s', ok, e, q⟩ => by
    obtain ⟨x, s1, e1, g1⟩ := M.bnd_some e
    obtain ⟨xs, s2, e2, g2⟩ := M.bnd_some g1
    cases g2
    refine ⟨ρ, s, Hs, x, s1, ok, e1, fun v Hs1 H1 n1 q1 => ?_⟩
    exact ⟨ρ, s1, Hs1, xs, _, n1.ok, e2, fun vs Hs2 H2 ps n2 q2 => q _ Hs2 H2 ps (n1.trans n2) (.d (q1.mono n2.ex) (q2.back fun z hz => fresh_back n1 hz))⟩
theorem o_consO {m : DT} {r : DLs} (ha : PE X e (tF X.K B m)) (hr : PA X es (tLs X.K B r)) (hs : starEach (e :: es) X.env = (false, eval e X.env) :: starEach es X.env := by rfl) : PA X (e :: es) (tLs X.K B (oConsO m r)) :=
  (pa_cons ha hr hs).imp fun σ H Q ⟨ρ, s, Hs, d, s', ok, e, q⟩ => by
    obtain ⟨x, s1, e1, g1⟩ := M.bnd_some e
    obtain ⟨xs, s2, e2, g2⟩ := M.bnd_some g1
    cases g2
    refine ⟨ρ, s, Hs, x, s1, ok, e1, fun p ws Hs1 H1 n1 h0 h1 h2 hr1 => ?_⟩
    refine ⟨ρ, s1, Hs1, xs, _, n1.ok, e2, fun vs Hs2 H2 ps n2 q2 => q _ Hs2 H2 (p :: ps) (n1.trans n2) (.own (n2.kp _ _ h2 (adr_there ok.hk h0)) (n2.nw _ _ h2 h1) h0 (fun hm => ?_) (RpAll.mono n2.ex hr1) (q2.back fun z hz => fresh_back n1 hz))⟩
    rw [q2.fresh p hm] at h2
    cases h2
/-- slots of several values -/
def setSls : List Nat → List Sl → Rho → Option Rho
  | [], [], ρ => some ρ
  | i :: is, z :: zs, ρ => setSls is zs (rset ρ i (some z))
  | _, _, _ => none
theorem set_sls {H0 Hs H : Hp} {s : SS} (hdm : ∀ a, H0 a = none → B.H a = none) (had : ∀ p, H0 p = none → p ∉ adrs B.s) : ∀ {is : List Nat} {vs : List V} {sl : List Sl} {ps : List Addr} {ρ ρ' : Rho} {σ : Sg}, LsAll X.K B H0 Hs H vs sl ps → Ok X.K B ρ σ s Hs H → setSls is sl ρ = some ρ' →
    (∀ (j : Nat) (ys : List PD) (p : Addr), rget ρ j = some (.own ys) → σ[j]? = some (some (.ref p)) → p ∉ ps) → Ok X.K B ρ' ((is.zip vs).foldl (fun τ q => τ.set q.1 (some q.2)) σ) s Hs H
  | [], _, _, _, ρ, ρ', σ, h, ok, e, _ => by
    cases h <;> first | (cases e; done) | skip
    cases e
    exact ok
  | i :: is, _, _, _, ρ, ρ', σ, h, ok, e, hd => by
    cases h with
    | nil => cases e
    | d r t =>
      rename_i v vs x sl
      refine set_sls (is := is) (vs := vs) hdm had t (ok.setD r) e fun j ys p hj hv => ?_
      by_cases q : j = i
      · subst q
        have hl : j < ρ.length := by have := rget_lt hj; rw [rset_length] at this; exact this
        rw [rget_set_eq ρ j _ hl] at hj
        cases hj
      · rw [rget_set_ne ρ i j _ q] at hj
        rw [List.getElem?_set_ne (Ne.symm q)] at hv
        exact hd j ys p hj hv
    | own h1 h2 h3 h4 h5 t =>
      rename_i p ws vs xs sl ps
      have ok' := ok.set (i := i) (v := .ref p) (z := .own xs) ⟨p, ws, rfl, h1, h2, hdm p h3, had p h3, h5⟩ fun zs _ j ys hj hv => absurd List.mem_cons_self (hd j ys p hj hv)
      refine set_sls (is := is) (vs := vs) hdm had t ok' e fun j ys q' hj hv => ?_
      by_cases q : j = i
      · subst q
        have hl : j < ρ.length := by have := rget_lt hj; rw [rset_length] at this; exact this
        rw [List.getElem?_set_self (by have := ok.len; omega)] at hv
        cases hv
        exact h4
      · rw [rget_set_ne ρ i j _ q] at hj
        rw [List.getElem?_set_ne (Ne.symm q)] at hv
        exact fun hm => hd j ys q' hj hv (List.mem_cons_of_mem _ hm)
def sParS (is : List Nat) (f : DLs) : DS := fun ρ => (f ρ).bnd fun ds s => match setSls is ds ρ with
  | some ρ' => some (.nx ρ', s)
  | none => none
theorem own_old {ρ : Rho} {σ : Sg} {s : SS} {Hs H Hs1 H1 : Hp} {vs : List V} {sl : List Sl} {ps : List Addr} (ok : Ok X.K B ρ σ s Hs H) (h : LsAll X.K B H Hs1 H1 vs sl ps) (j : Nat) (ys : List PD) (p : Addr) (hj : rget ρ j = some (.own ys)) (hv : σ[j]? = some (some (.ref p))) : p ∉ ps := fun hm => by
  obtain ⟨v, w1, a, us, g1, g2, _⟩ := ok.sl j _ hj
  rw [hv] at w1
  cases w1
  cases g1
  rw [h.fresh p hm] at g2
  cases g2
theorem s_parS2 {i j : Nat} {x y : Str} {px py pt : Pos} {kt k2 pt2} {f : DLs} (hc : X.calm = true) (hN : X.N.Nodup) (ha : PA X [a, b] (tLs X.K B f)) (hij : i ≠ j) (hi : X.N[i]? = some x := by rfl) (hj : X.N[j]? = some y := by rfl)
    (hx : X.env.scope.names.lookup x = some .local := by rfl) (hy : X.env.scope.names.lookup y = some .local := by rfl)
    (hw : swappedStores [.Tuple [.Name x px, .Name y py] kt pt] (.Tuple [a, b] k2 pt2) X.env = pure (some [x, y]) := by rfl)
    (hs : swapsWithSole [.Tuple [.Name x px, .Name y py] kt pt] (.Tuple [a, b] k2 pt2) pos.line X.env = pure false := by rfl) :
    PS X (.Assign [.Tuple [.Name x px, .Name y py] kt pt] (.Tuple [a, b] k2 pt2) pos) (tS X.K B (sParS [i, j] f)) := (ps_par hc hN hi hj hij hx hy ha hw hs).imp fun D σ H ⟨ρ, s, Hs, fl, s', ok, e, q⟩ => by
  obtain ⟨ds, s1, e1, e2⟩ := M.bnd_some e
  refine ⟨ρ, s, Hs, ds, s1, ok, e1, fun vs Hs1 H1 ps n1 r1 => ?_⟩
  split at e2
  · rename_i ρ' he
    cases e2
    have ok' := set_sls ok.hk.dm0 (fun p hp => adr_there ok.hk hp) r1 n1.ok he fun j ys p hj hv => own_old ok r1 j ys p hj hv
    have hlen : vs.length = 2 := by
      have h1 : ds.length = 2 := by
        match ds, he with
        | [_, _], _ => rfl
        | [], he => cases he
        | [_], he => cases he
        | _ :: _ :: _ :: _, he => cases he
      rw [← h1]
      exact ls_len r1
    match vs, hlen with
    | [v1, v2], _ => exact ⟨_, _, rfl, q _ Hs1 H1 ok' n1.ex⟩
  · cases e2
theorem s_parS3 {i j l : Nat} {x y z : Str} {px py pz pt : Pos} {kt k2 pt2} {f : DLs} (hc : X.calm = true) (hN : X.N.Nodup) (ha : PA X [a, b, c] (tLs X.K B f)) (hij : i ≠ j) (hil : i ≠ l) (hjl : j ≠ l) (hi : X.N[i]? = some x := by rfl) (hj : X.N[j]? = some y := by rfl) (hl : X.N[l]? = some z := by rfl)
    (hx : X.env.scope.names.lookup x = some .local := by rfl) (hy : X.env.scope.names.lookup y = some .local := by rfl) (hz : X.env.scope.names.lookup z = some .local := by rfl)
    (hw : swappedStores [.Tuple [.Name x px, .Name y py, .Name z pz] kt pt] (.Tuple [a, b, c] k2 pt2) X.env = pure (some [x, y, z]) := by rfl)
    (hs : swapsWithSole [.Tuple [.Name x px, .Name y py, .Name z pz] kt pt] (.Tuple [a, b, c] k2 pt2) pos.line X.env = pure false := by rfl) :
    PS X (.Assign [.Tuple [.Name x px, .Name y py, .Name z pz] kt pt] (.Tuple [a, b, c] k2 pt2) pos) (tS X.K B (sParS [i, j, l] f)) := (ps_par3 hc hN hi hj hl hij hil hjl hx hy hz ha hw hs).imp fun D σ H ⟨ρ, s, Hs, fl, s', ok, e, q⟩ => by
  obtain ⟨ds, s1, e1, e2⟩ := M.bnd_some e
  refine ⟨ρ, s, Hs, ds, s1, ok, e1, fun vs Hs1 H1 ps n1 r1 => ?_⟩
  split at e2
  · rename_i ρ' he
    cases e2
    have ok' := set_sls ok.hk.dm0 (fun p hp => adr_there ok.hk hp) r1 n1.ok he fun j ys p hj hv => own_old ok r1 j ys p hj hv
    have hlen : vs.length = 3 := by
      have h1 : ds.length = 3 := by
        match ds, he with
        | [_, _, _], _ => rfl
        | [], he => cases he
        | [_], he => cases he
        | [_, _], he => cases he
        | _ :: _ :: _ :: _ :: _, he => cases he
      rw [← h1]
      exact ls_len r1
    match vs, hlen with
    | [v1, v2, v3], _ => exact ⟨_, _, _, rfl, q _ Hs1 H1 ok' n1.ex⟩
  · cases e2
end
end DL

/-! DL18: own lists lengthened, one item taken out and laid in another, items stored -/
namespace DL
open PySem PySem.Spec PyProof.Rows L2 Evl
section
variable {X : Cx} {B : Base} {a b c e o tg : Expr} {es : List Expr} {pos p apos cpos : Pos} {f1 f2 f3 : DE} {x : Str} {r1 : DT}
/-- found.extend(e), e a list -/
def sExt (i : Nat) (f : DE) : DS := fun ρ => (f ρ).bnd fun d s => match rget ρ i, d with
  | some (.own xs), .list ys => if xs.length + ys.length ≤ LIM then some (.nx (rset ρ i (some (.own (xs ++ ys)))), s) else none
  | _, _ => none
theorem s_ext (i : Nat) {x : Str} {p0 apos cpos pos : Pos} (h : PE X e (tE X.K B f1)) (hN : X.N[i]? = some x := by rfl) (hv : Vis X.env.scope x := by first | exact Or.inl rfl | exact Or.inr (Or.inl rfl) | exact Or.inr (Or.inr rfl)) (hd : (x == ("__debug__" : Str)) = false := by decide)
    (hcd : (x == ("__classdict__" : Str)) = false := by decide) (hbase : attributeBase (.Name x p0) "extend" X.env (eval (.Name x p0) X.env) = eval (.Name x p0) X.env := by rfl)
    (hfew : ((backTo cpos (starEach [e] X.env)).all (fun x => !x.1) && (backToKw cpos (keywordEach [] X.env)).all (fun x => x.1.isSome)
      && decide ([e].length + ([] : List Keyword).length + (if ([] : List Keyword).isEmpty then 0 else 1) < 30)) = true := by rfl)
    (hline : (apos.endLine == cpos.line) = true := by rfl) (hs : starEach [e] X.env = [(false, eval e X.env)] := by rfl) (hsw : swapsWith (.Call (.Attribute (.Name x p0) "extend" apos) [e] [] cpos) none pos.line X.env = pure false := by rfl) :
    PS X (.Expr (.Call (.Attribute (.Name x p0) "extend" apos) [e] [] cpos) pos) (tS X.K B (sExt i f1)) :=
  (ps_expr (pe_bm PySem.F.plainAttrs_list PySem.F.slot_list_extend PySem.F.type_list_extend mt_extend (pe_var hN hv hd hcd) (pa_cons h pa_nil (by rw [hs]; rfl)) hbase hfew hline (by rw [hs]; rfl) (by rfl)) hsw).imp fun D σ H ⟨ρ, s, Hs, fl, s', ok, e, q⟩ => by
    obtain ⟨d, s1, e1, e2⟩ := M.bnd_some e
    split at e2
    · rename_i xs ys h
      split at e2
      · rename_i hl
        cases e2
        obtain ⟨v, h1, p, vs, h2, h3, h4, h5, h6, h7⟩ := ok.sl i _ h
        subst h2
        refine ⟨_, h1, .inl ⟨rfl, _, SqL.of h3⟩, ⟨ρ, s, Hs, _, _, ok, e1, fun w Hs1 H1 n1 r1 => ?_⟩⟩
        obtain ⟨v', h1', p', vs', h2', h3', h4', h5', h6', h7'⟩ := n1.ok.sl i _ h
        rw [h1] at h1'
        cases h1'
        cases h2'
        cases r1 with
        | lst hp hs =>
          exact ⟨p, _, vs', _, rfl, rfl, h3', n1.ok.hk.sub _ _ hp, Nat.le_trans (by rw [h7'.length, hs.length]; exact hl) lim_line, q _ Hs1 _ (own_upd n1.ok h h1 h3' (h7'.append hs)) n1.ex⟩
      · cases e2
    · cases e2
/-- found[k] = e -/
def sPut (i : Nat) (f g : DE) : DS := fun ρ => (f ρ).bnd fun d => (g ρ).bnd fun k s => match rget ρ i, k with
  | some (.own xs), .int j => match ixN xs.length j with
    | some m => some (.nx (rset ρ i (some (.own (xs.set m d)))), s)
    | none => none
  | _, _ => none
theorem s_put (i : Nat) {x : Str} {px p2 : Pos} (he : PE X e (tE X.K B f1)) (hk : PE X b (tE X.K B f2)) (hN : X.N[i]? = some x := by rfl) (hv : Vis X.env.scope x := by first | exact Or.inl rfl | exact Or.inr (Or.inl rfl) | exact Or.inr (Or.inr rfl)) (hd : (x == ("__debug__" : Str)) = false := by decide)
    (hcd : (x == ("__classdict__" : Str)) = false := by decide) (hs : swapsWithSole [.Subscript (.Name x px) b p2] e pos.line X.env = pure false := by rfl) (hw : swappedStores [.Subscript (.Name x px) b p2] e X.env = pure none := by rfl)
    (h1 : (assignEach [.Subscript (.Name x px) b p2] X.env).map (·.2) = [assign (.Subscript (.Name x px) b p2) X.env] := by rfl)
    (h2 : ∀ v, assign (.Subscript (.Name x px) b p2) X.env v = (do
      let ov ← holding [v] (eval (.Name x px) X.env)
      let iv ← holding [v, ov] (eval b X.env)
      standAt p2
      holding [v, ov, iv] (setItem ov iv v)
      release [v, ov, iv] []) := by intro _; rfl) :
    PS X (.Assign [.Subscript (.Name x px) b p2] e pos) (tS X.K B (sPut i f1 f2)) :=
  (ps_asg he (pg_sub (pe_var hN hv hd hcd) hk set_list h2) hs hw h1).imp fun D σ H ⟨ρ, s, Hs, fl, s', ok, e, q⟩ => by
    obtain ⟨d, s1, e1, g1⟩ := M.bnd_some e
    obtain ⟨k, s2, e2, g2⟩ := M.bnd_some g1
    refine ⟨ρ, s, Hs, d, s1, ok, e1, fun v Hs1 H1 n1 r1 => ?_⟩
    split at g2
    · rename_i xs j h
      split at g2
      · rename_i m hm
        cases g2
        obtain ⟨u, h1, p, vs, h2, h3, h4, h5, h6, h7⟩ := n1.ok.sl i _ h
        subst h2
        refine ⟨_, h1, ρ, s1, Hs1, _, _, n1.ok, e2, fun w Hs2 H2 n2 r2 => ?_⟩
        cases r2
        obtain ⟨v', h1', p', vs', h2', h3', h4', h5', h6', h7'⟩ := n2.ok.sl i _ h
        rw [h1] at h1'
        cases h1'
        cases h2'
        refine ⟨p, vs', j, m, rfl, rfl, h3', by rw [h7'.length]; exact hm, ?_⟩
        exact q _ Hs2 _ (own_upd n2.ok h h1 h3' (RpAll.set (r1.mono n2.ex) m h7')) (n1.ex.trans n2.ex)
      · cases g2
    · cases g2
/-- found.append(left.pop(k)) -/
def sApPop (i l : Nat) (f : DE) : DS := fun ρ => (f ρ).bnd fun k s => match rget ρ l, k with
  | some (.own ys), .int j => match ixN ys.length j with
    | some m => match ys[m]?, rget (rset ρ l (some (.own (ys.eraseIdx m)))) i with
      | some y, some (.own xs) => if xs.length < LIM ∧ i ≠ l ∧ ys.length ≤ LIM then some (.nx (rset (rset ρ l (some (.own (ys.eraseIdx m)))) i (some (.own (xs ++ [y])))), s) else none
      | _, _ => none
    | none => none
  | _, _ => none
theorem RpAll.erase {K : PySem.W.Frag} {H : Hp} : ∀ {vs : List V} {ds : List PD} (n : Nat), RpAll K H vs ds → RpAll K H (vs.eraseIdx n) (ds.eraseIdx n)
  | _, _, _, .nil => .nil
  | _, _, 0, .cons _ t => t
  | _, _, n + 1, .cons r t => .cons r (RpAll.erase n t)
theorem s_apPop (i l : Nat) {x y : Str} {p0 p1 apos apos2 cpos cpos2 pos : Pos} (h : PE X e (tE X.K B f1)) (hN : X.N[i]? = some x := by rfl) (hM : X.N[l]? = some y := by rfl) (hv : Vis X.env.scope x := by first | exact Or.inl rfl | exact Or.inr (Or.inl rfl) | exact Or.inr (Or.inr rfl)) (hv2 : Vis X.env.scope y := by first | exact Or.inl rfl | exact Or.inr (Or.inl rfl) | exact Or.inr (Or.inr rfl)) (hd : (x == ("__debug__" : Str)) = false := by decide)
    (hcd : (x == ("__classdict__" : Str)) = false := by decide) (hd2 : (y == ("__debug__" : Str)) = false := by decide) (hcd2 : (y == ("__classdict__" : Str)) = false := by decide)
    (hbase : attributeBase (.Name x p0) "append" X.env (eval (.Name x p0) X.env) = eval (.Name x p0) X.env := by rfl) (hbase2 : attributeBase (.Name y p1) "pop" X.env (eval (.Name y p1) X.env) = eval (.Name y p1) X.env := by rfl)
    (hfew : ((backTo cpos (starEach [.Call (.Attribute (.Name y p1) "pop" apos2) [e] [] cpos2] X.env)).all (fun x => !x.1) && (backToKw cpos (keywordEach [] X.env)).all (fun x => x.1.isSome)
      && decide (([.Call (.Attribute (.Name y p1) "pop" apos2) [e] [] cpos2] : List Expr).length + ([] : List Keyword).length + (if ([] : List Keyword).isEmpty then 0 else 1) < 30)) = true := by rfl)
    (hfew2 : ((backTo cpos2 (starEach [e] X.env)).all (fun x => !x.1) && (backToKw cpos2 (keywordEach [] X.env)).all (fun x => x.1.isSome)
      && decide ([e].length + ([] : List Keyword).length + (if ([] : List Keyword).isEmpty then 0 else 1) < 30)) = true := by rfl)
    (hline : (apos.endLine == cpos.line) = true := by rfl) (hline2 : (apos2.endLine == cpos2.line) = true := by rfl) (hs2 : starEach [e] X.env = (false, eval e X.env) :: starEach [] X.env := by rfl)
    (hs : starEach [.Call (.Attribute (.Name y p1) "pop" apos2) [e] [] cpos2] X.env = (false, eval (.Call (.Attribute (.Name y p1) "pop" apos2) [e] [] cpos2) X.env) :: starEach [] X.env := by rfl)
    (hsw : swapsWith (.Call (.Attribute (.Name x p0) "append" apos) [.Call (.Attribute (.Name y p1) "pop" apos2) [e] [] cpos2] [] cpos) none pos.line X.env = pure false := by rfl) :
    PS X (.Expr (.Call (.Attribute (.Name x p0) "append" apos) [.Call (.Attribute (.Name y p1) "pop" apos2) [e] [] cpos2] [] cpos) pos) (tS X.K B (sApPop i l f1)) :=
  (ps_expr (pe_bm PySem.F.plainAttrs_list PySem.F.slot_list_append PySem.F.type_list_append mt_append (pe_var hN hv hd hcd)
    (pa_cons (pe_bm PySem.F.plainAttrs_list PySem.F.slot_list_pop PySem.F.type_list_pop mt_popAt (pe_var hM hv2 hd2 hcd2) (pa_cons h pa_nil hs2) hbase2 hfew2 hline2 hs2 (by rfl)) pa_nil hs) hbase hfew hline hs (by rfl)) hsw).imp fun D σ H ⟨ρ, s, Hs, fl, s', ok, e, q⟩ => by
    obtain ⟨k, s1, e1, e2⟩ := M.bnd_some e
    split at e2
    · rename_i ys j hl
      split at e2
      · rename_i m hm
        split at e2
        · rename_i y xs hy hx
          split at e2
          · rename_i hc
            cases e2
            have hx0 : rget ρ i = some (.own xs) := by rw [rget_set_ne ρ l i _ hc.2.1] at hx; exact hx
            obtain ⟨v, h1, p, vs, h2, h3, h4, h5, h6, h7⟩ := ok.sl i _ hx0
            subst h2
            obtain ⟨v2, k1, p2, vs2, k2, k3, k4, k5, k6, k7⟩ := ok.sl l _ hl
            subst k2
            refine ⟨_, h1, .inl ⟨rfl, _, SqL.of h3⟩, _, k1, .inl ⟨rfl, _, SqL.of k3⟩, ρ, s, Hs, _, _, ok, e1, fun w Hs1 H1 n1 r1 => ?_⟩
            cases r1
            obtain ⟨v2', k1', p2', vs2', k2', k3', k4', k5', k6', k7'⟩ := n1.ok.sl l _ hl
            rw [k1] at k1'
            cases k1'
            cases k2'
            obtain ⟨yv, hyv, ryv⟩ := k7'.get hy
            have hm' : ixN vs2'.length j = some m := by rw [k7'.length]; exact hm
            obtain ⟨z1, z2, z3, z4⟩ := ixN_seq hm'
            have hlm : vs2'.length ≤ 1000000 := by rw [k7'.length]; exact hc.2.2
            have e63 : (2 : Int) ^ 63 = 9223372036854775808 := by decide
            refine ⟨p2, vs2', j, m, yv, rfl, rfl, k3', by omega, by omega, z1, hyv, ?_⟩
            have ok2 := own_upd n1.ok hl k1 k3' (RpAll.erase m k7')
            obtain ⟨v', h1', p', vs', h2', h3', h4', h5', h6', h7'⟩ := ok2.sl i _ hx
            rw [h1] at h1'
            cases h1'
            cases h2'
            refine ⟨p, vs', yv, rfl, rfl, h3', Nat.lt_of_lt_of_le (by rw [h7'.length]; exact hc.1) lim_line, ?_⟩
            exact q _ Hs1 _ (own_upd ok2 hx h1 h3' (h7'.append (.cons ryv .nil))) n1.ex
          · cases e2
        · cases e2
      · cases e2
    · cases e2
end
end DL

/-! DL19: loops by what holds behind each prefix -/
namespace DL
open PySem
theorem loop_inv {g : DG} {f : DS} (s : SS) (I : List PD → Rho → Prop) (all : List PD) : ∀ (xs done : List PD) (ρ : Rho), done ++ xs = all → I done ρ → (∀ (done : List PD) (x : PD) (rest : List PD) (ρ : Rho), done ++ x :: rest = all → I done ρ → ∃ ρ1 ρ2, g x ρ = some ρ1 ∧ f ρ1 s = some (.nx ρ2, s) ∧ I (done ++ [x]) ρ2) → ∃ ρ', loopD g f xs ρ s = some (.nx ρ', s) ∧ I all ρ'
  | [], done, ρ, ha, h, _ => ⟨ρ, rfl, by rw [← ha, List.append_nil]; exact h⟩
  | x :: xs, done, ρ, ha, h, hx => by
    obtain ⟨ρ1, ρ2, h1, h2, h3⟩ := hx done x xs ρ ha h
    obtain ⟨ρ', h4, h5⟩ := loop_inv s I all xs (done ++ [x]) ρ2 (by rw [List.append_assoc]; exact ha) h3 hx
    refine ⟨ρ', ?_, h5⟩
    unfold loopD
    rw [h1]
    simp only [h2]
    exact h4
theorem range_split {n : Nat} {done rest : List PD} {x : PD} (h : done ++ x :: rest = rangeL 0 n) : x = .int (done.length : Int) ∧ done = rangeL 0 done.length ∧ done.length < n := by
  have hl : done.length < n := by
    have := congrArg List.length h
    rw [range_len, List.length_append, List.length_cons] at this
    omega
  have hx : (rangeL 0 n)[done.length]? = some x := by rw [← h]; simp
  have ht : (rangeL 0 n).take done.length = done := by rw [← h]; simp
  unfold rangeL at hx ht
  rw [List.getElem?_map, List.getElem?_range hl] at hx
  refine ⟨?_, ?_, hl⟩
  · have := Option.some.inj hx
    rw [← this]
    show PyData.int ((0 : Int) + (done.length : Int)) = _
    rw [Int.zero_add]
  · have e : (rangeL 0 n).take done.length = rangeL 0 done.length := by
      unfold rangeL
      rw [← List.map_take, List.take_range, Nat.min_eq_left (by omega)]
    unfold rangeL at e
    rw [ht] at e
    exact e
theorem compL_filter {g : DG} {t : DB} {f : DE} {ρ : Rho} {s : SS} (b : PD → Bool) (h : PD → PD) : ∀ (xs : List PD), (∀ x ∈ xs, ∃ ρ1, g x ρ = some ρ1 ∧ t ρ1 s = some (b x, s) ∧ f ρ1 s = some (h x, s)) → compL g t f ρ xs s = some ((xs.filter b).map h, s)
  | [], _ => rfl
  | x :: xs, hx => by
    obtain ⟨ρ1, h1, h2, h3⟩ := hx x List.mem_cons_self
    have ih := compL_filter b h xs fun y hy => hx y (List.mem_cons_of_mem _ hy)
    unfold compL
    rw [h1]
    cases hb : b x with
    | true =>
      rw [hb] at h2
      rw [List.filter_cons_of_pos hb]
      simp only [h2, h3, ih, sSeq, sNil, sFail, sAsg, sRet, sIf, sDrop, sPar, sPar3, sAsgG, sFld, sBrk, sCnt, gTupD, gConsD, gNilD, gVar, eCallB, lCons, lNil, aCons, aConsP, aNil, pVar, cF, cK, eVar, eC, eOp, bOp, eIf, eTup, eLst, eSlice, oSome, oNone, eRev, eNeg, qOf, seqOf, eUn, eAnd, eOr, eNot, bAnd, bOr, bNot, bOf, bTru, bTruQ, qVar, eItemQ, eIsi, eIsiT, isiB, anyIsi, tyName, isNonD, notNonD, isNonB, eJoin, eGet2, eFL, iOf, strOf, lstOf, tupOf, bYes, sOwn, fLst, sFrz, frz, sApp, sPop, M.bnd, M.ret, M.lift, M.fail, rget, rset, wipeR, addD_int, subI_int, modD_int, ltD_int, leD_int, gtD_int, geD_int, eqD_int, neD_int, eqD_bool, neD_bool, truD_bool, truD_int, intD_int, lenQ, eCallB, List.map, List.length_cons, List.length_nil, List.cons_append, List.nil_append, List.replicate, Nat.reduceAdd, Nat.reduceSub, if_true, if_false, Bool.false_eq_true, reduceIte, Bool.not_true, Bool.not_false, Option.map_some, Option.map_none, reduceCtorEq, decide_true, decide_false]
    | false =>
      rw [hb] at h2
      rw [List.filter_cons_of_neg (by rw [hb]; exact Bool.false_ne_true)]
      simp only [h2, ih, sSeq, sNil, sFail, sAsg, sRet, sIf, sDrop, sPar, sPar3, sAsgG, sFld, sBrk, sCnt, gTupD, gConsD, gNilD, gVar, eCallB, lCons, lNil, aCons, aConsP, aNil, pVar, cF, cK, eVar, eC, eOp, bOp, eIf, eTup, eLst, eSlice, oSome, oNone, eRev, eNeg, qOf, seqOf, eUn, eAnd, eOr, eNot, bAnd, bOr, bNot, bOf, bTru, bTruQ, qVar, eItemQ, eIsi, eIsiT, isiB, anyIsi, tyName, isNonD, notNonD, isNonB, eJoin, eGet2, eFL, iOf, strOf, lstOf, tupOf, bYes, sOwn, fLst, sFrz, frz, sApp, sPop, M.bnd, M.ret, M.lift, M.fail, rget, rset, wipeR, addD_int, subI_int, modD_int, ltD_int, leD_int, gtD_int, geD_int, eqD_int, neD_int, eqD_bool, neD_bool, truD_bool, truD_int, intD_int, lenQ, eCallB, List.map, List.length_cons, List.length_nil, List.cons_append, List.nil_append, List.replicate, Nat.reduceAdd, Nat.reduceSub, if_true, if_false, Bool.false_eq_true, reduceIte, Bool.not_true, Bool.not_false, Option.map_some, Option.map_none, reduceCtorEq, decide_true, decide_false]
theorem fComp_filter {vs : List Nat} {m : DT} {g : DG} {t : DB} {f : DE} {ρ : Rho} {s s1 : SS} {xs : List PD} (b : PD → Bool) (h : PD → PD) (hm : m ρ s = some (xs, s1)) (hl : xs.length ≤ LIM) (hx : ∀ x ∈ xs, ∃ ρ1, g x (wipeR ρ vs) = some ρ1 ∧ t ρ1 s1 = some (b x, s1) ∧ f ρ1 s1 = some (h x, s1)) :
    fComp vs m g t f ρ s = some ((xs.filter b).map h, s1) := by
  have := compL_filter b h xs hx
  simp only [fComp, hm, hl, this, sSeq, sNil, sFail, sAsg, sRet, sIf, sDrop, sPar, sPar3, sAsgG, sFld, sBrk, sCnt, gTupD, gConsD, gNilD, gVar, eCallB, lCons, lNil, aCons, aConsP, aNil, pVar, cF, cK, eVar, eC, eOp, bOp, eIf, eTup, eLst, eSlice, oSome, oNone, eRev, eNeg, qOf, seqOf, eUn, eAnd, eOr, eNot, bAnd, bOr, bNot, bOf, bTru, bTruQ, qVar, eItemQ, eIsi, eIsiT, isiB, anyIsi, tyName, isNonD, notNonD, isNonB, eJoin, eGet2, eFL, iOf, strOf, lstOf, tupOf, bYes, sOwn, fLst, sFrz, frz, sApp, sPop, M.bnd, M.ret, M.lift, M.fail, rget, rset, wipeR, addD_int, subI_int, modD_int, ltD_int, leD_int, gtD_int, geD_int, eqD_int, neD_int, eqD_bool, neD_bool, truD_bool, truD_int, intD_int, lenQ, eCallB, List.map, List.length_cons, List.length_nil, List.cons_append, List.nil_append, List.replicate, Nat.reduceAdd, Nat.reduceSub, if_true, if_false, Bool.false_eq_true, reduceIte, Bool.not_true, Bool.not_false, Option.map_some, Option.map_none, reduceCtorEq, decide_true, decide_false]
theorem eq_nil_list (xs : List PD) (h : flatP (.list xs) = true) : neD (.list xs) (.list []) = some (.bool (!xs.isEmpty)) ∧ eqD (.list xs) (.list []) = some (.bool xs.isEmpty) := by
  have h2 : flatP (.list []) = true := by decide
  have e : PyData.eqv (.list xs) (.list []) = xs.isEmpty := by cases xs <;> rfl
  unfold neD eqD
  rw [h, h2, e]
  exact ⟨rfl, rfl⟩
theorem mulD_str {w : List Nat} {n : Nat} (h : w.length * n ≤ 1000000) (hn : n < 1000000) : mulD (.str (S w)) (.int (n : Int)) = some (.str (S (List.replicate n w).flatten)) := by
  have hc : (S w).length * (n : Int).toNat ≤ LIM ∧ (n : Int).natAbs < 1000000000 := ⟨by rw [Int.toNat_natCast]; exact h, by omega⟩
  show (if (S w).length * (n : Int).toNat ≤ LIM ∧ (n : Int).natAbs < 1000000000 then some (PyData.str (repS (S w) (n : Int))) else none) = _
  rw [if_pos hc]
  have : repS (S w) (n : Int) = S (List.replicate n w).flatten := by
    unfold repS
    rw [Int.toNat_natCast]
  rw [this]
theorem range1_ev {f : DE} {ρ : Rho} {s s1 : SS} {n : Nat} (hf : f ρ s = some (.int (n : Int), s1)) (hn : n ≤ 1000000) : iRange1 f ρ s = some (rangeL 0 n, s1) := by
  have hb : (-RLIM ≤ (n : Int) ∧ (n : Int) ≤ RLIM) = True := eq_true (by unfold RLIM; omega)
  unfold iRange1 M.bnd
  rw [hf]
  simp only [hb, if_true, Int.toNat_natCast]
theorem asg_ev {i : Nat} {f : DE} {ρ : Rho} {s s1 : SS} {d : PD} (h : f ρ s = some (d, s1)) : sAsg i f ρ s = some (.nx (rset ρ i (some (.d d))), s1) := by
  unfold sAsg M.bnd
  rw [h]
  rfl
theorem fl_ev {m : DT} {ρ : Rho} {s s1 : SS} {xs : List PD} (h : m ρ s = some (xs, s1)) : eFL m ρ s = some (.list xs, s1) := by
  unfold eFL M.bnd
  rw [h]
  rfl
end DL

namespace G64
open PySem PySem.Spec PyProof.Rows L2 DL
def top (i : Nat) : Stmt := PySem.Challenge.pw_evenlylaid_k64_whole_all_bars_of_a_ring.main.body.getD i (.Pass ⟨0, 0, 0, 0⟩)
abbrev RECN : Nat := 7
/-- what the top has left -/
structure Tops (w : World) (K : PySem.W.Frag) (mg : Str → Option Value) : Prop where
  n_abs : mg "abs" = none
  n_all : mg "all" = none
  n_bool : mg "bool" = none
  n_int : mg "int" = none
  n_isinstance : mg "isinstance" = none
  n_len : mg "len" = none
  n_list : mg "list" = none
  n_max : mg "max" = none
  n_min : mg "min" = none
  n_range : mg "range" = none
  n_str : mg "str" = none
  n_tuple : mg "tuple" = none
  f__law_draw : ∃ f fd, mg "_law_draw" = some (.ref f) ∧ Fun K "_law_draw" "_law_draw" (top 29) f fd ∧ Binds K fd ["stream", "many"] []
  f__law_v_spread : ∃ f fd, mg "_law_v_spread" = some (.ref f) ∧ Fun K "_law_v_spread" "_law_v_spread" (top 33) f fd ∧ Binds K fd ["p", "q", "r"] []
  f__law_v_even : ∃ f fd, mg "_law_v_even" = some (.ref f) ∧ Fun K "_law_v_even" "_law_v_even" (top 35) f fd ∧ Binds K fd ["stream", "most"] []
  f__law_pick : ∃ f fd, mg "_law_pick" = some (.ref f) ∧ Fun K "_law_pick" "_law_pick" (top 30) f fd ∧ Binds K fd ["stream", "things"] []
  f__law_v_drawn : ∃ f fd, mg "_law_v_drawn" = some (.ref f) ∧ Fun K "_law_v_drawn" "_law_v_drawn" (top 34) f fd ∧ Binds K fd ["stream", "many"] []
  f__law_v_bent : ∃ f fd, mg "_law_v_bent" = some (.ref f) ∧ Fun K "_law_v_bent" "_law_v_bent" (top 36) f fd ∧ Binds K fd ["stream", "ring"] []
  f__law_v_ring : ∃ f fd, mg "_law_v_ring" = some (.ref f) ∧ Fun K "_law_v_ring" "_law_v_ring" (top 37) f fd ∧ Binds K fd ["stream", "most"] []
  f_told : ∃ f fd, mg "told" = some (.ref f) ∧ Fun K "told" "told" (top 22) f fd ∧ Binds K fd ["bar"] []
  f_first_bar : ∃ f fd, mg "first_bar" = some (.ref f) ∧ Fun K "first_bar" "first_bar" (top 19) f fd ∧ Binds K fd ["lots"] []
  f_heads_of : ∃ f fd, mg "heads_of" = some (.ref f) ∧ Fun K "heads_of" "heads_of" (top 18) f fd ∧ Binds K fd ["row"] []
  f_ring_lots : ∃ f fd, mg "ring_lots" = some (.ref f) ∧ Fun K "ring_lots" "ring_lots" (top 20) f fd ∧ Binds K fd ["ring"] []
  f_bar_by : ∃ f fd, mg "bar_by" = some (.ref f) ∧ Fun K "bar_by" "bar_by" (top 21) f fd ∧ Binds K fd ["ring"] []
  f_is_of : ∃ f fd, mg "is_of" = some (.ref f) ∧ Fun K "is_of" "is_of" (top 7) f fd ∧ Binds K fd ["thing", "signs"] []
  f_is_row_words : ∃ f fd, mg "is_row_words" = some (.ref f) ∧ Fun K "is_row" "is_row" (top 13) f fd ∧ Binds K fd ["thing"] []
  f_is_word : ∃ f fd, mg "is_word" = some (.ref f) ∧ Fun K "is_word" "is_word" (top 15) f fd ∧ Binds K fd ["thing"] []
  f_need_ring : ∃ f fd, mg "need_ring" = some (.ref f) ∧ Fun K "need_ring" "need_ring" (top 16) f fd ∧ Binds K fd ["ring"] []
  f_even_or_bar : ∃ f fd, mg "even_or_bar" = some (.ref f) ∧ Fun K "even_or_bar" "even_or_bar" (top 23) f fd ∧ Binds K fd ["ring"] []
  f__law_v_turns : ∃ f fd, mg "_law_v_turns" = some (.ref f) ∧ Fun K "_law_v_turns" "_law_v_turns" (top 31) f fd ∧ Binds K fd ["ring"] []
  f_bar_core : ∃ f fd, mg "bar_core" = some (.ref f) ∧ Fun K "bar_core" "bar_core" (top 26) f fd ∧ Binds K fd ["ring"] []
  f__law_v_count : ∃ f fd, mg "_law_v_count" = some (.ref f) ∧ Fun K "_law_v_count" "_law_v_count" (top 32) f fd ∧ Binds K fd ["row"] []
  f_is_list : ∃ f fd, mg "is_list" = some (.ref f) ∧ Fun K "is_list" "is_list" (top 1) f fd ∧ Binds K fd ["thing"] []
  f_is_row_basics : ∃ f fd, mg "is_row_basics" = some (.ref f) ∧ Fun K "is_row" "is_row" (top 5) f fd ∧ Binds K fd ["thing", "many"] []
  f_is_whole : ∃ f fd, mg "is_whole" = some (.ref f) ∧ Fun K "is_whole" "is_whole" (top 2) f fd ∧ Binds K fd ["thing"] []
  f_is_number : ∃ f fd, mg "is_number" = some (.ref f) ∧ Fun K "is_number" "is_number" (top 3) f fd ∧ Binds K fd ["thing"] []
  f_is_below : ∃ f fd, mg "is_below" = some (.ref f) ∧ Fun K "is_below" "is_below" (top 4) f fd ∧ Binds K fd ["thing", "top"] []
  f_is_ring_bar : ∃ f fd, mg "is_ring_bar" = some (.ref f) ∧ Fun K "is_ring_bar" "is_ring_bar" (top 24) f fd ∧ Binds K fd ["ring", "thing"] []
  f_is_bar : ∃ f fd, mg "is_bar" = some (.ref f) ∧ Fun K "is_bar" "is_bar" (top 25) f fd ∧ Binds K fd ["ring", "thing"] []
  f_law : ∃ f fd, mg "law" = some (.ref f) ∧ Fun K "law" "law" (top 38) f fd ∧ Binds K fd ["script"] []
  f__law_stream : ∃ f fd, mg "_law_stream" = some (.ref f) ∧ Fun K "_law_stream" "_law_stream" (top 28) f fd ∧ Binds K fd ["script"] []

section
variable {P : Program} {w : World} {K : PySem.W.Frag} {mg : Str → Option Value} {base : Heap}
abbrev N__law_draw : List Str := ["stream", "many", "cell", "digit", "mixed"]
theorem sc__law_draw : FnScope N__law_draw ["stream", "many"] (defScope (top 29)) := ⟨rfl, rfl, rfl, by decide +kernel, rfl, by decide +kernel, by decide +kernel⟩
theorem D__law_draw (T : Tops w K mg) : FnD P w K mg base "_law_draw" (top 29) ["stream", "many"] 1 phi_draw := by
  obtain ⟨fa, fd, hm, Fu, hb⟩ := T.f__law_draw
  exact fn_D (k := 0) (F := F_draw) Fu sc__law_draw hm hb (fun cdv A outer s H E B hr => by
    have hu : (A.deeper (envOfC "_law_draw" (defScope (top 29)) s.heap.objs.size fa cdv)).units + 64 < cLine := by have := hr.un; omega
    have S := sc__law_draw
    exact (ss_cons (s_fld 0 2 (d_op od_add (d_fld 0 2) d_int)) (ss_cons (s_while FUEL PassesOwn.never (L2.PW.pt (w_and (t_cmp (od_eq hu) (d_fld 0 1) d_int (by rfl)) (w_and1 (t_more 0 hu)))) (ss_cons (s_asg 2 (d_callB cd_abs (l_cons (d_pop0 0) l_nil) T.n_abs (by decide +kernel)) S.nd) (ss_cons (s_fld 0 3 (d_op od_mod (d_callTy cd_int (l_cons (d_op od_add (d_op od_add (d_op od_mul (d_fld 0 3) d_int) (d_var 2)) d_int) l_nil) T.n_int (by decide +kernel)) d_int)) (ss_one (s_fld 0 1 (d_ifExp (t_cmp od_ge (d_var 2) (d_op od_pow d_int d_int) (by rfl)) (d_var 2) d_int)))))) (ss_cons (s_if (t_cmp od_gt (d_fld 0 1) d_int (by rfl)) (ss_cons (s_asg 3 (d_op od_mod (d_callTy cd_int (l_cons (d_fld 0 1) l_nil) T.n_int (by decide +kernel)) (d_var 1)) S.nd) (ss_cons (s_fld 0 1 (d_op od_fdiv (d_fld 0 1) (d_var 1))) (ss_one (s_ret (d_var 3))))) ss_nil) (ss_cons (s_asg 4 (d_op od_mod (d_callTy cd_int (l_cons (d_op od_pow (d_op od_add (d_op od_add (d_fld 0 3) (d_op od_mul d_int (d_fld 0 2))) d_int) d_int) l_nil) T.n_int (by decide +kernel)) d_int) S.nd) (ss_one (s_ret (d_op od_mod (d_op od_mod (d_callTy cd_int (l_cons (d_op od_pow (d_op od_add (d_op od_add (d_op od_mul (d_var 4) d_int) (d_op od_mul d_int (d_fld 0 2))) d_int) d_int) l_nil) T.n_int (by decide +kernel)) d_int) (d_var 1))))))))) (fun ds s d s' _ h => h)
abbrev N__law_v_spread : List Str := ["p", "q", "r", "many", "found", "reached", "at", "later", "k", "hits"]
theorem sc__law_v_spread : FnScope N__law_v_spread ["p", "q", "r"] (defScope (top 33)) := ⟨rfl, rfl, rfl, by decide +kernel, rfl, by decide +kernel, by decide +kernel⟩
def F__law_v_spread : DS := (sSeq (sAsgG (gTupD 3 (gConsD (gVar 3) (gConsD (gVar 4) (gConsD (gVar 5) gNilD)))) (eTup (lCons (eOp addD (eVar 0) (eVar 1)) (lCons (eC (.str (S []))) (lCons (eVar 2) lNil))))) (sSeq (sFor (iRange1 (eVar 3)) (gVar 6) (sSeq (sAsg 7 (eOp addD (eVar 5) (eVar 1))) (sSeq (sAsg 9 (eFL (fComp [8] (iRange1 (eOp addD (eVar 3) (eC (.int 2)))) (gVar 8) (bOf (eChain ltD leD (eVar 5) (eOp mulD (eVar 8) (eVar 3)) (eVar 7))) (eVar 8)))) (sAsgG (gTupD 2 (gConsD (gVar 4) (gConsD (gVar 5) gNilD))) (eTup (lCons (eOp addD (eVar 4) (eIf (bOp neD (eVar 9) (eLst lNil)) (eC (.str (S [98]))) (eC (.str (S [97]))))) (lCons (eVar 7) lNil))))))) (sRet (eVar 4))))
def phi__law_v_spread : Fn := runD N__law_v_spread.length F__law_v_spread
theorem D__law_v_spread (T : Tops w K mg) : FnD P w K mg base "_law_v_spread" (top 33) ["p", "q", "r"] 1 phi__law_v_spread := by
  obtain ⟨fa, fd, hm, Fu, hb⟩ := T.f__law_v_spread
  exact fn_D (k := 0) (F := F__law_v_spread) Fu sc__law_v_spread hm hb (fun cdv A outer s H E B hr => by
    have hu : (A.deeper (envOfC "_law_v_spread" (defScope (top 33)) s.heap.objs.size fa cdv)).units + 64 < cLine := by have := hr.un; omega
    have S := sc__law_v_spread
    exact (ss_cons (s_asgG (d_tup (l_cons (d_op od_add (d_var 0) (d_var 1)) (l_cons (d_strS (by decide +kernel)) (l_cons (d_var 2) l_nil)))) (g_tup rfl (gs_cons (g_var 3 S.nd) (gs_cons (g_var 4 S.nd) (gs_cons (g_var 5 S.nd) gs_nil))))) (ss_cons (s_for PassesOwn.never rfl (i_range1 (d_var 3) T.n_range) (g_var 6 S.nd) (ss_cons (s_asg 7 (d_op od_add (d_var 5) (d_var 1)) S.nd) (ss_cons (s_setLc 9 [("k", 8)] rfl S.nd (i_range1 (d_op od_add (d_var 3) d_int) T.n_range) (blkOk_by (by show blkC N__law_v_spread (defScope (top 33)) _ _ = true; decide +kernel)) (by decide) (fun _ _ _ _ _ => (g_var 8 S.nd)) (fun _ _ _ _ _ => (ts_one (t_chain od_lt od_le (d_var 5) (d_op od_mul (d_var 8) (d_var 3)) (d_var 7) (by with_unfolding_all rfl)))) (fun _ _ _ _ _ => (d_var 8))) (ss_one (s_asgG (d_tup (l_cons (d_op od_add (d_var 4) (d_ifExp (t_cmp (od_ne hu) (d_var 9) (d_lst l_nil) (by rfl)) (d_strS (by decide +kernel)) (d_strS (by decide +kernel)))) (l_cons (d_var 7) l_nil))) (g_tup rfl (gs_cons (g_var 4 S.nd) (gs_cons (g_var 5 S.nd) gs_nil)))))))) (ss_one (s_ret (d_var 4)))))) (fun ds s d s' _ h => h)
abbrev N__law_v_even : List Str := ["stream", "most", "many", "q", "ring"]
theorem sc__law_v_even : FnScope N__law_v_even ["stream", "most"] (defScope (top 35)) := ⟨rfl, rfl, rfl, by decide +kernel, rfl, by decide +kernel, by decide +kernel⟩
def F__law_v_even : DS := (sSeq (sAsg 2 (eOp addD (eC (.int 1)) (cF (phi_draw) 2 (aConsP 0 (aCons (eVar 1) aNil))))) (sSeq (sAsg 3 (cF (phi_draw) 2 (aConsP 0 (aCons (eOp addD (eVar 2) (eC (.int 1))) aNil)))) (sSeq (sAsg 4 (cF (phi__law_v_spread) 3 (aCons (eOp subI (eVar 2) (eVar 3)) (aCons (eVar 3) (aCons (cF (phi_draw) 2 (aConsP 0 (aCons (eVar 2) aNil))) aNil))))) (sRet (eIf (bOp eqD (cF (phi_draw) 2 (aConsP 0 (aCons (eC (.int 6)) aNil))) (eC (.int 0))) (eOp mulD (eVar 4) (eCallB intD (lCons (eOp fdivD (eVar 1) (eVar 2)) lNil))) (eVar 4))))))
def phi__law_v_even : Fn := runD N__law_v_even.length F__law_v_even
theorem D__law_v_even (T : Tops w K mg) : FnD P w K mg base "_law_v_even" (top 35) ["stream", "most"] 2 phi__law_v_even := by
  obtain ⟨fa, fd, hm, Fu, hb⟩ := T.f__law_v_even
  exact fn_D (k := 1) (F := F__law_v_even) Fu sc__law_v_even hm hb (fun cdv A outer s H E B hr => by
    have hu : (A.deeper (envOfC "_law_v_even" (defScope (top 35)) s.heap.objs.size fa cdv)).units + 64 < cLine := by have := hr.un; omega
    have S := sc__law_v_even
    exact (ss_cons (s_asg 2 (d_op od_add d_int (d_call (D__law_draw (P := P) (base := base) T) hr (by decide) (by rfl) (a_consP 0 (a_cons (d_var 1) a_nil)))) S.nd) (ss_cons (s_asg 3 (d_call (D__law_draw (P := P) (base := base) T) hr (by decide) (by rfl) (a_consP 0 (a_cons (d_op od_add (d_var 2) d_int) a_nil))) S.nd) (ss_cons (s_asg 4 (d_call (D__law_v_spread (P := P) (base := base) T) hr (by decide) (by rfl) (a_cons (d_op od_sub (d_var 2) (d_var 3)) (a_cons (d_var 3) (a_cons (d_call (D__law_draw (P := P) (base := base) T) hr (by decide) (by rfl) (a_consP 0 (a_cons (d_var 2) a_nil))) a_nil)))) S.nd) (ss_one (s_ret (d_ifExp (t_cmp (od_eq hu) (d_call (D__law_draw (P := P) (base := base) T) hr (by decide) (by rfl) (a_consP 0 (a_cons d_int a_nil))) d_int (by rfl)) (d_op od_mul (d_var 4) (d_callTy cd_int (l_cons (d_op od_fdiv (d_var 1) (d_var 2)) l_nil) T.n_int (by decide +kernel))) (d_var 4)))))))) (fun ds s d s' _ h => h)
abbrev N__law_pick : List Str := ["stream", "things"]
theorem sc__law_pick : FnScope N__law_pick ["stream", "things"] (defScope (top 30)) := ⟨rfl, rfl, rfl, by decide +kernel, rfl, by decide +kernel, by decide +kernel⟩
theorem D__law_pick (T : Tops w K mg) : FnD P w K mg base "_law_pick" (top 30) ["stream", "things"] 2 phi_pick := by
  obtain ⟨fa, fd, hm, Fu, hb⟩ := T.f__law_pick
  exact fn_D (k := 1) (F := F_pick) Fu sc__law_pick hm hb (fun cdv A outer s H E B hr => by
    have hu : (A.deeper (envOfC "_law_pick" (defScope (top 30)) s.heap.objs.size fa cdv)).units + 64 < cLine := by have := hr.un; omega
    have S := sc__law_pick
    exact (ss_one (s_ret (d_item (d_var 1) (d_call (D__law_draw (P := P) (base := base) T) hr (by decide) (by rfl) (a_consP 0 (a_cons (d_callB cd_len (l_cons (d_var 1) l_nil) T.n_len (by decide +kernel)) a_nil))))))) (fun ds s d s' _ h => h)
abbrev N__law_v_drawn : List Str := ["stream", "many", "at"]
theorem sc__law_v_drawn : FnScope N__law_v_drawn ["stream", "many"] (defScope (top 34)) := ⟨rfl, rfl, rfl, by decide +kernel, rfl, by decide +kernel, by decide +kernel⟩
def F__law_v_drawn : DS := (sRet (eJoin (eC (.str (S []))) (qOf (eFL (fComp [2] (iRange1 (eVar 1)) (gVar 2) bYes (cF (phi_pick) 2 (aConsP 0 (aCons (eLst (lCons (eC (.str (S [97]))) (lCons (eC (.str (S [98]))) lNil))) aNil))))))))
def phi__law_v_drawn : Fn := runD N__law_v_drawn.length F__law_v_drawn
theorem D__law_v_drawn (T : Tops w K mg) : FnD P w K mg base "_law_v_drawn" (top 34) ["stream", "many"] 3 phi__law_v_drawn := by
  obtain ⟨fa, fd, hm, Fu, hb⟩ := T.f__law_v_drawn
  exact fn_D (k := 2) (F := F__law_v_drawn) Fu sc__law_v_drawn hm hb (fun cdv A outer s H E B hr => by
    have hu : (A.deeper (envOfC "_law_v_drawn" (defScope (top 34)) s.heap.objs.size fa cdv)).units + 64 < cLine := by have := hr.un; omega
    have S := sc__law_v_drawn
    exact (ss_one (s_ret (d_join (d_strS (by decide +kernel)) (q_of (d_lc [("at", 2)] rfl S.nd (i_range1 (d_var 1) T.n_range) (blkOk_by (by show blkC N__law_v_drawn (defScope (top 34)) _ _ = true; decide +kernel)) (by decide) (fun _ _ _ _ _ => (g_var 2 S.nd)) (fun _ _ _ _ _ => ts_nil) (fun _ _ _ _ _ => (d_call (D__law_pick (P := P) (base := base) T) hr (by decide) (by rfl) (a_consP 0 (a_cons (d_lst (l_cons (d_strS (by decide +kernel)) (l_cons (d_strS (by decide +kernel)) l_nil))) a_nil)))))))))) (fun ds s d s' _ h => h)
abbrev N__law_v_bent : List Str := ["stream", "ring", "way", "at", "to"]
theorem sc__law_v_bent : FnScope N__law_v_bent ["stream", "ring"] (defScope (top 36)) := ⟨rfl, rfl, rfl, by decide +kernel, rfl, by decide +kernel, by decide +kernel⟩
def F__law_v_bent : DS := (sSeq (sPar 2 3 (lCons (cF (phi_draw) 2 (aConsP 0 (aCons (eC (.int 4)) aNil))) (lCons (cF (phi_draw) 2 (aConsP 0 (aCons (eCallB lenD (lCons (eVar 1) lNil)) aNil))) lNil))) (sSeq (sIf (bAnd (bOp eqD (eVar 2) (eC (.int 0))) (bOp ltD (eOp addD (eVar 3) (eC (.int 1))) (eCallB lenD (lCons (eVar 1) lNil)))) (sRet (eOp addD (eOp addD (eOp addD (eSlice (eVar 1) oNone (oSome (eVar 3))) (eOp itemD (eVar 1) (eOp addD (eVar 3) (eC (.int 1))))) (eOp itemD (eVar 1) (eVar 3))) (eSlice (eVar 1) (oSome (eOp addD (eVar 3) (eC (.int 2)))) oNone))) sNil) (sSeq (sIf (bOp eqD (eVar 2) (eC (.int 1))) (sRet (eOp addD (eOp addD (eSlice (eVar 1) oNone (oSome (eVar 3))) (eIf (bOp eqD (eOp itemD (eVar 1) (eVar 3)) (eC (.str (S [97])))) (eC (.str (S [98]))) (eC (.str (S [97]))))) (eSlice (eVar 1) (oSome (eOp addD (eVar 3) (eC (.int 1)))) oNone))) sNil) (sSeq (sIf (bOp eqD (eVar 2) (eC (.int 2))) (sRet (eOp addD (eOp addD (eSlice (eVar 1) oNone (oSome (eVar 3))) (cF (phi_pick) 2 (aConsP 0 (aCons (eLst (lCons (eC (.str (S [97]))) (lCons (eC (.str (S [98]))) lNil))) aNil)))) (eSlice (eVar 1) (oSome (eVar 3)) oNone))) sNil) (sSeq (sAsg 4 (cF (phi_draw) 2 (aConsP 0 (aCons (eCallB lenD (lCons (eVar 1) lNil)) aNil)))) (sRet (eOp addD (eOp addD (eSlice (eVar 1) (oSome (eCallB min2D (lCons (eVar 3) (lCons (eVar 4) lNil)))) (oSome (eCallB max2D (lCons (eVar 3) (lCons (eVar 4) lNil))))) (eSlice (eVar 1) oNone (oSome (eCallB min2D (lCons (eVar 3) (lCons (eVar 4) lNil)))))) (eSlice (eVar 1) (oSome (eCallB max2D (lCons (eVar 3) (lCons (eVar 4) lNil)))) oNone))))))))
def phi__law_v_bent : Fn := runD N__law_v_bent.length F__law_v_bent
theorem D__law_v_bent (T : Tops w K mg) : FnD P w K mg base "_law_v_bent" (top 36) ["stream", "ring"] 3 phi__law_v_bent := by
  obtain ⟨fa, fd, hm, Fu, hb⟩ := T.f__law_v_bent
  exact fn_D (k := 2) (F := F__law_v_bent) Fu sc__law_v_bent hm hb (fun cdv A outer s H E B hr => by
    have hu : (A.deeper (envOfC "_law_v_bent" (defScope (top 36)) s.heap.objs.size fa cdv)).units + 64 < cLine := by have := hr.un; omega
    have S := sc__law_v_bent
    exact (ss_cons (s_par (i := 2) (j := 3) rfl S.nd (l_cons (d_call (D__law_draw (P := P) (base := base) T) hr (by decide) (by rfl) (a_consP 0 (a_cons d_int a_nil))) (l_cons (d_call (D__law_draw (P := P) (base := base) T) hr (by decide) (by rfl) (a_consP 0 (a_cons (d_callB cd_len (l_cons (d_var 1) l_nil) T.n_len (by decide +kernel)) a_nil))) l_nil)) (by decide)) (ss_cons (s_if (L2.PW.pt (w_and (t_cmp (od_eq hu) (d_var 2) d_int (by rfl)) (w_and1 (t_cmp od_lt (d_op od_add (d_var 3) d_int) (d_callB cd_len (l_cons (d_var 1) l_nil) T.n_len (by decide +kernel)) (by rfl))))) (ss_one (s_ret (d_op od_add (d_op od_add (d_op od_add (d_slice (d_var 1) o_none (o_some (d_var 3))) (d_item (d_var 1) (d_op od_add (d_var 3) d_int))) (d_item (d_var 1) (d_var 3))) (d_slice (d_var 1) (o_some (d_op od_add (d_var 3) d_int)) o_none)))) ss_nil) (ss_cons (s_if (t_cmp (od_eq hu) (d_var 2) d_int (by rfl)) (ss_one (s_ret (d_op od_add (d_op od_add (d_slice (d_var 1) o_none (o_some (d_var 3))) (d_ifExp (t_cmp (od_eq hu) (d_item (d_var 1) (d_var 3)) (d_strS (by decide +kernel)) (by rfl)) (d_strS (by decide +kernel)) (d_strS (by decide +kernel)))) (d_slice (d_var 1) (o_some (d_op od_add (d_var 3) d_int)) o_none)))) ss_nil) (ss_cons (s_if (t_cmp (od_eq hu) (d_var 2) d_int (by rfl)) (ss_one (s_ret (d_op od_add (d_op od_add (d_slice (d_var 1) o_none (o_some (d_var 3))) (d_call (D__law_pick (P := P) (base := base) T) hr (by decide) (by rfl) (a_consP 0 (a_cons (d_lst (l_cons (d_strS (by decide +kernel)) (l_cons (d_strS (by decide +kernel)) l_nil))) a_nil)))) (d_slice (d_var 1) (o_some (d_var 3)) o_none)))) ss_nil) (ss_cons (s_asg 4 (d_call (D__law_draw (P := P) (base := base) T) hr (by decide) (by rfl) (a_consP 0 (a_cons (d_callB cd_len (l_cons (d_var 1) l_nil) T.n_len (by decide +kernel)) a_nil))) S.nd) (ss_one (s_ret (d_op od_add (d_op od_add (d_slice (d_var 1) (o_some (d_callB (cd_min2 rfl) (l_cons (d_var 3) (l_cons (d_var 4) l_nil)) T.n_min (by decide +kernel))) (o_some (d_callB (cd_max2 rfl) (l_cons (d_var 3) (l_cons (d_var 4) l_nil)) T.n_max (by decide +kernel)))) (d_slice (d_var 1) o_none (o_some (d_callB (cd_min2 rfl) (l_cons (d_var 3) (l_cons (d_var 4) l_nil)) T.n_min (by decide +kernel))))) (d_slice (d_var 1) (o_some (d_callB (cd_max2 rfl) (l_cons (d_var 3) (l_cons (d_var 4) l_nil)) T.n_max (by decide +kernel))) o_none)))))))))) (fun ds s d s' _ h => h)
abbrev N__law_v_ring : List Str := ["stream", "most", "way", "ring"]
theorem sc__law_v_ring : FnScope N__law_v_ring ["stream", "most"] (defScope (top 37)) := ⟨rfl, rfl, rfl, by decide +kernel, rfl, by decide +kernel, by decide +kernel⟩
def F__law_v_ring : DS := (sSeq (sAsg 2 (cF (phi_draw) 2 (aConsP 0 (aCons (eC (.int 4)) aNil)))) (sSeq (sIf (bOp eqD (eVar 2) (eC (.int 0))) (sRet (cF (phi__law_v_drawn) 2 (aConsP 0 (aCons (eOp addD (eC (.int 1)) (cF (phi_draw) 2 (aConsP 0 (aCons (eVar 1) aNil)))) aNil)))) sNil) (sSeq (sAsg 3 (cF (phi__law_v_even) 2 (aConsP 0 (aCons (eVar 1) aNil)))) (sRet (eIf (bOp eqD (eVar 2) (eC (.int 1))) (eVar 3) (eSlice (cF (phi__law_v_bent) 2 (aConsP 0 (aCons (eVar 3) aNil))) oNone (oSome (eVar 1))))))))
def phi__law_v_ring : Fn := runD N__law_v_ring.length F__law_v_ring
theorem D__law_v_ring (T : Tops w K mg) : FnD P w K mg base "_law_v_ring" (top 37) ["stream", "most"] 4 phi__law_v_ring := by
  obtain ⟨fa, fd, hm, Fu, hb⟩ := T.f__law_v_ring
  exact fn_D (k := 3) (F := F__law_v_ring) Fu sc__law_v_ring hm hb (fun cdv A outer s H E B hr => by
    have hu : (A.deeper (envOfC "_law_v_ring" (defScope (top 37)) s.heap.objs.size fa cdv)).units + 64 < cLine := by have := hr.un; omega
    have S := sc__law_v_ring
    exact (ss_cons (s_asg 2 (d_call (D__law_draw (P := P) (base := base) T) hr (by decide) (by rfl) (a_consP 0 (a_cons d_int a_nil))) S.nd) (ss_cons (s_if (t_cmp (od_eq hu) (d_var 2) d_int (by rfl)) (ss_one (s_ret (d_call (D__law_v_drawn (P := P) (base := base) T) hr (by decide) (by rfl) (a_consP 0 (a_cons (d_op od_add d_int (d_call (D__law_draw (P := P) (base := base) T) hr (by decide) (by rfl) (a_consP 0 (a_cons (d_var 1) a_nil)))) a_nil))))) ss_nil) (ss_cons (s_asg 3 (d_call (D__law_v_even (P := P) (base := base) T) hr (by decide) (by rfl) (a_consP 0 (a_cons (d_var 1) a_nil))) S.nd) (ss_one (s_ret (d_ifExp (t_cmp (od_eq hu) (d_var 2) d_int (by rfl)) (d_var 3) (d_slice (d_call (D__law_v_bent (P := P) (base := base) T) hr (by decide) (by rfl) (a_consP 0 (a_cons (d_var 3) a_nil))) o_none (o_some (d_var 1)))))))))) (fun ds s d s' _ h => h)
abbrev N_told : List Str := ["bar"]
theorem sc_told : FnScope N_told ["bar"] (defScope (top 22)) := ⟨rfl, rfl, rfl, by decide +kernel, rfl, by decide +kernel, by decide +kernel⟩
def F_told : DS := (sRet (eIf (bOf (isNonD (eVar 0))) (eTup (lCons (eC (.str (S [101, 118, 101, 110]))) lNil)) (eTup (lCons (eC (.str (S [98, 97, 114]))) (lStar (qOf (eVar 0)) lNil)))))
def phi_told : Fn := runD N_told.length F_told
theorem D_told (T : Tops w K mg) : FnD P w K mg base "told" (top 22) ["bar"] 1 phi_told := by
  obtain ⟨fa, fd, hm, Fu, hb⟩ := T.f_told
  exact fn_D (k := 0) (F := F_told) Fu sc_told hm hb (fun cdv A outer s H E B hr => by
    have hu : (A.deeper (envOfC "told" (defScope (top 22)) s.heap.objs.size fa cdv)).units + 64 < cLine := by have := hr.un; omega
    have S := sc_told
    exact (ss_one (s_ret (d_ifExp (t_isNon (d_var 0)) (d_tup (l_cons (d_strS (by decide +kernel)) l_nil)) (d_tup (l_cons (d_strS (by decide +kernel)) (l_star (q_of (d_var 0)) l_nil))))))) (fun ds s d s' _ h => h)
abbrev N_first_bar : List Str := ["lots", "length", "many"]
theorem sc_first_bar : FnScope N_first_bar ["lots"] (defScope (top 19)) := ⟨rfl, rfl, rfl, by decide +kernel, rfl, by decide +kernel, by decide +kernel⟩
def F_first_bar : DS := (sSeq (sFor (iOf anyOf (eVar 0)) (gTupD 2 (gConsD (gVar 1) (gConsD (gVar 2) gNilD))) (sIf (bAnd (bTru (eVar 2)) (bOp gtD (eOp subI (eCallB maxLD (lCons (eVar 2) lNil)) (eCallB minLD (lCons (eVar 2) lNil))) (eC (.int 1)))) (sRet (eTup (lCons (eVar 1) (lCons (eOp idxD (eVar 2) (eCallB maxLD (lCons (eVar 2) lNil))) (lCons (eOp idxD (eVar 2) (eCallB minLD (lCons (eVar 2) lNil))) lNil))))) sNil)) (sRet (eC (.none))))
def phi_first_bar : Fn := runD N_first_bar.length F_first_bar
theorem D_first_bar (T : Tops w K mg) : FnD P w K mg base "first_bar" (top 19) ["lots"] 1 phi_first_bar := by
  obtain ⟨fa, fd, hm, Fu, hb⟩ := T.f_first_bar
  exact fn_D (k := 0) (F := F_first_bar) Fu sc_first_bar hm hb (fun cdv A outer s H E B hr => by
    have hu : (A.deeper (envOfC "first_bar" (defScope (top 19)) s.heap.objs.size fa cdv)).units + 64 < cLine := by have := hr.un; omega
    have S := sc_first_bar
    exact (ss_cons (s_for PassesOwn.never rfl (i_any (d_var 0)) (g_tup rfl (gs_cons (g_var 1 S.nd) (gs_cons (g_var 2 S.nd) gs_nil))) (ss_one (s_if (L2.PW.pt (w_and (t_tru (d_var 2)) (w_and1 (t_cmp od_gt (d_op od_sub (d_callB (cd_max rfl hu) (l_cons (d_var 2) l_nil) T.n_max (by decide +kernel)) (d_callB (cd_min rfl hu) (l_cons (d_var 2) l_nil) T.n_min (by decide +kernel))) d_int (by rfl))))) (ss_one (s_ret (d_tup (l_cons (d_var 1) (l_cons (d_index (d_var 2) (d_callB (cd_max rfl hu) (l_cons (d_var 2) l_nil) T.n_max (by decide +kernel))) (l_cons (d_index (d_var 2) (d_callB (cd_min rfl hu) (l_cons (d_var 2) l_nil) T.n_min (by decide +kernel))) l_nil)))))) ss_nil))) (ss_one (s_ret d_non)))) (fun ds s d s' _ h => h)
abbrev N_heads_of : List Str := ["row", "found", "letter"]
theorem sc_heads_of : FnScope N_heads_of ["row"] (defScope (top 18)) := ⟨rfl, rfl, rfl, by decide +kernel, rfl, by decide +kernel, by decide +kernel⟩
def F_heads_of : DS := (sSeq (sOwn 1 (fLst (lCons (eC (.int 0)) lNil))) (sSeq (sFor (iOf anyOf (eVar 0)) (gVar 2) (sApp 1 (eOp addD (eItemQ (qVar 1) (eNeg (eC (.int 1)))) (eCallB intD (lCons (eOp eqD (eVar 2) (eC (.str (S [98])))) lNil))))) (sFrz 1 (sRet (eVar 1)))))
def phi_heads_of : Fn := runD N_heads_of.length F_heads_of
theorem D_heads_of (T : Tops w K mg) : FnD P w K mg base "heads_of" (top 18) ["row"] 1 phi_heads_of := by
  obtain ⟨fa, fd, hm, Fu, hb⟩ := T.f_heads_of
  exact fn_D (k := 0) (F := F_heads_of) Fu sc_heads_of hm hb (fun cdv A outer s H E B hr => by
    have hu : (A.deeper (envOfC "heads_of" (defScope (top 18)) s.heap.objs.size fa cdv)).units + 64 < cLine := by have := hr.un; omega
    have S := sc_heads_of
    exact (ss_cons (s_own 1 (f_lst (l_cons d_int l_nil)) S.nd) (ss_cons (s_for PassesOwn.never rfl (i_any (d_var 0)) (g_var 2 S.nd) (ss_one (s_app 1 (d_op od_add (d_itemQ (q_var 1) (d_neg d_int)) (d_callTy cd_int (l_cons (d_cmp (od_eq hu) (d_var 2) (d_strS (by decide +kernel)) (by rfl)) l_nil) T.n_int (by decide +kernel)))))) (ss_one (s_frz 1 (s_ret (d_var 1))))))) (fun ds s d s' _ h => h)
abbrev N_ring_lots : List Str := ["ring", "many", "heads", "length", "at"]
theorem sc_ring_lots : FnScope N_ring_lots ["ring"] (defScope (top 20)) := ⟨rfl, rfl, rfl, by decide +kernel, rfl, by decide +kernel, by decide +kernel⟩
def F_ring_lots : DS := (sSeq (sAsgG (gTupD 2 (gConsD (gVar 1) (gConsD (gVar 2) gNilD))) (eTup (lCons (eCallB lenD (lCons (eVar 0) lNil)) (lCons (cF (phi_heads_of) 1 (aCons (eOp mulD (eVar 0) (eC (.int 2))) aNil)) lNil)))) (sRet (eFL (fComp [3] (iRange1 (eVar 1)) (gVar 3) bYes (eTup (lCons (eVar 3) (lCons (eFL (fComp [4] (iRange1 (eVar 1)) (gVar 4) bYes (eOp subI (eOp itemD (eVar 2) (eOp addD (eVar 4) (eVar 3))) (eOp itemD (eVar 2) (eVar 4))))) lNil)))))))
def phi_ring_lots : Fn := runD N_ring_lots.length F_ring_lots
theorem D_ring_lots (T : Tops w K mg) : FnD P w K mg base "ring_lots" (top 20) ["ring"] 2 phi_ring_lots := by
  obtain ⟨fa, fd, hm, Fu, hb⟩ := T.f_ring_lots
  exact fn_D (k := 1) (F := F_ring_lots) Fu sc_ring_lots hm hb (fun cdv A outer s H E B hr => by
    have hu : (A.deeper (envOfC "ring_lots" (defScope (top 20)) s.heap.objs.size fa cdv)).units + 64 < cLine := by have := hr.un; omega
    have S := sc_ring_lots
    exact (ss_cons (s_asgG (d_tup (l_cons (d_callB cd_len (l_cons (d_var 0) l_nil) T.n_len (by decide +kernel)) (l_cons (d_call (D_heads_of (P := P) (base := base) T) hr (by decide) (by rfl) (a_cons (d_op od_mul (d_var 0) d_int) a_nil)) l_nil))) (g_tup rfl (gs_cons (g_var 1 S.nd) (gs_cons (g_var 2 S.nd) gs_nil)))) (ss_one (s_ret (d_lc [("length", 3)] rfl S.nd (i_range1 (d_var 1) T.n_range) (blkOk_by (by show blkC N_ring_lots (defScope (top 20)) _ _ = true; decide +kernel)) (by decide) (fun _ _ _ _ _ => (g_var 3 S.nd)) (fun _ _ _ _ _ => ts_nil) (fun _ _ _ _ _ => (d_tup (l_cons (d_var 3) (l_cons (d_lc [("at", 4)] rfl S.nd (i_range1 (d_var 1) T.n_range) (blkOk_by (by kernel_rfl)) (by decide) (fun _ _ _ _ _ => (g_var 4 S.nd)) (fun _ _ _ _ _ => ts_nil) (fun _ _ _ _ _ => (d_op od_sub (d_item (d_var 2) (d_op od_add (d_var 4) (d_var 3))) (d_item (d_var 2) (d_var 4))))) l_nil))))))))) (fun ds s d s' _ h => h)
abbrev N_bar_by : List Str := ["ring"]
theorem sc_bar_by : FnScope N_bar_by ["ring"] (defScope (top 21)) := ⟨rfl, rfl, rfl, by decide +kernel, rfl, by decide +kernel, by decide +kernel⟩
def F_bar_by : DS := (sRet (cF (phi_first_bar) 1 (aCons (cF (phi_ring_lots) 1 (aCons (eVar 0) aNil)) aNil)))
def phi_bar_by : Fn := runD N_bar_by.length F_bar_by
theorem D_bar_by (T : Tops w K mg) : FnD P w K mg base "bar_by" (top 21) ["ring"] 3 phi_bar_by := by
  obtain ⟨fa, fd, hm, Fu, hb⟩ := T.f_bar_by
  exact fn_D (k := 2) (F := F_bar_by) Fu sc_bar_by hm hb (fun cdv A outer s H E B hr => by
    have hu : (A.deeper (envOfC "bar_by" (defScope (top 21)) s.heap.objs.size fa cdv)).units + 64 < cLine := by have := hr.un; omega
    have S := sc_bar_by
    exact (ss_one (s_ret (d_call (D_first_bar (P := P) (base := base) T) hr (by decide) (by rfl) (a_cons (d_call (D_ring_lots (P := P) (base := base) T) hr (by decide) (by rfl) (a_cons (d_var 0) a_nil)) a_nil))))) (fun ds s d s' _ h => h)
abbrev N_is_of : List Str := ["thing", "signs", "sign"]
theorem sc_is_of : FnScope N_is_of ["thing", "signs"] (defScope (top 7)) := ⟨rfl, rfl, rfl, by decide +kernel, rfl, by decide +kernel, by decide +kernel⟩
def F_is_of : DS := (sRet (eAnd (eIsi "str" (eVar 0)) (eCallB all1D (lCons (eFL (fComp [2] (iOf anyOf (eVar 0)) (gVar 2) bYes (eOp inD (eVar 2) (eVar 1)))) lNil))))
def phi_is_of : Fn := runD N_is_of.length F_is_of
theorem D_is_of (T : Tops w K mg) : FnD P w K mg base "is_of" (top 7) ["thing", "signs"] 1 phi_is_of := by
  obtain ⟨fa, fd, hm, Fu, hb⟩ := T.f_is_of
  exact fn_D (k := 0) (F := F_is_of) Fu sc_is_of hm hb (fun cdv A outer s H E B hr => by
    have hu : (A.deeper (envOfC "is_of" (defScope (top 7)) s.heap.objs.size fa cdv)).units + 64 < cLine := by have := hr.un; omega
    have S := sc_is_of
    exact (ss_one (s_ret (d_and (d_isi (T := "str") (d_var 0) T.n_isinstance T.n_str (by decide +kernel) (by decide +kernel)) (d_one (d_callB (cd_all rfl) (l_cons (d_lc [("sign", 2)] rfl S.nd (i_any (d_var 0)) (blkOk_by (by show blkC N_is_of (defScope (top 7)) _ _ = true; decide +kernel)) (by decide) (fun _ _ _ _ _ => (g_var 2 S.nd)) (fun _ _ _ _ _ => ts_nil) (fun _ _ _ _ _ => (d_cmp (od_in hu) (d_var 2) (d_var 1) (by rfl)))) l_nil) T.n_all (by decide +kernel))))))) (fun ds s d s' _ h => h)
abbrev N_is_row_words : List Str := ["thing"]
theorem sc_is_row_words : FnScope N_is_row_words ["thing"] (defScope (top 13)) := ⟨rfl, rfl, rfl, by decide +kernel, rfl, by decide +kernel, by decide +kernel⟩
def F_is_row_words : DS := (sRet (cF (phi_is_of) 2 (aCons (eVar 0) (aCons (eC (.str (S [97, 98]))) aNil))))
def phi_is_row_words : Fn := runD N_is_row_words.length F_is_row_words
theorem D_is_row_words (T : Tops w K mg) : FnD P w K mg base "is_row_words" (top 13) ["thing"] 2 phi_is_row_words := by
  obtain ⟨fa, fd, hm, Fu, hb⟩ := T.f_is_row_words
  exact fn_D (k := 1) (F := F_is_row_words) Fu sc_is_row_words hm hb (fun cdv A outer s H E B hr => by
    have hu : (A.deeper (envOfC "is_row" (defScope (top 13)) s.heap.objs.size fa cdv)).units + 64 < cLine := by have := hr.un; omega
    have S := sc_is_row_words
    exact (ss_one (s_ret (d_call (D_is_of (P := P) (base := base) T) hr (by decide) (by rfl) (a_cons (d_var 0) (a_cons (d_strS (by decide +kernel)) a_nil)))))) (fun ds s d s' _ h => h)
abbrev N_is_word : List Str := ["thing"]
theorem sc_is_word : FnScope N_is_word ["thing"] (defScope (top 15)) := ⟨rfl, rfl, rfl, by decide +kernel, rfl, by decide +kernel, by decide +kernel⟩
def F_is_word : DS := (sRet (eAnd (cF (phi_is_row_words) 1 (aCons (eVar 0) aNil)) (eOp neD (eVar 0) (eC (.str (S []))))))
def phi_is_word : Fn := runD N_is_word.length F_is_word
theorem D_is_word (T : Tops w K mg) : FnD P w K mg base "is_word" (top 15) ["thing"] 3 phi_is_word := by
  obtain ⟨fa, fd, hm, Fu, hb⟩ := T.f_is_word
  exact fn_D (k := 2) (F := F_is_word) Fu sc_is_word hm hb (fun cdv A outer s H E B hr => by
    have hu : (A.deeper (envOfC "is_word" (defScope (top 15)) s.heap.objs.size fa cdv)).units + 64 < cLine := by have := hr.un; omega
    have S := sc_is_word
    exact (ss_one (s_ret (d_and (d_call (D_is_row_words (P := P) (base := base) T) hr (by decide) (by rfl) (a_cons (d_var 0) a_nil)) (d_one (d_cmp (od_ne hu) (d_var 0) (d_strS (by decide +kernel)) (by rfl))))))) (fun ds s d s' _ h => h)
abbrev N_need_ring : List Str := ["ring"]
theorem sc_need_ring : FnScope N_need_ring ["ring"] (defScope (top 16)) := ⟨rfl, rfl, rfl, by decide +kernel, rfl, by decide +kernel, by decide +kernel⟩
def F_need_ring : DS := (sSeq (sIf (bNot (bTru (cF (phi_is_word) 1 (aCons (eVar 0) aNil)))) sFail sNil) (sRet (eVar 0)))
def phi_need_ring : Fn := runD N_need_ring.length F_need_ring
theorem D_need_ring (T : Tops w K mg) : FnD P w K mg base "need_ring" (top 16) ["ring"] 4 phi_need_ring := by
  obtain ⟨fa, fd, hm, Fu, hb⟩ := T.f_need_ring
  exact fn_D (k := 3) (F := F_need_ring) Fu sc_need_ring hm hb (fun cdv A outer s H E B hr => by
    have hu : (A.deeper (envOfC "need_ring" (defScope (top 16)) s.heap.objs.size fa cdv)).units + 64 < cLine := by have := hr.un; omega
    have S := sc_need_ring
    exact (ss_cons (s_if (t_not (t_tru (d_call (D_is_word (P := P) (base := base) T) hr (by decide) (by rfl) (a_cons (d_var 0) a_nil)))) (ss_one s_never) ss_nil) (ss_one (s_ret (d_var 0))))) (fun ds s d s' _ h => h)
abbrev N_even_or_bar : List Str := ["ring"]
theorem sc_even_or_bar : FnScope N_even_or_bar ["ring"] (defScope (top 23)) := ⟨rfl, rfl, rfl, by decide +kernel, rfl, by decide +kernel, by decide +kernel⟩
def F_even_or_bar : DS := (sRet (cF (phi_told) 1 (aCons (cF (phi_bar_by) 1 (aCons (cF (phi_need_ring) 1 (aCons (eVar 0) aNil)) aNil)) aNil)))
def phi_even_or_bar : Fn := runD N_even_or_bar.length F_even_or_bar
theorem D_even_or_bar (T : Tops w K mg) : FnD P w K mg base "even_or_bar" (top 23) ["ring"] 5 phi_even_or_bar := by
  obtain ⟨fa, fd, hm, Fu, hb⟩ := T.f_even_or_bar
  exact fn_D (k := 4) (F := F_even_or_bar) Fu sc_even_or_bar hm hb (fun cdv A outer s H E B hr => by
    have hu : (A.deeper (envOfC "even_or_bar" (defScope (top 23)) s.heap.objs.size fa cdv)).units + 64 < cLine := by have := hr.un; omega
    have S := sc_even_or_bar
    exact (ss_one (s_ret (d_call (D_told (P := P) (base := base) T) hr (by decide) (by rfl) (a_cons (d_call (D_bar_by (P := P) (base := base) T) hr (by decide) (by rfl) (a_cons (d_call (D_need_ring (P := P) (base := base) T) hr (by decide) (by rfl) (a_cons (d_var 0) a_nil)) a_nil)) a_nil))))) (fun ds s d s' _ h => h)
abbrev N__law_v_turns : List Str := ["ring", "at"]
theorem sc__law_v_turns : FnScope N__law_v_turns ["ring"] (defScope (top 31)) := ⟨rfl, rfl, rfl, by decide +kernel, rfl, by decide +kernel, by decide +kernel⟩
def F__law_v_turns : DS := (sRet (eFL (fComp [1] (iRange1 (eCallB lenD (lCons (eVar 0) lNil))) (gVar 1) bYes (eOp addD (eSlice (eVar 0) (oSome (eVar 1)) oNone) (eSlice (eVar 0) oNone (oSome (eVar 1)))))))
def phi__law_v_turns : Fn := runD N__law_v_turns.length F__law_v_turns
theorem D__law_v_turns (T : Tops w K mg) : FnD P w K mg base "_law_v_turns" (top 31) ["ring"] 1 phi__law_v_turns := by
  obtain ⟨fa, fd, hm, Fu, hb⟩ := T.f__law_v_turns
  exact fn_D (k := 0) (F := F__law_v_turns) Fu sc__law_v_turns hm hb (fun cdv A outer s H E B hr => by
    have hu : (A.deeper (envOfC "_law_v_turns" (defScope (top 31)) s.heap.objs.size fa cdv)).units + 64 < cLine := by have := hr.un; omega
    have S := sc__law_v_turns
    exact (ss_one (s_ret (d_lc [("at", 1)] rfl S.nd (i_range1 (d_callB cd_len (l_cons (d_var 0) l_nil) T.n_len (by decide +kernel)) T.n_range) (blkOk_by (by show blkC N__law_v_turns (defScope (top 31)) _ _ = true; decide +kernel)) (by decide) (fun _ _ _ _ _ => (g_var 1 S.nd)) (fun _ _ _ _ _ => ts_nil) (fun _ _ _ _ _ => (d_op od_add (d_slice (d_var 0) (o_some (d_var 1)) o_none) (d_slice (d_var 0) o_none (o_some (d_var 1))))))))) (fun ds s d s' _ h => h)
abbrev N_bar_core : List Str := ["ring", "bar", "length", "more"]
theorem sc_bar_core : FnScope N_bar_core ["ring"] (defScope (top 26)) := ⟨rfl, rfl, rfl, by decide +kernel, rfl, by decide +kernel, by decide +kernel⟩
def F_bar_core : DS := (sSeq (sAsg 1 (cF (phi_bar_by) 1 (aCons (cF (phi_need_ring) 1 (aCons (eVar 0) aNil)) aNil))) (sSeq (sIf (bOf (isNonD (eVar 1))) sFail sNil) (sSeq (sAsgG (gTupD 2 (gConsD (gVar 2) (gConsD (gVar 3) gNilD))) (eSlice (eVar 1) oNone (oSome (eC (.int 2))))) (sRet (eSlice (eOp mulD (eVar 0) (eC (.int 2))) (oSome (eOp addD (eVar 3) (eC (.int 1)))) (oSome (eOp subI (eOp addD (eVar 3) (eVar 2)) (eC (.int 1)))))))))
def phi_bar_core : Fn := runD N_bar_core.length F_bar_core
theorem D_bar_core (T : Tops w K mg) : FnD P w K mg base "bar_core" (top 26) ["ring"] 5 phi_bar_core := by
  obtain ⟨fa, fd, hm, Fu, hb⟩ := T.f_bar_core
  exact fn_D (k := 4) (F := F_bar_core) Fu sc_bar_core hm hb (fun cdv A outer s H E B hr => by
    have hu : (A.deeper (envOfC "bar_core" (defScope (top 26)) s.heap.objs.size fa cdv)).units + 64 < cLine := by have := hr.un; omega
    have S := sc_bar_core
    exact (ss_cons (s_asg 1 (d_call (D_bar_by (P := P) (base := base) T) hr (by decide) (by rfl) (a_cons (d_call (D_need_ring (P := P) (base := base) T) hr (by decide) (by rfl) (a_cons (d_var 0) a_nil)) a_nil)) S.nd) (ss_cons (s_if (t_isNon (d_var 1)) (ss_one s_never) ss_nil) (ss_cons (s_asgG (d_slice (d_var 1) o_none (o_some d_int)) (g_tup rfl (gs_cons (g_var 2 S.nd) (gs_cons (g_var 3 S.nd) gs_nil)))) (ss_one (s_ret (d_slice (d_op od_mul (d_var 0) d_int) (o_some (d_op od_add (d_var 3) d_int)) (o_some (d_op od_sub (d_op od_add (d_var 3) (d_var 2)) d_int))))))))) (fun ds s d s' _ h => h)
abbrev N__law_v_count : List Str := ["row", "letter"]
theorem sc__law_v_count : FnScope N__law_v_count ["row"] (defScope (top 32)) := ⟨rfl, rfl, rfl, by decide +kernel, rfl, by decide +kernel, by decide +kernel⟩
def F__law_v_count : DS := (sRet (eCallB lenD (lCons (eFL (fComp [1] (iOf anyOf (eVar 0)) (gVar 1) (bOp eqD (eVar 1) (eC (.str (S [98])))) (eVar 1))) lNil)))
def phi__law_v_count : Fn := runD N__law_v_count.length F__law_v_count
theorem D__law_v_count (T : Tops w K mg) : FnD P w K mg base "_law_v_count" (top 32) ["row"] 1 phi__law_v_count := by
  obtain ⟨fa, fd, hm, Fu, hb⟩ := T.f__law_v_count
  exact fn_D (k := 0) (F := F__law_v_count) Fu sc__law_v_count hm hb (fun cdv A outer s H E B hr => by
    have hu : (A.deeper (envOfC "_law_v_count" (defScope (top 32)) s.heap.objs.size fa cdv)).units + 64 < cLine := by have := hr.un; omega
    have S := sc__law_v_count
    exact (ss_one (s_ret (d_callB cd_len (l_cons (d_lc [("letter", 1)] rfl S.nd (i_any (d_var 0)) (blkOk_by (by show blkC N__law_v_count (defScope (top 32)) _ _ = true; decide +kernel)) (by decide) (fun _ _ _ _ _ => (g_var 1 S.nd)) (fun _ _ _ _ _ => (ts_one (t_cmp (od_eq hu) (d_var 1) (d_strS (by decide +kernel)) (by rfl)))) (fun _ _ _ _ _ => (d_var 1))) l_nil) T.n_len (by decide +kernel))))) (fun ds s d s' _ h => h)
abbrev N_is_list : List Str := ["thing"]
theorem sc_is_list : FnScope N_is_list ["thing"] (defScope (top 1)) := ⟨rfl, rfl, rfl, by decide +kernel, rfl, by decide +kernel, by decide +kernel⟩
def F_is_list : DS := (sRet (eIsiT ["list", "tuple"] (eVar 0)))
def phi_is_list : Fn := runD N_is_list.length F_is_list
theorem D_is_list (T : Tops w K mg) : FnD P w K mg base "is_list" (top 1) ["thing"] 1 phi_is_list := by
  obtain ⟨fa, fd, hm, Fu, hb⟩ := T.f_is_list
  exact fn_D (k := 0) (F := F_is_list) Fu sc_is_list hm hb (fun cdv A outer s H E B hr => by
    have hu : (A.deeper (envOfC "is_list" (defScope (top 1)) s.heap.objs.size fa cdv)).units + 64 < cLine := by have := hr.un; omega
    have S := sc_is_list
    exact (ss_one (s_ret (d_isiT (Ts := ["list", "tuple"]) (d_var 0) T.n_isinstance (c_cons (T := "list") (c_cons (T := "tuple") c_nil T.n_tuple (by decide +kernel)) T.n_list (by decide +kernel)) (by decide +kernel) (by decide))))) (fun ds s d s' _ h => h)
abbrev N_is_row_basics : List Str := ["thing", "many"]
theorem sc_is_row_basics : FnScope N_is_row_basics ["thing", "many"] (defScope (top 5)) := ⟨rfl, rfl, rfl, by decide +kernel, rfl, by decide +kernel, by decide +kernel⟩
def F_is_row_basics : DS := (sRet (eAnd (cF (phi_is_list) 1 (aCons (eVar 0) aNil)) (eOp eqD (eCallB lenD (lCons (eVar 0) lNil)) (eVar 1))))
def phi_is_row_basics : Fn := runD N_is_row_basics.length F_is_row_basics
theorem D_is_row_basics (T : Tops w K mg) : FnD P w K mg base "is_row_basics" (top 5) ["thing", "many"] 2 phi_is_row_basics := by
  obtain ⟨fa, fd, hm, Fu, hb⟩ := T.f_is_row_basics
  exact fn_D (k := 1) (F := F_is_row_basics) Fu sc_is_row_basics hm hb (fun cdv A outer s H E B hr => by
    have hu : (A.deeper (envOfC "is_row" (defScope (top 5)) s.heap.objs.size fa cdv)).units + 64 < cLine := by have := hr.un; omega
    have S := sc_is_row_basics
    exact (ss_one (s_ret (d_and (d_call (D_is_list (P := P) (base := base) T) hr (by decide) (by rfl) (a_cons (d_var 0) a_nil)) (d_one (d_cmp (od_eq hu) (d_callB cd_len (l_cons (d_var 0) l_nil) T.n_len (by decide +kernel)) (d_var 1) (by rfl))))))) (fun ds s d s' _ h => h)
abbrev N_is_whole : List Str := ["thing"]
theorem sc_is_whole : FnScope N_is_whole ["thing"] (defScope (top 2)) := ⟨rfl, rfl, rfl, by decide +kernel, rfl, by decide +kernel, by decide +kernel⟩
def F_is_whole : DS := (sRet (eAnd (eIsi "int" (eVar 0)) (eNot (eIsi "bool" (eVar 0)))))
def phi_is_whole : Fn := runD N_is_whole.length F_is_whole
theorem D_is_whole (T : Tops w K mg) : FnD P w K mg base "is_whole" (top 2) ["thing"] 1 phi_is_whole := by
  obtain ⟨fa, fd, hm, Fu, hb⟩ := T.f_is_whole
  exact fn_D (k := 0) (F := F_is_whole) Fu sc_is_whole hm hb (fun cdv A outer s H E B hr => by
    have hu : (A.deeper (envOfC "is_whole" (defScope (top 2)) s.heap.objs.size fa cdv)).units + 64 < cLine := by have := hr.un; omega
    have S := sc_is_whole
    exact (ss_one (s_ret (d_and (d_isi (T := "int") (d_var 0) T.n_isinstance T.n_int (by decide +kernel) (by decide +kernel)) (d_one (d_not (d_isi (T := "bool") (d_var 0) T.n_isinstance T.n_bool (by decide +kernel) (by decide +kernel)))))))) (fun ds s d s' _ h => h)
abbrev N_is_number : List Str := ["thing"]
theorem sc_is_number : FnScope N_is_number ["thing"] (defScope (top 3)) := ⟨rfl, rfl, rfl, by decide +kernel, rfl, by decide +kernel, by decide +kernel⟩
def F_is_number : DS := (sRet (eAnd (cF (phi_is_whole) 1 (aCons (eVar 0) aNil)) (eOp geD (eVar 0) (eC (.int 0)))))
def phi_is_number : Fn := runD N_is_number.length F_is_number
theorem D_is_number (T : Tops w K mg) : FnD P w K mg base "is_number" (top 3) ["thing"] 2 phi_is_number := by
  obtain ⟨fa, fd, hm, Fu, hb⟩ := T.f_is_number
  exact fn_D (k := 1) (F := F_is_number) Fu sc_is_number hm hb (fun cdv A outer s H E B hr => by
    have hu : (A.deeper (envOfC "is_number" (defScope (top 3)) s.heap.objs.size fa cdv)).units + 64 < cLine := by have := hr.un; omega
    have S := sc_is_number
    exact (ss_one (s_ret (d_and (d_call (D_is_whole (P := P) (base := base) T) hr (by decide) (by rfl) (a_cons (d_var 0) a_nil)) (d_one (d_cmp od_ge (d_var 0) d_int (by rfl))))))) (fun ds s d s' _ h => h)
abbrev N_is_below : List Str := ["thing", "top"]
theorem sc_is_below : FnScope N_is_below ["thing", "top"] (defScope (top 4)) := ⟨rfl, rfl, rfl, by decide +kernel, rfl, by decide +kernel, by decide +kernel⟩
def F_is_below : DS := (sRet (eAnd (cF (phi_is_number) 1 (aCons (eVar 0) aNil)) (eOp ltD (eVar 0) (eVar 1))))
def phi_is_below : Fn := runD N_is_below.length F_is_below
theorem D_is_below (T : Tops w K mg) : FnD P w K mg base "is_below" (top 4) ["thing", "top"] 3 phi_is_below := by
  obtain ⟨fa, fd, hm, Fu, hb⟩ := T.f_is_below
  exact fn_D (k := 2) (F := F_is_below) Fu sc_is_below hm hb (fun cdv A outer s H E B hr => by
    have hu : (A.deeper (envOfC "is_below" (defScope (top 4)) s.heap.objs.size fa cdv)).units + 64 < cLine := by have := hr.un; omega
    have S := sc_is_below
    exact (ss_one (s_ret (d_and (d_call (D_is_number (P := P) (base := base) T) hr (by decide) (by rfl) (a_cons (d_var 0) a_nil)) (d_one (d_cmp od_lt (d_var 0) (d_var 1) (by rfl))))))) (fun ds s d s' _ h => h)
abbrev N_is_ring_bar : List Str := ["ring", "thing", "place", "twice", "counts"]
theorem sc_is_ring_bar : FnScope N_is_ring_bar ["ring", "thing"] (defScope (top 24)) := ⟨rfl, rfl, rfl, by decide +kernel, rfl, by decide +kernel, by decide +kernel⟩
def F_is_ring_bar : DS := (sSeq (sIf (bOr (bNot (bTru (cF (phi_is_row_basics) 2 (aCons (eVar 1) (aCons (eC (.int 3)) aNil))))) (bOr (bNot (bTru (cF (phi_is_number) 1 (aCons (eOp itemD (eVar 1) (eC (.int 0))) aNil)))) (bOp gtD (eOp itemD (eVar 1) (eC (.int 0))) (eCallB lenD (lCons (eVar 0) lNil))))) (sRet (eC (.bool false))) sNil) (sSeq (sIf (bNot (bTru (eCallB all1D (lCons (eFL (fComp [2] (iOf anyOf (eSlice (eVar 1) (oSome (eC (.int 1))) oNone)) (gVar 2) bYes (cF (phi_is_below) 2 (aCons (eVar 2) (aCons (eCallB lenD (lCons (eVar 0) lNil)) aNil))))) lNil)))) (sRet (eC (.bool false))) sNil) (sSeq (sAsg 3 (eOp mulD (eVar 0) (eC (.int 2)))) (sSeq (sAsg 4 (eFL (fComp [2] (iOf anyOf (eSlice (eVar 1) (oSome (eC (.int 1))) oNone)) (gVar 2) bYes (eOp cntD (eSlice (eVar 3) (oSome (eVar 2)) (oSome (eOp addD (eVar 2) (eOp itemD (eVar 1) (eC (.int 0)))))) (eC (.str (S [98]))))))) (sRet (eOp gtD (eOp subI (eOp itemD (eVar 4) (eC (.int 0))) (eOp itemD (eVar 4) (eC (.int 1)))) (eC (.int 1))))))))
def phi_is_ring_bar : Fn := runD N_is_ring_bar.length F_is_ring_bar
theorem D_is_ring_bar (T : Tops w K mg) : FnD P w K mg base "is_ring_bar" (top 24) ["ring", "thing"] 4 phi_is_ring_bar := by
  obtain ⟨fa, fd, hm, Fu, hb⟩ := T.f_is_ring_bar
  exact fn_D (k := 3) (F := F_is_ring_bar) Fu sc_is_ring_bar hm hb (fun cdv A outer s H E B hr => by
    have hu : (A.deeper (envOfC "is_ring_bar" (defScope (top 24)) s.heap.objs.size fa cdv)).units + 64 < cLine := by have := hr.un; omega
    have S := sc_is_ring_bar
    exact (ss_cons (s_if (L2.PW.pt (w_or (t_not (t_tru (d_call (D_is_row_basics (P := P) (base := base) T) hr (by decide) (by rfl) (a_cons (d_var 1) (a_cons d_int a_nil))))) (w_or (t_not (t_tru (d_call (D_is_number (P := P) (base := base) T) hr (by decide) (by rfl) (a_cons (d_item (d_var 1) d_int) a_nil)))) (w_or1 (t_cmp od_gt (d_item (d_var 1) d_int) (d_callB cd_len (l_cons (d_var 0) l_nil) T.n_len (by decide +kernel)) (by rfl)))))) (ss_one (s_ret d_bl)) ss_nil) (ss_cons (s_if (t_not (t_tru (d_callB (cd_all rfl) (l_cons (d_lc [("place", 2)] rfl S.nd (i_any (d_slice (d_var 1) (o_some d_int) o_none)) (blkOk_by (by show blkC N_is_ring_bar (defScope (top 24)) _ _ = true; decide +kernel)) (by decide) (fun _ _ _ _ _ => (g_var 2 S.nd)) (fun _ _ _ _ _ => ts_nil) (fun _ _ _ _ _ => (d_call (D_is_below (P := P) (base := base) T) hr (by decide) (by rfl) (a_cons (d_var 2) (a_cons (d_callB cd_len (l_cons (d_var 0) l_nil) T.n_len (by decide +kernel)) a_nil))))) l_nil) T.n_all (by decide +kernel)))) (ss_one (s_ret d_bl)) ss_nil) (ss_cons (s_asg 3 (d_op od_mul (d_var 0) d_int) S.nd) (ss_cons (s_setLc 4 [("place", 2)] rfl S.nd (i_any (d_slice (d_var 1) (o_some d_int) o_none)) (blkOk_by (by show blkC N_is_ring_bar (defScope (top 24)) _ _ = true; decide +kernel)) (by decide) (fun _ _ _ _ _ => (g_var 2 S.nd)) (fun _ _ _ _ _ => ts_nil) (fun _ _ _ _ _ => (d_count (d_slice (d_var 3) (o_some (d_var 2)) (o_some (d_op od_add (d_var 2) (d_item (d_var 1) d_int)))) (d_strS (by decide +kernel))))) (ss_one (s_ret (d_cmp od_gt (d_op od_sub (d_item (d_var 4) d_int) (d_item (d_var 4) d_int)) d_int (by rfl))))))))) (fun ds s d s' _ h => h)
abbrev N_is_bar : List Str := ["ring", "thing"]
theorem sc_is_bar : FnScope N_is_bar ["ring", "thing"] (defScope (top 25)) := ⟨rfl, rfl, rfl, by decide +kernel, rfl, by decide +kernel, by decide +kernel⟩
def F_is_bar : DS := (sRet (cF (phi_is_ring_bar) 2 (aCons (cF (phi_need_ring) 1 (aCons (eVar 0) aNil)) (aCons (eVar 1) aNil))))
def phi_is_bar : Fn := runD N_is_bar.length F_is_bar
theorem D_is_bar (T : Tops w K mg) : FnD P w K mg base "is_bar" (top 25) ["ring", "thing"] 5 phi_is_bar := by
  obtain ⟨fa, fd, hm, Fu, hb⟩ := T.f_is_bar
  exact fn_D (k := 4) (F := F_is_bar) Fu sc_is_bar hm hb (fun cdv A outer s H E B hr => by
    have hu : (A.deeper (envOfC "is_bar" (defScope (top 25)) s.heap.objs.size fa cdv)).units + 64 < cLine := by have := hr.un; omega
    have S := sc_is_bar
    exact (ss_one (s_ret (d_call (D_is_ring_bar (P := P) (base := base) T) hr (by decide) (by rfl) (a_cons (d_call (D_need_ring (P := P) (base := base) T) hr (by decide) (by rfl) (a_cons (d_var 0) a_nil)) (a_cons (d_var 1) a_nil)))))) (fun ds s d s' _ h => h)
abbrev N_law : List Str := ["script", "stream", "turn", "ring", "turns", "bars", "size", "more", "less", "is_own", "told_v", "bar", "least", "core"]
theorem sc_law : FnScope N_law ["script"] (defScope (top 38)) := ⟨rfl, rfl, rfl, by decide +kernel, rfl, by decide +kernel, by decide +kernel⟩
def F_law : DS := (sSeq (sFor (iRange1 (eC (.int 3))) (gVar 2) (sSeq (sAsg 3 (cF (phi__law_v_ring) 2 (aConsP 1 (aCons (eC (.int 9)) aNil)))) (sSeq (sAsgG (gTupD 2 (gConsD (gVar 4) (gConsD (gVar 5) gNilD))) (eTup (lCons (cF (phi__law_v_turns) 1 (aCons (eVar 3) aNil)) (lCons (eLst lNil) lNil)))) (sSeq (sFor (iRange1 (eOp addD (eCallB lenD (lCons (eVar 3) lNil)) (eC (.int 1)))) (gVar 6) (sFor (iRange1 (eCallB lenD (lCons (eVar 3) lNil))) (gVar 7) (sFor (iRange1 (eCallB lenD (lCons (eVar 3) lNil))) (gVar 8) (sSeq (sAsg 9 (eOp gtD (cF (phi__law_v_count) 1 (aCons (eSlice (eOp itemD (eVar 4) (eVar 7)) oNone (oSome (eVar 6))) aNil)) (eOp addD (cF (phi__law_v_count) 1 (aCons (eSlice (eOp itemD (eVar 4) (eVar 8)) oNone (oSome (eVar 6))) aNil)) (eC (.int 1))))) (sSeq (sIf (bOp neD (cF (phi_is_bar) 2 (aCons (eVar 3) (aCons (eTup (lCons (eVar 6) (lCons (eVar 7) (lCons (eVar 8) lNil)))) aNil))) (eVar 9)) (sRet (eC (.bool false))) sNil) (sAsg 5 (eOp addD (eVar 5) (eIf (bTru (eVar 9)) (eLst (lCons (eTup (lCons (eVar 6) (lCons (eVar 7) (lCons (eVar 8) lNil)))) lNil)) (eLst lNil))))))))) (sSeq (sAsg 10 (cF (phi_even_or_bar) 1 (aCons (eVar 3) aNil))) (sSeq (sIf (bOp neD (eOp eqD (eVar 5) (eLst lNil)) (eOp eqD (eVar 10) (eTup (lCons (eC (.str (S [101, 118, 101, 110]))) lNil)))) (sRet (eC (.bool false))) sNil) (sIf (bOp neD (eVar 5) (eLst lNil)) (sSeq (sAsg 6 (eCallB minLD (lCons (eFL (fComp [11] (iOf anyOf (eVar 5)) (gVar 11) bYes (eOp itemD (eVar 11) (eC (.int 0))))) lNil))) (sSeq (sAsg 12 (eFL (fComp [11] (iOf anyOf (eVar 5)) (gVar 11) (bOp eqD (eOp itemD (eVar 11) (eC (.int 0))) (eVar 6)) (eVar 11)))) (sSeq (sAsg 13 (cF (phi_bar_core) 1 (aCons (eVar 3) aNil))) (sSeq (sIf (bOr (bOp neD (eOp itemD (eVar 10) (eC (.int 1))) (eVar 6)) (bOr (bOp notInD (eSlice (eVar 10) (oSome (eC (.int 1))) oNone) (eVar 12)) (bOr (bOp neD (eOp itemD (eVar 10) (eC (.int 2))) (eCallB minLD (lCons (eFL (fComp [11] (iOf anyOf (eVar 12)) (gVar 11) bYes (eOp itemD (eVar 11) (eC (.int 1))))) lNil))) (bOp neD (eOp itemD (eVar 10) (eC (.int 3))) (eCallB minLD (lCons (eFL (fComp [11] (iOf anyOf (eVar 12)) (gVar 11) bYes (eOp itemD (eVar 11) (eC (.int 2))))) lNil)))))) (sRet (eC (.bool false))) sNil) (sIf (bNot (bTru (eCallB all1D (lCons (eFL (fComp [11] (iOf anyOf (eVar 12)) (gVar 11) bYes (eAnd (eOp eqD (eSlice (eOp itemD (eVar 4) (eOp itemD (eVar 11) (eC (.int 1)))) oNone (oSome (eVar 6))) (eOp addD (eOp addD (eC (.str (S [98]))) (eVar 13)) (eC (.str (S [98]))))) (eOp eqD (eSlice (eOp itemD (eVar 4) (eOp itemD (eVar 11) (eC (.int 2)))) oNone (oSome (eVar 6))) (eOp addD (eOp addD (eC (.str (S [97]))) (eVar 13)) (eC (.str (S [97])))))))) lNil)))) (sRet (eC (.bool false))) sNil))))) sNil))))))) (sRet (eC (.bool true))))
theorem D_law (T : Tops w K mg) {fa : Addr} {fd : FuncData} (Fu : Fun K "law" "law" (top 38) fa fd) (hF : ∀ (sa ca : Addr) (ns : List Int), ns.length ≤ 63 → ∃ s', F_law (lawStart N_law.length sa) (some ⟨sa, ca, ns, 0, 0, 17⟩) = some (.rt (.bool true), s')) : FnOk P w K mg base CX0 6 fa fd ["script"] (spLaw 63 K) := by
  refine law_D (k := 5) Fu sc_law rfl rfl rfl rfl rfl rfl ?st (by decide) (fun cdv A outer s H E B hr => by
    have hu : (A.deeper (envOfC "law" (defScope (top 38)) s.heap.objs.size fa cdv)).units + 64 < cLine := by have := hr.un; omega
    have S := sc_law
    exact (ss_cons (s_for PassesOwn.never rfl (i_range1 d_int T.n_range) (g_var 2 S.nd) (ss_cons (s_asg 3 (d_call (D__law_v_ring (P := P) (base := base) T) hr (by decide) (by rfl) (a_consP 1 (a_cons d_int a_nil))) S.nd) (ss_cons (s_asgG (d_tup (l_cons (d_call (D__law_v_turns (P := P) (base := base) T) hr (by decide) (by rfl) (a_cons (d_var 3) a_nil)) (l_cons (d_lst l_nil) l_nil))) (g_tup rfl (gs_cons (g_var 4 S.nd) (gs_cons (g_var 5 S.nd) gs_nil)))) (ss_cons (s_for PassesOwn.never rfl (i_range1 (d_op od_add (d_callB cd_len (l_cons (d_var 3) l_nil) T.n_len (by decide +kernel)) d_int) T.n_range) (g_var 6 S.nd) (ss_one (s_for PassesOwn.never rfl (i_range1 (d_callB cd_len (l_cons (d_var 3) l_nil) T.n_len (by decide +kernel)) T.n_range) (g_var 7 S.nd) (ss_one (s_for PassesOwn.never rfl (i_range1 (d_callB cd_len (l_cons (d_var 3) l_nil) T.n_len (by decide +kernel)) T.n_range) (g_var 8 S.nd) (ss_cons (s_asg 9 (d_cmp od_gt (d_call (D__law_v_count (P := P) (base := base) T) hr (by decide) (by rfl) (a_cons (d_slice (d_item (d_var 4) (d_var 7)) o_none (o_some (d_var 6))) a_nil)) (d_op od_add (d_call (D__law_v_count (P := P) (base := base) T) hr (by decide) (by rfl) (a_cons (d_slice (d_item (d_var 4) (d_var 8)) o_none (o_some (d_var 6))) a_nil)) d_int) (by rfl)) S.nd) (ss_cons (s_if (t_cmp (od_ne hu) (d_call (D_is_bar (P := P) (base := base) T) hr (by decide) (by rfl) (a_cons (d_var 3) (a_cons (d_tup (l_cons (d_var 6) (l_cons (d_var 7) (l_cons (d_var 8) l_nil)))) a_nil))) (d_var 9) (by rfl)) (ss_one (s_ret d_bl)) ss_nil) (ss_one (s_asg 5 (d_op od_add (d_var 5) (d_ifExp (t_tru (d_var 9)) (d_lst (l_cons (d_tup (l_cons (d_var 6) (l_cons (d_var 7) (l_cons (d_var 8) l_nil)))) l_nil)) (d_lst l_nil))) S.nd))))))))) (ss_cons (s_asg 10 (d_call (D_even_or_bar (P := P) (base := base) T) hr (by decide) (by rfl) (a_cons (d_var 3) a_nil)) S.nd) (ss_cons (s_if (t_cmp (od_ne hu) (d_cmp (od_eq hu) (d_var 5) (d_lst l_nil) (by rfl)) (d_cmp (od_eq hu) (d_var 10) (d_tup (l_cons (d_strS (by decide +kernel)) l_nil)) (by rfl)) (by rfl)) (ss_one (s_ret d_bl)) ss_nil) (ss_one (s_if (t_cmp (od_ne hu) (d_var 5) (d_lst l_nil) (by rfl)) (ss_cons (s_asg 6 (d_callB (cd_min rfl hu) (l_cons (d_lc [("bar", 11)] rfl S.nd (i_any (d_var 5)) (blkOk_by (by show blkC N_law (defScope (top 38)) _ _ = true; decide +kernel)) (by decide) (fun _ _ _ _ _ => (g_var 11 S.nd)) (fun _ _ _ _ _ => ts_nil) (fun _ _ _ _ _ => (d_item (d_var 11) d_int))) l_nil) T.n_min (by decide +kernel)) S.nd) (ss_cons (s_setLc 12 [("bar", 11)] rfl S.nd (i_any (d_var 5)) (blkOk_by (by show blkC N_law (defScope (top 38)) _ _ = true; decide +kernel)) (by decide) (fun _ _ _ _ _ => (g_var 11 S.nd)) (fun _ _ _ _ _ => (ts_one (t_cmp (od_eq hu) (d_item (d_var 11) d_int) (d_var 6) (by rfl)))) (fun _ _ _ _ _ => (d_var 11))) (ss_cons (s_asg 13 (d_call (D_bar_core (P := P) (base := base) T) hr (by decide) (by rfl) (a_cons (d_var 3) a_nil)) S.nd) (ss_cons (s_if (L2.PW.pt (w_or (t_cmp (od_ne hu) (d_item (d_var 10) d_int) (d_var 6) (by rfl)) (w_or (t_cmp (od_notIn hu) (d_slice (d_var 10) (o_some d_int) o_none) (d_var 12) (by rfl)) (w_or (t_cmp (od_ne hu) (d_item (d_var 10) d_int) (d_callB (cd_min rfl hu) (l_cons (d_lc [("bar", 11)] rfl S.nd (i_any (d_var 12)) (blkOk_by (by show blkC N_law (defScope (top 38)) _ _ = true; decide +kernel)) (by decide) (fun _ _ _ _ _ => (g_var 11 S.nd)) (fun _ _ _ _ _ => ts_nil) (fun _ _ _ _ _ => (d_item (d_var 11) d_int))) l_nil) T.n_min (by decide +kernel)) (by rfl)) (w_or1 (t_cmp (od_ne hu) (d_item (d_var 10) d_int) (d_callB (cd_min rfl hu) (l_cons (d_lc [("bar", 11)] rfl S.nd (i_any (d_var 12)) (blkOk_by (by show blkC N_law (defScope (top 38)) _ _ = true; decide +kernel)) (by decide) (fun _ _ _ _ _ => (g_var 11 S.nd)) (fun _ _ _ _ _ => ts_nil) (fun _ _ _ _ _ => (d_item (d_var 11) d_int))) l_nil) T.n_min (by decide +kernel)) (by rfl))))))) (ss_one (s_ret d_bl)) ss_nil) (ss_one (s_if (t_not (t_tru (d_callB (cd_all rfl) (l_cons (d_lc [("bar", 11)] rfl S.nd (i_any (d_var 12)) (blkOk_by (by show blkC N_law (defScope (top 38)) _ _ = true; decide +kernel)) (by decide) (fun _ _ _ _ _ => (g_var 11 S.nd)) (fun _ _ _ _ _ => ts_nil) (fun _ _ _ _ _ => (d_and (d_cmp (od_eq hu) (d_slice (d_item (d_var 4) (d_item (d_var 11) d_int)) o_none (o_some (d_var 6))) (d_op od_add (d_op od_add (d_strS (by decide +kernel)) (d_var 13)) (d_strS (by decide +kernel))) (by rfl)) (d_one (d_cmp (od_eq hu) (d_slice (d_item (d_var 4) (d_item (d_var 11) d_int)) o_none (o_some (d_var 6))) (d_op od_add (d_op od_add (d_strS (by decide +kernel)) (d_var 13)) (d_strS (by decide +kernel))) (by rfl)))))) l_nil) T.n_all (by decide +kernel)))) (ss_one (s_ret d_bl)) ss_nil)))))) ss_nil)))))))) (ss_one (s_ret d_bl)))) hF
  obtain ⟨f1, fd1, h1, h2, h3⟩ := T.f__law_stream
  exact ⟨f1, fd1, _, h1, h2, h3, stream_ok h2 ⟨rfl, rfl, rfl, by decide +kernel, rfl, by decide +kernel, by decide +kernel⟩ rfl rfl rfl T.n_list rfl⟩
end
/-- the top, by what k_is finds -/
theorem tops_mk {w : World} {K : PySem.W.Frag} {h : Heap} {mg : Str → Option Value} (X : K.In h) (G : h.Ns mainGlobals mg)
    {f0 : Addr} {oc0 kV0 dc0 pm0 cd0 ct0 : Value} {od0 an0 : Option Addr} {sl0 : Array (Option Value)} (a0 : PySem.W.nsIn K mainGlobals "_law_draw" = some (some (.ref f0))) (l0 : K.lookup f0 = some ⟨oc0, od0, .func (PySem.W.fnOf "_law_draw" "_law_draw" (defArgs (top 29)) (defBody (top 29)) (defScope (top 29)) .none kV0 dc0 pm0 an0 cd0 ct0), sl0⟩) (c0 : PySem.W.codeIn K cd0 "_law_draw" = true) (k0 : PySem.W.keepIn K (.ref f0) = true)
    {f1 : Addr} {oc1 kV1 dc1 pm1 cd1 ct1 : Value} {od1 an1 : Option Addr} {sl1 : Array (Option Value)} (a1 : PySem.W.nsIn K mainGlobals "_law_v_spread" = some (some (.ref f1))) (l1 : K.lookup f1 = some ⟨oc1, od1, .func (PySem.W.fnOf "_law_v_spread" "_law_v_spread" (defArgs (top 33)) (defBody (top 33)) (defScope (top 33)) .none kV1 dc1 pm1 an1 cd1 ct1), sl1⟩) (c1 : PySem.W.codeIn K cd1 "_law_v_spread" = true) (k1 : PySem.W.keepIn K (.ref f1) = true)
    {f2 : Addr} {oc2 kV2 dc2 pm2 cd2 ct2 : Value} {od2 an2 : Option Addr} {sl2 : Array (Option Value)} (a2 : PySem.W.nsIn K mainGlobals "_law_v_even" = some (some (.ref f2))) (l2 : K.lookup f2 = some ⟨oc2, od2, .func (PySem.W.fnOf "_law_v_even" "_law_v_even" (defArgs (top 35)) (defBody (top 35)) (defScope (top 35)) .none kV2 dc2 pm2 an2 cd2 ct2), sl2⟩) (c2 : PySem.W.codeIn K cd2 "_law_v_even" = true) (k2 : PySem.W.keepIn K (.ref f2) = true)
    {f3 : Addr} {oc3 kV3 dc3 pm3 cd3 ct3 : Value} {od3 an3 : Option Addr} {sl3 : Array (Option Value)} (a3 : PySem.W.nsIn K mainGlobals "_law_pick" = some (some (.ref f3))) (l3 : K.lookup f3 = some ⟨oc3, od3, .func (PySem.W.fnOf "_law_pick" "_law_pick" (defArgs (top 30)) (defBody (top 30)) (defScope (top 30)) .none kV3 dc3 pm3 an3 cd3 ct3), sl3⟩) (c3 : PySem.W.codeIn K cd3 "_law_pick" = true) (k3 : PySem.W.keepIn K (.ref f3) = true)
    {f4 : Addr} {oc4 kV4 dc4 pm4 cd4 ct4 : Value} {od4 an4 : Option Addr} {sl4 : Array (Option Value)} (a4 : PySem.W.nsIn K mainGlobals "_law_v_drawn" = some (some (.ref f4))) (l4 : K.lookup f4 = some ⟨oc4, od4, .func (PySem.W.fnOf "_law_v_drawn" "_law_v_drawn" (defArgs (top 34)) (defBody (top 34)) (defScope (top 34)) .none kV4 dc4 pm4 an4 cd4 ct4), sl4⟩) (c4 : PySem.W.codeIn K cd4 "_law_v_drawn" = true) (k4 : PySem.W.keepIn K (.ref f4) = true)
    {f5 : Addr} {oc5 kV5 dc5 pm5 cd5 ct5 : Value} {od5 an5 : Option Addr} {sl5 : Array (Option Value)} (a5 : PySem.W.nsIn K mainGlobals "_law_v_bent" = some (some (.ref f5))) (l5 : K.lookup f5 = some ⟨oc5, od5, .func (PySem.W.fnOf "_law_v_bent" "_law_v_bent" (defArgs (top 36)) (defBody (top 36)) (defScope (top 36)) .none kV5 dc5 pm5 an5 cd5 ct5), sl5⟩) (c5 : PySem.W.codeIn K cd5 "_law_v_bent" = true) (k5 : PySem.W.keepIn K (.ref f5) = true)
    {f6 : Addr} {oc6 kV6 dc6 pm6 cd6 ct6 : Value} {od6 an6 : Option Addr} {sl6 : Array (Option Value)} (a6 : PySem.W.nsIn K mainGlobals "_law_v_ring" = some (some (.ref f6))) (l6 : K.lookup f6 = some ⟨oc6, od6, .func (PySem.W.fnOf "_law_v_ring" "_law_v_ring" (defArgs (top 37)) (defBody (top 37)) (defScope (top 37)) .none kV6 dc6 pm6 an6 cd6 ct6), sl6⟩) (c6 : PySem.W.codeIn K cd6 "_law_v_ring" = true) (k6 : PySem.W.keepIn K (.ref f6) = true)
    {f7 : Addr} {oc7 kV7 dc7 pm7 cd7 ct7 : Value} {od7 an7 : Option Addr} {sl7 : Array (Option Value)} (a7 : PySem.W.nsIn K mainGlobals "told" = some (some (.ref f7))) (l7 : K.lookup f7 = some ⟨oc7, od7, .func (PySem.W.fnOf "told" "told" (defArgs (top 22)) (defBody (top 22)) (defScope (top 22)) .none kV7 dc7 pm7 an7 cd7 ct7), sl7⟩) (c7 : PySem.W.codeIn K cd7 "told" = true) (k7 : PySem.W.keepIn K (.ref f7) = true)
    {f8 : Addr} {oc8 kV8 dc8 pm8 cd8 ct8 : Value} {od8 an8 : Option Addr} {sl8 : Array (Option Value)} (a8 : PySem.W.nsIn K mainGlobals "first_bar" = some (some (.ref f8))) (l8 : K.lookup f8 = some ⟨oc8, od8, .func (PySem.W.fnOf "first_bar" "first_bar" (defArgs (top 19)) (defBody (top 19)) (defScope (top 19)) .none kV8 dc8 pm8 an8 cd8 ct8), sl8⟩) (c8 : PySem.W.codeIn K cd8 "first_bar" = true) (k8 : PySem.W.keepIn K (.ref f8) = true)
    {f9 : Addr} {oc9 kV9 dc9 pm9 cd9 ct9 : Value} {od9 an9 : Option Addr} {sl9 : Array (Option Value)} (a9 : PySem.W.nsIn K mainGlobals "heads_of" = some (some (.ref f9))) (l9 : K.lookup f9 = some ⟨oc9, od9, .func (PySem.W.fnOf "heads_of" "heads_of" (defArgs (top 18)) (defBody (top 18)) (defScope (top 18)) .none kV9 dc9 pm9 an9 cd9 ct9), sl9⟩) (c9 : PySem.W.codeIn K cd9 "heads_of" = true) (k9 : PySem.W.keepIn K (.ref f9) = true)
    {f10 : Addr} {oc10 kV10 dc10 pm10 cd10 ct10 : Value} {od10 an10 : Option Addr} {sl10 : Array (Option Value)} (a10 : PySem.W.nsIn K mainGlobals "ring_lots" = some (some (.ref f10))) (l10 : K.lookup f10 = some ⟨oc10, od10, .func (PySem.W.fnOf "ring_lots" "ring_lots" (defArgs (top 20)) (defBody (top 20)) (defScope (top 20)) .none kV10 dc10 pm10 an10 cd10 ct10), sl10⟩) (c10 : PySem.W.codeIn K cd10 "ring_lots" = true) (k10 : PySem.W.keepIn K (.ref f10) = true)
    {f11 : Addr} {oc11 kV11 dc11 pm11 cd11 ct11 : Value} {od11 an11 : Option Addr} {sl11 : Array (Option Value)} (a11 : PySem.W.nsIn K mainGlobals "bar_by" = some (some (.ref f11))) (l11 : K.lookup f11 = some ⟨oc11, od11, .func (PySem.W.fnOf "bar_by" "bar_by" (defArgs (top 21)) (defBody (top 21)) (defScope (top 21)) .none kV11 dc11 pm11 an11 cd11 ct11), sl11⟩) (c11 : PySem.W.codeIn K cd11 "bar_by" = true) (k11 : PySem.W.keepIn K (.ref f11) = true)
    {f12 : Addr} {oc12 kV12 dc12 pm12 cd12 ct12 : Value} {od12 an12 : Option Addr} {sl12 : Array (Option Value)} (a12 : PySem.W.nsIn K mainGlobals "is_of" = some (some (.ref f12))) (l12 : K.lookup f12 = some ⟨oc12, od12, .func (PySem.W.fnOf "is_of" "is_of" (defArgs (top 7)) (defBody (top 7)) (defScope (top 7)) .none kV12 dc12 pm12 an12 cd12 ct12), sl12⟩) (c12 : PySem.W.codeIn K cd12 "is_of" = true) (k12 : PySem.W.keepIn K (.ref f12) = true)
    {f13 : Addr} {oc13 kV13 dc13 pm13 cd13 ct13 : Value} {od13 an13 : Option Addr} {sl13 : Array (Option Value)} (a13 : PySem.W.nsIn K mainGlobals "is_row_words" = some (some (.ref f13))) (l13 : K.lookup f13 = some ⟨oc13, od13, .func (PySem.W.fnOf "is_row" "is_row" (defArgs (top 13)) (defBody (top 13)) (defScope (top 13)) .none kV13 dc13 pm13 an13 cd13 ct13), sl13⟩) (c13 : PySem.W.codeIn K cd13 "is_row" = true) (k13 : PySem.W.keepIn K (.ref f13) = true)
    {f14 : Addr} {oc14 kV14 dc14 pm14 cd14 ct14 : Value} {od14 an14 : Option Addr} {sl14 : Array (Option Value)} (a14 : PySem.W.nsIn K mainGlobals "is_word" = some (some (.ref f14))) (l14 : K.lookup f14 = some ⟨oc14, od14, .func (PySem.W.fnOf "is_word" "is_word" (defArgs (top 15)) (defBody (top 15)) (defScope (top 15)) .none kV14 dc14 pm14 an14 cd14 ct14), sl14⟩) (c14 : PySem.W.codeIn K cd14 "is_word" = true) (k14 : PySem.W.keepIn K (.ref f14) = true)
    {f15 : Addr} {oc15 kV15 dc15 pm15 cd15 ct15 : Value} {od15 an15 : Option Addr} {sl15 : Array (Option Value)} (a15 : PySem.W.nsIn K mainGlobals "need_ring" = some (some (.ref f15))) (l15 : K.lookup f15 = some ⟨oc15, od15, .func (PySem.W.fnOf "need_ring" "need_ring" (defArgs (top 16)) (defBody (top 16)) (defScope (top 16)) .none kV15 dc15 pm15 an15 cd15 ct15), sl15⟩) (c15 : PySem.W.codeIn K cd15 "need_ring" = true) (k15 : PySem.W.keepIn K (.ref f15) = true)
    {f16 : Addr} {oc16 kV16 dc16 pm16 cd16 ct16 : Value} {od16 an16 : Option Addr} {sl16 : Array (Option Value)} (a16 : PySem.W.nsIn K mainGlobals "even_or_bar" = some (some (.ref f16))) (l16 : K.lookup f16 = some ⟨oc16, od16, .func (PySem.W.fnOf "even_or_bar" "even_or_bar" (defArgs (top 23)) (defBody (top 23)) (defScope (top 23)) .none kV16 dc16 pm16 an16 cd16 ct16), sl16⟩) (c16 : PySem.W.codeIn K cd16 "even_or_bar" = true) (k16 : PySem.W.keepIn K (.ref f16) = true)
    {f17 : Addr} {oc17 kV17 dc17 pm17 cd17 ct17 : Value} {od17 an17 : Option Addr} {sl17 : Array (Option Value)} (a17 : PySem.W.nsIn K mainGlobals "_law_v_turns" = some (some (.ref f17))) (l17 : K.lookup f17 = some ⟨oc17, od17, .func (PySem.W.fnOf "_law_v_turns" "_law_v_turns" (defArgs (top 31)) (defBody (top 31)) (defScope (top 31)) .none kV17 dc17 pm17 an17 cd17 ct17), sl17⟩) (c17 : PySem.W.codeIn K cd17 "_law_v_turns" = true) (k17 : PySem.W.keepIn K (.ref f17) = true)
    {f18 : Addr} {oc18 kV18 dc18 pm18 cd18 ct18 : Value} {od18 an18 : Option Addr} {sl18 : Array (Option Value)} (a18 : PySem.W.nsIn K mainGlobals "bar_core" = some (some (.ref f18))) (l18 : K.lookup f18 = some ⟨oc18, od18, .func (PySem.W.fnOf "bar_core" "bar_core" (defArgs (top 26)) (defBody (top 26)) (defScope (top 26)) .none kV18 dc18 pm18 an18 cd18 ct18), sl18⟩) (c18 : PySem.W.codeIn K cd18 "bar_core" = true) (k18 : PySem.W.keepIn K (.ref f18) = true)
    {f19 : Addr} {oc19 kV19 dc19 pm19 cd19 ct19 : Value} {od19 an19 : Option Addr} {sl19 : Array (Option Value)} (a19 : PySem.W.nsIn K mainGlobals "_law_v_count" = some (some (.ref f19))) (l19 : K.lookup f19 = some ⟨oc19, od19, .func (PySem.W.fnOf "_law_v_count" "_law_v_count" (defArgs (top 32)) (defBody (top 32)) (defScope (top 32)) .none kV19 dc19 pm19 an19 cd19 ct19), sl19⟩) (c19 : PySem.W.codeIn K cd19 "_law_v_count" = true) (k19 : PySem.W.keepIn K (.ref f19) = true)
    {f20 : Addr} {oc20 kV20 dc20 pm20 cd20 ct20 : Value} {od20 an20 : Option Addr} {sl20 : Array (Option Value)} (a20 : PySem.W.nsIn K mainGlobals "is_list" = some (some (.ref f20))) (l20 : K.lookup f20 = some ⟨oc20, od20, .func (PySem.W.fnOf "is_list" "is_list" (defArgs (top 1)) (defBody (top 1)) (defScope (top 1)) .none kV20 dc20 pm20 an20 cd20 ct20), sl20⟩) (c20 : PySem.W.codeIn K cd20 "is_list" = true) (k20 : PySem.W.keepIn K (.ref f20) = true)
    {f21 : Addr} {oc21 kV21 dc21 pm21 cd21 ct21 : Value} {od21 an21 : Option Addr} {sl21 : Array (Option Value)} (a21 : PySem.W.nsIn K mainGlobals "is_row_basics" = some (some (.ref f21))) (l21 : K.lookup f21 = some ⟨oc21, od21, .func (PySem.W.fnOf "is_row" "is_row" (defArgs (top 5)) (defBody (top 5)) (defScope (top 5)) .none kV21 dc21 pm21 an21 cd21 ct21), sl21⟩) (c21 : PySem.W.codeIn K cd21 "is_row" = true) (k21 : PySem.W.keepIn K (.ref f21) = true)
    {f22 : Addr} {oc22 kV22 dc22 pm22 cd22 ct22 : Value} {od22 an22 : Option Addr} {sl22 : Array (Option Value)} (a22 : PySem.W.nsIn K mainGlobals "is_whole" = some (some (.ref f22))) (l22 : K.lookup f22 = some ⟨oc22, od22, .func (PySem.W.fnOf "is_whole" "is_whole" (defArgs (top 2)) (defBody (top 2)) (defScope (top 2)) .none kV22 dc22 pm22 an22 cd22 ct22), sl22⟩) (c22 : PySem.W.codeIn K cd22 "is_whole" = true) (k22 : PySem.W.keepIn K (.ref f22) = true)
    {f23 : Addr} {oc23 kV23 dc23 pm23 cd23 ct23 : Value} {od23 an23 : Option Addr} {sl23 : Array (Option Value)} (a23 : PySem.W.nsIn K mainGlobals "is_number" = some (some (.ref f23))) (l23 : K.lookup f23 = some ⟨oc23, od23, .func (PySem.W.fnOf "is_number" "is_number" (defArgs (top 3)) (defBody (top 3)) (defScope (top 3)) .none kV23 dc23 pm23 an23 cd23 ct23), sl23⟩) (c23 : PySem.W.codeIn K cd23 "is_number" = true) (k23 : PySem.W.keepIn K (.ref f23) = true)
    {f24 : Addr} {oc24 kV24 dc24 pm24 cd24 ct24 : Value} {od24 an24 : Option Addr} {sl24 : Array (Option Value)} (a24 : PySem.W.nsIn K mainGlobals "is_below" = some (some (.ref f24))) (l24 : K.lookup f24 = some ⟨oc24, od24, .func (PySem.W.fnOf "is_below" "is_below" (defArgs (top 4)) (defBody (top 4)) (defScope (top 4)) .none kV24 dc24 pm24 an24 cd24 ct24), sl24⟩) (c24 : PySem.W.codeIn K cd24 "is_below" = true) (k24 : PySem.W.keepIn K (.ref f24) = true)
    {f25 : Addr} {oc25 kV25 dc25 pm25 cd25 ct25 : Value} {od25 an25 : Option Addr} {sl25 : Array (Option Value)} (a25 : PySem.W.nsIn K mainGlobals "is_ring_bar" = some (some (.ref f25))) (l25 : K.lookup f25 = some ⟨oc25, od25, .func (PySem.W.fnOf "is_ring_bar" "is_ring_bar" (defArgs (top 24)) (defBody (top 24)) (defScope (top 24)) .none kV25 dc25 pm25 an25 cd25 ct25), sl25⟩) (c25 : PySem.W.codeIn K cd25 "is_ring_bar" = true) (k25 : PySem.W.keepIn K (.ref f25) = true)
    {f26 : Addr} {oc26 kV26 dc26 pm26 cd26 ct26 : Value} {od26 an26 : Option Addr} {sl26 : Array (Option Value)} (a26 : PySem.W.nsIn K mainGlobals "is_bar" = some (some (.ref f26))) (l26 : K.lookup f26 = some ⟨oc26, od26, .func (PySem.W.fnOf "is_bar" "is_bar" (defArgs (top 25)) (defBody (top 25)) (defScope (top 25)) .none kV26 dc26 pm26 an26 cd26 ct26), sl26⟩) (c26 : PySem.W.codeIn K cd26 "is_bar" = true) (k26 : PySem.W.keepIn K (.ref f26) = true)
    {f27 : Addr} {oc27 kV27 dc27 pm27 cd27 ct27 : Value} {od27 an27 : Option Addr} {sl27 : Array (Option Value)} (a27 : PySem.W.nsIn K mainGlobals "law" = some (some (.ref f27))) (l27 : K.lookup f27 = some ⟨oc27, od27, .func (PySem.W.fnOf "law" "law" (defArgs (top 38)) (defBody (top 38)) (defScope (top 38)) .none kV27 dc27 pm27 an27 cd27 ct27), sl27⟩) (c27 : PySem.W.codeIn K cd27 "law" = true) (k27 : PySem.W.keepIn K (.ref f27) = true)
    {f28 : Addr} {oc28 kV28 dc28 pm28 cd28 ct28 : Value} {od28 an28 : Option Addr} {sl28 : Array (Option Value)} (a28 : PySem.W.nsIn K mainGlobals "_law_stream" = some (some (.ref f28))) (l28 : K.lookup f28 = some ⟨oc28, od28, .func (PySem.W.fnOf "_law_stream" "_law_stream" (defArgs (top 28)) (defBody (top 28)) (defScope (top 28)) .none kV28 dc28 pm28 an28 cd28 ct28), sl28⟩) (c28 : PySem.W.codeIn K cd28 "_law_stream" = true) (k28 : PySem.W.keepIn K (.ref f28) = true)
    (z_abs : PySem.W.nsIn K mainGlobals "abs" = some none)
    (z_all : PySem.W.nsIn K mainGlobals "all" = some none)
    (z_bool : PySem.W.nsIn K mainGlobals "bool" = some none)
    (z_int : PySem.W.nsIn K mainGlobals "int" = some none)
    (z_isinstance : PySem.W.nsIn K mainGlobals "isinstance" = some none)
    (z_len : PySem.W.nsIn K mainGlobals "len" = some none)
    (z_list : PySem.W.nsIn K mainGlobals "list" = some none)
    (z_max : PySem.W.nsIn K mainGlobals "max" = some none)
    (z_min : PySem.W.nsIn K mainGlobals "min" = some none)
    (z_range : PySem.W.nsIn K mainGlobals "range" = some none)
    (z_str : PySem.W.nsIn K mainGlobals "str" = some none)
    (z_tuple : PySem.W.nsIn K mainGlobals "tuple" = some none)
    : Tops w K mg := ⟨PySem.W.mg_none_of X G z_abs, PySem.W.mg_none_of X G z_all, PySem.W.mg_none_of X G z_bool, PySem.W.mg_none_of X G z_int, PySem.W.mg_none_of X G z_isinstance, PySem.W.mg_none_of X G z_len, PySem.W.mg_none_of X G z_list, PySem.W.mg_none_of X G z_max, PySem.W.mg_none_of X G z_min, PySem.W.mg_none_of X G z_range, PySem.W.mg_none_of X G z_str, PySem.W.mg_none_of X G z_tuple, ⟨f0, _, PySem.W.mg_of X G a0, fun_mk (st := top 29) l0 c0 k0, (fun_mk (st := top 29) l0 c0 k0).binds (ps := ["stream", "many"]) fun _ _ _ _ _ _ us hl => match us, hl with | [_, _], _ => rfl⟩, ⟨f1, _, PySem.W.mg_of X G a1, fun_mk (st := top 33) l1 c1 k1, (fun_mk (st := top 33) l1 c1 k1).binds (ps := ["p", "q", "r"]) fun _ _ _ _ _ _ us hl => match us, hl with | [_, _, _], _ => rfl⟩, ⟨f2, _, PySem.W.mg_of X G a2, fun_mk (st := top 35) l2 c2 k2, (fun_mk (st := top 35) l2 c2 k2).binds (ps := ["stream", "most"]) fun _ _ _ _ _ _ us hl => match us, hl with | [_, _], _ => rfl⟩, ⟨f3, _, PySem.W.mg_of X G a3, fun_mk (st := top 30) l3 c3 k3, (fun_mk (st := top 30) l3 c3 k3).binds (ps := ["stream", "things"]) fun _ _ _ _ _ _ us hl => match us, hl with | [_, _], _ => rfl⟩, ⟨f4, _, PySem.W.mg_of X G a4, fun_mk (st := top 34) l4 c4 k4, (fun_mk (st := top 34) l4 c4 k4).binds (ps := ["stream", "many"]) fun _ _ _ _ _ _ us hl => match us, hl with | [_, _], _ => rfl⟩, ⟨f5, _, PySem.W.mg_of X G a5, fun_mk (st := top 36) l5 c5 k5, (fun_mk (st := top 36) l5 c5 k5).binds (ps := ["stream", "ring"]) fun _ _ _ _ _ _ us hl => match us, hl with | [_, _], _ => rfl⟩, ⟨f6, _, PySem.W.mg_of X G a6, fun_mk (st := top 37) l6 c6 k6, (fun_mk (st := top 37) l6 c6 k6).binds (ps := ["stream", "most"]) fun _ _ _ _ _ _ us hl => match us, hl with | [_, _], _ => rfl⟩, ⟨f7, _, PySem.W.mg_of X G a7, fun_mk (st := top 22) l7 c7 k7, (fun_mk (st := top 22) l7 c7 k7).binds (ps := ["bar"]) fun _ _ _ _ _ _ us hl => match us, hl with | [_], _ => rfl⟩, ⟨f8, _, PySem.W.mg_of X G a8, fun_mk (st := top 19) l8 c8 k8, (fun_mk (st := top 19) l8 c8 k8).binds (ps := ["lots"]) fun _ _ _ _ _ _ us hl => match us, hl with | [_], _ => rfl⟩, ⟨f9, _, PySem.W.mg_of X G a9, fun_mk (st := top 18) l9 c9 k9, (fun_mk (st := top 18) l9 c9 k9).binds (ps := ["row"]) fun _ _ _ _ _ _ us hl => match us, hl with | [_], _ => rfl⟩, ⟨f10, _, PySem.W.mg_of X G a10, fun_mk (st := top 20) l10 c10 k10, (fun_mk (st := top 20) l10 c10 k10).binds (ps := ["ring"]) fun _ _ _ _ _ _ us hl => match us, hl with | [_], _ => rfl⟩, ⟨f11, _, PySem.W.mg_of X G a11, fun_mk (st := top 21) l11 c11 k11, (fun_mk (st := top 21) l11 c11 k11).binds (ps := ["ring"]) fun _ _ _ _ _ _ us hl => match us, hl with | [_], _ => rfl⟩, ⟨f12, _, PySem.W.mg_of X G a12, fun_mk (st := top 7) l12 c12 k12, (fun_mk (st := top 7) l12 c12 k12).binds (ps := ["thing", "signs"]) fun _ _ _ _ _ _ us hl => match us, hl with | [_, _], _ => rfl⟩, ⟨f13, _, PySem.W.mg_of X G a13, fun_mk (st := top 13) l13 c13 k13, (fun_mk (st := top 13) l13 c13 k13).binds (ps := ["thing"]) fun _ _ _ _ _ _ us hl => match us, hl with | [_], _ => rfl⟩, ⟨f14, _, PySem.W.mg_of X G a14, fun_mk (st := top 15) l14 c14 k14, (fun_mk (st := top 15) l14 c14 k14).binds (ps := ["thing"]) fun _ _ _ _ _ _ us hl => match us, hl with | [_], _ => rfl⟩, ⟨f15, _, PySem.W.mg_of X G a15, fun_mk (st := top 16) l15 c15 k15, (fun_mk (st := top 16) l15 c15 k15).binds (ps := ["ring"]) fun _ _ _ _ _ _ us hl => match us, hl with | [_], _ => rfl⟩, ⟨f16, _, PySem.W.mg_of X G a16, fun_mk (st := top 23) l16 c16 k16, (fun_mk (st := top 23) l16 c16 k16).binds (ps := ["ring"]) fun _ _ _ _ _ _ us hl => match us, hl with | [_], _ => rfl⟩, ⟨f17, _, PySem.W.mg_of X G a17, fun_mk (st := top 31) l17 c17 k17, (fun_mk (st := top 31) l17 c17 k17).binds (ps := ["ring"]) fun _ _ _ _ _ _ us hl => match us, hl with | [_], _ => rfl⟩, ⟨f18, _, PySem.W.mg_of X G a18, fun_mk (st := top 26) l18 c18 k18, (fun_mk (st := top 26) l18 c18 k18).binds (ps := ["ring"]) fun _ _ _ _ _ _ us hl => match us, hl with | [_], _ => rfl⟩, ⟨f19, _, PySem.W.mg_of X G a19, fun_mk (st := top 32) l19 c19 k19, (fun_mk (st := top 32) l19 c19 k19).binds (ps := ["row"]) fun _ _ _ _ _ _ us hl => match us, hl with | [_], _ => rfl⟩, ⟨f20, _, PySem.W.mg_of X G a20, fun_mk (st := top 1) l20 c20 k20, (fun_mk (st := top 1) l20 c20 k20).binds (ps := ["thing"]) fun _ _ _ _ _ _ us hl => match us, hl with | [_], _ => rfl⟩, ⟨f21, _, PySem.W.mg_of X G a21, fun_mk (st := top 5) l21 c21 k21, (fun_mk (st := top 5) l21 c21 k21).binds (ps := ["thing", "many"]) fun _ _ _ _ _ _ us hl => match us, hl with | [_, _], _ => rfl⟩, ⟨f22, _, PySem.W.mg_of X G a22, fun_mk (st := top 2) l22 c22 k22, (fun_mk (st := top 2) l22 c22 k22).binds (ps := ["thing"]) fun _ _ _ _ _ _ us hl => match us, hl with | [_], _ => rfl⟩, ⟨f23, _, PySem.W.mg_of X G a23, fun_mk (st := top 3) l23 c23 k23, (fun_mk (st := top 3) l23 c23 k23).binds (ps := ["thing"]) fun _ _ _ _ _ _ us hl => match us, hl with | [_], _ => rfl⟩, ⟨f24, _, PySem.W.mg_of X G a24, fun_mk (st := top 4) l24 c24 k24, (fun_mk (st := top 4) l24 c24 k24).binds (ps := ["thing", "top"]) fun _ _ _ _ _ _ us hl => match us, hl with | [_, _], _ => rfl⟩, ⟨f25, _, PySem.W.mg_of X G a25, fun_mk (st := top 24) l25 c25 k25, (fun_mk (st := top 24) l25 c25 k25).binds (ps := ["ring", "thing"]) fun _ _ _ _ _ _ us hl => match us, hl with | [_, _], _ => rfl⟩, ⟨f26, _, PySem.W.mg_of X G a26, fun_mk (st := top 25) l26 c26 k26, (fun_mk (st := top 25) l26 c26 k26).binds (ps := ["ring", "thing"]) fun _ _ _ _ _ _ us hl => match us, hl with | [_, _], _ => rfl⟩, ⟨f27, _, PySem.W.mg_of X G a27, fun_mk (st := top 38) l27 c27 k27, (fun_mk (st := top 38) l27 c27 k27).binds (ps := ["script"]) fun _ _ _ _ _ _ us hl => match us, hl with | [_], _ => rfl⟩, ⟨f28, _, PySem.W.mg_of X G a28, fun_mk (st := top 28) l28 c28 k28, (fun_mk (st := top 28) l28 c28 k28).binds (ps := ["script"]) fun _ _ _ _ _ _ us hl => match us, hl with | [_], _ => rfl⟩⟩
end G64

namespace G64
open PySem DL
open L2 (atI ixN)
/-! ### words of a and b -/
def AB (w : List Nat) : Prop := ∀ c ∈ w, c = 97 ∨ c = 98
theorem AB.app {u v : List Nat} (h : AB u) (h' : AB v) : AB (u ++ v) := fun c hc => (List.mem_append.mp hc).elim (h c) (h' c)
theorem AB.drop {u : List Nat} (n : Nat) (h : AB u) : AB (u.drop n) := fun c hc => h c (List.mem_of_mem_drop hc)
theorem AB.take {u : List Nat} (n : Nat) (h : AB u) : AB (u.take n) := fun c hc => h c (List.mem_of_mem_take hc)
theorem in_ab {c : Nat} (h : c = 97 ∨ c = 98) : inD (.str (S [c])) (.str (S [97, 98])) = some (.bool true) := by
  rcases h with rfl | rfl <;> kernel_rfl
theorem all_true {xs : List PyData} : all1D [.list (xs.map fun _ => PyData.bool true)] = some (.bool true) := by
  unfold all1D allD
  dsimp only
  rw [boolsOf_true]
  have : (xs.map fun _ => true).all (fun b => b) = true := by rw [List.all_map]; exact List.all_eq_true.mpr fun _ _ => rfl
  rw [Option.map_some, this]
theorem is_of_ok {w : List Nat} (hw : AB w) (hl : w.length ≤ 100000) (s : SS) : phi_is_of [.d (.str (S w)), .d (.str (S [97, 98]))] s = some (.bool true, s) := by
  have key : fComp [2] (iOf anyOf (eVar 0)) (gVar 2) bYes (eOp inD (eVar 2) (eVar 1)) [some (.d (.str (S w))), some (.d (.str (S [97, 98]))), none] s = some ((DL.signs (S w)).map (fun x => PyData.bool true), s) := by
    refine fComp_map _ ?_ ?_ ?_
    · simp only [anyOf, sSeq, sNil, sFail, sAsg, sRet, sIf, sDrop, sPar, sPar3, sAsgG, sFld, sBrk, sCnt, gTupD, gConsD, gNilD, gVar, eCallB, lCons, lNil, aCons, aConsP, aNil, pVar, cF, cK, eVar, eC, eOp, bOp, eIf, eTup, eLst, eSlice, oSome, oNone, eRev, eNeg, qOf, seqOf, eUn, eAnd, eOr, eNot, bAnd, bOr, bNot, bOf, bTru, bTruQ, qVar, eItemQ, eIsi, eIsiT, isiB, anyIsi, tyName, isNonD, notNonD, isNonB, eJoin, eGet2, eFL, iOf, strOf, lstOf, tupOf, bYes, sOwn, fLst, sFrz, frz, sApp, sPop, M.bnd, M.ret, M.lift, M.fail, rget, rset, wipeR, addD_int, subI_int, modD_int, ltD_int, leD_int, gtD_int, geD_int, eqD_int, neD_int, eqD_bool, neD_bool, truD_bool, truD_int, intD_int, lenQ, eCallB, List.map, List.length_cons, List.length_nil, List.cons_append, List.nil_append, List.replicate, Nat.reduceAdd, Nat.reduceSub, if_true, if_false, Bool.false_eq_true, reduceIte, Bool.not_true, Bool.not_false, Option.map_some, Option.map_none, reduceCtorEq, decide_true, decide_false]
    · rw [signs_S, List.length_map]; show w.length ≤ 1000000; omega
    · intro x hx
      rw [signs_S] at hx
      obtain ⟨c, hc, rfl⟩ := List.mem_map.mp hx
      refine ⟨[some (.d (.str (S w))), some (.d (.str (S [97, 98]))), some (.d (.str (S [c])))], rfl, rfl, ?_⟩
      simp only [in_ab (hw c hc), sSeq, sNil, sFail, sAsg, sRet, sIf, sDrop, sPar, sPar3, sAsgG, sFld, sBrk, sCnt, gTupD, gConsD, gNilD, gVar, eCallB, lCons, lNil, aCons, aConsP, aNil, pVar, cF, cK, eVar, eC, eOp, bOp, eIf, eTup, eLst, eSlice, oSome, oNone, eRev, eNeg, qOf, seqOf, eUn, eAnd, eOr, eNot, bAnd, bOr, bNot, bOf, bTru, bTruQ, qVar, eItemQ, eIsi, eIsiT, isiB, anyIsi, tyName, isNonD, notNonD, isNonB, eJoin, eGet2, eFL, iOf, strOf, lstOf, tupOf, bYes, sOwn, fLst, sFrz, frz, sApp, sPop, M.bnd, M.ret, M.lift, M.fail, rget, rset, wipeR, addD_int, subI_int, modD_int, ltD_int, leD_int, gtD_int, geD_int, eqD_int, neD_int, eqD_bool, neD_bool, truD_bool, truD_int, intD_int, lenQ, eCallB, List.map, List.length_cons, List.length_nil, List.cons_append, List.nil_append, List.replicate, Nat.reduceAdd, Nat.reduceSub, if_true, if_false, Bool.false_eq_true, reduceIte, Bool.not_true, Bool.not_false, Option.map_some, Option.map_none, reduceCtorEq, decide_true, decide_false]
  have ha := all_true (xs := DL.signs (S w))
  unfold phi_is_of runD startD F_is_of
  simp [slOf, key, ha, sSeq, sNil, sFail, sAsg, sRet, sIf, sDrop, sPar, sPar3, sAsgG, sFld, sBrk, sCnt, gTupD, gConsD, gNilD, gVar, eCallB, lCons, lNil, aCons, aConsP, aNil, pVar, cF, cK, eVar, eC, eOp, bOp, eIf, eTup, eLst, eSlice, oSome, oNone, eRev, eNeg, qOf, seqOf, eUn, eAnd, eOr, eNot, bAnd, bOr, bNot, bOf, bTru, bTruQ, qVar, eItemQ, eIsi, eIsiT, isiB, anyIsi, tyName, isNonD, notNonD, isNonB, eJoin, eGet2, eFL, iOf, strOf, lstOf, tupOf, bYes, sOwn, fLst, sFrz, frz, sApp, sPop, M.bnd, M.ret, M.lift, M.fail, rget, rset, wipeR, addD_int, subI_int, modD_int, ltD_int, leD_int, gtD_int, geD_int, eqD_int, neD_int, eqD_bool, neD_bool, truD_bool, truD_int, intD_int, lenQ, eCallB, List.map, List.length_cons, List.length_nil, List.cons_append, List.nil_append, List.replicate, Nat.reduceAdd, Nat.reduceSub, if_true, if_false, Bool.false_eq_true, reduceIte, Bool.not_true, Bool.not_false, Option.map_some, Option.map_none, reduceCtorEq, decide_true, decide_false]
/-! ### how many b stand ahead of each place -/
def nb (w : List Nat) : Nat := w.count 98
def headsL (w : List Nat) : List PyData := (List.range (w.length + 1)).map fun k => .int (nb (w.take k) : Int)
theorem headsL_nil : headsL [] = [.int 0] := rfl
theorem headsL_snoc (w : List Nat) (c : Nat) : headsL (w ++ [c]) = headsL w ++ [.int (nb (w ++ [c]) : Int)] := by
  unfold headsL
  rw [List.length_append, List.length_singleton, List.range_succ, List.map_append, List.map_singleton]
  congr 1
  · refine List.map_congr_left fun k hk => ?_
    have := List.mem_range.mp hk
    rw [List.take_append_of_le_length (by omega)]
  · rw [List.take_of_length_le (by rw [List.length_append, List.length_singleton]; exact Nat.le_refl _)]
theorem headsL_last (w : List Nat) : ∃ g, headsL w = g ++ [.int (nb w : Int)] := by
  rcases snoc_cases w with rfl | ⟨g, x, rfl⟩
  · exact ⟨[], rfl⟩
  · exact ⟨_, headsL_snoc g x⟩
theorem headsL_len (w : List Nat) : (headsL w).length = w.length + 1 := by unfold headsL; simp
theorem headsL_get {w : List Nat} {k : Nat} (h : k ≤ w.length) : (headsL w)[k]? = some (.int (nb (w.take k) : Int)) := by
  unfold headsL
  rw [List.getElem?_map, List.getElem?_range (by omega)]
  rfl
def stepH (p : List Nat) (d : PyData) : List Nat := match d with
  | .str x => p ++ [x.cps.toList.headD 0]
  | _ => p
theorem foldl_stepH (w p : List Nat) : (DL.signs (S w)).foldl stepH p = p ++ w := by
  rw [signs_S, List.foldl_map]
  show w.foldl (fun q c => q ++ [c]) p = p ++ w
  induction w generalizing p with
  | nil => simp
  | cons c w ih => rw [List.foldl_cons, ih]; simp
theorem heads_of_ok {w : List Nat} (hl : w.length ≤ 100000) (s : SS) : phi_heads_of [.d (.str (S w))] s = some (.list (headsL w), s) := by
  have key := loop_fold (g := gVar 2) (f := sApp 1 (eOp addD (eItemQ (qVar 1) (eNeg (eC (.int 1)))) (eCallB intD (lCons (eOp eqD (eVar 2) (eC (.str (S [98])))) lNil))))
    (fun (p : List Nat) (o : Option Sl) => [some (.d (.str (S w))), some (.own (headsL p)), o]) (fun i p => p.length ≤ i) stepH s w.length (DL.signs (S w)) 0 [] none (by rw [signs_S, List.length_map, Nat.zero_add]) (Nat.zero_le _) (by
      intro x hx i p o hi hp
      rw [signs_S] at hx
      obtain ⟨c, hc, rfl⟩ := List.mem_map.mp hx
      have es : stepH p (.str (S [c])) = p ++ [c] := rfl
      refine ⟨by rw [es, List.length_append, List.length_singleton]; omega, _, rfl, some (.d (.str (S [c]))), ?_⟩
      rw [es, headsL_snoc]
      obtain ⟨g, eg⟩ := headsL_last p
      have hlen : (headsL p).length < LIM := by rw [headsL_len]; show _ < 1000000; omega
      have h3 : atI (headsL p) (-1) = some (.int (nb p : Int)) := by rw [eg]; exact atI_last _ _
      have hb : intD [.bool (decide (S [c] = S [98]))] = some (.int (if c = 98 then 1 else 0)) := by
        by_cases hc : c = 98
        · subst hc; rw [decide_eq_true rfl, if_pos rfl]; rfl
        · have : decide (S [c] = S [98]) = false := decide_eq_false (by rw [s_inj]; simpa using hc)
          rw [this, if_neg hc]; rfl
      have hn : (nb p : Int) + (if c = 98 then 1 else 0) = (nb (p ++ [c]) : Int) := by
        unfold nb
        rw [List.count_append, List.count_singleton]
        by_cases hc : c = 98
        · subst hc; simp
        · simp [hc]
      generalize headsL p = L at *
      simp only [h3, eqD_str, hb, hlen, hn, sSeq, sNil, sFail, sAsg, sRet, sIf, sDrop, sPar, sPar3, sAsgG, sFld, sBrk, sCnt, gTupD, gConsD, gNilD, gVar, eCallB, lCons, lNil, aCons, aConsP, aNil, pVar, cF, cK, eVar, eC, eOp, bOp, eIf, eTup, eLst, eSlice, oSome, oNone, eRev, eNeg, qOf, seqOf, eUn, eAnd, eOr, eNot, bAnd, bOr, bNot, bOf, bTru, bTruQ, qVar, eItemQ, eIsi, eIsiT, isiB, anyIsi, tyName, isNonD, notNonD, isNonB, eJoin, eGet2, eFL, iOf, strOf, lstOf, tupOf, bYes, sOwn, fLst, sFrz, frz, sApp, sPop, M.bnd, M.ret, M.lift, M.fail, rget, rset, wipeR, addD_int, subI_int, modD_int, ltD_int, leD_int, gtD_int, geD_int, eqD_int, neD_int, eqD_bool, neD_bool, truD_bool, truD_int, intD_int, lenQ, eCallB, List.map, List.length_cons, List.length_nil, List.cons_append, List.nil_append, List.replicate, Nat.reduceAdd, Nat.reduceSub, if_true, if_false, Bool.false_eq_true, reduceIte, Bool.not_true, Bool.not_false, Option.map_some, Option.map_none, reduceCtorEq, decide_true, decide_false])
  obtain ⟨o', e, _⟩ := key
  rw [foldl_stepH, List.nil_append] at e
  have hz : (1 ≤ LIM) = True := eq_true (by decide)
  have hi : iOf anyOf (eVar 0) [some (.d (.str (S w))), some (.own [.int 0]), none] s = some (DL.signs (S w), s) := by simp only [anyOf, sSeq, sNil, sFail, sAsg, sRet, sIf, sDrop, sPar, sPar3, sAsgG, sFld, sBrk, sCnt, gTupD, gConsD, gNilD, gVar, eCallB, lCons, lNil, aCons, aConsP, aNil, pVar, cF, cK, eVar, eC, eOp, bOp, eIf, eTup, eLst, eSlice, oSome, oNone, eRev, eNeg, qOf, seqOf, eUn, eAnd, eOr, eNot, bAnd, bOr, bNot, bOf, bTru, bTruQ, qVar, eItemQ, eIsi, eIsiT, isiB, anyIsi, tyName, isNonD, notNonD, isNonB, eJoin, eGet2, eFL, iOf, strOf, lstOf, tupOf, bYes, sOwn, fLst, sFrz, frz, sApp, sPop, M.bnd, M.ret, M.lift, M.fail, rget, rset, wipeR, addD_int, subI_int, modD_int, ltD_int, leD_int, gtD_int, geD_int, eqD_int, neD_int, eqD_bool, neD_bool, truD_bool, truD_int, intD_int, lenQ, eCallB, List.map, List.length_cons, List.length_nil, List.cons_append, List.nil_append, List.replicate, Nat.reduceAdd, Nat.reduceSub, if_true, if_false, Bool.false_eq_true, reduceIte, Bool.not_true, Bool.not_false, Option.map_some, Option.map_none, reduceCtorEq, decide_true, decide_false]
  have e0 : loopD (gVar 2) (sApp 1 (eOp addD (eItemQ (qVar 1) (eNeg (eC (.int 1)))) (eCallB intD (lCons (eOp eqD (eVar 2) (eC (.str (S [98])))) lNil)))) (DL.signs (S w)) [some (.d (.str (S w))), some (.own [.int 0]), none] s = some (.nx [some (.d (.str (S w))), some (.own (headsL w)), o'], s) := e
  have eA : sOwn 1 (fLst (lCons (eC (.int 0)) lNil)) [some (.d (.str (S w))), none, none] s = some (.nx [some (.d (.str (S w))), some (.own [.int 0]), none], s) := by simp only [hz, sSeq, sNil, sFail, sAsg, sRet, sIf, sDrop, sPar, sPar3, sAsgG, sFld, sBrk, sCnt, gTupD, gConsD, gNilD, gVar, eCallB, lCons, lNil, aCons, aConsP, aNil, pVar, cF, cK, eVar, eC, eOp, bOp, eIf, eTup, eLst, eSlice, oSome, oNone, eRev, eNeg, qOf, seqOf, eUn, eAnd, eOr, eNot, bAnd, bOr, bNot, bOf, bTru, bTruQ, qVar, eItemQ, eIsi, eIsiT, isiB, anyIsi, tyName, isNonD, notNonD, isNonB, eJoin, eGet2, eFL, iOf, strOf, lstOf, tupOf, bYes, sOwn, fLst, sFrz, frz, sApp, sPop, M.bnd, M.ret, M.lift, M.fail, rget, rset, wipeR, addD_int, subI_int, modD_int, ltD_int, leD_int, gtD_int, geD_int, eqD_int, neD_int, eqD_bool, neD_bool, truD_bool, truD_int, intD_int, lenQ, eCallB, List.map, List.length_cons, List.length_nil, List.cons_append, List.nil_append, List.replicate, Nat.reduceAdd, Nat.reduceSub, if_true, if_false, Bool.false_eq_true, reduceIte, Bool.not_true, Bool.not_false, Option.map_some, Option.map_none, reduceCtorEq, decide_true, decide_false]
  have eB : sFrz 1 (sRet (eVar 1)) [some (.d (.str (S w))), some (.own (headsL w)), o'] s = some (.rt (.list (headsL w)), s) := by simp only [sSeq, sNil, sFail, sAsg, sRet, sIf, sDrop, sPar, sPar3, sAsgG, sFld, sBrk, sCnt, gTupD, gConsD, gNilD, gVar, eCallB, lCons, lNil, aCons, aConsP, aNil, pVar, cF, cK, eVar, eC, eOp, bOp, eIf, eTup, eLst, eSlice, oSome, oNone, eRev, eNeg, qOf, seqOf, eUn, eAnd, eOr, eNot, bAnd, bOr, bNot, bOf, bTru, bTruQ, qVar, eItemQ, eIsi, eIsiT, isiB, anyIsi, tyName, isNonD, notNonD, isNonB, eJoin, eGet2, eFL, iOf, strOf, lstOf, tupOf, bYes, sOwn, fLst, sFrz, frz, sApp, sPop, M.bnd, M.ret, M.lift, M.fail, rget, rset, wipeR, addD_int, subI_int, modD_int, ltD_int, leD_int, gtD_int, geD_int, eqD_int, neD_int, eqD_bool, neD_bool, truD_bool, truD_int, intD_int, lenQ, eCallB, List.map, List.length_cons, List.length_nil, List.cons_append, List.nil_append, List.replicate, Nat.reduceAdd, Nat.reduceSub, if_true, if_false, Bool.false_eq_true, reduceIte, Bool.not_true, Bool.not_false, Option.map_some, Option.map_none, reduceCtorEq, decide_true, decide_false]
  unfold phi_heads_of runD startD F_heads_of
  simp only [slOf, List.map_cons, List.map_nil, List.length_cons, List.length_nil, Nat.reduceAdd, Nat.reduceSub, List.replicate, List.cons_append, List.nil_append]
  rw [seq_nx eA, seq_nx ((for_ev hi).trans e0), eB]
end G64

namespace G64
open PySem DL
open L2 (atI ixN)
/-! ### the first bar -/
def maxI : List Int → Int
  | [] => 0
  | n :: ns => ns.foldl max n
def minI : List Int → Int
  | [] => 0
  | n :: ns => ns.foldl min n
def idxI (ns : List Int) (v : Int) : Nat := (ns.findIdx? fun z => z == v).getD 0
theorem foldl_max_mem : ∀ (ns : List Int) (n : Int), ns.foldl max n ∈ n :: ns ∧ ∀ x ∈ n :: ns, x ≤ ns.foldl max n
  | [], n => ⟨by simp, fun x hx => by simp at hx; rw [hx]; exact Int.le_refl _⟩
  | m :: ns, n => by
    obtain ⟨h1, h2⟩ := foldl_max_mem ns (max n m)
    rw [List.foldl_cons]
    refine ⟨?_, fun x hx => ?_⟩
    · rcases List.mem_cons.mp h1 with h | h
      · rw [h]
        rcases Int.le_total n m with q | q
        · rw [Int.max_eq_right q]; simp
        · rw [Int.max_eq_left q]; simp
      · simp [h]
    · have h3 := h2 (max n m) List.mem_cons_self
      rcases List.mem_cons.mp hx with rfl | hx
      · have := Int.le_max_left x m; omega
      · rcases List.mem_cons.mp hx with rfl | hx
        · have := Int.le_max_right n x; omega
        · exact h2 x (List.mem_cons_of_mem _ hx)
theorem foldl_min_mem : ∀ (ns : List Int) (n : Int), ns.foldl min n ∈ n :: ns ∧ ∀ x ∈ n :: ns, ns.foldl min n ≤ x
  | [], n => ⟨by simp, fun x hx => by simp at hx; rw [hx]; exact Int.le_refl _⟩
  | m :: ns, n => by
    obtain ⟨h1, h2⟩ := foldl_min_mem ns (min n m)
    rw [List.foldl_cons]
    refine ⟨?_, fun x hx => ?_⟩
    · rcases List.mem_cons.mp h1 with h | h
      · rw [h]
        rcases Int.le_total n m with q | q
        · rw [Int.min_eq_left q]; simp
        · rw [Int.min_eq_right q]; simp
      · simp [h]
    · have h3 := h2 (min n m) List.mem_cons_self
      rcases List.mem_cons.mp hx with rfl | hx
      · have := Int.min_le_left x m; omega
      · rcases List.mem_cons.mp hx with rfl | hx
        · have := Int.min_le_right n x; omega
        · exact h2 x (List.mem_cons_of_mem _ hx)
theorem maxI_mem {ns : List Int} (h : ns ≠ []) : maxI ns ∈ ns ∧ ∀ x ∈ ns, x ≤ maxI ns := by
  cases ns with
  | nil => exact absurd rfl h
  | cons n ns => exact foldl_max_mem ns n
theorem minI_mem {ns : List Int} (h : ns ≠ []) : minI ns ∈ ns ∧ ∀ x ∈ ns, minI ns ≤ x := by
  cases ns with
  | nil => exact absurd rfl h
  | cons n ns => exact foldl_min_mem ns n
theorem alike_ints (ns : List Int) : alikeL (ns.map PyData.int) = true := by
  unfold alikeL
  have : (ns.map PyData.int).all isIntB = true := by rw [List.all_map]; exact List.all_eq_true.mpr fun _ _ => rfl
  rw [this, Bool.or_true, Bool.true_or]
theorem flatA_ints (ns : List Int) : flatA (ns.map PyData.int) = true := by
  unfold flatA
  have := depth_ints ns
  rw [plain_ints ns, decide_eq_true (by omega)]
  rfl
theorem maxLD_ints {ns : List Int} (h : ns ≠ []) : maxLD [.list (ns.map .int)] = some (.int (maxI ns)) := by
  cases ns with
  | nil => exact absurd rfl h
  | cons n ns =>
    have h1 := alike_ints (n :: ns)
    have h2 := flatA_ints (n :: ns)
    rw [List.map_cons] at h1 h2 ⊢
    unfold maxLD
    dsimp only
    rw [h1, h2, PySem.W.maxD_ints]
    rfl
theorem minLD_ints {ns : List Int} (h : ns ≠ []) : minLD [.list (ns.map .int)] = some (.int (minI ns)) := by
  cases ns with
  | nil => exact absurd rfl h
  | cons n ns =>
    have h1 := alike_ints (n :: ns)
    have h2 := flatA_ints (n :: ns)
    rw [List.map_cons] at h1 h2 ⊢
    unfold minLD
    dsimp only
    rw [h1, h2, PySem.W.minD_ints]
    rfl
theorem idxD_ints {ns : List Int} {v : Int} (h : v ∈ ns) : idxD (.list (ns.map .int)) (.int v) = some (.int (idxI ns v : Int)) := by
  unfold idxD idxI
  dsimp only
  have h1 : (ns.map PyData.int).all atomB = true := by rw [List.all_map]; exact List.all_eq_true.mpr fun _ _ => rfl
  have h2 : atomB (.int v) = true := rfl
  rw [h1, h2, List.findIdx?_map]
  have e : ((fun z => eqA z (.int v)) ∘ PyData.int) = fun z => z == v := rfl
  rw [e]
  cases hf : ns.findIdx? fun z => z == v with
  | none =>
    rw [List.findIdx?_eq_none_iff] at hf
    have := hf v h
    simp at this
  | some j => rfl
abbrev Lots := List (Int × List Int)
def lotsP (ls : Lots) : List PyData := ls.map fun q => .tuple [.int q.1, .list (q.2.map .int)]
def fbar : Lots → Option (Int × Nat × Nat)
  | [] => none
  | (l, ns) :: r => if ns ≠ [] ∧ 1 < maxI ns - minI ns then some (l, idxI ns (maxI ns), idxI ns (minI ns)) else fbar r
def barP : Option (Int × Nat × Nat) → PyData
  | none => .none
  | some (l, i, j) => .tuple [.int l, .int i, .int j]
abbrev fFirst : DS := (sIf (bAnd (bTru (eVar 2)) (bOp gtD (eOp subI (eCallB maxLD (lCons (eVar 2) lNil)) (eCallB minLD (lCons (eVar 2) lNil))) (eC (.int 1)))) (sRet (eTup (lCons (eVar 1) (lCons (eOp idxD (eVar 2) (eCallB maxLD (lCons (eVar 2) lNil))) (lCons (eOp idxD (eVar 2) (eCallB minLD (lCons (eVar 2) lNil))) lNil))))) sNil)
theorem first_turn {x0 : Option Sl} {l : Int} {ns : List Int} (s : SS) : fFirst [x0, some (.d (.int l)), some (.d (.list (ns.map .int)))] s = if ns ≠ [] ∧ 1 < maxI ns - minI ns then some (.rt (.tuple [.int l, .int (idxI ns (maxI ns)), .int (idxI ns (minI ns))]), s) else some (.nx [x0, some (.d (.int l)), some (.d (.list (ns.map .int)))], s) := by
  have h3 : (3 ≤ LIM) = True := eq_true (by decide)
  by_cases hne : ns = []
  · subst hne
    rw [if_neg (fun h => h.1 rfl)]
    simp only [List.map_nil, truD_list, List.isEmpty_nil, sSeq, sNil, sFail, sAsg, sRet, sIf, sDrop, sPar, sPar3, sAsgG, sFld, sBrk, sCnt, gTupD, gConsD, gNilD, gVar, eCallB, lCons, lNil, aCons, aConsP, aNil, pVar, cF, cK, eVar, eC, eOp, bOp, eIf, eTup, eLst, eSlice, oSome, oNone, eRev, eNeg, qOf, seqOf, eUn, eAnd, eOr, eNot, bAnd, bOr, bNot, bOf, bTru, bTruQ, qVar, eItemQ, eIsi, eIsiT, isiB, anyIsi, tyName, isNonD, notNonD, isNonB, eJoin, eGet2, eFL, iOf, strOf, lstOf, tupOf, bYes, sOwn, fLst, sFrz, frz, sApp, sPop, M.bnd, M.ret, M.lift, M.fail, rget, rset, wipeR, addD_int, subI_int, modD_int, ltD_int, leD_int, gtD_int, geD_int, eqD_int, neD_int, eqD_bool, neD_bool, truD_bool, truD_int, intD_int, lenQ, eCallB, List.map, List.length_cons, List.length_nil, List.cons_append, List.nil_append, List.replicate, Nat.reduceAdd, Nat.reduceSub, if_true, if_false, Bool.false_eq_true, reduceIte, Bool.not_true, Bool.not_false, Option.map_some, Option.map_none, reduceCtorEq, decide_true, decide_false]
  · have ht : truD (.list (ns.map .int)) = some true := by
      rw [truD_list]
      cases ns with
      | nil => exact absurd rfl hne
      | cons _ _ => rfl
    have m1 := maxLD_ints hne
    have m2 := minLD_ints hne
    have i1 := idxD_ints (maxI_mem hne).1
    have i2 := idxD_ints (minI_mem hne).1
    generalize ns.map PyData.int = L at *
    by_cases hd : 1 < maxI ns - minI ns
    · rw [if_pos ⟨hne, hd⟩]
      have := decide_eq_true hd
      simp only [ht, m1, m2, this, i1, i2, h3, sSeq, sNil, sFail, sAsg, sRet, sIf, sDrop, sPar, sPar3, sAsgG, sFld, sBrk, sCnt, gTupD, gConsD, gNilD, gVar, eCallB, lCons, lNil, aCons, aConsP, aNil, pVar, cF, cK, eVar, eC, eOp, bOp, eIf, eTup, eLst, eSlice, oSome, oNone, eRev, eNeg, qOf, seqOf, eUn, eAnd, eOr, eNot, bAnd, bOr, bNot, bOf, bTru, bTruQ, qVar, eItemQ, eIsi, eIsiT, isiB, anyIsi, tyName, isNonD, notNonD, isNonB, eJoin, eGet2, eFL, iOf, strOf, lstOf, tupOf, bYes, sOwn, fLst, sFrz, frz, sApp, sPop, M.bnd, M.ret, M.lift, M.fail, rget, rset, wipeR, addD_int, subI_int, modD_int, ltD_int, leD_int, gtD_int, geD_int, eqD_int, neD_int, eqD_bool, neD_bool, truD_bool, truD_int, intD_int, lenQ, eCallB, List.map, List.length_cons, List.length_nil, List.cons_append, List.nil_append, List.replicate, Nat.reduceAdd, Nat.reduceSub, if_true, if_false, Bool.false_eq_true, reduceIte, Bool.not_true, Bool.not_false, Option.map_some, Option.map_none, reduceCtorEq, decide_true, decide_false]
    · rw [if_neg (fun h => hd h.2)]
      have := decide_eq_false hd
      simp only [ht, m1, m2, this, sSeq, sNil, sFail, sAsg, sRet, sIf, sDrop, sPar, sPar3, sAsgG, sFld, sBrk, sCnt, gTupD, gConsD, gNilD, gVar, eCallB, lCons, lNil, aCons, aConsP, aNil, pVar, cF, cK, eVar, eC, eOp, bOp, eIf, eTup, eLst, eSlice, oSome, oNone, eRev, eNeg, qOf, seqOf, eUn, eAnd, eOr, eNot, bAnd, bOr, bNot, bOf, bTru, bTruQ, qVar, eItemQ, eIsi, eIsiT, isiB, anyIsi, tyName, isNonD, notNonD, isNonB, eJoin, eGet2, eFL, iOf, strOf, lstOf, tupOf, bYes, sOwn, fLst, sFrz, frz, sApp, sPop, M.bnd, M.ret, M.lift, M.fail, rget, rset, wipeR, addD_int, subI_int, modD_int, ltD_int, leD_int, gtD_int, geD_int, eqD_int, neD_int, eqD_bool, neD_bool, truD_bool, truD_int, intD_int, lenQ, eCallB, List.map, List.length_cons, List.length_nil, List.cons_append, List.nil_append, List.replicate, Nat.reduceAdd, Nat.reduceSub, if_true, if_false, Bool.false_eq_true, reduceIte, Bool.not_true, Bool.not_false, Option.map_some, Option.map_none, reduceCtorEq, decide_true, decide_false]
theorem first_loop {x0 : Option Sl} (s : SS) : ∀ (ls : Lots) (x1 x2 : Option Sl), match fbar ls with
    | some q => loopD (gTupD 2 (gConsD (gVar 1) (gConsD (gVar 2) gNilD))) fFirst (lotsP ls) [x0, x1, x2] s = some (.rt (barP (some q)), s)
    | none => ∃ y1 y2, loopD (gTupD 2 (gConsD (gVar 1) (gConsD (gVar 2) gNilD))) fFirst (lotsP ls) [x0, x1, x2] s = some (.nx [x0, y1, y2], s)
  | [], x1, x2 => ⟨x1, x2, rfl⟩
  | (l, ns) :: r, x1, x2 => by
    have hb := first_turn (x0 := x0) (l := l) (ns := ns) s
    have hg : gTupD 2 (gConsD (gVar 1) (gConsD (gVar 2) gNilD)) (.tuple [.int l, .list (ns.map .int)]) [x0, x1, x2] = some [x0, some (.d (.int l)), some (.d (.list (ns.map .int)))] := rfl
    have hl : loopD (gTupD 2 (gConsD (gVar 1) (gConsD (gVar 2) gNilD))) fFirst (lotsP ((l, ns) :: r)) [x0, x1, x2] s = (match fFirst [x0, some (.d (.int l)), some (.d (.list (ns.map .int)))] s with
        | some (.nx ρ2, s2) => loopD (gTupD 2 (gConsD (gVar 1) (gConsD (gVar 2) gNilD))) fFirst (lotsP r) ρ2 s2
        | some (.ct ρ2, s2) => loopD (gTupD 2 (gConsD (gVar 1) (gConsD (gVar 2) gNilD))) fFirst (lotsP r) ρ2 s2
        | some (.bk ρ2, s2) => some (.nx ρ2, s2)
        | some (.rt d, s2) => some (.rt d, s2)
        | none => none) := rfl
    rw [hl, hb]
    unfold fbar
    by_cases hc : ns ≠ [] ∧ 1 < maxI ns - minI ns
    · rw [if_pos hc, if_pos hc]
      rfl
    · rw [if_neg hc, if_neg hc]
      exact first_loop s r _ _
theorem first_bar_ok (ls : Lots) (s : SS) : phi_first_bar [.d (.list (lotsP ls))] s = some (barP (fbar ls), s) := by
  have h := first_loop (x0 := some (.d (.list (lotsP ls)))) s ls none none
  have hi : iOf anyOf (eVar 0) [some (.d (.list (lotsP ls))), none, none] s = some (lotsP ls, s) := by simp only [anyOf, sSeq, sNil, sFail, sAsg, sRet, sIf, sDrop, sPar, sPar3, sAsgG, sFld, sBrk, sCnt, gTupD, gConsD, gNilD, gVar, eCallB, lCons, lNil, aCons, aConsP, aNil, pVar, cF, cK, eVar, eC, eOp, bOp, eIf, eTup, eLst, eSlice, oSome, oNone, eRev, eNeg, qOf, seqOf, eUn, eAnd, eOr, eNot, bAnd, bOr, bNot, bOf, bTru, bTruQ, qVar, eItemQ, eIsi, eIsiT, isiB, anyIsi, tyName, isNonD, notNonD, isNonB, eJoin, eGet2, eFL, iOf, strOf, lstOf, tupOf, bYes, sOwn, fLst, sFrz, frz, sApp, sPop, M.bnd, M.ret, M.lift, M.fail, rget, rset, wipeR, addD_int, subI_int, modD_int, ltD_int, leD_int, gtD_int, geD_int, eqD_int, neD_int, eqD_bool, neD_bool, truD_bool, truD_int, intD_int, lenQ, eCallB, List.map, List.length_cons, List.length_nil, List.cons_append, List.nil_append, List.replicate, Nat.reduceAdd, Nat.reduceSub, if_true, if_false, Bool.false_eq_true, reduceIte, Bool.not_true, Bool.not_false, Option.map_some, Option.map_none, reduceCtorEq, decide_true, decide_false]
  unfold phi_first_bar runD startD F_first_bar
  simp only [slOf, List.map_cons, List.map_nil, List.length_cons, List.length_nil, Nat.reduceAdd, Nat.reduceSub, List.replicate, List.cons_append, List.nil_append]
  cases hf : fbar ls with
  | some q =>
    rw [hf] at h
    rw [seq_rt ((for_ev hi).trans h)]
  | none =>
    rw [hf] at h
    obtain ⟨y1, y2, h⟩ := h
    rw [seq_nx ((for_ev hi).trans h)]
    simp only [barP, sSeq, sNil, sFail, sAsg, sRet, sIf, sDrop, sPar, sPar3, sAsgG, sFld, sBrk, sCnt, gTupD, gConsD, gNilD, gVar, eCallB, lCons, lNil, aCons, aConsP, aNil, pVar, cF, cK, eVar, eC, eOp, bOp, eIf, eTup, eLst, eSlice, oSome, oNone, eRev, eNeg, qOf, seqOf, eUn, eAnd, eOr, eNot, bAnd, bOr, bNot, bOf, bTru, bTruQ, qVar, eItemQ, eIsi, eIsiT, isiB, anyIsi, tyName, isNonD, notNonD, isNonB, eJoin, eGet2, eFL, iOf, strOf, lstOf, tupOf, bYes, sOwn, fLst, sFrz, frz, sApp, sPop, M.bnd, M.ret, M.lift, M.fail, rget, rset, wipeR, addD_int, subI_int, modD_int, ltD_int, leD_int, gtD_int, geD_int, eqD_int, neD_int, eqD_bool, neD_bool, truD_bool, truD_int, intD_int, lenQ, eCallB, List.map, List.length_cons, List.length_nil, List.cons_append, List.nil_append, List.replicate, Nat.reduceAdd, Nat.reduceSub, if_true, if_false, Bool.false_eq_true, reduceIte, Bool.not_true, Bool.not_false, Option.map_some, Option.map_none, reduceCtorEq, decide_true, decide_false]
/-! ### a ring's lots -/
def cntAt (w : List Nat) (l at_ : Nat) : Int := (nb ((w ++ w).take (at_ + l)) : Int) - (nb ((w ++ w).take at_) : Int)
def lotsOf (w : List Nat) : Lots := (List.range w.length).map fun (l : Nat) => ((l : Int), (List.range w.length).map fun (at_ : Nat) => cntAt w l at_)
theorem mul2_S {w : List Nat} (hl : w.length ≤ 100000) : mulD (.str (S w)) (.int 2) = some (.str (S (w ++ w))) := by
  have h : (S w).length * (2 : Int).toNat ≤ LIM ∧ (2 : Int).natAbs < 1000000000 := ⟨by show w.length * 2 ≤ 1000000; omega, by decide⟩
  show (if (S w).length * (2 : Int).toNat ≤ LIM ∧ (2 : Int).natAbs < 1000000000 then some (PyData.str (repS (S w) 2)) else none) = _
  rw [if_pos h]
  have : repS (S w) 2 = S (w ++ w) := by
    unfold repS
    show (⟨((List.replicate 2 w).flatten).toArray⟩ : Str) = ⟨⟨w ++ w⟩⟩
    simp [List.replicate]
  rw [this]
theorem ring_lots_ok {w : List Nat} (hl : w.length ≤ 10000) (s : SS) : phi_ring_lots [.d (.str (S w))] s = some (.list (lotsP (lotsOf w)), s) := by
  have l0 : w.length ≤ LIM := by show w.length ≤ 1000000; omega
  have h1 := heads_of_ok (w := w ++ w) (by rw [List.length_append]; omega) s
  have h2L : (2 ≤ LIM) = True := eq_true (by decide)
  have hb : (-RLIM ≤ (w.length : Int) ∧ (w.length : Int) ≤ RLIM) = True := eq_true (by unfold RLIM; omega)
  have hr : ((rangeL 0 w.length).length ≤ LIM) = True := eq_true (by rw [range_len]; exact l0)
  have hget : ∀ k : Nat, k ≤ w.length + w.length → atI (headsL (w ++ w)) (k : Int) = some (.int (nb ((w ++ w).take k) : Int)) := fun k hk => by
    have hk' : k < (headsL (w ++ w)).length := by rw [headsL_len, List.length_append]; omega
    rw [atI_nat hk']
    have := headsL_get (w := w ++ w) (k := k) (by rw [List.length_append]; exact hk)
    rw [List.getElem?_eq_getElem hk'] at this
    exact this
  have inner : ∀ l : Nat, l < w.length → ∀ o : Option Sl, fComp [4] (iRange1 (eVar 1)) (gVar 4) bYes (eOp subI (eOp itemD (eVar 2) (eOp addD (eVar 4) (eVar 3))) (eOp itemD (eVar 2) (eVar 4))) [some (.d (.str (S w))), some (.d (.int (w.length : Int))), some (.d (.list (headsL (w ++ w)))), some (.d (.int (l : Int))), o] s
      = some ((rangeL 0 w.length).map (fun x => match x with | .int k => PyData.int (cntAt w l k.toNat) | _ => .none), s) := by
    intro l hl' o
    refine fComp_map _ ?_ (by rw [range_len]; exact l0) ?_
    · simp only [iRange1, hb, Int.toNat_natCast, sSeq, sNil, sFail, sAsg, sRet, sIf, sDrop, sPar, sPar3, sAsgG, sFld, sBrk, sCnt, gTupD, gConsD, gNilD, gVar, eCallB, lCons, lNil, aCons, aConsP, aNil, pVar, cF, cK, eVar, eC, eOp, bOp, eIf, eTup, eLst, eSlice, oSome, oNone, eRev, eNeg, qOf, seqOf, eUn, eAnd, eOr, eNot, bAnd, bOr, bNot, bOf, bTru, bTruQ, qVar, eItemQ, eIsi, eIsiT, isiB, anyIsi, tyName, isNonD, notNonD, isNonB, eJoin, eGet2, eFL, iOf, strOf, lstOf, tupOf, bYes, sOwn, fLst, sFrz, frz, sApp, sPop, M.bnd, M.ret, M.lift, M.fail, rget, rset, wipeR, addD_int, subI_int, modD_int, ltD_int, leD_int, gtD_int, geD_int, eqD_int, neD_int, eqD_bool, neD_bool, truD_bool, truD_int, intD_int, lenQ, eCallB, List.map, List.length_cons, List.length_nil, List.cons_append, List.nil_append, List.replicate, Nat.reduceAdd, Nat.reduceSub, if_true, if_false, Bool.false_eq_true, reduceIte, Bool.not_true, Bool.not_false, Option.map_some, Option.map_none, reduceCtorEq, decide_true, decide_false]
    · intro x hx
      obtain ⟨k, hk, rfl⟩ := range_mem hx
      refine ⟨[some (.d (.str (S w))), some (.d (.int (w.length : Int))), some (.d (.list (headsL (w ++ w)))), some (.d (.int (l : Int))), some (.d (.int (k : Int)))], rfl, rfl, ?_⟩
      have e1 := hget (k + l) (by omega)
      have e2 := hget k (by omega)
      have ek : ((k : Int) + (l : Int)) = ((k + l : Nat) : Int) := by omega
      have ec : cntAt w l k = (nb ((w ++ w).take (k + l)) : Int) - (nb ((w ++ w).take k) : Int) := rfl
      simp only [itemD_list, ek, e1, e2, Int.toNat_natCast, ec, sSeq, sNil, sFail, sAsg, sRet, sIf, sDrop, sPar, sPar3, sAsgG, sFld, sBrk, sCnt, gTupD, gConsD, gNilD, gVar, eCallB, lCons, lNil, aCons, aConsP, aNil, pVar, cF, cK, eVar, eC, eOp, bOp, eIf, eTup, eLst, eSlice, oSome, oNone, eRev, eNeg, qOf, seqOf, eUn, eAnd, eOr, eNot, bAnd, bOr, bNot, bOf, bTru, bTruQ, qVar, eItemQ, eIsi, eIsiT, isiB, anyIsi, tyName, isNonD, notNonD, isNonB, eJoin, eGet2, eFL, iOf, strOf, lstOf, tupOf, bYes, sOwn, fLst, sFrz, frz, sApp, sPop, M.bnd, M.ret, M.lift, M.fail, rget, rset, wipeR, addD_int, subI_int, modD_int, ltD_int, leD_int, gtD_int, geD_int, eqD_int, neD_int, eqD_bool, neD_bool, truD_bool, truD_int, intD_int, lenQ, eCallB, List.map, List.length_cons, List.length_nil, List.cons_append, List.nil_append, List.replicate, Nat.reduceAdd, Nat.reduceSub, if_true, if_false, Bool.false_eq_true, reduceIte, Bool.not_true, Bool.not_false, Option.map_some, Option.map_none, reduceCtorEq, decide_true, decide_false]
  have innerE : ∀ l : Nat, (rangeL 0 w.length).map (fun x => match x with | .int k => PyData.int (cntAt w l k.toNat) | _ => .none) = ((List.range w.length).map fun at_ => cntAt w l at_).map PyData.int := fun l => by
    unfold rangeL
    rw [List.map_map, List.map_map]
    refine List.map_congr_left fun k hk => ?_
    show PyData.int (cntAt w l ((0 : Int) + (k : Int)).toNat) = _
    rw [Int.zero_add, Int.toNat_natCast]
    rfl
  have outer : fComp [3] (iRange1 (eVar 1)) (gVar 3) bYes (eTup (lCons (eVar 3) (lCons (eFL (fComp [4] (iRange1 (eVar 1)) (gVar 4) bYes (eOp subI (eOp itemD (eVar 2) (eOp addD (eVar 4) (eVar 3))) (eOp itemD (eVar 2) (eVar 4))))) lNil))) [some (.d (.str (S w))), some (.d (.int (w.length : Int))), some (.d (.list (headsL (w ++ w)))), none, none] s
      = some ((rangeL 0 w.length).map (fun x => match x with | .int l => PyData.tuple [.int l, .list (((List.range w.length).map fun at_ => cntAt w l.toNat at_).map .int)] | _ => .none), s) := by
    refine fComp_map _ ?_ (by rw [range_len]; exact l0) ?_
    · simp only [iRange1, hb, Int.toNat_natCast, sSeq, sNil, sFail, sAsg, sRet, sIf, sDrop, sPar, sPar3, sAsgG, sFld, sBrk, sCnt, gTupD, gConsD, gNilD, gVar, eCallB, lCons, lNil, aCons, aConsP, aNil, pVar, cF, cK, eVar, eC, eOp, bOp, eIf, eTup, eLst, eSlice, oSome, oNone, eRev, eNeg, qOf, seqOf, eUn, eAnd, eOr, eNot, bAnd, bOr, bNot, bOf, bTru, bTruQ, qVar, eItemQ, eIsi, eIsiT, isiB, anyIsi, tyName, isNonD, notNonD, isNonB, eJoin, eGet2, eFL, iOf, strOf, lstOf, tupOf, bYes, sOwn, fLst, sFrz, frz, sApp, sPop, M.bnd, M.ret, M.lift, M.fail, rget, rset, wipeR, addD_int, subI_int, modD_int, ltD_int, leD_int, gtD_int, geD_int, eqD_int, neD_int, eqD_bool, neD_bool, truD_bool, truD_int, intD_int, lenQ, eCallB, List.map, List.length_cons, List.length_nil, List.cons_append, List.nil_append, List.replicate, Nat.reduceAdd, Nat.reduceSub, if_true, if_false, Bool.false_eq_true, reduceIte, Bool.not_true, Bool.not_false, Option.map_some, Option.map_none, reduceCtorEq, decide_true, decide_false]
    · intro x hx
      obtain ⟨l, hl', rfl⟩ := range_mem hx
      refine ⟨[some (.d (.str (S w))), some (.d (.int (w.length : Int))), some (.d (.list (headsL (w ++ w)))), some (.d (.int (l : Int))), none], rfl, rfl, ?_⟩
      have e := inner l hl' none
      rw [innerE l] at e
      have eL : eVar 3 [some (.d (.str (S w))), some (.d (.int (w.length : Int))), some (.d (.list (headsL (w ++ w)))), some (.d (.int (l : Int))), none] s = some (.int (l : Int), s) := rfl
      simp only [eTup, lCons, lNil, eFL, M.bnd, M.ret, eL, e, List.length_cons, List.length_nil, Nat.reduceAdd, h2L, if_true, Int.toNat_natCast]
  have outE : (rangeL 0 w.length).map (fun x => match x with | .int l => PyData.tuple [.int l, .list (((List.range w.length).map fun at_ => cntAt w l.toNat at_).map .int)] | _ => .none) = lotsP (lotsOf w) := by
    unfold rangeL lotsP lotsOf
    rw [List.map_map, List.map_map]
    refine List.map_congr_left fun k hk => ?_
    show PyData.tuple [.int ((0 : Int) + (k : Int)), .list (((List.range w.length).map fun at_ => cntAt w ((0 : Int) + (k : Int)).toNat at_).map .int)] = _
    rw [Int.zero_add, Int.toNat_natCast]
    rfl
  rw [outE] at outer
  have eA : sAsgG (gTupD 2 (gConsD (gVar 1) (gConsD (gVar 2) gNilD))) (eTup (lCons (eCallB lenD (lCons (eVar 0) lNil)) (lCons (cF (phi_heads_of) 1 (aCons (eOp mulD (eVar 0) (eC (.int 2))) aNil)) lNil))) [some (.d (.str (S w))), none, none, none, none] s = some (.nx [some (.d (.str (S w))), some (.d (.int (w.length : Int))), some (.d (.list (headsL (w ++ w)))), none, none], s) := by
    simp only [lenD_S l0, mul2_S (w := w) (by omega), h1, h2L, Option.bind, sSeq, sNil, sFail, sAsg, sRet, sIf, sDrop, sPar, sPar3, sAsgG, sFld, sBrk, sCnt, gTupD, gConsD, gNilD, gVar, eCallB, lCons, lNil, aCons, aConsP, aNil, pVar, cF, cK, eVar, eC, eOp, bOp, eIf, eTup, eLst, eSlice, oSome, oNone, eRev, eNeg, qOf, seqOf, eUn, eAnd, eOr, eNot, bAnd, bOr, bNot, bOf, bTru, bTruQ, qVar, eItemQ, eIsi, eIsiT, isiB, anyIsi, tyName, isNonD, notNonD, isNonB, eJoin, eGet2, eFL, iOf, strOf, lstOf, tupOf, bYes, sOwn, fLst, sFrz, frz, sApp, sPop, M.bnd, M.ret, M.lift, M.fail, rget, rset, wipeR, addD_int, subI_int, modD_int, ltD_int, leD_int, gtD_int, geD_int, eqD_int, neD_int, eqD_bool, neD_bool, truD_bool, truD_int, intD_int, lenQ, eCallB, List.map, List.length_cons, List.length_nil, List.cons_append, List.nil_append, List.replicate, Nat.reduceAdd, Nat.reduceSub, if_true, if_false, Bool.false_eq_true, reduceIte, Bool.not_true, Bool.not_false, Option.map_some, Option.map_none, reduceCtorEq, decide_true, decide_false]
  unfold phi_ring_lots runD startD F_ring_lots
  simp only [slOf, List.map_cons, List.map_nil, List.length_cons, List.length_nil, Nat.reduceAdd, Nat.reduceSub, List.replicate, List.cons_append, List.nil_append]
  rw [seq_nx eA]
  simp only [sRet, eFL, M.bnd, M.ret, outer]
theorem bar_by_ok {w : List Nat} (hl : w.length ≤ 10000) (s : SS) : phi_bar_by [.d (.str (S w))] s = some (barP (fbar (lotsOf w)), s) := by
  have h1 := ring_lots_ok hl s
  have h2 := first_bar_ok (lotsOf w) s
  unfold phi_bar_by runD startD F_bar_by
  simp only [slOf, h1, h2, sSeq, sNil, sFail, sAsg, sRet, sIf, sDrop, sPar, sPar3, sAsgG, sFld, sBrk, sCnt, gTupD, gConsD, gNilD, gVar, eCallB, lCons, lNil, aCons, aConsP, aNil, pVar, cF, cK, eVar, eC, eOp, bOp, eIf, eTup, eLst, eSlice, oSome, oNone, eRev, eNeg, qOf, seqOf, eUn, eAnd, eOr, eNot, bAnd, bOr, bNot, bOf, bTru, bTruQ, qVar, eItemQ, eIsi, eIsiT, isiB, anyIsi, tyName, isNonD, notNonD, isNonB, eJoin, eGet2, eFL, iOf, strOf, lstOf, tupOf, bYes, sOwn, fLst, sFrz, frz, sApp, sPop, M.bnd, M.ret, M.lift, M.fail, rget, rset, wipeR, addD_int, subI_int, modD_int, ltD_int, leD_int, gtD_int, geD_int, eqD_int, neD_int, eqD_bool, neD_bool, truD_bool, truD_int, intD_int, lenQ, eCallB, List.map, List.length_cons, List.length_nil, List.cons_append, List.nil_append, List.replicate, Nat.reduceAdd, Nat.reduceSub, if_true, if_false, Bool.false_eq_true, reduceIte, Bool.not_true, Bool.not_false, Option.map_some, Option.map_none, reduceCtorEq, decide_true, decide_false]
end G64

namespace G64
open PySem DL
open L2 (atI ixN)
theorem is_row_words_ok {w : List Nat} (hw : AB w) (hl : w.length ≤ 100000) (s : SS) : phi_is_row_words [.d (.str (S w))] s = some (.bool true, s) := by
  have h := is_of_ok hw hl s
  unfold phi_is_row_words runD startD F_is_row_words
  simp only [slOf, h, sSeq, sNil, sFail, sAsg, sRet, sIf, sDrop, sPar, sPar3, sAsgG, sFld, sBrk, sCnt, gTupD, gConsD, gNilD, gVar, eCallB, lCons, lNil, aCons, aConsP, aNil, pVar, cF, cK, eVar, eC, eOp, bOp, eIf, eTup, eLst, eSlice, oSome, oNone, eRev, eNeg, qOf, seqOf, eUn, eAnd, eOr, eNot, bAnd, bOr, bNot, bOf, bTru, bTruQ, qVar, eItemQ, eIsi, eIsiT, isiB, anyIsi, tyName, isNonD, notNonD, isNonB, eJoin, eGet2, eFL, iOf, strOf, lstOf, tupOf, bYes, sOwn, fLst, sFrz, frz, sApp, sPop, M.bnd, M.ret, M.lift, M.fail, rget, rset, wipeR, addD_int, subI_int, modD_int, ltD_int, leD_int, gtD_int, geD_int, eqD_int, neD_int, eqD_bool, neD_bool, truD_bool, truD_int, intD_int, lenQ, eCallB, List.map, List.length_cons, List.length_nil, List.cons_append, List.nil_append, List.replicate, Nat.reduceAdd, Nat.reduceSub, if_true, if_false, Bool.false_eq_true, reduceIte, Bool.not_true, Bool.not_false, Option.map_some, Option.map_none, reduceCtorEq, decide_true, decide_false]
theorem is_word_ok {w : List Nat} (hw : AB w) (hn : w ≠ []) (hl : w.length ≤ 100000) (s : SS) : phi_is_word [.d (.str (S w))] s = some (.bool true, s) := by
  have h := is_row_words_ok hw hl s
  have h2 : decide (S w = S []) = false := decide_eq_false (by rw [s_inj]; exact hn)
  unfold phi_is_word runD startD F_is_word
  simp only [slOf, h, neD_str, h2, sSeq, sNil, sFail, sAsg, sRet, sIf, sDrop, sPar, sPar3, sAsgG, sFld, sBrk, sCnt, gTupD, gConsD, gNilD, gVar, eCallB, lCons, lNil, aCons, aConsP, aNil, pVar, cF, cK, eVar, eC, eOp, bOp, eIf, eTup, eLst, eSlice, oSome, oNone, eRev, eNeg, qOf, seqOf, eUn, eAnd, eOr, eNot, bAnd, bOr, bNot, bOf, bTru, bTruQ, qVar, eItemQ, eIsi, eIsiT, isiB, anyIsi, tyName, isNonD, notNonD, isNonB, eJoin, eGet2, eFL, iOf, strOf, lstOf, tupOf, bYes, sOwn, fLst, sFrz, frz, sApp, sPop, M.bnd, M.ret, M.lift, M.fail, rget, rset, wipeR, addD_int, subI_int, modD_int, ltD_int, leD_int, gtD_int, geD_int, eqD_int, neD_int, eqD_bool, neD_bool, truD_bool, truD_int, intD_int, lenQ, eCallB, List.map, List.length_cons, List.length_nil, List.cons_append, List.nil_append, List.replicate, Nat.reduceAdd, Nat.reduceSub, if_true, if_false, Bool.false_eq_true, reduceIte, Bool.not_true, Bool.not_false, Option.map_some, Option.map_none, reduceCtorEq, decide_true, decide_false]
theorem need_ring_ok {w : List Nat} (hw : AB w) (hn : w ≠ []) (hl : w.length ≤ 100000) (s : SS) : phi_need_ring [.d (.str (S w))] s = some (.str (S w), s) := by
  have h := is_word_ok hw hn hl s
  unfold phi_need_ring runD startD F_need_ring
  simp only [slOf, h, sSeq, sNil, sFail, sAsg, sRet, sIf, sDrop, sPar, sPar3, sAsgG, sFld, sBrk, sCnt, gTupD, gConsD, gNilD, gVar, eCallB, lCons, lNil, aCons, aConsP, aNil, pVar, cF, cK, eVar, eC, eOp, bOp, eIf, eTup, eLst, eSlice, oSome, oNone, eRev, eNeg, qOf, seqOf, eUn, eAnd, eOr, eNot, bAnd, bOr, bNot, bOf, bTru, bTruQ, qVar, eItemQ, eIsi, eIsiT, isiB, anyIsi, tyName, isNonD, notNonD, isNonB, eJoin, eGet2, eFL, iOf, strOf, lstOf, tupOf, bYes, sOwn, fLst, sFrz, frz, sApp, sPop, M.bnd, M.ret, M.lift, M.fail, rget, rset, wipeR, addD_int, subI_int, modD_int, ltD_int, leD_int, gtD_int, geD_int, eqD_int, neD_int, eqD_bool, neD_bool, truD_bool, truD_int, intD_int, lenQ, eCallB, List.map, List.length_cons, List.length_nil, List.cons_append, List.nil_append, List.replicate, Nat.reduceAdd, Nat.reduceSub, if_true, if_false, Bool.false_eq_true, reduceIte, Bool.not_true, Bool.not_false, Option.map_some, Option.map_none, reduceCtorEq, decide_true, decide_false]
def toldP : Option (Int × Nat × Nat) → PyData
  | none => .tuple [.str (S [101, 118, 101, 110])]
  | some (l, i, j) => .tuple [.str (S [98, 97, 114]), .int l, .int i, .int j]
theorem told_ok (q : Option (Int × Nat × Nat)) (s : SS) : phi_told [.d (barP q)] s = some (toldP q, s) := by
  have h1 : (1 ≤ LIM) = True := eq_true (by decide)
  have h4 : (4 ≤ LIM) = True := eq_true (by decide)
  unfold phi_told runD startD F_told
  cases q with
  | none => simp only [slOf, barP, toldP, h1, sSeq, sNil, sFail, sAsg, sRet, sIf, sDrop, sPar, sPar3, sAsgG, sFld, sBrk, sCnt, gTupD, gConsD, gNilD, gVar, eCallB, lCons, lNil, aCons, aConsP, aNil, pVar, cF, cK, eVar, eC, eOp, bOp, eIf, eTup, eLst, eSlice, oSome, oNone, eRev, eNeg, qOf, seqOf, eUn, eAnd, eOr, eNot, bAnd, bOr, bNot, bOf, bTru, bTruQ, qVar, eItemQ, eIsi, eIsiT, isiB, anyIsi, tyName, isNonD, notNonD, isNonB, eJoin, eGet2, eFL, iOf, strOf, lstOf, tupOf, bYes, sOwn, fLst, sFrz, frz, sApp, sPop, M.bnd, M.ret, M.lift, M.fail, rget, rset, wipeR, addD_int, subI_int, modD_int, ltD_int, leD_int, gtD_int, geD_int, eqD_int, neD_int, eqD_bool, neD_bool, truD_bool, truD_int, intD_int, lenQ, eCallB, List.map, List.length_cons, List.length_nil, List.cons_append, List.nil_append, List.replicate, Nat.reduceAdd, Nat.reduceSub, if_true, if_false, Bool.false_eq_true, reduceIte, Bool.not_true, Bool.not_false, Option.map_some, Option.map_none, reduceCtorEq, decide_true, decide_false]
  | some q =>
    obtain ⟨l, i, j⟩ := q
    simp only [slOf, barP, toldP, lStar, h4, sSeq, sNil, sFail, sAsg, sRet, sIf, sDrop, sPar, sPar3, sAsgG, sFld, sBrk, sCnt, gTupD, gConsD, gNilD, gVar, eCallB, lCons, lNil, aCons, aConsP, aNil, pVar, cF, cK, eVar, eC, eOp, bOp, eIf, eTup, eLst, eSlice, oSome, oNone, eRev, eNeg, qOf, seqOf, eUn, eAnd, eOr, eNot, bAnd, bOr, bNot, bOf, bTru, bTruQ, qVar, eItemQ, eIsi, eIsiT, isiB, anyIsi, tyName, isNonD, notNonD, isNonB, eJoin, eGet2, eFL, iOf, strOf, lstOf, tupOf, bYes, sOwn, fLst, sFrz, frz, sApp, sPop, M.bnd, M.ret, M.lift, M.fail, rget, rset, wipeR, addD_int, subI_int, modD_int, ltD_int, leD_int, gtD_int, geD_int, eqD_int, neD_int, eqD_bool, neD_bool, truD_bool, truD_int, intD_int, lenQ, eCallB, List.map, List.length_cons, List.length_nil, List.cons_append, List.nil_append, List.replicate, Nat.reduceAdd, Nat.reduceSub, if_true, if_false, Bool.false_eq_true, reduceIte, Bool.not_true, Bool.not_false, Option.map_some, Option.map_none, reduceCtorEq, decide_true, decide_false]
theorem even_or_bar_ok {w : List Nat} (hw : AB w) (hn : w ≠ []) (hl : w.length ≤ 10000) (s : SS) : phi_even_or_bar [.d (.str (S w))] s = some (toldP (fbar (lotsOf w)), s) := by
  have h1 := need_ring_ok hw hn (by omega) s
  have h2 := bar_by_ok hl s
  have h3 := told_ok (fbar (lotsOf w)) s
  unfold phi_even_or_bar runD startD F_even_or_bar
  simp only [slOf, h1, h2, h3, sSeq, sNil, sFail, sAsg, sRet, sIf, sDrop, sPar, sPar3, sAsgG, sFld, sBrk, sCnt, gTupD, gConsD, gNilD, gVar, eCallB, lCons, lNil, aCons, aConsP, aNil, pVar, cF, cK, eVar, eC, eOp, bOp, eIf, eTup, eLst, eSlice, oSome, oNone, eRev, eNeg, qOf, seqOf, eUn, eAnd, eOr, eNot, bAnd, bOr, bNot, bOf, bTru, bTruQ, qVar, eItemQ, eIsi, eIsiT, isiB, anyIsi, tyName, isNonD, notNonD, isNonB, eJoin, eGet2, eFL, iOf, strOf, lstOf, tupOf, bYes, sOwn, fLst, sFrz, frz, sApp, sPop, M.bnd, M.ret, M.lift, M.fail, rget, rset, wipeR, addD_int, subI_int, modD_int, ltD_int, leD_int, gtD_int, geD_int, eqD_int, neD_int, eqD_bool, neD_bool, truD_bool, truD_int, intD_int, lenQ, eCallB, List.map, List.length_cons, List.length_nil, List.cons_append, List.nil_append, List.replicate, Nat.reduceAdd, Nat.reduceSub, if_true, if_false, Bool.false_eq_true, reduceIte, Bool.not_true, Bool.not_false, Option.map_some, Option.map_none, reduceCtorEq, decide_true, decide_false]
/-! ### is_bar -/
theorem is_number_ok (i : Nat) (s : SS) : phi_is_number [.d (.int (i : Int))] s = some (.bool true, s) := by
  have h1 : phi_is_whole [.d (.int (i : Int))] s = some (.bool true, s) := by
    unfold phi_is_whole runD startD F_is_whole
    simp [slOf, sSeq, sNil, sFail, sAsg, sRet, sIf, sDrop, sPar, sPar3, sAsgG, sFld, sBrk, sCnt, gTupD, gConsD, gNilD, gVar, eCallB, lCons, lNil, aCons, aConsP, aNil, pVar, cF, cK, eVar, eC, eOp, bOp, eIf, eTup, eLst, eSlice, oSome, oNone, eRev, eNeg, qOf, seqOf, eUn, eAnd, eOr, eNot, bAnd, bOr, bNot, bOf, bTru, bTruQ, qVar, eItemQ, eIsi, eIsiT, isiB, anyIsi, tyName, isNonD, notNonD, isNonB, eJoin, eGet2, eFL, iOf, strOf, lstOf, tupOf, bYes, sOwn, fLst, sFrz, frz, sApp, sPop, M.bnd, M.ret, M.lift, M.fail, rget, rset, wipeR, addD_int, subI_int, modD_int, ltD_int, leD_int, gtD_int, geD_int, eqD_int, neD_int, eqD_bool, neD_bool, truD_bool, truD_int, intD_int, lenQ, eCallB, List.map, List.length_cons, List.length_nil, List.cons_append, List.nil_append, List.replicate, Nat.reduceAdd, Nat.reduceSub, if_true, if_false, Bool.false_eq_true, reduceIte, Bool.not_true, Bool.not_false, Option.map_some, Option.map_none, reduceCtorEq, decide_true, decide_false]
  have h2 : decide ((0 : Int) ≤ (i : Int)) = true := decide_eq_true (by omega)
  unfold phi_is_number runD startD F_is_number
  simp only [slOf, h1, h2, sSeq, sNil, sFail, sAsg, sRet, sIf, sDrop, sPar, sPar3, sAsgG, sFld, sBrk, sCnt, gTupD, gConsD, gNilD, gVar, eCallB, lCons, lNil, aCons, aConsP, aNil, pVar, cF, cK, eVar, eC, eOp, bOp, eIf, eTup, eLst, eSlice, oSome, oNone, eRev, eNeg, qOf, seqOf, eUn, eAnd, eOr, eNot, bAnd, bOr, bNot, bOf, bTru, bTruQ, qVar, eItemQ, eIsi, eIsiT, isiB, anyIsi, tyName, isNonD, notNonD, isNonB, eJoin, eGet2, eFL, iOf, strOf, lstOf, tupOf, bYes, sOwn, fLst, sFrz, frz, sApp, sPop, M.bnd, M.ret, M.lift, M.fail, rget, rset, wipeR, addD_int, subI_int, modD_int, ltD_int, leD_int, gtD_int, geD_int, eqD_int, neD_int, eqD_bool, neD_bool, truD_bool, truD_int, intD_int, lenQ, eCallB, List.map, List.length_cons, List.length_nil, List.cons_append, List.nil_append, List.replicate, Nat.reduceAdd, Nat.reduceSub, if_true, if_false, Bool.false_eq_true, reduceIte, Bool.not_true, Bool.not_false, Option.map_some, Option.map_none, reduceCtorEq, decide_true, decide_false]
theorem is_below_ok (i n : Nat) (h : i < n) (s : SS) : phi_is_below [.d (.int (i : Int)), .d (.int (n : Int))] s = some (.bool true, s) := by
  have h1 := is_number_ok i s
  have h2 : decide ((i : Int) < (n : Int)) = true := decide_eq_true (by omega)
  unfold phi_is_below runD startD F_is_below
  simp only [slOf, h1, h2, sSeq, sNil, sFail, sAsg, sRet, sIf, sDrop, sPar, sPar3, sAsgG, sFld, sBrk, sCnt, gTupD, gConsD, gNilD, gVar, eCallB, lCons, lNil, aCons, aConsP, aNil, pVar, cF, cK, eVar, eC, eOp, bOp, eIf, eTup, eLst, eSlice, oSome, oNone, eRev, eNeg, qOf, seqOf, eUn, eAnd, eOr, eNot, bAnd, bOr, bNot, bOf, bTru, bTruQ, qVar, eItemQ, eIsi, eIsiT, isiB, anyIsi, tyName, isNonD, notNonD, isNonB, eJoin, eGet2, eFL, iOf, strOf, lstOf, tupOf, bYes, sOwn, fLst, sFrz, frz, sApp, sPop, M.bnd, M.ret, M.lift, M.fail, rget, rset, wipeR, addD_int, subI_int, modD_int, ltD_int, leD_int, gtD_int, geD_int, eqD_int, neD_int, eqD_bool, neD_bool, truD_bool, truD_int, intD_int, lenQ, eCallB, List.map, List.length_cons, List.length_nil, List.cons_append, List.nil_append, List.replicate, Nat.reduceAdd, Nat.reduceSub, if_true, if_false, Bool.false_eq_true, reduceIte, Bool.not_true, Bool.not_false, Option.map_some, Option.map_none, reduceCtorEq, decide_true, decide_false]
theorem is_row_basics_ok (a b c : PyData) (s : SS) : phi_is_row_basics [.d (.tuple [a, b, c]), .d (.int 3)] s = some (.bool true, s) := by
  have h1 : phi_is_list [.d (.tuple [a, b, c])] s = some (.bool true, s) := by
    unfold phi_is_list runD startD F_is_list
    simp [slOf, sSeq, sNil, sFail, sAsg, sRet, sIf, sDrop, sPar, sPar3, sAsgG, sFld, sBrk, sCnt, gTupD, gConsD, gNilD, gVar, eCallB, lCons, lNil, aCons, aConsP, aNil, pVar, cF, cK, eVar, eC, eOp, bOp, eIf, eTup, eLst, eSlice, oSome, oNone, eRev, eNeg, qOf, seqOf, eUn, eAnd, eOr, eNot, bAnd, bOr, bNot, bOf, bTru, bTruQ, qVar, eItemQ, eIsi, eIsiT, isiB, anyIsi, tyName, isNonD, notNonD, isNonB, eJoin, eGet2, eFL, iOf, strOf, lstOf, tupOf, bYes, sOwn, fLst, sFrz, frz, sApp, sPop, M.bnd, M.ret, M.lift, M.fail, rget, rset, wipeR, addD_int, subI_int, modD_int, ltD_int, leD_int, gtD_int, geD_int, eqD_int, neD_int, eqD_bool, neD_bool, truD_bool, truD_int, intD_int, lenQ, eCallB, List.map, List.length_cons, List.length_nil, List.cons_append, List.nil_append, List.replicate, Nat.reduceAdd, Nat.reduceSub, if_true, if_false, Bool.false_eq_true, reduceIte, Bool.not_true, Bool.not_false, Option.map_some, Option.map_none, reduceCtorEq, decide_true, decide_false]
  have h2 : lenD [.tuple [a, b, c]] = some (.int 3) := rfl
  unfold phi_is_row_basics runD startD F_is_row_basics
  simp only [slOf, h1, h2, sSeq, sNil, sFail, sAsg, sRet, sIf, sDrop, sPar, sPar3, sAsgG, sFld, sBrk, sCnt, gTupD, gConsD, gNilD, gVar, eCallB, lCons, lNil, aCons, aConsP, aNil, pVar, cF, cK, eVar, eC, eOp, bOp, eIf, eTup, eLst, eSlice, oSome, oNone, eRev, eNeg, qOf, seqOf, eUn, eAnd, eOr, eNot, bAnd, bOr, bNot, bOf, bTru, bTruQ, qVar, eItemQ, eIsi, eIsiT, isiB, anyIsi, tyName, isNonD, notNonD, isNonB, eJoin, eGet2, eFL, iOf, strOf, lstOf, tupOf, bYes, sOwn, fLst, sFrz, frz, sApp, sPop, M.bnd, M.ret, M.lift, M.fail, rget, rset, wipeR, addD_int, subI_int, modD_int, ltD_int, leD_int, gtD_int, geD_int, eqD_int, neD_int, eqD_bool, neD_bool, truD_bool, truD_int, intD_int, lenQ, eCallB, List.map, List.length_cons, List.length_nil, List.cons_append, List.nil_append, List.replicate, Nat.reduceAdd, Nat.reduceSub, if_true, if_false, Bool.false_eq_true, reduceIte, Bool.not_true, Bool.not_false, Option.map_some, Option.map_none, reduceCtorEq, decide_true, decide_false]
theorem cnt_count (c : Nat) : ∀ l : List Nat, PyProof.Rows.cnt c l = (l.count c : Int)
  | [] => rfl
  | n :: r => by
    rw [PyProof.Rows.cnt_cons, cnt_count c r, List.count_cons]
    by_cases h : n = c
    · subst h; simp; omega
    · simp [h]
theorem cntD_b (w : List Nat) : cntD (.str (S w)) (.str (S [98])) = some (.int (nb w : Int)) := by
  show some (PyData.int (PySem.Txt.count (S w) ⟨#[98]⟩)) = _
  rw [PyProof.Rows.count_cnt]
  have : PyProof.Rows.cnt 98 (S w).cps.toList = (nb w : Int) := cnt_count 98 w
  rw [this]
def facN (w : List Nat) (l at_ : Nat) : Nat := nb (((w ++ w).drop at_).take l)
theorem is_ring_bar_ok {w : List Nat} (hl : w.length ≤ 10000) {size more less : Nat} (h1 : size ≤ w.length) (h2 : more < w.length) (h3 : less < w.length) (s : SS) :
    phi_is_ring_bar [.d (.str (S w)), .d (.tuple [.int (size : Int), .int (more : Int), .int (less : Int)])] s = some (.bool (decide ((1 : Int) < (facN w size more : Int) - (facN w size less : Int))), s) := by
  have l0 : w.length ≤ LIM := by show w.length ≤ 1000000; omega
  have l2 : (w ++ w).length ≤ LIM := by rw [List.length_append]; show w.length + w.length ≤ 1000000; omega
  have r1 := is_row_basics_ok (.int (size : Int)) (.int (more : Int)) (.int (less : Int)) s
  have r2 := is_number_ok size s
  have r3 : decide ((w.length : Int) < (size : Int)) = false := decide_eq_false (by omega)
  have i0 : atI [PyData.int (size : Int), .int (more : Int), .int (less : Int)] 0 = some (.int (size : Int)) := rfl
  have sl : sliceD (.tuple [.int (size : Int), .int (more : Int), .int (less : Int)]) (some 1) none = some (.tuple [.int (more : Int), .int (less : Int)]) := by
    show some (PyData.tuple (cutA _ (some ((1 : Nat) : Int)) none)) = _
    rw [cut_drop]
    rfl
  have b1 := is_below_ok more w.length h2 s
  have b2 := is_below_ok less w.length h3 s
  have hz : (2 ≤ LIM) = True := eq_true (by decide)
  have c1 : fComp [2] (iOf anyOf (eSlice (eVar 1) (oSome (eC (.int 1))) oNone)) (gVar 2) bYes (cF (phi_is_below) 2 (aCons (eVar 2) (aCons (eCallB lenD (lCons (eVar 0) lNil)) aNil))) [some (.d (.str (S w))), some (.d (.tuple [.int (size : Int), .int (more : Int), .int (less : Int)])), none, none, none] s = some ([PyData.int (more : Int), .int (less : Int)].map (fun _ => PyData.bool true), s) := by
    refine fComp_map _ ?_ (by show 2 ≤ 1000000; decide) ?_
    · simp only [sl, anyOf, sSeq, sNil, sFail, sAsg, sRet, sIf, sDrop, sPar, sPar3, sAsgG, sFld, sBrk, sCnt, gTupD, gConsD, gNilD, gVar, eCallB, lCons, lNil, aCons, aConsP, aNil, pVar, cF, cK, eVar, eC, eOp, bOp, eIf, eTup, eLst, eSlice, oSome, oNone, eRev, eNeg, qOf, seqOf, eUn, eAnd, eOr, eNot, bAnd, bOr, bNot, bOf, bTru, bTruQ, qVar, eItemQ, eIsi, eIsiT, isiB, anyIsi, tyName, isNonD, notNonD, isNonB, eJoin, eGet2, eFL, iOf, strOf, lstOf, tupOf, bYes, sOwn, fLst, sFrz, frz, sApp, sPop, M.bnd, M.ret, M.lift, M.fail, rget, rset, wipeR, addD_int, subI_int, modD_int, ltD_int, leD_int, gtD_int, geD_int, eqD_int, neD_int, eqD_bool, neD_bool, truD_bool, truD_int, intD_int, lenQ, eCallB, List.map, List.length_cons, List.length_nil, List.cons_append, List.nil_append, List.replicate, Nat.reduceAdd, Nat.reduceSub, if_true, if_false, Bool.false_eq_true, reduceIte, Bool.not_true, Bool.not_false, Option.map_some, Option.map_none, reduceCtorEq, decide_true, decide_false]
    · intro x hx
      refine ⟨[some (.d (.str (S w))), some (.d (.tuple [.int (size : Int), .int (more : Int), .int (less : Int)])), some (.d x), none, none], rfl, rfl, ?_⟩
      simp only [List.mem_cons, List.not_mem_nil, or_false] at hx
      rcases hx with rfl | rfl
      · simp only [lenD_S l0, b1, sSeq, sNil, sFail, sAsg, sRet, sIf, sDrop, sPar, sPar3, sAsgG, sFld, sBrk, sCnt, gTupD, gConsD, gNilD, gVar, eCallB, lCons, lNil, aCons, aConsP, aNil, pVar, cF, cK, eVar, eC, eOp, bOp, eIf, eTup, eLst, eSlice, oSome, oNone, eRev, eNeg, qOf, seqOf, eUn, eAnd, eOr, eNot, bAnd, bOr, bNot, bOf, bTru, bTruQ, qVar, eItemQ, eIsi, eIsiT, isiB, anyIsi, tyName, isNonD, notNonD, isNonB, eJoin, eGet2, eFL, iOf, strOf, lstOf, tupOf, bYes, sOwn, fLst, sFrz, frz, sApp, sPop, M.bnd, M.ret, M.lift, M.fail, rget, rset, wipeR, addD_int, subI_int, modD_int, ltD_int, leD_int, gtD_int, geD_int, eqD_int, neD_int, eqD_bool, neD_bool, truD_bool, truD_int, intD_int, lenQ, eCallB, List.map, List.length_cons, List.length_nil, List.cons_append, List.nil_append, List.replicate, Nat.reduceAdd, Nat.reduceSub, if_true, if_false, Bool.false_eq_true, reduceIte, Bool.not_true, Bool.not_false, Option.map_some, Option.map_none, reduceCtorEq, decide_true, decide_false]
      · simp only [lenD_S l0, b2, sSeq, sNil, sFail, sAsg, sRet, sIf, sDrop, sPar, sPar3, sAsgG, sFld, sBrk, sCnt, gTupD, gConsD, gNilD, gVar, eCallB, lCons, lNil, aCons, aConsP, aNil, pVar, cF, cK, eVar, eC, eOp, bOp, eIf, eTup, eLst, eSlice, oSome, oNone, eRev, eNeg, qOf, seqOf, eUn, eAnd, eOr, eNot, bAnd, bOr, bNot, bOf, bTru, bTruQ, qVar, eItemQ, eIsi, eIsiT, isiB, anyIsi, tyName, isNonD, notNonD, isNonB, eJoin, eGet2, eFL, iOf, strOf, lstOf, tupOf, bYes, sOwn, fLst, sFrz, frz, sApp, sPop, M.bnd, M.ret, M.lift, M.fail, rget, rset, wipeR, addD_int, subI_int, modD_int, ltD_int, leD_int, gtD_int, geD_int, eqD_int, neD_int, eqD_bool, neD_bool, truD_bool, truD_int, intD_int, lenQ, eCallB, List.map, List.length_cons, List.length_nil, List.cons_append, List.nil_append, List.replicate, Nat.reduceAdd, Nat.reduceSub, if_true, if_false, Bool.false_eq_true, reduceIte, Bool.not_true, Bool.not_false, Option.map_some, Option.map_none, reduceCtorEq, decide_true, decide_false]
  have ha := all_true (xs := [PyData.int (more : Int), .int (less : Int)])
  have fc : ∀ p : Nat, cutA (w ++ w) (some (p : Int)) (some ((p : Int) + (size : Int))) = if p + size ≤ (w ++ w).length then ((w ++ w).drop p).take size else cutA (w ++ w) (some (p : Int)) (some ((p : Int) + (size : Int))) := fun p => by
    split
    · rename_i hp
      have : ((p : Int) + (size : Int)) = ((p + size : Nat) : Int) := by omega
      rw [this, cut_mid _ _ _ (by omega) hp]
      congr 1
      omega
    · rfl
  have c2 : fComp [2] (iOf anyOf (eSlice (eVar 1) (oSome (eC (.int 1))) oNone)) (gVar 2) bYes (eOp cntD (eSlice (eVar 3) (oSome (eVar 2)) (oSome (eOp addD (eVar 2) (eOp itemD (eVar 1) (eC (.int 0)))))) (eC (.str (S [98])))) [some (.d (.str (S w))), some (.d (.tuple [.int (size : Int), .int (more : Int), .int (less : Int)])), none, some (.d (.str (S (w ++ w)))), none] s = some ([PyData.int (more : Int), .int (less : Int)].map (fun x => match x with | .int p => PyData.int (facN w size p.toNat : Int) | _ => .none), s) := by
    refine fComp_map _ ?_ (by show 2 ≤ 1000000; decide) ?_
    · simp only [sl, anyOf, sSeq, sNil, sFail, sAsg, sRet, sIf, sDrop, sPar, sPar3, sAsgG, sFld, sBrk, sCnt, gTupD, gConsD, gNilD, gVar, eCallB, lCons, lNil, aCons, aConsP, aNil, pVar, cF, cK, eVar, eC, eOp, bOp, eIf, eTup, eLst, eSlice, oSome, oNone, eRev, eNeg, qOf, seqOf, eUn, eAnd, eOr, eNot, bAnd, bOr, bNot, bOf, bTru, bTruQ, qVar, eItemQ, eIsi, eIsiT, isiB, anyIsi, tyName, isNonD, notNonD, isNonB, eJoin, eGet2, eFL, iOf, strOf, lstOf, tupOf, bYes, sOwn, fLst, sFrz, frz, sApp, sPop, M.bnd, M.ret, M.lift, M.fail, rget, rset, wipeR, addD_int, subI_int, modD_int, ltD_int, leD_int, gtD_int, geD_int, eqD_int, neD_int, eqD_bool, neD_bool, truD_bool, truD_int, intD_int, lenQ, eCallB, List.map, List.length_cons, List.length_nil, List.cons_append, List.nil_append, List.replicate, Nat.reduceAdd, Nat.reduceSub, if_true, if_false, Bool.false_eq_true, reduceIte, Bool.not_true, Bool.not_false, Option.map_some, Option.map_none, reduceCtorEq, decide_true, decide_false]
    · intro x hx
      refine ⟨[some (.d (.str (S w))), some (.d (.tuple [.int (size : Int), .int (more : Int), .int (less : Int)])), some (.d x), some (.d (.str (S (w ++ w)))), none], rfl, rfl, ?_⟩
      have key : ∀ p : Nat, p < w.length → cutA (w ++ w) (some (p : Int)) (some ((p : Int) + (size : Int))) = ((w ++ w).drop p).take size := fun p hp => by
        rw [fc p, if_pos (by rw [List.length_append]; omega)]
      have e1 := key more h2
      have e2 := key less h3
      simp only [List.mem_cons, List.not_mem_nil, or_false] at hx
      rcases hx with rfl | rfl
      · simp only [itemD_tuple, i0, sliceD_S l2, e1, cntD_b, facN, Int.toNat_natCast, sSeq, sNil, sFail, sAsg, sRet, sIf, sDrop, sPar, sPar3, sAsgG, sFld, sBrk, sCnt, gTupD, gConsD, gNilD, gVar, eCallB, lCons, lNil, aCons, aConsP, aNil, pVar, cF, cK, eVar, eC, eOp, bOp, eIf, eTup, eLst, eSlice, oSome, oNone, eRev, eNeg, qOf, seqOf, eUn, eAnd, eOr, eNot, bAnd, bOr, bNot, bOf, bTru, bTruQ, qVar, eItemQ, eIsi, eIsiT, isiB, anyIsi, tyName, isNonD, notNonD, isNonB, eJoin, eGet2, eFL, iOf, strOf, lstOf, tupOf, bYes, sOwn, fLst, sFrz, frz, sApp, sPop, M.bnd, M.ret, M.lift, M.fail, rget, rset, wipeR, addD_int, subI_int, modD_int, ltD_int, leD_int, gtD_int, geD_int, eqD_int, neD_int, eqD_bool, neD_bool, truD_bool, truD_int, intD_int, lenQ, eCallB, List.map, List.length_cons, List.length_nil, List.cons_append, List.nil_append, List.replicate, Nat.reduceAdd, Nat.reduceSub, if_true, if_false, Bool.false_eq_true, reduceIte, Bool.not_true, Bool.not_false, Option.map_some, Option.map_none, reduceCtorEq, decide_true, decide_false]
      · simp only [itemD_tuple, i0, sliceD_S l2, e2, cntD_b, facN, Int.toNat_natCast, sSeq, sNil, sFail, sAsg, sRet, sIf, sDrop, sPar, sPar3, sAsgG, sFld, sBrk, sCnt, gTupD, gConsD, gNilD, gVar, eCallB, lCons, lNil, aCons, aConsP, aNil, pVar, cF, cK, eVar, eC, eOp, bOp, eIf, eTup, eLst, eSlice, oSome, oNone, eRev, eNeg, qOf, seqOf, eUn, eAnd, eOr, eNot, bAnd, bOr, bNot, bOf, bTru, bTruQ, qVar, eItemQ, eIsi, eIsiT, isiB, anyIsi, tyName, isNonD, notNonD, isNonB, eJoin, eGet2, eFL, iOf, strOf, lstOf, tupOf, bYes, sOwn, fLst, sFrz, frz, sApp, sPop, M.bnd, M.ret, M.lift, M.fail, rget, rset, wipeR, addD_int, subI_int, modD_int, ltD_int, leD_int, gtD_int, geD_int, eqD_int, neD_int, eqD_bool, neD_bool, truD_bool, truD_int, intD_int, lenQ, eCallB, List.map, List.length_cons, List.length_nil, List.cons_append, List.nil_append, List.replicate, Nat.reduceAdd, Nat.reduceSub, if_true, if_false, Bool.false_eq_true, reduceIte, Bool.not_true, Bool.not_false, Option.map_some, Option.map_none, reduceCtorEq, decide_true, decide_false]
  simp only [List.map_cons, List.map_nil, Int.toNat_natCast] at c1 c2 ha
  have j0 : atI [PyData.int (facN w size more : Int), .int (facN w size less : Int)] 0 = some (.int (facN w size more : Int)) := rfl
  have j1 : atI [PyData.int (facN w size more : Int), .int (facN w size less : Int)] 1 = some (.int (facN w size less : Int)) := rfl
  have mm := mul2_S (w := w) (by omega)
  unfold phi_is_ring_bar runD startD F_is_ring_bar
  simp only [slOf, r1, itemD_tuple, i0, r2, lenD_S l0, r3, sSeq, sNil, sFail, sAsg, sRet, sIf, sDrop, sPar, sPar3, sAsgG, sFld, sBrk, sCnt, gTupD, gConsD, gNilD, gVar, eCallB, lCons, lNil, aCons, aConsP, aNil, pVar, cF, cK, eVar, eC, eOp, bOp, eIf, eTup, eLst, eSlice, oSome, oNone, eRev, eNeg, qOf, seqOf, eUn, eAnd, eOr, eNot, bAnd, bOr, bNot, bOf, bTru, bTruQ, qVar, eItemQ, eIsi, eIsiT, isiB, anyIsi, tyName, isNonD, notNonD, isNonB, eJoin, eGet2, eFL, iOf, strOf, lstOf, tupOf, bYes, sOwn, fLst, sFrz, frz, sApp, sPop, M.bnd, M.ret, M.lift, M.fail, rget, rset, wipeR, addD_int, subI_int, modD_int, ltD_int, leD_int, gtD_int, geD_int, eqD_int, neD_int, eqD_bool, neD_bool, truD_bool, truD_int, intD_int, lenQ, eCallB, List.map, List.length_cons, List.length_nil, List.cons_append, List.nil_append, List.replicate, Nat.reduceAdd, Nat.reduceSub, if_true, if_false, Bool.false_eq_true, reduceIte, Bool.not_true, Bool.not_false, Option.map_some, Option.map_none, reduceCtorEq, decide_true, decide_false]
  simp only [c1, ha, mm, c2, itemD_list, j0, j1, sSeq, sNil, sFail, sAsg, sRet, sIf, sDrop, sPar, sPar3, sAsgG, sFld, sBrk, sCnt, gTupD, gConsD, gNilD, gVar, eCallB, lCons, lNil, aCons, aConsP, aNil, pVar, cF, cK, eVar, eC, eOp, bOp, eIf, eTup, eLst, eSlice, oSome, oNone, eRev, eNeg, qOf, seqOf, eUn, eAnd, eOr, eNot, bAnd, bOr, bNot, bOf, bTru, bTruQ, qVar, eItemQ, eIsi, eIsiT, isiB, anyIsi, tyName, isNonD, notNonD, isNonB, eJoin, eGet2, eFL, iOf, strOf, lstOf, tupOf, bYes, sOwn, fLst, sFrz, frz, sApp, sPop, M.bnd, M.ret, M.lift, M.fail, rget, rset, wipeR, addD_int, subI_int, modD_int, ltD_int, leD_int, gtD_int, geD_int, eqD_int, neD_int, eqD_bool, neD_bool, truD_bool, truD_int, intD_int, lenQ, eCallB, List.map, List.length_cons, List.length_nil, List.cons_append, List.nil_append, List.replicate, Nat.reduceAdd, Nat.reduceSub, if_true, if_false, Bool.false_eq_true, reduceIte, Bool.not_true, Bool.not_false, Option.map_some, Option.map_none, reduceCtorEq, decide_true, decide_false]
end G64

namespace G64
open PySem DL
open L2 (atI ixN)
/-! ### shortest bars: b u b and a u a -/
abbrev fac (w : List Nat) (l p : Nat) : List Nat := ((w ++ w).drop p).take l
theorem nb_app (u v : List Nat) : nb (u ++ v) = nb u + nb v := List.count_append
theorem nb_cons (c : Nat) (u : List Nat) : nb (c :: u) = nb u + (if c = 98 then 1 else 0) := by
  unfold nb
  rw [List.count_cons]
  by_cases h : c = 98
  · subst h; simp
  · simp [h]
theorem fac_len {w : List Nat} {l p : Nat} (hp : p < w.length) (hl : l ≤ w.length) : (fac w l p).length = l := by
  unfold fac
  rw [List.length_take, List.length_drop, List.length_append]
  omega
theorem fac_AB {w : List Nat} (h : AB w) (l p : Nat) : AB (fac w l p) := ((h.app h).drop p).take l
theorem fac_take {w : List Nat} {l p k : Nat} (hk : k ≤ l) : (fac w l p).take k = fac w k p := by
  unfold fac
  rw [List.take_take, Nat.min_eq_left hk]
theorem fac_drop {w : List Nat} {l p k : Nat} (hp : p < w.length) (hl : l ≤ w.length) (hk : k < l) : ∃ q, q < w.length ∧ (fac w l p).drop k = fac w (l - k) q := by
  have e1 : (fac w l p).drop k = ((w ++ w).drop (p + k)).take (l - k) := by
    unfold fac
    rw [List.drop_take, List.drop_drop]
  by_cases h : p + k < w.length
  · exact ⟨p + k, h, e1⟩
  · refine ⟨p + k - w.length, by omega, ?_⟩
    rw [e1]
    unfold fac
    have a1 : (w ++ w).drop (p + k) = w.drop (p + k - w.length) := by
      rw [List.drop_append]
      rw [List.drop_of_length_le (by omega), List.nil_append]
    have a2 : ((w ++ w).drop (p + k - w.length)).take (l - k) = (w.drop (p + k - w.length)).take (l - k) := by
      rw [List.drop_append_of_le_length (by omega), List.take_append_of_le_length (by rw [List.length_drop]; omega)]
    rw [a1, a2]
theorem eq_of_pre : ∀ (X Y : List Nat), AB X → AB Y → X.length = Y.length → (∀ k, k ≤ X.length → nb (X.take k) = nb (Y.take k)) → X = Y
  | [], [], _, _, _, _ => rfl
  | [], _ :: _, _, _, h, _ => by simp at h
  | _ :: _, [], _, _, h, _ => by simp at h
  | x :: X, y :: Y, hX, hY, hl, h => by
    have h1 := h 1 (by simp)
    rw [List.take_succ_cons, List.take_succ_cons, List.take_zero, List.take_zero, nb_cons, nb_cons] at h1
    have hx := hX x List.mem_cons_self
    have hy := hY y List.mem_cons_self
    have exy : x = y := by
      rcases hx with rfl | rfl <;> rcases hy with rfl | rfl <;> simp at h1 <;> rfl
    subst exy
    refine congrArg (x :: ·) (eq_of_pre X Y (fun c hc => hX c (List.mem_cons_of_mem _ hc)) (fun c hc => hY c (List.mem_cons_of_mem _ hc)) (by simpa using hl) fun k hk => ?_)
    have := h (k + 1) (by rw [List.length_cons]; omega)
    rw [List.take_succ_cons, List.take_succ_cons, nb_cons, nb_cons] at this
    omega
theorem shape {X Y : List Nat} {l : Nat} (hX : AB X) (hY : AB Y) (lX : X.length = l) (lY : Y.length = l) (hl : 2 ≤ l) (hm : ∀ k, 0 < k → k < l → nb (X.take k) = nb (Y.take k) + 1) (he : nb Y + 1 < nb X) :
    ∃ u, X = 98 :: (u ++ [98]) ∧ Y = 97 :: (u ++ [97]) ∧ nb X = nb Y + 2 := by
  cases X with
  | nil => simp at lX; omega
  | cons x X =>
    cases Y with
    | nil => simp at lY; omega
    | cons y Y =>
      have h1 := hm 1 (by decide) (by omega)
      rw [List.take_succ_cons, List.take_succ_cons, List.take_zero, List.take_zero, nb_cons, nb_cons] at h1
      have hx : x = 98 ∧ y = 97 := by
        rcases hX x List.mem_cons_self with rfl | rfl <;> rcases hY y List.mem_cons_self with rfl | rfl <;> simp [nb] at h1 ⊢
      obtain ⟨rfl, rfl⟩ := hx
      rcases snoc_cases X with rfl | ⟨u, p, rfl⟩
      · simp at lX; omega
      · rcases snoc_cases Y with rfl | ⟨v, q, rfl⟩
        · simp at lY; omega
        · have lu : u.length + 2 = l := by rw [← lX]; simp
          have lv : v.length + 2 = l := by rw [← lY]; simp
          have euv : u = v := by
            refine eq_of_pre u v (fun c hc => hX c (by simp [hc])) (fun c hc => hY c (by simp [hc])) (by omega) fun k hk => ?_
            have := hm (k + 1) (by omega) (by omega)
            rw [List.take_succ_cons, List.take_succ_cons, nb_cons, nb_cons, List.take_append_of_le_length hk, List.take_append_of_le_length (by omega)] at this
            simp at this
            exact this
          subst euv
          have hp := hX p (by simp)
          have hq := hY q (by simp)
          rw [nb_cons, nb_cons, nb_app, nb_app] at he
          have : p = 98 ∧ q = 97 := by
            rcases hp with rfl | rfl <;> rcases hq with rfl | rfl <;> simp [nb] at he ⊢
            omega
          obtain ⟨rfl, rfl⟩ := this
          refine ⟨u, rfl, rfl, ?_⟩
          rw [nb_cons, nb_cons, nb_app, nb_app]
          simp [nb]
/-- a bar: size l, more b at i than at j by two -/
def Bar (w : List Nat) (l i j : Nat) : Prop := l ≤ w.length ∧ i < w.length ∧ j < w.length ∧ nb (fac w l j) + 1 < nb (fac w l i)
theorem nb_split (X : List Nat) (k : Nat) : nb X = nb (X.take k) + nb (X.drop k) := by
  rw [← nb_app, List.take_append_drop]
theorem bar_shape {w : List Nat} (hw : AB w) {l i j : Nat} (h : Bar w l i j) (hmin : ∀ l' i' j', Bar w l' i' j' → l ≤ l') : ∃ u, fac w l i = 98 :: (u ++ [98]) ∧ fac w l j = 97 :: (u ++ [97]) ∧ nb (fac w l i) = nb (fac w l j) + 2 := by
  obtain ⟨hl, hi, hj, hd⟩ := h
  have li := fac_len hi hl
  have lj := fac_len hj hl
  have up : ∀ k, 0 < k → k < l → nb ((fac w l i).take k) ≤ nb ((fac w l j).take k) + 1 ∧ nb ((fac w l i).drop k) ≤ nb ((fac w l j).drop k) + 1 := fun k h0 hk => by
    constructor
    · rw [fac_take (by omega), fac_take (by omega)]
      by_cases hh : nb (fac w k i) ≤ nb (fac w k j) + 1
      · exact hh
      · have := hmin k i j ⟨by omega, hi, hj, by omega⟩
        omega
    · obtain ⟨p, hp, ep⟩ := fac_drop hi hl hk
      obtain ⟨q, hq, eq⟩ := fac_drop hj hl hk
      rw [ep, eq]
      by_cases hh : nb (fac w (l - k) p) ≤ nb (fac w (l - k) q) + 1
      · exact hh
      · have := hmin (l - k) p q ⟨by omega, hp, hq, by omega⟩
        omega
  have h2 : 2 ≤ l := by
    by_cases h0 : 2 ≤ l
    · exact h0
    · have h3 : nb (fac w l i) ≤ l := Nat.le_trans (List.count_le_length (a := 98) (l := fac w l i)) (Nat.le_of_eq li)
      omega
  refine shape (fac_AB hw l i) (fac_AB hw l j) li lj h2 (fun k h0 hk => ?_) hd
  obtain ⟨a, b⟩ := up k h0 hk
  have s1 := nb_split (fac w l i) k
  have s2 := nb_split (fac w l j) k
  omega
end G64

namespace G64
open PySem DL
open L2 (atI ixN)
/-! ### the first bar is the least one -/
theorem cntAt_fac {w : List Nat} {l p : Nat} : cntAt w l p = (nb (fac w l p) : Int) := by
  unfold cntAt fac
  have : (w ++ w).take (p + l) = (w ++ w).take p ++ ((w ++ w).drop p).take l := List.take_add
  rw [this, nb_app]
  omega
theorem idxI_ok {ns : List Int} {v : Int} (h : v ∈ ns) : ∃ hl : idxI ns v < ns.length, ns[idxI ns v] = v ∧ ∀ m, (hm : m < ns.length) → ns[m] = v → idxI ns v ≤ m := by
  unfold idxI
  cases hf : ns.findIdx? fun z => z == v with
  | none =>
    rw [List.findIdx?_eq_none_iff] at hf
    have := hf v h
    simp at this
  | some j =>
    obtain ⟨h1, h2, h3⟩ := List.findIdx?_eq_some_iff_getElem.mp hf
    refine ⟨h1, by simpa using h2, fun m hm hv => ?_⟩
    show j ≤ m
    by_cases hj : j ≤ m
    · exact hj
    · have := h3 m (by omega)
      rw [hv] at this
      simp at this
def lotP (ns : List Int) : Bool := decide (ns ≠ [] ∧ 1 < maxI ns - minI ns)
theorem fbar_find (f : Nat → List Int) : ∀ ls : List Nat, fbar (ls.map fun (l : Nat) => ((l : Int), f l)) = (ls.find? fun l => lotP (f l)).map fun (l : Nat) => ((l : Int), idxI (f l) (maxI (f l)), idxI (f l) (minI (f l)))
  | [] => rfl
  | l :: ls => by
    rw [List.map_cons]
    unfold fbar
    by_cases h : f l ≠ [] ∧ 1 < maxI (f l) - minI (f l)
    · have hp : lotP (f l) = true := decide_eq_true h
      rw [if_pos h, List.find?_cons_of_pos (by exact hp)]
      rfl
    · have hp : ¬ lotP (f l) = true := by unfold lotP; simpa using h
      rw [if_neg h, List.find?_cons_of_neg (by exact hp)]
      exact fbar_find f ls
def rowL (w : List Nat) (l : Nat) : List Int := (List.range w.length).map fun (p : Nat) => cntAt w l p
theorem rowL_get {w : List Nat} {l p : Nat} (h : p < w.length) : ∃ h' : p < (rowL w l).length, (rowL w l)[p] = (nb (fac w l p) : Int) := by
  have hl : (rowL w l).length = w.length := by unfold rowL; simp
  refine ⟨by omega, ?_⟩
  unfold rowL
  rw [List.getElem_map, List.getElem_range, cntAt_fac]
theorem rowL_mem {w : List Nat} {l : Nat} {v : Int} : v ∈ rowL w l ↔ ∃ p, p < w.length ∧ v = (nb (fac w l p) : Int) := by
  unfold rowL
  rw [List.mem_map]
  constructor
  · rintro ⟨p, hp, rfl⟩
    exact ⟨p, List.mem_range.mp hp, cntAt_fac⟩
  · rintro ⟨p, hp, rfl⟩
    exact ⟨p, List.mem_range.mpr hp, cntAt_fac⟩
theorem lotP_iff {w : List Nat} {l : Nat} (hl : l ≤ w.length) : lotP (rowL w l) = true ↔ ∃ i j, Bar w l i j := by
  unfold lotP
  rw [decide_eq_true_iff]
  constructor
  · rintro ⟨h1, h2⟩
    obtain ⟨i, hi, ei⟩ := rowL_mem.mp (maxI_mem h1).1
    obtain ⟨j, hj, ej⟩ := rowL_mem.mp (minI_mem h1).1
    exact ⟨i, j, hl, hi, hj, by omega⟩
  · rintro ⟨i, j, _, hi, hj, hd⟩
    have m1 : (nb (fac w l i) : Int) ∈ rowL w l := rowL_mem.mpr ⟨i, hi, rfl⟩
    have m2 : (nb (fac w l j) : Int) ∈ rowL w l := rowL_mem.mpr ⟨j, hj, rfl⟩
    have hne : rowL w l ≠ [] := fun e => by rw [e] at m1; cases m1
    have a1 := (maxI_mem hne).2 _ m1
    have a2 := (minI_mem hne).2 _ m2
    exact ⟨hne, by omega⟩
theorem no_full {w : List Nat} {i j : Nat} : ¬ Bar w w.length i j := fun ⟨_, hi, hj, hd⟩ => by
  have key : ∀ p, p < w.length → nb (fac w w.length p) = nb w := fun p hp => by
    have e : fac w w.length p = w.drop p ++ w.take p := by
      unfold fac
      rw [List.drop_append_of_le_length (by omega), List.take_append]
      rw [List.take_of_length_le (by rw [List.length_drop]; omega), List.length_drop]
      congr 2
      omega
    rw [e, nb_app, Nat.add_comm, ← nb_app, List.take_append_drop]
  rw [key i hi, key j hj] at hd
  omega
theorem lotsOf_map (w : List Nat) : lotsOf w = (List.range w.length).map fun (l : Nat) => ((l : Int), rowL w l) := rfl
theorem fbar_none {w : List Nat} (h : fbar (lotsOf w) = none) (l i j : Nat) : ¬ Bar w l i j := fun hb => by
  rw [lotsOf_map, fbar_find] at h
  by_cases hl : l = w.length
  · subst hl
    exact no_full hb
  · have hlt : l < w.length := by have := hb.1; omega
    have hp := (lotP_iff hb.1).mpr ⟨i, j, hb⟩
    have : ((List.range w.length).find? fun l => lotP (rowL w l)) = none := by
      cases e : (List.range w.length).find? fun l => lotP (rowL w l) with
      | none => rfl
      | some _ => rw [e] at h; cases h
    rw [List.find?_eq_none] at this
    exact this l (List.mem_range.mpr hlt) hp
theorem fbar_some {w : List Nat} (hw : AB w) {L : Int} {i j : Nat} (h : fbar (lotsOf w) = some (L, i, j)) : ∃ l : Nat, L = (l : Int) ∧ Bar w l i j ∧ (∀ l' i' j', Bar w l' i' j' → l ≤ l') ∧ ∀ i' j', Bar w l i' j' → i ≤ i' ∧ j ≤ j' := by
  rw [lotsOf_map, fbar_find] at h
  cases e : (List.range w.length).find? fun l => lotP (rowL w l) with
  | none => rw [e] at h; cases h
  | some l =>
    rw [e] at h
    have h' := Option.some.inj h
    obtain ⟨h1, h2⟩ := Prod.mk.inj h'
    obtain ⟨h3, h4⟩ := Prod.mk.inj h2
    obtain ⟨p1, p2, p3⟩ := List.find?_range_eq_some.mp e
    have hl : l < w.length := List.mem_range.mp p2
    have hmin : ∀ l' i' j', Bar w l' i' j' → l ≤ l' := fun l' i' j' hb => by
      by_cases hh : l ≤ l'
      · exact hh
      · have := p3 l' (by omega)
        rw [(lotP_iff hb.1).mpr ⟨i', j', hb⟩] at this
        cases this
    have hp := p1
    unfold lotP at hp
    rw [decide_eq_true_iff] at hp
    obtain ⟨hne, hd⟩ := hp
    obtain ⟨k1, k2, k3⟩ := idxI_ok (maxI_mem hne).1
    obtain ⟨m1, m2, m3⟩ := idxI_ok (minI_mem hne).1
    subst h3
    subst h4
    have hlen : (rowL w l).length = w.length := by unfold rowL; simp
    have hi := k1
    rw [hlen] at hi
    have hj := m1
    rw [hlen] at hj
    obtain ⟨_, gi⟩ := rowL_get (w := w) (l := l) hi
    obtain ⟨_, gj⟩ := rowL_get (w := w) (l := l) hj
    rw [gi] at k2
    rw [gj] at m2
    have hb : Bar w l _ _ := ⟨by omega, hi, hj, by omega⟩
    refine ⟨l, h1.symm, hb, hmin, fun i' j' hb' => ?_⟩
    have hi' := hb'.2.1
    have hj' := hb'.2.2.1
    obtain ⟨q1, gi'⟩ := rowL_get (w := w) (l := l) hi'
    obtain ⟨q2, gj'⟩ := rowL_get (w := w) (l := l) hj'
    have x1 := (maxI_mem hne).2 _ (rowL_mem.mpr ⟨i', hi', rfl⟩)
    have x2 := (minI_mem hne).2 _ (rowL_mem.mpr ⟨j', hj', rfl⟩)
    have hd' := hb'.2.2.2
    obtain ⟨_, _, _, y1⟩ := bar_shape hw hb' hmin
    obtain ⟨_, _, _, y2⟩ := bar_shape hw hb hmin
    exact ⟨k3 i' q1 (by rw [gi']; omega), m3 j' q2 (by rw [gj']; omega)⟩
end G64

namespace G64
open PySem DL
open L2 (atI ixN)
theorem AB.one {c : Nat} (h : c = 97 ∨ c = 98) : AB [c] := fun d hd => by rw [List.mem_singleton] at hd; rw [hd]; exact h
theorem AB.nil : AB [] := fun _ h => by cases h
theorem to_words : ∀ {ds : List PyData}, (∀ d ∈ ds, ∃ c, (c = 97 ∨ c = 98) ∧ d = .str (S [c])) → ∃ ls : List (List Nat), ds = ls.map (fun l => PyData.str (S l)) ∧ AB ls.flatten ∧ ls.flatten.length = ds.length
  | [], _ => ⟨[], rfl, AB.nil, rfl⟩
  | d :: ds, h => by
    obtain ⟨c, hc, rfl⟩ := h d List.mem_cons_self
    obtain ⟨ls, e, hw, hl⟩ := to_words fun x hx => h x (List.mem_cons_of_mem _ hx)
    refine ⟨[c] :: ls, by rw [e]; rfl, ?_, ?_⟩
    · rw [List.flatten_cons]; exact (AB.one hc).app hw
    · rw [List.flatten_cons, List.length_append, hl]
      show 1 + ds.length = ds.length + 1
      omega
theorem drawn_ok {a b : PySem.Addr} {n : Int} {z : Strm} {many : Nat} (hm : many ≤ 1000) (hz : Zs a b n z) (hn : n ≤ 900000000) :
    ∃ w z', phi__law_v_drawn [.p a, .d (.int (many : Int))] (some z) = some (.str (S w), some z') ∧ AB w ∧ w.length = many ∧ Zs a b (n + 1000) z' := by
  have L : LIM = 1000000 := rfl
  have hb : (-RLIM ≤ (many : Int) ∧ (many : Int) ≤ RLIM) = True := eq_true (by unfold RLIM; omega)
  obtain ⟨ds, z', h1, h2, h3, h4⟩ := compL_draw (Mx := 1000000000) (a := a) (b := b) (P := fun d => ∃ c, (c = 97 ∨ c = 98) ∧ d = .str (S [c])) (g := gVar 2) (t := bYes) (f := cF (phi_pick) 2 (aConsP 0 (aCons (eLst (lCons (eC (.str (S [97]))) (lCons (eC (.str (S [98]))) lNil))) aNil)))
    (ρ := [some (.p a), some (.d (.int (many : Int))), none]) 1 (rangeL 0 many) n z hz (by rw [range_len]; omega) (by
      intro x hx m y hy hm'
      obtain ⟨d, y', p1, p2, p3⟩ := pickZ (xs := [.str (S [97]), .str (S [98])]) hy (by omega) (by simp) (by simp)
      have h2L : (2 ≤ LIM) = True := eq_true (by decide)
      refine ⟨_, d, y', rfl, rfl, ?_, ?_, p3⟩
      · simp only [h2L, p1, sSeq, sNil, sFail, sAsg, sRet, sIf, sDrop, sPar, sPar3, sAsgG, sFld, sBrk, sCnt, gTupD, gConsD, gNilD, gVar, eCallB, lCons, lNil, aCons, aConsP, aNil, pVar, cF, cK, eVar, eC, eOp, bOp, eIf, eTup, eLst, eSlice, oSome, oNone, eRev, eNeg, qOf, seqOf, eUn, eAnd, eOr, eNot, bAnd, bOr, bNot, bOf, bTru, bTruQ, qVar, eItemQ, eIsi, eIsiT, isiB, anyIsi, tyName, isNonD, notNonD, isNonB, eJoin, eGet2, eFL, iOf, strOf, lstOf, tupOf, bYes, sOwn, fLst, sFrz, frz, sApp, sPop, M.bnd, M.ret, M.lift, M.fail, rget, rset, wipeR, addD_int, subI_int, modD_int, ltD_int, leD_int, gtD_int, geD_int, eqD_int, neD_int, eqD_bool, neD_bool, truD_bool, truD_int, intD_int, lenQ, eCallB, List.map, List.length_cons, List.length_nil, List.cons_append, List.nil_append, List.replicate, Nat.reduceAdd, Nat.reduceSub, if_true, if_false, Bool.false_eq_true, reduceIte, Bool.not_true, Bool.not_false, Option.map_some, Option.map_none, reduceCtorEq, decide_true, decide_false]
      · simp only [List.mem_cons, List.not_mem_nil, or_false] at p2
        rcases p2 with h | h
        · exact ⟨97, .inl rfl, h⟩
        · exact ⟨98, .inr rfl, h⟩)
  rw [range_len] at h2 h4
  obtain ⟨ls, el, hw, hl⟩ := to_words h3
  have hj := joinD_nil (ls := ls) (by omega)
  rw [← el] at hj
  have hi : iRange1 (eVar 1) [some (.p a), some (.d (.int (many : Int))), none] (some z) = some (rangeL 0 many, some z) := by simp only [iRange1, hb, Int.toNat_natCast, sSeq, sNil, sFail, sAsg, sRet, sIf, sDrop, sPar, sPar3, sAsgG, sFld, sBrk, sCnt, gTupD, gConsD, gNilD, gVar, eCallB, lCons, lNil, aCons, aConsP, aNil, pVar, cF, cK, eVar, eC, eOp, bOp, eIf, eTup, eLst, eSlice, oSome, oNone, eRev, eNeg, qOf, seqOf, eUn, eAnd, eOr, eNot, bAnd, bOr, bNot, bOf, bTru, bTruQ, qVar, eItemQ, eIsi, eIsiT, isiB, anyIsi, tyName, isNonD, notNonD, isNonB, eJoin, eGet2, eFL, iOf, strOf, lstOf, tupOf, bYes, sOwn, fLst, sFrz, frz, sApp, sPop, M.bnd, M.ret, M.lift, M.fail, rget, rset, wipeR, addD_int, subI_int, modD_int, ltD_int, leD_int, gtD_int, geD_int, eqD_int, neD_int, eqD_bool, neD_bool, truD_bool, truD_int, intD_int, lenQ, eCallB, List.map, List.length_cons, List.length_nil, List.cons_append, List.nil_append, List.replicate, Nat.reduceAdd, Nat.reduceSub, if_true, if_false, Bool.false_eq_true, reduceIte, Bool.not_true, Bool.not_false, Option.map_some, Option.map_none, reduceCtorEq, decide_true, decide_false]
  have key : fComp [2] (iRange1 (eVar 1)) (gVar 2) bYes (cF (phi_pick) 2 (aConsP 0 (aCons (eLst (lCons (eC (.str (S [97]))) (lCons (eC (.str (S [98]))) lNil))) aNil))) [some (.p a), some (.d (.int (many : Int))), none] (some z) = some (ds, some z') := by
    have hr : ((rangeL 0 many).length ≤ LIM) = True := eq_true (by rw [range_len]; omega)
    simp only [fComp, M.bnd, hi, hr, if_true]
    exact h1
  refine ⟨ls.flatten, z', ?_, hw, by omega, h4.mono (by omega)⟩
  unfold phi__law_v_drawn runD startD F__law_v_drawn
  simp only [slOf, key, hj, sSeq, sNil, sFail, sAsg, sRet, sIf, sDrop, sPar, sPar3, sAsgG, sFld, sBrk, sCnt, gTupD, gConsD, gNilD, gVar, eCallB, lCons, lNil, aCons, aConsP, aNil, pVar, cF, cK, eVar, eC, eOp, bOp, eIf, eTup, eLst, eSlice, oSome, oNone, eRev, eNeg, qOf, seqOf, eUn, eAnd, eOr, eNot, bAnd, bOr, bNot, bOf, bTru, bTruQ, qVar, eItemQ, eIsi, eIsiT, isiB, anyIsi, tyName, isNonD, notNonD, isNonB, eJoin, eGet2, eFL, iOf, strOf, lstOf, tupOf, bYes, sOwn, fLst, sFrz, frz, sApp, sPop, M.bnd, M.ret, M.lift, M.fail, rget, rset, wipeR, addD_int, subI_int, modD_int, ltD_int, leD_int, gtD_int, geD_int, eqD_int, neD_int, eqD_bool, neD_bool, truD_bool, truD_int, intD_int, lenQ, eCallB, List.map, List.length_cons, List.length_nil, List.cons_append, List.nil_append, List.replicate, Nat.reduceAdd, Nat.reduceSub, if_true, if_false, Bool.false_eq_true, reduceIte, Bool.not_true, Bool.not_false, Option.map_some, Option.map_none, reduceCtorEq, decide_true, decide_false]
/-! ### a spread word, by its letters alone -/
abbrev rhoS (p q r : Nat) (w : List Nat) (t : Int) (x6 x7 x8 x9 : Option Sl) : Rho := [some (.d (.int (p : Int))), some (.d (.int (q : Int))), some (.d (.int (r : Int))), some (.d (.int ((p + q : Nat) : Int))), some (.d (.str (S w))), some (.d (.int t)), x6, x7, x8, x9]
abbrev cSpread : DT := (fComp [8] (iRange1 (eOp addD (eVar 3) (eC (.int 2)))) (gVar 8) (bOf (eChain ltD leD (eVar 5) (eOp mulD (eVar 8) (eVar 3)) (eVar 7))) (eVar 8))
abbrev fSpread : DS := (sSeq (sAsg 7 (eOp addD (eVar 5) (eVar 1))) (sSeq (sAsg 9 (eFL cSpread)) (sAsgG (gTupD 2 (gConsD (gVar 4) (gConsD (gVar 5) gNilD))) (eTup (lCons (eOp addD (eVar 4) (eIf (bOp neD (eVar 9) (eLst lNil)) (eC (.str (S [98]))) (eC (.str (S [97]))))) (lCons (eVar 7) lNil))))))
def hitsOf (p q : Nat) (t : Int) : List PyData := (rangeL 0 (p + q + 2)).filter (fun y => match y with | .int k => decide (t < k * ((p + q : Nat) : Int)) && decide (k * ((p + q : Nat) : Int) ≤ t + (q : Int)) | _ => false)
theorem hits_ints (p q : Nat) (t : Int) : ∃ ks : List Int, hitsOf p q t = ks.map PyData.int := by
  unfold hitsOf rangeL
  rw [List.filter_map]
  exact ⟨_, (List.map_map (f := fun (k : Nat) => (0 : Int) + (k : Int)) (g := PyData.int)).symm⟩
theorem hits_ev {p q r : Nat} (h : p + q ≤ 1000) {w : List Nat} {t : Int} {x6 x8 x9 : Option Sl} (s : SS) : cSpread (rhoS p q r w t x6 (some (.d (.int (t + (q : Int))))) x8 x9) s = some (hitsOf p q t, s) := by
  have hn : eOp addD (eVar 3) (eC (.int 2)) (rhoS p q r w t x6 (some (.d (.int (t + (q : Int))))) x8 x9) s = some (.int ((p + q + 2 : Nat) : Int), s) := by
    have e2 : ((p + q + 2 : Nat) : Int) = ((p + q : Nat) : Int) + 2 := by omega
    rw [e2]
    simp only [sSeq, sNil, sFail, sAsg, sRet, sIf, sDrop, sPar, sPar3, sAsgG, sFld, sBrk, sCnt, gTupD, gConsD, gNilD, gVar, eCallB, lCons, lNil, aCons, aConsP, aNil, pVar, cF, cK, eVar, eC, eOp, bOp, eIf, eTup, eLst, eSlice, oSome, oNone, eRev, eNeg, qOf, seqOf, eUn, eAnd, eOr, eNot, bAnd, bOr, bNot, bOf, bTru, bTruQ, qVar, eItemQ, eIsi, eIsiT, isiB, anyIsi, tyName, isNonD, notNonD, isNonB, eJoin, eGet2, eFL, iOf, strOf, lstOf, tupOf, bYes, sOwn, fLst, sFrz, frz, sApp, sPop, M.bnd, M.ret, M.lift, M.fail, rget, rset, wipeR, addD_int, subI_int, modD_int, ltD_int, leD_int, gtD_int, geD_int, eqD_int, neD_int, eqD_bool, neD_bool, truD_bool, truD_int, intD_int, lenQ, eCallB, List.map, List.length_cons, List.length_nil, List.cons_append, List.nil_append, List.replicate, Nat.reduceAdd, Nat.reduceSub, if_true, if_false, Bool.false_eq_true, reduceIte, Bool.not_true, Bool.not_false, Option.map_some, Option.map_none, reduceCtorEq, decide_true, decide_false]
  have key := fComp_filter (vs := [8]) (m := iRange1 (eOp addD (eVar 3) (eC (.int 2)))) (g := gVar 8) (t := bOf (eChain ltD leD (eVar 5) (eOp mulD (eVar 8) (eVar 3)) (eVar 7))) (f := eVar 8) (ρ := rhoS p q r w t x6 (some (.d (.int (t + (q : Int))))) x8 x9) (s := s) (s1 := s) (xs := rangeL 0 (p + q + 2))
    (fun y => match y with | .int k => decide (t < k * ((p + q : Nat) : Int)) && decide (k * ((p + q : Nat) : Int) ≤ t + (q : Int)) | _ => false) (fun y => y) (range1_ev hn (by omega)) (by rw [range_len]; show _ ≤ 1000000; omega) (by
      intro y hy
      obtain ⟨k, hk, rfl⟩ := range_mem hy
      refine ⟨rhoS p q r w t x6 (some (.d (.int (t + (q : Int))))) (some (.d (.int (k : Int)))) x9, rfl, ?_, rfl⟩
      have hm : mulD (.int (k : Int)) (.int ((p + q : Nat) : Int)) = some (.int ((k : Int) * ((p + q : Nat) : Int))) := mulD_int (.inl (by omega))
      by_cases h1 : t < (k : Int) * ((p + q : Nat) : Int)
      · have d1 := decide_eq_true h1
        simp only [eChain, hm, d1, Bool.true_and, sSeq, sNil, sFail, sAsg, sRet, sIf, sDrop, sPar, sPar3, sAsgG, sFld, sBrk, sCnt, gTupD, gConsD, gNilD, gVar, eCallB, lCons, lNil, aCons, aConsP, aNil, pVar, cF, cK, eVar, eC, eOp, bOp, eIf, eTup, eLst, eSlice, oSome, oNone, eRev, eNeg, qOf, seqOf, eUn, eAnd, eOr, eNot, bAnd, bOr, bNot, bOf, bTru, bTruQ, qVar, eItemQ, eIsi, eIsiT, isiB, anyIsi, tyName, isNonD, notNonD, isNonB, eJoin, eGet2, eFL, iOf, strOf, lstOf, tupOf, bYes, sOwn, fLst, sFrz, frz, sApp, sPop, M.bnd, M.ret, M.lift, M.fail, rget, rset, wipeR, addD_int, subI_int, modD_int, ltD_int, leD_int, gtD_int, geD_int, eqD_int, neD_int, eqD_bool, neD_bool, truD_bool, truD_int, intD_int, lenQ, eCallB, List.map, List.length_cons, List.length_nil, List.cons_append, List.nil_append, List.replicate, Nat.reduceAdd, Nat.reduceSub, if_true, if_false, Bool.false_eq_true, reduceIte, Bool.not_true, Bool.not_false, Option.map_some, Option.map_none, reduceCtorEq, decide_true, decide_false]
      · have d1 := decide_eq_false h1
        simp only [eChain, hm, d1, Bool.false_and, sSeq, sNil, sFail, sAsg, sRet, sIf, sDrop, sPar, sPar3, sAsgG, sFld, sBrk, sCnt, gTupD, gConsD, gNilD, gVar, eCallB, lCons, lNil, aCons, aConsP, aNil, pVar, cF, cK, eVar, eC, eOp, bOp, eIf, eTup, eLst, eSlice, oSome, oNone, eRev, eNeg, qOf, seqOf, eUn, eAnd, eOr, eNot, bAnd, bOr, bNot, bOf, bTru, bTruQ, qVar, eItemQ, eIsi, eIsiT, isiB, anyIsi, tyName, isNonD, notNonD, isNonB, eJoin, eGet2, eFL, iOf, strOf, lstOf, tupOf, bYes, sOwn, fLst, sFrz, frz, sApp, sPop, M.bnd, M.ret, M.lift, M.fail, rget, rset, wipeR, addD_int, subI_int, modD_int, ltD_int, leD_int, gtD_int, geD_int, eqD_int, neD_int, eqD_bool, neD_bool, truD_bool, truD_int, intD_int, lenQ, eCallB, List.map, List.length_cons, List.length_nil, List.cons_append, List.nil_append, List.replicate, Nat.reduceAdd, Nat.reduceSub, if_true, if_false, Bool.false_eq_true, reduceIte, Bool.not_true, Bool.not_false, Option.map_some, Option.map_none, reduceCtorEq, decide_true, decide_false])
  rw [List.map_id'] at key
  exact key
theorem spread_turn {p q r : Nat} (h : p + q ≤ 1000) {w : List Nat} (hl : w.length ≤ 1000) {t : Int} {x6 x7 x8 x9 : Option Sl} (s : SS) : ∃ c x9', (c = 97 ∨ c = 98) ∧ fSpread (rhoS p q r w t x6 x7 x8 x9) s = some (.nx (rhoS p q r (w ++ [c]) (t + (q : Int)) x6 (some (.d (.int (t + (q : Int))))) x8 x9'), s) := by
  have h2L : (2 ≤ LIM) = True := eq_true (by decide)
  have h0L : (0 ≤ LIM) = True := eq_true (by decide)
  have e7 : sAsg 7 (eOp addD (eVar 5) (eVar 1)) (rhoS p q r w t x6 x7 x8 x9) s = some (.nx (rhoS p q r w t x6 (some (.d (.int (t + (q : Int))))) x8 x9), s) := by simp only [sSeq, sNil, sFail, sAsg, sRet, sIf, sDrop, sPar, sPar3, sAsgG, sFld, sBrk, sCnt, gTupD, gConsD, gNilD, gVar, eCallB, lCons, lNil, aCons, aConsP, aNil, pVar, cF, cK, eVar, eC, eOp, bOp, eIf, eTup, eLst, eSlice, oSome, oNone, eRev, eNeg, qOf, seqOf, eUn, eAnd, eOr, eNot, bAnd, bOr, bNot, bOf, bTru, bTruQ, qVar, eItemQ, eIsi, eIsiT, isiB, anyIsi, tyName, isNonD, notNonD, isNonB, eJoin, eGet2, eFL, iOf, strOf, lstOf, tupOf, bYes, sOwn, fLst, sFrz, frz, sApp, sPop, M.bnd, M.ret, M.lift, M.fail, rget, rset, wipeR, addD_int, subI_int, modD_int, ltD_int, leD_int, gtD_int, geD_int, eqD_int, neD_int, eqD_bool, neD_bool, truD_bool, truD_int, intD_int, lenQ, eCallB, List.map, List.length_cons, List.length_nil, List.cons_append, List.nil_append, List.replicate, Nat.reduceAdd, Nat.reduceSub, if_true, if_false, Bool.false_eq_true, reduceIte, Bool.not_true, Bool.not_false, Option.map_some, Option.map_none, reduceCtorEq, decide_true, decide_false]
  have hh := hits_ev (r := r) h (w := w) (t := t) (x6 := x6) (x8 := x8) (x9 := x9) s
  obtain ⟨ks, eks⟩ := hits_ints p q t
  obtain ⟨hne, _⟩ := eq_nil_list (ks.map PyData.int) (flat_ints ks)
  rw [← eks] at hne
  have e9 := asg_ev (i := 9) (fl_ev hh)
  have er : rset (rhoS p q r w t x6 (some (.d (.int (t + (q : Int))))) x8 x9) 9 (some (.d (.list (hitsOf p q t)))) = rhoS p q r w t x6 (some (.d (.int (t + (q : Int))))) x8 (some (.d (.list (hitsOf p q t)))) := by simp only [rset]
  rw [er] at e9
  have a1 := addD_str (a := w) (b := [97]) (by rw [List.length_singleton]; show w.length + 1 ≤ 1000000; omega)
  have a2 := addD_str (a := w) (b := [98]) (by rw [List.length_singleton]; show w.length + 1 ≤ 1000000; omega)
  unfold fSpread
  rw [seq_nx e7, seq_nx e9]
  generalize hitsOf p q t = kl at *
  cases hk : kl.isEmpty with
  | true =>
    rw [hk] at hne
    refine ⟨97, some (.d (.list kl)), .inl rfl, ?_⟩
    simp only [hne, a1, h2L, h0L, Option.bind, sSeq, sNil, sFail, sAsg, sRet, sIf, sDrop, sPar, sPar3, sAsgG, sFld, sBrk, sCnt, gTupD, gConsD, gNilD, gVar, eCallB, lCons, lNil, aCons, aConsP, aNil, pVar, cF, cK, eVar, eC, eOp, bOp, eIf, eTup, eLst, eSlice, oSome, oNone, eRev, eNeg, qOf, seqOf, eUn, eAnd, eOr, eNot, bAnd, bOr, bNot, bOf, bTru, bTruQ, qVar, eItemQ, eIsi, eIsiT, isiB, anyIsi, tyName, isNonD, notNonD, isNonB, eJoin, eGet2, eFL, iOf, strOf, lstOf, tupOf, bYes, sOwn, fLst, sFrz, frz, sApp, sPop, M.bnd, M.ret, M.lift, M.fail, rget, rset, wipeR, addD_int, subI_int, modD_int, ltD_int, leD_int, gtD_int, geD_int, eqD_int, neD_int, eqD_bool, neD_bool, truD_bool, truD_int, intD_int, lenQ, eCallB, List.map, List.length_cons, List.length_nil, List.cons_append, List.nil_append, List.replicate, Nat.reduceAdd, Nat.reduceSub, if_true, if_false, Bool.false_eq_true, reduceIte, Bool.not_true, Bool.not_false, Option.map_some, Option.map_none, reduceCtorEq, decide_true, decide_false]
  | false =>
    rw [hk] at hne
    refine ⟨98, some (.d (.list kl)), .inr rfl, ?_⟩
    simp only [hne, a2, h2L, h0L, Option.bind, sSeq, sNil, sFail, sAsg, sRet, sIf, sDrop, sPar, sPar3, sAsgG, sFld, sBrk, sCnt, gTupD, gConsD, gNilD, gVar, eCallB, lCons, lNil, aCons, aConsP, aNil, pVar, cF, cK, eVar, eC, eOp, bOp, eIf, eTup, eLst, eSlice, oSome, oNone, eRev, eNeg, qOf, seqOf, eUn, eAnd, eOr, eNot, bAnd, bOr, bNot, bOf, bTru, bTruQ, qVar, eItemQ, eIsi, eIsiT, isiB, anyIsi, tyName, isNonD, notNonD, isNonB, eJoin, eGet2, eFL, iOf, strOf, lstOf, tupOf, bYes, sOwn, fLst, sFrz, frz, sApp, sPop, M.bnd, M.ret, M.lift, M.fail, rget, rset, wipeR, addD_int, subI_int, modD_int, ltD_int, leD_int, gtD_int, geD_int, eqD_int, neD_int, eqD_bool, neD_bool, truD_bool, truD_int, intD_int, lenQ, eCallB, List.map, List.length_cons, List.length_nil, List.cons_append, List.nil_append, List.replicate, Nat.reduceAdd, Nat.reduceSub, if_true, if_false, Bool.false_eq_true, reduceIte, Bool.not_true, Bool.not_false, Option.map_some, Option.map_none, reduceCtorEq, decide_true, decide_false]
theorem spread_ok {p q r : Nat} (h : p + q ≤ 1000) (s : SS) : ∃ w, phi__law_v_spread [.d (.int (p : Int)), .d (.int (q : Int)), .d (.int (r : Int))] s = some (.str (S w), s) ∧ AB w ∧ w.length = p + q := by
  have h3L : (3 ≤ LIM) = True := eq_true (by decide)
  have em : ((p : Int) + (q : Int)) = ((p + q : Nat) : Int) := by omega
  have eA : sAsgG (gTupD 3 (gConsD (gVar 3) (gConsD (gVar 4) (gConsD (gVar 5) gNilD)))) (eTup (lCons (eOp addD (eVar 0) (eVar 1)) (lCons (eC (.str (S []))) (lCons (eVar 2) lNil)))) [some (.d (.int (p : Int))), some (.d (.int (q : Int))), some (.d (.int (r : Int))), none, none, none, none, none, none, none] s = some (.nx (rhoS p q r [] (r : Int) none none none none), s) := by
    simp only [em, h3L, Option.bind, sSeq, sNil, sFail, sAsg, sRet, sIf, sDrop, sPar, sPar3, sAsgG, sFld, sBrk, sCnt, gTupD, gConsD, gNilD, gVar, eCallB, lCons, lNil, aCons, aConsP, aNil, pVar, cF, cK, eVar, eC, eOp, bOp, eIf, eTup, eLst, eSlice, oSome, oNone, eRev, eNeg, qOf, seqOf, eUn, eAnd, eOr, eNot, bAnd, bOr, bNot, bOf, bTru, bTruQ, qVar, eItemQ, eIsi, eIsiT, isiB, anyIsi, tyName, isNonD, notNonD, isNonB, eJoin, eGet2, eFL, iOf, strOf, lstOf, tupOf, bYes, sOwn, fLst, sFrz, frz, sApp, sPop, M.bnd, M.ret, M.lift, M.fail, rget, rset, wipeR, addD_int, subI_int, modD_int, ltD_int, leD_int, gtD_int, geD_int, eqD_int, neD_int, eqD_bool, neD_bool, truD_bool, truD_int, intD_int, lenQ, eCallB, List.map, List.length_cons, List.length_nil, List.cons_append, List.nil_append, List.replicate, Nat.reduceAdd, Nat.reduceSub, if_true, if_false, Bool.false_eq_true, reduceIte, Bool.not_true, Bool.not_false, Option.map_some, Option.map_none, reduceCtorEq, decide_true, decide_false]
  have hb : (-RLIM ≤ ((p + q : Nat) : Int) ∧ ((p + q : Nat) : Int) ≤ RLIM) = True := eq_true (by unfold RLIM; omega)
  have hi : iRange1 (eVar 3) (rhoS p q r [] (r : Int) none none none none) s = some (rangeL 0 (p + q), s) := by
    simp only [iRange1, hb, Int.toNat_natCast, sSeq, sNil, sFail, sAsg, sRet, sIf, sDrop, sPar, sPar3, sAsgG, sFld, sBrk, sCnt, gTupD, gConsD, gNilD, gVar, eCallB, lCons, lNil, aCons, aConsP, aNil, pVar, cF, cK, eVar, eC, eOp, bOp, eIf, eTup, eLst, eSlice, oSome, oNone, eRev, eNeg, qOf, seqOf, eUn, eAnd, eOr, eNot, bAnd, bOr, bNot, bOf, bTru, bTruQ, qVar, eItemQ, eIsi, eIsiT, isiB, anyIsi, tyName, isNonD, notNonD, isNonB, eJoin, eGet2, eFL, iOf, strOf, lstOf, tupOf, bYes, sOwn, fLst, sFrz, frz, sApp, sPop, M.bnd, M.ret, M.lift, M.fail, rget, rset, wipeR, addD_int, subI_int, modD_int, ltD_int, leD_int, gtD_int, geD_int, eqD_int, neD_int, eqD_bool, neD_bool, truD_bool, truD_int, intD_int, lenQ, eCallB, List.map, List.length_cons, List.length_nil, List.cons_append, List.nil_append, List.replicate, Nat.reduceAdd, Nat.reduceSub, if_true, if_false, Bool.false_eq_true, reduceIte, Bool.not_true, Bool.not_false, Option.map_some, Option.map_none, reduceCtorEq, decide_true, decide_false]
  obtain ⟨ρ', e1, ⟨w, t, x6, x7, x8, x9, rfl, hw, hl⟩⟩ := loop_inv (g := gVar 6) (f := fSpread) s
    (fun done ρ => ∃ (w : List Nat) (t : Int) (x6 x7 x8 x9 : Option Sl), ρ = rhoS p q r w t x6 x7 x8 x9 ∧ AB w ∧ w.length = done.length) (rangeL 0 (p + q)) (rangeL 0 (p + q)) [] (rhoS p q r [] (r : Int) none none none none) (List.nil_append _) ⟨[], _, _, _, _, _, rfl, AB.nil, rfl⟩ (by
      rintro done x rest ρ hd ⟨w, t, x6, x7, x8, x9, rfl, hw, hl⟩
      obtain ⟨rfl, _, hlt⟩ := range_split hd
      obtain ⟨c, x9', hc, e⟩ := spread_turn (r := r) h (w := w) (by omega) (t := t) (x6 := some (.d (.int (done.length : Int)))) (x7 := x7) (x8 := x8) (x9 := x9) s
      exact ⟨_, _, rfl, e, ⟨w ++ [c], _, _, _, _, _, rfl, hw.app (AB.one hc), by rw [List.length_append, List.length_append, List.length_singleton, List.length_singleton, hl]⟩⟩)
  rw [range_len] at hl
  refine ⟨w, ?_, hw, hl⟩
  unfold phi__law_v_spread runD startD F__law_v_spread
  simp only [slOf, List.map_cons, List.map_nil, List.length_cons, List.length_nil, Nat.reduceAdd, Nat.reduceSub, List.replicate, List.cons_append, List.nil_append]
  rw [seq_nx eA, seq_nx ((for_ev hi).trans e1)]
  simp only [sSeq, sNil, sFail, sAsg, sRet, sIf, sDrop, sPar, sPar3, sAsgG, sFld, sBrk, sCnt, gTupD, gConsD, gNilD, gVar, eCallB, lCons, lNil, aCons, aConsP, aNil, pVar, cF, cK, eVar, eC, eOp, bOp, eIf, eTup, eLst, eSlice, oSome, oNone, eRev, eNeg, qOf, seqOf, eUn, eAnd, eOr, eNot, bAnd, bOr, bNot, bOf, bTru, bTruQ, qVar, eItemQ, eIsi, eIsiT, isiB, anyIsi, tyName, isNonD, notNonD, isNonB, eJoin, eGet2, eFL, iOf, strOf, lstOf, tupOf, bYes, sOwn, fLst, sFrz, frz, sApp, sPop, M.bnd, M.ret, M.lift, M.fail, rget, rset, wipeR, addD_int, subI_int, modD_int, ltD_int, leD_int, gtD_int, geD_int, eqD_int, neD_int, eqD_bool, neD_bool, truD_bool, truD_int, intD_int, lenQ, eCallB, List.map, List.length_cons, List.length_nil, List.cons_append, List.nil_append, List.replicate, Nat.reduceAdd, Nat.reduceSub, if_true, if_false, Bool.false_eq_true, reduceIte, Bool.not_true, Bool.not_false, Option.map_some, Option.map_none, reduceCtorEq, decide_true, decide_false]
end G64

namespace G64
open PySem DL
open L2 (atI ixN)
theorem AB.rep {w : List Nat} (h : AB w) : ∀ n : Nat, AB (List.replicate n w).flatten
  | 0 => AB.nil
  | n + 1 => by rw [List.replicate_succ, List.flatten_cons]; exact h.app (AB.rep h n)
theorem rep_len (w : List Nat) : ∀ n : Nat, (List.replicate n w).flatten.length = w.length * n
  | 0 => rfl
  | n + 1 => by rw [List.replicate_succ, List.flatten_cons, List.length_append, rep_len w n, Nat.mul_succ, Nat.add_comm]
theorem even_ok {a b : PySem.Addr} {n : Int} {z : Strm} {most : Nat} (h1 : 1 ≤ most) (hm : most ≤ 100) (hz : Zs a b n z) (hn : n ≤ 900000000) :
    ∃ w z', phi__law_v_even [.p a, .d (.int (most : Int))] (some z) = some (.str (S w), some z') ∧ AB w ∧ 1 ≤ w.length ∧ w.length ≤ most ∧ Zs a b (n + 10) z' := by
  obtain ⟨d1, z1, e1, a1, b1, hz1⟩ := drawZ (m := (most : Int)) hz (by omega) (by omega) (by omega)
  obtain ⟨m0, hm0⟩ : ∃ m0 : Nat, 1 + d1 = (m0 : Int) := ⟨(1 + d1).toNat, by omega⟩
  obtain ⟨d2, z2, e2, a2, b2, hz2⟩ := drawZ (m := (m0 : Int) + 1) hz1 (by omega) (by omega) (by omega)
  obtain ⟨q, hq⟩ : ∃ q : Nat, d2 = (q : Int) := ⟨d2.toNat, by omega⟩
  subst hq
  obtain ⟨d3, z3, e3, a3, b3, hz3⟩ := drawZ (m := (m0 : Int)) hz2 (by omega) (by omega) (by omega)
  obtain ⟨r, hr⟩ : ∃ r : Nat, d3 = (r : Int) := ⟨d3.toNat, by omega⟩
  subst hr
  obtain ⟨p, hp⟩ : ∃ p : Nat, (m0 : Int) - (q : Int) = (p : Int) := ⟨((m0 : Int) - (q : Int)).toNat, by omega⟩
  obtain ⟨w, e4, hw, hl⟩ := spread_ok (p := p) (q := q) (r := r) (by omega) (some z3)
  obtain ⟨d5, z5, e5, a5, b5, hz5⟩ := drawZ (m := 6) hz3 (by omega) (by decide) (by decide)
  have hm1 : 1 ≤ m0 := by omega
  have hm2 : m0 ≤ most := by omega
  have hwl : w.length = m0 := by omega
  have hf : fdivD (.int (most : Int)) (.int (m0 : Int)) = some (.int ((most : Int) / (m0 : Int))) := fdivD_int (by omega) (by omega)
  have hk : (most : Int) / (m0 : Int) = ((most / m0 : Nat) : Int) := by omega
  have hdm : m0 * (most / m0) ≤ most := Nat.mul_div_le most m0
  have hd1 : 1 ≤ most / m0 := (Nat.le_div_iff_mul_le (by omega)).mpr (by omega)
  have hkk : most / m0 ≤ 100 := Nat.le_trans (Nat.div_le_self _ _) hm
  have hmul := mulD_str (w := w) (n := most / m0) (by rw [hwl]; omega) (by omega)
  have hi : intD [.int ((most / m0 : Nat) : Int)] = some (.int ((most / m0 : Nat) : Int)) := rfl
  unfold phi__law_v_even runD startD F__law_v_even
  by_cases hd : d5 = 0
  · subst hd
    refine ⟨(List.replicate (most / m0) w).flatten, z5, ?_, hw.rep _, ?_, ?_, hz5.mono (by omega)⟩
    · simp only [slOf, e1, hm0, e2, e3, hp, e4, e5, hf, hk, hmul, sSeq, sNil, sFail, sAsg, sRet, sIf, sDrop, sPar, sPar3, sAsgG, sFld, sBrk, sCnt, gTupD, gConsD, gNilD, gVar, eCallB, lCons, lNil, aCons, aConsP, aNil, pVar, cF, cK, eVar, eC, eOp, bOp, eIf, eTup, eLst, eSlice, oSome, oNone, eRev, eNeg, qOf, seqOf, eUn, eAnd, eOr, eNot, bAnd, bOr, bNot, bOf, bTru, bTruQ, qVar, eItemQ, eIsi, eIsiT, isiB, anyIsi, tyName, isNonD, notNonD, isNonB, eJoin, eGet2, eFL, iOf, strOf, lstOf, tupOf, bYes, sOwn, fLst, sFrz, frz, sApp, sPop, M.bnd, M.ret, M.lift, M.fail, rget, rset, wipeR, addD_int, subI_int, modD_int, ltD_int, leD_int, gtD_int, geD_int, eqD_int, neD_int, eqD_bool, neD_bool, truD_bool, truD_int, intD_int, lenQ, eCallB, List.map, List.length_cons, List.length_nil, List.cons_append, List.nil_append, List.replicate, Nat.reduceAdd, Nat.reduceSub, if_true, if_false, Bool.false_eq_true, reduceIte, Bool.not_true, Bool.not_false, Option.map_some, Option.map_none, reduceCtorEq, decide_true, decide_false]
    · rw [rep_len, hwl]
      have := Nat.mul_le_mul hm1 hd1
      omega
    · rw [rep_len, hwl]
      omega
  · have hdd := decide_eq_false hd
    refine ⟨w, z5, ?_, hw, by omega, by omega, hz5.mono (by omega)⟩
    simp only [slOf, e1, hm0, e2, e3, hp, e4, e5, hdd, sSeq, sNil, sFail, sAsg, sRet, sIf, sDrop, sPar, sPar3, sAsgG, sFld, sBrk, sCnt, gTupD, gConsD, gNilD, gVar, eCallB, lCons, lNil, aCons, aConsP, aNil, pVar, cF, cK, eVar, eC, eOp, bOp, eIf, eTup, eLst, eSlice, oSome, oNone, eRev, eNeg, qOf, seqOf, eUn, eAnd, eOr, eNot, bAnd, bOr, bNot, bOf, bTru, bTruQ, qVar, eItemQ, eIsi, eIsiT, isiB, anyIsi, tyName, isNonD, notNonD, isNonB, eJoin, eGet2, eFL, iOf, strOf, lstOf, tupOf, bYes, sOwn, fLst, sFrz, frz, sApp, sPop, M.bnd, M.ret, M.lift, M.fail, rget, rset, wipeR, addD_int, subI_int, modD_int, ltD_int, leD_int, gtD_int, geD_int, eqD_int, neD_int, eqD_bool, neD_bool, truD_bool, truD_int, intD_int, lenQ, eCallB, List.map, List.length_cons, List.length_nil, List.cons_append, List.nil_append, List.replicate, Nat.reduceAdd, Nat.reduceSub, if_true, if_false, Bool.false_eq_true, reduceIte, Bool.not_true, Bool.not_false, Option.map_some, Option.map_none, reduceCtorEq, decide_true, decide_false]
end G64

namespace G64
open PySem DL
open L2 (atI ixN)
theorem AB.at {w : List Nat} (h : AB w) {i : Nat} (hi : i < w.length) : ∃ c, atI w (i : Int) = some c ∧ (c = 97 ∨ c = 98) := ⟨w[i], atI_nat hi, h _ (List.getElem_mem hi)⟩
theorem bent_ok {a b : PySem.Addr} {n : Int} {z : Strm} {w : List Nat} (hw : AB w) (h1 : 1 ≤ w.length) (hl : w.length ≤ 1000) (hz : Zs a b n z) (hn : n ≤ 900000000) :
    ∃ v z', phi__law_v_bent [.p a, .d (.str (S w))] (some z) = some (.str (S v), some z') ∧ AB v ∧ 1 ≤ v.length ∧ v.length ≤ 10000 ∧ Zs a b (n + 10) z' := by
  have L : LIM = 1000000 := rfl
  obtain ⟨way, z1, e1, a1, b1, hz1⟩ := drawZ (m := 4) hz (by omega) (by decide) (by decide)
  have hlen := lenD_S (l := w) (by omega)
  obtain ⟨d, z2, e2, a2, b2, hz2⟩ := drawZ (m := (w.length : Int)) hz1 (by omega) (by omega) (by omega)
  obtain ⟨k, hk⟩ : ∃ k : Nat, d = (k : Int) := ⟨d.toNat, by omega⟩
  subst hk
  have hkl : k < w.length := by omega
  have sT : ∀ j : Nat, sliceD (.str (S w)) none (some (j : Int)) = some (.str (S (w.take j))) := fun j => by rw [sliceD_S (by omega), cut_take]
  have sD : ∀ j : Nat, sliceD (.str (S w)) (some (j : Int)) none = some (.str (S (w.drop j))) := fun j => by rw [sliceD_S (by omega), cut_drop]
  have c1 : ((k : Int) + 1) = ((k + 1 : Nat) : Int) := by omega
  have c2 : ((k : Int) + 2) = ((k + 2 : Nat) : Int) := by omega
  obtain ⟨x, ex, hx⟩ := hw.at hkl
  have ix : itemD (.str (S w)) (.int (k : Int)) = some (.str (S [x])) := by rw [itemD_S (by omega), ex]; rfl
  have hA : (sPar 2 3 (lCons (cF (phi_draw) 2 (aConsP 0 (aCons (eC (.int 4)) aNil))) (lCons (cF (phi_draw) 2 (aConsP 0 (aCons (eCallB lenD (lCons (eVar 1) lNil)) aNil))) lNil))) [some (.p a), some (.d (.str (S w))), none, none, none] (some z) = some (.nx [some (.p a), some (.d (.str (S w))), some (.d (.int way)), some (.d (.int (k : Int))), none], some z2) := by
    simp only [e1, hlen, e2, sSeq, sNil, sFail, sAsg, sRet, sIf, sDrop, sPar, sPar3, sAsgG, sFld, sBrk, sCnt, gTupD, gConsD, gNilD, gVar, eCallB, lCons, lNil, aCons, aConsP, aNil, pVar, cF, cK, eVar, eC, eOp, bOp, eIf, eTup, eLst, eSlice, oSome, oNone, eRev, eNeg, qOf, seqOf, eUn, eAnd, eOr, eNot, bAnd, bOr, bNot, bOf, bTru, bTruQ, qVar, eItemQ, eIsi, eIsiT, isiB, anyIsi, tyName, isNonD, notNonD, isNonB, eJoin, eGet2, eFL, iOf, strOf, lstOf, tupOf, bYes, sOwn, fLst, sFrz, frz, sApp, sPop, M.bnd, M.ret, M.lift, M.fail, rget, rset, wipeR, addD_int, subI_int, modD_int, ltD_int, leD_int, gtD_int, geD_int, eqD_int, neD_int, eqD_bool, neD_bool, truD_bool, truD_int, intD_int, lenQ, eCallB, List.map, List.length_cons, List.length_nil, List.cons_append, List.nil_append, List.replicate, Nat.reduceAdd, Nat.reduceSub, if_true, if_false, Bool.false_eq_true, reduceIte, Bool.not_true, Bool.not_false, Option.map_some, Option.map_none, reduceCtorEq, decide_true, decide_false]
  unfold phi__law_v_bent runD startD F__law_v_bent
  simp only [slOf, List.map_cons, List.map_nil, List.length_cons, List.length_nil, Nat.reduceAdd, Nat.reduceSub, List.replicate, List.cons_append, List.nil_append]
  rw [seq_nx hA]
  by_cases hw0 : way = 0 ∧ k + 1 < w.length
  · obtain ⟨rfl, hk1⟩ := hw0
    obtain ⟨y, ey, hy⟩ := hw.at hk1
    have iy : itemD (.str (S w)) (.int ((k + 1 : Nat) : Int)) = some (.str (S [y])) := by rw [itemD_S (by omega), ey]; rfl
    have d2 : decide (((k + 1 : Nat) : Int) < (w.length : Int)) = true := decide_eq_true (by omega)
    have t1 := addD_str (a := w.take k) (b := [y]) (by rw [List.length_take, List.length_singleton]; omega)
    have t2 := addD_str (a := w.take k ++ [y]) (b := [x]) (by rw [List.length_append, List.length_take, List.length_singleton, List.length_singleton]; omega)
    have t3 := addD_str (a := w.take k ++ [y] ++ [x]) (b := w.drop (k + 2)) (by rw [List.length_append, List.length_append, List.length_take, List.length_singleton, List.length_singleton, List.length_drop]; omega)
    refine ⟨w.take k ++ [y] ++ [x] ++ w.drop (k + 2), z2, ?_, (((hw.take k).app (AB.one hy)).app (AB.one hx)).app (hw.drop _), by rw [List.length_append, List.length_append, List.length_append, List.length_singleton]; omega, by simp only [List.length_append, List.length_take, List.length_drop, List.length_singleton]; omega, hz2.mono (by omega)⟩
    simp only [c1, hlen, d2, sT, iy, ix, c2, sD, t1, t2, t3, sSeq, sNil, sFail, sAsg, sRet, sIf, sDrop, sPar, sPar3, sAsgG, sFld, sBrk, sCnt, gTupD, gConsD, gNilD, gVar, eCallB, lCons, lNil, aCons, aConsP, aNil, pVar, cF, cK, eVar, eC, eOp, bOp, eIf, eTup, eLst, eSlice, oSome, oNone, eRev, eNeg, qOf, seqOf, eUn, eAnd, eOr, eNot, bAnd, bOr, bNot, bOf, bTru, bTruQ, qVar, eItemQ, eIsi, eIsiT, isiB, anyIsi, tyName, isNonD, notNonD, isNonB, eJoin, eGet2, eFL, iOf, strOf, lstOf, tupOf, bYes, sOwn, fLst, sFrz, frz, sApp, sPop, M.bnd, M.ret, M.lift, M.fail, rget, rset, wipeR, addD_int, subI_int, modD_int, ltD_int, leD_int, gtD_int, geD_int, eqD_int, neD_int, eqD_bool, neD_bool, truD_bool, truD_int, intD_int, lenQ, eCallB, List.map, List.length_cons, List.length_nil, List.cons_append, List.nil_append, List.replicate, Nat.reduceAdd, Nat.reduceSub, if_true, if_false, Bool.false_eq_true, reduceIte, Bool.not_true, Bool.not_false, Option.map_some, Option.map_none, reduceCtorEq, decide_true, decide_false]
  · have hB : (sIf (bAnd (bOp eqD (eVar 2) (eC (.int 0))) (bOp ltD (eOp addD (eVar 3) (eC (.int 1))) (eCallB lenD (lCons (eVar 1) lNil)))) (sRet (eOp addD (eOp addD (eOp addD (eSlice (eVar 1) oNone (oSome (eVar 3))) (eOp itemD (eVar 1) (eOp addD (eVar 3) (eC (.int 1))))) (eOp itemD (eVar 1) (eVar 3))) (eSlice (eVar 1) (oSome (eOp addD (eVar 3) (eC (.int 2)))) oNone))) sNil) [some (.p a), some (.d (.str (S w))), some (.d (.int way)), some (.d (.int (k : Int))), none] (some z2) = some (.nx [some (.p a), some (.d (.str (S w))), some (.d (.int way)), some (.d (.int (k : Int))), none], some z2) := by
      by_cases h0 : way = 0
      · subst h0
        have d2 : decide (((k + 1 : Nat) : Int) < (w.length : Int)) = false := decide_eq_false (by omega)
        simp only [c1, hlen, d2, sSeq, sNil, sFail, sAsg, sRet, sIf, sDrop, sPar, sPar3, sAsgG, sFld, sBrk, sCnt, gTupD, gConsD, gNilD, gVar, eCallB, lCons, lNil, aCons, aConsP, aNil, pVar, cF, cK, eVar, eC, eOp, bOp, eIf, eTup, eLst, eSlice, oSome, oNone, eRev, eNeg, qOf, seqOf, eUn, eAnd, eOr, eNot, bAnd, bOr, bNot, bOf, bTru, bTruQ, qVar, eItemQ, eIsi, eIsiT, isiB, anyIsi, tyName, isNonD, notNonD, isNonB, eJoin, eGet2, eFL, iOf, strOf, lstOf, tupOf, bYes, sOwn, fLst, sFrz, frz, sApp, sPop, M.bnd, M.ret, M.lift, M.fail, rget, rset, wipeR, addD_int, subI_int, modD_int, ltD_int, leD_int, gtD_int, geD_int, eqD_int, neD_int, eqD_bool, neD_bool, truD_bool, truD_int, intD_int, lenQ, eCallB, List.map, List.length_cons, List.length_nil, List.cons_append, List.nil_append, List.replicate, Nat.reduceAdd, Nat.reduceSub, if_true, if_false, Bool.false_eq_true, reduceIte, Bool.not_true, Bool.not_false, Option.map_some, Option.map_none, reduceCtorEq, decide_true, decide_false]
      · have d0 := decide_eq_false h0
        simp only [d0, sSeq, sNil, sFail, sAsg, sRet, sIf, sDrop, sPar, sPar3, sAsgG, sFld, sBrk, sCnt, gTupD, gConsD, gNilD, gVar, eCallB, lCons, lNil, aCons, aConsP, aNil, pVar, cF, cK, eVar, eC, eOp, bOp, eIf, eTup, eLst, eSlice, oSome, oNone, eRev, eNeg, qOf, seqOf, eUn, eAnd, eOr, eNot, bAnd, bOr, bNot, bOf, bTru, bTruQ, qVar, eItemQ, eIsi, eIsiT, isiB, anyIsi, tyName, isNonD, notNonD, isNonB, eJoin, eGet2, eFL, iOf, strOf, lstOf, tupOf, bYes, sOwn, fLst, sFrz, frz, sApp, sPop, M.bnd, M.ret, M.lift, M.fail, rget, rset, wipeR, addD_int, subI_int, modD_int, ltD_int, leD_int, gtD_int, geD_int, eqD_int, neD_int, eqD_bool, neD_bool, truD_bool, truD_int, intD_int, lenQ, eCallB, List.map, List.length_cons, List.length_nil, List.cons_append, List.nil_append, List.replicate, Nat.reduceAdd, Nat.reduceSub, if_true, if_false, Bool.false_eq_true, reduceIte, Bool.not_true, Bool.not_false, Option.map_some, Option.map_none, reduceCtorEq, decide_true, decide_false]
    rw [seq_nx hB]
    by_cases hw1 : way = 1
    · subst hw1
      have hc : ∃ c, (c = 97 ∨ c = 98) ∧ (if decide (S [x] = S [97]) = true then (98 : Nat) else 97) = c := ⟨_, by split; exact .inr rfl; exact .inl rfl, rfl⟩
      rcases hx with rfl | rfl
      · have t1 := addD_str (a := w.take k) (b := [98]) (by rw [List.length_take, List.length_singleton]; omega)
        have t2 := addD_str (a := w.take k ++ [98]) (b := w.drop (k + 1)) (by rw [List.length_append, List.length_take, List.length_singleton, List.length_drop]; omega)
        have dd : decide (S [97] = S [97]) = true := decide_eq_true rfl
        refine ⟨w.take k ++ [98] ++ w.drop (k + 1), z2, ?_, ((hw.take k).app (AB.one (.inr rfl))).app (hw.drop _), by rw [List.length_append, List.length_append, List.length_singleton]; omega, by simp only [List.length_append, List.length_take, List.length_drop, List.length_singleton]; omega, hz2.mono (by omega)⟩
        simp only [sT, ix, eqD_str, dd, t1, c1, sD, t2, sSeq, sNil, sFail, sAsg, sRet, sIf, sDrop, sPar, sPar3, sAsgG, sFld, sBrk, sCnt, gTupD, gConsD, gNilD, gVar, eCallB, lCons, lNil, aCons, aConsP, aNil, pVar, cF, cK, eVar, eC, eOp, bOp, eIf, eTup, eLst, eSlice, oSome, oNone, eRev, eNeg, qOf, seqOf, eUn, eAnd, eOr, eNot, bAnd, bOr, bNot, bOf, bTru, bTruQ, qVar, eItemQ, eIsi, eIsiT, isiB, anyIsi, tyName, isNonD, notNonD, isNonB, eJoin, eGet2, eFL, iOf, strOf, lstOf, tupOf, bYes, sOwn, fLst, sFrz, frz, sApp, sPop, M.bnd, M.ret, M.lift, M.fail, rget, rset, wipeR, addD_int, subI_int, modD_int, ltD_int, leD_int, gtD_int, geD_int, eqD_int, neD_int, eqD_bool, neD_bool, truD_bool, truD_int, intD_int, lenQ, eCallB, List.map, List.length_cons, List.length_nil, List.cons_append, List.nil_append, List.replicate, Nat.reduceAdd, Nat.reduceSub, if_true, if_false, Bool.false_eq_true, reduceIte, Bool.not_true, Bool.not_false, Option.map_some, Option.map_none, reduceCtorEq, decide_true, decide_false]
      · have t1 := addD_str (a := w.take k) (b := [97]) (by rw [List.length_take, List.length_singleton]; omega)
        have t2 := addD_str (a := w.take k ++ [97]) (b := w.drop (k + 1)) (by rw [List.length_append, List.length_take, List.length_singleton, List.length_drop]; omega)
        have dd : decide (S [98] = S [97]) = false := decide_eq_false (by rw [s_inj]; simp)
        refine ⟨w.take k ++ [97] ++ w.drop (k + 1), z2, ?_, ((hw.take k).app (AB.one (.inl rfl))).app (hw.drop _), by rw [List.length_append, List.length_append, List.length_singleton]; omega, by simp only [List.length_append, List.length_take, List.length_drop, List.length_singleton]; omega, hz2.mono (by omega)⟩
        simp only [sT, ix, eqD_str, dd, t1, c1, sD, t2, sSeq, sNil, sFail, sAsg, sRet, sIf, sDrop, sPar, sPar3, sAsgG, sFld, sBrk, sCnt, gTupD, gConsD, gNilD, gVar, eCallB, lCons, lNil, aCons, aConsP, aNil, pVar, cF, cK, eVar, eC, eOp, bOp, eIf, eTup, eLst, eSlice, oSome, oNone, eRev, eNeg, qOf, seqOf, eUn, eAnd, eOr, eNot, bAnd, bOr, bNot, bOf, bTru, bTruQ, qVar, eItemQ, eIsi, eIsiT, isiB, anyIsi, tyName, isNonD, notNonD, isNonB, eJoin, eGet2, eFL, iOf, strOf, lstOf, tupOf, bYes, sOwn, fLst, sFrz, frz, sApp, sPop, M.bnd, M.ret, M.lift, M.fail, rget, rset, wipeR, addD_int, subI_int, modD_int, ltD_int, leD_int, gtD_int, geD_int, eqD_int, neD_int, eqD_bool, neD_bool, truD_bool, truD_int, intD_int, lenQ, eCallB, List.map, List.length_cons, List.length_nil, List.cons_append, List.nil_append, List.replicate, Nat.reduceAdd, Nat.reduceSub, if_true, if_false, Bool.false_eq_true, reduceIte, Bool.not_true, Bool.not_false, Option.map_some, Option.map_none, reduceCtorEq, decide_true, decide_false]
    · have n1 := decide_eq_false hw1
      by_cases hw2 : way = 2
      · subst hw2
        obtain ⟨y, z3, p1, p2, p3⟩ := pickZ (xs := [.str (S [97]), .str (S [98])]) hz2 (by omega) (by simp) (by simp)
        have h2L : (2 ≤ LIM) = True := eq_true (by decide)
        obtain ⟨c, hc, rfl⟩ : ∃ c, (c = 97 ∨ c = 98) ∧ y = .str (S [c]) := by
          simp only [List.mem_cons, List.not_mem_nil, or_false] at p2
          rcases p2 with h | h
          · exact ⟨97, .inl rfl, h⟩
          · exact ⟨98, .inr rfl, h⟩
        have t1 := addD_str (a := w.take k) (b := [c]) (by rw [List.length_take, List.length_singleton]; omega)
        have t2 := addD_str (a := w.take k ++ [c]) (b := w.drop k) (by rw [List.length_append, List.length_take, List.length_singleton, List.length_drop]; omega)
        refine ⟨w.take k ++ [c] ++ w.drop k, z3, ?_, ((hw.take k).app (AB.one hc)).app (hw.drop _), by rw [List.length_append, List.length_append, List.length_singleton]; omega, by simp only [List.length_append, List.length_take, List.length_drop, List.length_singleton]; omega, p3.mono (by omega)⟩
        simp only [n1, sT, h2L, p1, t1, sD, t2, sSeq, sNil, sFail, sAsg, sRet, sIf, sDrop, sPar, sPar3, sAsgG, sFld, sBrk, sCnt, gTupD, gConsD, gNilD, gVar, eCallB, lCons, lNil, aCons, aConsP, aNil, pVar, cF, cK, eVar, eC, eOp, bOp, eIf, eTup, eLst, eSlice, oSome, oNone, eRev, eNeg, qOf, seqOf, eUn, eAnd, eOr, eNot, bAnd, bOr, bNot, bOf, bTru, bTruQ, qVar, eItemQ, eIsi, eIsiT, isiB, anyIsi, tyName, isNonD, notNonD, isNonB, eJoin, eGet2, eFL, iOf, strOf, lstOf, tupOf, bYes, sOwn, fLst, sFrz, frz, sApp, sPop, M.bnd, M.ret, M.lift, M.fail, rget, rset, wipeR, addD_int, subI_int, modD_int, ltD_int, leD_int, gtD_int, geD_int, eqD_int, neD_int, eqD_bool, neD_bool, truD_bool, truD_int, intD_int, lenQ, eCallB, List.map, List.length_cons, List.length_nil, List.cons_append, List.nil_append, List.replicate, Nat.reduceAdd, Nat.reduceSub, if_true, if_false, Bool.false_eq_true, reduceIte, Bool.not_true, Bool.not_false, Option.map_some, Option.map_none, reduceCtorEq, decide_true, decide_false]
      · have n2 := decide_eq_false hw2
        obtain ⟨d4, z4, e4, a4, b4, hz4⟩ := drawZ (m := (w.length : Int)) hz2 (by omega) (by omega) (by omega)
        obtain ⟨j, hj⟩ : ∃ j : Nat, d4 = (j : Int) := ⟨d4.toNat, by omega⟩
        subst hj
        have mn : min2D [.int (k : Int), .int (j : Int)] = some (.int ((min k j : Nat) : Int)) := by
          unfold min2D
          dsimp only
          congr 2
          split <;> omega
        have mx : max2D [.int (k : Int), .int (j : Int)] = some (.int ((max k j : Nat) : Int)) := by
          unfold max2D
          dsimp only
          congr 2
          split <;> omega
        have hmx : max k j < w.length := by omega
        have s1 : sliceD (.str (S w)) (some ((min k j : Nat) : Int)) (some ((max k j : Nat) : Int)) = some (.str (S ((w.drop (min k j)).take (max k j - min k j)))) := by rw [sliceD_S (by omega), cut_mid _ _ _ (by omega) (by omega)]
        have t1 := addD_str (a := (w.drop (min k j)).take (max k j - min k j)) (b := w.take (min k j)) (by rw [List.length_take, List.length_take, List.length_drop]; omega)
        have t2 := addD_str (a := (w.drop (min k j)).take (max k j - min k j) ++ w.take (min k j)) (b := w.drop (max k j)) (by rw [List.length_append, List.length_take, List.length_take, List.length_drop, List.length_drop]; omega)
        have q1 := sT (min k j)
        have q2 := sD (max k j)
        refine ⟨(w.drop (min k j)).take (max k j - min k j) ++ w.take (min k j) ++ w.drop (max k j), z4, ?_, (((hw.drop _).take _).app (hw.take _)).app (hw.drop _), by rw [List.length_append, List.length_append, List.length_drop]; omega, by simp only [List.length_append, List.length_take, List.length_drop, List.length_singleton]; omega, hz4.mono (by omega)⟩
        generalize (w.drop (min k j)).take (max k j - min k j) = u1 at *
        generalize w.take (min k j) = u2 at *
        generalize w.drop (max k j) = u3 at *
        generalize ((min k j : Nat) : Int) = i1 at *
        generalize ((max k j : Nat) : Int) = i2 at *
        simp only [n1, n2, hlen, e4, mn, mx, s1, t1, q1, q2, t2, sSeq, sNil, sFail, sAsg, sRet, sIf, sDrop, sPar, sPar3, sAsgG, sFld, sBrk, sCnt, gTupD, gConsD, gNilD, gVar, eCallB, lCons, lNil, aCons, aConsP, aNil, pVar, cF, cK, eVar, eC, eOp, bOp, eIf, eTup, eLst, eSlice, oSome, oNone, eRev, eNeg, qOf, seqOf, eUn, eAnd, eOr, eNot, bAnd, bOr, bNot, bOf, bTru, bTruQ, qVar, eItemQ, eIsi, eIsiT, isiB, anyIsi, tyName, isNonD, notNonD, isNonB, eJoin, eGet2, eFL, iOf, strOf, lstOf, tupOf, bYes, sOwn, fLst, sFrz, frz, sApp, sPop, M.bnd, M.ret, M.lift, M.fail, rget, rset, wipeR, addD_int, subI_int, modD_int, ltD_int, leD_int, gtD_int, geD_int, eqD_int, neD_int, eqD_bool, neD_bool, truD_bool, truD_int, intD_int, lenQ, eCallB, List.map, List.length_cons, List.length_nil, List.cons_append, List.nil_append, List.replicate, Nat.reduceAdd, Nat.reduceSub, if_true, if_false, Bool.false_eq_true, reduceIte, Bool.not_true, Bool.not_false, Option.map_some, Option.map_none, reduceCtorEq, decide_true, decide_false]
theorem ring_ok {a b : PySem.Addr} {n : Int} {z : Strm} (hz : Zs a b n z) (hn : n ≤ 800000000) :
    ∃ w z', phi__law_v_ring [.p a, .d (.int 9)] (some z) = some (.str (S w), some z') ∧ AB w ∧ w ≠ [] ∧ w.length ≤ 9 ∧ Zs a b (n + 2000) z' := by
  have ne : ∀ {w : List Nat}, 1 ≤ w.length → w ≠ [] := fun h e => by rw [e] at h; simp at h
  obtain ⟨way, z1, e1, a1, b1, hz1⟩ := drawZ (m := 4) hz (by omega) (by decide) (by decide)
  unfold phi__law_v_ring runD startD F__law_v_ring
  by_cases h0 : way = 0
  · subst h0
    obtain ⟨d, z2, e2, a2, b2, hz2⟩ := drawZ (m := 9) hz1 (by omega) (by decide) (by decide)
    obtain ⟨m, hm⟩ : ∃ m : Nat, 1 + d = (m : Int) := ⟨(1 + d).toNat, by omega⟩
    obtain ⟨w, z3, e3, hw, hl, hz3⟩ := drawn_ok (many := m) (by omega) hz2 (by omega)
    refine ⟨w, z3, ?_, hw, ne (by omega), by omega, hz3.mono (by omega)⟩
    simp only [slOf, e1, e2, hm, e3, sSeq, sNil, sFail, sAsg, sRet, sIf, sDrop, sPar, sPar3, sAsgG, sFld, sBrk, sCnt, gTupD, gConsD, gNilD, gVar, eCallB, lCons, lNil, aCons, aConsP, aNil, pVar, cF, cK, eVar, eC, eOp, bOp, eIf, eTup, eLst, eSlice, oSome, oNone, eRev, eNeg, qOf, seqOf, eUn, eAnd, eOr, eNot, bAnd, bOr, bNot, bOf, bTru, bTruQ, qVar, eItemQ, eIsi, eIsiT, isiB, anyIsi, tyName, isNonD, notNonD, isNonB, eJoin, eGet2, eFL, iOf, strOf, lstOf, tupOf, bYes, sOwn, fLst, sFrz, frz, sApp, sPop, M.bnd, M.ret, M.lift, M.fail, rget, rset, wipeR, addD_int, subI_int, modD_int, ltD_int, leD_int, gtD_int, geD_int, eqD_int, neD_int, eqD_bool, neD_bool, truD_bool, truD_int, intD_int, lenQ, eCallB, List.map, List.length_cons, List.length_nil, List.cons_append, List.nil_append, List.replicate, Nat.reduceAdd, Nat.reduceSub, if_true, if_false, Bool.false_eq_true, reduceIte, Bool.not_true, Bool.not_false, Option.map_some, Option.map_none, reduceCtorEq, decide_true, decide_false]
  · have d0 := decide_eq_false h0
    obtain ⟨w, z2, e2, hw, l1, l2, hz2⟩ := even_ok (most := 9) (by decide) (by decide) hz1 (by omega)
    have e2' : phi__law_v_even [.p a, .d (.int 9)] (some z1) = some (.str (S w), some z2) := e2
    by_cases h1 : way = 1
    · subst h1
      refine ⟨w, z2, ?_, hw, ne l1, l2, hz2.mono (by omega)⟩
      have d10 : decide ((1 : Int) = 0) = false := by decide
      simp only [slOf, e1, e2', d10, sSeq, sNil, sFail, sAsg, sRet, sIf, sDrop, sPar, sPar3, sAsgG, sFld, sBrk, sCnt, gTupD, gConsD, gNilD, gVar, eCallB, lCons, lNil, aCons, aConsP, aNil, pVar, cF, cK, eVar, eC, eOp, bOp, eIf, eTup, eLst, eSlice, oSome, oNone, eRev, eNeg, qOf, seqOf, eUn, eAnd, eOr, eNot, bAnd, bOr, bNot, bOf, bTru, bTruQ, qVar, eItemQ, eIsi, eIsiT, isiB, anyIsi, tyName, isNonD, notNonD, isNonB, eJoin, eGet2, eFL, iOf, strOf, lstOf, tupOf, bYes, sOwn, fLst, sFrz, frz, sApp, sPop, M.bnd, M.ret, M.lift, M.fail, rget, rset, wipeR, addD_int, subI_int, modD_int, ltD_int, leD_int, gtD_int, geD_int, eqD_int, neD_int, eqD_bool, neD_bool, truD_bool, truD_int, intD_int, lenQ, eCallB, List.map, List.length_cons, List.length_nil, List.cons_append, List.nil_append, List.replicate, Nat.reduceAdd, Nat.reduceSub, if_true, if_false, Bool.false_eq_true, reduceIte, Bool.not_true, Bool.not_false, Option.map_some, Option.map_none, reduceCtorEq, decide_true, decide_false]
    · have d1 := decide_eq_false h1
      obtain ⟨v, z3, e3, hv, lv, hvl', hz3⟩ := bent_ok hw l1 (by omega) hz2 (by omega)
      have hv2 : v.length ≤ LIM := Nat.le_trans hvl' (by decide)
      have sl : sliceD (.str (S v)) none (some 9) = some (.str (S (v.take 9))) := by
        rw [sliceD_S hv2]
        have := cut_take v 9
        rw [show ((9 : Nat) : Int) = 9 from rfl] at this
        rw [this]
      refine ⟨v.take 9, z3, ?_, hv.take 9, ne (by rw [List.length_take]; omega), by rw [List.length_take]; omega, hz3.mono (by omega)⟩
      simp only [slOf, e1, e2', d0, d1, e3, sl, sSeq, sNil, sFail, sAsg, sRet, sIf, sDrop, sPar, sPar3, sAsgG, sFld, sBrk, sCnt, gTupD, gConsD, gNilD, gVar, eCallB, lCons, lNil, aCons, aConsP, aNil, pVar, cF, cK, eVar, eC, eOp, bOp, eIf, eTup, eLst, eSlice, oSome, oNone, eRev, eNeg, qOf, seqOf, eUn, eAnd, eOr, eNot, bAnd, bOr, bNot, bOf, bTru, bTruQ, qVar, eItemQ, eIsi, eIsiT, isiB, anyIsi, tyName, isNonD, notNonD, isNonB, eJoin, eGet2, eFL, iOf, strOf, lstOf, tupOf, bYes, sOwn, fLst, sFrz, frz, sApp, sPop, M.bnd, M.ret, M.lift, M.fail, rget, rset, wipeR, addD_int, subI_int, modD_int, ltD_int, leD_int, gtD_int, geD_int, eqD_int, neD_int, eqD_bool, neD_bool, truD_bool, truD_int, intD_int, lenQ, eCallB, List.map, List.length_cons, List.length_nil, List.cons_append, List.nil_append, List.replicate, Nat.reduceAdd, Nat.reduceSub, if_true, if_false, Bool.false_eq_true, reduceIte, Bool.not_true, Bool.not_false, Option.map_some, Option.map_none, reduceCtorEq, decide_true, decide_false]
end G64

namespace G64
open PySem DL
open L2 (atI ixN)
theorem is_bar_ok {w : List Nat} (hw : AB w) (hn : w ≠ []) (hl : w.length ≤ 10000) {size more less : Nat} (h1 : size ≤ w.length) (h2 : more < w.length) (h3 : less < w.length) (s : SS) :
    phi_is_bar [.d (.str (S w)), .d (.tuple [.int (size : Int), .int (more : Int), .int (less : Int)])] s = some (.bool (decide ((1 : Int) < (facN w size more : Int) - (facN w size less : Int))), s) := by
  have e1 := need_ring_ok hw hn (by omega) s
  have e2 := is_ring_bar_ok hl h1 h2 h3 s
  unfold phi_is_bar runD startD F_is_bar
  simp only [slOf, e1, e2, sSeq, sNil, sFail, sAsg, sRet, sIf, sDrop, sPar, sPar3, sAsgG, sFld, sBrk, sCnt, gTupD, gConsD, gNilD, gVar, eCallB, lCons, lNil, aCons, aConsP, aNil, pVar, cF, cK, eVar, eC, eOp, bOp, eIf, eTup, eLst, eSlice, oSome, oNone, eRev, eNeg, qOf, seqOf, eUn, eAnd, eOr, eNot, bAnd, bOr, bNot, bOf, bTru, bTruQ, qVar, eItemQ, eIsi, eIsiT, isiB, anyIsi, tyName, isNonD, notNonD, isNonB, eJoin, eGet2, eFL, iOf, strOf, lstOf, tupOf, bYes, sOwn, fLst, sFrz, frz, sApp, sPop, M.bnd, M.ret, M.lift, M.fail, rget, rset, wipeR, addD_int, subI_int, modD_int, ltD_int, leD_int, gtD_int, geD_int, eqD_int, neD_int, eqD_bool, neD_bool, truD_bool, truD_int, intD_int, lenQ, eCallB, List.map, List.length_cons, List.length_nil, List.cons_append, List.nil_append, List.replicate, Nat.reduceAdd, Nat.reduceSub, if_true, if_false, Bool.false_eq_true, reduceIte, Bool.not_true, Bool.not_false, Option.map_some, Option.map_none, reduceCtorEq, decide_true, decide_false]
def turnL (w : List Nat) : List PyData := (List.range w.length).map fun (k : Nat) => .str (S (w.drop k ++ w.take k))
theorem turns_ok {w : List Nat} (hl : w.length ≤ 10000) (s : SS) : phi__law_v_turns [.d (.str (S w))] s = some (.list (turnL w), s) := by
  have l0 : w.length ≤ LIM := by show w.length ≤ 1000000; omega
  have hf : eCallB lenD (lCons (eVar 0) lNil) [some (.d (.str (S w))), none] s = some (.int (w.length : Int), s) := by simp only [lenD_S l0, sSeq, sNil, sFail, sAsg, sRet, sIf, sDrop, sPar, sPar3, sAsgG, sFld, sBrk, sCnt, gTupD, gConsD, gNilD, gVar, eCallB, lCons, lNil, aCons, aConsP, aNil, pVar, cF, cK, eVar, eC, eOp, bOp, eIf, eTup, eLst, eSlice, oSome, oNone, eRev, eNeg, qOf, seqOf, eUn, eAnd, eOr, eNot, bAnd, bOr, bNot, bOf, bTru, bTruQ, qVar, eItemQ, eIsi, eIsiT, isiB, anyIsi, tyName, isNonD, notNonD, isNonB, eJoin, eGet2, eFL, iOf, strOf, lstOf, tupOf, bYes, sOwn, fLst, sFrz, frz, sApp, sPop, M.bnd, M.ret, M.lift, M.fail, rget, rset, wipeR, addD_int, subI_int, modD_int, ltD_int, leD_int, gtD_int, geD_int, eqD_int, neD_int, eqD_bool, neD_bool, truD_bool, truD_int, intD_int, lenQ, eCallB, List.map, List.length_cons, List.length_nil, List.cons_append, List.nil_append, List.replicate, Nat.reduceAdd, Nat.reduceSub, if_true, if_false, Bool.false_eq_true, reduceIte, Bool.not_true, Bool.not_false, Option.map_some, Option.map_none, reduceCtorEq, decide_true, decide_false]
  have key := fComp_map (vs := [1]) (m := iRange1 (eCallB lenD (lCons (eVar 0) lNil))) (g := gVar 1) (t := bYes) (f := eOp addD (eSlice (eVar 0) (oSome (eVar 1)) oNone) (eSlice (eVar 0) oNone (oSome (eVar 1)))) (ρ := [some (.d (.str (S w))), none]) (s := s) (s1 := s) (xs := rangeL 0 w.length)
    (fun x => match x with | .int k => PyData.str (S (w.drop k.toNat ++ w.take k.toNat)) | _ => .none) (range1_ev hf (by omega)) (by rw [range_len]; exact l0) (by
      intro x hx
      obtain ⟨k, hk, rfl⟩ := range_mem hx
      refine ⟨[some (.d (.str (S w))), some (.d (.int (k : Int)))], rfl, rfl, ?_⟩
      have ha := addD_str (a := w.drop k) (b := w.take k) (by rw [List.length_drop, List.length_take]; show _ ≤ 1000000; omega)
      simp only [sliceD_S l0, cut_drop, cut_take, ha, Int.toNat_natCast, sSeq, sNil, sFail, sAsg, sRet, sIf, sDrop, sPar, sPar3, sAsgG, sFld, sBrk, sCnt, gTupD, gConsD, gNilD, gVar, eCallB, lCons, lNil, aCons, aConsP, aNil, pVar, cF, cK, eVar, eC, eOp, bOp, eIf, eTup, eLst, eSlice, oSome, oNone, eRev, eNeg, qOf, seqOf, eUn, eAnd, eOr, eNot, bAnd, bOr, bNot, bOf, bTru, bTruQ, qVar, eItemQ, eIsi, eIsiT, isiB, anyIsi, tyName, isNonD, notNonD, isNonB, eJoin, eGet2, eFL, iOf, strOf, lstOf, tupOf, bYes, sOwn, fLst, sFrz, frz, sApp, sPop, M.bnd, M.ret, M.lift, M.fail, rget, rset, wipeR, addD_int, subI_int, modD_int, ltD_int, leD_int, gtD_int, geD_int, eqD_int, neD_int, eqD_bool, neD_bool, truD_bool, truD_int, intD_int, lenQ, eCallB, List.map, List.length_cons, List.length_nil, List.cons_append, List.nil_append, List.replicate, Nat.reduceAdd, Nat.reduceSub, if_true, if_false, Bool.false_eq_true, reduceIte, Bool.not_true, Bool.not_false, Option.map_some, Option.map_none, reduceCtorEq, decide_true, decide_false])
  have e2 : (rangeL 0 w.length).map (fun x => match x with | .int k => PyData.str (S (w.drop k.toNat ++ w.take k.toNat)) | _ => .none) = turnL w := by
    unfold rangeL turnL
    rw [List.map_map]
    refine List.map_congr_left fun k hk => ?_
    show PyData.str (S (w.drop ((0 : Int) + (k : Int)).toNat ++ w.take ((0 : Int) + (k : Int)).toNat)) = _
    rw [Int.zero_add, Int.toNat_natCast]
  rw [e2] at key
  have e3 := fl_ev key
  unfold phi__law_v_turns runD startD F__law_v_turns
  simp only [slOf, List.map_cons, List.map_nil, List.length_cons, List.length_nil, Nat.reduceAdd, Nat.reduceSub, List.replicate, List.cons_append, List.nil_append, sRet, M.bnd, M.ret, e3]
theorem turnL_at {w : List Nat} {k : Nat} (h : k < w.length) : atI (turnL w) (k : Int) = some (.str (S (w.drop k ++ w.take k))) := by
  have hl : k < (turnL w).length := by unfold turnL; simp; exact h
  rw [atI_nat hl]
  have : (turnL w)[k] = .str (S (w.drop k ++ w.take k)) := by simp only [turnL, List.getElem_map, List.getElem_range]
  rw [this]
theorem turn_fac {w : List Nat} {k l : Nat} (h : k < w.length) (hl : l ≤ w.length) : (w.drop k ++ w.take k).take l = fac w l k := by
  unfold fac
  rw [List.drop_append_of_le_length (by omega), List.take_append, List.take_append, List.take_take, List.length_drop]
  congr 2
  omega
theorem vcount_ok {w : List Nat} (hl : w.length ≤ 10000) (s : SS) : phi__law_v_count [.d (.str (S w))] s = some (.int (nb w : Int), s) := by
  have key := fComp_filter (vs := [1]) (m := iOf anyOf (eVar 0)) (g := gVar 1) (t := bOp eqD (eVar 1) (eC (.str (S [98])))) (f := eVar 1) (ρ := [some (.d (.str (S w))), none]) (s := s) (s1 := s) (xs := DL.signs (S w))
    (fun x => match x with | .str z => decide (z = S [98]) | _ => false) (fun y => y) (by simp only [anyOf, sSeq, sNil, sFail, sAsg, sRet, sIf, sDrop, sPar, sPar3, sAsgG, sFld, sBrk, sCnt, gTupD, gConsD, gNilD, gVar, eCallB, lCons, lNil, aCons, aConsP, aNil, pVar, cF, cK, eVar, eC, eOp, bOp, eIf, eTup, eLst, eSlice, oSome, oNone, eRev, eNeg, qOf, seqOf, eUn, eAnd, eOr, eNot, bAnd, bOr, bNot, bOf, bTru, bTruQ, qVar, eItemQ, eIsi, eIsiT, isiB, anyIsi, tyName, isNonD, notNonD, isNonB, eJoin, eGet2, eFL, iOf, strOf, lstOf, tupOf, bYes, sOwn, fLst, sFrz, frz, sApp, sPop, M.bnd, M.ret, M.lift, M.fail, rget, rset, wipeR, addD_int, subI_int, modD_int, ltD_int, leD_int, gtD_int, geD_int, eqD_int, neD_int, eqD_bool, neD_bool, truD_bool, truD_int, intD_int, lenQ, eCallB, List.map, List.length_cons, List.length_nil, List.cons_append, List.nil_append, List.replicate, Nat.reduceAdd, Nat.reduceSub, if_true, if_false, Bool.false_eq_true, reduceIte, Bool.not_true, Bool.not_false, Option.map_some, Option.map_none, reduceCtorEq, decide_true, decide_false]) (by rw [signs_S, List.length_map]; show _ ≤ 1000000; omega) (by
      intro x hx
      rw [signs_S] at hx
      obtain ⟨c, hc, rfl⟩ := List.mem_map.mp hx
      refine ⟨[some (.d (.str (S w))), some (.d (.str (S [c])))], rfl, ?_, rfl⟩
      simp only [eqD_str, sSeq, sNil, sFail, sAsg, sRet, sIf, sDrop, sPar, sPar3, sAsgG, sFld, sBrk, sCnt, gTupD, gConsD, gNilD, gVar, eCallB, lCons, lNil, aCons, aConsP, aNil, pVar, cF, cK, eVar, eC, eOp, bOp, eIf, eTup, eLst, eSlice, oSome, oNone, eRev, eNeg, qOf, seqOf, eUn, eAnd, eOr, eNot, bAnd, bOr, bNot, bOf, bTru, bTruQ, qVar, eItemQ, eIsi, eIsiT, isiB, anyIsi, tyName, isNonD, notNonD, isNonB, eJoin, eGet2, eFL, iOf, strOf, lstOf, tupOf, bYes, sOwn, fLst, sFrz, frz, sApp, sPop, M.bnd, M.ret, M.lift, M.fail, rget, rset, wipeR, addD_int, subI_int, modD_int, ltD_int, leD_int, gtD_int, geD_int, eqD_int, neD_int, eqD_bool, neD_bool, truD_bool, truD_int, intD_int, lenQ, eCallB, List.map, List.length_cons, List.length_nil, List.cons_append, List.nil_append, List.replicate, Nat.reduceAdd, Nat.reduceSub, if_true, if_false, Bool.false_eq_true, reduceIte, Bool.not_true, Bool.not_false, Option.map_some, Option.map_none, reduceCtorEq, decide_true, decide_false])
  rw [List.map_id', signs_S, List.filter_map] at key
  have hlen : ((w.filter ((fun x => match x with | .str z => decide (z = S [98]) | _ => false) ∘ fun c => PyData.str (S [c]))).map fun c => PyData.str (S [c])).length = nb w := by
    rw [List.length_map]
    unfold nb
    rw [List.count_eq_length_filter]
    congr 1
    refine List.filter_congr fun c _ => ?_
    show decide (S [c] = S [98]) = (c == 98)
    by_cases h : c = 98
    · subst h; simp
    · have : decide (S [c] = S [98]) = false := decide_eq_false (by rw [s_inj]; simpa using h)
      rw [this]; simp [h]
  generalize ((w.filter ((fun x => match x with | .str z => decide (z = S [98]) | _ => false) ∘ fun c => PyData.str (S [c]))).map fun c => PyData.str (S [c])) = kl at *
  have e3 := fl_ev key
  have hL := lenD_list kl
  rw [hlen] at hL
  unfold phi__law_v_count runD startD F__law_v_count
  simp only [slOf, List.map_cons, List.map_nil, List.length_cons, List.length_nil, Nat.reduceAdd, Nat.reduceSub, List.replicate, List.cons_append, List.nil_append, sRet, eCallB, lCons, lNil, M.bnd, M.ret, M.lift, e3, hL]
theorem bar_core_ok {w : List Nat} (hw : AB w) (hn : w ≠ []) (hl : w.length ≤ 10000) {l i j : Nat} (hb : fbar (lotsOf w) = some ((l : Int), i, j)) (h2 : 2 ≤ l) (hi : i < w.length) (hl2 : l ≤ w.length) (s : SS) : phi_bar_core [.d (.str (S w))] s = some (.str (S (((w ++ w).drop (i + 1)).take (l - 2))), s) := by
  have e1 := need_ring_ok hw hn (by omega) s
  have e2 := bar_by_ok hl s
  rw [hb] at e2
  have sl : sliceD (.tuple [.int (l : Int), .int (i : Int), .int (j : Int)]) none (some 2) = some (.tuple [.int (l : Int), .int (i : Int)]) := by
    show some (PyData.tuple (cutA _ none (some ((2 : Nat) : Int)))) = _
    rw [cut_take]
    rfl
  have mm := mul2_S (w := w) (by omega)
  have l2 : (w ++ w).length ≤ LIM := by rw [List.length_append]; show w.length + w.length ≤ 1000000; omega
  have c1 : (i : Int) + 1 = ((i + 1 : Nat) : Int) := by omega
  have c2 : (i : Int) + (l : Int) - 1 = ((i + l - 1 : Nat) : Int) := by omega
  have cm := cut_mid (w ++ w) (i + 1) (i + l - 1) (by omega) (by rw [List.length_append]; omega)
  have e3 : i + l - 1 - (i + 1) = l - 2 := by omega
  rw [e3] at cm
  unfold phi_bar_core runD startD F_bar_core
  simp only [slOf, e1, e2, barP, sl, mm, c1, c2, sliceD_S l2, cm, Option.bind, sSeq, sNil, sFail, sAsg, sRet, sIf, sDrop, sPar, sPar3, sAsgG, sFld, sBrk, sCnt, gTupD, gConsD, gNilD, gVar, eCallB, lCons, lNil, aCons, aConsP, aNil, pVar, cF, cK, eVar, eC, eOp, bOp, eIf, eTup, eLst, eSlice, oSome, oNone, eRev, eNeg, qOf, seqOf, eUn, eAnd, eOr, eNot, bAnd, bOr, bNot, bOf, bTru, bTruQ, qVar, eItemQ, eIsi, eIsiT, isiB, anyIsi, tyName, isNonD, notNonD, isNonB, eJoin, eGet2, eFL, iOf, strOf, lstOf, tupOf, bYes, sOwn, fLst, sFrz, frz, sApp, sPop, M.bnd, M.ret, M.lift, M.fail, rget, rset, wipeR, addD_int, subI_int, modD_int, ltD_int, leD_int, gtD_int, geD_int, eqD_int, neD_int, eqD_bool, neD_bool, truD_bool, truD_int, intD_int, lenQ, eCallB, List.map, List.length_cons, List.length_nil, List.cons_append, List.nil_append, List.replicate, Nat.reduceAdd, Nat.reduceSub, if_true, if_false, Bool.false_eq_true, reduceIte, Bool.not_true, Bool.not_false, Option.map_some, Option.map_none, reduceCtorEq, decide_true, decide_false]
end G64

namespace G64
open PySem DL
open L2 (atI ixN)
abbrev Tr := Nat × Nat × Nat
def tripP (t : Tr) : PyData := .tuple [.int (t.1 : Int), .int (t.2.1 : Int), .int (t.2.2 : Int)]
abbrev rhoL (a : PySem.Addr) (x2 : Option Sl) (w : List Nat) (Bs : List Tr) (x6 x7 x8 x9 x10 x11 x12 x13 : Option Sl) : Rho := [none, some (.p a), x2, some (.d (.str (S w))), some (.d (.list (turnL w))), some (.d (.list (Bs.map tripP))), x6, x7, x8, x9, x10, x11, x12, x13]
abbrev fInner : DS := (sSeq (sAsg 9 (eOp gtD (cF (phi__law_v_count) 1 (aCons (eSlice (eOp itemD (eVar 4) (eVar 7)) oNone (oSome (eVar 6))) aNil)) (eOp addD (cF (phi__law_v_count) 1 (aCons (eSlice (eOp itemD (eVar 4) (eVar 8)) oNone (oSome (eVar 6))) aNil)) (eC (.int 1))))) (sSeq (sIf (bOp neD (cF (phi_is_bar) 2 (aCons (eVar 3) (aCons (eTup (lCons (eVar 6) (lCons (eVar 7) (lCons (eVar 8) lNil)))) aNil))) (eVar 9)) (sRet (eC (.bool false))) sNil) (sAsg 5 (eOp addD (eVar 5) (eIf (bTru (eVar 9)) (eLst (lCons (eTup (lCons (eVar 6) (lCons (eVar 7) (lCons (eVar 8) lNil)))) lNil)) (eLst lNil))))))
def own (w : List Nat) (l i j : Nat) : Bool := decide (nb (fac w l j) + 1 < nb (fac w l i))
def addT (w : List Nat) (l i j : Nat) : List Tr := if own w l i j then [(l, i, j)] else []
theorem inner_turn {a : PySem.Addr} {x2 x9 x10 x11 x12 x13 : Option Sl} {w : List Nat} (hw : AB w) (hn : w ≠ []) (hl : w.length ≤ 10) {Bs : List Tr} (hB : Bs.length ≤ 10000) {l i j : Nat} (h1 : l ≤ w.length) (h2 : i < w.length) (h3 : j < w.length) (s : SS) :
    ∃ y9, fInner (rhoL a x2 w Bs (some (.d (.int (l : Int)))) (some (.d (.int (i : Int)))) (some (.d (.int (j : Int)))) x9 x10 x11 x12 x13) s = some (.nx (rhoL a x2 w (Bs ++ addT w l i j) (some (.d (.int (l : Int)))) (some (.d (.int (i : Int)))) (some (.d (.int (j : Int)))) y9 x10 x11 x12 x13), s) := by
  have t1 := turnL_at h2
  have t2 := turnL_at h3
  have L1 : (w.drop i ++ w.take i).length ≤ LIM := by rw [List.length_append, List.length_drop, List.length_take]; show _ ≤ 1000000; omega
  have L2 : (w.drop j ++ w.take j).length ≤ LIM := by rw [List.length_append, List.length_drop, List.length_take]; show _ ≤ 1000000; omega
  have s1 : sliceD (.str (S (w.drop i ++ w.take i))) none (some (l : Int)) = some (.str (S (fac w l i))) := by rw [sliceD_S L1, cut_take, turn_fac h2 h1]
  have s2 : sliceD (.str (S (w.drop j ++ w.take j))) none (some (l : Int)) = some (.str (S (fac w l j))) := by rw [sliceD_S L2, cut_take, turn_fac h3 h1]
  have n1 := vcount_ok (w := fac w l i) (by rw [fac_len h2 h1]; omega) s
  have n2 := vcount_ok (w := fac w l j) (by rw [fac_len h3 h1]; omega) s
  have b1 := is_bar_ok hw hn (by omega) h1 h2 h3 s
  have ef : ∀ p, facN w l p = nb (fac w l p) := fun _ => rfl
  have eb : decide ((1 : Int) < (facN w l i : Int) - (facN w l j : Int)) = own w l i j := by
    rw [ef, ef]
    unfold own
    by_cases hh : nb (fac w l j) + 1 < nb (fac w l i)
    · rw [decide_eq_true hh]; exact decide_eq_true (by omega)
    · rw [decide_eq_false hh]; exact decide_eq_false (by omega)
  have eg : decide ((nb (fac w l j) : Int) + 1 < (nb (fac w l i) : Int)) = own w l i j := by
    unfold own
    by_cases hh : nb (fac w l j) + 1 < nb (fac w l i)
    · rw [decide_eq_true hh]; exact decide_eq_true (by omega)
    · rw [decide_eq_false hh]; exact decide_eq_false (by omega)
  rw [eb] at b1
  have h3L : (3 ≤ LIM) = True := eq_true (by decide)
  have h1L : (1 ≤ LIM) = True := eq_true (by decide)
  have h0L : (0 ≤ LIM) = True := eq_true (by decide)
  have ea : ∀ zs : List PyData, zs.length ≤ 1 → addD (.list (Bs.map tripP)) (.list zs) = some (.list (Bs.map tripP ++ zs)) := fun zs hz => by
    show (if (Bs.map tripP).length + zs.length ≤ LIM then some (PyData.list (Bs.map tripP ++ zs)) else none) = _
    rw [if_pos (by rw [List.length_map]; show _ ≤ 1000000; omega)]
  have ea1 := ea [tripP (l, i, j)] (by simp)
  have ea0 := ea [] (by simp)
  have ec1 : Bs.map tripP ++ [tripP (l, i, j)] = (Bs ++ [(l, i, j)]).map tripP := by simp
  have ec0 : Bs.map tripP ++ [] = (Bs ++ []).map tripP := by simp
  rw [ec1] at ea1
  rw [ec0] at ea0
  have et : PyData.tuple [.int (l : Int), .int (i : Int), .int (j : Int)] = tripP (l, i, j) := rfl
  have eadd : addT w l i j = if own w l i j then [(l, i, j)] else [] := rfl
  have e9 : sAsg 9 (eOp gtD (cF (phi__law_v_count) 1 (aCons (eSlice (eOp itemD (eVar 4) (eVar 7)) oNone (oSome (eVar 6))) aNil)) (eOp addD (cF (phi__law_v_count) 1 (aCons (eSlice (eOp itemD (eVar 4) (eVar 8)) oNone (oSome (eVar 6))) aNil)) (eC (.int 1)))) (rhoL a x2 w Bs (some (.d (.int (l : Int)))) (some (.d (.int (i : Int)))) (some (.d (.int (j : Int)))) x9 x10 x11 x12 x13) s = some (.nx (rhoL a x2 w Bs (some (.d (.int (l : Int)))) (some (.d (.int (i : Int)))) (some (.d (.int (j : Int)))) (some (.d (.bool (own w l i j)))) x10 x11 x12 x13), s) := by
    unfold rhoL
    generalize turnL w = T at *
    generalize Bs.map tripP = P at *
    simp only [itemD_list, t1, t2, s1, s2, n1, n2, eg, sSeq, sNil, sFail, sAsg, sRet, sIf, sDrop, sPar, sPar3, sAsgG, sFld, sBrk, sCnt, gTupD, gConsD, gNilD, gVar, eCallB, lCons, lNil, aCons, aConsP, aNil, pVar, cF, cK, eVar, eC, eOp, bOp, eIf, eTup, eLst, eSlice, oSome, oNone, eRev, eNeg, qOf, seqOf, eUn, eAnd, eOr, eNot, bAnd, bOr, bNot, bOf, bTru, bTruQ, qVar, eItemQ, eIsi, eIsiT, isiB, anyIsi, tyName, isNonD, notNonD, isNonB, eJoin, eGet2, eFL, iOf, strOf, lstOf, tupOf, bYes, sOwn, fLst, sFrz, frz, sApp, sPop, M.bnd, M.ret, M.lift, M.fail, rget, rset, wipeR, addD_int, subI_int, modD_int, ltD_int, leD_int, gtD_int, geD_int, eqD_int, neD_int, eqD_bool, neD_bool, truD_bool, truD_int, intD_int, lenQ, eCallB, List.map, List.length_cons, List.length_nil, List.cons_append, List.nil_append, List.replicate, Nat.reduceAdd, Nat.reduceSub, if_true, if_false, Bool.false_eq_true, reduceIte, Bool.not_true, Bool.not_false, Option.map_some, Option.map_none, reduceCtorEq, decide_true, decide_false]
  unfold fInner
  rw [seq_nx e9, eadd]
  refine ⟨some (.d (.bool (own w l i j))), ?_⟩
  cases ho : own w l i j with
  | true =>
    rw [ho] at b1
    simp only [if_true]
    unfold rhoL
    generalize turnL w = T at *
    generalize (Bs ++ [(l, i, j)]).map tripP = P1 at *
    generalize Bs.map tripP = P at *
    simp only [et] at b1
    simp only [h3L, h1L, et, b1, ea1, beq_self_eq_true, sSeq, sNil, sFail, sAsg, sRet, sIf, sDrop, sPar, sPar3, sAsgG, sFld, sBrk, sCnt, gTupD, gConsD, gNilD, gVar, eCallB, lCons, lNil, aCons, aConsP, aNil, pVar, cF, cK, eVar, eC, eOp, bOp, eIf, eTup, eLst, eSlice, oSome, oNone, eRev, eNeg, qOf, seqOf, eUn, eAnd, eOr, eNot, bAnd, bOr, bNot, bOf, bTru, bTruQ, qVar, eItemQ, eIsi, eIsiT, isiB, anyIsi, tyName, isNonD, notNonD, isNonB, eJoin, eGet2, eFL, iOf, strOf, lstOf, tupOf, bYes, sOwn, fLst, sFrz, frz, sApp, sPop, M.bnd, M.ret, M.lift, M.fail, rget, rset, wipeR, addD_int, subI_int, modD_int, ltD_int, leD_int, gtD_int, geD_int, eqD_int, neD_int, eqD_bool, neD_bool, truD_bool, truD_int, intD_int, lenQ, eCallB, List.map, List.length_cons, List.length_nil, List.cons_append, List.nil_append, List.replicate, Nat.reduceAdd, Nat.reduceSub, if_true, if_false, Bool.false_eq_true, reduceIte, Bool.not_true, Bool.not_false, Option.map_some, Option.map_none, reduceCtorEq, decide_true, decide_false]
  | false =>
    rw [ho] at b1
    simp only [Bool.false_eq_true, if_false]
    unfold rhoL
    generalize turnL w = T at *
    generalize (Bs ++ []).map tripP = P1 at *
    generalize Bs.map tripP = P at *
    simp only [et] at b1
    simp only [h3L, h0L, et, b1, ea0, beq_self_eq_true, sSeq, sNil, sFail, sAsg, sRet, sIf, sDrop, sPar, sPar3, sAsgG, sFld, sBrk, sCnt, gTupD, gConsD, gNilD, gVar, eCallB, lCons, lNil, aCons, aConsP, aNil, pVar, cF, cK, eVar, eC, eOp, bOp, eIf, eTup, eLst, eSlice, oSome, oNone, eRev, eNeg, qOf, seqOf, eUn, eAnd, eOr, eNot, bAnd, bOr, bNot, bOf, bTru, bTruQ, qVar, eItemQ, eIsi, eIsiT, isiB, anyIsi, tyName, isNonD, notNonD, isNonB, eJoin, eGet2, eFL, iOf, strOf, lstOf, tupOf, bYes, sOwn, fLst, sFrz, frz, sApp, sPop, M.bnd, M.ret, M.lift, M.fail, rget, rset, wipeR, addD_int, subI_int, modD_int, ltD_int, leD_int, gtD_int, geD_int, eqD_int, neD_int, eqD_bool, neD_bool, truD_bool, truD_int, intD_int, lenQ, eCallB, List.map, List.length_cons, List.length_nil, List.cons_append, List.nil_append, List.replicate, Nat.reduceAdd, Nat.reduceSub, if_true, if_false, Bool.false_eq_true, reduceIte, Bool.not_true, Bool.not_false, Option.map_some, Option.map_none, reduceCtorEq, decide_true, decide_false]
end G64

namespace G64
open PySem DL
open L2 (atI ixN)
theorem len_flat {A : Type} (f : Nat → List A) (c : Nat) (h : ∀ k, (f k).length ≤ c) : ∀ n, ((List.range n).flatMap f).length ≤ n * c
  | 0 => by simp
  | n + 1 => by
    have ih := len_flat f c h n
    have hn := h n
    rw [List.range_succ, List.flatMap_append, List.length_append]
    have : ([n].flatMap f) = f n := by simp
    rw [this, Nat.succ_mul]
    omega
theorem flat_succ {A : Type} (f : Nat → List A) (n : Nat) (B : List A) : B ++ (List.range (n + 1)).flatMap f = (B ++ (List.range n).flatMap f) ++ f n := by
  rw [List.range_succ, List.flatMap_append, List.append_assoc]
  simp
theorem addT_len (w : List Nat) (l i j : Nat) : (addT w l i j).length ≤ 1 := by
  unfold addT
  split <;> simp
abbrev nI (k : Nat) : Option Sl := some (.d (.int (k : Int)))
def lessB (w : List Nat) (l i n : Nat) : List Tr := (List.range n).flatMap (addT w l i)
def moreB (w : List Nat) (l n : Nat) : List Tr := (List.range n).flatMap fun i => lessB w l i w.length
def sizeB (w : List Nat) (n : Nat) : List Tr := (List.range n).flatMap fun l => moreB w l w.length
abbrev eLenW : DE := eCallB lenD (lCons (eVar 3) lNil)
abbrev fLess : DS := sFor (iRange1 eLenW) (gVar 8) fInner
abbrev fMore : DS := sFor (iRange1 eLenW) (gVar 7) fLess
abbrev fSize : DS := sFor (iRange1 (eOp addD eLenW (eC (.int 1)))) (gVar 6) fMore
theorem lenW_ev {a : PySem.Addr} {x2 x6 x7 x8 x9 x10 x11 x12 x13 : Option Sl} {w : List Nat} (hl : w.length ≤ 10) {Bs : List Tr} (s : SS) : eLenW (rhoL a x2 w Bs x6 x7 x8 x9 x10 x11 x12 x13) s = some (.int (w.length : Int), s) := by
  have l0 : w.length ≤ LIM := by show w.length ≤ 1000000; omega
  have hL := lenD_S l0
  unfold rhoL
  generalize turnL w = T at *
  generalize Bs.map tripP = P at *
  simp only [hL, sSeq, sNil, sFail, sAsg, sRet, sIf, sDrop, sPar, sPar3, sAsgG, sFld, sBrk, sCnt, gTupD, gConsD, gNilD, gVar, eCallB, lCons, lNil, aCons, aConsP, aNil, pVar, cF, cK, eVar, eC, eOp, bOp, eIf, eTup, eLst, eSlice, oSome, oNone, eRev, eNeg, qOf, seqOf, eUn, eAnd, eOr, eNot, bAnd, bOr, bNot, bOf, bTru, bTruQ, qVar, eItemQ, eIsi, eIsiT, isiB, anyIsi, tyName, isNonD, notNonD, isNonB, eJoin, eGet2, eFL, iOf, strOf, lstOf, tupOf, bYes, sOwn, fLst, sFrz, frz, sApp, sPop, M.bnd, M.ret, M.lift, M.fail, rget, rset, wipeR, addD_int, subI_int, modD_int, ltD_int, leD_int, gtD_int, geD_int, eqD_int, neD_int, eqD_bool, neD_bool, truD_bool, truD_int, intD_int, lenQ, eCallB, List.map, List.length_cons, List.length_nil, List.cons_append, List.nil_append, List.replicate, Nat.reduceAdd, Nat.reduceSub, if_true, if_false, Bool.false_eq_true, reduceIte, Bool.not_true, Bool.not_false, Option.map_some, Option.map_none, reduceCtorEq, decide_true, decide_false]
theorem less_loop {a : PySem.Addr} {x2 x8 x9 x10 x11 x12 x13 : Option Sl} {w : List Nat} (hw : AB w) (hn : w ≠ []) (hl : w.length ≤ 10) {Bs : List Tr} (hB : Bs.length ≤ 9000) {l i : Nat} (h1 : l ≤ w.length) (h2 : i < w.length) (s : SS) :
    ∃ y8 y9, fLess (rhoL a x2 w Bs (nI l) (nI i) x8 x9 x10 x11 x12 x13) s = some (.nx (rhoL a x2 w (Bs ++ lessB w l i w.length) (nI l) (nI i) y8 y9 x10 x11 x12 x13), s) := by
  have e0 := range1_ev (lenW_ev (a := a) (x2 := x2) (x6 := nI l) (x7 := nI i) (x8 := x8) (x9 := x9) (x10 := x10) (x11 := x11) (x12 := x12) (x13 := x13) hl (Bs := Bs) s) (by omega)
  obtain ⟨ρ', k1, k2⟩ := loop_inv (g := gVar 8) (f := fInner) s (fun done ρ => ∃ y8 y9, ρ = rhoL a x2 w (Bs ++ lessB w l i done.length) (nI l) (nI i) y8 y9 x10 x11 x12 x13) (rangeL 0 w.length) (rangeL 0 w.length) [] (rhoL a x2 w Bs (nI l) (nI i) x8 x9 x10 x11 x12 x13) (List.nil_append _)
    ⟨x8, x9, by simp [lessB]⟩ (by
      rintro done x rest ρ hd ⟨y8, y9, rfl⟩
      obtain ⟨rfl, _, hk⟩ := range_split hd
      have hb := len_flat (addT w l i) 1 (addT_len w l i) done.length
      obtain ⟨z9, e⟩ := inner_turn (a := a) (x2 := x2) (x9 := y9) (x10 := x10) (x11 := x11) (x12 := x12) (x13 := x13) hw hn hl (Bs := Bs ++ lessB w l i done.length) (by rw [List.length_append]; unfold lessB; omega) h1 h2 hk s
      refine ⟨rhoL a x2 w (Bs ++ lessB w l i done.length) (nI l) (nI i) (nI done.length) y9 x10 x11 x12 x13, _, rfl, e, nI done.length, z9, ?_⟩
      rw [List.length_append, List.length_singleton]
      unfold lessB
      rw [flat_succ])
  rw [range_len] at k2
  obtain ⟨y8, y9, rfl⟩ := k2
  exact ⟨y8, y9, (for_ev e0).trans k1⟩
theorem lessB_len (w : List Nat) (l i n : Nat) : (lessB w l i n).length ≤ n := by
  have := len_flat (addT w l i) 1 (addT_len w l i) n
  unfold lessB
  omega
theorem more_loop {a : PySem.Addr} {x2 x7 x8 x9 x10 x11 x12 x13 : Option Sl} {w : List Nat} (hw : AB w) (hn : w ≠ []) (hl : w.length ≤ 10) {Bs : List Tr} (hB : Bs.length ≤ 8000) {l : Nat} (h1 : l ≤ w.length) (s : SS) :
    ∃ y7 y8 y9, fMore (rhoL a x2 w Bs (nI l) x7 x8 x9 x10 x11 x12 x13) s = some (.nx (rhoL a x2 w (Bs ++ moreB w l w.length) (nI l) y7 y8 y9 x10 x11 x12 x13), s) := by
  have e0 := range1_ev (lenW_ev (a := a) (x2 := x2) (x6 := nI l) (x7 := x7) (x8 := x8) (x9 := x9) (x10 := x10) (x11 := x11) (x12 := x12) (x13 := x13) hl (Bs := Bs) s) (by omega)
  obtain ⟨ρ', k1, k2⟩ := loop_inv (g := gVar 7) (f := fLess) s (fun done ρ => ∃ y7 y8 y9, ρ = rhoL a x2 w (Bs ++ moreB w l done.length) (nI l) y7 y8 y9 x10 x11 x12 x13) (rangeL 0 w.length) (rangeL 0 w.length) [] (rhoL a x2 w Bs (nI l) x7 x8 x9 x10 x11 x12 x13) (List.nil_append _)
    ⟨x7, x8, x9, by simp [moreB]⟩ (by
      rintro done x rest ρ hd ⟨y7, y8, y9, rfl⟩
      obtain ⟨rfl, _, hk⟩ := range_split hd
      have hb := len_flat (fun i => lessB w l i w.length) 10 (fun k => Nat.le_trans (lessB_len w l k w.length) hl) done.length
      obtain ⟨z8, z9, e⟩ := less_loop (a := a) (x2 := x2) (x8 := y8) (x9 := y9) (x10 := x10) (x11 := x11) (x12 := x12) (x13 := x13) hw hn hl (Bs := Bs ++ moreB w l done.length) (by rw [List.length_append]; unfold moreB; omega) h1 hk s
      refine ⟨rhoL a x2 w (Bs ++ moreB w l done.length) (nI l) (nI done.length) y8 y9 x10 x11 x12 x13, _, rfl, e, nI done.length, z8, z9, ?_⟩
      rw [List.length_append, List.length_singleton]
      unfold moreB
      rw [flat_succ])
  rw [range_len] at k2
  obtain ⟨y7, y8, y9, rfl⟩ := k2
  exact ⟨y7, y8, y9, (for_ev e0).trans k1⟩
theorem moreB_len (w : List Nat) (l n : Nat) (hl : w.length ≤ 10) (hn : n ≤ 10) : (moreB w l n).length ≤ 100 := by
  have := len_flat (fun i => lessB w l i w.length) 10 (fun k => Nat.le_trans (lessB_len w l k w.length) hl) n
  unfold moreB
  omega
theorem size_loop {a : PySem.Addr} {x2 x6 x7 x8 x9 x10 x11 x12 x13 : Option Sl} {w : List Nat} (hw : AB w) (hn : w ≠ []) (hl : w.length ≤ 10) (s : SS) :
    ∃ y6 y7 y8 y9, fSize (rhoL a x2 w [] x6 x7 x8 x9 x10 x11 x12 x13) s = some (.nx (rhoL a x2 w (sizeB w (w.length + 1)) y6 y7 y8 y9 x10 x11 x12 x13), s) := by
  have e1 : eOp addD eLenW (eC (.int 1)) (rhoL a x2 w [] x6 x7 x8 x9 x10 x11 x12 x13) s = some (.int ((w.length + 1 : Nat) : Int), s) := by
    have h0 := lenW_ev (a := a) (x2 := x2) (x6 := x6) (x7 := x7) (x8 := x8) (x9 := x9) (x10 := x10) (x11 := x11) (x12 := x12) (x13 := x13) hl (Bs := []) s
    have : addD (.int (w.length : Int)) (.int 1) = some (.int ((w.length + 1 : Nat) : Int)) := by rw [addD_int]; rfl
    generalize eLenW = f at *
    simp only [eOp, eC, M.bnd, M.ret, M.lift, h0, this]
  have e0 := range1_ev e1 (by omega)
  obtain ⟨ρ', k1, k2⟩ := loop_inv (g := gVar 6) (f := fMore) s (fun done ρ => ∃ y6 y7 y8 y9, ρ = rhoL a x2 w (sizeB w done.length) y6 y7 y8 y9 x10 x11 x12 x13) (rangeL 0 (w.length + 1)) (rangeL 0 (w.length + 1)) [] (rhoL a x2 w [] x6 x7 x8 x9 x10 x11 x12 x13) (List.nil_append _)
    ⟨x6, x7, x8, x9, by simp [sizeB]⟩ (by
      rintro done x rest ρ hd ⟨y6, y7, y8, y9, rfl⟩
      obtain ⟨rfl, _, hk⟩ := range_split hd
      have hb := len_flat (fun l => moreB w l w.length) 100 (fun k => moreB_len w k w.length hl hl) done.length
      obtain ⟨z7, z8, z9, e⟩ := more_loop (a := a) (x2 := x2) (x7 := y7) (x8 := y8) (x9 := y9) (x10 := x10) (x11 := x11) (x12 := x12) (x13 := x13) hw hn hl (Bs := sizeB w done.length) (by unfold sizeB; omega) (l := done.length) (by omega) s
      refine ⟨rhoL a x2 w (sizeB w done.length) (nI done.length) y7 y8 y9 x10 x11 x12 x13, _, rfl, e, nI done.length, z7, z8, z9, ?_⟩
      rw [List.length_append, List.length_singleton]
      have := flat_succ (fun l => moreB w l w.length) done.length []
      rw [List.nil_append, List.nil_append] at this
      unfold sizeB
      rw [this])
  rw [range_len] at k2
  obtain ⟨y6, y7, y8, y9, rfl⟩ := k2
  exact ⟨y6, y7, y8, y9, (for_ev e0).trans k1⟩
theorem mem_bars {w : List Nat} {t : Tr} : t ∈ sizeB w (w.length + 1) ↔ Bar w t.1 t.2.1 t.2.2 := by
  unfold sizeB moreB lessB addT own Bar
  simp only [List.mem_flatMap, List.mem_range]
  constructor
  · rintro ⟨l, hl, i, hi, j, hj, h⟩
    split at h
    · next ho =>
      rw [List.mem_singleton] at h
      subst h
      exact ⟨by show l ≤ _; omega, hi, hj, of_decide_eq_true ho⟩
    · cases h
  · rintro ⟨h1, h2, h3, h4⟩
    refine ⟨t.1, by omega, t.2.1, h2, t.2.2, h3, ?_⟩
    rw [if_pos (decide_eq_true h4)]
    exact List.mem_singleton.mpr rfl
end G64

namespace G64
open PySem DL
open L2 (atI ixN)
/-- lists of whole numbers: their least -/
theorem foldl_min {m : Int} : ∀ (xs : List Int) (n : Int), (m = n ∨ m ∈ xs) → m ≤ n → (∀ x ∈ xs, m ≤ x) → xs.foldl min n = m
  | [], n, h, _, _ => by
    rcases h with h | h
    · exact h.symm
    · cases h
  | x :: xs, n, h, h1, h2 => by
    rw [List.foldl_cons]
    have hx := h2 x List.mem_cons_self
    refine foldl_min xs (min n x) ?_ (by omega) fun y hy => h2 y (List.mem_cons_of_mem _ hy)
    rcases h with h | h
    · left; omega
    · rcases List.mem_cons.mp h with h | h
      · left; omega
      · right; exact h
theorem flat_ints : ∀ (ls : List Int), PyData.plainAll (ls.map PyData.int) = true ∧ PyData.depthAll (ls.map PyData.int) = 0
  | [] => ⟨rfl, rfl⟩
  | l :: ls => by
    obtain ⟨h1, h2⟩ := flat_ints ls
    rw [List.map_cons, PyData.plainAll, PyData.depthAll, h1, h2]
    exact ⟨rfl, rfl⟩
theorem minLD_leI {m : Int} {xs : List Int} (hm : m ∈ xs) (h : ∀ x ∈ xs, m ≤ x) : minLD [.list (xs.map PyData.int)] = some (.int m) := by
  have h1 : alikeL (xs.map PyData.int) = true := by
    unfold alikeL
    have : (xs.map PyData.int).all isIntB = true := by rw [List.all_map]; exact List.all_eq_true.mpr fun _ _ => rfl
    rw [this, Bool.or_true]
    rfl
  obtain ⟨h2, h3⟩ := flat_ints xs
  have h4 : flatA (xs.map PyData.int) = true := by
    unfold flatA
    rw [h2, h3]
    decide
  cases xs with
  | nil => cases hm
  | cons x xs =>
    rw [List.map_cons] at h1 h4 ⊢
    unfold minLD
    dsimp only
    rw [h1, h4]
    have e := foldl_min (m := m) xs x (List.mem_cons.mp hm) (h x List.mem_cons_self) fun y hy => h y (List.mem_cons_of_mem _ hy)
    show some (PySem.W.minD (.int x) (xs.map .int)) = _
    rw [PySem.W.minD_ints, e]
theorem flat_trips : ∀ (ls : List Tr), PyData.plainAll (ls.map tripP) = true ∧ PyData.depthAll (ls.map tripP) ≤ 1
  | [] => ⟨rfl, by decide⟩
  | l :: ls => by
    obtain ⟨h1, h2⟩ := flat_trips ls
    rw [List.map_cons, PyData.plainAll, PyData.depthAll, h1]
    have h3 : (tripP l).depth = 1 := rfl
    have h4 : (tripP l).plain = true := rfl
    rw [h3, h4]
    exact ⟨rfl, by omega⟩
theorem flatP_trips (ls : List Tr) : flatP (.list (ls.map tripP)) = true := by
  obtain ⟨h1, h2⟩ := flat_trips ls
  unfold flatP PyData.plain PyData.depth
  rw [h1]
  simp
  omega
theorem flatA_trips (ls : List Tr) : flatA (ls.map tripP) = true := by
  obtain ⟨h1, h2⟩ := flat_trips ls
  unfold flatA
  rw [h1]
  simp
  omega
theorem nil_trips (ls : List Tr) : neD (.list (ls.map tripP)) (.list []) = some (.bool (!ls.isEmpty)) ∧ eqD (.list (ls.map tripP)) (.list []) = some (.bool ls.isEmpty) := by
  have h := eq_nil_list _ (flatP_trips ls)
  rw [List.isEmpty_map] at h
  exact h
theorem notIn_trips {t : Tr} {ls : List Tr} (h : t ∈ ls) : notInD (tripP t) (.list (ls.map tripP)) = some (.bool false) := by
  have hf : flatP (tripP t) = true := rfl
  have he : PyData.eqv (tripP t) (tripP t) = true := by simp [tripP, PyData.eqv, PyData.eqvAll]
  have ha : ((ls.map tripP).any fun z => PyData.eqv z (tripP t)) = true := List.any_eq_true.mpr ⟨tripP t, List.mem_map.mpr ⟨t, h, rfl⟩, he⟩
  unfold notInD inD
  simp only [hf, flatA_trips, ha, Bool.and_self, if_true, Bool.not_true]
theorem told_even : eqD (toldP none) (.tuple [.str (S [101, 118, 101, 110])]) = some (.bool true) := by kernel_rfl
theorem told_bar (l : Int) (i j : Nat) : eqD (toldP (some (l, i, j))) (.tuple [.str (S [101, 118, 101, 110])]) = some (.bool false) := rfl
end G64

namespace G64
open PySem DL
open L2 (atI ixN)
abbrev fFld (q : Nat) (c : Int) : DT := fComp [11] (iOf anyOf (eVar q)) (gVar 11) bYes (eOp itemD (eVar 11) (eC (.int c)))
def itm (c : Int) (x : PD) : PD := match itemD x (.int c) with | some y => y | none => .none
theorem fld_ls {q : Nat} {c : Int} {fl : Tr → Int} (hf : ∀ t, itemD (tripP t) (.int c) = some (.int (fl t))) {Ls : List Tr} (hl : Ls.length ≤ 10000) {ρ : Rho} (hv : rget ρ q = some (.d (.list (Ls.map tripP)))) (hg : ∀ x, rget (rset (rset ρ 11 none) 11 (some (.d x))) 11 = some (.d x)) (s : SS) :
    fFld q c ρ s = some ((Ls.map fl).map PyData.int, s) := by
  have hm : iOf anyOf (eVar q) ρ s = some (Ls.map tripP, s) := by
    unfold iOf eVar M.bnd
    rw [hv]
    rfl
  have key := fComp_map (vs := [11]) (g := gVar 11) (t := bYes) (f := eOp itemD (eVar 11) (eC (.int c))) (itm c) hm (by rw [List.length_map]; show _ ≤ 1000000; omega) (by
    intro x hx
    obtain ⟨t, _, rfl⟩ := List.mem_map.mp hx
    refine ⟨_, rfl, rfl, ?_⟩
    have h1 : eVar 11 (rset (wipeR ρ [11]) 11 (some (.d (tripP t)))) s = some (tripP t, s) := by
      unfold eVar
      show (match rget (rset (rset ρ 11 none) 11 (some (.d (tripP t)))) 11 with | some (.d x) => some (x, s) | _ => none) = _
      rw [hg]
    unfold eOp M.bnd
    rw [h1]
    unfold itm
    rw [hf]
    show (match (eC (.int c) (rset (wipeR ρ [11]) 11 (some (.d (tripP t)))) s) with | none => none | some (y, s1) => M.lift (itemD (tripP t) y) s1) = _
    show M.lift (itemD (tripP t) (.int c)) s = _
    rw [hf]
    rfl)
  have e : (Ls.map tripP).map (itm c) = (Ls.map fl).map PyData.int := by
    rw [List.map_map, List.map_map]
    refine List.map_congr_left fun t _ => ?_
    show itm c (tripP t) = .int (fl t)
    unfold itm
    rw [hf]
  rw [e] at key
  exact key
theorem min_fld {q : Nat} {c : Int} {fl : Tr → Int} (hf : ∀ t, itemD (tripP t) (.int c) = some (.int (fl t))) {Ls : List Tr} (hl : Ls.length ≤ 10000) {ρ : Rho} (hv : rget ρ q = some (.d (.list (Ls.map tripP)))) (hg : ∀ x, rget (rset (rset ρ 11 none) 11 (some (.d x))) 11 = some (.d x)) {t : Tr} (ht : t ∈ Ls) (hm : ∀ u ∈ Ls, fl t ≤ fl u) (s : SS) :
    eCallB minLD (lCons (eFL (fFld q c)) lNil) ρ s = some (.int (fl t), s) := by
  have e3 := fl_ev (fld_ls hf hl hv hg s)
  have e4 := minLD_leI (xs := Ls.map fl) (m := fl t) (List.mem_map.mpr ⟨t, ht, rfl⟩) (by
    intro x hx
    obtain ⟨u, hu, rfl⟩ := List.mem_map.mp hx
    exact hm u hu)
  generalize fFld q c = F at *
  generalize (Ls.map fl).map PyData.int = zs at *
  simp only [eCallB, lCons, lNil, M.bnd, M.ret, M.lift, e3, e4]
theorem f0 (t : Tr) : itemD (tripP t) (.int 0) = some (.int (t.1 : Int)) := rfl
theorem f1 (t : Tr) : itemD (tripP t) (.int 1) = some (.int (t.2.1 : Int)) := rfl
theorem f2 (t : Tr) : itemD (tripP t) (.int 2) = some (.int (t.2.2 : Int)) := rfl
abbrev fLeast : DT := fComp [11] (iOf anyOf (eVar 5)) (gVar 11) (bOp eqD (eOp itemD (eVar 11) (eC (.int 0))) (eVar 6)) (eVar 11)
theorem least_ls {a : PySem.Addr} {x2 x7 x8 x9 x10 x11 x12 x13 : Option Sl} {w : List Nat} {Bs : List Tr} (hl : Bs.length ≤ 10000) {l : Nat} (s : SS) :
    fLeast (rhoL a x2 w Bs (nI l) x7 x8 x9 x10 x11 x12 x13) s = some ((Bs.filter fun t => decide (t.1 = l)).map tripP, s) := by
  have key := fComp_filter (vs := [11]) (m := iOf anyOf (eVar 5)) (g := gVar 11) (t := bOp eqD (eOp itemD (eVar 11) (eC (.int 0))) (eVar 6)) (f := eVar 11) (ρ := rhoL a x2 w Bs (nI l) x7 x8 x9 x10 x11 x12 x13) (s := s) (s1 := s) (xs := Bs.map tripP)
    (fun x => match itemD x (.int 0) with | some (.int k) => decide (k = (l : Int)) | _ => false) (fun x => x) rfl (by rw [List.length_map]; show _ ≤ 1000000; omega) (by
      intro x hx
      obtain ⟨t, _, rfl⟩ := List.mem_map.mp hx
      refine ⟨_, rfl, ?_, rfl⟩
      rw [f0]
      unfold rhoL
      generalize turnL w = T at *
      generalize Bs.map tripP = P at *
      simp only [f0, eqD_int, sSeq, sNil, sFail, sAsg, sRet, sIf, sDrop, sPar, sPar3, sAsgG, sFld, sBrk, sCnt, gTupD, gConsD, gNilD, gVar, eCallB, lCons, lNil, aCons, aConsP, aNil, pVar, cF, cK, eVar, eC, eOp, bOp, eIf, eTup, eLst, eSlice, oSome, oNone, eRev, eNeg, qOf, seqOf, eUn, eAnd, eOr, eNot, bAnd, bOr, bNot, bOf, bTru, bTruQ, qVar, eItemQ, eIsi, eIsiT, isiB, anyIsi, tyName, isNonD, notNonD, isNonB, eJoin, eGet2, eFL, iOf, strOf, lstOf, tupOf, bYes, sOwn, fLst, sFrz, frz, sApp, sPop, M.bnd, M.ret, M.lift, M.fail, rget, rset, wipeR, addD_int, subI_int, modD_int, ltD_int, leD_int, gtD_int, geD_int, eqD_int, neD_int, eqD_bool, neD_bool, truD_bool, truD_int, intD_int, lenQ, eCallB, List.map, List.length_cons, List.length_nil, List.cons_append, List.nil_append, List.replicate, Nat.reduceAdd, Nat.reduceSub, if_true, if_false, Bool.false_eq_true, reduceIte, Bool.not_true, Bool.not_false, Option.map_some, Option.map_none, reduceCtorEq, decide_true, decide_false])
  rw [List.map_id', List.filter_map] at key
  have e : (Bs.filter ((fun x => match itemD x (.int 0) with | some (.int k) => decide (k = (l : Int)) | _ => false) ∘ tripP)) = Bs.filter fun t => decide (t.1 = l) := by
    refine List.filter_congr fun t _ => ?_
    show (match itemD (tripP t) (.int 0) with | some (.int k) => decide (k = (l : Int)) | _ => false) = _
    rw [f0]
    show decide ((t.1 : Int) = (l : Int)) = decide (t.1 = l)
    by_cases h : t.1 = l
    · rw [decide_eq_true h]; exact decide_eq_true (by omega)
    · rw [decide_eq_false h]; exact decide_eq_false (by omega)
  rw [e] at key
  exact key
end G64

namespace G64
open PySem DL
open L2 (atI ixN)
theorem wrap_inj {c : Nat} {u v : List Nat} (h : c :: (u ++ [c]) = c :: (v ++ [c])) : u = v := List.append_cancel_right (List.cons.inj h).2
/-- all bars of the least size hold the same core -/
theorem least_core {w : List Nat} (hw : AB w) {l i j : Nat} (hb : Bar w l i j) (hmin : ∀ l' i' j', Bar w l' i' j' → l ≤ l') :
    ∃ u, fac w l i = 98 :: (u ++ [98]) ∧ fac w l j = 97 :: (u ++ [97]) ∧ ∀ i' j', Bar w l i' j' → fac w l i' = 98 :: (u ++ [98]) ∧ fac w l j' = 97 :: (u ++ [97]) := by
  obtain ⟨u, h1, h2, h3⟩ := bar_shape hw hb hmin
  refine ⟨u, h1, h2, fun i' j' hb' => ?_⟩
  obtain ⟨u', k1, k2, k3⟩ := bar_shape hw hb' hmin
  obtain ⟨a1, a2, a3, a4⟩ := hb
  obtain ⟨b1, b2, b3, b4⟩ := hb'
  rcases Nat.lt_or_ge (nb (fac w l i)) (nb (fac w l i')) with hlt | hge
  · have hx : Bar w l i' j := ⟨a1, b2, a3, by omega⟩
    obtain ⟨_, _, _, m3⟩ := bar_shape hw hx hmin
    omega
  · have hx : Bar w l i j' := ⟨a1, a2, b3, by omega⟩
    obtain ⟨v, m1, m2, m3⟩ := bar_shape hw hx hmin
    have e1 : v = u := wrap_inj (m1.symm.trans h1)
    subst e1
    have e2 : u' = v := wrap_inj (k2.symm.trans m2)
    subst e2
    exact ⟨k1, k2⟩
abbrev evenP : PD := .tuple [.str (S [101, 118, 101, 110])]
abbrev fTold : DS := sAsg 10 (cF (phi_even_or_bar) 1 (aCons (eVar 3) aNil))
abbrev fC1 : DS := sIf (bOp neD (eOp eqD (eVar 5) (eLst lNil)) (eOp eqD (eVar 10) (eTup (lCons (eC (.str (S [101, 118, 101, 110]))) lNil)))) (sRet (eC (.bool false))) sNil
theorem told_ev {a : PySem.Addr} {x2 x6 x7 x8 x9 x10 x11 x12 x13 : Option Sl} {w : List Nat} (hw : AB w) (hn : w ≠ []) (hl : w.length ≤ 10) {Bs : List Tr} (s : SS) :
    fTold (rhoL a x2 w Bs x6 x7 x8 x9 x10 x11 x12 x13) s = some (.nx (rhoL a x2 w Bs x6 x7 x8 x9 (some (.d (toldP (fbar (lotsOf w))))) x11 x12 x13), s) := by
  have e := even_or_bar_ok hw hn (by omega) s
  unfold rhoL
  generalize turnL w = T at *
  generalize Bs.map tripP = P at *
  generalize toldP (fbar (lotsOf w)) = q at *
  simp only [e, sSeq, sNil, sFail, sAsg, sRet, sIf, sDrop, sPar, sPar3, sAsgG, sFld, sBrk, sCnt, gTupD, gConsD, gNilD, gVar, eCallB, lCons, lNil, aCons, aConsP, aNil, pVar, cF, cK, eVar, eC, eOp, bOp, eIf, eTup, eLst, eSlice, oSome, oNone, eRev, eNeg, qOf, seqOf, eUn, eAnd, eOr, eNot, bAnd, bOr, bNot, bOf, bTru, bTruQ, qVar, eItemQ, eIsi, eIsiT, isiB, anyIsi, tyName, isNonD, notNonD, isNonB, eJoin, eGet2, eFL, iOf, strOf, lstOf, tupOf, bYes, sOwn, fLst, sFrz, frz, sApp, sPop, M.bnd, M.ret, M.lift, M.fail, rget, rset, wipeR, addD_int, subI_int, modD_int, ltD_int, leD_int, gtD_int, geD_int, eqD_int, neD_int, eqD_bool, neD_bool, truD_bool, truD_int, intD_int, lenQ, eCallB, List.map, List.length_cons, List.length_nil, List.cons_append, List.nil_append, List.replicate, Nat.reduceAdd, Nat.reduceSub, if_true, if_false, Bool.false_eq_true, reduceIte, Bool.not_true, Bool.not_false, Option.map_some, Option.map_none, reduceCtorEq, decide_true, decide_false]
theorem c1_ev {a : PySem.Addr} {x2 x6 x7 x8 x9 x11 x12 x13 : Option Sl} {w : List Nat} {Bs : List Tr} {q : PD} {b : Bool} (h1 : Bs.isEmpty = b) (h2 : eqD q evenP = some (.bool b)) (s : SS) :
    fC1 (rhoL a x2 w Bs x6 x7 x8 x9 (some (.d q)) x11 x12 x13) s = some (.nx (rhoL a x2 w Bs x6 x7 x8 x9 (some (.d q)) x11 x12 x13), s) := by
  have h3 := (nil_trips Bs).2
  rw [h1] at h3
  have h0L : (0 ≤ LIM) = True := eq_true (by decide)
  have h1L : (1 ≤ LIM) = True := eq_true (by decide)
  have hb : (b == b) = true := by cases b <;> rfl
  unfold rhoL
  generalize turnL w = T at *
  generalize Bs.map tripP = P at *
  simp only [h3, h2, h0L, h1L, hb, sSeq, sNil, sFail, sAsg, sRet, sIf, sDrop, sPar, sPar3, sAsgG, sFld, sBrk, sCnt, gTupD, gConsD, gNilD, gVar, eCallB, lCons, lNil, aCons, aConsP, aNil, pVar, cF, cK, eVar, eC, eOp, bOp, eIf, eTup, eLst, eSlice, oSome, oNone, eRev, eNeg, qOf, seqOf, eUn, eAnd, eOr, eNot, bAnd, bOr, bNot, bOf, bTru, bTruQ, qVar, eItemQ, eIsi, eIsiT, isiB, anyIsi, tyName, isNonD, notNonD, isNonB, eJoin, eGet2, eFL, iOf, strOf, lstOf, tupOf, bYes, sOwn, fLst, sFrz, frz, sApp, sPop, M.bnd, M.ret, M.lift, M.fail, rget, rset, wipeR, addD_int, subI_int, modD_int, ltD_int, leD_int, gtD_int, geD_int, eqD_int, neD_int, eqD_bool, neD_bool, truD_bool, truD_int, intD_int, lenQ, eCallB, List.map, List.length_cons, List.length_nil, List.cons_append, List.nil_append, List.replicate, Nat.reduceAdd, Nat.reduceSub, if_true, if_false, Bool.false_eq_true, reduceIte, Bool.not_true, Bool.not_false, Option.map_some, Option.map_none, reduceCtorEq, decide_true, decide_false]
abbrev fCore : DS := sAsg 13 (cF (phi_bar_core) 1 (aCons (eVar 3) aNil))
theorem core_ev {a : PySem.Addr} {x2 x6 x7 x8 x9 x10 x11 x12 x13 : Option Sl} {w u : List Nat} {Bs : List Tr} {s : SS} (e : phi_bar_core [.d (.str (S w))] s = some (.str (S u), s)) :
    fCore (rhoL a x2 w Bs x6 x7 x8 x9 x10 x11 x12 x13) s = some (.nx (rhoL a x2 w Bs x6 x7 x8 x9 x10 x11 x12 (some (.d (.str (S u))))), s) := by
  unfold rhoL
  generalize turnL w = T at *
  generalize Bs.map tripP = P at *
  simp only [e, sSeq, sNil, sFail, sAsg, sRet, sIf, sDrop, sPar, sPar3, sAsgG, sFld, sBrk, sCnt, gTupD, gConsD, gNilD, gVar, eCallB, lCons, lNil, aCons, aConsP, aNil, pVar, cF, cK, eVar, eC, eOp, bOp, eIf, eTup, eLst, eSlice, oSome, oNone, eRev, eNeg, qOf, seqOf, eUn, eAnd, eOr, eNot, bAnd, bOr, bNot, bOf, bTru, bTruQ, qVar, eItemQ, eIsi, eIsiT, isiB, anyIsi, tyName, isNonD, notNonD, isNonB, eJoin, eGet2, eFL, iOf, strOf, lstOf, tupOf, bYes, sOwn, fLst, sFrz, frz, sApp, sPop, M.bnd, M.ret, M.lift, M.fail, rget, rset, wipeR, addD_int, subI_int, modD_int, ltD_int, leD_int, gtD_int, geD_int, eqD_int, neD_int, eqD_bool, neD_bool, truD_bool, truD_int, intD_int, lenQ, eCallB, List.map, List.length_cons, List.length_nil, List.cons_append, List.nil_append, List.replicate, Nat.reduceAdd, Nat.reduceSub, if_true, if_false, Bool.false_eq_true, reduceIte, Bool.not_true, Bool.not_false, Option.map_some, Option.map_none, reduceCtorEq, decide_true, decide_false]
abbrev fAll : DT := fComp [11] (iOf anyOf (eVar 12)) (gVar 11) bYes (eAnd (eOp eqD (eSlice (eOp itemD (eVar 4) (eOp itemD (eVar 11) (eC (.int 1)))) oNone (oSome (eVar 6))) (eOp addD (eOp addD (eC (.str (S [98]))) (eVar 13)) (eC (.str (S [98]))))) (eOp eqD (eSlice (eOp itemD (eVar 4) (eOp itemD (eVar 11) (eC (.int 2)))) oNone (oSome (eVar 6))) (eOp addD (eOp addD (eC (.str (S [97]))) (eVar 13)) (eC (.str (S [97]))))))
theorem all_ls {a : PySem.Addr} {x2 x7 x8 x9 x10 x11 : Option Sl} {w u : List Nat} (hl : w.length ≤ 10) {Bs Ls : List Tr} (hL : Ls.length ≤ 10000) {l : Nat} (h1 : l ≤ w.length) (hu : u.length ≤ 20) (hx : ∀ t ∈ Ls, t.2.1 < w.length ∧ t.2.2 < w.length ∧ fac w l t.2.1 = 98 :: (u ++ [98]) ∧ fac w l t.2.2 = 97 :: (u ++ [97])) (s : SS) :
    fAll (rhoL a x2 w Bs (nI l) x7 x8 x9 x10 x11 (some (.d (.list (Ls.map tripP)))) (some (.d (.str (S u))))) s = some ((Ls.map tripP).map fun _ => .bool true, s) := by
  refine fComp_map (vs := [11]) (g := gVar 11) (t := bYes) (fun _ => PyData.bool true) (m := iOf anyOf (eVar 12)) rfl (by rw [List.length_map]; show _ ≤ 1000000; omega) ?_
  intro x hx'
  obtain ⟨t, ht, rfl⟩ := List.mem_map.mp hx'
  refine ⟨_, rfl, rfl, ?_⟩
  obtain ⟨h2, h3, k1, k2⟩ := hx t ht
  have t1 := turnL_at h2
  have t2 := turnL_at h3
  have L1 : (w.drop t.2.1 ++ w.take t.2.1).length ≤ LIM := by rw [List.length_append, List.length_drop, List.length_take]; show _ ≤ 1000000; omega
  have L2 : (w.drop t.2.2 ++ w.take t.2.2).length ≤ LIM := by rw [List.length_append, List.length_drop, List.length_take]; show _ ≤ 1000000; omega
  have s1 : sliceD (.str (S (w.drop t.2.1 ++ w.take t.2.1))) none (some (l : Int)) = some (.str (S (98 :: (u ++ [98])))) := by rw [sliceD_S L1, cut_take, turn_fac h2 h1, k1]
  have s2 : sliceD (.str (S (w.drop t.2.2 ++ w.take t.2.2))) none (some (l : Int)) = some (.str (S (97 :: (u ++ [97])))) := by rw [sliceD_S L2, cut_take, turn_fac h3 h1, k2]
  have p1 := addD_str (a := [98]) (b := u) (by rw [List.length_singleton]; show _ ≤ 1000000; omega)
  have p2 := addD_str (a := [98] ++ u) (b := [98]) (by rw [List.length_append, List.length_singleton]; show _ ≤ 1000000; omega)
  have p3 := addD_str (a := [97]) (b := u) (by rw [List.length_singleton]; show _ ≤ 1000000; omega)
  have p4 := addD_str (a := [97] ++ u) (b := [97]) (by rw [List.length_append, List.length_singleton]; show _ ≤ 1000000; omega)
  have q1 : eqD (.str (S (98 :: (u ++ [98])))) (.str (S (98 :: (u ++ [98])))) = some (.bool true) := by rw [eqD_str, decide_eq_true rfl]
  have q2 : eqD (.str (S (97 :: (u ++ [97])))) (.str (S (97 :: (u ++ [97])))) = some (.bool true) := by rw [eqD_str, decide_eq_true rfl]
  have r1 : [98] ++ u ++ [98] = 98 :: (u ++ [98]) := rfl
  have r2 : [97] ++ u ++ [97] = 97 :: (u ++ [97]) := rfl
  rw [r1] at p2
  rw [r2] at p4
  generalize [98] ++ u = u1 at *
  generalize [97] ++ u = u2 at *
  generalize 98 :: (u ++ [98]) = u3 at *
  generalize 97 :: (u ++ [97]) = u4 at *
  generalize w.drop t.2.1 ++ w.take t.2.1 = u5 at *
  generalize w.drop t.2.2 ++ w.take t.2.2 = u6 at *
  have g1 := f1 t
  have g2 := f2 t
  unfold rhoL
  generalize turnL w = T at *
  generalize Ls.map tripP = P2 at *
  generalize Bs.map tripP = P at *
  generalize tripP t = tt at *
  simp only [g1, g2, itemD_list, t1, t2, s1, s2, p1, p2, p3, p4, q1, q2, sSeq, sNil, sFail, sAsg, sRet, sIf, sDrop, sPar, sPar3, sAsgG, sFld, sBrk, sCnt, gTupD, gConsD, gNilD, gVar, eCallB, lCons, lNil, aCons, aConsP, aNil, pVar, cF, cK, eVar, eC, eOp, bOp, eIf, eTup, eLst, eSlice, oSome, oNone, eRev, eNeg, qOf, seqOf, eUn, eAnd, eOr, eNot, bAnd, bOr, bNot, bOf, bTru, bTruQ, qVar, eItemQ, eIsi, eIsiT, isiB, anyIsi, tyName, isNonD, notNonD, isNonB, eJoin, eGet2, eFL, iOf, strOf, lstOf, tupOf, bYes, sOwn, fLst, sFrz, frz, sApp, sPop, M.bnd, M.ret, M.lift, M.fail, rget, rset, wipeR, addD_int, subI_int, modD_int, ltD_int, leD_int, gtD_int, geD_int, eqD_int, neD_int, eqD_bool, neD_bool, truD_bool, truD_int, intD_int, lenQ, eCallB, List.map, List.length_cons, List.length_nil, List.cons_append, List.nil_append, List.replicate, Nat.reduceAdd, Nat.reduceSub, if_true, if_false, Bool.false_eq_true, reduceIte, Bool.not_true, Bool.not_false, Option.map_some, Option.map_none, reduceCtorEq, decide_true, decide_false]
end G64

namespace G64
open PySem DL
open L2 (atI ixN)
abbrev eMin (q : Nat) (c : Int) : DE := eCallB minLD (lCons (eFL (fFld q c)) lNil)
abbrev fOr : DS := sIf (bOr (bOp neD (eOp itemD (eVar 10) (eC (.int 1))) (eVar 6)) (bOr (bOp notInD (eSlice (eVar 10) (oSome (eC (.int 1))) oNone) (eVar 12)) (bOr (bOp neD (eOp itemD (eVar 10) (eC (.int 2))) (eMin 12 1)) (bOp neD (eOp itemD (eVar 10) (eC (.int 3))) (eMin 12 2))))) (sRet (eC (.bool false))) sNil
abbrev fNot : DS := sIf (bNot (bTru (eCallB all1D (lCons (eFL fAll) lNil)))) (sRet (eC (.bool false))) sNil
theorem or_ev {a : PySem.Addr} {x2 x7 x8 x9 x11 x13 : Option Sl} {w : List Nat} {Bs Ls : List Tr} {l i j : Nat} (hm : (l, i, j) ∈ Ls) (hL : Ls.length ≤ 10000) (hi : ∀ u ∈ Ls, i ≤ u.2.1) (hj : ∀ u ∈ Ls, j ≤ u.2.2) (s : SS) :
    fOr (rhoL a x2 w Bs (nI l) x7 x8 x9 (some (.d (toldP (some ((l : Int), i, j))))) x11 (some (.d (.list (Ls.map tripP)))) x13) s = some (.nx (rhoL a x2 w Bs (nI l) x7 x8 x9 (some (.d (toldP (some ((l : Int), i, j))))) x11 (some (.d (.list (Ls.map tripP)))) x13), s) := by
  have m1 := min_fld (q := 12) f1 hL (ρ := rhoL a x2 w Bs (nI l) x7 x8 x9 (some (.d (toldP (some ((l : Int), i, j))))) x11 (some (.d (.list (Ls.map tripP)))) x13) rfl (fun _ => rfl) hm (fun u hu => by have := hi u hu; show (i : Int) ≤ (u.2.1 : Int); omega) s
  have m2 := min_fld (q := 12) f2 hL (ρ := rhoL a x2 w Bs (nI l) x7 x8 x9 (some (.d (toldP (some ((l : Int), i, j))))) x11 (some (.d (.list (Ls.map tripP)))) x13) rfl (fun _ => rfl) hm (fun u hu => by have := hj u hu; show (j : Int) ≤ (u.2.2 : Int); omega) s
  have n1 := notIn_trips hm
  have sl : sliceD (toldP (some ((l : Int), i, j))) (some 1) none = some (tripP (l, i, j)) := by
    show some (PyData.tuple (cutA _ (some ((1 : Nat) : Int)) none)) = _
    rw [cut_drop]
    rfl
  have g1 : itemD (toldP (some ((l : Int), i, j))) (.int 1) = some (.int (l : Int)) := rfl
  have g2 : itemD (toldP (some ((l : Int), i, j))) (.int 2) = some (.int (i : Int)) := rfl
  have g3 : itemD (toldP (some ((l : Int), i, j))) (.int 3) = some (.int (j : Int)) := rfl
  have m1' : eMin 12 1 (rhoL a x2 w Bs (nI l) x7 x8 x9 (some (.d (toldP (some ((l : Int), i, j))))) x11 (some (.d (.list (Ls.map tripP)))) x13) s = some (.int (i : Int), s) := m1
  have m2' : eMin 12 2 (rhoL a x2 w Bs (nI l) x7 x8 x9 (some (.d (toldP (some ((l : Int), i, j))))) x11 (some (.d (.list (Ls.map tripP)))) x13) s = some (.int (j : Int), s) := m2
  clear m1 m2
  unfold fOr
  generalize eMin 12 1 = F1 at *
  generalize eMin 12 2 = F2 at *
  unfold rhoL at *
  generalize turnL w = T at *
  generalize Ls.map tripP = P2 at *
  generalize Bs.map tripP = P at *
  generalize toldP (some ((l : Int), i, j)) = q at *
  generalize tripP (l, i, j) = tt at *
  simp only [g1, g2, g3, sl, n1, m1', m2', sSeq, sNil, sFail, sAsg, sRet, sIf, sDrop, sPar, sPar3, sAsgG, sFld, sBrk, sCnt, gTupD, gConsD, gNilD, gVar, eCallB, lCons, lNil, aCons, aConsP, aNil, pVar, cF, cK, eVar, eC, eOp, bOp, eIf, eTup, eLst, eSlice, oSome, oNone, eRev, eNeg, qOf, seqOf, eUn, eAnd, eOr, eNot, bAnd, bOr, bNot, bOf, bTru, bTruQ, qVar, eItemQ, eIsi, eIsiT, isiB, anyIsi, tyName, isNonD, notNonD, isNonB, eJoin, eGet2, eFL, iOf, strOf, lstOf, tupOf, bYes, sOwn, fLst, sFrz, frz, sApp, sPop, M.bnd, M.ret, M.lift, M.fail, rget, rset, wipeR, addD_int, subI_int, modD_int, ltD_int, leD_int, gtD_int, geD_int, eqD_int, neD_int, eqD_bool, neD_bool, truD_bool, truD_int, intD_int, lenQ, eCallB, List.map, List.length_cons, List.length_nil, List.cons_append, List.nil_append, List.replicate, Nat.reduceAdd, Nat.reduceSub, if_true, if_false, Bool.false_eq_true, reduceIte, Bool.not_true, Bool.not_false, Option.map_some, Option.map_none, reduceCtorEq, decide_true, decide_false]
theorem allD_yes (xs : List PD) : all1D [.list (xs.map fun _ => PyData.bool true)] = some (.bool true) := by
  have h : ∀ ys : List PD, boolsOf (ys.map fun _ => PyData.bool true) = some (ys.map fun _ => true) := by
    intro ys
    induction ys with
    | nil => rfl
    | cons y ys ih =>
      show (boolsOf (ys.map fun _ => PyData.bool true)).map (true :: ·) = _
      rw [ih]
      rfl
  show (boolsOf (xs.map fun _ => PyData.bool true)).map (fun bs => PyData.bool (bs.all fun b => b)) = _
  rw [h]
  simp
theorem not_ev {ρ : Rho} {s : SS} {xs : List PD} (h : fAll ρ s = some (xs.map fun _ => PyData.bool true, s)) : fNot ρ s = some (.nx ρ, s) := by
  have e3 := fl_ev h
  have e4 := allD_yes xs
  unfold fNot
  generalize fAll = F at *
  generalize (xs.map fun _ => PyData.bool true) = ys at *
  simp only [h, e4, sSeq, sNil, sFail, sAsg, sRet, sIf, sDrop, sPar, sPar3, sAsgG, sFld, sBrk, sCnt, gTupD, gConsD, gNilD, gVar, eCallB, lCons, lNil, aCons, aConsP, aNil, pVar, cF, cK, eVar, eC, eOp, bOp, eIf, eTup, eLst, eSlice, oSome, oNone, eRev, eNeg, qOf, seqOf, eUn, eAnd, eOr, eNot, bAnd, bOr, bNot, bOf, bTru, bTruQ, qVar, eItemQ, eIsi, eIsiT, isiB, anyIsi, tyName, isNonD, notNonD, isNonB, eJoin, eGet2, eFL, iOf, strOf, lstOf, tupOf, bYes, sOwn, fLst, sFrz, frz, sApp, sPop, M.bnd, M.ret, M.lift, M.fail, rget, rset, wipeR, addD_int, subI_int, modD_int, ltD_int, leD_int, gtD_int, geD_int, eqD_int, neD_int, eqD_bool, neD_bool, truD_bool, truD_int, intD_int, lenQ, eCallB, List.map, List.length_cons, List.length_nil, List.cons_append, List.nil_append, List.replicate, Nat.reduceAdd, Nat.reduceSub, if_true, if_false, Bool.false_eq_true, reduceIte, Bool.not_true, Bool.not_false, Option.map_some, Option.map_none, reduceCtorEq, decide_true, decide_false]
abbrev fIn : DS := sSeq (sAsg 6 (eMin 5 0)) (sSeq (sAsg 12 (eFL fLeast)) (sSeq fCore (sSeq fOr fNot)))
abbrev fC2 : DS := sIf (bOp neD (eVar 5) (eLst lNil)) fIn sNil
abbrev fJudge : DS := sSeq fTold (sSeq fC1 fC2)
theorem c2_open {a : PySem.Addr} {x2 x6 x7 x8 x9 x10 x11 x12 x13 : Option Sl} {w : List Nat} {Bs : List Tr} {b : Bool} (h1 : Bs.isEmpty = b) (f : DS) (s : SS) :
    sIf (bOp neD (eVar 5) (eLst lNil)) f sNil (rhoL a x2 w Bs x6 x7 x8 x9 x10 x11 x12 x13) s = (if b then sNil else f) (rhoL a x2 w Bs x6 x7 x8 x9 x10 x11 x12 x13) s := by
  have h3 := (nil_trips Bs).1
  rw [h1] at h3
  have h0L : (0 ≤ LIM) = True := eq_true (by decide)
  unfold rhoL
  generalize turnL w = T at *
  generalize Bs.map tripP = P at *
  cases b
  · simp only [Bool.not_false] at h3
    simp only [h3, h0L, sSeq, sNil, sFail, sAsg, sRet, sIf, sDrop, sPar, sPar3, sAsgG, sFld, sBrk, sCnt, gTupD, gConsD, gNilD, gVar, eCallB, lCons, lNil, aCons, aConsP, aNil, pVar, cF, cK, eVar, eC, eOp, bOp, eIf, eTup, eLst, eSlice, oSome, oNone, eRev, eNeg, qOf, seqOf, eUn, eAnd, eOr, eNot, bAnd, bOr, bNot, bOf, bTru, bTruQ, qVar, eItemQ, eIsi, eIsiT, isiB, anyIsi, tyName, isNonD, notNonD, isNonB, eJoin, eGet2, eFL, iOf, strOf, lstOf, tupOf, bYes, sOwn, fLst, sFrz, frz, sApp, sPop, M.bnd, M.ret, M.lift, M.fail, rget, rset, wipeR, addD_int, subI_int, modD_int, ltD_int, leD_int, gtD_int, geD_int, eqD_int, neD_int, eqD_bool, neD_bool, truD_bool, truD_int, intD_int, lenQ, eCallB, List.map, List.length_cons, List.length_nil, List.cons_append, List.nil_append, List.replicate, Nat.reduceAdd, Nat.reduceSub, if_true, if_false, Bool.false_eq_true, reduceIte, Bool.not_true, Bool.not_false, Option.map_some, Option.map_none, reduceCtorEq, decide_true, decide_false]
  · simp only [Bool.not_true] at h3
    simp only [h3, h0L, sSeq, sNil, sFail, sAsg, sRet, sIf, sDrop, sPar, sPar3, sAsgG, sFld, sBrk, sCnt, gTupD, gConsD, gNilD, gVar, eCallB, lCons, lNil, aCons, aConsP, aNil, pVar, cF, cK, eVar, eC, eOp, bOp, eIf, eTup, eLst, eSlice, oSome, oNone, eRev, eNeg, qOf, seqOf, eUn, eAnd, eOr, eNot, bAnd, bOr, bNot, bOf, bTru, bTruQ, qVar, eItemQ, eIsi, eIsiT, isiB, anyIsi, tyName, isNonD, notNonD, isNonB, eJoin, eGet2, eFL, iOf, strOf, lstOf, tupOf, bYes, sOwn, fLst, sFrz, frz, sApp, sPop, M.bnd, M.ret, M.lift, M.fail, rget, rset, wipeR, addD_int, subI_int, modD_int, ltD_int, leD_int, gtD_int, geD_int, eqD_int, neD_int, eqD_bool, neD_bool, truD_bool, truD_int, intD_int, lenQ, eCallB, List.map, List.length_cons, List.length_nil, List.cons_append, List.nil_append, List.replicate, Nat.reduceAdd, Nat.reduceSub, if_true, if_false, Bool.false_eq_true, reduceIte, Bool.not_true, Bool.not_false, Option.map_some, Option.map_none, reduceCtorEq, decide_true, decide_false]
end G64

namespace G64
open PySem DL
open L2 (atI ixN)
theorem sizeB_len (w : List Nat) (hl : w.length ≤ 10) : (sizeB w (w.length + 1)).length ≤ 2000 := by
  have := len_flat (fun l => moreB w l w.length) 100 (fun k => moreB_len w k w.length hl hl) (w.length + 1)
  unfold sizeB
  omega
theorem judge_ok {a : PySem.Addr} {x2 x6 x7 x8 x9 x10 x11 x12 x13 : Option Sl} {w : List Nat} (hw : AB w) (hn : w ≠ []) (hl : w.length ≤ 10) (s : SS) :
    ∃ Bs y6 y10 y12 y13, fJudge (rhoL a x2 w (sizeB w (w.length + 1)) x6 x7 x8 x9 x10 x11 x12 x13) s = some (.nx (rhoL a x2 w Bs y6 x7 x8 x9 y10 x11 y12 y13), s) := by
  have hB := sizeB_len w hl
  have mem : ∀ t : Tr, t ∈ sizeB w (w.length + 1) ↔ Bar w t.1 t.2.1 t.2.2 := fun t => mem_bars
  generalize sizeB w (w.length + 1) = Bs at *
  have t1 := told_ev (a := a) (x2 := x2) (x6 := x6) (x7 := x7) (x8 := x8) (x9 := x9) (x10 := x10) (x11 := x11) (x12 := x12) (x13 := x13) hw hn hl (Bs := Bs) s
  unfold fJudge
  rw [seq_nx t1]
  cases hf : fbar (lotsOf w) with
  | none =>
    have h0 : Bs = [] := by
      cases Bs with
      | nil => rfl
      | cons t ts => exact absurd ((mem t).mp List.mem_cons_self) (fbar_none hf _ _ _)
    have h1 : Bs.isEmpty = true := by rw [h0]; rfl
    rw [seq_nx (c1_ev h1 told_even s)]
    refine ⟨Bs, x6, some (.d (toldP none)), x12, x13, (c2_open h1 fIn s).trans ?_⟩
    rfl
  | some q =>
    obtain ⟨L, i, j⟩ := q
    obtain ⟨l, rfl, hb, hmin, hij⟩ := fbar_some hw hf
    have hm : (l, i, j) ∈ Bs := (mem (l, i, j)).mpr hb
    have h1 : Bs.isEmpty = false := by
      cases Bs with
      | nil => cases hm
      | cons t ts => rfl
    rw [seq_nx (c1_ev h1 (told_bar _ _ _) s)]
    obtain ⟨u, k1, k2, k3⟩ := least_core hw hb hmin
    obtain ⟨b1, b2, b3, b4⟩ := hb
    have hlen : l = u.length + 2 := by
      have := congrArg List.length k1
      rw [fac_len b2 b1] at this
      simp at this
      omega
    have hc := bar_core_ok hw hn (by omega) hf (by omega) b2 b1 s
    have hcu : ((w ++ w).drop (i + 1)).take (l - 2) = u := by
      have e : ((w ++ w).drop i).take l = 98 :: (u ++ [98]) := k1
      have e2 := congrArg (List.drop 1) e
      rw [List.drop_take, List.drop_drop] at e2
      have e3 := congrArg (List.take (l - 2)) e2
      rw [List.take_take, Nat.min_eq_left (by omega)] at e3
      rw [e3, hlen]
      simp
    rw [hcu] at hc
    let Ls := Bs.filter fun t => decide (t.1 = l)
    have hLs : Ls.length ≤ 10000 := Nat.le_trans (List.length_filter_le _ _) (by omega)
    have hmL : (l, i, j) ∈ Ls := List.mem_filter.mpr ⟨hm, decide_eq_true rfl⟩
    have hLb : ∀ t ∈ Ls, Bar w l t.2.1 t.2.2 := fun t ht => by
      obtain ⟨h1, h2⟩ := List.mem_filter.mp ht
      have := (mem t).mp h1
      rw [of_decide_eq_true h2] at this
      exact this
    have m0 := min_fld (q := 5) f0 (Ls := Bs) (by omega) (ρ := rhoL a x2 w Bs x6 x7 x8 x9 (some (.d (toldP (some ((l : Int), i, j))))) x11 x12 x13) rfl (fun _ => rfl) hm (fun t ht => by have := hmin _ _ _ ((mem t).mp ht); show (l : Int) ≤ (t.1 : Int); omega) s
    refine ⟨Bs, nI l, some (.d (toldP (some ((l : Int), i, j)))), some (.d (.list (Ls.map tripP))), some (.d (.str (S u))), (c2_open h1 fIn s).trans ?_⟩
    show fIn _ s = _
    unfold fIn
    rw [seq_nx (asg_ev m0)]
    have q2 := least_ls (a := a) (x2 := x2) (x7 := x7) (x8 := x8) (x9 := x9) (x10 := some (.d (toldP (some ((l : Int), i, j))))) (x11 := x11) (x12 := x12) (x13 := x13) (w := w) (Bs := Bs) (by omega) (l := l) s
    refine (seq_nx (asg_ev (fl_ev q2))).trans ?_
    refine (seq_nx (core_ev hc)).trans ?_
    refine (seq_nx (or_ev hmL hLs (fun t ht => (hij _ _ (hLb t ht)).1) (fun t ht => (hij _ _ (hLb t ht)).2) s)).trans ?_
    exact not_ev (all_ls hl hLs b1 (by omega) (fun t ht => by
      have hb := hLb t ht
      obtain ⟨p1, p2⟩ := k3 _ _ hb
      exact ⟨hb.2.1, hb.2.2.1, p1, p2⟩) s)
end G64

namespace G64
open PySem DL
open L2 (atI ixN)
abbrev fTurn : DS := sSeq (sAsg 3 (cF (phi__law_v_ring) 2 (aConsP 1 (aCons (eC (.int 9)) aNil)))) (sSeq (sAsgG (gTupD 2 (gConsD (gVar 4) (gConsD (gVar 5) gNilD))) (eTup (lCons (cF (phi__law_v_turns) 1 (aCons (eVar 3) aNil)) (lCons (eLst lNil) lNil)))) (sSeq fSize fJudge))
theorem turn_ok {a b : PySem.Addr} {n : Int} {z : Strm} (hz : Zs a b n z) (hn : n ≤ 800000000) (x2 x3 x4 x5 x6 x7 x8 x9 x10 x11 x12 x13 : Option Sl) :
    ∃ y3 y4 y5 y6 y7 y8 y9 y10 y12 y13 z', fTurn [none, some (.p a), x2, x3, x4, x5, x6, x7, x8, x9, x10, x11, x12, x13] (some z) = some (.nx [none, some (.p a), x2, y3, y4, y5, y6, y7, y8, y9, y10, x11, y12, y13], some z') ∧ Zs a b (n + 2000) z' := by
  obtain ⟨w, z', e1, hw, hne, hl, hz'⟩ := ring_ok hz hn
  have e2 := turns_ok (w := w) (by omega) (some z')
  have h0L : (0 ≤ LIM) = True := eq_true (by decide)
  have h2L : (2 ≤ LIM) = True := eq_true (by decide)
  obtain ⟨y6, y7, y8, y9, e3⟩ := size_loop (a := a) (x2 := x2) (x6 := x6) (x7 := x7) (x8 := x8) (x9 := x9) (x10 := x10) (x11 := x11) (x12 := x12) (x13 := x13) hw hne (by omega) (some z')
  obtain ⟨Bs, w6, w10, w12, w13, e4⟩ := judge_ok (a := a) (x2 := x2) (x6 := y6) (x7 := y7) (x8 := y8) (x9 := y9) (x10 := x10) (x11 := x11) (x12 := x12) (x13 := x13) hw hne (by omega) (some z')
  have s1 : sAsg 3 (cF (phi__law_v_ring) 2 (aConsP 1 (aCons (eC (.int 9)) aNil))) [none, some (.p a), x2, x3, x4, x5, x6, x7, x8, x9, x10, x11, x12, x13] (some z) = some (.nx [none, some (.p a), x2, some (.d (.str (S w))), x4, x5, x6, x7, x8, x9, x10, x11, x12, x13], some z') := by
    simp only [e1, sSeq, sNil, sFail, sAsg, sRet, sIf, sDrop, sPar, sPar3, sAsgG, sFld, sBrk, sCnt, gTupD, gConsD, gNilD, gVar, eCallB, lCons, lNil, aCons, aConsP, aNil, pVar, cF, cK, eVar, eC, eOp, bOp, eIf, eTup, eLst, eSlice, oSome, oNone, eRev, eNeg, qOf, seqOf, eUn, eAnd, eOr, eNot, bAnd, bOr, bNot, bOf, bTru, bTruQ, qVar, eItemQ, eIsi, eIsiT, isiB, anyIsi, tyName, isNonD, notNonD, isNonB, eJoin, eGet2, eFL, iOf, strOf, lstOf, tupOf, bYes, sOwn, fLst, sFrz, frz, sApp, sPop, M.bnd, M.ret, M.lift, M.fail, rget, rset, wipeR, addD_int, subI_int, modD_int, ltD_int, leD_int, gtD_int, geD_int, eqD_int, neD_int, eqD_bool, neD_bool, truD_bool, truD_int, intD_int, lenQ, eCallB, List.map, List.length_cons, List.length_nil, List.cons_append, List.nil_append, List.replicate, Nat.reduceAdd, Nat.reduceSub, if_true, if_false, Bool.false_eq_true, reduceIte, Bool.not_true, Bool.not_false, Option.map_some, Option.map_none, reduceCtorEq, decide_true, decide_false]
  have s2 : sAsgG (gTupD 2 (gConsD (gVar 4) (gConsD (gVar 5) gNilD))) (eTup (lCons (cF (phi__law_v_turns) 1 (aCons (eVar 3) aNil)) (lCons (eLst lNil) lNil))) [none, some (.p a), x2, some (.d (.str (S w))), x4, x5, x6, x7, x8, x9, x10, x11, x12, x13] (some z') = some (.nx (rhoL a x2 w [] x6 x7 x8 x9 x10 x11 x12 x13), some z') := by
    unfold rhoL
    generalize turnL w = T at *
    simp only [e2, h0L, h2L, Option.bind, rget, rset, sSeq, sNil, sFail, sAsg, sRet, sIf, sDrop, sPar, sPar3, sAsgG, sFld, sBrk, sCnt, gTupD, gConsD, gNilD, gVar, eCallB, lCons, lNil, aCons, aConsP, aNil, pVar, cF, cK, eVar, eC, eOp, bOp, eIf, eTup, eLst, eSlice, oSome, oNone, eRev, eNeg, qOf, seqOf, eUn, eAnd, eOr, eNot, bAnd, bOr, bNot, bOf, bTru, bTruQ, qVar, eItemQ, eIsi, eIsiT, isiB, anyIsi, tyName, isNonD, notNonD, isNonB, eJoin, eGet2, eFL, iOf, strOf, lstOf, tupOf, bYes, sOwn, fLst, sFrz, frz, sApp, sPop, M.bnd, M.ret, M.lift, M.fail, rget, rset, wipeR, addD_int, subI_int, modD_int, ltD_int, leD_int, gtD_int, geD_int, eqD_int, neD_int, eqD_bool, neD_bool, truD_bool, truD_int, intD_int, lenQ, eCallB, List.map, List.length_cons, List.length_nil, List.cons_append, List.nil_append, List.replicate, Nat.reduceAdd, Nat.reduceSub, if_true, if_false, Bool.false_eq_true, reduceIte, Bool.not_true, Bool.not_false, Option.map_some, Option.map_none, reduceCtorEq, decide_true, decide_false]
  exact ⟨some (.d (.str (S w))), some (.d (.list (turnL w))), some (.d (.list (Bs.map tripP))), w6, y7, y8, y9, w10, w12, w13, z', (seq_nx s1).trans ((seq_nx s2).trans ((seq_nx e3).trans e4)), hz'⟩
end G64

namespace G64
open PySem DL
open L2 (atI ixN)
def IL (a : PySem.Addr) (ρ : Rho) : Prop := ∃ x2 x3 x4 x5 x6 x7 x8 x9 x10 x11 x12 x13, ρ = [none, some (.p a), x2, x3, x4, x5, x6, x7, x8, x9, x10, x11, x12, x13]
theorem all_good (sa ca : PySem.Addr) (ns : List Int) (h : ns.length ≤ 63) : ∃ s', F_law (lawStart N_law.length sa) (some ⟨sa, ca, ns, 0, 0, 17⟩) = some (.rt (.bool true), s') := by
  have h0 := start_ok sa ca ns h
  have hr : (-RLIM ≤ (3 : Int) ∧ (3 : Int) ≤ RLIM) = True := eq_true (by unfold RLIM; omega)
  have es : lawStart N_law.length sa = [none, some (.p sa), none, none, none, none, none, none, none, none, none, none, none, none] := rfl
  rw [es]
  unfold F_law
  obtain ⟨ρ1, z1, e1, ⟨x2, x3, x4, x5, x6, x7, x8, x9, x10, x11, x12, x13, rfl⟩, hz1⟩ := loop_draw (Mx := 800000000) (a := sa) (b := ca) (I := IL sa) (g := gVar 2) (f := fTurn) 2000 (rangeL 0 3) 0 [none, some (.p sa), none, none, none, none, none, none, none, none, none, none, none, none] _ ⟨_, _, _, _, _, _, _, _, _, _, _, _, rfl⟩ h0 (by rw [range_len]; decide) (by
    rintro x hx n ρ z ⟨x2, x3, x4, x5, x6, x7, x8, x9, x10, x11, x12, x13, rfl⟩ hz hn
    obtain ⟨y3, y4, y5, y6, y7, y8, y9, y10, y12, y13, z', p1, p2⟩ := turn_ok hz (by omega) (some (.d x)) x3 x4 x5 x6 x7 x8 x9 x10 x11 x12 x13
    exact ⟨_, _, z', rfl, p1, ⟨_, _, _, _, _, _, _, _, _, _, _, _, rfl⟩, p2⟩)
  have hi1 : iRange1 (eC (.int 3)) [none, some (.p sa), none, none, none, none, none, none, none, none, none, none, none, none] (some ⟨sa, ca, ns, 0, 0, 17⟩) = some (rangeL 0 3, some ⟨sa, ca, ns, 0, 0, 17⟩) := by
    simp only [iRange1, hr, sSeq, sNil, sFail, sAsg, sRet, sIf, sDrop, sPar, sPar3, sAsgG, sFld, sBrk, sCnt, gTupD, gConsD, gNilD, gVar, eCallB, lCons, lNil, aCons, aConsP, aNil, pVar, cF, cK, eVar, eC, eOp, bOp, eIf, eTup, eLst, eSlice, oSome, oNone, eRev, eNeg, qOf, seqOf, eUn, eAnd, eOr, eNot, bAnd, bOr, bNot, bOf, bTru, bTruQ, qVar, eItemQ, eIsi, eIsiT, isiB, anyIsi, tyName, isNonD, notNonD, isNonB, eJoin, eGet2, eFL, iOf, strOf, lstOf, tupOf, bYes, sOwn, fLst, sFrz, frz, sApp, sPop, M.bnd, M.ret, M.lift, M.fail, rget, rset, wipeR, addD_int, subI_int, modD_int, ltD_int, leD_int, gtD_int, geD_int, eqD_int, neD_int, eqD_bool, neD_bool, truD_bool, truD_int, intD_int, lenQ, eCallB, List.map, List.length_cons, List.length_nil, List.cons_append, List.nil_append, List.replicate, Nat.reduceAdd, Nat.reduceSub, if_true, if_false, Bool.false_eq_true, reduceIte, Bool.not_true, Bool.not_false, Option.map_some, Option.map_none, reduceCtorEq, decide_true, decide_false]
    rfl
  have hA := (for_ev (g := gVar 2) (f := fTurn) hi1).trans e1
  refine ⟨some z1, (seq_nx hA).trans ?_⟩
  rfl
end G64

open PySem PySem.W PyProof.Rows

theorem G64.law_holds {l : PySem.W.OpenLaw} {w : World} {K : PySem.W.Frag} {h : Heap} {mg : Str → Option Value} {fa : Addr} (X : K.In h) (G : h.Ns PySem.mainGlobals mg) (T : G64.Tops w K mg) (hfa : mg "law" = some (.ref fa)) (hF : ∀ (sa ca : PySem.Addr) (ns : List Int), ns.length ≤ 63 → ∃ s', G64.F_law (DL.lawStart G64.N_law.length sa) (some ⟨sa, ca, ns, 0, 0, 17⟩) = some (.rt (.bool true), s')) :
    ∃ fd : FuncData, (∀ (s : Shared) (v : Value), BindsTo s fd ⟨[v], []⟩ [("script", v)]) ∧ ∀ base : Heap, K.In base → base.Ns mainGlobals mg → L2.FnOk l.prog w K mg base L2.CX0 6 fa fd ["script"] (DL.spLaw 63 K) := by
  obtain ⟨f1, fd1, h1, h2, h3⟩ := T.f_law
  cases hfa.symm.trans h1
  refine ⟨fd1, fun s v => ?_, fun base _ _ => G64.D_law T h2 hF⟩
  obtain ⟨oc, od, kV, doc, pm, an, cdv, ct, osl, rfl, _, _⟩ := h2.ex
  exact .of_eq rfl
set_option maxRecDepth 100000 in
set_option maxHeartbeats 0 in
theorem PySem.Challenge.cw_evenlylaid_k64_whole_all_bars_of_a_ring_holds : PySem.Challenge.rw_evenlylaid_k64_whole_all_bars_of_a_ring.Holds := by
  w_on; o_law; k_head; (case hw => w_witness2)
  k_fill
  refine L2.walk_of (l := PySem.Challenge.rw_evenlylaid_k64_whole_all_bars_of_a_ring) (n := 63) (k := 6) (x := "script") (CX := fun _ => L2.CX0) (sp := fun w => DL.spLaw 63 _) rfl (by decide) rfl ⟨rfl, by decide, by decide⟩ (fun w h Y => PySem.W.kIn_of Y) ?F (fun _ _ a ns hl _ hS => ⟨a, ns, rfl, hS, hl, fun _ => rfl⟩) fun _ _ _ _ _ z => z
  case F =>
    intro w mg fa h KX G hmg
    refine G64.law_holds KX G ?T hmg G64.all_good
    refine' G64.tops_mk KX G ?a0 ?l0 ?c0 ?k0 ?a1 ?l1 ?c1 ?k1 ?a2 ?l2 ?c2 ?k2 ?a3 ?l3 ?c3 ?k3 ?a4 ?l4 ?c4 ?k4 ?a5 ?l5 ?c5 ?k5 ?a6 ?l6 ?c6 ?k6 ?a7 ?l7 ?c7 ?k7 ?a8 ?l8 ?c8 ?k8 ?a9 ?l9 ?c9 ?k9 ?a10 ?l10 ?c10 ?k10 ?a11 ?l11 ?c11 ?k11 ?a12 ?l12 ?c12 ?k12 ?a13 ?l13 ?c13 ?k13 ?a14 ?l14 ?c14 ?k14 ?a15 ?l15 ?c15 ?k15 ?a16 ?l16 ?c16 ?k16 ?a17 ?l17 ?c17 ?k17 ?a18 ?l18 ?c18 ?k18 ?a19 ?l19 ?c19 ?k19 ?a20 ?l20 ?c20 ?k20 ?a21 ?l21 ?c21 ?k21 ?a22 ?l22 ?c22 ?k22 ?a23 ?l23 ?c23 ?k23 ?a24 ?l24 ?c24 ?k24 ?a25 ?l25 ?c25 ?k25 ?a26 ?l26 ?c26 ?k26 ?a27 ?l27 ?c27 ?k27 ?a28 ?l28 ?c28 ?k28 ?z_abs ?z_all ?z_bool ?z_int ?z_isinstance ?z_len ?z_list ?z_max ?z_min ?z_range ?z_str ?z_tuple
    (case a0 => k_is)
    (case l0 => k_is)
    (case c0 => k_is)
    (case k0 => k_is)
    (case a1 => k_is)
    (case l1 => k_is)
    (case c1 => k_is)
    (case k1 => k_is)
    (case a2 => k_is)
    (case l2 => k_is)
    (case c2 => k_is)
    (case k2 => k_is)
    (case a3 => k_is)
    (case l3 => k_is)
    (case c3 => k_is)
    (case k3 => k_is)
    (case a4 => k_is)
    (case l4 => k_is)
    (case c4 => k_is)
    (case k4 => k_is)
    (case a5 => k_is)
    (case l5 => k_is)
    (case c5 => k_is)
    (case k5 => k_is)
    (case a6 => k_is)
    (case l6 => k_is)
    (case c6 => k_is)
    (case k6 => k_is)
    (case a7 => k_is)
    (case l7 => k_is)
    (case c7 => k_is)
    (case k7 => k_is)
    (case a8 => k_is)
    (case l8 => k_is)
    (case c8 => k_is)
    (case k8 => k_is)
    (case a9 => k_is)
    (case l9 => k_is)
    (case c9 => k_is)
    (case k9 => k_is)
    (case a10 => k_is)
    (case l10 => k_is)
    (case c10 => k_is)
    (case k10 => k_is)
    (case a11 => k_is)
    (case l11 => k_is)
    (case c11 => k_is)
    (case k11 => k_is)
    (case a12 => k_is)
    (case l12 => k_is)
    (case c12 => k_is)
    (case k12 => k_is)
    (case a13 => k_is)
    (case l13 => k_is)
    (case c13 => k_is)
    (case k13 => k_is)
    (case a14 => k_is)
    (case l14 => k_is)
    (case c14 => k_is)
    (case k14 => k_is)
    (case a15 => k_is)
    (case l15 => k_is)
    (case c15 => k_is)
    (case k15 => k_is)
    (case a16 => k_is)
    (case l16 => k_is)
    (case c16 => k_is)
    (case k16 => k_is)
    (case a17 => k_is)
    (case l17 => k_is)
    (case c17 => k_is)
    (case k17 => k_is)
    (case a18 => k_is)
    (case l18 => k_is)
    (case c18 => k_is)
    (case k18 => k_is)
    (case a19 => k_is)
    (case l19 => k_is)
    (case c19 => k_is)
    (case k19 => k_is)
    (case a20 => k_is)
    (case l20 => k_is)
    (case c20 => k_is)
    (case k20 => k_is)
    (case a21 => k_is)
    (case l21 => k_is)
    (case c21 => k_is)
    (case k21 => k_is)
    (case a22 => k_is)
    (case l22 => k_is)
    (case c22 => k_is)
    (case k22 => k_is)
    (case a23 => k_is)
    (case l23 => k_is)
    (case c23 => k_is)
    (case k23 => k_is)
    (case a24 => k_is)
    (case l24 => k_is)
    (case c24 => k_is)
    (case k24 => k_is)
    (case a25 => k_is)
    (case l25 => k_is)
    (case c25 => k_is)
    (case k25 => k_is)
    (case a26 => k_is)
    (case l26 => k_is)
    (case c26 => k_is)
    (case k26 => k_is)
    (case a27 => k_is)
    (case l27 => k_is)
    (case c27 => k_is)
    (case k27 => k_is)
    (case a28 => k_is)
    (case l28 => k_is)
    (case c28 => k_is)
    (case k28 => k_is)
    (case z_abs => k_is)
    (case z_all => k_is)
    (case z_bool => k_is)
    (case z_int => k_is)
    (case z_isinstance => k_is)
    (case z_len => k_is)
    (case z_list => k_is)
    (case z_max => k_is)
    (case z_min => k_is)
    (case z_range => k_is)
    (case z_str => k_is)
    (case z_tuple => k_is)

