import PyProof.Rows.All
import Wide.All
import OpenK.AllK
import Wide.FinOn
import HandS.ForMost
import HandS.IsInst
import HandS.Wide
import PyProof.ListStr
import PyProof.StrOps2
import HandS.RaiseMore
import PySem.Challenge.RW_wonbyturns_k01_words_judged
import PyProof.Rows.ReprOcc
set_option Elab.async false
set_option linter.all false
set_option maxRecDepth 100000
set_option maxHeartbeats 2000000
/-! Trees: a layer over the hand layer in which no heap is seen. -/
namespace WT
open PySem L2
abbrev S := L2.St

inductive Dt where
  | non | bl (b : Bool) | int (i : Int) | str (z : Str)
  | lst (ds : List Dt) | tup (ds : List Dt) | dct (ks : List Key) (ds : List Dt)
  | ins (C : Addr) (fs : List Str) (ds : List Dt)

mutual
def Dv (A : Addr → Prop) (H : Hp) : V → Dt → Prop
  | v, .non => v = .non
  | v, .bl b => v = .bl b
  | v, .int i => v = .int i
  | v, .str z => v = .str z
  | v, .lst ds => ∃ a xs, v = .ref a ∧ ¬ A a ∧ H a = some (.lst xs) ∧ DvL A H xs ds
  | v, .tup ds => ∃ a xs, v = .ref a ∧ ¬ A a ∧ H a = some (.tup xs) ∧ DvL A H xs ds
  | v, .dct ks ds => ∃ a ws, v = .ref a ∧ ¬ A a ∧ H a = some (.dK ws) ∧ ws.map (·.1) = ks ∧ DvL A H (ws.map (·.2)) ds
  | v, .ins C fs ds => ∃ a dx gs, v = .ref a ∧ ¬ A a ∧ H a = some (.ins C dx gs) ∧ gs.map (·.1) = fs ∧ DvL A H (gs.map (·.2)) ds
def DvL (A : Addr → Prop) (H : Hp) : List V → List Dt → Prop
  | [], [] => True
  | x :: xs, d :: ds => Dv A H x d ∧ DvL A H xs ds
  | _, _ => False
end

/-! ### dice: a list of three ints that a roll may change -/
def big600 : Int := 10 ^ 600
def IsDice (H : Hp) (m : Addr) : Prop := ∃ a b c : Int, H m = some (.lst [.int a, .int b, .int c]) ∧ 0 ≤ a ∧ a < big600 ∧ 0 ≤ b ∧ b < 2305843009213693613 ∧ 0 ≤ c

structure Ext (D : Addr → Prop) (H H' : Hp) : Prop where
  keep : ∀ a o, ¬ D a → H a = some o → H' a = some o
  dice : ∀ m, D m → IsDice H m → IsDice H' m
theorem Ext.refl {D : Addr → Prop} (H : Hp) : Ext D H H := ⟨fun _ _ _ h => h, fun _ _ h => h⟩
theorem Ext.trans {D : Addr → Prop} {H H1 H2 : Hp} (a : Ext D H H1) (b : Ext D H1 H2) : Ext D H H2 := ⟨fun x o n h => b.keep x o n (a.keep x o n h), fun m n h => b.dice m n (a.dice m n h)⟩
theorem Ext.new {D : Addr → Prop} {H : Hp} {p : Addr} {o : HO} (h : H p = none) : Ext D H (upd H p o) :=
  ⟨fun a u _ e => by rw [upd_ne (ne_of_none e h)]; exact e, fun m _ ⟨a, b, c, e, r⟩ => ⟨a, b, c, by rw [upd_ne (ne_of_none e h)]; exact e, r⟩⟩

theorem rd_imp {H H' : Hp} {a : Addr} {u : HO} (h : Rd H a u) (k : ∀ o, H a = some o → H' a = some o) : Rd H' a u := by
  rcases h with h | ⟨o, h⟩
  · exact .inl (k _ h)
  · exact .inr ⟨o, k _ h⟩
theorem rd_ne {H : Hp} {a p : Addr} {u : HO} (h : Rd H a u) (hp : H p = none) : a ≠ p := by
  rcases h with h | ⟨o, h⟩
  · exact ne_of_none h hp
  · exact ne_of_none h hp
theorem rd_some {H : Hp} {a : Addr} {u : HO} (h : Rd H a u) : ∃ o, H a = some o := by
  rcases h with h | ⟨o, h⟩
  · exact ⟨_, h⟩
  · exact ⟨_, h⟩

/-! ### a tree stands wherever its addresses stand -/
mutual
theorem Dv.to {A A' : Addr → Prop} {H H' : Hp} (k : ∀ a o, ¬ A a → H a = some o → H' a = some o ∧ ¬ A' a) : ∀ {d : Dt} {v : V}, Dv A H v d → Dv A' H' v d
  | .non, _, h => by unfold Dv at h ⊢; exact h
  | .bl _, _, h => by unfold Dv at h ⊢; exact h
  | .int _, _, h => by unfold Dv at h ⊢; exact h
  | .str _, _, h => by unfold Dv at h ⊢; exact h
  | .lst ds, v, h => by
    unfold Dv at h ⊢
    obtain ⟨a, xs, e, n, r, l⟩ := h
    exact ⟨a, xs, e, (k a _ n r).2, (k a _ n r).1, DvL.to k l⟩
  | .tup ds, v, h => by
    unfold Dv at h ⊢
    obtain ⟨a, xs, e, n, r, l⟩ := h
    exact ⟨a, xs, e, (k a _ n r).2, (k a _ n r).1, DvL.to k l⟩
  | .dct ks ds, v, h => by
    unfold Dv at h ⊢
    obtain ⟨a, ws, e, n, r, f, l⟩ := h
    exact ⟨a, ws, e, (k a _ n r).2, (k a _ n r).1, f, DvL.to k l⟩
  | .ins C fs ds, v, h => by
    unfold Dv at h ⊢
    obtain ⟨a, dx, gs, e, n, r, f, l⟩ := h
    exact ⟨a, dx, gs, e, (k a _ n r).2, (k a _ n r).1, f, DvL.to k l⟩
theorem DvL.to {A A' : Addr → Prop} {H H' : Hp} (k : ∀ a o, ¬ A a → H a = some o → H' a = some o ∧ ¬ A' a) : ∀ {ds : List Dt} {xs : List V}, DvL A H xs ds → DvL A' H' xs ds
  | [], [], h => by unfold DvL; trivial
  | d :: ds, x :: xs, h => by
    unfold DvL at h ⊢
    exact ⟨Dv.to k h.1, DvL.to k h.2⟩
  | [], _ :: _, h => by unfold DvL at h; exact h.elim
  | _ :: _, [], h => by unfold DvL at h; exact h.elim
end
theorem Dv.weak {A A' : Addr → Prop} {H : Hp} {d : Dt} {v : V} (h : Dv A H v d) (k : ∀ a, A' a → A a) : Dv A' H v d := h.to fun a _ n e => ⟨e, fun z => n (k a z)⟩
theorem DvL.weak {A A' : Addr → Prop} {H : Hp} {ds : List Dt} {xs : List V} (h : DvL A H xs ds) (k : ∀ a, A' a → A a) : DvL A' H xs ds := h.to fun a _ n e => ⟨e, fun z => n (k a z)⟩
theorem DvL.len {A : Addr → Prop} {H : Hp} : ∀ {ds : List Dt} {xs : List V}, DvL A H xs ds → xs.length = ds.length
  | [], [], _ => rfl
  | _ :: _, _ :: _, h => by
    unfold DvL at h
    rw [List.length_cons, List.length_cons, DvL.len h.2]
  | [], _ :: _, h => by unfold DvL at h; exact h.elim
  | _ :: _, [], h => by unfold DvL at h; exact h.elim
theorem DvL.get {A : Addr → Prop} {H : Hp} : ∀ {ds : List Dt} {xs : List V} {i : Nat} {d : Dt}, DvL A H xs ds → ds[i]? = some d → ∃ x, xs[i]? = some x ∧ Dv A H x d
  | _ :: _, _ :: _, 0, _, h, e => by
    unfold DvL at h
    cases e
    exact ⟨_, rfl, h.1⟩
  | _ :: _, _ :: _, i + 1, _, h, e => by
    unfold DvL at h
    exact DvL.get (i := i) h.2 e
  | [], _, _, _, _, e => by simp at e
  | _ :: _, [], _, _, h, _ => by unfold DvL at h; exact h.elim
theorem DvL.getV {A : Addr → Prop} {H : Hp} : ∀ {ds : List Dt} {xs : List V} {i : Nat} {x : V}, DvL A H xs ds → xs[i]? = some x → ∃ d, ds[i]? = some d ∧ Dv A H x d
  | _ :: _, _ :: _, 0, _, h, e => by
    unfold DvL at h
    cases e
    exact ⟨_, rfl, h.1⟩
  | _ :: _, _ :: _, i + 1, _, h, e => by
    unfold DvL at h
    exact DvL.getV (i := i) h.2 e
  | _, [], _, _, _, e => by simp at e
  | [], _ :: _, _, _, h, _ => by unfold DvL at h; exact h.elim
theorem DvL.app {A : Addr → Prop} {H : Hp} : ∀ {ds es : List Dt} {xs ys : List V}, DvL A H xs ds → DvL A H ys es → DvL A H (xs ++ ys) (ds ++ es)
  | [], _, [], _, _, h => h
  | _ :: _, _, _ :: _, _, h, h' => by
    unfold DvL at h
    show DvL A H (_ :: (_ ++ _)) (_ :: (_ ++ _))
    unfold DvL
    exact ⟨h.1, DvL.app h.2 h'⟩
  | [], _, _ :: _, _, h, _ => by unfold DvL at h; exact h.elim
  | _ :: _, _, [], _, h, _ => by unfold DvL at h; exact h.elim
theorem DvL.nil {A : Addr → Prop} {H : Hp} : DvL A H [] [] := by unfold DvL; trivial
theorem DvL.cons {A : Addr → Prop} {H : Hp} {d : Dt} {ds : List Dt} {x : V} {xs : List V} (h : Dv A H x d) (t : DvL A H xs ds) : DvL A H (x :: xs) (d :: ds) := by unfold DvL; exact ⟨h, t⟩
theorem DvL.set {A : Addr → Prop} {H : Hp} {d : Dt} {x : V} (hx : Dv A H x d) : ∀ {ds : List Dt} {xs : List V} (i : Nat), DvL A H xs ds → DvL A H (xs.set i x) (ds.set i d)
  | [], [], _, _ => by unfold DvL; trivial
  | _ :: _, _ :: _, 0, h => by
    unfold DvL at h
    exact .cons hx h.2
  | _ :: _, _ :: _, i + 1, h => by
    unfold DvL at h
    exact .cons h.1 (DvL.set hx i h.2)
  | [], _ :: _, _, h => by unfold DvL at h; exact h.elim
  | _ :: _, [], _, h => by unfold DvL at h; exact h.elim
theorem Dv.int {A : Addr → Prop} {H : Hp} {i : Int} : Dv A H (.int i) (.int i) := by unfold Dv; rfl
theorem Dv.bl {A : Addr → Prop} {H : Hp} {i : Bool} : Dv A H (.bl i) (.bl i) := by unfold Dv; rfl
theorem Dv.str {A : Addr → Prop} {H : Hp} {i : Str} : Dv A H (.str i) (.str i) := by unfold Dv; rfl
theorem Dv.non {A : Addr → Prop} {H : Hp} : Dv A H .non .non := by unfold Dv; rfl
theorem Dv.ints {A : Addr → Prop} {H : Hp} {i : Int} {v : V} (h : Dv A H v (.int i)) : v = .int i := by unfold Dv at h; exact h
theorem Dv.bls {A : Addr → Prop} {H : Hp} {i : Bool} {v : V} (h : Dv A H v (.bl i)) : v = .bl i := by unfold Dv at h; exact h
theorem Dv.strs {A : Addr → Prop} {H : Hp} {i : Str} {v : V} (h : Dv A H v (.str i)) : v = .str i := by unfold Dv at h; exact h
theorem Dv.nons {A : Addr → Prop} {H : Hp} {v : V} (h : Dv A H v .non) : v = .non := by unfold Dv at h; exact h
theorem Dv.lsts {A : Addr → Prop} {H : Hp} {ds : List Dt} {v : V} (h : Dv A H v (.lst ds)) : ∃ a xs, v = .ref a ∧ ¬ A a ∧ H a = some (.lst xs) ∧ DvL A H xs ds := by unfold Dv at h; exact h
theorem Dv.tups {A : Addr → Prop} {H : Hp} {ds : List Dt} {v : V} (h : Dv A H v (.tup ds)) : ∃ a xs, v = .ref a ∧ ¬ A a ∧ H a = some (.tup xs) ∧ DvL A H xs ds := by unfold Dv at h; exact h
theorem Dv.dcts {A : Addr → Prop} {H : Hp} {ks : List Key} {ds : List Dt} {v : V} (h : Dv A H v (.dct ks ds)) : ∃ a ws, v = .ref a ∧ ¬ A a ∧ H a = some (.dK ws) ∧ ws.map (·.1) = ks ∧ DvL A H (ws.map (·.2)) ds := by unfold Dv at h; exact h
theorem Dv.lst {A : Addr → Prop} {H : Hp} {ds : List Dt} {a : Addr} {xs : List V} (n : ¬ A a) (r : H a = some (.lst xs)) (h : DvL A H xs ds) : Dv A H (.ref a) (.lst ds) := by unfold Dv; exact ⟨a, xs, rfl, n, r, h⟩
theorem Dv.tup {A : Addr → Prop} {H : Hp} {ds : List Dt} {a : Addr} {xs : List V} (n : ¬ A a) (r : H a = some (.tup xs)) (h : DvL A H xs ds) : Dv A H (.ref a) (.tup ds) := by unfold Dv; exact ⟨a, xs, rfl, n, r, h⟩
theorem Dv.dct {A : Addr → Prop} {H : Hp} {ks : List Key} {ds : List Dt} {a : Addr} {ws : List (Key × V)} (n : ¬ A a) (r : H a = some (.dK ws)) (e : ws.map (·.1) = ks) (h : DvL A H (ws.map (·.2)) ds) : Dv A H (.ref a) (.dct ks ds) := by unfold Dv; exact ⟨a, ws, rfl, n, r, e, h⟩

/-! ### what the slots hold -/
inductive Ent where
  | no | val (d : Dt) | own (ds : List Dt) | dice | scr (ns : List Int)

/-- the script: tracked apart, or written -/
def Scr (K : PySem.W.Frag) (A : Addr → Prop) (H : Hp) (v : V) (ns : List Int) : Prop := ∃ a, v = .ref a ∧ SqL K H a (ns.map V.int) ∧ ((Rd H a (.lst (ns.map V.int)) ∧ ¬ A a) ∨ ∀ H' : Hp, SqL K H' a (ns.map V.int))
theorem Scr.to {K : PySem.W.Frag} {A A' : Addr → Prop} {H H' : Hp} (k : ∀ a o, ¬ A a → H a = some o → H' a = some o ∧ ¬ A' a) {v : V} {ns : List Int} (h : Scr K A H v ns) : Scr K A' H' v ns := by
  obtain ⟨a, e, s, q⟩ := h
  rcases q with ⟨r, n⟩ | q
  · obtain ⟨o, ho⟩ := rd_some r
    have r' : Rd H' a (.lst (ns.map V.int)) := rd_imp r fun u hu => (k a u n hu).1
    exact ⟨a, e, .inl r', .inl ⟨r', (k a o n ho).2⟩⟩
  · exact ⟨a, e, q H', .inr q⟩

def Owned (σ : S) (ρ : List Ent) (a : Addr) : Prop := ∃ (i : Nat) (ds : List Dt), ρ[i]? = some (.own ds) ∧ σ[i]? = some (some (.ref a))
def Av (M : Addr → Prop) (σ : S) (ρ : List Ent) (a : Addr) : Prop := M a ∨ Owned σ ρ a

structure EnvOk (K : PySem.W.Frag) (D M : Addr → Prop) (H : Hp) (σ : S) (ρ : List Ent) : Prop where
  len : σ.length = ρ.length
  val : ∀ (i : Nat) (d : Dt), ρ[i]? = some (.val d) → ∃ v, σ[i]? = some (some v) ∧ Dv (Av M σ ρ) H v d
  own : ∀ (i : Nat) (ds : List Dt), ρ[i]? = some (.own ds) → ∃ p xs, σ[i]? = some (some (.ref p)) ∧ H p = some (.lst xs) ∧ DvL (Av M σ ρ) H xs ds ∧ ¬ M p
  dist : ∀ (i j : Nat) (ds es : List Dt) (p : Addr), ρ[i]? = some (.own ds) → ρ[j]? = some (.own es) → σ[i]? = some (some (.ref p)) → σ[j]? = some (some (.ref p)) → i = j
  dic : ∀ (i : Nat), ρ[i]? = some .dice → ∃ m, σ[i]? = some (some (.ref m)) ∧ D m
  scr : ∀ (i : Nat) (ns : List Int), ρ[i]? = some (.scr ns) → ∃ v, σ[i]? = some (some v) ∧ Scr K (Av M σ ρ) H v ns
  dm : ∀ m, D m → M m ∧ IsDice H m
  trk : ∀ a, M a → H a ≠ none

/-- from a state to a later one -/
structure Stp (D M : Addr → Prop) (σ : S) (ρ : List Ent) (H : Hp) (D' M' : Addr → Prop) (σ' : S) (ρ' : List Ent) (H' : Hp) : Prop where
  keep : ∀ a o, ¬ D a → ¬ Owned σ ρ a → H a = some o → H' a = some o
  dice : ∀ m, D m → IsDice H m ∧ IsDice H' m
  trk : ∀ a, H' a = none → H a = none
  own : ∀ a, Owned σ' ρ' a → Owned σ ρ a ∨ H a = none
  nD : ∀ a, D' a → D a ∨ H a = none
  nM : ∀ a, M' a → M a ∨ H a = none
  gD : ∀ a, D a → D' a
  gM : ∀ a, M a → M' a
theorem Stp.refl {D M : Addr → Prop} {σ : S} {ρ : List Ent} {H : Hp} (h : ∀ m, D m → IsDice H m) : Stp D M σ ρ H D M σ ρ H := ⟨fun _ _ _ _ h => h, fun m n => ⟨h m n, h m n⟩, fun _ h => h, fun _ h => .inl h, fun _ h => .inl h, fun _ h => .inl h, fun _ h => h, fun _ h => h⟩
theorem Stp.trans {D D1 D2 M M1 M2 : Addr → Prop} {σ σ1 σ2 : S} {ρ ρ1 ρ2 : List Ent} {H H1 H2 : Hp} (a : Stp D M σ ρ H D1 M1 σ1 ρ1 H1) (b : Stp D1 M1 σ1 ρ1 H1 D2 M2 σ2 ρ2 H2) : Stp D M σ ρ H D2 M2 σ2 ρ2 H2 := by
  refine ⟨fun x o n w h => ?_, fun m n => ⟨(a.dice m n).1, (b.dice m (a.gD m n)).2⟩, fun x h => a.trk x (b.trk x h), fun x h => ?_, fun x h => ?_, fun x h => ?_, fun x h => b.gD x (a.gD x h), fun x h => b.gM x (a.gM x h)⟩
  · have h1 := a.keep x o n w h
    refine b.keep x o (fun z => ?_) (fun z => ?_) h1
    · rcases a.nD x z with q | q
      · exact n q
      · rw [h] at q; cases q
    · rcases a.own x z with q | q
      · exact w q
      · rw [h] at q; cases q
  · rcases b.own x h with q | q
    · exact a.own x q
    · exact .inr (a.trk x q)
  · rcases b.nD x h with q | q
    · exact a.nD x q
    · exact .inr (a.trk x q)
  · rcases b.nM x h with q | q
    · exact a.nM x q
    · exact .inr (a.trk x q)
theorem Ext.trk {D : Addr → Prop} {H H' : Hp} (e : Ext D H H') (h : ∀ m, D m → IsDice H m) {a : Addr} (n : H' a = none) : H a = none := by
  cases q : H a with
  | none => rfl
  | some o =>
    by_cases z : D a
    · obtain ⟨_, _, _, r, _⟩ := e.dice a z (h a z)
      rw [r] at n; cases n
    · rw [e.keep a o z q] at n; cases n
theorem Ext.stp {D M : Addr → Prop} {σ : S} {ρ : List Ent} {H H' : Hp} (e : Ext D H H') (h : ∀ m, D m → IsDice H m) : Stp D M σ ρ H D M σ ρ H' :=
  ⟨fun a o n _ q => e.keep a o n q, fun m n => ⟨h m n, e.dice m n (h m n)⟩, fun _ q => e.trk h q, fun _ q => .inl q, fun _ q => .inl q, fun _ q => .inl q, fun _ q => q, fun _ q => q⟩
theorem Stp.k {D M D' M' : Addr → Prop} {σ σ' : S} {ρ ρ' : List Ent} {H H' : Hp} (s : Stp D M σ ρ H D' M' σ' ρ' H') (dm : ∀ m, D m → M m) (a : Addr) (o : HO) (n : ¬ Av M σ ρ a) (e : H a = some o) : H' a = some o ∧ ¬ Av M' σ' ρ' a :=
  ⟨s.keep a o (fun z => n (.inl (dm a z))) (fun z => n (.inr z)) e, fun z => by
    rcases z with z | z
    · rcases s.nM a z with q | q
      · exact n (.inl q)
      · rw [e] at q; cases q
    · rcases s.own a z with q | q
      · exact n (.inr q)
      · rw [e] at q; cases q⟩
/-- a tree ahead is a tree behind -/
theorem Stp.dv {D M D' M' : Addr → Prop} {σ σ' : S} {ρ ρ' : List Ent} {H H' : Hp} (s : Stp D M σ ρ H D' M' σ' ρ' H') (dm : ∀ m, D m → M m) {v : V} {d : Dt} (h : Dv (Av M σ ρ) H v d) : Dv (Av M' σ' ρ') H' v d := h.to (s.k dm)
theorem Stp.dvL {D M D' M' : Addr → Prop} {σ σ' : S} {ρ ρ' : List Ent} {H H' : Hp} (s : Stp D M σ ρ H D' M' σ' ρ' H') (dm : ∀ m, D m → M m) {v : List V} {d : List Dt} (h : DvL (Av M σ ρ) H v d) : DvL (Av M' σ' ρ') H' v d := h.to (s.k dm)
theorem Ext.dv {D A : Addr → Prop} {H H' : Hp} (e : Ext D H H') (dm : ∀ m, D m → A m) {v : V} {d : Dt} (h : Dv A H v d) : Dv A H' v d := h.to fun a o n q => ⟨e.keep a o (fun z => n (dm a z)) q, n⟩
theorem Ext.dvL {D A : Addr → Prop} {H H' : Hp} (e : Ext D H H') (dm : ∀ m, D m → A m) {v : List V} {d : List Dt} (h : DvL A H v d) : DvL A H' v d := h.to fun a o n q => ⟨e.keep a o (fun z => n (dm a z)) q, n⟩

theorem EnvOk.dmA {K : PySem.W.Frag} {D M : Addr → Prop} {H : Hp} {σ : S} {ρ : List Ent} (k : EnvOk K D M H σ ρ) : ∀ m, D m → Av M σ ρ m := fun m h => .inl (k.dm m h).1
theorem EnvOk.dd {K : PySem.W.Frag} {D M : Addr → Prop} {H : Hp} {σ : S} {ρ : List Ent} (k : EnvOk K D M H σ ρ) : ∀ m, D m → IsDice H m := fun m h => (k.dm m h).2
/-- an owned address stands in the heap -/
theorem EnvOk.owned {K : PySem.W.Frag} {D M : Addr → Prop} {H : Hp} {σ : S} {ρ : List Ent} (k : EnvOk K D M H σ ρ) {a : Addr} (h : Owned σ ρ a) : (∃ xs, H a = some (.lst xs)) ∧ ¬ M a ∧ ¬ D a := by
  obtain ⟨i, ds, h1, h2⟩ := h
  obtain ⟨p, xs, e, r, _, n⟩ := k.own i ds h1
  rw [h2] at e
  cases e
  exact ⟨⟨xs, r⟩, n, fun z => n (k.dm _ z).1⟩
theorem EnvOk.avs {K : PySem.W.Frag} {D M : Addr → Prop} {H : Hp} {σ : S} {ρ : List Ent} (k : EnvOk K D M H σ ρ) {a : Addr} (h : Av M σ ρ a) : H a ≠ none := by
  rcases h with h | h
  · exact k.trk a h
  · obtain ⟨⟨xs, e⟩, _⟩ := k.owned h
    rw [e]
    exact fun z => nomatch z
/-- the slots stay, the heap goes on -/
theorem EnvOk.ext {K : PySem.W.Frag} {D M : Addr → Prop} {H H' : Hp} {σ : S} {ρ : List Ent} (k : EnvOk K D M H σ ρ) (e : Ext D H H') : EnvOk K D M H' σ ρ := by
  refine ⟨k.len, fun i d h => ?_, fun i ds h => ?_, k.dist, k.dic, fun i ns h => ?_, fun m h => ⟨(k.dm m h).1, e.dice m h (k.dm m h).2⟩, fun a h => ?_⟩
  · obtain ⟨v, h1, h2⟩ := k.val i d h
    exact ⟨v, h1, e.dv k.dmA h2⟩
  · obtain ⟨p, xs, h1, h2, h3, h4⟩ := k.own i ds h
    exact ⟨p, xs, h1, e.keep _ _ (fun z => h4 (k.dm _ z).1) h2, e.dvL k.dmA h3, h4⟩
  · obtain ⟨v, h1, h2⟩ := k.scr i ns h
    exact ⟨v, h1, h2.to fun a o n q => ⟨e.keep a o (fun z => n (k.dmA a z)) q, n⟩⟩
  · by_cases z : D a
    · obtain ⟨_, _, _, q, _⟩ := e.dice a z (k.dm a z).2
      rw [q]
      exact fun z => nomatch z
    · cases q : H a with
      | none => exact absurd q (k.trk a h)
      | some o =>
        rw [e.keep a o z q]
        exact fun z => nomatch z
theorem getElem?_set_some {α : Type} {l : List α} {i j : Nat} {x y : α} (h : (l.set i x)[j]? = some y) : (i = j ∧ y = x ∧ i < l.length) ∨ (i ≠ j ∧ l[j]? = some y) := by
  by_cases e : i = j
  · subst e
    by_cases z : i < l.length
    · rw [List.getElem?_set_self z] at h
      exact .inl ⟨rfl, (Option.some.inj h).symm, z⟩
    · rw [List.getElem?_eq_none (by simpa using z)] at h
      cases h
  · rw [List.getElem?_set_ne e] at h
    exact .inr ⟨e, h⟩
/-- owned after a slot has been overwritten by what owns nothing -/
theorem owned_set {σ : S} {ρ : List Ent} {i : Nat} {e : Ent} {x : Option V} {a : Addr} (hn : ∀ ds, e ≠ .own ds) (h : Owned (σ.set i x) (ρ.set i e) a) : Owned σ ρ a := by
  obtain ⟨j, ds, h1, h2⟩ := h
  rcases getElem?_set_some h1 with ⟨_, h, _⟩ | ⟨n, h1⟩
  · exact absurd h.symm (hn ds)
  · rw [List.getElem?_set_ne n] at h2
    exact ⟨j, ds, h1, h2⟩
theorem EnvOk.set {K : PySem.W.Frag} {D M : Addr → Prop} {H : Hp} {σ : S} {ρ : List Ent} (k : EnvOk K D M H σ ρ) (i : Nat) {v : V} {d : Dt} (h : Dv (Av M σ ρ) H v d) : EnvOk K D M H (σ.set i (some v)) (ρ.set i (.val d)) := by
  have av : ∀ a, Av M (σ.set i (some v)) (ρ.set i (.val d)) a → Av M σ ρ a := fun a z => z.elim .inl fun z => .inr (owned_set (e := .val d) (fun _ q => by cases q) z)
  refine ⟨by rw [List.length_set, List.length_set, k.len], fun j e hj => ?_, fun j ds hj => ?_, fun j l ds es p h1 h2 h3 h4 => ?_, fun j hj => ?_, fun j ns hj => ?_, k.dm, k.trk⟩
  · rcases getElem?_set_some hj with ⟨rfl, q, z⟩ | ⟨n, hj⟩
    · cases q
      exact ⟨v, by rw [List.getElem?_set_self (by rw [k.len]; exact z)], h.weak av⟩
    · obtain ⟨u, h1, h2⟩ := k.val j e hj
      exact ⟨u, by rw [List.getElem?_set_ne n]; exact h1, h2.weak av⟩
  · rcases getElem?_set_some hj with ⟨rfl, q, z⟩ | ⟨n, hj⟩
    · cases q
    · obtain ⟨p, xs, h1, h2, h3, h4⟩ := k.own j ds hj
      exact ⟨p, xs, by rw [List.getElem?_set_ne n]; exact h1, h2, h3.weak av, h4⟩
  · rcases getElem?_set_some h1 with ⟨_, q, _⟩ | ⟨n1, h1⟩
    · cases q
    · rcases getElem?_set_some h2 with ⟨_, q, _⟩ | ⟨n2, h2⟩
      · cases q
      · rw [List.getElem?_set_ne n1] at h3
        rw [List.getElem?_set_ne n2] at h4
        exact k.dist j l ds es p h1 h2 h3 h4
  · rcases getElem?_set_some hj with ⟨rfl, q, z⟩ | ⟨n, hj⟩
    · cases q
    · obtain ⟨m, h1, h2⟩ := k.dic j hj
      exact ⟨m, by rw [List.getElem?_set_ne n]; exact h1, h2⟩
  · rcases getElem?_set_some hj with ⟨rfl, q, z⟩ | ⟨n, hj⟩
    · cases q
    · obtain ⟨u, h1, h2⟩ := k.scr j ns hj
      exact ⟨u, by rw [List.getElem?_set_ne n]; exact h1, h2.to fun a _ n q => ⟨q, fun z => n (av a z)⟩⟩
theorem EnvOk.setNo {K : PySem.W.Frag} {D M : Addr → Prop} {H : Hp} {σ : S} {ρ : List Ent} (k : EnvOk K D M H σ ρ) (i : Nat) (x : Option V) : EnvOk K D M H (σ.set i x) (ρ.set i .no) := by
  have av : ∀ a, Av M (σ.set i x) (ρ.set i .no) a → Av M σ ρ a := fun a z => z.elim .inl fun z => .inr (owned_set (e := .no) (fun _ q => by cases q) z)
  refine ⟨by rw [List.length_set, List.length_set, k.len], fun j e hj => ?_, fun j ds hj => ?_, fun j l ds es p h1 h2 h3 h4 => ?_, fun j hj => ?_, fun j ns hj => ?_, k.dm, k.trk⟩
  · rcases getElem?_set_some hj with ⟨rfl, q, z⟩ | ⟨n, hj⟩
    · cases q
    · obtain ⟨u, h1, h2⟩ := k.val j e hj
      exact ⟨u, by rw [List.getElem?_set_ne n]; exact h1, h2.weak av⟩
  · rcases getElem?_set_some hj with ⟨rfl, q, z⟩ | ⟨n, hj⟩
    · cases q
    · obtain ⟨p, xs, h1, h2, h3, h4⟩ := k.own j ds hj
      exact ⟨p, xs, by rw [List.getElem?_set_ne n]; exact h1, h2, h3.weak av, h4⟩
  · rcases getElem?_set_some h1 with ⟨_, q, _⟩ | ⟨n1, h1⟩
    · cases q
    · rcases getElem?_set_some h2 with ⟨_, q, _⟩ | ⟨n2, h2⟩
      · cases q
      · rw [List.getElem?_set_ne n1] at h3
        rw [List.getElem?_set_ne n2] at h4
        exact k.dist j l ds es p h1 h2 h3 h4
  · rcases getElem?_set_some hj with ⟨rfl, q, z⟩ | ⟨n, hj⟩
    · cases q
    · obtain ⟨m, h1, h2⟩ := k.dic j hj
      exact ⟨m, by rw [List.getElem?_set_ne n]; exact h1, h2⟩
  · rcases getElem?_set_some hj with ⟨rfl, q, z⟩ | ⟨n, hj⟩
    · cases q
    · obtain ⟨u, h1, h2⟩ := k.scr j ns hj
      exact ⟨u, by rw [List.getElem?_set_ne n]; exact h1, h2.to fun a _ n q => ⟨q, fun z => n (av a z)⟩⟩
theorem Stp.set {D M : Addr → Prop} {σ : S} {ρ : List Ent} {H : Hp} (h : ∀ m, D m → IsDice H m) (i : Nat) {x : Option V} {e : Ent} (hn : ∀ ds, e ≠ .own ds) : Stp D M σ ρ H D M (σ.set i x) (ρ.set i e) H :=
  ⟨fun _ _ _ _ q => q, fun m n => ⟨h m n, h m n⟩, fun _ q => q, fun _ q => .inl (owned_set hn q), fun _ q => .inl q, fun _ q => .inl q, fun _ q => q, fun _ q => q⟩
/-- a slot takes a new list as its own -/
theorem EnvOk.setOwn {K : PySem.W.Frag} {D M : Addr → Prop} {H : Hp} {σ : S} {ρ : List Ent} (k : EnvOk K D M H σ ρ) (i : Nat) {p : Addr} {xs : List V} {ds : List Dt} (hp : H p = some (.lst xs)) (nm : ¬ Av M σ ρ p) (h : DvL (Av M σ ρ) H xs ds)
    (fr : ∀ (j : Nat) (d : Dt) (v : V), ρ[j]? = some (.val d) → σ[j]? = some (some v) → Dv (fun a => Av M σ ρ a ∨ a = p) H v d) (fo : ∀ (j : Nat) (es : List Dt) (q : Addr) (ys : List V), ρ[j]? = some (.own es) → σ[j]? = some (some (.ref q)) → H q = some (.lst ys) → DvL (fun a => Av M σ ρ a ∨ a = p) H ys es)
    (fx : DvL (fun a => Av M σ ρ a ∨ a = p) H xs ds) (fs : ∀ (j : Nat) (ns : List Int) (v : V), ρ[j]? = some (.scr ns) → σ[j]? = some (some v) → Scr K (fun a => Av M σ ρ a ∨ a = p) H v ns) : EnvOk K D M H (σ.set i (some (.ref p))) (ρ.set i (.own ds)) := by
  have av : ∀ a, Av M (σ.set i (some (.ref p))) (ρ.set i (.own ds)) a → Av M σ ρ a ∨ a = p := fun a z => by
    rcases z with z | ⟨j, es, h1, h2⟩
    · exact .inl (.inl z)
    · rcases getElem?_set_some h1 with ⟨rfl, _, z⟩ | ⟨n, h1⟩
      · rw [List.getElem?_set_self (by rw [k.len]; exact z)] at h2
        cases h2
        exact .inr rfl
      · rw [List.getElem?_set_ne n] at h2
        exact .inl (.inr ⟨j, es, h1, h2⟩)
  refine ⟨by rw [List.length_set, List.length_set, k.len], fun j e hj => ?_, fun j es hj => ?_, fun j l es fs' q h1 h2 h3 h4 => ?_, fun j hj => ?_, fun j ns hj => ?_, k.dm, k.trk⟩
  · rcases getElem?_set_some hj with ⟨rfl, q, z⟩ | ⟨n, hj⟩
    · cases q
    · obtain ⟨u, h1, h2⟩ := k.val j e hj
      exact ⟨u, by rw [List.getElem?_set_ne n]; exact h1, (fr j e u hj h1).weak av⟩
  · rcases getElem?_set_some hj with ⟨rfl, q, z⟩ | ⟨n, hj⟩
    · cases q
      exact ⟨p, xs, by rw [List.getElem?_set_self (by rw [k.len]; exact z)], hp, fx.weak av, fun z => nm (.inl z)⟩
    · obtain ⟨q, ys, h1, h2, h3, h4⟩ := k.own j es hj
      exact ⟨q, ys, by rw [List.getElem?_set_ne n]; exact h1, h2, (fo j es q ys hj h1 h2).weak av, h4⟩
  · rcases getElem?_set_some h1 with ⟨rfl, _, z⟩ | ⟨n1, h1⟩
    · rw [List.getElem?_set_self (by rw [k.len]; exact z)] at h3
      cases h3
      rcases getElem?_set_some h2 with ⟨rfl, _, z⟩ | ⟨n2, h2⟩
      · rfl
      · rw [List.getElem?_set_ne n2] at h4
        exact absurd (.inr ⟨l, fs', h2, h4⟩) nm
    · rw [List.getElem?_set_ne n1] at h3
      rcases getElem?_set_some h2 with ⟨rfl, _, z⟩ | ⟨n2, h2⟩
      · rw [List.getElem?_set_self (by rw [k.len]; exact z)] at h4
        cases h4
        exact absurd (.inr ⟨j, es, h1, h3⟩) nm
      · rw [List.getElem?_set_ne n2] at h4
        exact k.dist j l es fs' q h1 h2 h3 h4
  · rcases getElem?_set_some hj with ⟨rfl, q, z⟩ | ⟨n, hj⟩
    · cases q
    · obtain ⟨m, h1, h2⟩ := k.dic j hj
      exact ⟨m, by rw [List.getElem?_set_ne n]; exact h1, h2⟩
  · rcases getElem?_set_some hj with ⟨rfl, q, z⟩ | ⟨n, hj⟩
    · cases q
    · obtain ⟨u, h1, h2⟩ := k.scr j ns hj
      exact ⟨u, by rw [List.getElem?_set_ne n]; exact h1, (fs j ns u hj h1).to fun a _ n q => ⟨q, fun z => n (av a z)⟩⟩
/-- a new list, made by what went on, becomes a slot's own -/
theorem EnvOk.ownNew {K : PySem.W.Frag} {D M : Addr → Prop} {H H2 : Hp} {σ : S} {ρ : List Ent} (k : EnvOk K D M H σ ρ) (e : Ext D H H2) (i : Nat) {p : Addr} {xs : List V} {ds : List Dt} (hn : H p = none) (hp : H2 p = some (.lst xs)) (h : DvL (fun a => Av M σ ρ a ∨ a = p) H2 xs ds) :
    EnvOk K D M H2 (σ.set i (some (.ref p))) (ρ.set i (.own ds)) := by
  have k2 := k.ext e
  have to : ∀ a o, ¬ Av M σ ρ a → H a = some o → H2 a = some o ∧ ¬ (Av M σ ρ a ∨ a = p) := fun a o n q => ⟨e.keep a o (fun z => n (k.dmA a z)) q, fun z => z.elim n fun z => by rw [z, hn] at q; cases q⟩
  refine k2.setOwn i hp (fun z => k.avs z hn) (h.weak fun _ z => .inl z) (fun j d v h1 h2 => ?_) (fun j es q ys h1 h2 h3 => ?_) h (fun j ns v h1 h2 => ?_)
  · obtain ⟨u, h3, h4⟩ := k.val j d h1
    rw [h2] at h3
    cases h3
    exact h4.to to
  · obtain ⟨p', xs', h4, h5, h6, h7⟩ := k.own j es h1
    rw [h2] at h4
    cases h4
    have h8 := e.keep _ _ (fun z => h7 (k.dm _ z).1) h5
    rw [h3] at h8
    cases h8
    exact h6.to to
  · obtain ⟨u, h3, h4⟩ := k.scr j ns h1
    rw [h2] at h3
    cases h3
    exact h4.to to
theorem Stp.ownNew {D M : Addr → Prop} {H H2 : Hp} {σ : S} {ρ : List Ent} (e : Ext D H H2) (h : ∀ m, D m → IsDice H m) (i : Nat) {p : Addr} {ds : List Dt} (hn : H p = none) : Stp D M σ ρ H D M (σ.set i (some (.ref p))) (ρ.set i (.own ds)) H2 := by
  have s := e.stp (M := M) (σ := σ) (ρ := ρ) h
  refine ⟨s.keep, s.dice, s.trk, fun a z => ?_, s.nD, s.nM, s.gD, s.gM⟩
  obtain ⟨j, es, h1, h2⟩ := z
  rcases getElem?_set_some h1 with ⟨rfl, _, z⟩ | ⟨n, h1⟩
  · rcases getElem?_set_some h2 with ⟨_, q, _⟩ | ⟨n, _⟩
    · cases q
      exact .inr hn
    · exact absurd rfl n
  · rw [List.getElem?_set_ne n] at h2
    exact .inl ⟨j, es, h1, h2⟩
/-- an owned list changes -/
theorem EnvOk.mut {K : PySem.W.Frag} {D M : Addr → Prop} {H : Hp} {σ : S} {ρ : List Ent} (k : EnvOk K D M H σ ρ) (i : Nat) {p : Addr} {xs : List V} {ds es : List Dt} (hi : ρ[i]? = some (.own es)) (hs : σ[i]? = some (some (.ref p))) (h : DvL (Av M σ ρ) H xs ds) :
    EnvOk K D M (upd H p (.lst xs)) σ (ρ.set i (.own ds)) := by
  have op : Owned σ ρ p := ⟨i, es, hi, hs⟩
  have ow : ∀ a, Owned σ (ρ.set i (.own ds)) a → Owned σ ρ a := fun a ⟨j, fs, h1, h2⟩ => by
    rcases getElem?_set_some h1 with ⟨rfl, _, z⟩ | ⟨n, h1⟩
    · exact ⟨i, es, hi, h2⟩
    · exact ⟨j, fs, h1, h2⟩
  have to : ∀ a o, ¬ Av M σ ρ a → H a = some o → upd H p (.lst xs) a = some o ∧ ¬ Av M σ (ρ.set i (.own ds)) a := fun a o n q => ⟨by
    rw [upd_ne (show a ≠ p from fun z => n (.inr (by rw [z]; exact op)))]
    exact q, fun z => n (z.elim .inl fun z => .inr (ow a z))⟩
  have np : ¬ M p := (k.owned op).2.1
  refine ⟨by rw [List.length_set]; exact k.len, fun j d hj => ?_, fun j fs hj => ?_, fun j l fs gs q h1 h2 h3 h4 => ?_, fun j hj => ?_, fun j ns hj => ?_, fun m hm => ⟨(k.dm m hm).1, ?_⟩, fun a ha => ?_⟩
  · rcases getElem?_set_some hj with ⟨rfl, q, z⟩ | ⟨n, hj⟩
    · cases q
    · obtain ⟨u, h1, h2⟩ := k.val j d hj
      exact ⟨u, h1, h2.to to⟩
  · rcases getElem?_set_some hj with ⟨rfl, q, z⟩ | ⟨n, hj⟩
    · cases q
      exact ⟨p, xs, hs, upd_same, h.to to, np⟩
    · obtain ⟨q, ys, h1, h2, h3, h4⟩ := k.own j fs hj
      refine ⟨q, ys, h1, ?_, h3.to to, h4⟩
      rw [upd_ne (show q ≠ p from fun z => n (k.dist i j es fs p hi hj hs (by rw [← z]; exact h1)))]
      exact h2
  · have g : ∀ {j : Nat} {fs : List Dt}, (ρ.set i (.own ds))[j]? = some (.own fs) → ∃ gs, ρ[j]? = some (.own gs) := fun {j fs} hj => by
      rcases getElem?_set_some hj with ⟨rfl, q, z⟩ | ⟨n, hj⟩
      · exact ⟨es, hi⟩
      · exact ⟨fs, hj⟩
    obtain ⟨f1, g1⟩ := g h1
    obtain ⟨f2, g2⟩ := g h2
    exact k.dist j l f1 f2 q g1 g2 h3 h4
  · rcases getElem?_set_some hj with ⟨rfl, q, z⟩ | ⟨n, hj⟩
    · cases q
    · exact k.dic j hj
  · rcases getElem?_set_some hj with ⟨rfl, q, z⟩ | ⟨n, hj⟩
    · cases q
    · obtain ⟨u, h1, h2⟩ := k.scr j ns hj
      exact ⟨u, h1, h2.to to⟩
  · obtain ⟨x, y, z, h1, h2⟩ := (k.dm m hm).2
    exact ⟨x, y, z, by rw [upd_ne (show m ≠ p from fun z => np (by rw [← z]; exact (k.dm m hm).1))]; exact h1, h2⟩
  · rw [upd_ne (show a ≠ p from fun z => np (by rw [← z]; exact ha))]
    exact k.trk a ha
theorem Stp.mut {D M : Addr → Prop} {H : Hp} {σ : S} {ρ : List Ent} (h : ∀ m, D m → IsDice H m) (i : Nat) {p : Addr} {o : HO} {ds es : List Dt} (hi : ρ[i]? = some (.own es)) (hs : σ[i]? = some (some (.ref p))) (nd : ¬ D p) : Stp D M σ ρ H D M σ (ρ.set i (.own ds)) (upd H p o) := by
  have op : Owned σ ρ p := ⟨i, es, hi, hs⟩
  refine ⟨fun a u n w q => ?_, fun m n => ⟨h m n, ?_⟩, fun a q => ?_, fun a z => ?_, fun _ q => .inl q, fun _ q => .inl q, fun _ q => q, fun _ q => q⟩
  · rw [upd_ne (show a ≠ p from fun z => w (by rw [z]; exact op))]
    exact q
  · obtain ⟨x, y, z, h1, h2⟩ := h m n
    exact ⟨x, y, z, by rw [upd_ne (show m ≠ p from fun z => nd (by rw [← z]; exact n))]; exact h1, h2⟩
  · by_cases z : a = p
    · rw [z, upd_same] at q; cases q
    · rw [upd_ne z] at q
      exact q
  · obtain ⟨j, fs, h1, h2⟩ := z
    rcases getElem?_set_some h1 with ⟨rfl, _, z⟩ | ⟨n, h1⟩
    · exact .inl ⟨i, es, hi, h2⟩
    · exact .inl ⟨j, fs, h1, h2⟩
/-- an owned list is let go -/
theorem EnvOk.rel {K : PySem.W.Frag} {D M : Addr → Prop} {H : Hp} {σ : S} {ρ : List Ent} (k : EnvOk K D M H σ ρ) (i : Nat) {ds : List Dt} (hi : ρ[i]? = some (.own ds)) : EnvOk K D M H σ (ρ.set i (.val (.lst ds))) := by
  obtain ⟨p, xs, hs, hp, hx, np⟩ := k.own i ds hi
  have ow : ∀ a, Owned σ (ρ.set i (.val (.lst ds))) a → Owned σ ρ a ∧ a ≠ p := fun a ⟨j, fs, h1, h2⟩ => by
    rcases getElem?_set_some h1 with ⟨_, q, z⟩ | ⟨n, h1⟩
    · cases q
    · exact ⟨⟨j, fs, h1, h2⟩, fun z => n (k.dist i j ds fs p hi h1 hs (by rw [← z]; exact h2))⟩
  have av : ∀ a, Av M σ (ρ.set i (.val (.lst ds))) a → Av M σ ρ a := fun a z => z.elim .inl fun z => .inr (ow a z).1
  refine ⟨by rw [List.length_set]; exact k.len, fun j d hj => ?_, fun j fs hj => ?_, fun j l fs gs q h1 h2 h3 h4 => ?_, fun j hj => ?_, fun j ns hj => ?_, k.dm, k.trk⟩
  · rcases getElem?_set_some hj with ⟨rfl, q, z⟩ | ⟨n, hj⟩
    · cases q
      exact ⟨.ref p, hs, .lst (fun z => z.elim np fun z => (ow p z).2 rfl) hp (hx.weak av)⟩
    · obtain ⟨u, h1, h2⟩ := k.val j d hj
      exact ⟨u, h1, h2.weak av⟩
  · rcases getElem?_set_some hj with ⟨rfl, q, z⟩ | ⟨n, hj⟩
    · cases q
    · obtain ⟨q, ys, h1, h2, h3, h4⟩ := k.own j fs hj
      exact ⟨q, ys, h1, h2, h3.weak av, h4⟩
  · rcases getElem?_set_some h1 with ⟨_, q, _⟩ | ⟨n1, h1⟩
    · cases q
    · rcases getElem?_set_some h2 with ⟨_, q, _⟩ | ⟨n2, h2⟩
      · cases q
      · exact k.dist j l fs gs q h1 h2 h3 h4
  · rcases getElem?_set_some hj with ⟨rfl, q, z⟩ | ⟨n, hj⟩
    · cases q
    · exact k.dic j hj
  · rcases getElem?_set_some hj with ⟨rfl, q, z⟩ | ⟨n, hj⟩
    · cases q
    · obtain ⟨u, h1, h2⟩ := k.scr j ns hj
      exact ⟨u, h1, h2.to fun a _ n q => ⟨q, fun z => n (av a z)⟩⟩
theorem Stp.rel {D M : Addr → Prop} {H : Hp} {σ : S} {ρ : List Ent} (h : ∀ m, D m → IsDice H m) (i : Nat) {ds : List Dt} : Stp D M σ ρ H D M σ (ρ.set i (.val (.lst ds))) H :=
  ⟨fun _ _ _ _ q => q, fun m n => ⟨h m n, h m n⟩, fun _ q => q, fun a ⟨j, fs, h1, h2⟩ => by
    rcases getElem?_set_some h1 with ⟨_, q, _⟩ | ⟨n, h1⟩
    · cases q
    · exact .inl ⟨j, fs, h1, h2⟩, fun _ q => .inl q, fun _ q => .inl q, fun _ q => q, fun _ q => q⟩
end WT
namespace WT
open PySem L2

/-! ### plain arguments -/
def noStar : Expr → Bool
  | .Starred _ _ => false
  | _ => true
theorem star_ne {e : Expr} {es : List Expr} {env : Env} (h : noStar e = true) : starEach (e :: es) env = (false, eval e env) :: starEach es env := by
  cases e <;> first | rfl | (cases h)
theorem star_two {e f : Expr} {env : Env} (h : noStar e = true) (h2 : noStar f = true) : starEach [e, f] env = [(false, eval e env), (false, eval f env)] := by
  rw [star_ne h, star_ne h2]
  rfl
theorem star_any {env : Env} {pos : Pos} : ∀ {es : List Expr}, es.all noStar = true → (backTo pos (starEach es env)).any (·.1) = false
  | [], _ => rfl
  | e :: es, h => by
    rw [List.all_cons, Bool.and_eq_true] at h
    rw [star_ne h.1]
    show (false || (backTo pos (starEach es env)).any (·.1)) = false
    rw [star_any h.2]
    rfl
/-! ### what the machine does, as a reading -/
def tSem (X : Cx) (e : Expr) : TE := fun σ H Q => ∀ (pins : List (Addr × Obj)) (s : Shared), Inv X pins σ H s → wpAny (model X.prog X.w) X.A (eval e X.env) (EP X pins σ Q) X.xe s
def tSemT (X : Cx) (e : Expr) : TT := fun σ H Q => ∀ (pins : List (Addr × Obj)) (s : Shared), Inv X pins σ H s → wpAny (model X.prog X.w) X.A (isTrue e X.env (eval e X.env)) (TP X pins σ Q) X.xe s
def tSemW (X : Cx) (e : Expr) : TT := fun σ H Q => ∀ (whole : Sem Value) (pins : List (Addr × Obj)) (s : Shared), Inv X pins σ H s → wpAny (model X.prog X.w) X.A (isTrue e X.env whole) (TP X pins σ Q) X.xe s
def tSemA (X : Cx) (es : List Expr) : TA := fun σ H Q => ∀ (pos : Pos) (pins : List (Addr × Obj)) (s : Shared), Inv X pins σ H s → wpAny (model X.prog X.w) X.A (spliced (backTo pos (starEach es X.env))) (AP X pins σ Q) X.xe s
def tSemS (X : Cx) (st : Stmt) : TS := fun E σ H => ∀ (pins : List (Addr × Obj)) (s : Shared), Inv X pins σ H s → wpAny (model X.prog X.w) X.A (exec st X.env) (SP X pins E) X.xe s
def tSemB (X : Cx) (sts : List Stmt) : TS := fun E σ H => ∀ (pins : List (Addr × Obj)) (s : Shared), Inv X pins σ H s → wpAny (model X.prog X.w) X.A (execs sts X.env) (SP X pins E) X.xe s
section
variable {X : Cx} {e : Expr} {es : List Expr} {st : Stmt} {sts : List Stmt} {σ : S} {H : Hp}
theorem pe_sem : PE X e (tSem X e) := ⟨fun pins s _ _ _ I h => h pins s I⟩
theorem pt_sem : PT X e (tSemT X e) := ⟨fun pins s _ _ _ I h => h pins s I⟩
theorem pw_sem : PW X e (tSemW X e) := ⟨fun w pins s _ _ _ I h => h w pins s I⟩
theorem pa_sem : PA X es (tSemA X es) := ⟨fun pos pins s _ _ _ I h => h pos pins s I⟩
theorem ps_sem : PS X st (tSemS X st) := ⟨fun pins s _ _ _ I h => h pins s I⟩
theorem pb_sem : PSs X sts (tSemB X sts) := ⟨fun pins s _ _ _ I h => h pins s I⟩
theorem of_pe {t : TE} {Q : VK} (h : PE X e t) (q : t σ H Q) : tSem X e σ H Q := fun pins s I => h.run pins s σ H Q I q
theorem of_pt {t : TT} {Q : Bool → Hp → Prop} (h : PT X e t) (q : t σ H Q) : tSemT X e σ H Q := fun pins s I => h.run pins s σ H Q I q
theorem of_pw {t : TT} {Q : Bool → Hp → Prop} (h : PW X e t) (q : t σ H Q) : tSemW X e σ H Q := fun w pins s I => h.run w pins s σ H Q I q
theorem of_pa {t : TA} {Q : List V → Hp → Prop} (h : PA X es t) (q : t σ H Q) : tSemA X es σ H Q := fun pos pins s I => h.run pos pins s σ H Q I q
theorem of_ps {t : TS} {E : Ends} (h : PS X st t) (q : t E σ H) : tSemS X st E σ H := fun pins s I => h.run pins s σ H E I q
theorem of_pb {t : TS} {E : Ends} (h : PSs X sts t) (q : t E σ H) : tSemB X sts E σ H := fun pins s I => h.run pins s σ H E I q
end

/-! ### the judgements -/
/-- a value whose top may be owned -/
def Dw (D A : Addr → Prop) (H : Hp) (v : V) : Dt → Prop
  | .lst ds => ∃ a xs, v = .ref a ∧ ¬ D a ∧ H a = some (.lst xs) ∧ DvL A H xs ds
  | d => Dv A H v d
theorem Dv.w {D A : Addr → Prop} {H : Hp} {v : V} {d : Dt} (dm : ∀ m, D m → A m) (h : Dv A H v d) : Dw D A H v d := by
  cases d with
  | lst ds =>
    obtain ⟨a, xs, e, n, r, l⟩ := h.lsts
    exact ⟨a, xs, e, fun z => n (dm a z), r, l⟩
  | _ => exact h
theorem Dw.ints {D A : Addr → Prop} {H : Hp} {v : V} {i : Int} (h : Dw D A H v (.int i)) : v = .int i := Dv.ints (A := A) (H := H) h
theorem Dw.bls {D A : Addr → Prop} {H : Hp} {v : V} {i : Bool} (h : Dw D A H v (.bl i)) : v = .bl i := Dv.bls (A := A) (H := H) h
theorem Dw.strs {D A : Addr → Prop} {H : Hp} {v : V} {i : Str} (h : Dw D A H v (.str i)) : v = .str i := Dv.strs (A := A) (H := H) h
theorem Dw.nons {D A : Addr → Prop} {H : Hp} {v : V} (h : Dw D A H v .non) : v = .non := Dv.nons (A := A) (H := H) h
theorem Dw.tups {D A : Addr → Prop} {H : Hp} {v : V} {ds : List Dt} (h : Dw D A H v (.tup ds)) : ∃ a xs, v = .ref a ∧ ¬ A a ∧ H a = some (.tup xs) ∧ DvL A H xs ds := Dv.tups (A := A) (H := H) h
theorem Dw.dcts {D A : Addr → Prop} {H : Hp} {v : V} {ks : List Key} {ds : List Dt} (h : Dw D A H v (.dct ks ds)) : ∃ a ws, v = .ref a ∧ ¬ A a ∧ H a = some (.dK ws) ∧ ws.map (·.1) = ks ∧ DvL A H (ws.map (·.2)) ds := Dv.dcts (A := A) (H := H) h
theorem Dw.lsts {D A : Addr → Prop} {H : Hp} {v : V} {ds : List Dt} (h : Dw D A H v (.lst ds)) : ∃ a xs, v = .ref a ∧ ¬ D a ∧ H a = some (.lst xs) ∧ DvL A H xs ds := h
theorem Ext.dw {D A : Addr → Prop} {H H' : Hp} (e : Ext D H H') (dm : ∀ m, D m → A m) {v : V} {d : Dt} (h : Dw D A H v d) : Dw D A H' v d := by
  cases d with
  | lst ds =>
    obtain ⟨a, xs, e1, n, r, l⟩ := h
    exact ⟨a, xs, e1, n, e.keep a _ n r, e.dvL dm l⟩
  | non => exact e.dv dm (d := .non) h
  | bl b => exact e.dv dm (d := .bl b) h
  | int i => exact e.dv dm (d := .int i) h
  | str z => exact e.dv dm (d := .str z) h
  | tup ds => exact e.dv dm (d := .tup ds) h
  | dct ks ds => exact e.dv dm (d := .dct ks ds) h
  | ins C fs ds => exact e.dv dm (d := .ins C fs ds) h
def DwL (D A : Addr → Prop) (H : Hp) : List V → List Dt → Prop
  | [], [] => True
  | x :: xs, d :: ds => Dw D A H x d ∧ DwL D A H xs ds
  | _, _ => False
theorem Ext.dwL {D A : Addr → Prop} {H H' : Hp} (e : Ext D H H') (dm : ∀ m, D m → A m) : ∀ {vs : List V} {ds : List Dt}, DwL D A H vs ds → DwL D A H' vs ds
  | [], [], _ => trivial
  | _ :: _, _ :: _, h => ⟨e.dw dm h.1, Ext.dwL e dm h.2⟩
  | [], _ :: _, h => h.elim
  | _ :: _, [], h => h.elim

structure DE (X : Cx) (e : Expr) (ρ : List Ent) (P : Dt → Prop) : Prop where
  run : ∀ (D M : Addr → Prop) (σ : S) (H : Hp), EnvOk X.K D M H σ ρ → ∀ Q : VK, (∀ v d H2, Ext D H H2 → Dv (Av M σ ρ) H2 v d → P d → Q v H2) → tSem X e σ H Q
structure DW (X : Cx) (e : Expr) (ρ : List Ent) (P : Dt → Prop) : Prop where
  run : ∀ (D M : Addr → Prop) (σ : S) (H : Hp), EnvOk X.K D M H σ ρ → ∀ Q : VK, (∀ v d H2, Ext D H H2 → Dw D (Av M σ ρ) H2 v d → P d → Q v H2) → tSem X e σ H Q
/-- a new list -/
structure DN (X : Cx) (e : Expr) (ρ : List Ent) (P : List Dt → Prop) : Prop where
  run : ∀ (D M : Addr → Prop) (σ : S) (H : Hp), EnvOk X.K D M H σ ρ → ∀ Q : VK,
  (∀ p xs ds H2, Ext D H H2 → H p = none → H2 p = some (.lst xs) → DvL (fun a => Av M σ ρ a ∨ a = p) H2 xs ds → P ds → Q (.ref p) H2) → tSem X e σ H Q
structure DT (X : Cx) (e : Expr) (ρ : List Ent) (P : Bool → Prop) : Prop where
  run : ∀ (D M : Addr → Prop) (σ : S) (H : Hp), EnvOk X.K D M H σ ρ → ∀ Q : Bool → Hp → Prop, (∀ b H2, Ext D H H2 → P b → Q b H2) → tSemT X e σ H Q
structure DWt (X : Cx) (e : Expr) (ρ : List Ent) (P : Bool → Prop) : Prop where
  run : ∀ (D M : Addr → Prop) (σ : S) (H : Hp), EnvOk X.K D M H σ ρ → ∀ Q : Bool → Hp → Prop, (∀ b H2, Ext D H H2 → P b → Q b H2) → tSemW X e σ H Q
structure DL (X : Cx) (es : List Expr) (ρ : List Ent) (P : List Dt → Prop) : Prop where
  run : ∀ (D M : Addr → Prop) (σ : S) (H : Hp), EnvOk X.K D M H σ ρ → ∀ Q : List V → Hp → Prop, (∀ vs ds H2, Ext D H H2 → DwL D (Av M σ ρ) H2 vs ds → P ds → Q vs H2) → tSemA X es σ H Q
/-- strong values: items of a new object -/
structure DI (X : Cx) (es : List Expr) (ρ : List Ent) (P : List Dt → Prop) : Prop where
  run : ∀ (D M : Addr → Prop) (σ : S) (H : Hp), EnvOk X.K D M H σ ρ → ∀ Q : List V → Hp → Prop, (∀ vs ds H2, Ext D H H2 → DvL (Av M σ ρ) H2 vs ds → P ds → Q vs H2) → tSemA X es σ H Q

/-- an operation on two values; a call on values -/
def RD (r : R2) (d1 d2 : Dt) (P : Dt → Prop) : Prop := ∀ (D A : Addr → Prop) (H : Hp), (∀ m, D m → A m) → (∀ a, A a → H a ≠ none) → ∀ v1 v2, Dw D A H v1 d1 → Dw D A H v2 d2 → ∀ Q : VK, (∀ v d H2, Ext D H H2 → Dv A H2 v d → P d → Q v H2) → r v1 v2 H Q
def RDN (r : R2) (d1 d2 : Dt) (P : List Dt → Prop) : Prop := ∀ (D A : Addr → Prop) (H : Hp), (∀ m, D m → A m) → (∀ a, A a → H a ≠ none) → ∀ v1 v2, Dw D A H v1 d1 → Dw D A H v2 d2 → ∀ Q : VK,
  (∀ p xs ds H2, Ext D H H2 → H p = none → H2 p = some (.lst xs) → DvL (fun a => A a ∨ a = p) H2 xs ds → P ds → Q (.ref p) H2) → r v1 v2 H Q
def RDU (r : V → Hp → VK → Prop) (d1 : Dt) (P : Dt → Prop) : Prop := ∀ (D A : Addr → Prop) (H : Hp), (∀ m, D m → A m) → (∀ a, A a → H a ≠ none) → ∀ v1, Dw D A H v1 d1 → ∀ Q : VK, (∀ v d H2, Ext D H H2 → Dv A H2 v d → P d → Q v H2) → r v1 H Q
def RDC (r : List V → Hp → VK → Prop) (ds : List Dt) (P : Dt → Prop) : Prop := ∀ (D A : Addr → Prop) (H : Hp), (∀ m, D m → A m) → (∀ a, A a → H a ≠ none) → ∀ vs, DwL D A H vs ds → ∀ Q : VK, (∀ v d H2, Ext D H H2 → Dv A H2 v d → P d → Q v H2) → r vs H Q
def RDCN (r : List V → Hp → VK → Prop) (ds : List Dt) (P : List Dt → Prop) : Prop := ∀ (D A : Addr → Prop) (H : Hp), (∀ m, D m → A m) → (∀ a, A a → H a ≠ none) → ∀ vs, DwL D A H vs ds → ∀ Q : VK,
  (∀ p xs ds H2, Ext D H H2 → H p = none → H2 p = some (.lst xs) → DvL (fun a => A a ∨ a = p) H2 xs ds → P ds → Q (.ref p) H2) → r vs H Q

section
variable {X : Cx} {e a b c : Expr} {es : List Expr} {ρ : List Ent} {P P1 P2 P3 : Dt → Prop} {pos p2 : Pos}
theorem DE.mono (h : DE X e ρ P) (k : ∀ d, P d → P1 d) : DE X e ρ P1 := .mk fun D M σ H ok Q q => h.run D M σ H ok Q fun v d H2 e2 hd hp => q v d H2 e2 hd (k d hp)
theorem DE.cast {d d' : Dt} (h : DE X e ρ (Eq d)) (q : d = d') : DE X e ρ (Eq d') := by rw [← q]; exact h
theorem DW.mono (h : DW X e ρ P) (k : ∀ d, P d → P1 d) : DW X e ρ P1 := .mk fun D M σ H ok Q q => h.run D M σ H ok Q fun v d H2 e2 hd hp => q v d H2 e2 hd (k d hp)
theorem DN.mono {P P1 : List Dt → Prop} (h : DN X e ρ P) (k : ∀ d, P d → P1 d) : DN X e ρ P1 := .mk fun D M σ H ok Q q => h.run D M σ H ok Q fun p xs d H2 e2 hp hx hd hP => q p xs d H2 e2 hp hx hd (k d hP)
theorem DT.mono {P P1 : Bool → Prop} (h : DT X e ρ P) (k : ∀ d, P d → P1 d) : DT X e ρ P1 := .mk fun D M σ H ok Q q => h.run D M σ H ok Q fun b H2 e2 hp => q b H2 e2 (k b hp)
theorem DE.w (h : DE X e ρ P) : DW X e ρ P := .mk fun D M σ H ok Q q => h.run D M σ H ok Q fun v d H2 e2 hd hp => q v d H2 e2 (hd.w ok.dmA) hp
theorem fresh_av {K : PySem.W.Frag} {D M : Addr → Prop} {H : Hp} {σ : S} {p : Addr} (ok : EnvOk K D M H σ ρ) (hp : H p = none) : ¬ Av M σ ρ p := fun z => ok.avs z hp
theorem DN.toE {P : List Dt → Prop} {P1 : Dt → Prop} (h : DN X e ρ P) (k : ∀ ds, P ds → P1 (.lst ds)) : DE X e ρ P1 := .mk fun D M σ H ok Q q => h.run D M σ H ok Q fun p xs ds H2 e2 hp hx hd hP =>
  q _ _ H2 e2 (.lst (fresh_av ok hp) hx (hd.weak fun _ z => .inl z)) (k ds hP)
/-- deterministic -/
theorem DN.de {ds : List Dt} (h : DN X e ρ (Eq ds)) : DE X e ρ (Eq (.lst ds)) := h.toE fun _ q => by rw [q]

theorem de_var {i : Nat} {x : Str} {d : Dt} (hi : ρ[i]? = some (.val d)) (hN : X.N[i]? = some x := by rfl) (hv : Vis X.env.scope x := by first | exact Or.inl rfl | exact Or.inr (Or.inl rfl) | exact Or.inr (Or.inr rfl)) (hd : (x == ("__debug__" : Str)) = false := by decide) (hcd : (x == ("__classdict__" : Str)) = false := by decide) :
    DE X (.Name x pos) ρ (Eq d) := .mk fun D M σ H ok Q q => by
  obtain ⟨v, h1, h2⟩ := ok.val i d hi
  exact of_pe (pe_var hN hv hd hcd) ⟨v, h1, q v d H (.refl H) h2 rfl⟩
theorem dw_own {i : Nat} {x : Str} {ds : List Dt} (hi : ρ[i]? = some (.own ds)) (hN : X.N[i]? = some x := by rfl) (hv : Vis X.env.scope x := by first | exact Or.inl rfl | exact Or.inr (Or.inl rfl) | exact Or.inr (Or.inr rfl)) (hd : (x == ("__debug__" : Str)) = false := by decide) (hcd : (x == ("__classdict__" : Str)) = false := by decide) :
    DW X (.Name x pos) ρ (Eq (.lst ds)) := .mk fun D M σ H ok Q q => by
  obtain ⟨p, xs, h1, h2, h3, h4⟩ := ok.own i ds hi
  exact of_pe (pe_var hN hv hd hcd) ⟨.ref p, h1, q _ (.lst ds) H (.refl H) ⟨p, xs, rfl, fun z => h4 (ok.dm _ z).1, h2, h3⟩ rfl⟩
theorem de_int {i : Int} {j : Nat} : DE X (.Constant (.int i) j pos) ρ (Eq (.int i)) := .mk fun D M σ H ok Q q => of_pe pe_int (q _ _ H (.refl H) .int rfl)
theorem de_bl {i : Bool} {j : Nat} : DE X (.Constant (.bool i) j pos) ρ (Eq (.bl i)) := .mk fun D M σ H ok Q q => of_pe pe_bl (q _ _ H (.refl H) .bl rfl)
theorem de_str {i : Str} {j : Nat} : DE X (.Constant (.str i) j pos) ρ (Eq (.str i)) := .mk fun D M σ H ok Q q => of_pe pe_str (q _ _ H (.refl H) .str rfl)
theorem de_non {j : Nat} : DE X (.Constant .none j pos) ρ (Eq .non) := .mk fun D M σ H ok Q q => of_pe pe_non (q _ _ H (.refl H) .non rfl)
/-- a module's constant -/
theorem de_gint {x : Str} {i : Int} {u : Value} (hm : X.mg x = some u) (r : RelV (.int i) u) (hg : Gl X x := by rfl) (hd : (x == ("__debug__" : Str)) = false := by decide) : DE X (.Name x pos) ρ (Eq (.int i)) := .mk fun D M σ H ok Q q => of_pe (pe_glob hg hm r hd) (q _ _ H (.refl H) .int rfl)
theorem de_gstr {x : Str} {i : Str} {u : Value} (hm : X.mg x = some u) (r : RelV (.str i) u) (hg : Gl X x := by rfl) (hd : (x == ("__debug__" : Str)) = false := by decide) : DE X (.Name x pos) ρ (Eq (.str i)) := .mk fun D M σ H ok Q q => of_pe (pe_glob hg hm r hd) (q _ _ H (.refl H) .str rfl)

/-- two operands, then an operation -/
theorem run2 {K : PySem.W.Frag} {r : R2} {D M : Addr → Prop} {σ : S} {H : Hp} {Q : VK} (hK : X.K = K) (ok : EnvOk K D M H σ ρ) (h1 : DW X a ρ P1) (h2 : DW X b ρ P2)
    (hr : ∀ H2, Ext D H H2 → ∀ v1 d1 v2 d2, Dw D (Av M σ ρ) H2 v1 d1 → Dw D (Av M σ ρ) H2 v2 d2 → P1 d1 → P2 d2 → r v1 v2 H2 Q) : tOp r (tSem X a) (tSem X b) σ H Q := by
  subst hK
  exact h1.run D M σ H ok _ fun v1 d1 H1 e1 hd1 p1 => h2.run D M σ H1 (ok.ext e1) _ fun v2 d2 H2 e2 hd2 p2 => hr H2 (e1.trans e2) v1 d1 v2 d2 (e2.dw ok.dmA hd1) hd2 p1 p2
theorem de_op2 {r : R2} (hp : PE X e (tOp r (tSem X a) (tSem X b))) (h1 : DW X a ρ P1) (h2 : DW X b ρ P2) (hr : ∀ d1 d2, P1 d1 → P2 d2 → RD r d1 d2 P) : DE X e ρ P := .mk fun D M σ H ok Q q =>
  of_pe hp (run2 rfl ok h1 h2 fun H2 e2 v1 d1 v2 d2 w1 w2 p1 p2 => hr d1 d2 p1 p2 D (Av M σ ρ) H2 ok.dmA (fun a z => (ok.ext e2).avs z) v1 v2 w1 w2 Q fun v d H3 e3 hd hP => q v d H3 (e2.trans e3) hd hP)
theorem dn_op2 {r : R2} {P : List Dt → Prop} (hp : PE X e (tOp r (tSem X a) (tSem X b))) (h1 : DW X a ρ P1) (h2 : DW X b ρ P2) (hr : ∀ d1 d2, P1 d1 → P2 d2 → RDN r d1 d2 P) : DN X e ρ P := .mk fun D M σ H ok Q q =>
  of_pe hp (run2 rfl ok h1 h2 fun H2 e2 v1 d1 v2 d2 w1 w2 p1 p2 => hr d1 d2 p1 p2 D (Av M σ ρ) H2 ok.dmA (fun a z => (ok.ext e2).avs z) v1 v2 w1 w2 Q fun p xs ds H3 e3 hp hx hd hP => q p xs ds H3 (e2.trans e3) (by
    cases z : H p with
    | none => rfl
    | some o =>
      by_cases zd : D p
      · obtain ⟨_, _, _, z2, _⟩ := e2.dice p zd (ok.dd p zd)
        rw [z2] at hp; cases hp
      · rw [e2.keep p o zd z] at hp; cases hp) hx hd hP)
theorem Ext.back {K : PySem.W.Frag} {D M : Addr → Prop} {σ : S} {H H2 : Hp} {p : Addr} (e2 : Ext D H H2) (ok : EnvOk K D M H σ ρ) (hp : H2 p = none) : H p = none := by
  cases z : H p with
  | none => rfl
  | some o =>
    by_cases zd : D p
    · obtain ⟨_, _, _, z2, _⟩ := e2.dice p zd (ok.dd p zd)
      rw [z2] at hp; cases hp
    · rw [e2.keep p o zd z] at hp; cases hp
theorem dt_op2 {r : R2} {P : Bool → Prop} (hp : PT X e (tTest (tOp r (tSem X a) (tSem X b)))) (h1 : DW X a ρ P1) (h2 : DW X b ρ P2) (hr : ∀ d1 d2, P1 d1 → P2 d2 → RD r d1 d2 fun d => ∃ k, d = .bl k ∧ P k) : DT X e ρ P := .mk fun D M σ H ok Q q =>
  of_pt hp (run2 rfl ok h1 h2 fun H2 e2 v1 d1 v2 d2 w1 w2 p1 p2 => hr d1 d2 p1 p2 D (Av M σ ρ) H2 ok.dmA (fun a z => (ok.ext e2).avs z) v1 v2 w1 w2 _ fun v d H3 e3 hd ⟨k, hk, hP⟩ => by
    subst hk
    exact ⟨k, hd.bls, q k H3 (e2.trans e3) hP⟩)
/-- both given -/
theorem de_bin {op : Operator} {r : R2} {d1 d2 d : Dt} (ho : OpR X (binaryOp op) r) (h1 : DW X a ρ (Eq d1)) (h2 : DW X b ρ (Eq d2)) (hr : RD r d1 d2 (Eq d)) : DE X (.BinOp a op b pos) ρ (Eq d) :=
  de_op2 (pe_op ho pe_sem pe_sem) h1 h2 fun _ _ e1 e2 => by
    subst e1 e2
    exact hr
theorem dn_bin {op : Operator} {r : R2} {d1 d2 : Dt} {ds : List Dt} (ho : OpR X (binaryOp op) r) (h1 : DW X a ρ (Eq d1)) (h2 : DW X b ρ (Eq d2)) (hr : RDN r d1 d2 (Eq ds)) : DN X (.BinOp a op b pos) ρ (Eq ds) :=
  dn_op2 (pe_op ho pe_sem pe_sem) h1 h2 fun _ _ e1 e2 => by
    subst e1 e2
    exact hr
theorem de_cmp {op : CmpOp} {r : R2} {d1 d2 d : Dt} (ho : OpR X (compareOp op) r) (h1 : DW X a ρ (Eq d1)) (h2 : DW X b ρ (Eq d2)) (hr : RD r d1 d2 (Eq d)) (hm : behindInMarks op b = false := by first | exact nomark _ | rfl | with_unfolding_all rfl) : DE X (.Compare a [op] [b] pos) ρ (Eq d) :=
  de_op2 (pe_cmpR ho pe_sem pe_sem hm) h1 h2 fun _ _ e1 e2 => by
    subst e1 e2
    exact hr
theorem dt_cmp {op : CmpOp} {r : R2} {d1 d2 : Dt} {k : Bool} (ho : OpR X (compareOp op) r) (h1 : DW X a ρ (Eq d1)) (h2 : DW X b ρ (Eq d2)) (hr : RD r d1 d2 (Eq (.bl k))) (hm : behindInMarks op b = false := by first | exact nomark _ | rfl | with_unfolding_all rfl) : DT X (.Compare a [op] [b] pos) ρ (Eq k) :=
  dt_op2 (pt_cmpR ho pe_sem pe_sem hm) h1 h2 fun _ _ e1 e2 => by
    subst e1 e2
    exact fun D A H s t v1 v2 w1 w2 Q q => hr D A H s t v1 v2 w1 w2 Q fun v d H2 e hd hP => q v d H2 e hd ⟨k, hP.symm, rfl⟩
theorem rd_val {r : R2} {d1 d2 d : Dt} {P : Dt → Prop} (h : ∀ (D A : Addr → Prop) (H : Hp) v1 v2, Dw D A H v1 d1 → Dw D A H v2 d2 → ∀ Q : VK, (∀ v, Dv A H v d → Q v H) → r v1 v2 H Q) (hP : P d) : RD r d1 d2 P := fun D A H _ _ v1 v2 w1 w2 Q q => h D A H v1 v2 w1 w2 Q fun v hv => q v d H (.refl H) hv hP
theorem rd_I0 {g : Int → Int → V} {i j : Int} {d : Dt} (h : ∀ A H, Dv A H (g i j) d) : RD (rI0 g) (.int i) (.int j) (Eq d) := rd_val (fun D A H v1 v2 w1 w2 Q q => ⟨i, j, w1.ints, w2.ints, q _ (h A H)⟩) rfl
theorem rd_I {C : Int → Int → Prop} {g : Int → Int → V} {i j : Int} {d : Dt} (hc : C i j) (h : ∀ A H, Dv A H (g i j) d) : RD (rI C g) (.int i) (.int j) (Eq d) := rd_val (fun D A H v1 v2 w1 w2 Q q => ⟨i, j, w1.ints, w2.ints, hc, q _ (h A H)⟩) rfl

/-! ints -/
theorem de_add {i j : Int} (h1 : DE X a ρ (Eq (.int i))) (h2 : DE X b ρ (Eq (.int j))) : DE X (.BinOp a .Add b pos) ρ (Eq (.int (i + j))) := de_bin op_add h1.w h2.w (rd_I0 fun _ _ => .int)
theorem de_sub {i j : Int} (h1 : DE X a ρ (Eq (.int i))) (h2 : DE X b ρ (Eq (.int j))) : DE X (.BinOp a .Sub b pos) ρ (Eq (.int (i - j))) := de_bin op_sub h1.w h2.w (rd_I0 fun _ _ => .int)
theorem de_mul {i j : Int} (h1 : DE X a ρ (Eq (.int i))) (h2 : DE X b ρ (Eq (.int j))) (hc : CMul i j) : DE X (.BinOp a .Mult b pos) ρ (Eq (.int (i * j))) := de_bin op_mul h1.w h2.w (rd_I hc fun _ _ => .int)
theorem de_mulW {i j : Int} (h1 : DE X a ρ (Eq (.int i))) (h2 : DE X b ρ (Eq (.int j))) (hc : CMulW i j) : DE X (.BinOp a .Mult b pos) ρ (Eq (.int (i * j))) := de_bin op_mulW h1.w h2.w (rd_I hc fun _ _ => .int)
theorem de_div {i j : Int} (h1 : DE X a ρ (Eq (.int i))) (h2 : DE X b ρ (Eq (.int j))) (hc : CDivW i j) : DE X (.BinOp a .FloorDiv b pos) ρ (Eq (.int (i / j))) := de_bin op_fdivW h1.w h2.w (rd_I hc fun _ _ => .int)
theorem de_mod {i j : Int} (h1 : DE X a ρ (Eq (.int i))) (h2 : DE X b ρ (Eq (.int j))) (hc : 0 < j) : DE X (.BinOp a .Mod b pos) ρ (Eq (.int (i % j))) := de_bin op_mod h1.w h2.w (rd_I (C := fun _ j => 0 < j) hc fun _ _ => .int)
theorem de_neg {i : Int} (h1 : DE X a ρ (Eq (.int i))) : DE X (.UnaryOp .USub a pos) ρ (Eq (.int (-i))) := .mk fun D M σ H ok Q q => of_pe (pe_un un_neg pe_sem) (h1.run D M σ H ok _ fun v d H2 e2 hd hp => by
  subst hp
  exact ⟨i, hd.ints, q _ _ H2 e2 .int rfl⟩)
end
end WT
namespace WT
open PySem L2
/-- the built-in names are the built-in ones -/
structure Bl (mg : Str → Option Value) : Prop where
  len : mg "len" = none
  abs : mg "abs" = none
  int : mg "int" = none
  str : mg "str" = none
  bool : mg "bool" = none
  list : mg "list" = none
  tuple : mg "tuple" = none
  dict : mg "dict" = none
  set : mg "set" = none
  max : mg "max" = none
  min : mg "min" = none
  sum : mg "sum" = none
  all : mg "all" = none
  any : mg "any" = none
  range : mg "range" = none
  zip : mg "zip" = none
  sorted : mg "sorted" = none
  isinstance : mg "isinstance" = none
  repr : mg "repr" = none

section
variable {X : Cx} {e a b c : Expr} {es : List Expr} {ρ : List Ent} {P P1 P2 P3 : Dt → Prop} {pos p p2 : Pos}
/-! ### powers -/
def CPowW (i j : Int) : Prop := 2 ≤ i ∧ 1 ≤ j ∧ i.natAbs.log2 < 10000 ∧ j ≤ 1000
theorem op_powW : OpR X (binaryOp .Pow) (rI CPowW fun i j => .int (i ^ j.toNat)) := opI fun i j _ _ _ _ _ hc q => by
  obtain ⟨h1, h2, h3, h4⟩ := hc
  refine PySem.AutoIntOps.pow_4 (by omega) (by simp; omega) (by simp; omega) (by simp; omega) ?_ ?_
  · unfold Builtin.Int.intTooBig
    have hb : Builtin.Int.intBits i ≤ i.natAbs.log2 + 1 := by
      unfold Builtin.Int.intBits
      split <;> omega
    have e : bitsLine = 134217728 := by decide
    intro z
    have z := of_decide_eq_true z
    rw [e] at z
    have hm : ((Builtin.Int.intBits i : Nat) : Int) * j ≤ 10000 * 1000 := Int.mul_le_mul (by omega) h4 (by omega) (by omega)
    omega
  · exact q
theorem de_pow {i j : Int} (h1 : DE X a ρ (Eq (.int i))) (h2 : DE X b ρ (Eq (.int j))) (hc : CPowW i j) : DE X (.BinOp a .Pow b pos) ρ (Eq (.int (i ^ j.toNat))) := de_bin op_powW h1.w h2.w (rd_I hc fun _ _ => .int)
/-! ### comparisons of ints -/
theorem de_lt {i j : Int} (h1 : DE X a ρ (Eq (.int i))) (h2 : DE X b ρ (Eq (.int j))) : DE X (.Compare a [.Lt] [b] pos) ρ (Eq (.bl (decide (i < j)))) := de_cmp op_lt h1.w h2.w (rd_I0 fun _ _ => .bl)
theorem de_le {i j : Int} (h1 : DE X a ρ (Eq (.int i))) (h2 : DE X b ρ (Eq (.int j))) : DE X (.Compare a [.LtE] [b] pos) ρ (Eq (.bl (decide (i ≤ j)))) := de_cmp op_le h1.w h2.w (rd_I0 fun _ _ => .bl)
theorem de_gt {i j : Int} (h1 : DE X a ρ (Eq (.int i))) (h2 : DE X b ρ (Eq (.int j))) : DE X (.Compare a [.Gt] [b] pos) ρ (Eq (.bl (decide (j < i)))) := de_cmp op_gt h1.w h2.w (rd_I0 fun _ _ => .bl)
theorem de_ge {i j : Int} (h1 : DE X a ρ (Eq (.int i))) (h2 : DE X b ρ (Eq (.int j))) : DE X (.Compare a [.GtE] [b] pos) ρ (Eq (.bl (decide (j ≤ i)))) := de_cmp op_ge h1.w h2.w (rd_I0 fun _ _ => .bl)
theorem dt_lt {i j : Int} (h1 : DE X a ρ (Eq (.int i))) (h2 : DE X b ρ (Eq (.int j))) : DT X (.Compare a [.Lt] [b] pos) ρ (Eq (decide (i < j))) := dt_cmp op_lt h1.w h2.w (rd_I0 fun _ _ => .bl)
theorem dt_le {i j : Int} (h1 : DE X a ρ (Eq (.int i))) (h2 : DE X b ρ (Eq (.int j))) : DT X (.Compare a [.LtE] [b] pos) ρ (Eq (decide (i ≤ j))) := dt_cmp op_le h1.w h2.w (rd_I0 fun _ _ => .bl)
theorem dt_gt {i j : Int} (h1 : DE X a ρ (Eq (.int i))) (h2 : DE X b ρ (Eq (.int j))) : DT X (.Compare a [.Gt] [b] pos) ρ (Eq (decide (j < i))) := dt_cmp op_gt h1.w h2.w (rd_I0 fun _ _ => .bl)
theorem dt_ge {i j : Int} (h1 : DE X a ρ (Eq (.int i))) (h2 : DE X b ρ (Eq (.int j))) : DT X (.Compare a [.GtE] [b] pos) ρ (Eq (decide (j ≤ i))) := dt_cmp op_ge h1.w h2.w (rd_I0 fun _ _ => .bl)
/-! scalars, == and != -/
theorem rd_eqI {i j : Int} : RD rEq (.int i) (.int j) (Eq (.bl (decide (i = j)))) := rd_val (fun D A H v1 v2 w1 w2 Q q => by
  cases w1.ints
  cases w2.ints
  exact ⟨rfl, q _ (by rw [show decide (V.int i = V.int j) = decide (i = j) from by rw [dec_int]; rfl]; exact .bl)⟩) rfl
theorem rd_neI {i j : Int} : RD rNe (.int i) (.int j) (Eq (.bl (!decide (i = j)))) := rd_val (fun D A H v1 v2 w1 w2 Q q => by
  cases w1.ints
  cases w2.ints
  exact ⟨rfl, q _ (by rw [show decide (V.int i = V.int j) = decide (i = j) from by rw [dec_int]; rfl]; exact .bl)⟩) rfl
theorem dec_strD {i j : Str} : decide (V.str i = V.str j) = decide (i = j) := by
  by_cases h : i = j
  · rw [h, decide_eq_true rfl, decide_eq_true rfl]
  · rw [decide_eq_false h, decide_eq_false (fun z => h (V.str.inj z))]
theorem rd_eqS {i j : Str} : RD rEq (.str i) (.str j) (Eq (.bl (decide (i = j)))) := rd_val (fun D A H v1 v2 w1 w2 Q q => by
  cases w1.strs
  cases w2.strs
  exact ⟨rfl, q _ (by rw [dec_strD]; exact .bl)⟩) rfl
theorem rd_neS {i j : Str} : RD rNe (.str i) (.str j) (Eq (.bl (!decide (i = j)))) := rd_val (fun D A H v1 v2 w1 w2 Q q => by
  cases w1.strs
  cases w2.strs
  exact ⟨rfl, q _ (by rw [dec_strD]; exact .bl)⟩) rfl
theorem de_eqI {i j : Int} (h1 : DE X a ρ (Eq (.int i))) (h2 : DE X b ρ (Eq (.int j))) : DE X (.Compare a [.Eq] [b] pos) ρ (Eq (.bl (decide (i = j)))) := de_cmp op_eq h1.w h2.w rd_eqI
theorem de_neI {i j : Int} (h1 : DE X a ρ (Eq (.int i))) (h2 : DE X b ρ (Eq (.int j))) : DE X (.Compare a [.NotEq] [b] pos) ρ (Eq (.bl (!decide (i = j)))) := de_cmp op_ne h1.w h2.w rd_neI
theorem dt_eqI {i j : Int} (h1 : DE X a ρ (Eq (.int i))) (h2 : DE X b ρ (Eq (.int j))) : DT X (.Compare a [.Eq] [b] pos) ρ (Eq (decide (i = j))) := dt_cmp op_eq h1.w h2.w rd_eqI
theorem dt_neI {i j : Int} (h1 : DE X a ρ (Eq (.int i))) (h2 : DE X b ρ (Eq (.int j))) : DT X (.Compare a [.NotEq] [b] pos) ρ (Eq (!decide (i = j))) := dt_cmp op_ne h1.w h2.w rd_neI
theorem de_eqS {i j : Str} (h1 : DE X a ρ (Eq (.str i))) (h2 : DE X b ρ (Eq (.str j))) : DE X (.Compare a [.Eq] [b] pos) ρ (Eq (.bl (decide (i = j)))) := de_cmp op_eq h1.w h2.w rd_eqS
theorem dt_eqS {i j : Str} (h1 : DE X a ρ (Eq (.str i))) (h2 : DE X b ρ (Eq (.str j))) : DT X (.Compare a [.Eq] [b] pos) ρ (Eq (decide (i = j))) := dt_cmp op_eq h1.w h2.w rd_eqS
theorem dt_neS {i j : Str} (h1 : DE X a ρ (Eq (.str i))) (h2 : DE X b ρ (Eq (.str j))) : DT X (.Compare a [.NotEq] [b] pos) ρ (Eq (!decide (i = j))) := dt_cmp op_ne h1.w h2.w rd_neS
/-! ### a < b < c over ints -/
theorem run_chain {g g' : Int → Int → Bool} {i j k : Int} {D M : Addr → Prop} {σ : S} {H : Hp} (ok : EnvOk X.K D M H σ ρ) (h1 : DE X a ρ (Eq (.int i))) (h2 : DE X b ρ (Eq (.int j))) (h3 : DE X c ρ (Eq (.int k))) {Q : VK} (q : ∀ H2, Ext D H H2 → Q (.bl (g i j && g' j k)) H2) :
    tChain (rI0 fun i j => .bl (g i j)) (rI0 fun i j => .bl (g' i j)) (tSem X a) (tSem X b) (tSem X c) σ H Q := by
  refine h1.run D M σ H ok _ fun v1 d1 H1 e1 w1 p1 => h2.run D M σ H1 (ok.ext e1) _ fun v2 d2 H2 e2 w2 p2 => ?_
  subst p1 p2
  refine ⟨i, j, w1.ints, w2.ints, g i j, rfl, ?_⟩
  cases hg : g i j with
  | true =>
    rw [if_pos rfl]
    refine h3.run D M σ H2 ((ok.ext e1).ext e2) _ fun v3 d3 H3 e3 w3 p3 => ?_
    subst p3
    have z := q H3 ((e1.trans e2).trans e3)
    rw [hg, Bool.true_and] at z
    exact ⟨j, k, w2.ints, w3.ints, z⟩
  | false =>
    rw [if_neg Bool.false_ne_true]
    have z := q H2 (e1.trans e2)
    rw [hg, Bool.false_and] at z
    exact z
theorem de_chain {g g' : Int → Int → Bool} {op op' : CmpOp} {i j k : Int} (ho : OpR X (compareOp op) (rI0 fun i j => .bl (g i j))) (ho' : OpR X (compareOp op') (rI0 fun i j => .bl (g' i j))) (h1 : DE X a ρ (Eq (.int i))) (h2 : DE X b ρ (Eq (.int j))) (h3 : DE X c ρ (Eq (.int k)))
    (hm : lastMarks [op, op'] [b, c] = false := by with_unfolding_all rfl) : DE X (.Compare a [op, op'] [b, c] pos) ρ (Eq (.bl (g i j && g' j k))) := .mk fun D M σ H ok Q q =>
  of_pe (pe_chain ho ho' pe_sem pe_sem pe_sem hm) (run_chain ok h1 h2 h3 fun H2 e2 => q _ _ H2 e2 .bl rfl)
theorem dt_chain {g g' : Int → Int → Bool} {op op' : CmpOp} {i j k : Int} (ho : OpR X (compareOp op) (rI0 fun i j => .bl (g i j))) (ho' : OpR X (compareOp op') (rI0 fun i j => .bl (g' i j))) (h1 : DE X a ρ (Eq (.int i))) (h2 : DE X b ρ (Eq (.int j))) (h3 : DE X c ρ (Eq (.int k)))
    (hm : lastMarks [op, op'] [b, c] = false := by with_unfolding_all rfl) : DT X (.Compare a [op, op'] [b, c] pos) ρ (Eq (g i j && g' j k)) := .mk fun D M σ H ok Q q =>
  of_pt (pt_chain ho ho' pe_sem pe_sem pe_sem hm) (run_chain ok h1 h2 h3 fun H2 e2 => ⟨_, rfl, q _ H2 e2 rfl⟩)
/-! ### and, or, not, if -/
theorem dt_val {P : Bool → Prop} (h : DE X e ρ fun d => ∃ k, d = .bl k ∧ P k) (he : ∀ whole, isTrue e X.env whole = (do let v ← whole; standAt e.pos; holding [v] (truthy v)) := by intro _; rfl) : DT X e ρ P := .mk fun D M σ H ok Q q =>
  of_pt (pt_val pe_sem he) (h.run D M σ H ok _ fun v d H2 e2 hd ⟨k, hk, hP⟩ => by
    subst hk
    exact ⟨k, hd.bls, q k H2 e2 hP⟩)
theorem dt_valD {k : Bool} (h : DE X e ρ (Eq (.bl k))) (he : ∀ whole, isTrue e X.env whole = (do let v ← whole; standAt e.pos; holding [v] (truthy v)) := by intro _; rfl) : DT X e ρ (Eq k) := dt_val (h.mono fun _ q => ⟨k, q.symm, rfl⟩) he
theorem dt_not {k : Bool} (h : DT X a ρ (Eq k)) : DT X (.UnaryOp .Not a pos) ρ (Eq (!k)) := .mk fun D M σ H ok Q q => of_pt (pt_not pt_sem) (h.run D M σ H ok _ fun b H2 e2 hP => q _ H2 e2 (by rw [hP]))
theorem dt_notP {P : Bool → Prop} (h : DT X a ρ P) : DT X (.UnaryOp .Not a pos) ρ (fun k => P (!k)) := .mk fun D M σ H ok Q q => of_pt (pt_not pt_sem) (h.run D M σ H ok _ fun b H2 e2 hP => q _ H2 e2 (by show P (!!b); rw [Bool.not_not]; exact hP))
theorem de_not {k : Bool} (h : DE X a ρ (Eq (.bl k))) : DE X (.UnaryOp .Not a pos) ρ (Eq (.bl (!k))) := .mk fun D M σ H ok Q q => of_pe (pe_not pe_sem) (h.run D M σ H ok _ fun v d H2 e2 hd hP => by
  subst hP
  exact ⟨k, hd.bls, q _ _ H2 e2 .bl rfl⟩)
theorem DWt.t {P : Bool → Prop} (h : DWt X e ρ P) : DT X e ρ P := .mk fun D M σ H ok Q q pins s I => h.run D M σ H ok Q q _ pins s I
theorem dw_and1 {P : Bool → Prop} (h : DT X a ρ P) : DWt X (.BoolOp .And [a] pos) ρ P := .mk fun D M σ H ok Q q => of_pw (pw_and1 pt_sem) (h.run D M σ H ok Q q)
theorem dw_or1 {P : Bool → Prop} (h : DT X a ρ P) : DWt X (.BoolOp .Or [a] pos) ρ P := .mk fun D M σ H ok Q q => of_pw (pw_or1 pt_sem) (h.run D M σ H ok Q q)
theorem dw_and {k l : Bool} {rest : List Expr} (h : DT X a ρ (Eq k)) (h2 : k = true → DWt X (.BoolOp .And (b :: rest) pos) ρ (Eq l)) : DWt X (.BoolOp .And (a :: b :: rest) pos) ρ (Eq (k && l)) := .mk fun D M σ H ok Q q =>
  of_pw (pw_and pt_sem pw_sem) (h.run D M σ H ok _ fun c H2 e2 hP => by
    subst hP
    cases k with
    | true =>
      rw [if_pos rfl]
      exact (h2 rfl).run D M σ H2 (ok.ext e2) Q fun b H3 e3 hb => q b H3 (e2.trans e3) (by rw [← hb]; rfl)
    | false =>
      rw [if_neg Bool.false_ne_true]
      exact q false H2 e2 rfl)
theorem dw_or {k l : Bool} {rest : List Expr} (h : DT X a ρ (Eq k)) (h2 : k = false → DWt X (.BoolOp .Or (b :: rest) pos) ρ (Eq l)) : DWt X (.BoolOp .Or (a :: b :: rest) pos) ρ (Eq (k || l)) := .mk fun D M σ H ok Q q =>
  of_pw (pw_or pt_sem pw_sem) (h.run D M σ H ok _ fun c H2 e2 hP => by
    subst hP
    cases k with
    | false =>
      rw [if_neg Bool.false_ne_true]
      exact (h2 rfl).run D M σ H2 (ok.ext e2) Q fun b H3 e3 hb => q b H3 (e2.trans e3) (by rw [← hb]; rfl)
    | true =>
      rw [if_pos rfl]
      exact q true H2 e2 rfl)
theorem de_one {op : BoolOp} (h : DE X a ρ P) : DE X (.BoolOp op [a] pos) ρ P := .mk fun D M σ H ok Q q => of_pe (pe_one pe_sem) (h.run D M σ H ok Q q)
theorem de_and {k l : Bool} {rest : List Expr} (h : DE X a ρ (Eq (.bl k))) (h2 : k = true → DE X (.BoolOp .And (b :: rest) pos) ρ (Eq (.bl l))) : DE X (.BoolOp .And (a :: b :: rest) pos) ρ (Eq (.bl (k && l))) := .mk fun D M σ H ok Q q =>
  of_pe (pe_and pe_sem pe_sem) (h.run D M σ H ok _ fun v d H2 e2 hd hP => by
    subst hP
    refine ⟨k, hd.bls, ?_⟩
    cases k with
    | true =>
      rw [if_pos rfl]
      exact (h2 rfl).run D M σ H2 (ok.ext e2) Q fun b d H3 e3 hb hP => q b d H3 (e2.trans e3) hb (by rw [← hP]; rfl)
    | false =>
      rw [if_neg Bool.false_ne_true]
      exact q _ _ H2 e2 .bl rfl)
theorem de_or {k l : Bool} {rest : List Expr} (h : DE X a ρ (Eq (.bl k))) (h2 : k = false → DE X (.BoolOp .Or (b :: rest) pos) ρ (Eq (.bl l))) : DE X (.BoolOp .Or (a :: b :: rest) pos) ρ (Eq (.bl (k || l))) := .mk fun D M σ H ok Q q =>
  of_pe (pe_or pe_sem pe_sem) (h.run D M σ H ok _ fun v d H2 e2 hd hP => by
    subst hP
    refine ⟨k, hd.bls, ?_⟩
    cases k with
    | false =>
      rw [if_neg Bool.false_ne_true]
      exact (h2 rfl).run D M σ H2 (ok.ext e2) Q fun b d H3 e3 hb hP => q b d H3 (e2.trans e3) hb (by rw [← hP]; rfl)
    | true =>
      rw [if_pos rfl]
      exact q _ _ H2 e2 .bl rfl)
theorem de_if {k : Bool} (h : DT X c ρ (Eq k)) (h1 : k = true → DE X a ρ P) (h2 : k = false → DE X b ρ P) : DE X (.IfExp c a b pos) ρ P := .mk fun D M σ H ok Q q =>
  of_pe (pe_ifExp pt_sem pe_sem pe_sem) (h.run D M σ H ok _ fun x H2 e2 hP => by
    subst hP
    cases k with
    | true =>
      rw [if_pos rfl]
      exact (h1 rfl).run D M σ H2 (ok.ext e2) Q fun b d H3 e3 hb hP => q b d H3 (e2.trans e3) hb hP
    | false =>
      rw [if_neg Bool.false_ne_true]
      exact (h2 rfl).run D M σ H2 (ok.ext e2) Q fun b d H3 e3 hb hP => q b d H3 (e2.trans e3) hb hP)
theorem de_ifD {k : Bool} {d1 d2 : Dt} (h : DT X c ρ (Eq k)) (h1 : k = true → DE X a ρ (Eq d1)) (h2 : k = false → DE X b ρ (Eq d2)) : DE X (.IfExp c a b pos) ρ (Eq (if k = true then d1 else d2)) := de_if h (fun hk => (h1 hk).mono fun _ q => by rw [if_pos hk]; exact q) fun hk => (h2 hk).mono fun _ q => by rw [hk, if_neg Bool.false_ne_true]; exact q
/-! ### argument lists -/
theorem dl_nil : DL X [] ρ (Eq []) := .mk fun D M σ H ok Q q => of_pa pa_nil (q [] [] H (.refl H) trivial rfl)
theorem dl_consP {P1 : Dt → Prop} {P2 : List Dt → Prop} (h1 : DW X e ρ P1) (h2 : DL X es ρ P2) (hs : starEach (e :: es) X.env = (false, eval e X.env) :: starEach es X.env := by exact star_ne rfl) : DL X (e :: es) ρ (fun l => ∃ d ds, l = d :: ds ∧ P1 d ∧ P2 ds) := .mk fun D M σ H ok Q q =>
  of_pa (pa_cons pe_sem pa_sem hs) (h1.run D M σ H ok _ fun v d H1 e1 w p => h2.run D M σ H1 (ok.ext e1) _ fun vs ds H2 e2 ws ps => q (v :: vs) (d :: ds) H2 (e1.trans e2) ⟨e2.dw ok.dmA w, ws⟩ ⟨d, ds, rfl, p, ps⟩)
theorem dl_cons {d : Dt} {ds : List Dt} (h1 : DW X e ρ (Eq d)) (h2 : DL X es ρ (Eq ds)) (hs : starEach (e :: es) X.env = (false, eval e X.env) :: starEach es X.env := by exact star_ne rfl) : DL X (e :: es) ρ (Eq (d :: ds)) := .mk fun D M σ H ok Q q =>
  (dl_consP h1 h2 hs).run D M σ H ok Q fun vs l H2 e2 w ⟨d', ds', e', h1, h2⟩ => q vs l H2 e2 w (by rw [e', h1, h2])
theorem di_nil : DI X [] ρ (Eq []) := .mk fun D M σ H ok Q q => of_pa pa_nil (q [] [] H (.refl H) .nil rfl)
theorem di_consP {P1 : Dt → Prop} {P2 : List Dt → Prop} (h1 : DE X e ρ P1) (h2 : DI X es ρ P2) (hs : starEach (e :: es) X.env = (false, eval e X.env) :: starEach es X.env := by exact star_ne rfl) : DI X (e :: es) ρ (fun l => ∃ d ds, l = d :: ds ∧ P1 d ∧ P2 ds) := .mk fun D M σ H ok Q q =>
  of_pa (pa_cons pe_sem pa_sem hs) (h1.run D M σ H ok _ fun v d H1 e1 w p => h2.run D M σ H1 (ok.ext e1) _ fun vs ds H2 e2 ws ps => q (v :: vs) (d :: ds) H2 (e1.trans e2) (.cons (e2.dv ok.dmA w) ws) ⟨d, ds, rfl, p, ps⟩)
theorem di_cons {d : Dt} {ds : List Dt} (h1 : DE X e ρ (Eq d)) (h2 : DI X es ρ (Eq ds)) (hs : starEach (e :: es) X.env = (false, eval e X.env) :: starEach es X.env := by exact star_ne rfl) : DI X (e :: es) ρ (Eq (d :: ds)) := .mk fun D M σ H ok Q q =>
  (di_consP h1 h2 hs).run D M σ H ok Q fun vs l H2 e2 w ⟨d', ds', e', h1, h2⟩ => q vs l H2 e2 w (by rw [e', h1, h2])
theorem DI.mono {P P1 : List Dt → Prop} (h : DI X es ρ P) (k : ∀ d, P d → P1 d) : DI X es ρ P1 := .mk fun D M σ H ok Q q => h.run D M σ H ok Q fun v d H2 e2 hd hp => q v d H2 e2 hd (k d hp)
/-! ### displays -/
theorem small {n : Nat} (h : n ≤ 100000) : n ≤ sizeLine := Nat.le_trans h (by decide)
theorem fresh_dvL {A : Addr → Prop} {H : Hp} {q : Addr} {o : HO} {vs : List V} {ds : List Dt} (h : DvL A H vs ds) (hq : H q = none) : DvL (fun a => A a ∨ a = q) (upd H q o) vs ds := h.to fun a u n e => ⟨by rw [upd_ne (ne_of_none e hq)]; exact e, fun z => z.elim n fun z => by rw [z, hq] at e; cases e⟩
theorem dn_list {P : List Dt → Prop} (h : DI X es ρ P) (hl : ∀ ds, P ds → ds.length ≤ 100000) : DN X (.List es pos) ρ P := .mk fun D M σ H ok Q q =>
  of_pe (pe_lst pa_sem) (h.run D M σ H ok _ fun vs ds H2 e2 w hP => ⟨small (by rw [w.len]; exact hl ds hP), fun p hp => q p vs ds _ (e2.trans (.new hp)) (e2.back ok hp) upd_same (fresh_dvL w hp) hP⟩)
theorem dn_listD {ds : List Dt} (h : DI X es ρ (Eq ds)) (hl : ds.length ≤ 100000 := by decide) : DN X (.List es pos) ρ (Eq ds) := dn_list h fun _ q => by rw [← q]; exact hl
theorem de_tuple {P : List Dt → Prop} {n : Nat} (h : DI X es ρ P) (hl : ∀ ds, P ds → ds.length ≤ 100000) : DE X (.Tuple es n pos) ρ (fun d => ∃ ds, d = .tup ds ∧ P ds) := .mk fun D M σ H ok Q q =>
  of_pe (pe_tup pa_sem) (h.run D M σ H ok _ fun vs ds H2 e2 w hP => ⟨small (by rw [w.len]; exact hl ds hP), fun p hp => q (.ref p) (.tup ds) _ (e2.trans (.new hp)) (.tup (fun z => ok.avs z (e2.back ok hp)) upd_same ((fresh_dvL w hp).weak fun _ z => .inl z)) ⟨ds, rfl, hP⟩⟩)
theorem de_tupleD {ds : List Dt} {n : Nat} (h : DI X es ρ (Eq ds)) (hl : ds.length ≤ 100000 := by decide) : DE X (.Tuple es n pos) ρ (Eq (.tup ds)) := (de_tuple h fun _ q => by rw [← q]; exact hl).mono fun d ⟨ds', e, q⟩ => by rw [e, q]
theorem de_dict0 : DE X (.Dict [] [] pos) ρ (Eq (.dct [] [])) := .mk fun D M σ H ok Q q =>
  of_pe pe_dnewK fun p hp => q (.ref p) (.dct [] []) _ (.new hp) (.dct (fresh_av ok hp) upd_same rfl .nil) rfl
end
end WT
namespace WT
open PySem L2
/-! ### what is walked -/
def tSemI (X : Cx) (tg iter : Expr) : TI := fun σ H R => ∀ (pins : List (Addr × Obj)) (s : Shared), Inv X pins σ H s → wpAny (model X.prog X.w) X.A (eval iter X.env) (fun v s1 => wpAny (model X.prog X.w) X.A (pyIter v) (PIE X pins σ tg R) X.xe s1) X.xe s
def tSemG (X : Cx) (tg : Expr) : TG := fun v σ H Q => ∀ (pins : List (Addr × Obj)) (s : Shared) (u : Value), Inv X pins σ H s → RelV v u → wpAny (model X.prog X.w) X.A (assign tg X.env u) (fun _ s' => ∃ σ' H', Inv X pins σ' H' s' ∧ Q σ' H') X.xe s
def Nw (H H' : Hp) : Prop := H' = H ∨ ∃ p o, H p = none ∧ H' = upd H p o
def ItOk (A : Addr → Prop) (H0 : Hp) (J : It) (ds : List Dt) : Prop := ∀ (A' : Addr → Prop) (H' : Hp), (∀ a o, ¬ A a → H0 a = some o → H' a = some o ∧ ¬ A' a) → (∀ a, A' a → H' a ≠ none) →
  J.stop ds.length H' ∧ ∀ (i : Nat) (d : Dt), ds[i]? = some d → J.go i H' ∧ ∀ x H'', J.yld i H' x H'' → Nw H' H'' ∧ Dv A' H'' x d
structure DIt (X : Cx) (tg iter : Expr) (ρ : List Ent) (P : List Dt → Prop) : Prop where
  run : ∀ (D M : Addr → Prop) (σ : S) (H : Hp), EnvOk X.K D M H σ ρ → ∀ R : It → Hp → Prop, (∀ J ds H2, Ext D H H2 → ItOk (Av M σ ρ) H2 J ds → P ds → R J H2) → tSemI X tg iter σ H R
structure DG (X : Cx) (tg : Expr) (d : Dt) (ρ : List Ent) (N : List Ent → Prop) : Prop where
  run : ∀ (D M : Addr → Prop) (σ : S) (H : Hp) (v : V), EnvOk X.K D M H σ ρ → Dv (Av M σ ρ) H v d → ∀ Q : S → Hp → Prop,
  (∀ σ' ρ' H', EnvOk X.K D M H' σ' ρ' → Stp D M σ ρ H D M σ' ρ' H' → N ρ' → Q σ' H') → tSemG X tg v σ H Q
/-! ### statements -/
structure Out where
  N : List Ent → Prop := fun _ => False
  R : Dt → Prop := fun _ => False
  L : List Dt → Prop := fun _ => False
  B : List Ent → Prop := fun _ => False
  C : List Ent → Prop := fun _ => False
/-- what the ends must take -/
structure Ends_ (X : Cx) (D M : Addr → Prop) (σ : S) (H : Hp) (ρ : List Ent) (O : Out) (E : Ends) : Prop where
  nx : ∀ D' M' σ' H' ρ', EnvOk X.K D' M' H' σ' ρ' → Stp D M σ ρ H D' M' σ' ρ' H' → O.N ρ' → E.nx σ' H'
  rt : ∀ v d D' M' σ' H' ρ', Stp D M σ ρ H D' M' σ' ρ' H' → Dv M H' v d → O.R d → E.rt v H'
  ln : ∀ p xs ds D' M' σ' H' ρ', Stp D M σ ρ H D' M' σ' ρ' H' → H p = none → H' p = some (.lst xs) → DvL (fun a => M a ∨ a = p) H' xs ds → O.L ds → E.rt (.ref p) H'
  bk : ∀ D' M' σ' H' ρ', EnvOk X.K D' M' H' σ' ρ' → Stp D M σ ρ H D' M' σ' ρ' H' → O.B ρ' → E.bk σ' H'
  ct : ∀ D' M' σ' H' ρ', EnvOk X.K D' M' H' σ' ρ' → Stp D M σ ρ H D' M' σ' ρ' H' → O.C ρ' → E.ct σ' H'
structure DS (X : Cx) (st : Stmt) (ρ : List Ent) (O : Out) : Prop where
  run : ∀ (D M : Addr → Prop) (σ : S) (H : Hp), EnvOk X.K D M H σ ρ → ∀ E : Ends, Ends_ X D M σ H ρ O E → tSemS X st E σ H
structure DSs (X : Cx) (sts : List Stmt) (ρ : List Ent) (O : Out) : Prop where
  run : ∀ (D M : Addr → Prop) (σ : S) (H : Hp), EnvOk X.K D M H σ ρ → ∀ E : Ends, Ends_ X D M σ H ρ O E → tSemB X sts E σ H
/-- later ends -/
theorem Ends_.later {X : Cx} {D M D1 M1 : Addr → Prop} {σ σ1 : S} {H H1 : Hp} {ρ ρ1 : List Ent} {O : Out} {E : Ends} (k : Ends_ X D M σ H ρ O E) (s : Stp D M σ ρ H D1 M1 σ1 ρ1 H1) : Ends_ X D1 M1 σ1 H1 ρ1 O E :=
  ⟨fun D' M' σ' H' ρ' ok t n => k.nx D' M' σ' H' ρ' ok (s.trans t) n, fun v d D' M' σ' H' ρ' t hd r => k.rt v d D' M' σ' H' ρ' (s.trans t) (hd.weak s.gM) r,
    fun p xs ds D' M' σ' H' ρ' t hp hx hd r => k.ln p xs ds D' M' σ' H' ρ' (s.trans t) (s.trk p hp) hx (hd.weak fun a z => z.elim (fun z => .inl (s.gM a z)) .inr) r,
    fun D' M' σ' H' ρ' ok t n => k.bk D' M' σ' H' ρ' ok (s.trans t) n, fun D' M' σ' H' ρ' ok t n => k.ct D' M' σ' H' ρ' ok (s.trans t) n⟩
section
variable {X : Cx} {e a b c tg iter x y : Expr} {es : List Expr} {ρ : List Ent} {st : Stmt} {sts rest body : List Stmt} {O : Out} {N N1 : List Ent → Prop} {P : Dt → Prop} {pos p p2 : Pos}
theorem pi_sem : PI X tg iter (tSemI X tg iter) := ⟨fun pins s _ _ _ I h => h pins s I⟩
theorem pg_sem : PG X tg (tSemG X tg) := ⟨fun pins s _ _ _ u _ I r h => h pins s u I r⟩
theorem of_pi {w : TI} {σ : S} {H : Hp} {R : It → Hp → Prop} (h : PI X tg iter w) (q : w σ H R) : tSemI X tg iter σ H R := fun pins s I => h.run pins s σ H R I q
theorem of_pg {t : TG} {v : V} {σ : S} {H : Hp} {Q : S → Hp → Prop} (h : PG X tg t) (q : t v σ H Q) : tSemG X tg v σ H Q := fun pins s u I r => h.run pins s σ H v u Q I r q

theorem dss_nil : DSs X [] ρ { N := Eq ρ } := .mk fun D M σ H ok E k => of_pb pss_nil (k.nx D M σ H ρ ok (.refl ok.dd) rfl)
theorem dss_nilP (h : O.N ρ) : DSs X [] ρ O := .mk fun D M σ H ok E k => of_pb pss_nil (k.nx D M σ H ρ ok (.refl ok.dd) h)
theorem dss_cons (h1 : DS X st ρ { O with N := N1 }) (h2 : ∀ ρ', N1 ρ' → DSs X rest ρ' O) : DSs X (st :: rest) ρ O := .mk fun D M σ H ok E k =>
  of_pb (pss_cons ps_sem pb_sem) (h1.run D M σ H ok _ ⟨fun D' M' σ' H' ρ' ok' s n => (h2 ρ' n).run D' M' σ' H' ok' E (k.later s), k.rt, k.ln, k.bk, k.ct⟩)
theorem dss_one (h : DS X st ρ O) : DSs X [st] ρ O := dss_cons (N1 := O.N) h fun ρ' n => dss_nilP n
/-- the slots may be told anew -/
theorem dss_rel {i : Nat} {ds : List Dt} (hi : ρ[i]? = some (.own ds)) (h : DSs X sts (ρ.set i (.val (.lst ds))) O) : DSs X sts ρ O := .mk fun D M σ H ok E k => h.run D M σ H (ok.rel i hi) E (k.later (.rel ok.dd i))
theorem DSs.mono {O1 : Out} (h : DSs X sts ρ O1) (hN : ∀ r, O1.N r → O.N r) (hR : ∀ r, O1.R r → O.R r) (hL : ∀ r, O1.L r → O.L r) (hB : ∀ r, O1.B r → O.B r) (hC : ∀ r, O1.C r → O.C r) : DSs X sts ρ O := .mk fun D M σ H ok E k =>
  h.run D M σ H ok E ⟨fun D' M' σ' H' ρ' ok s n => k.nx D' M' σ' H' ρ' ok s (hN _ n), fun v d D' M' σ' H' ρ' s hd r => k.rt v d D' M' σ' H' ρ' s hd (hR _ r), fun p xs ds D' M' σ' H' ρ' s h1 h2 h3 r => k.ln p xs ds D' M' σ' H' ρ' s h1 h2 h3 (hL _ r),
    fun D' M' σ' H' ρ' ok s n => k.bk D' M' σ' H' ρ' ok s (hB _ n), fun D' M' σ' H' ρ' ok s n => k.ct D' M' σ' H' ρ' ok s (hC _ n)⟩

theorem ds_set {i : Nat} {z : Str} {pos' : Pos} (he : DE X e ρ P) (hO : ∀ d, P d → O.N (ρ.set i (.val d))) (hN : X.N.Nodup) (hi : X.N[i]? = some z := by rfl) (hx : Loc X.env.scope z := by first | exact .inl rfl | exact .inr rfl) (hs : swapsWith e (some (.Name z pos')) pos.line X.env = pure false := by rfl) (hf : X.fn z = true ∨ X.env.scope.names.lookup z = some .local := by first | exact .inl rfl | exact .inr rfl) :
    DS X (.Assign [.Name z pos'] e pos) ρ O := .mk fun D M σ H ok E k =>
  of_ps (ps_set hN hi hx pe_sem hs hf) (he.run D M σ H ok _ fun v d H2 e2 hd hP => k.nx D M _ H2 _ ((ok.ext e2).set i hd) ((e2.stp ok.dd).trans (.set (ok.ext e2).dd i fun _ q => by cases q)) (hO d hP))
theorem dss_set {i : Nat} {z : Str} {pos' : Pos} {d : Dt} (hN : X.N.Nodup) (he : DE X e ρ (Eq d)) (h : DSs X rest (ρ.set i (.val d)) O) (hi : X.N[i]? = some z := by rfl) (hx : Loc X.env.scope z := by first | exact .inl rfl | exact .inr rfl) (hs : swapsWith e (some (.Name z pos')) pos.line X.env = pure false := by rfl) (hf : X.fn z = true ∨ X.env.scope.names.lookup z = some .local := by first | exact .inl rfl | exact .inr rfl) :
    DSs X (.Assign [.Name z pos'] e pos :: rest) ρ O := dss_cons (N1 := Eq (ρ.set i (.val d))) (ds_set he (fun _ q => by rw [q]) hN hi hx hs hf) fun _ q => by
  subst q
  exact h
theorem dss_setP {i : Nat} {z : Str} {pos' : Pos} (hN : X.N.Nodup) (he : DE X e ρ P) (h : ∀ d, P d → DSs X rest (ρ.set i (.val d)) O) (hi : X.N[i]? = some z := by rfl) (hx : Loc X.env.scope z := by first | exact .inl rfl | exact .inr rfl) (hs : swapsWith e (some (.Name z pos')) pos.line X.env = pure false := by rfl) (hf : X.fn z = true ∨ X.env.scope.names.lookup z = some .local := by first | exact .inl rfl | exact .inr rfl) :
    DSs X (.Assign [.Name z pos'] e pos :: rest) ρ O := dss_cons (N1 := fun r => ∃ d, P d ∧ r = ρ.set i (.val d)) (ds_set he (fun d q => ⟨d, q, rfl⟩) hN hi hx hs hf) fun _ ⟨d, hd, q⟩ => by
  subst q
  exact h d hd
/-- a new list, the slot's own -/
theorem dss_own {i : Nat} {z : Str} {pos' : Pos} {P : List Dt → Prop} (hN : X.N.Nodup) (he : DN X e ρ P) (h : ∀ ds, P ds → DSs X rest (ρ.set i (.own ds)) O) (hi : X.N[i]? = some z := by rfl) (hx : Loc X.env.scope z := by first | exact .inl rfl | exact .inr rfl) (hs : swapsWith e (some (.Name z pos')) pos.line X.env = pure false := by rfl) (hf : X.fn z = true ∨ X.env.scope.names.lookup z = some .local := by first | exact .inl rfl | exact .inr rfl) :
    DSs X (.Assign [.Name z pos'] e pos :: rest) ρ O := dss_cons (N1 := fun r => ∃ ds, P ds ∧ r = ρ.set i (.own ds)) (.mk fun D M σ H ok E k =>
  of_ps (ps_set hN hi hx pe_sem hs hf) (he.run D M σ H ok _ fun p xs ds H2 e2 hp hx' hd hP => k.nx D M _ H2 _ (ok.ownNew e2 i hp hx' hd) (.ownNew e2 ok.dd i hp) ⟨ds, hP, rfl⟩)) fun _ ⟨d, hd, q⟩ => by
  subst q
  exact h d hd
theorem ds_ret (he : DE X e ρ P) (hO : ∀ d, P d → O.R d) : DS X (.Return (some e) pos) ρ O := .mk fun D M σ H ok E k => of_ps (ps_ret pe_sem) (he.run D M σ H ok _ fun v d H2 e2 hd hP => k.rt v d D M σ H2 ρ (e2.stp ok.dd) (hd.weak fun _ z => .inl z) (hO d hP))
theorem dss_ret {d : Dt} (he : DE X e ρ (Eq d)) (hO : O.R d) : DSs X (.Return (some e) pos :: rest) ρ O := .mk fun D M σ H ok E k =>
  of_pb (pss_cons ps_sem (t := tSemS X _) (u := tNever) pss_never) ((ds_ret (O := { O with N := fun _ => False }) he (fun _ q => by rw [← q]; exact hO)).run D M σ H ok _ ⟨fun _ _ _ _ _ _ _ n => n.elim, k.rt, k.ln, k.bk, k.ct⟩)
theorem dss_retP (he : DE X e ρ P) (hO : ∀ d, P d → O.R d) : DSs X (.Return (some e) pos :: rest) ρ O := .mk fun D M σ H ok E k =>
  of_pb (pss_cons ps_sem (t := tSemS X _) (u := tNever) pss_never) ((ds_ret (O := { O with N := fun _ => False }) he hO).run D M σ H ok _ ⟨fun _ _ _ _ _ _ _ n => n.elim, k.rt, k.ln, k.bk, k.ct⟩)
theorem dss_retN {P : List Dt → Prop} (he : DN X e ρ P) (hO : ∀ d, P d → O.L d) : DSs X (.Return (some e) pos :: rest) ρ O := .mk fun D M σ H ok E k =>
  of_pb (pss_cons (ps_ret pe_sem) (u := tNever) pss_never) (he.run D M σ H ok _ fun p xs ds H2 e2 hp hx hd hP => k.ln p xs ds D M σ H2 ρ (e2.stp ok.dd) hp hx (hd.weak fun a z => z.elim (fun z => .inl (.inl z)) .inr) (hO ds hP))
theorem dss_if {k : Bool} {st1 st2 : List Stmt} (hc : DT X c ρ (Eq k)) (h1 : k = true → DSs X st1 ρ { O with N := N1 }) (h2 : k = false → DSs X st2 ρ { O with N := N1 }) (h : ∀ ρ', N1 ρ' → DSs X rest ρ' O) : DSs X (.If c st1 st2 pos :: rest) ρ O :=
  dss_cons (N1 := N1) (.mk fun D M σ H ok E kk => of_ps (ps_if pt_sem pb_sem pb_sem) (hc.run D M σ H ok _ fun x H2 e2 hP => by
    subst hP
    cases k with
    | true =>
      rw [if_pos rfl]
      exact (h1 rfl).run D M σ H2 (ok.ext e2) E (kk.later (e2.stp ok.dd))
    | false =>
      rw [if_neg Bool.false_ne_true]
      exact (h2 rfl).run D M σ H2 (ok.ext e2) E (kk.later (e2.stp ok.dd)))) h
theorem dss_ifP {Pk : Bool → Prop} {st1 st2 : List Stmt} (hc : DT X c ρ Pk) (h1 : Pk true → DSs X st1 ρ { O with N := N1 }) (h2 : Pk false → DSs X st2 ρ { O with N := N1 }) (h : ∀ ρ', N1 ρ' → DSs X rest ρ' O) : DSs X (.If c st1 st2 pos :: rest) ρ O :=
  dss_cons (N1 := N1) (.mk fun D M σ H ok E kk => of_ps (ps_if pt_sem pb_sem pb_sem) (hc.run D M σ H ok _ fun x H2 e2 hP => by
    cases x with
    | true =>
      rw [if_pos rfl]
      exact (h1 hP).run D M σ H2 (ok.ext e2) E (kk.later (e2.stp ok.dd))
    | false =>
      rw [if_neg Bool.false_ne_true]
      exact (h2 hP).run D M σ H2 (ok.ext e2) E (kk.later (e2.stp ok.dd)))) h
/-- an if whose suite leaves -/
theorem dss_when {k : Bool} {st1 : List Stmt} (hc : DT X c ρ (Eq k)) (h1 : k = true → DSs X st1 ρ { O with N := fun _ => False }) (h : k = false → DSs X rest ρ O) : DSs X (.If c st1 [] pos :: rest) ρ O :=
  dss_if (N1 := fun r => k = false ∧ r = ρ) hc (fun hk => (h1 hk).mono (fun _ z => z.elim) (fun _ z => z) (fun _ z => z) (fun _ z => z) (fun _ z => z)) (fun hk => dss_nilP ⟨hk, rfl⟩) fun _ ⟨hk, q⟩ => by
    subst q
    exact h hk
theorem dss_whenP {Pk : Bool → Prop} {st1 : List Stmt} (hc : DT X c ρ Pk) (h1 : Pk true → DSs X st1 ρ { O with N := fun _ => False }) (h : Pk false → DSs X rest ρ O) : DSs X (.If c st1 [] pos :: rest) ρ O :=
  dss_ifP (N1 := fun r => Pk false ∧ r = ρ) hc (fun hk => (h1 hk).mono (fun _ z => z.elim) (fun _ z => z) (fun _ z => z) (fun _ z => z) (fun _ z => z)) (fun hk => dss_nilP ⟨hk, rfl⟩) fun _ ⟨hk, q⟩ => by
    subst q
    exact h hk
/-- a bare expression -/
theorem dss_expr (he : DE X e ρ P) (h : DSs X rest ρ O) (hs : swapsWith e none pos.line X.env = pure false := by rfl) : DSs X (.Expr e pos :: rest) ρ O :=
  dss_cons (N1 := Eq ρ) (.mk fun D M σ H ok E k => of_ps (ps_expr pe_sem hs) (he.run D M σ H ok _ fun v d H2 e2 hd hP => k.nx D M σ H2 ρ (ok.ext e2) (e2.stp ok.dd) rfl)) fun _ q => by
    subst q
    exact h
/-! ### targets -/
theorem dg_name {i : Nat} {z : Str} {d : Dt} (hN : X.N.Nodup) (hi : X.N[i]? = some z := by rfl) (hx : Loc X.env.scope z := by first | exact .inl rfl | exact .inr rfl) (hf : X.fn z = true ∨ X.env.scope.names.lookup z = some .local := by first | exact .inl rfl | exact .inr rfl) :
    DG X (.Name z pos) d ρ (Eq (ρ.set i (.val d))) := .mk fun D M σ H v ok hd Q q => of_pg (pg_name hN hi hx hf) (q _ _ H (ok.set i hd) (.set ok.dd i fun _ z => by cases z) rfl)
/-- several targets -/
structure DGs (X : Cx) (tgs : List Expr) (ds : List Dt) (ρ : List Ent) (N : List Ent → Prop) : Prop where
  run : ∀ (D M : Addr → Prop) (σ : S) (H : Hp) (vs : List V), EnvOk X.K D M H σ ρ → DvL (Av M σ ρ) H vs ds → ∀ Q : S → Hp → Prop,
  (∀ σ' ρ' H', EnvOk X.K D M H' σ' ρ' → Stp D M σ ρ H D M σ' ρ' H' → N ρ' → Q σ' H') → ∃ t, PGs X tgs t ∧ t vs σ H Q
end
end WT
namespace WT
open PySem L2
theorem small' : 100001 ≤ sizeLine := by decide
theorem Nw.ext {D : Addr → Prop} {H H' : Hp} (h : Nw H H') : Ext D H H' := by
  rcases h with rfl | ⟨p, o, hp, rfl⟩
  · exact .refl _
  · exact .new hp
section
variable {X : Cx} {e a b c tg iter x y : Expr} {es : List Expr} {ρ : List Ent} {st : Stmt} {sts rest body : List Stmt} {O : Out} {N N1 : List Ent → Prop} {P : Dt → Prop} {pos p p2 : Pos}
/-! ### for -/
theorem ds_for {P : List Dt → Prop} (I : List Dt → Nat → List Ent → Prop) (hi : DIt X tg iter ρ P) (h0 : ∀ ds, P ds → I ds 0 ρ)
    (hs : ∀ ds i d ρ', P ds → ds[i]? = some d → I ds i ρ' → ∃ N2, DG X tg d ρ' N2 ∧ ∀ ρ2, N2 ρ2 → DSs X body ρ2 { N := I ds (i + 1), C := I ds (i + 1), R := O.R, L := O.L, B := O.N })
    (hd : ∀ ds ρ', P ds → I ds ds.length ρ' → O.N ρ') (hp : PassesOwn (model X.prog X.w) X.A X.env X.xe := by exact PassesOwn.never) (hc : X.calm = true := by rfl) (hsx : ∀ x, foldedSetIterable iter X.env x = pure x := by intro _; rfl) : DS X (.For tg iter body [] pos) ρ O := .mk fun D M σ H ok E k => by
  refine of_ps (ps_for hp hc pi_sem pg_sem pb_sem hsx) (hi.run D M σ H ok _ fun J ds H1 e1 it hP => ?_)
  have ok1 := ok.ext e1
  have s1 : Stp D M σ ρ H D M σ ρ H1 := e1.stp ok.dd
  refine ⟨fun i m σ' H' => m = ds.length - i ∧ i ≤ ds.length ∧ ∃ D' M' ρ', EnvOk X.K D' M' H' σ' ρ' ∧ Stp D M σ ρ H1 D' M' σ' ρ' H' ∧ I ds i ρ', ⟨ds.length, rfl, Nat.zero_le _, D, M, ρ, ok1, .refl ok1.dd, h0 ds hP⟩, ?_⟩
  rintro i m σ' H' ⟨rfl, hile, D', M', ρ', ok', s', hI⟩
  obtain ⟨hstop, hgo⟩ := it (Av M' σ' ρ') H' (s'.k fun m z => (ok1.dm m z).1) (fun a z => ok'.avs z)
  by_cases hlt : i < ds.length
  · obtain ⟨go, hy⟩ := hgo i ds[i] (List.getElem?_eq_getElem hlt)
    refine .inr ⟨go, fun σ2 H2 => ∃ D2 M2 ρ2, EnvOk X.K D2 M2 H2 σ2 ρ2 ∧ Stp D M σ ρ H1 D2 M2 σ2 ρ2 H2 ∧ I ds (i + 1) ρ2, fun σ2 H2 ⟨D2, M2, ρ2, o2, t2, i2⟩ => ⟨ds.length - (i + 1), by omega, rfl, hlt, D2, M2, ρ2, o2, t2, i2⟩, fun v H'' yl => ?_⟩
    obtain ⟨nw, dv⟩ := hy v H'' yl
    have en : Ext D' H' H'' := nw.ext
    obtain ⟨N2, hg, hb⟩ := hs ds i ds[i] ρ' hP (List.getElem?_eq_getElem hlt) hI
    have sn : Stp D M σ ρ H1 D' M' σ' ρ' H'' := s'.trans (en.stp ok'.dd)
    refine hg.run D' M' σ' H'' v (ok'.ext en) dv _ fun σ2 ρ2 H2 ok2 st2 n2 => ?_
    have s2 := sn.trans st2
    have k2 := k.later (s1.trans s2)
    exact (hb ρ2 n2).run D' M' σ2 H2 ok2 _ ⟨fun D3 M3 σ3 H3 ρ3 ok3 s3 n3 => ⟨D3, M3, ρ3, ok3, s2.trans s3, n3⟩, k2.rt, k2.ln, k2.nx, fun D3 M3 σ3 H3 ρ3 ok3 s3 n3 => ⟨D3, M3, ρ3, ok3, s2.trans s3, n3⟩⟩
  · have e : i = ds.length := by omega
    subst e
    exact .inl ⟨hstop, k.nx D' M' σ' H' ρ' ok' (s1.trans s') (hd ds ρ' hP hI)⟩
/-- for name in ..: the rest -/
theorem dss_for {P : List Dt → Prop} {j : Nat} {z : Str} {px : Pos} (I : List Dt → Nat → List Ent → Prop) (hN : X.N.Nodup) (hi : DIt X (.Name z px) iter ρ P) (h0 : ∀ ds, P ds → I ds 0 ρ)
    (hs : ∀ ds i d ρ', P ds → ds[i]? = some d → I ds i ρ' → DSs X body (ρ'.set j (.val d)) { N := I ds (i + 1), C := I ds (i + 1), R := O.R, L := O.L })
    (h : ∀ ds ρ', P ds → I ds ds.length ρ' → DSs X rest ρ' O) (hj : X.N[j]? = some z := by rfl) (hx : Loc X.env.scope z := by first | exact .inl rfl | exact .inr rfl) (hf : X.fn z = true ∨ X.env.scope.names.lookup z = some .local := by first | exact .inl rfl | exact .inr rfl) (hp : PassesOwn (model X.prog X.w) X.A X.env X.xe := by exact PassesOwn.never) (hc : X.calm = true := by rfl) (hsx : ∀ x, foldedSetIterable iter X.env x = pure x := by intro _; rfl) :
    DSs X (.For (.Name z px) iter body [] pos :: rest) ρ O :=
  dss_cons (N1 := fun r => ∃ ds, P ds ∧ I ds ds.length r) (ds_for I hi h0 (fun ds i d ρ' hP hd hI => ⟨_, dg_name hN hj hx hf, fun _ q => by
    subst q
    exact (hs ds i d ρ' hP hd hI).mono (fun _ z => z) (fun _ z => z) (fun _ z => z) (fun _ z => z.elim) (fun _ z => z)⟩) (fun ds ρ' hP hI => ⟨ds, hP, hI⟩) hp hc hsx) fun ρ' ⟨ds, hP, hI⟩ => h ds ρ' hP hI
/-! ### what is walked: lists, tuples, texts, ranges -/
theorem dit_list {P : List Dt → Prop} (h : DE X iter ρ fun d => ∃ ds, d = .lst ds ∧ P ds) : DIt X tg iter ρ P := .mk fun D M σ H ok R r => of_pi (pi_list pe_sem) (h.run D M σ H ok _ fun v d H2 e2 hd ⟨ds, q, hP⟩ => by
  subst q
  obtain ⟨l, xs, rfl, n, hl, hx⟩ := hd.lsts
  refine ⟨l, rfl, ⟨xs, .inl (.inl hl)⟩, r _ ds H2 e2 (fun A' H' k tr => ?_) hP⟩
  have h' := (k l _ n hl).1
  have hx' := hx.to k
  have sq : SqL X.K H' l xs := .inl (.inl h')
  refine ⟨⟨xs, sq, by rw [hx.len]; exact Nat.le_refl _⟩, fun i d hi => ?_⟩
  obtain ⟨y, hy, dy⟩ := hx'.get hi
  exact ⟨⟨xs, y, sq, hy⟩, fun u H'' ⟨e1, f⟩ => ⟨.inl e1, by
    have q := f xs sq
    rw [hy] at q
    cases q
    rw [e1]
    exact dy⟩⟩)
theorem dit_listD {ds : List Dt} (h : DE X iter ρ (Eq (.lst ds))) : DIt X tg iter ρ (Eq ds) := dit_list (h.mono fun d q => ⟨ds, q.symm, rfl⟩)
theorem dit_tup {P : List Dt → Prop} (h : DE X iter ρ fun d => ∃ ds, d = .tup ds ∧ P ds) : DIt X tg iter ρ P := .mk fun D M σ H ok R r => of_pi (pi_tup pe_sem) (h.run D M σ H ok _ fun v d H2 e2 hd ⟨ds, q, hP⟩ => by
  subst q
  obtain ⟨l, xs, rfl, n, hl, hx⟩ := hd.tups
  refine ⟨l, rfl, ⟨xs, .inl (.inl hl)⟩, r _ ds H2 e2 (fun A' H' k tr => ?_) hP⟩
  have h' := (k l _ n hl).1
  have hx' := hx.to k
  have sq : SqT X.K H' l xs := .inl (.inl h')
  refine ⟨⟨xs, sq, by rw [hx.len]; exact Nat.le_refl _⟩, fun i d hi => ?_⟩
  obtain ⟨y, hy, dy⟩ := hx'.get hi
  exact ⟨⟨xs, y, sq, hy⟩, fun u H'' ⟨e1, f⟩ => ⟨.inl e1, by
    have q := f xs sq
    rw [hy] at q
    cases q
    rw [e1]
    exact dy⟩⟩)
theorem dit_tupD {ds : List Dt} (h : DE X iter ρ (Eq (.tup ds))) : DIt X tg iter ρ (Eq ds) := dit_tup (h.mono fun d q => ⟨ds, q.symm, rfl⟩)
def signs (z : Str) : List Dt := z.cps.toList.map fun c => .str ⟨#[c]⟩
theorem dit_str {z : Str} (h : DE X iter ρ (Eq (.str z))) : DIt X tg iter ρ (Eq (signs z)) := .mk fun D M σ H ok R r => of_pi (pi_str pe_sem) (h.run D M σ H ok _ fun v d H2 e2 hd hP => by
  subst hP
  refine ⟨z, hd.strs, r _ (signs z) H2 e2 (fun A' H' k tr => ?_) rfl⟩
  have hl : (signs z).length = z.cps.size := by unfold signs; rw [List.length_map, Array.length_toList]
  refine ⟨by rw [hl]; exact Nat.le_refl _, fun i d hi => ?_⟩
  unfold signs at hi
  rw [List.getElem?_map, Array.getElem?_toList] at hi
  cases hc : z.cps[i]? with
  | none => rw [hc] at hi; cases hi
  | some c =>
    rw [hc] at hi
    cases hi
    refine ⟨(Array.getElem?_eq_some_iff.mp hc).1, fun u H'' ⟨e1, c', h1, h2⟩ => ⟨.inl e1, ?_⟩⟩
    rw [hc] at h1
    cases h1
    rw [h2]
    exact .str)
def rangeD (lo : Int) (n : Nat) : List Dt := (List.range n).map fun (k : Nat) => .int (lo + k)
theorem rangeD_len (lo : Int) (n : Nat) : (rangeD lo n).length = n := by unfold rangeD; rw [List.length_map, List.length_range]
theorem rangeD_get {lo : Int} {n i : Nat} {d : Dt} (h : (rangeD lo n)[i]? = some d) : i < n ∧ d = .int (lo + i) := by
  unfold rangeD at h
  rw [List.getElem?_map] at h
  by_cases hi : i < n
  · rw [List.getElem?_range hi] at h
    exact ⟨hi, (Option.some.inj h).symm⟩
  · rw [List.getElem?_eq_none (by rw [List.length_range]; omega)] at h
    cases h
theorem it_range {A : Addr → Prop} {H : Hp} {lo : Int} {n : Nat} : ItOk A H (Itr lo n) (rangeD lo n) := fun A' H' k tr => ⟨by rw [rangeD_len]; exact Nat.le_refl n, fun i d hi => by
  obtain ⟨h1, h2⟩ := rangeD_get hi
  exact ⟨h1, fun u H'' ⟨e1, e2⟩ => ⟨.inl e1, by rw [e2, h2]; exact .int⟩⟩⟩
theorem dit_range {n : Int} (hm : X.mg "range" = none) (h : DE X a ρ (Eq (.int n))) (hn : -(2 ^ 62) ≤ n ∧ n < 2 ^ 62) (hg : Gl X "range" := by rfl) (hs : starEach [a] X.env = [(false, eval a X.env)] := by exact star_ne rfl) (hs2 : starEach (a :: []) X.env = (false, eval a X.env) :: starEach [] X.env := by exact star_ne rfl) : DIt X tg (.Call (.Name "range" p) [a] [] pos) ρ (Eq (rangeD 0 n.toNat)) := .mk fun D M σ H ok R r =>
  of_pi (pi_range1 hg hm (pa_cons pe_sem pa_nil hs2) hs) (h.run D M σ H ok _ fun v d H2 e2 hd hP => by
    subst hP
    rw [hd.ints]
    exact ⟨n, rfl, hn.1, hn.2, r _ _ H2 e2 it_range rfl⟩)
theorem dit_rangeP {P1 : Dt → Prop} {P : List Dt → Prop} (hm : X.mg "range" = none) (h : DE X a ρ P1) (hn : ∀ d, P1 d → ∃ n : Int, d = .int n ∧ -(2 ^ 62) ≤ n ∧ n < 2 ^ 62 ∧ P (rangeD 0 n.toNat)) (hg : Gl X "range" := by rfl) (hs : starEach [a] X.env = [(false, eval a X.env)] := by exact star_ne rfl) (hs2 : starEach (a :: []) X.env = (false, eval a X.env) :: starEach [] X.env := by exact star_ne rfl) : DIt X tg (.Call (.Name "range" p) [a] [] pos) ρ P := .mk fun D M σ H ok R r =>
  of_pi (pi_range1 hg hm (pa_cons pe_sem pa_nil hs2) hs) (h.run D M σ H ok _ fun v d H2 e2 hd hP => by
    obtain ⟨n, q, h1, h2, h3⟩ := hn d hP
    subst q
    rw [hd.ints]
    exact ⟨n, rfl, h1, h2, r _ _ H2 e2 it_range h3⟩)
theorem dit_range2 {lo n : Int} (hm : X.mg "range" = none) (h1 : DE X a ρ (Eq (.int lo))) (h2 : DE X b ρ (Eq (.int n))) (hn : (-(2 ^ 62) ≤ lo ∧ lo < 2 ^ 62) ∧ -(2 ^ 62) ≤ n ∧ n < 2 ^ 62) (hg : Gl X "range" := by rfl) (hs : starEach [a, b] X.env = [(false, eval a X.env), (false, eval b X.env)] := by exact star_two rfl rfl) (hs2 : starEach [b] X.env = [(false, eval b X.env)] := by exact star_ne rfl)
    (hs3 : starEach (a :: [b]) X.env = (false, eval a X.env) :: starEach [b] X.env := by exact star_ne rfl) (hs4 : starEach (b :: []) X.env = (false, eval b X.env) :: starEach [] X.env := by exact star_ne rfl) : DIt X tg (.Call (.Name "range" p) [a, b] [] pos) ρ (Eq (rangeD lo (n - lo).toNat)) := .mk fun D M σ H ok R r =>
  of_pi (pi_range2 hg hm (pa_cons pe_sem (pa_cons pe_sem pa_nil hs4) hs3) hs hs2) (h1.run D M σ H ok _ fun v d H1 e1 hd hP => h2.run D M σ H1 (ok.ext e1) _ fun v2 d2 H2 e2 hd2 hP2 => by
    subst hP hP2
    rw [hd.ints, hd2.ints]
    exact ⟨lo, n, rfl, ⟨hn.1.1, hn.1.2, hn.2.1, hn.2.2⟩, r _ _ H2 (e1.trans e2) it_range rfl⟩)
end
/-! ### comprehensions -/
def NotOwn : Option Ent → Prop
  | some (.own _) => False
  | _ => True
theorem EnvOk.more {K : PySem.W.Frag} {D M : Addr → Prop} {H H' : Hp} {σ : S} {ρ : List Ent} {q : Addr} (k : EnvOk K D M H σ ρ) (e : Ext D H H') (hq : H q = none) (hq' : H' q ≠ none) : EnvOk K D (fun a => M a ∨ a = q) H' σ ρ := by
  have to : ∀ a o, ¬ Av M σ ρ a → H a = some o → H' a = some o ∧ ¬ Av (fun a => M a ∨ a = q) σ ρ a := fun a o n h => ⟨e.keep a o (fun z => n (k.dmA a z)) h, fun z => by
    rcases z with (z | z) | z
    · exact n (.inl z)
    · rw [z, hq] at h; cases h
    · exact n (.inr z)⟩
  have k2 := k.ext e
  refine ⟨k.len, fun i d h => ?_, fun i ds h => ?_, k.dist, k.dic, fun i ns h => ?_, fun m h => ⟨.inl (k.dm m h).1, (k2.dm m h).2⟩, fun a h => ?_⟩
  · obtain ⟨v, h1, h2⟩ := k.val i d h
    exact ⟨v, h1, h2.to to⟩
  · obtain ⟨p, xs, h1, h2, h3, h4⟩ := k.own i ds h
    refine ⟨p, xs, h1, e.keep _ _ (fun z => h4 (k.dm _ z).1) h2, h3.to to, fun z => ?_⟩
    rcases z with z | z
    · exact h4 z
    · rw [z, hq] at h2; cases h2
  · obtain ⟨v, h1, h2⟩ := k.scr i ns h
    exact ⟨v, h1, h2.to to⟩
  · rcases h with h | h
    · exact k2.trk a h
    · rw [h]; exact hq'
theorem owned_no {σ : S} {ρ : List Ent} {j : Nat} {x : Option V} {a : Addr} (hj : NotOwn (ρ[j]?)) (h : Owned σ ρ a) : Owned (σ.set j x) (ρ.set j .no) a := by
  obtain ⟨i, ds, h1, h2⟩ := h
  have n : j ≠ i := fun z => by
    subst z
    rw [h1] at hj
    exact hj
  exact ⟨i, ds, by rw [List.getElem?_set_ne n]; exact h1, by rw [List.getElem?_set_ne n]; exact h2⟩
def Sel (T : Dt → Bool) (Pe : Dt → Dt → Prop) : List Dt → List Dt → Prop
  | [], es => es = []
  | d :: ds, es => if T d = true then ∃ y es', es = y :: es' ∧ Pe d y ∧ Sel T Pe ds es' else Sel T Pe ds es
theorem Sel.yes {T : Dt → Bool} {Pe : Dt → Dt → Prop} {d y : Dt} (ht : T d = true) (hy : Pe d y) : ∀ {ds es : List Dt}, Sel T Pe ds es → Sel T Pe (ds ++ [d]) (es ++ [y])
  | [], es, h => by
    have h : es = [] := h
    subst h
    show if T d = true then _ else _
    rw [if_pos ht]
    exact ⟨y, [], rfl, hy, rfl⟩
  | c :: ds, es, h => by
    have h : if T c = true then ∃ y es', es = y :: es' ∧ Pe c y ∧ Sel T Pe ds es' else Sel T Pe ds es := h
    show if T c = true then _ else _
    by_cases hc : T c = true
    · rw [if_pos hc] at h ⊢
      obtain ⟨z, es', e, h1, h2⟩ := h
      subst e
      exact ⟨z, es' ++ [y], rfl, h1, Sel.yes ht hy h2⟩
    · rw [if_neg hc] at h ⊢
      exact Sel.yes ht hy h
theorem Sel.no {T : Dt → Bool} {Pe : Dt → Dt → Prop} {d : Dt} (ht : T d = false) : ∀ {ds es : List Dt}, Sel T Pe ds es → Sel T Pe (ds ++ [d]) es
  | [], es, h => by
    show if T d = true then _ else _
    rw [ht, if_neg Bool.false_ne_true]
    exact h
  | c :: ds, es, h => by
    have h : if T c = true then ∃ y es', es = y :: es' ∧ Pe c y ∧ Sel T Pe ds es' else Sel T Pe ds es := h
    show if T c = true then _ else _
    by_cases hc : T c = true
    · rw [if_pos hc] at h ⊢
      obtain ⟨z, es', e, h1, h2⟩ := h
      exact ⟨z, es', e, h1, Sel.no ht h2⟩
    · rw [if_neg hc] at h ⊢
      exact Sel.no ht h
theorem Sel.det {T : Dt → Bool} {f : Dt → Dt} : ∀ {ds es : List Dt}, Sel T (fun d y => f d = y) ds es → es = (ds.filter T).map f
  | [], es, h => h
  | c :: ds, es, h => by
    have h : if T c = true then ∃ y es', es = y :: es' ∧ f c = y ∧ Sel T _ ds es' else Sel T _ ds es := h
    by_cases hc : T c = true
    · rw [if_pos hc] at h
      obtain ⟨z, es', e, h1, h2⟩ := h
      rw [List.filter_cons, if_pos hc, e, List.map_cons, h1, Sel.det h2]
    · rw [if_neg hc] at h
      rw [List.filter_cons, if_neg hc]
      exact Sel.det h
theorem Sel.all {Pe : Dt → Dt → Prop} {f : Dt → Dt} {ds es : List Dt} (h : Sel (fun _ => true) (fun d y => f d = y) ds es) : es = ds.map f := by
  rw [h.det, List.filter_eq_self.mpr (fun _ _ => rfl)]
theorem Sel.len {Pe : Dt → Dt → Prop} : ∀ {ds es : List Dt}, Sel (fun _ => true) Pe ds es → es.length = ds.length
  | [], es, h => by
    have h : es = [] := h
    rw [h]
  | c :: ds, es, h => by
    have h : if true = true then ∃ y es', es = y :: es' ∧ Pe c y ∧ Sel _ Pe ds es' else Sel _ Pe ds es := h
    rw [if_pos rfl] at h
    obtain ⟨z, es', e, h1, h2⟩ := h
    rw [e, List.length_cons, List.length_cons, Sel.len h2]
/-- whatever the items give, one by one -/
theorem Sel.each {T : Dt → Bool} {Pe : Dt → Dt → Prop} {Z : Dt → Prop} (hz : ∀ d y, Pe d y → Z y) : ∀ {ds es : List Dt}, Sel T Pe ds es → ∀ y ∈ es, Z y
  | [], es, h, y, hy => by
    have h : es = [] := h
    rw [h] at hy
    cases hy
  | c :: ds, es, h, y, hy => by
    have h : if T c = true then ∃ y es', es = y :: es' ∧ Pe c y ∧ Sel T Pe ds es' else Sel T Pe ds es := h
    by_cases hc : T c = true
    · rw [if_pos hc] at h
      obtain ⟨z, es', e, h1, h2⟩ := h
      subst e
      rcases List.mem_cons.mp hy with rfl | hy
      · exact hz _ _ h1
      · exact Sel.each hz h2 y hy
    · rw [if_neg hc] at h
      exact Sel.each hz h y hy
structure DTs (X : Cx) (es : List Expr) (ρ : List Ent) (P : Bool → Prop) : Prop where
  run : ∀ (D M : Addr → Prop) (σ : S) (H : Hp), EnvOk X.K D M H σ ρ → ∃ t, PTs X es t ∧ ∀ Q : Bool → Hp → Prop, (∀ b H2, Ext D H H2 → P b → Q b H2) → t σ H Q
def tSemTs (X : Cx) (ifs : List Expr) : TT := fun σ H Q => ∀ (pins : List (Addr × Obj)) (s : Shared), Inv X pins σ H s →
    wpAny (model X.prog X.w) X.A (forIn ifs true fun c r => if r = true then do let ok ← isTrue c X.env (eval c X.env); pure (ForInStep.yield ok) else pure (ForInStep.yield r)) (TP X pins σ Q) X.xe s
theorem pts_sem {X : Cx} {ifs : List Expr} : PTs X ifs (tSemTs X ifs) := ⟨fun pins s _ _ _ I h => h pins s I⟩
theorem dts_nil {X : Cx} {ρ : List Ent} : DTs X [] ρ (Eq true) := .mk fun D M σ H ok => ⟨tYes, pts_nil, fun Q q => q true H (.refl H) rfl⟩
theorem dts_one {X : Cx} {ρ : List Ent} {c : Expr} {P : Bool → Prop} (h : DT X c ρ P) : DTs X [c] ρ P := .mk fun D M σ H ok => ⟨tSemT X c, pts_one pt_sem, fun Q q => h.run D M σ H ok Q q⟩
section
variable {X : Cx} {elt iter : Expr} {ifs : List Expr} {ρ : List Ent} {pos p p2 : Pos} {scope : Scope}
def ttB (X : Cx) (scope : Scope) (ifs : List Expr) : TT := fun σ2 H2 Q2 => ∀ (s : Shared) (H : Hp) (C : Addr) (cl : List (Str × Addr)) (fp : List Addr), tSemTs (X.blk s H scope (compEnvC scope cl C X.env) fp) ifs σ2 H2 Q2
def teB (X : Cx) (scope : Scope) (elt : Expr) : TE := fun σ2 H2 Q2 => ∀ (s : Shared) (H : Hp) (C : Addr) (cl : List (Str × Addr)) (fp : List Addr), tSem (X.blk s H scope (compEnvC scope cl C X.env) fp) elt σ2 H2 Q2
theorem pts_b (s : Shared) (H : Hp) (C : Addr) (cl : List (Str × Addr)) (fp : List Addr) : PTs (X.blk s H scope (compEnvC scope cl C X.env) fp) ifs (ttB X scope ifs) := ⟨fun pins s' σ2 H2 Q2 I h => h s H C cl fp pins s' I⟩
theorem pe_b (s : Shared) (H : Hp) (C : Addr) (cl : List (Str × Addr)) (fp : List Addr) : PE (X.blk s H scope (compEnvC scope cl C X.env) fp) elt (teB X scope elt) := ⟨fun pins s' σ2 H2 Q2 I h => h s H C cl fp pins s' I⟩
theorem lc_run {T : Dt → Bool} {Pe : Dt → Dt → Prop} {P : List Dt → Prop} {j : Nat} {z : Str} {px : Pos} (hN : X.N.Nodup) (hi : DIt X (.Name z px) iter ρ P) (hlen : ∀ ds, P ds → ds.length ≤ 100000) (okb : BlkOk X.N X.env.scope scope [(z, j)])
    (ht : ∀ (s : Shared) (H : Hp) (C : Addr) (cl : List (Str × Addr)) (fp : List Addr) (ds : List Dt) (d : Dt), P ds → d ∈ ds → DTs (X.blk s H scope (compEnvC scope cl C X.env) fp) ifs ((ρ.set j .no).set j (.val d)) (Eq (T d)))
    (he : ∀ (s : Shared) (H : Hp) (C : Addr) (cl : List (Str × Addr)) (fp : List Addr) (ds : List Dt) (d : Dt), P ds → d ∈ ds → T d = true → DE (X.blk s H scope (compEnvC scope cl C X.env) fp) elt ((ρ.set j .no).set j (.val d)) (Pe d))
    (hg : ∀ (s : Shared) (H : Hp) (C : Addr) (cl : List (Str × Addr)) (fp : List Addr), PG (X.blk s H scope (compEnvC scope cl C X.env) fp) (.Name z px) (gName j)) (hj : NotOwn (ρ[j]?)) (hjl : j < ρ.length) {D M : Addr → Prop} {σ : S} {H : Hp} (ok : EnvOk X.K D M H σ ρ) {Q : VK}
    (q : ∀ p xs ds H2, Ext D H H2 → H p = none → H2 p = some (.lst xs) → DvL (fun a => Av M σ ρ a ∨ a = p) H2 xs ds → (∃ es, P es ∧ Sel T Pe es ds) → Q (.ref p) H2) : tLc (tSemI X (.Name z px) iter) (gName j) (ttB X scope ifs) (teB X scope elt) [j] σ H Q := by
  refine hi.run D M σ H ok _ fun J ds H1 e1 it hP => ?_
  have ok1 := ok.ext e1
  intro L hL
  refine ⟨fun i m H' => m = ds.length - i ∧ i ≤ ds.length ∧ Ext D H1 H' ∧ ∃ xs es, H' L = some (.lst xs) ∧ DvL (fun a => Av M σ ρ a ∨ a = L) H' xs es ∧ Sel T Pe (ds.take i) es ∧ es.length ≤ i, ⟨ds.length, rfl, Nat.zero_le _, .new hL, [], [], upd_same, .nil, rfl, Nat.le_refl _⟩, ?_⟩
  rintro i m H' ⟨rfl, hile, e', xs, es, hx, hv, hsel, hel⟩
  have okM : EnvOk X.K D (fun a => M a ∨ a = L) H' (σ.set j none) (ρ.set j .no) := (ok1.more e' hL (by rw [hx]; exact fun z => nomatch z)).setNo j none
  have av : ∀ a, Av (fun a => M a ∨ a = L) (σ.set j none) (ρ.set j .no) a → Av M σ ρ a ∨ a = L := fun a z => by
    rcases z with (z | z) | z
    · exact .inl (.inl z)
    · exact .inr z
    · exact .inl (.inr (owned_set (e := .no) (fun _ q => by cases q) z))
  have va : ∀ a, Av M σ ρ a ∨ a = L → Av (fun a => M a ∨ a = L) (σ.set j none) (ρ.set j .no) a := fun a z => by
    rcases z with (z | z) | z
    · exact .inl (.inl z)
    · exact .inr (owned_no hj z)
    · exact .inl (.inr z)
  obtain ⟨hstop, hgo⟩ := it (Av (fun a => M a ∨ a = L) (σ.set j none) (ρ.set j .no)) H' (fun a o n h => ⟨e'.keep a o (fun z => n (ok1.dmA a z)) h, fun z => by
    rcases av a z with z | z
    · exact n z
    · rw [z, hL] at h; cases h⟩) (fun a z => okM.avs z)
  by_cases hlt : i < ds.length
  · have hmem : ds[i] ∈ ds := List.getElem_mem hlt
    obtain ⟨go, hy⟩ := hgo i ds[i] (List.getElem?_eq_getElem hlt)
    refine .inr ⟨go, fun H2 => Ext D H1 H2 ∧ ∃ xs es, H2 L = some (.lst xs) ∧ DvL (fun a => Av M σ ρ a ∨ a = L) H2 xs es ∧ Sel T Pe (ds.take (i + 1)) es ∧ es.length ≤ i + 1, fun H2 ⟨h1, h2⟩ => ⟨ds.length - (i + 1), by omega, rfl, hlt, h1, h2⟩, fun v H'' yl => ?_⟩
    obtain ⟨nw, dv⟩ := hy v H'' yl
    have en : Ext D H' H'' := nw.ext
    have hw : wipe σ [j] = σ.set j none := rfl
    show wipe (((wipe σ [j]).set j (some v))) [j] = wipe σ [j] ∧ _
    rw [hw]
    refine ⟨by show ((σ.set j none).set j (some v)).set j none = σ.set j none; rw [List.set_set, List.set_set], ?_⟩
    have okN := (okM.ext en).set j dv
    have av2 : ∀ a, Av (fun a => M a ∨ a = L) ((σ.set j none).set j (some v)) ((ρ.set j .no).set j (.val ds[i])) a → Av M σ ρ a ∨ a = L := fun a z => by
      rcases z with z | z
      · exact av a (.inl z)
      · exact av a (.inr (owned_set (e := .val ds[i]) (fun _ q => by cases q) z))
    have va2 : ∀ a, Av M σ ρ a ∨ a = L → Av (fun a => M a ∨ a = L) ((σ.set j none).set j (some v)) ((ρ.set j .no).set j (.val ds[i])) a := fun a z => by
      rcases va a z with z | z
      · exact .inl z
      · obtain ⟨i', ds', h1, h2⟩ := z
        have n : j ≠ i' := fun z => by
          subst z
          rw [List.getElem?_set_self hjl] at h1
          cases h1
        exact .inr ⟨i', ds', by rw [List.getElem?_set_ne n]; exact h1, by rw [List.getElem?_set_ne n]; exact h2⟩
    have nL : ¬ D L := fun z => by
      obtain ⟨_, _, _, q, _⟩ := ok1.dd L z
      rw [hL] at q; cases q
    have take : ds.take (i + 1) = ds.take i ++ [ds[i]] := by rw [List.take_add_one, List.getElem?_eq_getElem hlt]; rfl
    show ∀ (s : Shared) (H : Hp) (C : Addr) (cl : List (Str × Addr)) (fp : List Addr), _
    intro s0 H0 C cl fp
    obtain ⟨t, pt, ht'⟩ := (ht s0 H0 C cl fp ds ds[i] hP hmem).run D _ _ H'' okN
    refine fun pins s I => pt.run pins s _ H'' _ I (ht' _ fun b H3 e3 hb => ?_)
    have okN3 := okN.ext e3
    have e13 : Ext D H1 H3 := (e'.trans en).trans e3
    have hL3 : H3 L = some (.lst xs) := (en.trans e3).keep L _ nL hx
    have hv3 : DvL (fun a => Av M σ ρ a ∨ a = L) H3 xs es := hv.to fun a o n h => ⟨(en.trans e3).keep a o (fun z => n (.inl (ok1.dmA a z))) h, n⟩
    cases b with
    | false =>
      rw [if_neg Bool.false_ne_true]
      exact ⟨e13, xs, es, hL3, hv3, by rw [take]; exact hsel.no hb.symm.symm, by omega⟩
    | true =>
      rw [if_pos rfl]
      show ∀ (s : Shared) (H : Hp) (C : Addr) (cl : List (Str × Addr)) (fp : List Addr), _
      intro s1 H1' C1 cl1 fp1
      refine (he s1 H1' C1 cl1 fp1 ds ds[i] hP hmem hb.symm.symm).run D _ _ H3 okN3 _ fun y d H4 e4 hd4 hp4 => ?_
      refine ⟨xs, e4.keep L _ nL hL3, ?_, ?_⟩
      · rw [hv.len]
        have := hlen ds hP
        exact Nat.lt_of_lt_of_le (show es.length < 100001 by omega) (small' )
      · have e14 := e13.trans e4
        refine ⟨⟨fun a o n h => ?_, fun m n h => ?_⟩, xs ++ [y], es ++ [d], upd_same, ?_, by rw [take]; exact hsel.yes hb.symm.symm hp4, by rw [List.length_append, List.length_singleton]; omega⟩
        · rw [upd_ne (show a ≠ L from fun z => by rw [z, hL] at h; cases h)]
          exact e14.keep a o n h
        · obtain ⟨x1, x2, x3, h1, h2⟩ := e14.dice m n h
          exact ⟨x1, x2, x3, by rw [upd_ne (show m ≠ L from fun z => nL (by rw [← z]; exact n))]; exact h1, h2⟩
        · have hv4 : DvL (fun a => Av M σ ρ a ∨ a = L) H4 xs es := hv3.to fun a o n h => ⟨e4.keep a o (fun z => n (.inl (ok1.dmA a z))) h, n⟩
          have hd5 : Dv (fun a => Av M σ ρ a ∨ a = L) H4 y d := hd4.weak va2
          exact (hv4.app (.cons hd5 .nil)).to fun a o n h => ⟨by rw [upd_ne (show a ≠ L from fun z => n (.inr z))]; exact h, n⟩
  · have e : i = ds.length := by omega
    subst e
    rw [List.take_length] at hsel
    exact .inl ⟨hstop, q L xs es H' (e1.trans e') (e1.back ok hL) hx hv ⟨ds, hP, hsel⟩⟩
theorem dn_lc {T : Dt → Bool} {Pe : Dt → Dt → Prop} {P : List Dt → Prop} {j : Nat} {z : Str} {px : Pos} (hN : X.N.Nodup) (hi : DIt X (.Name z px) iter ρ P) (hlen : ∀ ds, P ds → ds.length ≤ 100000) (okb : BlkOk X.N X.env.scope scope [(z, j)])
    (ht : ∀ (s : Shared) (H : Hp) (C : Addr) (cl : List (Str × Addr)) (fp : List Addr) (ds : List Dt) (d : Dt), P ds → d ∈ ds → DTs (X.blk s H scope (compEnvC scope cl C X.env) fp) ifs ((ρ.set j .no).set j (.val d)) (Eq (T d)))
    (he : ∀ (s : Shared) (H : Hp) (C : Addr) (cl : List (Str × Addr)) (fp : List Addr) (ds : List Dt) (d : Dt), P ds → d ∈ ds → T d = true → DE (X.blk s H scope (compEnvC scope cl C X.env) fp) elt ((ρ.set j .no).set j (.val d)) (Pe d))
    (hg : ∀ (s : Shared) (H : Hp) (C : Addr) (cl : List (Str × Addr)) (fp : List Addr), PG (X.blk s H scope (compEnvC scope cl C X.env) fp) (.Name z px) (gName j)) (hj : NotOwn (ρ[j]?)) (hjl : j < ρ.length) (hc : X.calm = true := by rfl) (hsx : ∀ x, foldedSetIterable iter X.env x = pure x := by intro _; rfl) :
    DN X (.ListComp elt [⟨.Name z px, iter, ifs, 0⟩] scope pos) ρ (fun es => ∃ ds, P ds ∧ Sel T Pe ds es) := .mk fun D M σ H ok Q q =>
  of_pe (pe_lc (own := [(z, j)]) (wi := tSemI X (.Name z px) iter) (g := gName j) hc hN pi_sem okb hg pts_b pe_b hsx) (lc_run hN hi hlen okb ht he hg hj hjl ok q)
/-- name = [..] -/
theorem dss_setLc {rest : List Stmt} {O : Out} {i : Nat} {y : Str} {py : Pos} {spos : Pos} {T : Dt → Bool} {Pe : Dt → Dt → Prop} {P : List Dt → Prop} {j : Nat} {z : Str} {px : Pos} (hN : X.N.Nodup) (hi : DIt X (.Name z px) iter ρ P) (hlen : ∀ ds, P ds → ds.length ≤ 100000) (okb : BlkOk X.N X.env.scope scope [(z, j)])
    (ht : ∀ (s : Shared) (H : Hp) (C : Addr) (cl : List (Str × Addr)) (fp : List Addr) (ds : List Dt) (d : Dt), P ds → d ∈ ds → DTs (X.blk s H scope (compEnvC scope cl C X.env) fp) ifs ((ρ.set j .no).set j (.val d)) (Eq (T d)))
    (he : ∀ (s : Shared) (H : Hp) (C : Addr) (cl : List (Str × Addr)) (fp : List Addr) (ds : List Dt) (d : Dt), P ds → d ∈ ds → T d = true → DE (X.blk s H scope (compEnvC scope cl C X.env) fp) elt ((ρ.set j .no).set j (.val d)) (Pe d))
    (hg : ∀ (s : Shared) (H : Hp) (C : Addr) (cl : List (Str × Addr)) (fp : List Addr), PG (X.blk s H scope (compEnvC scope cl C X.env) fp) (.Name z px) (gName j)) (hj : NotOwn (ρ[j]?)) (hjl : j < ρ.length) (hy : X.N[i]? = some y) (hyl : X.env.scope.names.lookup y = some .local)
    (hsw : swapsWith (.ListComp elt [⟨.Name z px, iter, ifs, 0⟩] scope pos) (some (.Name y py)) spos.line X.env = pure true) (h : ∀ es, (∃ ds, P ds ∧ Sel T Pe ds es) → DSs X rest (ρ.set i (.val (.lst es))) O) (hc : X.calm = true := by rfl) (hsx : ∀ x, foldedSetIterable iter X.env x = pure x := by intro _; rfl) :
    DSs X (.Assign [.Name y py] (.ListComp elt [⟨.Name z px, iter, ifs, 0⟩] scope pos) spos :: rest) ρ O :=
  dss_cons (N1 := fun r => ∃ es, (∃ ds, P ds ∧ Sel T Pe ds es) ∧ r = ρ.set i (.val (.lst es))) (.mk fun D M σ H ok E k =>
    of_ps (ps_setLc (i := i) (own := [(z, j)]) (wi := tSemI X (.Name z px) iter) (g := gName j) hc hN hy hyl hsw pi_sem okb hg pts_b pe_b hsx) (lc_run hN hi hlen okb ht he hg hj hjl ok fun p xs ds H2 e2 hp hx hd hP =>
      k.nx D M _ H2 _ ((ok.ext e2).set i (.lst (fresh_av ok hp) hx (hd.weak fun _ z => .inl z))) ((e2.stp ok.dd).trans (.set (ok.ext e2).dd i fun _ q => by cases q)) ⟨ds, hP, rfl⟩)) fun _ ⟨es, hP, q⟩ => by
    subst q
    exact h es hP
/-- .. the slot's own -/
theorem dss_ownLc {rest : List Stmt} {O : Out} {i : Nat} {y : Str} {py : Pos} {spos : Pos} {T : Dt → Bool} {Pe : Dt → Dt → Prop} {P : List Dt → Prop} {j : Nat} {z : Str} {px : Pos} (hN : X.N.Nodup) (hi : DIt X (.Name z px) iter ρ P) (hlen : ∀ ds, P ds → ds.length ≤ 100000) (okb : BlkOk X.N X.env.scope scope [(z, j)])
    (ht : ∀ (s : Shared) (H : Hp) (C : Addr) (cl : List (Str × Addr)) (fp : List Addr) (ds : List Dt) (d : Dt), P ds → d ∈ ds → DTs (X.blk s H scope (compEnvC scope cl C X.env) fp) ifs ((ρ.set j .no).set j (.val d)) (Eq (T d)))
    (he : ∀ (s : Shared) (H : Hp) (C : Addr) (cl : List (Str × Addr)) (fp : List Addr) (ds : List Dt) (d : Dt), P ds → d ∈ ds → T d = true → DE (X.blk s H scope (compEnvC scope cl C X.env) fp) elt ((ρ.set j .no).set j (.val d)) (Pe d))
    (hg : ∀ (s : Shared) (H : Hp) (C : Addr) (cl : List (Str × Addr)) (fp : List Addr), PG (X.blk s H scope (compEnvC scope cl C X.env) fp) (.Name z px) (gName j)) (hj : NotOwn (ρ[j]?)) (hjl : j < ρ.length) (hy : X.N[i]? = some y) (hyl : X.env.scope.names.lookup y = some .local)
    (hsw : swapsWith (.ListComp elt [⟨.Name z px, iter, ifs, 0⟩] scope pos) (some (.Name y py)) spos.line X.env = pure true) (h : ∀ es, (∃ ds, P ds ∧ Sel T Pe ds es) → DSs X rest (ρ.set i (.own es)) O) (hc : X.calm = true := by rfl) (hsx : ∀ x, foldedSetIterable iter X.env x = pure x := by intro _; rfl) :
    DSs X (.Assign [.Name y py] (.ListComp elt [⟨.Name z px, iter, ifs, 0⟩] scope pos) spos :: rest) ρ O :=
  dss_cons (N1 := fun r => ∃ es, (∃ ds, P ds ∧ Sel T Pe ds es) ∧ r = ρ.set i (.own es)) (.mk fun D M σ H ok E k =>
    of_ps (ps_setLc (i := i) (own := [(z, j)]) (wi := tSemI X (.Name z px) iter) (g := gName j) hc hN hy hyl hsw pi_sem okb hg pts_b pe_b hsx) (lc_run hN hi hlen okb ht he hg hj hjl ok fun p xs ds H2 e2 hp hx hd hP =>
      k.nx D M _ H2 _ (ok.ownNew e2 i hp hx hd) (.ownNew e2 ok.dd i hp) ⟨ds, hP, rfl⟩)) fun _ ⟨es, hP, q⟩ => by
    subst q
    exact h es hP
end
end WT
namespace WT
open PySem L2
theorem boot_isi : bootBuiltins "isinstance" = some (.builtin "isinstance") := by decide +kernel
theorem boot_absB : bootBuiltins "abs" = some (.builtin "abs") := by decide +kernel
theorem boot_maxB : bootBuiltins "max" = some (.builtin "max") := by decide +kernel
theorem boot_minB : bootBuiltins "min" = some (.builtin "min") := by decide +kernel
theorem boot_allB : bootBuiltins "all" = some (.builtin "all") := by decide +kernel
theorem boot_anyB : bootBuiltins "any" = some (.builtin "any") := by decide +kernel
theorem boot_sumB : bootBuiltins "sum" = some (.builtin "sum") := by decide +kernel
theorem boot_reprB : bootBuiltins "repr" = some (.builtin "repr") := by decide +kernel
theorem boot_intT : bootBuiltins "int" = some (.type "int") := by decide +kernel
theorem boot_strT : bootBuiltins "str" = some (.type "str") := by decide +kernel
theorem boot_boolT : bootBuiltins "bool" = some (.type "bool") := by decide +kernel
theorem boot_listT : bootBuiltins "list" = some (.type "list") := by decide +kernel
theorem boot_tupleT : bootBuiltins "tuple" = some (.type "tuple") := by decide +kernel
theorem boot_dictT : bootBuiltins "dict" = some (.type "dict") := by decide +kernel
section
variable {X : Cx} {e a b c iter : Expr} {es : List Expr} {ρ : List Ent} {P P1 P2 P3 : Dt → Prop} {pos p p2 apos : Pos}
/-! ### built-in calls -/
theorem run_cb {r : List V → Hp → VK → Prop} {P0 : List Dt → Prop} {D M : Addr → Prop} {σ : S} {H : Hp} {Q : VK} (ok : EnvOk X.K D M H σ ρ) (ha : DL X es ρ P0) (hr : ∀ ds, P0 ds → RDC r ds P) (q : ∀ v d H2, Ext D H H2 → Dv (Av M σ ρ) H2 v d → P d → Q v H2) : tCB r (tSemA X es) σ H Q :=
  ha.run D M σ H ok _ fun vs ds H2 e2 w hP => hr ds hP D (Av M σ ρ) H2 ok.dmA (fun a z => (ok.ext e2).avs z) vs w Q fun v d H3 e3 hd hp => q v d H3 (e2.trans e3) hd hp
theorem run_cbN {r : List V → Hp → VK → Prop} {P0 : List Dt → Prop} {P : List Dt → Prop} {D M : Addr → Prop} {σ : S} {H : Hp} {Q : VK} (ok : EnvOk X.K D M H σ ρ) (ha : DL X es ρ P0) (hr : ∀ ds, P0 ds → RDCN r ds P)
    (q : ∀ p xs ds H2, Ext D H H2 → H p = none → H2 p = some (.lst xs) → DvL (fun a => Av M σ ρ a ∨ a = p) H2 xs ds → P ds → Q (.ref p) H2) : tCB r (tSemA X es) σ H Q :=
  ha.run D M σ H ok _ fun vs ds H2 e2 w hP => hr ds hP D (Av M σ ρ) H2 ok.dmA (fun a z => (ok.ext e2).avs z) vs w Q fun p xs ds H3 e3 hp hx hd hP => q p xs ds H3 (e2.trans e3) (e2.back ok hp) hx hd hP
theorem de_callB {x : Str} {id : String} {r : List V → Hp → VK → Prop} {P0 : List Dt → Prop} (hc : CallR X (.builtin id) r) (hm : X.mg x = none) (hv : bootBuiltins x = some (.builtin id)) (ha : DL X (e :: es) ρ P0) (hr : ∀ ds, P0 ds → RDC r ds P) (hg : Gl X x := by rfl) (hn : x ≠ "__name__" := by decide) (hdb : (x == ("__debug__" : Str)) = false := by decide)
    (he : starEach (e :: es) X.env = (false, eval e X.env) :: starEach es X.env := by exact star_ne rfl) (hpl : (backTo pos (starEach es X.env)).any (·.1) = false := by exact star_any rfl) : DE X (.Call (.Name x p) (e :: es) [] pos) ρ P := .mk fun D M σ H ok Q q =>
  of_pe (pe_callB hc hg hm hv pa_sem hn hdb he hpl) (run_cb ok ha hr q)
theorem de_callT {x : Str} {T : String} {r : List V → Hp → VK → Prop} {P0 : List Dt → Prop} (hc : CallR X (.type T) r) (hm : X.mg x = none) (hv : bootBuiltins x = some (.type T)) (ha : DL X (e :: es) ρ P0) (hr : ∀ ds, P0 ds → RDC r ds P) (hg : Gl X x := by rfl) (hn : x ≠ "__name__" := by decide) (hdb : (x == ("__debug__" : Str)) = false := by decide)
    (he : starEach (e :: es) X.env = (false, eval e X.env) :: starEach es X.env := by exact star_ne rfl) (hpl : (backTo pos (starEach es X.env)).any (·.1) = false := by exact star_any rfl) : DE X (.Call (.Name x p) (e :: es) [] pos) ρ P := .mk fun D M σ H ok Q q =>
  of_pe (pe_callTy hc hg hm hv pa_sem hn hdb he hpl) (run_cb ok ha hr q)
theorem dn_callT {x : Str} {T : String} {r : List V → Hp → VK → Prop} {P0 : List Dt → Prop} {P : List Dt → Prop} (hc : CallR X (.type T) r) (hm : X.mg x = none) (hv : bootBuiltins x = some (.type T)) (ha : DL X (e :: es) ρ P0) (hr : ∀ ds, P0 ds → RDCN r ds P) (hg : Gl X x := by rfl) (hn : x ≠ "__name__" := by decide) (hdb : (x == ("__debug__" : Str)) = false := by decide)
    (he : starEach (e :: es) X.env = (false, eval e X.env) :: starEach es X.env := by exact star_ne rfl) (hpl : (backTo pos (starEach es X.env)).any (·.1) = false := by exact star_any rfl) : DN X (.Call (.Name x p) (e :: es) [] pos) ρ P := .mk fun D M σ H ok Q q =>
  of_pe (pe_callTy hc hg hm hv pa_sem hn hdb he hpl) (run_cbN ok ha hr q)
theorem dw1 {D A : Addr → Prop} {H : Hp} {vs : List V} {d : Dt} (h : DwL D A H vs [d]) : ∃ v, vs = [v] ∧ Dw D A H v d := by
  cases vs with
  | nil => exact h.elim
  | cons v vs =>
    cases vs with
    | nil => exact ⟨v, rfl, h.1⟩
    | cons _ _ => exact h.2.elim
theorem dw2 {D A : Addr → Prop} {H : Hp} {vs : List V} {d d2 : Dt} (h : DwL D A H vs [d, d2]) : ∃ v w, vs = [v, w] ∧ Dw D A H v d ∧ Dw D A H w d2 := by
  cases vs with
  | nil => exact h.elim
  | cons v vs =>
    obtain ⟨w, e, h2⟩ := dw1 (show DwL D A H vs [d2] from h.2)
    subst e
    exact ⟨v, w, rfl, h.1, h2⟩
theorem rdc1 {r : List V → Hp → VK → Prop} {d z : Dt} {P : Dt → Prop} (h : ∀ (D A : Addr → Prop) (H : Hp) v, Dw D A H v d → ∀ Q : VK, (∀ u, Dv A H u z → Q u H) → r [v] H Q) (hP : P z) : RDC r [d] P := fun D A H _ _ vs w Q q => by
  obtain ⟨v, e, hv⟩ := dw1 w
  subst e
  exact h D A H v hv Q fun u hu => q u z H (.refl H) hu hP
theorem rdc2 {r : List V → Hp → VK → Prop} {d d2 z : Dt} {P : Dt → Prop} (h : ∀ (D A : Addr → Prop) (H : Hp) v w, Dw D A H v d → Dw D A H w d2 → ∀ Q : VK, (∀ u, Dv A H u z → Q u H) → r [v, w] H Q) (hP : P z) : RDC r [d, d2] P := fun D A H _ _ vs ws Q q => by
  obtain ⟨v, w, e, hv, hw⟩ := dw2 ws
  subst e
  exact h D A H v w hv hw Q fun u hu => q u z H (.refl H) hu hP
/-- len -/
def lenD : Dt → Option Nat
  | .lst ds => some ds.length
  | .tup ds => some ds.length
  | .str z => if z.length ≤ 100000 then some z.length else none
  | _ => none
theorem rdc_len {d : Dt} {n : Nat} {P : Dt → Prop} (h : lenD d = some n) (hP : P (.int n)) : RDC (fun xs H Q => ∃ x n, xs = [x] ∧ LenV X.K x H n ∧ Q (.int n) H) [d] P := rdc1 (fun D A H v hv Q q => by
  cases d with
  | lst ds =>
    cases h
    obtain ⟨l, xs, e, n, hl, hx⟩ := hv.lsts
    subst e
    exact ⟨_, ds.length, rfl, .inl ⟨xs, .inl (.inl hl), hx.len.symm⟩, q _ .int⟩
  | tup ds =>
    cases h
    obtain ⟨l, xs, e, n, hl, hx⟩ := hv.tups
    subst e
    exact ⟨_, ds.length, rfl, .inr ⟨xs, .inl (.inl hl), hx.len.symm⟩, q _ .int⟩
  | str z =>
    have h : (if z.length ≤ 100000 then some z.length else none) = some n := h
    by_cases hz : z.length ≤ 100000
    · rw [if_pos hz] at h
      cases h
      rw [hv.strs]
      exact ⟨_, z.length, rfl, ⟨small hz, rfl⟩, q _ .int⟩
    · rw [if_neg hz] at h
      cases h
  | _ => cases h) hP
theorem de_len {d : Dt} {n : Nat} (hm : X.mg "len" = none) (ha : DW X a ρ (Eq d)) (h : lenD d = some n) (hg : Gl X "len" := by rfl) (he : starEach (a :: []) X.env = (false, eval a X.env) :: starEach [] X.env := by exact star_ne rfl) : DE X (.Call (.Name "len" p) [a] [] pos) ρ (Eq (.int n)) :=
  de_callB call_len hm PySem.boot_len (dl_cons ha dl_nil he) (fun _ q => by subst q; exact rdc_len h rfl) hg (he := he)
theorem de_lenP {n : Nat → Prop} (hm : X.mg "len" = none) (ha : DW X a ρ P) (h : ∀ d, P d → ∃ k, lenD d = some k ∧ P1 (.int k)) (hg : Gl X "len" := by rfl) (he : starEach (a :: []) X.env = (false, eval a X.env) :: starEach [] X.env := by exact star_ne rfl) : DE X (.Call (.Name "len" p) [a] [] pos) ρ P1 :=
  de_callB call_len hm PySem.boot_len (dl_consP ha dl_nil he) (fun _ ⟨d, ds, e, hP, e2⟩ => by
    subst e e2
    obtain ⟨k, hk, hp⟩ := h d hP
    exact rdc_len hk hp) hg (he := he)
/-- the script's length -/
theorem de_lenS {i : Nat} {x : Str} {ns : List Int} (hm : X.mg "len" = none) (hi : ρ[i]? = some (.scr ns)) (hg : Gl X "len" := by rfl) (hN : X.N[i]? = some x := by rfl) (hv : Vis X.env.scope x := by first | exact Or.inl rfl | exact Or.inr (Or.inl rfl) | exact Or.inr (Or.inr rfl)) (hd : (x == ("__debug__" : Str)) = false := by decide) (hcd : (x == ("__classdict__" : Str)) = false := by decide)
    (he : starEach (.Name x p2 :: []) X.env = (false, eval (.Name x p2) X.env) :: starEach [] X.env := by exact star_ne rfl) : DE X (.Call (.Name "len" p) [.Name x p2] [] pos) ρ (Eq (.int ns.length)) := .mk fun D M σ H ok Q q => by
  obtain ⟨v, h1, l, e, sq, _⟩ := ok.scr i ns hi
  subst e
  exact of_pe (pe_callB call_len hg hm PySem.boot_len (pa_cons (pe_var hN hv hd hcd) pa_nil he) (he := he)) ⟨.ref l, h1, _, (ns.map V.int).length, rfl, .inl ⟨_, sq, rfl⟩, q _ _ H (.refl H) (by rw [List.length_map]; exact .int) rfl⟩
/-- script[e] -/
theorem de_ixS0 {i : Nat} {x : Str} {ns : List Int} {j : Nat} {n : Int} (hi : ρ[i]? = some (.scr ns)) (hb : DE X b ρ (Eq (.int j))) (hj : ns[j]? = some n) (hN : X.N[i]? = some x := by rfl) (hv : Vis X.env.scope x := by first | exact Or.inl rfl | exact Or.inr (Or.inl rfl) | exact Or.inr (Or.inr rfl)) (hd : (x == ("__debug__" : Str)) = false := by decide) (hcd : (x == ("__classdict__" : Str)) = false := by decide)
    (hs : PlainIx b := by exact fun _ _ => rfl) : DE X (.Subscript (.Name x p2) b pos) ρ (Eq (.int n)) := .mk fun D M σ H ok Q q => by
  obtain ⟨v, h1, h2⟩ := ok.scr i ns hi
  refine of_pe (pe_ix ix_list (pe_var hN hv hd hcd) pe_sem hs) ⟨v, h1, hb.run D M σ H ok _ fun u d H2 e2 hd2 hP => ?_⟩
  subst hP
  obtain ⟨v', h3, h4⟩ := (ok.ext e2).scr i ns hi
  rw [h1] at h3
  cases h3
  obtain ⟨l, e, sq, _⟩ := h4
  subst e
  rw [hd2.ints]
  exact ⟨l, ns.map V.int, j, .int n, rfl, rfl, sq, atI_nat (by rw [List.getElem?_map, hj]; rfl), q _ _ H2 e2 .int rfl⟩

/-! ### ints by what is known of them -/
def IntP (p : Int → Prop) : Dt → Prop := fun d => ∃ i, d = .int i ∧ p i
theorem DE.intP {i : Int} {q : Int → Prop} (h : DE X a ρ (Eq (.int i))) (hq : q i) : DE X a ρ (IntP q) := h.mono fun _ e => ⟨i, e.symm, hq⟩
theorem rd_IP {C : Int → Int → Prop} {g : Int → Int → Int} {p q r : Int → Prop} (h : ∀ i j, p i → q j → C i j ∧ r (g i j)) (d1 d2 : Dt) (h1 : IntP p d1) (h2 : IntP q d2) : RD (rI C fun i j => .int (g i j)) d1 d2 (IntP r) := by
  obtain ⟨i, e, hi⟩ := h1
  obtain ⟨j, e2, hj⟩ := h2
  subst e e2
  exact rd_val (d := .int (g i j)) (fun D A H v1 v2 w1 w2 Q k => ⟨i, j, w1.ints, w2.ints, (h i j hi hj).1, k _ .int⟩) ⟨_, rfl, (h i j hi hj).2⟩
theorem rd_IP0 {g : Int → Int → Int} {p q r : Int → Prop} (h : ∀ i j, p i → q j → r (g i j)) (d1 d2 : Dt) (h1 : IntP p d1) (h2 : IntP q d2) : RD (rI0 fun i j => .int (g i j)) d1 d2 (IntP r) := by
  obtain ⟨i, e, hi⟩ := h1
  obtain ⟨j, e2, hj⟩ := h2
  subst e e2
  exact rd_val (d := .int (g i j)) (fun D A H v1 v2 w1 w2 Q k => ⟨i, j, w1.ints, w2.ints, k _ .int⟩) ⟨_, rfl, h i j hi hj⟩
theorem de_addP {p q r : Int → Prop} (h1 : DE X a ρ (IntP p)) (h2 : DE X b ρ (IntP q)) (h : ∀ i j, p i → q j → r (i + j)) : DE X (.BinOp a .Add b pos) ρ (IntP r) := de_op2 (pe_op op_add pe_sem pe_sem) h1.w h2.w fun d1 d2 => rd_IP0 h d1 d2
theorem de_subP {p q r : Int → Prop} (h1 : DE X a ρ (IntP p)) (h2 : DE X b ρ (IntP q)) (h : ∀ i j, p i → q j → r (i - j)) : DE X (.BinOp a .Sub b pos) ρ (IntP r) := de_op2 (pe_op op_sub pe_sem pe_sem) h1.w h2.w fun d1 d2 => rd_IP0 h d1 d2
theorem de_mulP {p q r : Int → Prop} (h1 : DE X a ρ (IntP p)) (h2 : DE X b ρ (IntP q)) (h : ∀ i j, p i → q j → CMul i j ∧ r (i * j)) : DE X (.BinOp a .Mult b pos) ρ (IntP r) := de_op2 (pe_op op_mul pe_sem pe_sem) h1.w h2.w fun d1 d2 => rd_IP h d1 d2
theorem de_modP {p q r : Int → Prop} (h1 : DE X a ρ (IntP p)) (h2 : DE X b ρ (IntP q)) (h : ∀ i j, p i → q j → 0 < j ∧ r (i % j)) : DE X (.BinOp a .Mod b pos) ρ (IntP r) := de_op2 (pe_op op_mod pe_sem pe_sem) h1.w h2.w fun d1 d2 => rd_IP h d1 d2
theorem de_divP {p q r : Int → Prop} (h1 : DE X a ρ (IntP p)) (h2 : DE X b ρ (IntP q)) (h : ∀ i j, p i → q j → CDivW i j ∧ r (i / j)) : DE X (.BinOp a .FloorDiv b pos) ρ (IntP r) := de_op2 (pe_op op_fdivW pe_sem pe_sem) h1.w h2.w fun d1 d2 => rd_IP h d1 d2
theorem dt_gtP {p q : Int → Prop} {r : Bool → Prop} (h1 : DE X a ρ (IntP p)) (h2 : DE X b ρ (IntP q)) (h : ∀ i j, p i → q j → r (decide (j < i))) : DT X (.Compare a [.Gt] [b] pos) ρ r := dt_op2 (pt_cmpR op_gt pe_sem pe_sem (nomark _)) h1.w h2.w fun d1 d2 ⟨i, e, hi⟩ ⟨j, e2, hj⟩ => by
  subst e e2
  exact rd_val (d := .bl (decide (j < i))) (fun D A H v1 v2 w1 w2 Q k => ⟨i, j, w1.ints, w2.ints, k _ .bl⟩) ⟨_, rfl, h i j hi hj⟩
theorem rdc_int {i : Int} {P : Dt → Prop} (hP : P (.int i)) : RDC (fun xs H Q => (∃ i, xs = [.int i] ∧ Q (.int i) H) ∨ ∃ k, xs = [.bl k] ∧ Q (.int (if k then 1 else 0)) H) [.int i] P := rdc1 (fun D A H v hv Q q => .inl ⟨i, by rw [hv.ints], q _ .int⟩) hP
theorem rdc_intB {k : Bool} {P : Dt → Prop} (hP : P (.int (if k then 1 else 0))) : RDC (fun xs H Q => (∃ i, xs = [.int i] ∧ Q (.int i) H) ∨ ∃ k, xs = [.bl k] ∧ Q (.int (if k then 1 else 0)) H) [.bl k] P := rdc1 (fun D A H v hv Q q => .inr ⟨k, by rw [hv.bls], q _ .int⟩) hP
theorem de_toInt {i : Int} (hm : X.mg "int" = none) (ha : DE X a ρ (Eq (.int i))) (hg : Gl X "int" := by rfl) (he : starEach (a :: []) X.env = (false, eval a X.env) :: starEach [] X.env := by exact star_ne rfl) : DE X (.Call (.Name "int" p) [a] [] pos) ρ (Eq (.int i)) :=
  de_callT call_int1 hm boot_intT (dl_cons ha.w dl_nil he) (fun _ q => by subst q; exact rdc_int rfl) hg (he := he)
theorem de_toIntP {p1 : Int → Prop} (hm : X.mg "int" = none) (ha : DE X a ρ (IntP p1)) (hg : Gl X "int" := by rfl) (he : starEach (a :: []) X.env = (false, eval a X.env) :: starEach [] X.env := by exact star_ne rfl) : DE X (.Call (.Name "int" p) [a] [] pos) ρ (IntP p1) :=
  de_callT call_int1 hm boot_intT (dl_consP ha.w dl_nil he) (fun _ ⟨d, ds, e, ⟨i, e1, hi⟩, e2⟩ => by
    subst e e1 e2
    exact rdc_int ⟨i, rfl, hi⟩) hg (he := he)
theorem de_toIntB {k : Bool} (hm : X.mg "int" = none) (ha : DE X a ρ (Eq (.bl k))) (hg : Gl X "int" := by rfl) (he : starEach (a :: []) X.env = (false, eval a X.env) :: starEach [] X.env := by exact star_ne rfl) : DE X (.Call (.Name "int" p) [a] [] pos) ρ (Eq (.int (if k then 1 else 0))) :=
  de_callT call_int1 hm boot_intT (dl_cons ha.w dl_nil he) (fun _ q => by subst q; exact rdc_intB rfl) hg (he := he)
theorem de_abs {i : Int} (hm : X.mg "abs" = none) (ha : DE X a ρ (Eq (.int i))) (hg : Gl X "abs" := by rfl) (he : starEach (a :: []) X.env = (false, eval a X.env) :: starEach [] X.env := by exact star_ne rfl) : DE X (.Call (.Name "abs" p) [a] [] pos) ρ (Eq (.int (if i < 0 then -i else i))) :=
  de_callB call_abs hm boot_absB (dl_cons ha.w dl_nil he) (fun _ q => by subst q; exact rdc1 (fun D A H v hv Q q => ⟨i, by rw [hv.ints], q _ .int⟩) rfl) hg (he := he)
theorem de_max2 {i j : Int} (hm : X.mg "max" = none) (ha : DE X a ρ (Eq (.int i))) (hb : DE X b ρ (Eq (.int j))) (hg : Gl X "max" := by rfl) (hc : X.calm = true := by rfl) (he : starEach (a :: [b]) X.env = (false, eval a X.env) :: starEach [b] X.env := by exact star_ne rfl) (he2 : starEach (b :: []) X.env = (false, eval b X.env) :: starEach [] X.env := by exact star_ne rfl) (hpl : (backTo pos (starEach [b] X.env)).any (·.1) = false := by exact star_any rfl) : DE X (.Call (.Name "max" p) [a, b] [] pos) ρ (Eq (.int (if j > i then j else i))) :=
  de_callB (call_max2 hc) hm boot_maxB (dl_cons ha.w (dl_cons hb.w dl_nil he2) he) (fun _ q => by subst q; exact rdc2 (fun D A H v w hv hw Q q => ⟨i, j, by rw [hv.ints, hw.ints], q _ .int⟩) rfl) hg (he := he) (hpl := hpl)
theorem de_min2 {i j : Int} (hm : X.mg "min" = none) (ha : DE X a ρ (Eq (.int i))) (hb : DE X b ρ (Eq (.int j))) (hg : Gl X "min" := by rfl) (hc : X.calm = true := by rfl) (he : starEach (a :: [b]) X.env = (false, eval a X.env) :: starEach [b] X.env := by exact star_ne rfl) (he2 : starEach (b :: []) X.env = (false, eval b X.env) :: starEach [] X.env := by exact star_ne rfl) (hpl : (backTo pos (starEach [b] X.env)).any (·.1) = false := by exact star_any rfl) : DE X (.Call (.Name "min" p) [a, b] [] pos) ρ (Eq (.int (if j < i then j else i))) :=
  de_callB (call_min2 hc) hm boot_minB (dl_cons ha.w (dl_cons hb.w dl_nil he2) he) (fun _ q => by subst q; exact rdc2 (fun D A H v w hv hw Q q => ⟨i, j, by rw [hv.ints, hw.ints], q _ .int⟩) rfl) hg (he := he) (hpl := hpl)
/-- all of a list of bools -/
theorem dvL_bls {A : Addr → Prop} {H : Hp} : ∀ {bs : List Bool} {xs : List V}, DvL A H xs (bs.map .bl) → xs = bs.map V.bl
  | [], [], _ => rfl
  | k :: bs, x :: xs, h => by
    unfold DvL at h
    rw [List.map_cons, h.1.bls, dvL_bls h.2]
  | [], _ :: _, h => by unfold DvL at h; exact h.elim
  | _ :: _, [], h => by unfold DvL at h; exact h.elim
theorem de_all {bs : List Bool} (hm : X.mg "all" = none) (ha : DW X a ρ (Eq (.lst (bs.map .bl)))) (hg : Gl X "all" := by rfl) (hc : X.calm = true := by rfl) (he : starEach (a :: []) X.env = (false, eval a X.env) :: starEach [] X.env := by exact star_ne rfl) : DE X (.Call (.Name "all" p) [a] [] pos) ρ (Eq (.bl (bs.all id))) :=
  de_callB (cr_all hc) hm boot_allB (dl_cons ha dl_nil he) (fun _ q => by
    subst q
    exact rdc1 (fun D A H v hv Q q => by
      obtain ⟨l, xs, e, n, hl, hx⟩ := hv.lsts
      subst e
      rw [dvL_bls hx] at hl
      exact ⟨l, bs, rfl, .inl (.inl hl), q _ .bl⟩) rfl) hg (he := he)
def reprB (k : Bool) : Str := if k then "True" else "False"
theorem call_repr_bl : CallR X (.builtin "repr") (fun xs H Q => ∃ k, xs = [.bl k] ∧ Q (.str (reprB k)) H) := by
  intro pins s σ H xs us Q I r h
  obtain ⟨k, rfl, q⟩ := h
  obtain ⟨u, rfl, r1⟩ := vals1 r
  cases r1
  refine PySem.P.repr_of_bool ⟨.str (reprB k), H, I.tok _, ?_, q⟩
  cases k <;> exact ⟨_, rfl⟩
theorem de_reprB {k : Bool} (hm : X.mg "repr" = none) (ha : DE X a ρ (Eq (.bl k))) (hg : Gl X "repr" := by rfl) (he : starEach (a :: []) X.env = (false, eval a X.env) :: starEach [] X.env := by exact star_ne rfl) : DE X (.Call (.Name "repr" p) [a] [] pos) ρ (Eq (.str (reprB k))) :=
  de_callB call_repr_bl hm boot_reprB (dl_cons ha.w dl_nil he) (fun _ q => by subst q; exact rdc1 (fun D A H v hv Q q => ⟨k, by rw [hv.bls], q _ .str⟩) rfl) hg (he := he)
/-- list(text) -/
theorem call_list_txt (hc : X.calm = true) : CallR X (.type "list") (fun xs H Q => ∃ z : Str, xs = [.str z] ∧ z.length ≤ sizeLine ∧ ∀ l, H l = none → Q (.ref l) (upd H l (.lst (z.cps.toList.map fun c => V.str ⟨#[c]⟩)))) := by
  intro pins s σ H xs us Q I r h
  obtain ⟨z, rfl, hz, q⟩ := h
  obtain ⟨u, rfl, t, rfl⟩ := vals1 r
  have hf : H s.heap.objs.size = none := I.hok.fresh (Nat.le_refl _)
  refine call_list_str (I.ok.hd hc) z t (fun h' tk acc c k hl hacc => ?_) hz
  have hv : Vals (z.cps.toList.map fun c => V.str ⟨#[c]⟩) acc.toList := by
    have hlen : acc.toList.length = z.cps.toList.length := by
      rw [Array.length_toList, Array.length_toList]
      exact hacc.1
    suffices ∀ (l1 : List Nat) (l2 : List Value), l2.length = l1.length → (∀ (j : Nat) v, l2[j]? = some v → ∃ c u, l1[j]? = some c ∧ v = .str ⟨#[c]⟩ u) → Vals (l1.map fun c => V.str ⟨#[c]⟩) l2 from
      this _ _ hlen fun j v hj => by
        obtain ⟨c, u, h1, h2⟩ := hacc.2 j v (by rw [← Array.getElem?_toList]; exact hj)
        exact ⟨c, u, by rw [Array.getElem?_toList]; exact h1, h2⟩
    intro l1
    induction l1 with
    | nil =>
      intro l2 hl _
      cases l2 with
      | nil => exact .nil
      | cons _ _ => cases hl
    | cons c l1 ih =>
      intro l2 hl hx
      cases l2 with
      | nil => cases hl
      | cons v l2 =>
        obtain ⟨c', u, h1, h2⟩ := hx 0 v rfl
        cases h1
        exact .cons ⟨u, h2⟩ (ih l2 (by simpa using hl) fun j v hj => hx (j + 1) v hj)
  have ob : ObjOk X.prog X.w (upd H s.heap.objs.size (.lst (z.cps.toList.map fun c => V.str ⟨#[c]⟩))) h' s.heap.objs.size (.lst (z.cps.toList.map fun c => V.str ⟨#[c]⟩)) :=
    ⟨by rw [List.length_map, Array.length_toList]; exact hz, acc.toList, c, hv, by rw [hl]⟩
  exact ⟨.ref s.heap.objs.size, _, I.laid (t' := tk) k (Nat.le_refl _) ob, rfl, q _ hf⟩
theorem signs_dv {A : Addr → Prop} {H : Hp} {z : Str} : DvL A H (z.cps.toList.map fun c => V.str ⟨#[c]⟩) (signs z) := by
  unfold signs
  generalize z.cps.toList = cs
  induction cs with
  | nil => exact .nil
  | cons c cs ih => exact .cons .str ih
theorem dn_listStr {z : Str} (hm : X.mg "list" = none) (ha : DE X a ρ (Eq (.str z))) (hz : z.length ≤ 100000) (hg : Gl X "list" := by rfl) (hc : X.calm = true := by rfl) (he : starEach (a :: []) X.env = (false, eval a X.env) :: starEach [] X.env := by exact star_ne rfl) : DN X (.Call (.Name "list" p) [a] [] pos) ρ (Eq (signs z)) :=
  dn_callT (call_list_txt hc) hm boot_listT (dl_cons ha.w dl_nil he) (fun _ q => by
    subst q
    intro D A H _ _ vs w Q q
    obtain ⟨v, e, hv⟩ := dw1 w
    subst e
    refine ⟨z, by rw [hv.strs], small hz, fun l hl => q l _ (signs z) _ (.new hl) hl upd_same ?_ rfl⟩
    exact signs_dv) hg (he := he)
theorem dn_listOf {ds : List Dt} (hm : X.mg "list" = none) (ha : DW X a ρ (Eq (.lst ds))) (hg : Gl X "list" := by rfl) (he : starEach (a :: []) X.env = (false, eval a X.env) :: starEach [] X.env := by exact star_ne rfl) : DN X (.Call (.Name "list" p) [a] [] pos) ρ (Eq ds) :=
  dn_callT call_list_of hm boot_listT (dl_cons ha dl_nil he) (fun _ q => by
    subst q
    intro D A H _ _ vs w Q q
    obtain ⟨v, e, hv⟩ := dw1 w
    subst e
    obtain ⟨l, xs, e, n, hl, hx⟩ := hv.lsts
    subst e
    exact ⟨l, xs, rfl, .inl (.inl (.inl hl)), fun l hl => q l xs ds _ (.new hl) hl upd_same (fresh_dvL hx hl) rfl⟩) hg (he := he)
theorem de_tupleOf {ds : List Dt} (hm : X.mg "tuple" = none) (ha : DW X a ρ (Eq (.lst ds))) (hg : Gl X "tuple" := by rfl) (he : starEach (a :: []) X.env = (false, eval a X.env) :: starEach [] X.env := by exact star_ne rfl) : DE X (.Call (.Name "tuple" p) [a] [] pos) ρ (Eq (.tup ds)) :=
  de_callT call_tuple_of hm boot_tupleT (dl_cons ha dl_nil he) (fun _ q => by
    subst q
    intro D A H _ tr vs w Q q
    obtain ⟨v, e, hv⟩ := dw1 w
    subst e
    obtain ⟨l, xs, e, n, hl, hx⟩ := hv.lsts
    subst e
    exact ⟨l, xs, rfl, .inl ⟨.inl (.inl hl), fun l hl => q (.ref l) (.tup ds) _ (.new hl) (.tup (fun z => tr l z hl) upd_same ((fresh_dvL hx hl).weak fun _ z => .inl z)) rfl⟩⟩) hg (he := he)
/-! ### isinstance with a built-in class -/
def tyD : Dt → String
  | .non => "NoneType" | .bl _ => "bool" | .int _ => "int" | .str _ => "str" | .lst _ => "list" | .tup _ => "tuple" | .dct _ _ => "dict" | .ins _ _ _ => "object"
def plainD : Dt → Bool
  | .ins _ _ _ => false
  | _ => true
def isiD (d : Dt) (T : String) : Bool := tyD d == T || (T == "int" && tyD d == "bool")
def isT (T : String) : Bool := ["int", "bool", "str", "list", "tuple", "dict"].contains T
theorem isi_kit {d : Dt} {T : String} (hp : plainD d = true) (hT : isT T = true) : kitB (tyD d) T = some (isiD d T) := by
  have hT' : T ∈ ["int", "bool", "str", "list", "tuple", "dict"] := by simpa [isT] using hT
  simp only [List.mem_cons, List.not_mem_nil, or_false] at hT'
  have key : ∀ t ∈ ["NoneType", "bool", "int", "str", "list", "tuple", "dict"], ∀ T ∈ ["int", "bool", "str", "list", "tuple", "dict"], kitB t T = some (t == T || (T == "int" && t == "bool")) := by decide +kernel
  have hd : tyD d ∈ ["NoneType", "bool", "int", "str", "list", "tuple", "dict"] := by
    cases d <;> first | (cases hp; done) | (simp [tyD])
  exact key _ hd T (by simpa [isT] using hT)
theorem tyX_of {D A : Addr → Prop} {H : Hp} {v : V} {d : Dt} (hp : plainD d = true) (h : Dw D A H v d) : TyX X.K H v (.type (tyD d)) := by
  cases d with
  | non => rw [h.nons]; exact .base .non
  | bl k => rw [h.bls]; exact .base (.bl k)
  | int k => rw [h.ints]; exact .base (.int k)
  | str k => rw [h.strs]; exact .base (.str k)
  | lst ds =>
    obtain ⟨l, xs, e, n, hl, hx⟩ := h.lsts
    subst e
    exact .base (.lst hl)
  | tup ds =>
    obtain ⟨l, xs, e, n, hl, hx⟩ := h.tups
    subst e
    exact .base (.tup hl)
  | dct ks ds =>
    obtain ⟨l, xs, e, n, hl, hx⟩ := h.dcts
    subst e
    exact .base (.dK hl)
  | ins _ _ _ => cases hp
theorem de_isi {d : Dt} {T : Str} {Ts : String} (hm : X.mg "isinstance" = none) (hmT : X.mg T = none) (hbT : bootBuiltins T = some (.type Ts)) (ha : DW X a ρ (Eq d)) (hp : plainD d = true) (hT : isT Ts = true := by decide) (hg : Gl X "isinstance" := by rfl) (hgT : Gl X T := by rfl) (hnT : T ≠ "__name__" := by decide) (hdT : (T == ("__debug__" : Str)) = false := by decide)
    (he : starEach (a :: [.Name T p2]) X.env = (false, eval a X.env) :: starEach [.Name T p2] X.env := by exact star_ne rfl) (he2 : starEach (.Name T p2 :: []) X.env = (false, eval (.Name T p2) X.env) :: starEach [] X.env := by exact star_ne rfl) (hpl : (backTo pos (starEach [.Name T p2] X.env)).any (·.1) = false := by exact star_any rfl) :
    DE X (.Call (.Name "isinstance" p) [a, .Name T p2] [] pos) ρ (Eq (.bl (isiD d Ts))) := .mk fun D M σ H ok Q q =>
  of_pe (pe_callB call_isi hg hm boot_isi (pa_cons pe_sem (pa_cons (pe_bltn (v := .ty Ts) hgT hmT hbT rfl hnT hdT) pa_nil he2) he) (he := he) (hpl := hpl)) (ha.run D M σ H ok _ fun v d' H2 e2 hd hP => by
    subst hP
    exact ⟨v, .ty Ts, .type (tyD d), .type Ts, isiD d Ts, rfl, .ty Ts, tyX_of hp hd, kit_ty (isi_kit hp hT), q _ _ H2 e2 .bl rfl⟩)
end
end WT
namespace WT
open PySem L2
section
variable {X : Cx} {e a b c iter : Expr} {es : List Expr} {ρ : List Ent} {P P1 P2 P3 : Dt → Prop} {pos p p2 apos : Pos} {rest : List Stmt} {O : Out}
theorem ltq {a b : Nat} (h : Nat.blt a b = true) : a < b := Nat.le_of_ble_eq_true h
theorem lenD_str {z : Str} (h : z.length ≤ 100000) : lenD (.str z) = some z.length := if_pos h
/-! ### subscripts -/
theorem atI_dv {A : Addr → Prop} {H : Hp} {xs : List V} {ds : List Dt} {i : Int} {d : Dt} (h : DvL A H xs ds) (hi : atI ds i = some d) : ∃ x, atI xs i = some x ∧ Dv A H x d := by
  unfold atI at hi ⊢
  rw [h.len]
  cases hn : ixN ds.length i with
  | none => rw [hn] at hi; cases hi
  | some j =>
    rw [hn] at hi
    exact h.get hi
theorem de_ixLP {P1 : List Dt → Prop} {P2 : Int → Prop} (h1 : DW X a ρ fun d => ∃ ds, d = .lst ds ∧ P1 ds) (h2 : DE X b ρ (IntP P2)) (h : ∀ ds i, P1 ds → P2 i → ∃ d, atI ds i = some d ∧ P d) (hs : PlainIx b := by exact fun _ _ => rfl) : DE X (.Subscript a b pos) ρ P :=
  de_op2 (pe_ix ix_list pe_sem pe_sem hs) h1 h2.w fun d1 d2 ⟨ds, e, q⟩ ⟨i, e2, q2⟩ => by
    subst e e2
    obtain ⟨d, hd, hP⟩ := h ds i q q2
    exact rd_val (d := d) (fun D A H v1 v2 w1 w2 Q k => by
      obtain ⟨l, xs, e, n, hl, hx⟩ := w1.lsts
      subst e
      obtain ⟨x, h3, h4⟩ := atI_dv hx hd
      exact ⟨l, xs, i, x, rfl, w2.ints, .inl (.inl hl), h3, k x h4⟩) hP
theorem de_ixL {ds : List Dt} {i : Int} {d : Dt} (h1 : DW X a ρ (Eq (.lst ds))) (h2 : DE X b ρ (Eq (.int i))) (h : atI ds i = some d) (hs : PlainIx b := by exact fun _ _ => rfl) : DE X (.Subscript a b pos) ρ (Eq d) :=
  de_ixLP (P1 := Eq ds) (P2 := Eq i) (h1.mono fun _ q => ⟨ds, q.symm, rfl⟩) (h2.mono fun _ q => ⟨i, q.symm, rfl⟩) (fun _ _ q q2 => by subst q q2; exact ⟨d, h, rfl⟩) hs
theorem de_ixT {ds : List Dt} {i : Int} {d : Dt} (h1 : DE X a ρ (Eq (.tup ds))) (h2 : DE X b ρ (Eq (.int i))) (h : atI ds i = some d) (hs : PlainIx b := by exact fun _ _ => rfl) : DE X (.Subscript a b pos) ρ (Eq d) :=
  de_op2 (pe_ix ix_tup pe_sem pe_sem hs) h1.w h2.w fun d1 d2 q q2 => by
    subst q q2
    exact rd_val (d := d) (fun D A H v1 v2 w1 w2 Q k => by
      obtain ⟨l, xs, e, n, hl, hx⟩ := w1.tups
      subst e
      obtain ⟨x, h3, h4⟩ := atI_dv hx h
      exact ⟨l, xs, i, x, rfl, w2.ints, .inl (.inl hl), h3, k x h4⟩) rfl
theorem de_ixTP {P1 : List Dt → Prop} {P2 : Int → Prop} (h1 : DE X a ρ fun d => ∃ ds, d = .tup ds ∧ P1 ds) (h2 : DE X b ρ (IntP P2)) (h : ∀ ds i, P1 ds → P2 i → ∃ d, atI ds i = some d ∧ P d) (hs : PlainIx b := by exact fun _ _ => rfl) : DE X (.Subscript a b pos) ρ P :=
  de_op2 (pe_ix ix_tup pe_sem pe_sem hs) h1.w h2.w fun d1 d2 ⟨ds, e, q⟩ ⟨i, e2, q2⟩ => by
    subst e e2
    obtain ⟨d, hd, hP⟩ := h ds i q q2
    exact rd_val (d := d) (fun D A H v1 v2 w1 w2 Q k => by
      obtain ⟨l, xs, e, n, hl, hx⟩ := w1.tups
      subst e
      obtain ⟨x, h3, h4⟩ := atI_dv hx hd
      exact ⟨l, xs, i, x, rfl, w2.ints, .inl (.inl hl), h3, k x h4⟩) hP
theorem atI_in {ds : List Dt} {i : Int} (h0 : 0 ≤ i) (h1 : i < ds.length) : ∃ d, atI ds i = some d ∧ d ∈ ds := by
  obtain ⟨n, rfl⟩ := Int.eq_ofNat_of_zero_le h0
  have hn : n < ds.length := by omega
  exact ⟨ds[n], atI_nat (List.getElem?_eq_getElem hn), List.getElem_mem hn⟩
/-! ### lists and texts put together -/
theorem rdn_cat {d1 d2 : List Dt} (hl : d1.length + d2.length ≤ 100000) : RDN rCat (.lst d1) (.lst d2) (Eq (d1 ++ d2)) := fun D A H _ _ v1 v2 w1 w2 Q q => by
  obtain ⟨l, xs, e, n, h1, hx⟩ := w1.lsts
  obtain ⟨m, ys, e2, n2, h2, hy⟩ := w2.lsts
  subst e e2
  exact ⟨l, m, xs, ys, rfl, rfl, h1, h2, small (by rw [hx.len, hy.len]; exact hl), fun p hp => q p _ (d1 ++ d2) _ (.new hp) hp upd_same (fresh_dvL (hx.app hy) hp) rfl⟩
theorem dn_cat {d1 d2 : List Dt} (h1 : DW X a ρ (Eq (.lst d1))) (h2 : DW X b ρ (Eq (.lst d2))) (hl : d1.length + d2.length ≤ 100000) : DN X (.BinOp a .Add b pos) ρ (Eq (d1 ++ d2)) := dn_bin op_cat h1 h2 (rdn_cat hl)
theorem dn_catP {P1 P2 P : List Dt → Prop} (h1 : DW X a ρ fun d => ∃ ds, d = .lst ds ∧ P1 ds) (h2 : DW X b ρ fun d => ∃ ds, d = .lst ds ∧ P2 ds) (h : ∀ d1 d2, P1 d1 → P2 d2 → d1.length + d2.length ≤ 100000 ∧ P (d1 ++ d2)) : DN X (.BinOp a .Add b pos) ρ P :=
  dn_op2 (pe_op op_cat pe_sem pe_sem) h1 h2 fun _ _ ⟨d1, e1, q1⟩ ⟨d2, e2, q2⟩ => by
    subst e1 e2
    obtain ⟨hl, hP⟩ := h d1 d2 q1 q2
    exact fun D A H s t v1 v2 w1 w2 Q q => rdn_cat hl D A H s t v1 v2 w1 w2 Q fun p xs ds H2 e2 hp hx hd hq => q p xs ds H2 e2 hp hx hd (by rw [← hq]; exact hP)
theorem dvL_rep {A : Addr → Prop} {H : Hp} {xs : List V} {ds : List Dt} (h : DvL A H xs ds) : ∀ k : Nat, DvL A H (List.replicate k xs).flatten (List.replicate k ds).flatten
  | 0 => .nil
  | k + 1 => by
    rw [List.replicate_succ, List.replicate_succ, List.flatten_cons, List.flatten_cons]
    exact h.app (dvL_rep h k)
theorem dn_rep {ds : List Dt} {k : Nat} (h1 : DW X a ρ (Eq (.lst ds))) (h2 : DE X b ρ (Eq (.int k))) (hl : ds.length * k ≤ 100000) (hk : k ≤ 100000) : DN X (.BinOp a .Mult b pos) ρ (Eq (List.replicate k ds).flatten) := dn_bin op_rep h1 h2.w fun D A H _ _ v1 v2 w1 w2 Q q => by
  obtain ⟨l, xs, e, n, h1, hx⟩ := w1.lsts
  subst e
  exact ⟨l, k, xs, rfl, w2.ints, h1, by omega, by omega, small (by rw [hx.len]; exact hl), fun p hp => q p _ _ _ (.new hp) hp upd_same (fresh_dvL (dvL_rep hx _) hp) rfl⟩
theorem de_addS {i j : Str} (h1 : DE X a ρ (Eq (.str i))) (h2 : DE X b ρ (Eq (.str j))) (hl : i.length + j.length ≤ 100000) : DE X (.BinOp a .Add b pos) ρ (Eq (.str (i ++ j))) := de_bin op_add_str h1.w h2.w (rd_val (fun D A H v1 v2 w1 w2 Q k => ⟨i, j, w1.strs, w2.strs, small hl, k _ .str⟩) rfl)
theorem de_addSP {p q : Str → Prop} (h1 : DE X a ρ fun d => ∃ z, d = .str z ∧ p z) (h2 : DE X b ρ fun d => ∃ z, d = .str z ∧ q z) (h : ∀ i j, p i → q j → i.length + j.length ≤ 100000 ∧ P (.str (i ++ j))) : DE X (.BinOp a .Add b pos) ρ P :=
  de_op2 (pe_op op_add_str pe_sem pe_sem) h1.w h2.w fun _ _ ⟨i, e, hi⟩ ⟨j, e2, hj⟩ => by
    subst e e2
    obtain ⟨hl, hP⟩ := h i j hi hj
    exact rd_val (fun D A H v1 v2 w1 w2 Q k => ⟨i, j, w1.strs, w2.strs, small hl, k _ .str⟩) hP
theorem dt_inSign {c' : Nat} {z : Str} (h1 : DE X a ρ (Eq (.str ⟨#[c']⟩))) (h2 : DE X b ρ (Eq (.str z))) (hm : behindInMarks .In b = false := by rfl) : DT X (.Compare a [.In] [b] pos) ρ (Eq (decide (c' ∈ z.cps.toList))) := dt_cmp op_in_sign h1.w h2.w (rd_val (fun D A H v1 v2 w1 w2 Q k => ⟨c', z, w1.strs, w2.strs, k _ .bl⟩) rfl) hm
theorem de_inSign {c' : Nat} {z : Str} (h1 : DE X a ρ (Eq (.str ⟨#[c']⟩))) (h2 : DE X b ρ (Eq (.str z))) (hm : behindInMarks .In b = false := by rfl) : DE X (.Compare a [.In] [b] pos) ρ (Eq (.bl (decide (c' ∈ z.cps.toList)))) := de_cmp op_in_sign h1.w h2.w (rd_val (fun D A H v1 v2 w1 w2 Q k => ⟨c', z, w1.strs, w2.strs, k _ .bl⟩) rfl) hm
theorem dt_notInSign {c' : Nat} {z : Str} (h1 : DE X a ρ (Eq (.str ⟨#[c']⟩))) (h2 : DE X b ρ (Eq (.str z))) (hm : behindInMarks .NotIn b = false := by rfl) : DT X (.Compare a [.NotIn] [b] pos) ρ (Eq (!decide (c' ∈ z.cps.toList))) := dt_cmp op_notIn_sign h1.w h2.w (rd_val (fun D A H v1 v2 w1 w2 Q k => ⟨c', z, w1.strs, w2.strs, k _ .bl⟩) rfl) hm
/-- sep.join(list of texts) -/
theorem dvL_strs {A : Addr → Prop} {H : Hp} : ∀ {bs : List Str} {xs : List V}, DvL A H xs (bs.map .str) → xs = bs.map V.str
  | [], [], _ => rfl
  | k :: bs, x :: xs, h => by
    unfold DvL at h
    rw [List.map_cons, h.1.strs, dvL_strs h.2]
  | [], _ :: _, h => by unfold DvL at h; exact h.elim
  | _ :: _, [], h => by unfold DvL at h; exact h.elim
theorem de_joinP {z : Str} {P1 : List Str → Prop} (h1 : DE X a ρ (Eq (.str z))) (h2 : DW X b ρ fun d => ∃ ys : List Str, d = .lst (ys.map .str) ∧ P1 ys) (h : ∀ ys, P1 ys → (ys.map (·.length)).sum + ys.length * z.length ≤ 16777216 ∧ P (.str (Txt.join z ys)))
    (hs : starEach [b] X.env = [(false, eval b X.env)] := by exact star_ne rfl) (hbase : attributeBase a "join" X.env (eval a X.env) = eval a X.env := by rfl) (hline : (apos.endLine == pos.line) = true := by rfl) : DE X (.Call (.Attribute a "join" apos) [b] [] pos) ρ P := .mk fun D M σ H ok Q q =>
  of_pe (pe_join pe_sem pe_sem hs hbase hline) (h1.run D M σ H ok _ fun v d H1 e1 hd hP => by
    subst hP
    rw [hd.strs]
    refine ⟨⟨z, rfl⟩, h2.run D M σ H1 (ok.ext e1) _ fun w d2 H2 e2 hd2 ⟨ys, e, hP⟩ => ?_⟩
    subst e
    obtain ⟨l, xs, e, n, hl, hx⟩ := hd2.lsts
    subst e
    rw [dvL_strs hx] at hl
    obtain ⟨h3, h4⟩ := h ys hP
    exact ⟨z, l, ys, rfl, rfl, .inl (.inl (.inl hl)), h3, q _ _ H2 (e1.trans e2) .str h4⟩)
end
/-! ### promises and calls -/
inductive Ar where
  | dat (d : Dt) | dic | scr (ns : List Int)
def ArOk (K : PySem.W.Frag) (D A : Addr → Prop) (H : Hp) (v : V) : Ar → Prop
  | .dat d => Dv A H v d
  | .dic => ∃ m, v = .ref m ∧ D m
  | .scr ns => Scr K A H v ns
def ArsOk (K : PySem.W.Frag) (D A : Addr → Prop) (H : Hp) : List V → List Ar → Prop
  | [], [] => True
  | v :: vs, x :: xs => ArOk K D A H v x ∧ ArsOk K D A H vs xs
  | _, _ => False
theorem ArOk.ext {K : PySem.W.Frag} {D A : Addr → Prop} {H H' : Hp} (e : Ext D H H') (dm : ∀ m, D m → A m) {v : V} : ∀ {x : Ar}, ArOk K D A H v x → ArOk K D A H' v x
  | .dat d, h => e.dv dm h
  | .dic, h => h
  | .scr ns, h => Scr.to (fun a o n q => ⟨e.keep a o (fun z => n (dm a z)) q, n⟩) h
theorem ArsOk.len {K : PySem.W.Frag} {D A : Addr → Prop} {H : Hp} : ∀ {vs : List V} {xs : List Ar}, ArsOk K D A H vs xs → vs.length = xs.length
  | [], [], _ => rfl
  | _ :: _, _ :: _, h => by rw [List.length_cons, List.length_cons, ArsOk.len h.2]
  | [], _ :: _, h => h.elim
  | _ :: _, [], h => h.elim
structure DA (X : Cx) (es : List Expr) (ρ : List Ent) (P : List Ar → Prop) : Prop where
  run : ∀ (D M : Addr → Prop) (σ : S) (H : Hp), EnvOk X.K D M H σ ρ → ∀ Q : List V → Hp → Prop, (∀ vs xs H2, Ext D H H2 → ArsOk X.K D (Av M σ ρ) H2 vs xs → P xs → Q vs H2) → tSemA X es σ H Q
section
variable {X : Cx} {e a b c : Expr} {es : List Expr} {ρ : List Ent} {P P1 P2 P3 : Dt → Prop} {pos p p2 : Pos}
theorem da_nil : DA X [] ρ (Eq []) := .mk fun D M σ H ok Q q => of_pa pa_nil (q [] [] H (.refl H) trivial rfl)
theorem da_consP {P2 : List Ar → Prop} (h1 : DE X e ρ P1) (h2 : DA X es ρ P2) (hs : starEach (e :: es) X.env = (false, eval e X.env) :: starEach es X.env := by exact star_ne rfl) : DA X (e :: es) ρ (fun l => ∃ d xs, l = .dat d :: xs ∧ P1 d ∧ P2 xs) := .mk fun D M σ H ok Q q =>
  of_pa (pa_cons pe_sem pa_sem hs) (h1.run D M σ H ok _ fun v d H1 e1 w p => h2.run D M σ H1 (ok.ext e1) _ fun vs xs H2 e2 ws ps => q (v :: vs) (.dat d :: xs) H2 (e1.trans e2) ⟨e2.dv ok.dmA w, ws⟩ ⟨d, xs, rfl, p, ps⟩)
theorem da_cons {d : Dt} {xs : List Ar} (h1 : DE X e ρ (Eq d)) (h2 : DA X es ρ (Eq xs)) (hs : starEach (e :: es) X.env = (false, eval e X.env) :: starEach es X.env := by exact star_ne rfl) : DA X (e :: es) ρ (Eq (.dat d :: xs)) := .mk fun D M σ H ok Q q =>
  (da_consP h1 h2 hs).run D M σ H ok Q fun vs l H2 e2 w ⟨d', xs', e', h1, h2⟩ => q vs l H2 e2 w (by rw [e', h1, h2])
theorem da_dice {P2 : List Ar → Prop} {i : Nat} {x : Str} (hi : ρ[i]? = some .dice) (h2 : DA X es ρ P2) (hN : X.N[i]? = some x := by rfl) (hv : Vis X.env.scope x := by first | exact Or.inl rfl | exact Or.inr (Or.inl rfl) | exact Or.inr (Or.inr rfl)) (hd : (x == ("__debug__" : Str)) = false := by decide) (hcd : (x == ("__classdict__" : Str)) = false := by decide)
    (hs : starEach (.Name x p :: es) X.env = (false, eval (.Name x p) X.env) :: starEach es X.env := by exact star_ne rfl) : DA X (.Name x p :: es) ρ (fun l => ∃ xs, l = .dic :: xs ∧ P2 xs) := .mk fun D M σ H ok Q q => by
  obtain ⟨m, h1, hm⟩ := ok.dic i hi
  exact of_pa (pa_cons (pe_var hN hv hd hcd) pa_sem hs) ⟨.ref m, h1, h2.run D M σ H ok _ fun vs xs H2 e2 ws ps => q (.ref m :: vs) (.dic :: xs) H2 e2 ⟨⟨m, rfl, hm⟩, ws⟩ ⟨xs, rfl, ps⟩⟩
theorem da_diceD {xs : List Ar} {i : Nat} {x : Str} (hi : ρ[i]? = some .dice) (h2 : DA X es ρ (Eq xs)) (hN : X.N[i]? = some x := by rfl) (hv : Vis X.env.scope x := by first | exact Or.inl rfl | exact Or.inr (Or.inl rfl) | exact Or.inr (Or.inr rfl)) (hd : (x == ("__debug__" : Str)) = false := by decide) (hcd : (x == ("__classdict__" : Str)) = false := by decide)
    (hs : starEach (.Name x p :: es) X.env = (false, eval (.Name x p) X.env) :: starEach es X.env := by exact star_ne rfl) : DA X (.Name x p :: es) ρ (Eq (.dic :: xs)) := .mk fun D M σ H ok Q q =>
  (da_dice hi h2 hN hv hd hcd hs).run D M σ H ok Q fun vs l H2 e2 w ⟨xs', e', h2⟩ => q vs l H2 e2 w (by rw [e', h2])
theorem da_scr {P2 : List Ar → Prop} {i : Nat} {x : Str} {ns : List Int} (hi : ρ[i]? = some (.scr ns)) (h2 : DA X es ρ P2) (hN : X.N[i]? = some x := by rfl) (hv : Vis X.env.scope x := by first | exact Or.inl rfl | exact Or.inr (Or.inl rfl) | exact Or.inr (Or.inr rfl)) (hd : (x == ("__debug__" : Str)) = false := by decide) (hcd : (x == ("__classdict__" : Str)) = false := by decide)
    (hs : starEach (.Name x p :: es) X.env = (false, eval (.Name x p) X.env) :: starEach es X.env := by exact star_ne rfl) : DA X (.Name x p :: es) ρ (fun l => ∃ xs, l = .scr ns :: xs ∧ P2 xs) := .mk fun D M σ H ok Q q => by
  obtain ⟨v, h1, hm⟩ := ok.scr i ns hi
  exact of_pa (pa_cons (pe_var hN hv hd hcd) pa_sem hs) ⟨v, h1, h2.run D M σ H ok _ fun vs xs H2 e2 ws ps => q (v :: vs) (.scr ns :: xs) H2 e2 ⟨hm.to fun a o n q => ⟨e2.keep a o (fun z => n (ok.dmA a z)) q, n⟩, ws⟩ ⟨xs, rfl, ps⟩⟩
end
/-- what a def asks and gives -/
def spA (K : PySem.W.Frag) (pre : List Ar → Prop) (post : List Ar → Dt → Prop) : Sp := fun vs H Q _ => ∃ (D A : Addr → Prop) (xs : List Ar), (∀ m, D m → A m ∧ IsDice H m) ∧ (∀ a, A a → H a ≠ none) ∧ ArsOk K D A H vs xs ∧ pre xs ∧
  ∀ v d H2, Ext D H H2 → Dv A H2 v d → post xs d → Q v H2
/-- .. a new list -/
def spN (K : PySem.W.Frag) (pre : List Ar → Prop) (post : List Ar → List Dt → Prop) : Sp := fun vs H Q _ => ∃ (D A : Addr → Prop) (xs : List Ar), (∀ m, D m → A m ∧ IsDice H m) ∧ (∀ a, A a → H a ≠ none) ∧ ArsOk K D A H vs xs ∧ pre xs ∧
  ∀ p ys ds H2, Ext D H H2 → H p = none → H2 p = some (.lst ys) → DvL (fun a => A a ∨ a = p) H2 ys ds → post xs ds → Q (.ref p) H2
def argE : Ar → Ent
  | .dat d => .val d
  | .dic => .dice
  | .scr ns => .scr ns
def entR (N : List Str) (xs : List Ar) : List Ent := xs.map argE ++ List.replicate (N.length - xs.length) .no
theorem args_get {K : PySem.W.Frag} {D A : Addr → Prop} {H : Hp} : ∀ {vs : List V} {xs : List Ar} {i : Nat} {x : Ar}, ArsOk K D A H vs xs → xs[i]? = some x → ∃ v, vs[i]? = some v ∧ ArOk K D A H v x
  | _ :: _, _ :: _, 0, _, h, e => by
    cases e
    exact ⟨_, rfl, h.1⟩
  | _ :: _, _ :: _, i + 1, _, h, e => args_get (i := i) h.2 e
  | _, [], _, _, _, e => by simp at e
  | [], _ :: _, _, _, h, _ => h.elim
theorem entR_get {N : List Str} {xs : List Ar} {i : Nat} {t : Ent} (h : (entR N xs)[i]? = some t) (hn : t ≠ .no) : ∃ x, xs[i]? = some x ∧ argE x = t := by
  unfold entR at h
  by_cases hi : i < xs.length
  · rw [List.getElem?_append_left (by simpa using hi), List.getElem?_map] at h
    cases e : xs[i]? with
    | none => rw [e] at h; cases h
    | some x =>
      rw [e] at h
      exact ⟨x, rfl, Option.some.inj h⟩
  · rw [List.getElem?_append_right (by simpa using hi), List.getElem?_replicate] at h
    split at h
    · exact absurd (Option.some.inj h).symm hn
    · cases h
theorem start_get {N : List Str} {vs : List V} {i : Nat} {v : V} (h : vs[i]? = some v) : (start N vs)[i]? = some (some v) := by
  unfold L2.start
  have hi : i < vs.length := (List.getElem?_eq_some_iff.mp h).1
  rw [List.getElem?_append_left (by simpa using hi), List.getElem?_map, h]
  rfl
theorem env_start {K : PySem.W.Frag} {D A : Addr → Prop} {H : Hp} {N : List Str} {vs : List V} {xs : List Ar} (dm : ∀ m, D m → A m ∧ IsDice H m) (tr : ∀ a, A a → H a ≠ none) (h : ArsOk K D A H vs xs) : EnvOk K D A H (start N vs) (entR N xs) := by
  have no : ∀ a, ¬ Owned (start N vs) (entR N xs) a := fun a ⟨i, ds, h1, _⟩ => by
    obtain ⟨x, _, e⟩ := entR_get h1 (by intro z; cases z)
    cases x <;> cases e
  have av : ∀ a, Av A (start N vs) (entR N xs) a → A a := fun a z => z.elim id fun z => (no a z).elim
  refine ⟨?_, fun i d hi => ?_, fun i ds hi => ?_, fun i j ds es p h1 _ _ _ => ?_, fun i hi => ?_, fun i ns hi => ?_, dm, tr⟩
  · unfold L2.start entR
    rw [List.length_append, List.length_append, List.length_map, List.length_map, List.length_replicate, List.length_replicate, h.len]
  · obtain ⟨x, hx, e⟩ := entR_get hi (by intro z; cases z)
    obtain ⟨v, hv, hk⟩ := args_get h hx
    cases x with
    | dat d' =>
      cases e
      exact ⟨v, start_get hv, Dv.weak (show Dv A H v d from hk) av⟩
    | dic => cases e
    | scr _ => cases e
  · obtain ⟨x, _, e⟩ := entR_get hi (by intro z; cases z)
    cases x <;> cases e
  · obtain ⟨x, _, e⟩ := entR_get h1 (by intro z; cases z)
    cases x <;> cases e
  · obtain ⟨x, hx, e⟩ := entR_get hi (by intro z; cases z)
    obtain ⟨v, hv, hk⟩ := args_get h hx
    cases x with
    | dat d' => cases e
    | dic =>
      obtain ⟨m, rfl, hm⟩ := (show ∃ m, v = .ref m ∧ D m from hk)
      exact ⟨m, start_get hv, hm⟩
    | scr _ => cases e
  · obtain ⟨x, hx, e⟩ := entR_get hi (by intro z; cases z)
    obtain ⟨v, hv, hk⟩ := args_get h hx
    cases x with
    | dat d' => cases e
    | dic => cases e
    | scr ns' =>
      cases e
      exact ⟨v, start_get hv, Scr.to (fun a _ n q => ⟨q, fun z => n (av a z)⟩) (show Scr K A H v ns from hk)⟩
section
variable {P : Program} {w : World} {K : PySem.W.Frag} {mg : Str → Option Value} {base : Heap}
theorem stp_ext {D M D' M' : Addr → Prop} {σ σ' : S} {ρ ρ' : List Ent} {H H' : Hp} (s : Stp D M σ ρ H D' M' σ' ρ' H') (no : ∀ a, ¬ Owned σ ρ a) : Ext D H H' := ⟨fun a o n h => s.keep a o n (no a) h, fun m n _ => (s.dice m n).2⟩
theorem no_own {N : List Str} {vs : List V} {xs : List Ar} (a : Addr) : ¬ Owned (start N vs) (entR N xs) a := fun ⟨i, ds, h1, _⟩ => by
  obtain ⟨x, _, e⟩ := entR_get h1 (by intro z; cases z)
  cases x <;> cases e
/-- a def keeps its promise -/
theorem fn_A {x qual : Str} {st : Stmt} {f : Addr} {fd : FuncData} {N ps : List Str} {k : Nat} {pre : List Ar → Prop} {post : List Ar → Dt → Prop} (F : Fun K x qual st f fd) (S : FnScope N ps (defScope st)) (len : ∀ xs, pre xs → xs.length = ps.length)
    (hbody : ∀ (cdv : Value) (A : Around) (outer : List Env) (s : Shared) (H : Hp) (E : XK), Room k (A.deeper (PyProof.Rows.envOfC qual (defScope st) s.heap.objs.size f cdv)) → ∀ xs, pre xs →
      DSs (cxOf CX0 P w K mg base N qual (defScope st) f cdv A outer s H E).nox (defBody st) (entR N xs) { R := post xs, N := fun _ => post xs .non, L := fun ds => post xs (.lst ds) }) : FnOk P w K mg base CX0 (k + 1) f fd ps (spA K pre post) := by
  refine F.ok S (fun vs H Q E ⟨D, A, xs, h1, h2, h3, h4, h5⟩ => by rw [h3.len]; exact len xs h4) (fun cdv A outer s H vs Q E hr h => ?_)
  obtain ⟨D, A', xs, h1, h2, h3, h4, h5⟩ := h
  refine ⟨_, pb_sem, (hbody cdv A outer s H E hr xs h4).run D A' (start N vs) H (env_start h1 h2 h3) _ ⟨fun D' M' σ' H' ρ' ok s n => ?_, fun v d D' M' σ' H' ρ' s hd r => ?_, fun p xs ds D' M' σ' H' ρ' s hp hx hd r => ?_, fun _ _ _ _ _ _ _ n => n.elim, fun _ _ _ _ _ _ _ n => n.elim⟩⟩
  · exact h5 .non .non H' (stp_ext s no_own) .non n
  · exact h5 v d H' (stp_ext s no_own) hd r
  · exact h5 (.ref p) (.lst ds) H' (stp_ext s no_own) (.lst (fun z => h2 p z hp) hx (hd.weak fun _ z => .inl z)) r
theorem fn_N {x qual : Str} {st : Stmt} {f : Addr} {fd : FuncData} {N ps : List Str} {k : Nat} {pre : List Ar → Prop} {post : List Ar → List Dt → Prop} (F : Fun K x qual st f fd) (S : FnScope N ps (defScope st)) (len : ∀ xs, pre xs → xs.length = ps.length)
    (hbody : ∀ (cdv : Value) (A : Around) (outer : List Env) (s : Shared) (H : Hp) (E : XK), Room k (A.deeper (PyProof.Rows.envOfC qual (defScope st) s.heap.objs.size f cdv)) → ∀ xs, pre xs →
      DSs (cxOf CX0 P w K mg base N qual (defScope st) f cdv A outer s H E).nox (defBody st) (entR N xs) { L := post xs }) : FnOk P w K mg base CX0 (k + 1) f fd ps (spN K pre post) := by
  refine F.ok S (fun vs H Q E ⟨D, A, xs, h1, h2, h3, h4, h5⟩ => by rw [h3.len]; exact len xs h4) (fun cdv A outer s H vs Q E hr h => ?_)
  obtain ⟨D, A', xs, h1, h2, h3, h4, h5⟩ := h
  refine ⟨_, pb_sem, (hbody cdv A outer s H E hr xs h4).run D A' (start N vs) H (env_start h1 h2 h3) _ ⟨fun D' M' σ' H' ρ' ok s n => n.elim, fun v d D' M' σ' H' ρ' s hd r => r.elim, fun p xs ds D' M' σ' H' ρ' s hp hx hd r => ?_, fun _ _ _ _ _ _ _ n => n.elim, fun _ _ _ _ _ _ _ n => n.elim⟩⟩
  exact h5 p xs ds H' (stp_ext s no_own) hp hx hd r
end
section
variable {X : Cx} {e a b c : Expr} {es : List Expr} {ρ : List Ent} {P : Dt → Prop} {pos p p2 : Pos}
theorem de_call {x : Str} {k : Nat} {f : Addr} {fd : FuncData} {ps : List Str} {pre : List Ar → Prop} {post : List Ar → Dt → Prop} {P0 : List Ar → Prop} (F : FnOk X.prog X.w X.K X.mg X.base CX0 k f fd ps (spA X.K pre post)) (hr : Room k X.A) (hm : X.mg x = some (.ref f)) (hk : PySem.W.keepIn X.K (.ref f) = true) (hb : Binds X.K fd ps [])
    (ha : DA X (e :: es) ρ P0) (h : ∀ xs, P0 xs → pre xs ∧ ∀ d, post xs d → P d) (hg : Gl X x := by rfl) (hdb : (x == ("__debug__" : Str)) = false := by decide) (he : starEach (e :: es) X.env = (false, eval e X.env) :: starEach es X.env := by exact star_ne rfl) (hpl : (backTo pos (starEach es X.env)).any (·.1) = false := by exact star_any rfl) :
    DE X (.Call (.Name x p) (e :: es) [] pos) ρ P := .mk fun D M σ H ok Q q =>
  of_pe (pe_call F hr hg hm hk hb .nil pass0 pa_sem hdb he hpl) (ha.run D M σ H ok _ fun vs xs H2 e2 w hP => by
    rw [List.append_nil]
    obtain ⟨h1, h2⟩ := h xs hP
    exact ⟨D, Av M σ ρ, xs, fun m z => ⟨ok.dmA m z, (ok.ext e2).dd m z⟩, fun a z => (ok.ext e2).avs z, w, h1, fun v d H3 e3 hd hp => q v d H3 (e2.trans e3) hd (h2 d hp)⟩)
theorem dn_call {x : Str} {k : Nat} {f : Addr} {fd : FuncData} {ps : List Str} {pre : List Ar → Prop} {post : List Ar → List Dt → Prop} {P0 : List Ar → Prop} {P : List Dt → Prop} (F : FnOk X.prog X.w X.K X.mg X.base CX0 k f fd ps (spN X.K pre post)) (hr : Room k X.A) (hm : X.mg x = some (.ref f)) (hk : PySem.W.keepIn X.K (.ref f) = true) (hb : Binds X.K fd ps [])
    (ha : DA X (e :: es) ρ P0) (h : ∀ xs, P0 xs → pre xs ∧ ∀ d, post xs d → P d) (hg : Gl X x := by rfl) (hdb : (x == ("__debug__" : Str)) = false := by decide) (he : starEach (e :: es) X.env = (false, eval e X.env) :: starEach es X.env := by exact star_ne rfl) (hpl : (backTo pos (starEach es X.env)).any (·.1) = false := by exact star_any rfl) :
    DN X (.Call (.Name x p) (e :: es) [] pos) ρ P := .mk fun D M σ H ok Q q =>
  of_pe (pe_call F hr hg hm hk hb .nil pass0 pa_sem hdb he hpl) (ha.run D M σ H ok _ fun vs xs H2 e2 w hP => by
    rw [List.append_nil]
    obtain ⟨h1, h2⟩ := h xs hP
    exact ⟨D, Av M σ ρ, xs, fun m z => ⟨ok.dmA m z, (ok.ext e2).dd m z⟩, fun a z => (ok.ext e2).avs z, w, h1, fun p ys ds H3 e3 hp hx hd hq => q p ys ds H3 (e2.trans e3) (e2.back ok hp) hx hd (h2 ds hq)⟩)
end
/-! ### dice -/
def DB : Nat → Int → Prop
  | 0, n => 0 ≤ n ∧ n < big600
  | 1, n => 0 ≤ n ∧ n < 2305843009213693613
  | _, n => 0 ≤ n
section
variable {X : Cx} {e : Expr} {ρ : List Ent} {pos p p2 p3 : Pos} {rest : List Stmt} {O : Out}
theorem de_dix {i j : Nat} {x : Str} (k : Nat) (hk : k < 3) (hi : ρ[i]? = some .dice) (hN : X.N[i]? = some x := by rfl) (hv : Vis X.env.scope x := by first | exact Or.inl rfl | exact Or.inr (Or.inl rfl) | exact Or.inr (Or.inr rfl)) (hd : (x == ("__debug__" : Str)) = false := by decide) (hcd : (x == ("__classdict__" : Str)) = false := by decide) :
    DE X (.Subscript (.Name x p) (.Constant (.int k) j p2) pos) ρ (IntP (DB k)) := .mk fun D M σ H ok Q q => by
  obtain ⟨m, h1, hm⟩ := ok.dic i hi
  obtain ⟨a, b, c, h2, h3, h4, h5, h6, h7⟩ := ok.dd m hm
  refine of_pe (pe_ix ix_list (pe_var hN hv hd hcd) pe_int (fun _ _ => rfl)) ⟨.ref m, h1, ?_⟩
  have : k = 0 ∨ k = 1 ∨ k = 2 := by omega
  rcases this with rfl | rfl | rfl
  · exact ⟨m, _, _, .int a, rfl, rfl, .inl (.inl h2), rfl, q _ (.int a) H (.refl H) .int ⟨a, rfl, h3, h4⟩⟩
  · exact ⟨m, _, _, .int b, rfl, rfl, .inl (.inl h2), rfl, q _ (.int b) H (.refl H) .int ⟨b, rfl, h5, h6⟩⟩
  · exact ⟨m, _, _, .int c, rfl, rfl, .inl (.inl h2), rfl, q _ (.int c) H (.refl H) .int ⟨c, rfl, h7⟩⟩
theorem dss_dset {i j : Nat} {x : Str} (k : Nat) (hk : k < 3) (hi : ρ[i]? = some .dice) (he : DE X e ρ (IntP (DB k))) (h : DSs X rest ρ O) (hN : X.N[i]? = some x := by rfl) (hv : Vis X.env.scope x := by first | exact Or.inl rfl | exact Or.inr (Or.inl rfl) | exact Or.inr (Or.inr rfl)) (hd : (x == ("__debug__" : Str)) = false := by decide) (hcd : (x == ("__classdict__" : Str)) = false := by decide)
    (ha : ∀ v, assign (.Subscript (.Name x p) (.Constant (.int k) j p2) p3) X.env v = (do
      let ov ← holding [v] (eval (.Name x p) X.env)
      let iv ← holding [v, ov] (eval (.Constant (.int k) j p2) X.env)
      standAt p3
      holding [v, ov, iv] (setItem ov iv v)
      release [v, ov, iv] []) := by intro _; rfl) (hs : swapsWithSole [.Subscript (.Name x p) (.Constant (.int k) j p2) p3] e pos.line X.env = pure false := by rfl) (hw : swappedStores [.Subscript (.Name x p) (.Constant (.int k) j p2) p3] e X.env = pure none := by rfl)
    (h1 : (assignEach [.Subscript (.Name x p) (.Constant (.int k) j p2) p3] X.env).map (·.2) = [assign (.Subscript (.Name x p) (.Constant (.int k) j p2) p3) X.env] := by rfl) :
    DSs X (.Assign [.Subscript (.Name x p) (.Constant (.int k) j p2) p3] e pos :: rest) ρ O := dss_cons (N1 := Eq ρ) (.mk fun D M σ H ok E kk => by
  refine of_ps (ps_asg pe_sem (pg_sub (pe_var hN hv hd hcd) pe_int set_list ha) hs hw h1) (he.run D M σ H ok _ fun v d H2 e2 hd2 ⟨n, hn, hb⟩ => ?_)
  subst hn
  have ok2 := ok.ext e2
  obtain ⟨m, h1, hm⟩ := ok2.dic i hi
  obtain ⟨a, b, c, h2, h3, h4, h5, h6, h7⟩ := ok2.dd m hm
  rw [hd2.ints]
  have hset : ∃ a' b' c', [V.int a, V.int b, V.int c].set k (.int n) = [.int a', .int b', .int c'] ∧ 0 ≤ a' ∧ a' < big600 ∧ 0 ≤ b' ∧ b' < 2305843009213693613 ∧ 0 ≤ c' := by
    have : k = 0 ∨ k = 1 ∨ k = 2 := by omega
    rcases this with rfl | rfl | rfl
    · exact ⟨n, b, c, rfl, hb.1, hb.2, h5, h6, h7⟩
    · exact ⟨a, n, c, rfl, h3, h4, hb.1, hb.2, h7⟩
    · exact ⟨a, b, n, rfl, h3, h4, h5, h6, hb⟩
  refine ⟨.ref m, h1, m, [.int a, .int b, .int c], k, k, rfl, rfl, h2, ?_, ?_⟩
  · have : k = 0 ∨ k = 1 ∨ k = 2 := by omega
    rcases this with rfl | rfl | rfl <;> rfl
  · obtain ⟨a', b', c', e3, hr⟩ := hset
    rw [e3]
    have ex : Ext D H2 (upd H2 m (.lst [.int a', .int b', .int c'])) := ⟨fun x o nd hx => by
      rw [upd_ne (show x ≠ m from fun z => nd (by rw [z]; exact hm))]
      exact hx, fun m' hm' hd' => by
      by_cases z : m' = m
      · subst z
        exact ⟨a', b', c', upd_same, hr⟩
      · obtain ⟨x, y, z', q1, q2⟩ := hd'
        exact ⟨x, y, z', by rw [upd_ne z]; exact q1, q2⟩⟩
    exact kk.nx D M σ _ ρ (ok2.ext ex) ((e2.trans ex).stp ok.dd) rfl) fun _ q => by
  subst q
  exact h
/-- name = a new list of three ints within the bounds: dice from here on -/
theorem dss_dice {i : Nat} {z : Str} {pos' : Pos} (hN : X.N.Nodup) (he : DN X e ρ fun ds => ∃ a b c : Int, ds = [.int a, .int b, .int c] ∧ 0 ≤ a ∧ a < big600 ∧ 0 ≤ b ∧ b < 2305843009213693613 ∧ 0 ≤ c) (hno : NotOwn (ρ[i]?)) (h : DSs X rest (ρ.set i .dice) O) (hi : X.N[i]? = some z := by rfl) (hx : Loc X.env.scope z := by first | exact .inl rfl | exact .inr rfl) (hs : swapsWith e (some (.Name z pos')) pos.line X.env = pure false := by rfl) (hf : X.fn z = true ∨ X.env.scope.names.lookup z = some .local := by first | exact .inl rfl | exact .inr rfl) :
    DSs X (.Assign [.Name z pos'] e pos :: rest) ρ O := dss_cons (N1 := Eq (ρ.set i .dice)) (.mk fun D M σ H ok E k =>
  of_ps (ps_set hN hi hx pe_sem hs hf) (he.run D M σ H ok _ fun p xs ds H2 e2 hp hxx hd ⟨a, b, c, hds, hb⟩ => by
    subst hds
    have hxs : xs = [.int a, .int b, .int c] := by
      match xs, hd with
      | [x1, x2, x3], hd =>
        simp only [DvL] at hd
        rw [hd.1.ints, hd.2.1.ints, hd.2.2.1.ints]
      | [], hd => simp only [DvL] at hd
      | [_], hd => simp only [DvL] at hd; exact hd.2.elim
      | [_, _], hd => simp only [DvL] at hd; exact hd.2.2.elim
      | _ :: _ :: _ :: _ :: _, hd => simp only [DvL] at hd; exact hd.2.2.2.elim
    subst hxs
    have np : ¬ Av M σ ρ p := fresh_av ok hp
    have nd : ¬ D p := fun z => np (ok.dmA p z)
    have is : IsDice H2 p := ⟨a, b, c, hxx, hb⟩
    have ow : ∀ q, Owned (σ.set i (some (.ref p))) (ρ.set i .dice) q → Owned σ ρ q := fun q z => owned_set (e := .dice) (fun _ q => by cases q) z
    have to : ∀ q o, ¬ Av M σ ρ q → H q = some o → H2 q = some o ∧ ¬ Av (fun a => M a ∨ a = p) (σ.set i (some (.ref p))) (ρ.set i .dice) q := fun q o n hq => ⟨e2.keep q o (fun z => n (ok.dmA q z)) hq, fun z => by
      rcases z with (z | z) | z
      · exact n (.inl z)
      · rw [z, hp] at hq; cases hq
      · exact n (.inr (ow q z))⟩
    have ok2 := ok.ext e2
    refine k.nx (fun a => D a ∨ a = p) (fun a => M a ∨ a = p) _ H2 _ ⟨by rw [List.length_set, List.length_set]; exact ok.len, fun j d hj => ?_, fun j es hj => ?_, fun j l es fs q h1 h2 h3 h4 => ?_, fun j hj => ?_, fun j ns hj => ?_, fun m hm => ?_, fun q hq => ?_⟩ ?_ rfl
    · rcases getElem?_set_some hj with ⟨rfl, q, _⟩ | ⟨n, hj⟩
      · cases q
      · obtain ⟨u, h1, h2⟩ := ok.val j d hj
        exact ⟨u, by rw [List.getElem?_set_ne n]; exact h1, h2.to to⟩
    · rcases getElem?_set_some hj with ⟨rfl, q, _⟩ | ⟨n, hj⟩
      · cases q
      · obtain ⟨q, ys, h1, h2, h3, h4⟩ := ok.own j es hj
        refine ⟨q, ys, by rw [List.getElem?_set_ne n]; exact h1, e2.keep q _ (fun z => h4 (ok.dm q z).1) h2, h3.to to, fun z => ?_⟩
        rcases z with z | z
        · exact h4 z
        · rw [z, hp] at h2; cases h2
    · rcases getElem?_set_some h1 with ⟨_, q, _⟩ | ⟨n1, h1⟩
      · cases q
      · rcases getElem?_set_some h2 with ⟨_, q, _⟩ | ⟨n2, h2⟩
        · cases q
        · rw [List.getElem?_set_ne n1] at h3
          rw [List.getElem?_set_ne n2] at h4
          exact ok.dist j l es fs q h1 h2 h3 h4
    · rcases getElem?_set_some hj with ⟨rfl, _, z⟩ | ⟨n, hj⟩
      · exact ⟨p, by rw [List.getElem?_set_self (by rw [ok.len]; exact z)], .inr rfl⟩
      · obtain ⟨m, h1, h2⟩ := ok.dic j hj
        exact ⟨m, by rw [List.getElem?_set_ne n]; exact h1, .inl h2⟩
    · rcases getElem?_set_some hj with ⟨rfl, q, _⟩ | ⟨n, hj⟩
      · cases q
      · obtain ⟨u, h1, h2⟩ := ok.scr j ns hj
        exact ⟨u, by rw [List.getElem?_set_ne n]; exact h1, h2.to to⟩
    · rcases hm with hm | hm
      · exact ⟨.inl (ok2.dm m hm).1, (ok2.dm m hm).2⟩
      · subst hm
        exact ⟨.inr rfl, is⟩
    · rcases hq with hq | hq
      · exact ok2.trk q hq
      · rw [hq, hxx]
        exact fun z => nomatch z
    · have s := e2.stp (M := M) (σ := σ) (ρ := ρ) ok.dd
      exact ⟨s.keep, s.dice, s.trk, fun q z => .inl (ow q z), fun q z => z.elim .inl fun z => .inr (by rw [z]; exact hp), fun q z => z.elim .inl fun z => .inr (by rw [z]; exact hp), fun _ z => .inl z, fun _ z => .inl z⟩)) fun _ q => by
  subst q
  exact h
end
end WT
namespace WT
open PySem L2
/-- an expression that changes the list that slot o owns -/
structure DM (X : Cx) (e : Expr) (ρ : List Ent) (o : Nat) (P : List Dt → Dt → Prop) : Prop where
  run : ∀ (D M : Addr → Prop) (σ : S) (H : Hp), EnvOk X.K D M H σ ρ → ∀ Q : VK,
  (∀ v d ls H2, EnvOk X.K D M H2 σ (ρ.set o (.own ls)) → Stp D M σ ρ H D M σ (ρ.set o (.own ls)) H2 → Dv (Av M σ ρ) H2 v d → P ls d → Q v H2) → tSem X e σ H Q
structure DNm (X : Cx) (e : Expr) (ρ : List Ent) (o : Nat) (P : List Dt → List Dt → Prop) : Prop where
  run : ∀ (D M : Addr → Prop) (σ : S) (H : Hp), EnvOk X.K D M H σ ρ → ∀ Q : VK,
  (∀ p xs ds ls H2, Stp D M σ ρ H D M σ (ρ.set o (.own ls)) H2 → H p = none → H2 p = some (.lst xs) → DvL (fun a => Av M σ ρ a ∨ a = p) H2 xs ds → P ls ds → Q (.ref p) H2) → tSem X e σ H Q
theorem owned_own {σ : S} {ρ : List Ent} {o : Nat} {ls ms : List Dt} (ho : ρ[o]? = some (.own ls)) (a : Addr) : Owned σ (ρ.set o (.own ms)) a ↔ Owned σ ρ a := by
  constructor
  · rintro ⟨i, ds, h1, h2⟩
    rcases getElem?_set_some h1 with ⟨rfl, _, _⟩ | ⟨n, h1⟩
    · exact ⟨o, ls, ho, h2⟩
    · exact ⟨i, ds, h1, h2⟩
  · rintro ⟨i, ds, h1, h2⟩
    by_cases n : o = i
    · subst n
      exact ⟨o, ms, List.getElem?_set_self (List.getElem?_eq_some_iff.mp h1).1, h2⟩
    · exact ⟨i, ds, by rw [List.getElem?_set_ne n]; exact h1, h2⟩
section
variable {X : Cx} {e a b elt iter : Expr} {ρ : List Ent} {pos p p2 apos : Pos} {rest : List Stmt} {O : Out} {scope : Scope} {ifs : List Expr}
theorem dss_retNm {o : Nat} {P : List Dt → List Dt → Prop} (he : DNm X e ρ o P) (hO : ∀ ls d, P ls d → O.L d) : DSs X (.Return (some e) pos :: rest) ρ O := .mk fun D M σ H ok E k =>
  of_pb (pss_cons (ps_ret pe_sem) (u := tNever) pss_never) (he.run D M σ H ok _ fun p xs ds ls H2 st hp hx hd hP => k.ln p xs ds D M σ H2 _ st hp hx (hd.weak fun a z => z.elim (fun z => .inl (.inl z)) .inr) (hO ls ds hP))
theorem eraseIdx_dv {A : Addr → Prop} {H : Hp} : ∀ {xs : List V} {ds : List Dt} (i : Nat), DvL A H xs ds → DvL A H (xs.eraseIdx i) (ds.eraseIdx i)
  | [], [], _, _ => .nil
  | _ :: _, _ :: _, 0, h => by unfold DvL at h; exact h.2
  | _ :: _, _ :: _, i + 1, h => by unfold DvL at h; exact .cons h.1 (eraseIdx_dv i h.2)
  | [], _ :: _, _, h => by unfold DvL at h; exact h.elim
  | _ :: _, [], _, h => by unfold DvL at h; exact h.elim
/-- own.pop(e) -/
theorem dm_pop {o : Nat} {x : Str} {ls : List Dt} {q : Int → Prop} {P : List Dt → Dt → Prop} (ho : ρ[o]? = some (.own ls)) (hs : ls.length ≤ 100000) (he : DE X e ρ (IntP q)) (h : ∀ i, q i → ∃ (k : Nat) (d : Dt), i = k ∧ ls[k]? = some d ∧ P (ls.eraseIdx k) d) (hN : X.N[o]? = some x := by rfl) (hv : Vis X.env.scope x := by first | exact Or.inl rfl | exact Or.inr (Or.inl rfl) | exact Or.inr (Or.inr rfl)) (hd : (x == ("__debug__" : Str)) = false := by decide) (hcd : (x == ("__classdict__" : Str)) = false := by decide)
    (hbase : attributeBase (.Name x p) "pop" X.env (eval (.Name x p) X.env) = eval (.Name x p) X.env := by rfl)
    (hfew : ((backTo pos (starEach (e :: []) X.env)).all (fun x => !x.1) && (backToKw pos (keywordEach [] X.env)).all (fun x => x.1.isSome)
      && decide ((e :: []).length + ([] : List Keyword).length + (if ([] : List Keyword).isEmpty then 0 else 1) < 30)) = true := by rfl)
    (hline : (apos.endLine == pos.line) = true := by rfl) (hst : starEach (e :: []) X.env = (false, eval e X.env) :: starEach [] X.env := by exact star_ne rfl) (hplain : (backTo pos (starEach [] X.env)).any (·.1) = false := by exact star_any rfl) :
    DM X (.Call (.Attribute (.Name x p) "pop" apos) [e] [] pos) ρ o P := .mk fun D M σ H ok Q k => by
  obtain ⟨l, xs, h1, h2, h3, h4⟩ := ok.own o ls ho
  refine of_pe (pe_bm PySem.F.plainAttrs_list PySem.F.slot_list_pop PySem.F.type_list_pop mt_popAt (pe_var hN hv hd hcd) (pa_cons pe_sem pa_nil hst) hbase hfew hline hst hplain) ⟨.ref l, h1, .inl ⟨rfl, xs, .inl (.inl h2)⟩, he.run D M σ H ok _ fun v d H2 e2 hdv ⟨i, ei, hq⟩ => ?_⟩
  subst ei
  rw [hdv.ints]
  obtain ⟨j, d, ej, hj, hP⟩ := h i hq
  have ok2 := ok.ext e2
  obtain ⟨l', xs', h1', h2', h3', h4'⟩ := ok2.own o ls ho
  rw [h1] at h1'
  cases h1'
  obtain ⟨y, hy, dy⟩ := h3'.get hj
  have hlen := h3'.len
  have hjl : j < xs'.length := (List.getElem?_eq_some_iff.mp hy).1
  have hD : ¬ D l := fun z => h4 (ok.dm _ z).1
  refine ⟨l, xs', i, j, y, rfl, rfl, h2', by omega, by omega, ?_, hy, ?_⟩
  · rw [ej]
    exact PySem.StrLaws.seqIndex_nonneg (by omega) (by omega)
  · have ok3 := ok2.mut o ho h1 (eraseIdx_dv j h3')
    have st := (e2.stp (M := M) (σ := σ) (ρ := ρ) ok.dd).trans (Stp.mut (ds := ls.eraseIdx j) (o := .lst (xs'.eraseIdx j)) ok2.dd o ho h1 hD)
    refine k y d (ls.eraseIdx j) _ ok3 st ?_ hP
    exact dy.to fun a u n hu => ⟨by rw [upd_ne (show a ≠ l from fun z => n (.inr ⟨o, ls, ho, by rw [z]; exact h1⟩))]; exact hu, n⟩
theorem DE.m {P : Dt → Prop} {o : Nat} {ls : List Dt} (ho : ρ[o]? = some (.own ls)) (h : DE X e ρ P) : DM X e ρ o (fun ms d => ms = ls ∧ P d) := .mk fun D M σ H ok Q k =>
  h.run D M σ H ok Q fun v d H2 e2 hd hP => by
    have er : ρ.set o (.own ls) = ρ := by
      apply List.ext_getElem?
      intro i
      by_cases n : o = i
      · subst n
        rw [List.getElem?_set_self (List.getElem?_eq_some_iff.mp ho).1, ho]
      · rw [List.getElem?_set_ne n]
    exact k v d ls H2 (by rw [er]; exact ok.ext e2) (by rw [er]; exact e2.stp ok.dd) hd ⟨rfl, hP⟩
/-- [.. for name in ..], each turn changing the owned list -/
theorem dn_lcM {P : List Dt → Prop} {j o : Nat} {z : Str} {px : Pos} {ls0 : List Dt} (J : List Dt → Nat → List Dt → List Dt → Prop) (hN : X.N.Nodup) (ho : ρ[o]? = some (.own ls0)) (hjo : j ≠ o) (hi : DIt X (.Name z px) iter ρ P) (hlen : ∀ ds, P ds → ds.length ≤ 100000) (okb : BlkOk X.N X.env.scope scope [(z, j)]) (h0 : ∀ ds, P ds → J ds 0 ls0 [])
    (he : ∀ (s : Shared) (H : Hp) (C : Addr) (cl : List (Str × Addr)) (fp : List Addr) (ds : List Dt) (i : Nat) (d : Dt) (ls es : List Dt), P ds → ds[i]? = some d → J ds i ls es → DM (X.blk s H scope (compEnvC scope cl C X.env) fp) elt (((ρ.set o (.own ls)).set j .no).set j (.val d)) o (fun ls' y => J ds (i + 1) ls' (es ++ [y])))
    (hg : ∀ (s : Shared) (H : Hp) (C : Addr) (cl : List (Str × Addr)) (fp : List Addr), PG (X.blk s H scope (compEnvC scope cl C X.env) fp) (.Name z px) (gName j)) (hj : NotOwn (ρ[j]?)) (hjl : j < ρ.length) (hc : X.calm = true := by rfl) (hsx : ∀ x, foldedSetIterable iter X.env x = pure x := by intro _; rfl) :
    DNm X (.ListComp elt [⟨.Name z px, iter, [], 0⟩] scope pos) ρ o (fun ls es => ∃ ds, P ds ∧ J ds ds.length ls es) := .mk fun D M σ H ok Q q => by
  refine of_pe (pe_lc (own := [(z, j)]) (wi := tSemI X (.Name z px) iter) (g := gName j) (tt := tYes)
    (te := fun σ2 H2 Q2 => ∀ (s : Shared) (H : Hp) (C : Addr) (cl : List (Str × Addr)) (fp : List Addr), tSem (X.blk s H scope (compEnvC scope cl C X.env) fp) elt σ2 H2 Q2)
    hc hN pi_sem okb hg (fun s H C cl fp => pts_nil) (fun s H C cl fp => ⟨fun pins s' σ2 H2 Q2 I h => h s H C cl fp pins s' I⟩) hsx) (hi.run D M σ H ok _ fun JJ ds H1 e1 it hP => ?_)
  have ok1 := ok.ext e1
  intro L hL
  have nL : ¬ D L := fun z => by
    obtain ⟨_, _, _, q, _⟩ := ok1.dd L z
    rw [hL] at q; cases q
  have oL : ¬ Owned σ ρ L := fun z => by
    obtain ⟨⟨xs, q⟩, _⟩ := ok1.owned z
    rw [hL] at q; cases q
  obtain ⟨po, xso, hso, _⟩ := ok1.own o ls0 ho
  have ho' : ∀ ls, ((ρ.set o (.own ls)).set j .no)[o]? = some (.own ls) := fun ls => by
    rw [List.getElem?_set_ne hjo, List.getElem?_set_self (List.getElem?_eq_some_iff.mp ho).1]
  refine ⟨fun i m H' => m = ds.length - i ∧ i ≤ ds.length ∧ ∃ ls xs es, EnvOk X.K D (fun a => M a ∨ a = L) H' (σ.set j none) ((ρ.set o (.own ls)).set j .no) ∧ (∀ a u, ¬ D a → ¬ Owned σ ρ a → H1 a = some u → H' a = some u) ∧ (∀ a, H' a = none → H1 a = none) ∧
    H' L = some (.lst xs) ∧ DvL (fun a => Av M σ ρ a ∨ a = L) H' xs es ∧ es.length ≤ i ∧ J ds i ls es, ⟨ds.length, rfl, Nat.zero_le _, ls0, [], [], ?_, ?_, ?_, upd_same, .nil, Nat.le_refl _, h0 ds hP⟩, ?_⟩
  · have er : ρ.set o (.own ls0) = ρ := by
      apply List.ext_getElem?
      intro i
      by_cases n : o = i
      · subst n
        rw [List.getElem?_set_self (List.getElem?_eq_some_iff.mp ho).1, ho]
      · rw [List.getElem?_set_ne n]
    rw [er]
    exact (ok1.more (.new hL) hL (by rw [upd_same]; exact fun z => nomatch z)).setNo j none
  · intro a u _ _ h
    rw [upd_ne (ne_of_none h hL)]
    exact h
  · intro a h
    by_cases z : a = L
    · rw [z]; exact hL
    · rw [upd_ne z] at h
      exact h
  rintro i m H' ⟨rfl, hile, ls, xs, es, okM, keep, trk, hx, hv, hel, hJ⟩
  have ow : ∀ a, Owned (σ.set j none) ((ρ.set o (.own ls)).set j .no) a ↔ Owned σ ρ a := fun a =>
    ⟨fun z => (owned_own ho a).mp (owned_set (e := .no) (fun _ q => by cases q) z), fun z => owned_no (by
      rw [List.getElem?_set_ne (Ne.symm hjo)]
      exact hj) ((owned_own ho a).mpr z)⟩
  have av : ∀ a, Av (fun a => M a ∨ a = L) (σ.set j none) ((ρ.set o (.own ls)).set j .no) a ↔ (Av M σ ρ a ∨ a = L) := fun a =>
    ⟨fun z => z.elim (fun z => z.elim (fun z => .inl (.inl z)) .inr) fun z => .inl (.inr ((ow a).mp z)), fun z => z.elim (fun z => z.elim (fun z => .inl (.inl z)) fun z => .inr ((ow a).mpr z)) fun z => .inl (.inr z)⟩
  obtain ⟨hstop, hgo⟩ := it (Av (fun a => M a ∨ a = L) (σ.set j none) ((ρ.set o (.own ls)).set j .no)) H' (fun a u n h => ⟨keep a u (fun z => n (ok1.dmA a z)) (fun z => n (.inr z)) h, fun z => by
    rcases (av a).mp z with z | z
    · exact n z
    · rw [z, hL] at h; cases h⟩) (fun a z => okM.avs z)
  by_cases hlt : i < ds.length
  · obtain ⟨go, hy⟩ := hgo i ds[i] (List.getElem?_eq_getElem hlt)
    refine .inr ⟨go, fun H2 => ∃ ls xs es, EnvOk X.K D (fun a => M a ∨ a = L) H2 (σ.set j none) ((ρ.set o (.own ls)).set j .no) ∧ (∀ a u, ¬ D a → ¬ Owned σ ρ a → H1 a = some u → H2 a = some u) ∧ (∀ a, H2 a = none → H1 a = none) ∧
      H2 L = some (.lst xs) ∧ DvL (fun a => Av M σ ρ a ∨ a = L) H2 xs es ∧ es.length ≤ i + 1 ∧ J ds (i + 1) ls es, fun H2 h2 => ⟨ds.length - (i + 1), by omega, rfl, hlt, h2⟩, fun v H'' yl => ?_⟩
    obtain ⟨nw, dv⟩ := hy v H'' yl
    have en : Ext D H' H'' := nw.ext
    have hw : wipe σ [j] = σ.set j none := rfl
    show wipe (((wipe σ [j]).set j (some v))) [j] = wipe σ [j] ∧ _
    rw [hw]
    refine ⟨by show ((σ.set j none).set j (some v)).set j none = σ.set j none; rw [List.set_set, List.set_set], ?_⟩
    have okN := (okM.ext en).set j dv
    unfold tYes
    dsimp only
    rw [if_pos rfl]
    show ∀ (s : Shared) (H : Hp) (C : Addr) (cl : List (Str × Addr)) (fp : List Addr), _
    intro s1 H1' C1 cl1 fp1
    refine (he s1 H1' C1 cl1 fp1 ds i ds[i] ls es hP (List.getElem?_eq_getElem hlt) hJ).run D _ _ H'' okN _ fun y d ls' H4 ok4 st4 hd4 hp4 => ?_
    have ho2 : ((((ρ.set o (.own ls)).set j .no).set j (.val ds[i])))[o]? = some (.own ls) := by rw [List.getElem?_set_ne hjo]; exact ho' ls
    have ow2 : ∀ a, Owned ((σ.set j none).set j (some v)) (((ρ.set o (.own ls)).set j .no).set j (.val ds[i])) a → Owned σ ρ a := fun a z => (ow a).mp (owned_set (e := .val ds[i]) (fun _ q => by cases q) z)
    have wo2 : ∀ a, Owned σ ρ a → Owned ((σ.set j none).set j (some v)) (((ρ.set o (.own ls)).set j .no).set j (.val ds[i])) a := fun a z => by
      obtain ⟨i', ds', h1, h2⟩ := (ow a).mpr z
      have n : j ≠ i' := fun z => by
        subst z
        rw [List.getElem?_set_self (by rw [List.length_set]; exact hjl)] at h1
        cases h1
      exact ⟨i', ds', by rw [List.getElem?_set_ne n]; exact h1, by rw [List.getElem?_set_ne n]; exact h2⟩
    have keep4 : ∀ a u, ¬ D a → ¬ Owned σ ρ a → H' a = some u → H4 a = some u := fun a u n w h => st4.keep a u n (fun z => w (ow2 a z)) (en.keep a u n h)
    have hL4 : H4 L = some (.lst xs) := keep4 L _ nL oL hx
    refine ⟨xs, hL4, ?_, ?_⟩
    · rw [hv.len]
      have := hlen ds hP
      exact Nat.lt_of_lt_of_le (show es.length < 100001 by omega) small'
    · have er : (((((ρ.set o (.own ls)).set j .no).set j (.val ds[i])).set o (.own ls')).set j .no) = (ρ.set o (.own ls')).set j .no := by
        apply List.ext_getElem?
        intro i'
        by_cases n : j = i'
        · subst n
          by_cases hl : j < ρ.length
          · rw [List.getElem?_set_self (by simpa using hl), List.getElem?_set_self (by simpa using hl)]
          · rw [List.getElem?_eq_none (by simpa using hl), List.getElem?_eq_none (by simpa using hl)]
        · rw [List.getElem?_set_ne n, List.getElem?_set_ne n]
          by_cases n2 : o = i'
          · subst n2
            have hl : o < ρ.length := (List.getElem?_eq_some_iff.mp ho).1
            rw [List.getElem?_set_self (by simpa using hl), List.getElem?_set_self (by simpa using hl)]
          · rw [List.getElem?_set_ne n2, List.getElem?_set_ne n, List.getElem?_set_ne n, List.getElem?_set_ne n2, List.getElem?_set_ne n2]
      have es4 : ((σ.set j none).set j (some v)).set j none = σ.set j none := by rw [List.set_set, List.set_set]
      have ok5 := ok4.setNo j none
      rw [er, es4] at ok5
      have upL : ∀ a u, a ≠ L → H4 a = some u → upd H4 L (.lst (xs ++ [y])) a = some u := fun a u n h => by rw [upd_ne n]; exact h
      have ow5 : ∀ a, Owned (σ.set j none) ((ρ.set o (.own ls')).set j .no) a ↔ Owned σ ρ a := fun a =>
        ⟨fun z => (owned_own ho a).mp (owned_set (e := .no) (fun _ q => by cases q) z), fun z => owned_no (by
          rw [List.getElem?_set_ne (Ne.symm hjo)]
          exact hj) ((owned_own ho a).mpr z)⟩
      have okk : EnvOk X.K D (fun a => M a ∨ a = L) (upd H4 L (.lst (xs ++ [y]))) (σ.set j none) ((ρ.set o (.own ls')).set j .no) := by
        have to : ∀ a u, ¬ Av (fun a => M a ∨ a = L) (σ.set j none) ((ρ.set o (.own ls')).set j .no) a → H4 a = some u → upd H4 L (.lst (xs ++ [y])) a = some u ∧ ¬ Av (fun a => M a ∨ a = L) (σ.set j none) ((ρ.set o (.own ls')).set j .no) a := fun a u n h => ⟨upL a u (fun z => n (.inl (.inr z))) h, n⟩
        refine ⟨ok5.len, fun i d hi => ?_, fun i ds hi => ?_, ok5.dist, ok5.dic, fun i ns hi => ?_, fun m hm => ⟨(ok5.dm m hm).1, ?_⟩, fun a ha => ?_⟩
        · obtain ⟨u, h1, h2⟩ := ok5.val i d hi
          exact ⟨u, h1, h2.to to⟩
        · obtain ⟨p', xs', h1, h2, h3, h4⟩ := ok5.own i ds hi
          exact ⟨p', xs', h1, upL p' _ (fun z => h4 (.inr z)) h2, h3.to to, h4⟩
        · obtain ⟨u, h1, h2⟩ := ok5.scr i ns hi
          exact ⟨u, h1, h2.to to⟩
        · obtain ⟨x1, x2, x3, q1, q2⟩ := (ok5.dm m hm).2
          exact ⟨x1, x2, x3, upL m _ (fun z => nL (by rw [← z]; exact hm)) q1, q2⟩
        · by_cases z : a = L
          · rw [z, upd_same]; exact fun z => nomatch z
          · rw [upd_ne z]; exact ok5.trk a ha
      refine ⟨ls', xs ++ [y], es ++ [d], okk, fun a u n w h => upL a u (fun z => by rw [z, hL] at h; cases h) (keep4 a u n w (keep a u n w h)), fun a h => ?_, upd_same, ?_, by rw [List.length_append, List.length_singleton]; omega, hp4⟩
      · by_cases z : a = L
        · rw [z]; exact hL
        · rw [upd_ne z] at h
          exact trk a (en.trk okM.dd (st4.trk a h))
      · have hv4 : DvL (fun a => Av M σ ρ a ∨ a = L) H4 xs es := hv.to fun a u n h => ⟨keep4 a u (fun z => n (.inl (ok1.dmA a z))) (fun z => n (.inl (.inr z))) h, n⟩
        have hd5 : Dv (fun a => Av M σ ρ a ∨ a = L) H4 y d := hd4.weak fun a z => by
          rcases z with (z | z) | z
          · exact .inl (.inl z)
          · exact .inr (wo2 a z)
          · exact .inl (.inr z)
        exact (hv4.app (.cons hd5 .nil)).to fun a u n h => ⟨upL a u (fun z => n (.inr z)) h, n⟩
  · have e : i = ds.length := by omega
    subst e
    refine .inl ⟨hstop, q L xs es ls H' ?_ (e1.back ok hL) hx hv ⟨ds, hP, hJ⟩⟩
    refine ⟨fun a u n w h => keep a u n w (e1.keep a u n h), fun m hm => ⟨ok.dd m hm, (okM.dm m hm).2⟩, fun a h => e1.trk ok.dd (trk a h), fun a z => .inl ((owned_own ho a).mp z), fun _ z => .inl z, fun _ z => .inl z, fun _ z => z, fun _ z => z⟩
end
end WT
namespace WT
open PySem L2
/-! ### == of data -/
mutual
def py : Dt → PyData
  | .non => .none
  | .bl b => .bool b
  | .int i => .int i
  | .str z => .str z
  | .lst ds => .list (pyL ds)
  | .tup ds => .tuple (pyL ds)
  | .dct _ _ => .none
  | .ins _ _ _ => .none
def pyL : List Dt → List PyData
  | [] => []
  | d :: ds => py d :: pyL ds
end
mutual
/-- None, bools, ints, texts of real signs, lists and tuples of such -/
def pd : Dt → Bool
  | .dct _ _ => false
  | .ins _ _ _ => false
  | .lst ds => pdL ds
  | .tup ds => pdL ds
  | .str z => PyData.strOk z
  | _ => true
def pdL : List Dt → Bool
  | [] => true
  | d :: ds => pd d && pdL ds
end
mutual
def dep : Dt → Nat
  | .lst ds => depL ds + 1
  | .tup ds => depL ds + 1
  | _ => 0
def depL : List Dt → Nat
  | [] => 0
  | d :: ds => max (dep d) (depL ds)
end
mutual
theorem dp_of {K : PySem.W.Frag} {A : Addr → Prop} {H : Hp} : ∀ {d : Dt} {v : V}, pd d = true → Dv A H v d → Dp K H v (py d)
  | .non, v, _, h => by rw [h.nons]; exact .non
  | .bl b, v, _, h => by rw [h.bls]; exact .bl b
  | .int i, v, _, h => by rw [h.ints]; exact .int i
  | .str z, v, _, h => by rw [h.strs]; exact .str z
  | .lst ds, v, hp, h => by
    obtain ⟨a, xs, rfl, _, hl, hx⟩ := h.lsts
    exact .lst (.inl (.inl hl)) (dpL_of (by simpa [pd] using hp) hx)
  | .tup ds, v, hp, h => by
    obtain ⟨a, xs, rfl, _, hl, hx⟩ := h.tups
    exact .tup (.inl (.inl hl)) (dpL_of (by simpa [pd] using hp) hx)
  | .dct _ _, _, hp, _ => by simp [pd] at hp
  | .ins _ _ _, _, hp, _ => by simp [pd] at hp
theorem dpL_of {K : PySem.W.Frag} {A : Addr → Prop} {H : Hp} : ∀ {ds : List Dt} {xs : List V}, pdL ds = true → DvL A H xs ds → DpAll K H xs (pyL ds)
  | [], [], _, _ => .nil
  | d :: ds, x :: xs, hp, h => by
    unfold DvL at h
    have hp' : pd d = true ∧ pdL ds = true := by simpa [pdL] using hp
    exact .cons (dp_of hp'.1 h.1) (dpL_of hp'.2 h.2)
  | [], _ :: _, _, h => by unfold DvL at h; exact h.elim
  | _ :: _, [], _, h => by unfold DvL at h; exact h.elim
end
theorem dp_ofw {K : PySem.W.Frag} {D A : Addr → Prop} {H : Hp} {d : Dt} {v : V} (hp : pd d = true) (h : Dw D A H v d) : Dp K H v (py d) := by
  cases d with
  | lst ds =>
    obtain ⟨a, xs, rfl, _, hl, hx⟩ := h.lsts
    exact .lst (.inl (.inl hl)) (dpL_of (by simpa [pd] using hp) hx)
  | non => exact dp_of hp (A := A) h
  | bl _ => exact dp_of hp (A := A) h
  | int _ => exact dp_of hp (A := A) h
  | str _ => exact dp_of hp (A := A) h
  | tup _ => exact dp_of hp (A := A) h
  | dct _ _ => simp [pd] at hp
  | ins _ _ _ => simp [pd] at hp
mutual
theorem lay_of : ∀ (d : Dt), pd d = true → PyData.canLay0 (py d) = true
  | .non, _ => by simp [py, PyData.canLay0]
  | .bl b, _ => by simp [py, PyData.canLay0]
  | .int i, _ => by simp [py, PyData.canLay0]
  | .str z, h => by simpa [py, PyData.canLay0, pd] using h
  | .lst ds, h => by
    have h2 := layL_of ds (by simpa [pd] using h)
    simpa [py, PyData.canLay0] using h2
  | .tup ds, h => by
    have h2 := layL_of ds (by simpa [pd] using h)
    simpa [py, PyData.canLay0] using h2
  | .dct _ _, h => by simp [pd] at h
  | .ins _ _ _, h => by simp [pd] at h
theorem layL_of : ∀ (ds : List Dt), pdL ds = true → PyData.canLayAll0 (pyL ds) = true
  | [], _ => by simp [pyL, PyData.canLayAll0]
  | d :: ds, h => by
    have hp' : pd d = true ∧ pdL ds = true := by simpa [pdL] using h
    simp only [pyL, PyData.canLayAll0, lay_of d hp'.1, layL_of ds hp'.2, Bool.and_self]
end
mutual
theorem dep_of : ∀ (d : Dt), pd d = true → PyData.depth (py d) = dep d
  | .non, _ => by simp [py, PyData.depth, dep]
  | .bl b, _ => by simp [py, PyData.depth, dep]
  | .int i, _ => by simp [py, PyData.depth, dep]
  | .str z, h => by simp [py, PyData.depth, dep]
  | .lst ds, h => by
    have h2 := depL_of ds (by simpa [pd] using h)
    simp [py, PyData.depth, dep, h2]
  | .tup ds, h => by
    have h2 := depL_of ds (by simpa [pd] using h)
    simp [py, PyData.depth, dep, h2]
  | .dct _ _, h => by simp [pd] at h
  | .ins _ _ _, h => by simp [pd] at h
theorem depL_of : ∀ (ds : List Dt), pdL ds = true → PyData.depthAll (pyL ds) = depL ds
  | [], _ => by simp [pyL, PyData.depthAll, depL]
  | d :: ds, h => by
    have hp' : pd d = true ∧ pdL ds = true := by simpa [pdL] using h
    simp only [pyL, PyData.depthAll, depL, dep_of d hp'.1, depL_of ds hp'.2]
end
/-- may stand in a comparison -/
def cmpOk (d : Dt) : Bool := pd d && decide (dep d ≤ 64)
theorem shaped_of {d : Dt} (h : cmpOk d = true) : SeqAt.shaped (py d) = true := by
  unfold cmpOk at h
  rw [Bool.and_eq_true, decide_eq_true_eq] at h
  unfold SeqAt.shaped
  rw [lay_of d h.1, dep_of d h.1, decide_eq_true h.2]
  rfl
theorem pd_of {d : Dt} (h : cmpOk d = true) : pd d = true := (Bool.and_eq_true_iff.mp h).1
def eqD (a b : Dt) : Bool := PyData.eqv (py a) (py b)
section
variable {X : Cx} {a b : Expr} {ρ : List Ent} {pos : Pos}
theorem rd_eqD {d1 d2 : Dt} (h1 : cmpOk d1 = true) (h2 : cmpOk d2 = true) : RD (rEqD X.K) d1 d2 (Eq (.bl (eqD d1 d2))) := rd_val (fun D A H v1 v2 w1 w2 Q q => ⟨py d1, py d2, dp_ofw (pd_of h1) w1, dp_ofw (pd_of h2) w2, shaped_of h1, shaped_of h2, q _ .bl⟩) rfl
theorem rd_neD {d1 d2 : Dt} (h1 : cmpOk d1 = true) (h2 : cmpOk d2 = true) : RD (rNeD X.K) d1 d2 (Eq (.bl (!eqD d1 d2))) := rd_val (fun D A H v1 v2 w1 w2 Q q => ⟨py d1, py d2, dp_ofw (pd_of h1) w1, dp_ofw (pd_of h2) w2, shaped_of h1, shaped_of h2, q _ .bl⟩) rfl
theorem de_eqD {k : Nat} {d1 d2 : Dt} (hr : Room k X.A) (h1 : DW X a ρ (Eq d1)) (h2 : DW X b ρ (Eq d2)) (c1 : cmpOk d1 = true) (c2 : cmpOk d2 = true) : DE X (.Compare a [.Eq] [b] pos) ρ (Eq (.bl (eqD d1 d2))) := de_cmp (op_eqD hr.units) h1 h2 (rd_eqD c1 c2)
theorem dt_eqD {k : Nat} {d1 d2 : Dt} (hr : Room k X.A) (h1 : DW X a ρ (Eq d1)) (h2 : DW X b ρ (Eq d2)) (c1 : cmpOk d1 = true) (c2 : cmpOk d2 = true) : DT X (.Compare a [.Eq] [b] pos) ρ (Eq (eqD d1 d2)) := dt_cmp (op_eqD hr.units) h1 h2 (rd_eqD c1 c2)
theorem de_neD {k : Nat} {d1 d2 : Dt} (hr : Room k X.A) (h1 : DW X a ρ (Eq d1)) (h2 : DW X b ρ (Eq d2)) (c1 : cmpOk d1 = true) (c2 : cmpOk d2 = true) : DE X (.Compare a [.NotEq] [b] pos) ρ (Eq (.bl (!eqD d1 d2))) := de_cmp (op_neD hr.units) h1 h2 (rd_neD c1 c2)
theorem dt_neD {k : Nat} {d1 d2 : Dt} (hr : Room k X.A) (h1 : DW X a ρ (Eq d1)) (h2 : DW X b ρ (Eq d2)) (c1 : cmpOk d1 = true) (c2 : cmpOk d2 = true) : DT X (.Compare a [.NotEq] [b] pos) ρ (Eq (!eqD d1 d2)) := dt_cmp (op_neD hr.units) h1 h2 (rd_neD c1 c2)
end
theorem eqD_refl {d : Dt} (h : cmpOk d = true) : eqD d d = true := SeqAt.eqv_refl _ (lay_of d (pd_of h))
end WT
namespace K01
open PySem L2 WT
def topS (i : Nat) : Stmt := PySem.Challenge.pw_wonbyturns_k01_words_judged.main.body.getD i (.Pass ⟨0, 0, 0, 0⟩)
abbrev sIsWord : Stmt := topS 3
abbrev sDice : Stmt := topS 5
abbrev sRoll : Stmt := topS 6
abbrev sPick : Stmt := topS 7
abbrev sSome : Stmt := topS 8
abbrev sIsW2 : Stmt := topS 9
abbrev sDrawn : Stmt := topS 10
abbrev sLaw : Stmt := topS 11
theorem scIsWord : FnScope ["value", "sign"] ["value"] (defScope sIsWord) := ⟨rfl, rfl, rfl, by decide +kernel, rfl, by decide +kernel, by decide +kernel⟩
theorem scRoll : FnScope ["_law_dice_here", "_law_total", "_law_found", "_law_one", "_law_two"] ["_law_dice_here", "_law_total"] (defScope sRoll) := ⟨rfl, rfl, rfl, by decide +kernel, rfl, by decide +kernel, by decide +kernel⟩
def letters : Str := "abcdefghijklmnopqrstuvwxyz"
def isLetter (c : Nat) : Bool := decide (c ∈ letters.cps.toList)
def isWord : Dt → Bool
  | .str z => (decide ((1 : Int) ≤ z.length) && decide ((z.length : Int) ≤ 8)) && ((z.cps.toList.map isLetter).all id)
  | _ => false
def small_ : Dt → Prop
  | .str z => z.length ≤ 100000
  | _ => True
section
variable {P : Program} {w : World} {K : PySem.W.Frag} {mg : Str → Option Value} {base : Heap}
def preW (xs : List Ar) : Prop := ∃ d, xs = [.dat d] ∧ plainD d = true ∧ small_ d
def postW (xs : List Ar) (r : Dt) : Prop := ∀ d, xs = [.dat d] → .bl (isWord d) = r
theorem ok_isWord {f : Addr} {fd : FuncData} {tM tL : Tok} (F : Fun K "is_word" "is_word" sIsWord f fd) (B : Bl mg) (gM : mg "MAX_LETTERS" = some (.int 8 tM)) (gL : mg "LETTERS" = some (.str letters tL)) : FnOk P w K mg base CX0 1 f fd ["value"] (spA K preW postW) := by
  refine fn_A F scIsWord (fun xs ⟨d, e, _⟩ => by rw [e]; rfl) (fun cdv A outer s H E hr xs ⟨d, e, hp, hz⟩ => ?_)
  subst e
  refine dss_retP (P := Eq (.bl (isWord d))) ?_ (fun r q d' e => by cases e; exact q)
  cases d with
  | str z =>
    refine DE.cast (de_and (de_isi B.isinstance B.str boot_strT (DE.w (de_var (i := 0) rfl)) rfl) (fun _ => de_and (de_chain (g := fun i j => decide (i ≤ j)) (g' := fun i j => decide (i ≤ j)) op_le op_le de_int (de_len B.len (DE.w (de_var (i := 0) rfl)) (lenD_str hz)) (de_gint gM ⟨tM, rfl⟩)) (fun _ => de_one (de_all (bs := z.cps.toList.map isLetter) B.all (DE.w ?_))))) rfl
    refine (dn_lc (j := 1) (T := fun _ => true) (Pe := fun d y => (match d with | .str ⟨#[c]⟩ => Dt.bl (isLetter c) | _ => .non) = y) scIsWord.nd (dit_str (de_var (i := 0) rfl)) (fun ds q => ?_) (blkOk_by (N := ["value", "sign"]) (sc := defScope sIsWord) (own := [("sign", 1)]) (by decide +kernel)) (fun _ _ _ _ _ _ _ _ _ => dts_nil) (fun s H C cl fp ds d hd hm _ => ?_) (fun _ _ _ _ _ => pg_name (i := 1) scIsWord.nd rfl (Or.inl rfl)) (by exact trivial) (ltq rfl)).toE (fun ds ⟨es, h1, h2⟩ => ?_)
    · subst q
      unfold signs
      rw [List.length_map, Array.length_toList]
      exact hz
    · subst hd
      obtain ⟨c, _, rfl⟩ := List.mem_map.mp hm
      exact de_inSign (de_var (i := 1) rfl) (de_gstr gL ⟨tL, rfl⟩)
    · subst h1
      rw [h2.all (Pe := fun _ _ => True)]
      unfold signs
      rw [List.map_map, List.map_map]
      rfl
  | ins _ _ _ => cases hp
  | _ => exact DE.cast (de_and (l := false) (de_isi B.isinstance B.str boot_strT (DE.w (de_var (i := 0) rfl)) rfl) (fun q => by cases q)) rfl
end
end K01
namespace K01
open PySem L2 WT
theorem scDice : FnScope ["_law_script", "_law_spot", "_law_cell", "_law_great", "_law_blend"] ["_law_script", "_law_spot"] (defScope sDice) := ⟨rfl, rfl, rfl, by decide +kernel, rfl, by decide +kernel, by decide +kernel⟩
theorem scPick : FnScope ["_law_dice_here", "_law_items"] ["_law_dice_here", "_law_items"] (defScope sPick) := ⟨rfl, rfl, rfl, by decide +kernel, rfl, by decide +kernel, by decide +kernel⟩
theorem wide30 {i j : Int} (h : 0 < j) (h2 : j < 1073741824) : CDivW i j := wide_div (b := 30) h (by omega) (by decide) (by decide)
theorem div_le' {i j : Int} (h : 0 ≤ i) (hj : 0 < j) : i / j ≤ i := by
  have h1 : i / j * j ≤ i := Int.ediv_mul_le i (by omega)
  have h2 : 0 ≤ i / j := Int.ediv_nonneg h (by omega)
  have h3 : i / j * 1 ≤ i / j * j := Int.mul_le_mul_of_nonneg_left (by omega) h2
  omega
section
variable {P : Program} {w : World} {K : PySem.W.Frag} {mg : Str → Option Value} {base : Heap}
/-! ### roll -/
def preR (xs : List Ar) : Prop := ∃ n : Int, xs = [.dic, .dat (.int n)] ∧ 0 < n ∧ n < 1073741824
def postR (xs : List Ar) (r : Dt) : Prop := ∀ n : Int, xs = [.dic, .dat (.int n)] → IntP (fun i => 0 ≤ i ∧ i < n) r
theorem ok_roll {f : Addr} {fd : FuncData} (F : Fun K "_law_roll" "_law_roll" sRoll f fd) (B : Bl mg) : FnOk P w K mg base CX0 1 f fd ["_law_dice_here", "_law_total"] (spA K preR postR) := by
  refine fn_A F scRoll (fun xs ⟨d, e, _⟩ => by rw [e]; rfl) (fun cdv A outer s H E hr xs ⟨n, e, h0, h1⟩ => ?_)
  subst e
  have nd := scRoll.nd
  have fin : ∀ r, IntP (fun i => 0 ≤ i ∧ i < n) r → postR [.dic, .dat (.int n)] r := fun r q m e => by cases e; exact q
  refine dss_whenP (Pk := fun _ => True) (dt_gtP (q := fun _ => True) (de_dix (i := 0) 0 (by decide) rfl) (de_int.intP trivial) fun _ _ _ _ => trivial) (fun _ => ?_) (fun _ => ?_)
  · refine dss_setP (i := 2) nd (de_modP (q := (· = n)) (r := fun i => 0 ≤ i ∧ i < n) (de_toIntP B.int (de_dix (i := 0) 0 (by decide) rfl)) ((de_var (i := 1) rfl).intP rfl) (fun i j _ e => by subst e; exact ⟨h0, Int.emod_nonneg _ (by omega), Int.emod_lt_of_pos _ h0⟩)) (fun d ⟨i, e, hi⟩ => ?_)
    subst e
    refine dss_dset (i := 0) 0 (by decide) rfl (de_divP (q := (· = n)) (de_dix (i := 0) 0 (by decide) rfl) ((de_var (i := 1) rfl).intP rfl) (fun i' j hi' e => ?_)) ?_
    · subst e
      have h2 := div_le' hi'.1 h0
      exact ⟨wide30 h0 h1, Int.ediv_nonneg hi'.1 (by omega), Int.lt_of_le_of_lt h2 hi'.2⟩
    · exact dss_ret (de_var (i := 2) rfl) (fin _ ⟨i, rfl, hi⟩)
  · refine dss_dset (i := 0) 2 (by decide) rfl (de_addP (q := (· = 1)) (de_dix (i := 0) 2 (by decide) rfl) (de_int.intP rfl) (fun i j hi e => by have hi : 0 ≤ i := hi; subst e; show 0 ≤ i + 1; omega)) ?_
    refine dss_setP (i := 3) nd (de_modP (p := fun _ => True) (q := (· = 2305843009213693951)) (r := fun i => 0 ≤ i ∧ i < 2305843009213693951) (de_toIntP B.int (de_addP (p := fun _ => True) (q := fun _ => True) ((de_dix (i := 0) 1 (by decide) rfl).mono fun d ⟨i, e, _⟩ => ⟨i, e, trivial⟩) (de_mulP (p := (· = 998244289)) (q := fun _ => True) (de_int.intP rfl) ((de_dix (i := 0) 2 (by decide) rfl).mono fun d ⟨i, e, _⟩ => ⟨i, e, trivial⟩) (fun i j e _ => by subst e; exact ⟨.inl (by decide), trivial⟩)) (fun _ _ _ _ => trivial))) (de_int.intP rfl) (fun i j _ e => by subst e; exact ⟨by decide, Int.emod_nonneg _ (by decide), Int.emod_lt_of_pos _ (by decide)⟩)) (fun d ⟨one, e, ho⟩ => ?_)
    subst e
    refine dss_setP (i := 4) nd (P := IntP fun _ => True) (de_addP (p := fun _ => True) (q := fun _ => True) (de_mulP (p := fun i => 0 ≤ i ∧ i < 2305843009213693883) (q := (· = one)) (de_modP (p := fun _ => True) (q := (· = 2305843009213693883)) (de_toIntP B.int (de_mulP (p := (· = one)) (q := (· = one)) ((de_var (i := 3) rfl).intP rfl) ((de_var (i := 3) rfl).intP rfl) (fun i j e e2 => by subst e e2; exact ⟨.inl ⟨by omega, by omega⟩, trivial⟩))) (de_int.intP rfl) (fun i j _ e => by subst e; exact ⟨by decide, Int.emod_nonneg _ (by decide), Int.emod_lt_of_pos _ (by decide)⟩)) ((de_var (i := 3) rfl).intP rfl) (fun i j hi e => ⟨.inl ⟨by omega, by omega⟩, trivial⟩)) (de_mulP (p := (· = 9433)) (q := fun _ => True) (de_int.intP rfl) ((de_dix (i := 0) 2 (by decide) rfl).mono fun d ⟨i, e, _⟩ => ⟨i, e, trivial⟩) (fun i j e _ => by subst e; exact ⟨.inl (by decide), trivial⟩)) (fun _ _ _ _ => trivial)) (fun d ⟨two, e, _⟩ => ?_)
    subst e
    refine dss_setP (i := 4) nd (de_modP (p := fun _ => True) (q := (· = 2305843009213693613)) (r := fun i => 0 ≤ i) (de_toIntP B.int ((de_var (i := 4) rfl).intP trivial)) (de_int.intP rfl) (fun i j _ e => by subst e; exact ⟨by decide, Int.emod_nonneg _ (by decide)⟩)) (fun d ⟨two2, e, ht⟩ => ?_)
    subst e
    exact dss_retP (de_modP (p := fun _ => True) (q := (· = n)) (r := fun i => 0 ≤ i ∧ i < n) (de_toIntP B.int (de_divP (p := fun _ => True) (q := (· = 8192)) ((de_var (i := 4) rfl).intP trivial) (de_int.intP rfl) (fun i j _ e => by subst e; exact ⟨wide30 (by decide) (by decide), trivial⟩))) ((de_var (i := 1) rfl).intP rfl) (fun i j _ e => by subst e; exact ⟨h0, Int.emod_nonneg _ (by omega), Int.emod_lt_of_pos _ h0⟩)) fin
/-! ### pick -/
def preP (xs : List Ar) : Prop := ∃ ds : List Dt, xs = [.dic, .dat (.lst ds)] ∧ 0 < ds.length ∧ ds.length < 1000000
def postP (xs : List Ar) (r : Dt) : Prop := ∀ ds, xs = [.dic, .dat (.lst ds)] → r ∈ ds
theorem ok_pick {f fR : Addr} {fd fdR : FuncData} (F : Fun K "_law_pick" "_law_pick" sPick f fd) (B : Bl mg) (FR : Fun K "_law_roll" "_law_roll" sRoll fR fdR) (bR : Binds K fdR ["_law_dice_here", "_law_total"] []) (gR : mg "_law_roll" = some (.ref fR)) : FnOk P w K mg base CX0 2 f fd ["_law_dice_here", "_law_items"] (spA K preP postP) := by
  have GR : FnOk P w K mg base CX0 1 fR fdR ["_law_dice_here", "_law_total"] (spA K preR postR) := ok_roll FR B
  refine fn_A F scPick (fun xs ⟨d, e, _⟩ => by rw [e]; rfl) (fun cdv A outer s H E hr xs ⟨ds, e, h0, h1⟩ => ?_)
  subst e
  refine dss_retP (P := fun d => d ∈ ds) (de_ixLP (P1 := (· = ds)) (P2 := fun i => 0 ≤ i ∧ i < ds.length) ((de_var (i := 1) rfl).w.mono fun _ q => ⟨ds, q.symm, rfl⟩) (de_call GR hr gR FR.kp bR (da_diceD (i := 0) rfl (da_cons (de_len B.len (DE.w (de_var (i := 1) rfl)) rfl) da_nil)) (fun xs q => ?_)) (fun ds' i e hi => ?_)) (fun d hd ds' e => by cases e; exact hd)
  · subst q
    exact ⟨⟨_, rfl, by omega, by omega⟩, fun d q => q _ rfl⟩
  · subst e
    exact atI_in hi.1 hi.2
/-! ### dice -/
def preD (xs : List Ar) : Prop := ∃ (ns : List Int) (k : Nat), xs = [.scr ns, .dat (.int k)]
def diceL (ds : List Dt) : Prop := ∃ a b c : Int, ds = [.int a, .int b, .int c] ∧ 0 ≤ a ∧ a < big600 ∧ 0 ≤ b ∧ b < 2305843009213693613 ∧ 0 ≤ c
theorem big_eq : (((10 : Int) ^ (60 : Int).toNat) ^ (10 : Int).toNat) = big600 := by
  unfold big600
  show ((10 : Int) ^ 60) ^ 10 = 10 ^ 600
  rw [← Int.pow_mul]
theorem ok_dice {f : Addr} {fd : FuncData} (F : Fun K "_law_dice" "_law_dice" sDice f fd) (B : Bl mg) : FnOk P w K mg base CX0 1 f fd ["_law_script", "_law_spot"] (spN K preD fun _ => diceL) := by
  refine fn_N F scDice (fun xs ⟨ns, k, e⟩ => by rw [e]; rfl) (fun cdv A outer s H E hr xs ⟨ns, k, e⟩ => ?_)
  subst e
  have nd := scDice.nd
  refine dss_set (i := 2) nd (de_add (de_mul de_int (de_var (i := 1) rfl) (.inl (by decide))) de_int) ?_
  refine dss_if (N1 := fun r => ∃ c : Int, r = [.scr ns, .val (.int k), .val (.int c), .no, .no]) (dt_lt (de_var (i := 1) rfl) (de_lenS (i := 0) B.len rfl)) (fun hk => ?_) (fun _ => dss_nilP ⟨_, rfl⟩) ?_
  · have hk : (k : Int) < ns.length := of_decide_eq_true hk
    have hk' : k < ns.length := by omega
    exact dss_set (i := 2) nd (de_ixS0 (i := 0) (j := k) rfl (de_var (i := 1) rfl) (List.getElem?_eq_getElem hk')) (dss_nilP ⟨_, rfl⟩)
  · rintro _ ⟨c, rfl⟩
    have pb : CPowW ((10 : Int) ^ (60 : Int).toNat) 10 := ⟨by decide, by decide, by decide +kernel, by decide⟩
    have p60 : CPowW (10 : Int) 60 := ⟨by decide, by decide, by decide, by decide⟩
    have p18 : CPowW (10 : Int) 18 := ⟨by decide, by decide, by decide, by decide⟩
    refine dss_setP (i := 3) nd (de_modP (p := fun _ => True) (q := (· = big600)) (r := fun i => 0 ≤ i ∧ i < big600) (de_toIntP B.int ((de_abs B.abs (de_var (i := 2) rfl)).intP trivial)) ((de_pow (de_pow de_int de_int p60) de_int pb).intP big_eq) (fun i j _ e => by
      subst e
      have h : (0 : Int) < big600 := by unfold big600; exact Int.pow_pos (by decide)
      exact ⟨h, Int.emod_nonneg _ (by omega), Int.emod_lt_of_pos _ h⟩)) (fun d ⟨g, e, hg⟩ => ?_)
    subst e
    refine dss_setP (i := 4) nd (P := IntP fun _ => True) (de_addP (p := fun _ => True) (q := fun _ => True) (de_addP (p := fun _ => True) (q := fun _ => True) (de_addP (p := fun _ => True) (q := fun _ => True) (de_mulP (p := fun _ => True) (q := (· = 1000427)) ((de_mod (de_toInt B.int (de_var (i := 3) rfl)) de_int (by decide)).intP trivial) (de_int.intP rfl) (fun i j _ e => by subst e; exact ⟨.inr (by decide), trivial⟩)) ((de_mul de_int (de_var (i := 1) rfl) (.inl (by decide))).intP trivial) (fun _ _ _ _ => trivial)) ((de_mul de_int (de_toIntB B.int (de_lt (de_var (i := 2) rfl) de_int)) (.inl (by decide))).intP trivial) (fun _ _ _ _ => trivial)) (de_int.intP trivial) (fun _ _ _ _ => trivial)) (fun d ⟨bl, e, _⟩ => ?_)
    subst e
    refine dss_retN (P := diceL) (dn_list (di_consP (P1 := IntP fun i => 0 ≤ i ∧ i < big600) ?_ (di_consP (P1 := IntP fun i => 0 ≤ i ∧ i < 2305843009213693613) ?_ (di_consP (P1 := IntP (· = 0)) (de_int.intP rfl) di_nil)) |>.mono ?_) ?_) (fun _ q => q)
    · refine (de_max2 B.max de_int (de_sub (de_var (i := 3) rfl) (de_pow de_int de_int p18))).intP ?_
      have h18 : (10 : Int) ^ (18 : Int).toNat = 1000000000000000000 := by decide
      rw [h18]
      have hb : (0 : Int) < big600 := by unfold big600; exact Int.pow_pos (by decide)
      split <;> omega
    · exact (de_mod (de_toInt B.int (de_var (i := 4) rfl)) de_int (by decide)).intP ⟨Int.emod_nonneg _ (by decide), Int.emod_lt_of_pos _ (by decide)⟩
    · rintro _ ⟨_, _, rfl, ⟨a, rfl, ha⟩, _, _, rfl, ⟨b, rfl, hb⟩, _, _, rfl, ⟨c, rfl, hc⟩, rfl⟩
      exact ⟨a, b, c, rfl, ha.1, ha.2, hb.1, hb.2, by rw [hc]; decide⟩
    · rintro _ ⟨a, b, c, rfl, _⟩
      exact (by decide : 3 ≤ 100000)
end
end K01
namespace K01
open PySem L2 WT
abbrev nSome : List Str := ["_law_dice_here", "_law_items", "_law_size", "_law_left", "_law_turn"]
theorem scSome : FnScope nSome ["_law_dice_here", "_law_items", "_law_size"] (defScope sSome) := ⟨rfl, rfl, rfl, by decide +kernel, rfl, by decide +kernel, by decide +kernel⟩
abbrev nIsW2 : List Str := ["_law_value", "_law_one"]
theorem scIsW2 : FnScope nIsW2 ["_law_value"] (defScope sIsW2) := ⟨rfl, rfl, rfl, by decide +kernel, rfl, by decide +kernel, by decide +kernel⟩
section
variable {P : Program} {w : World} {K : PySem.W.Frag} {mg : Str → Option Value} {base : Heap}
/-! ### some -/
def preS (xs : List Ar) : Prop := ∃ (ds : List Dt) (k : Int), xs = [.dic, .dat (.lst ds), .dat (.int k)] ∧ ds.length ≤ 1000 ∧ 0 ≤ k ∧ k ≤ 1000
def postS (xs : List Ar) (r : Dt) : Prop := ∀ ds k, xs = [.dic, .dat (.lst ds), .dat (.int k)] → ∃ es, r = .lst es ∧ es.length ≤ 1000 ∧ ∀ e ∈ es, e ∈ ds
theorem ok_some {f fR : Addr} {fd fdR : FuncData} (F : Fun K "_law_some" "_law_some" sSome f fd) (B : Bl mg) (FR : Fun K "_law_roll" "_law_roll" sRoll fR fdR) (bR : Binds K fdR ["_law_dice_here", "_law_total"] []) (gR : mg "_law_roll" = some (.ref fR)) : FnOk P w K mg base CX0 2 f fd ["_law_dice_here", "_law_items", "_law_size"] (spA K preS postS) := by
  have GR : FnOk P w K mg base CX0 1 fR fdR ["_law_dice_here", "_law_total"] (spA K preR postR) := ok_roll FR B
  refine fn_A F scSome (fun xs ⟨ds, k, e, _⟩ => by rw [e]; rfl) (fun cdv A outer s H E hr xs ⟨ds, k, e, h0, h1, h2⟩ => ?_)
  subst e
  have nd := scSome.nd
  refine dss_own (i := 3) nd (dn_listOf B.list (DE.w (de_var (i := 1) rfl))) (fun _ q => ?_)
  subst q
  refine dss_retNm (o := 3) (dn_lcM (j := 4) (o := 3) (ls0 := ds) (fun rs i ls es => ls.length + i = ds.length ∧ rs.length ≤ ds.length ∧ es.length = i ∧ (∀ e ∈ ls, e ∈ ds) ∧ ∀ e ∈ es, e ∈ ds) nd rfl (by decide) (dit_range B.range (de_min2 B.min (de_var (i := 2) rfl) (de_len B.len (dw_own (i := 3) rfl) rfl)) ?_) (fun rs q => ?_) (blkOk_by (N := nSome) (sc := defScope sSome) (own := [("_law_turn", 4)]) (by decide +kernel)) (fun rs q => ?_) (fun s H C cl fp rs i d ls es q hi hJ => ?_) (fun _ _ _ _ _ => pg_name (i := 4) nd rfl (Or.inl rfl)) (by exact trivial) (ltq rfl)) (fun ls es ⟨rs, q, h⟩ => ?_)
  · split <;> omega
  · subst q
    rw [rangeD_len]
    split <;> omega
  · subst q
    refine ⟨by omega, ?_, rfl, fun _ h => h, fun _ h => by cases h⟩
    rw [rangeD_len]
    split <;> omega
  · obtain ⟨j1, j2, j3, j4, j5⟩ := hJ
    have hlt : i < rs.length := (List.getElem?_eq_some_iff.mp hi).1
    refine dm_pop (o := 3) (ls := ls) rfl (by omega) (de_call (P := IntP fun i => 0 ≤ i ∧ i < ls.length) GR hr gR FR.kp bR (da_diceD (i := 0) rfl (da_cons (de_len B.len (dw_own (i := 3) rfl) rfl) da_nil)) (fun xs q => ?_)) (fun n hn => ?_)
    · subst q
      exact ⟨⟨_, rfl, by omega, by omega⟩, fun d q => q _ rfl⟩
    · obtain ⟨m, rfl⟩ := Int.eq_ofNat_of_zero_le hn.1
      have hm : m < ls.length := by omega
      refine ⟨m, ls[m], rfl, List.getElem?_eq_getElem hm, ?_, j2, ?_, ?_, ?_⟩
      · rw [List.length_eraseIdx_of_lt hm]
        omega
      · rw [List.length_append, List.length_singleton]
        omega
      · exact fun e he => j4 e (List.mem_of_mem_eraseIdx he)
      · intro e he
        rcases List.mem_append.mp he with he | he
        · exact j5 e he
        · rw [List.mem_singleton.mp he]
          exact j4 _ (List.getElem_mem hm)
  · intro ds' k' e
    cases e
    exact ⟨es, rfl, by omega, h.2.2.2.2⟩
/-! ### the law's own look -/
def isWord2 : Dt → Bool
  | .str z => (decide ((0 : Int) < z.length) && decide ((z.length : Int) < 9)) && (z.cps.toList.filter fun c => !isLetter c).isEmpty
  | _ => false
def goodV (d : Dt) : Prop := plainD d = true ∧ ∀ z, d = .str z → z.length ≤ 100000 ∧ PyData.strOk z = true
def preV (xs : List Ar) : Prop := ∃ d, xs = [.dat d] ∧ goodV d
def postV (xs : List Ar) (r : Dt) : Prop := ∀ d, xs = [.dat d] → .bl (isWord2 d) = r
theorem filter_signs (z : Str) : (signs z).filter (fun d => match d with | .str ⟨#[c]⟩ => !isLetter c | _ => false) = (z.cps.toList.filter fun c => !isLetter c).map fun c => Dt.str ⟨#[c]⟩ := by
  unfold signs
  rw [List.filter_map]
  rfl
theorem pdL_signs : ∀ cs : List Nat, (∀ c ∈ cs, c < 0x110000) → pdL (cs.map fun c => Dt.str ⟨#[c]⟩) = true ∧ depL (cs.map fun c => Dt.str ⟨#[c]⟩) = 0
  | [], _ => by simp [pdL, depL]
  | c :: cs, h => by
    have ih := pdL_signs cs fun x hx => h x (List.mem_cons_of_mem _ hx)
    have hc := h c List.mem_cons_self
    simp only [List.map_cons, pdL, depL, ih.1, ih.2, dep, pd, PyData.strOk]
    simp [hc]
theorem eqD_nil (ds : List Dt) : eqD (.lst ds) (.lst []) = ds.isEmpty := by
  cases ds with
  | nil => simp [eqD, py, pyL, PyData.eqv, PyData.eqvAll]
  | cons d ds => simp [eqD, py, pyL, PyData.eqv, PyData.eqvAll]
theorem ok_isW2 {f : Addr} {fd : FuncData} (F : Fun K "_law_is_word" "_law_is_word" sIsW2 f fd) (B : Bl mg) : FnOk P w K mg base CX0 1 f fd ["_law_value"] (spA K preV postV) := by
  refine fn_A F scIsW2 (fun xs ⟨d, e, _⟩ => by rw [e]; rfl) (fun cdv A outer s H E hr xs ⟨d, e, hp, hz⟩ => ?_)
  subst e
  have fin : ∀ r, .bl (isWord2 d) = r → postV [.dat d] r := fun r q d' e => by cases e; exact q
  cases d with
  | str z =>
    obtain ⟨hz, hs⟩ := hz z rfl
    refine dss_when (DWt.t (dw_or (dt_not (dt_valD (de_isi B.isinstance B.str boot_strT (DE.w (de_var (i := 0) rfl)) rfl))) (fun _ => dw_or1 (dt_not (dt_chain (g := fun i j => decide (i < j)) (g' := fun i j => decide (i < j)) op_lt op_lt de_int (de_len B.len (DE.w (de_var (i := 0) rfl)) (lenD_str hz)) de_int))))) (fun hk => dss_ret de_bl (fin _ ?_)) (fun hk => dss_retP (P := Eq (.bl (isWord2 (.str z)))) ?_ fin)
    · have hk : (!(decide ((0 : Int) < z.length) && decide ((z.length : Int) < 9))) = true := hk
      show Dt.bl ((decide ((0 : Int) < z.length) && decide ((z.length : Int) < 9)) && _) = _
      rw [Bool.not_eq_true'] at hk
      rw [hk]
      rfl
    · have hk : (!(decide ((0 : Int) < z.length) && decide ((z.length : Int) < 9))) = false := hk
      rw [Bool.not_eq_false'] at hk
      have hcs : ∀ c ∈ z.cps.toList.filter fun c => !isLetter c, c < 0x110000 := fun c hc => by
        have hc := (List.mem_filter.mp hc).1
        have := Array.all_eq_true_iff_forall_mem.mp hs c (Array.mem_toList_iff.mp hc)
        simpa using this
      have hpd := pdL_signs _ hcs
      refine DE.cast (de_eqD hr (d1 := .lst ((z.cps.toList.filter fun c => !isLetter c).map fun c => Dt.str ⟨#[c]⟩)) (d2 := .lst []) (DE.w ?_) (DN.de (dn_listD di_nil)).w ?_ rfl) ?_
      · refine (dn_lc (j := 1) (T := fun d => match d with | .str ⟨#[c]⟩ => !isLetter c | _ => false) (Pe := fun d y => d = y) scIsW2.nd (dit_str (de_var (i := 0) rfl)) (fun ds q => ?_) (blkOk_by (N := nIsW2) (sc := defScope sIsW2) (own := [("_law_one", 1)]) (by decide +kernel)) (fun s H C cl fp ds d hd hm => dts_one ?_) (fun s H C cl fp ds d hd hm _ => de_var (i := 1) rfl) (fun _ _ _ _ _ => pg_name (i := 1) scIsW2.nd rfl (Or.inl rfl)) (by exact trivial) (ltq rfl)).toE (fun ds ⟨es, h1, h2⟩ => ?_)
        · subst q
          unfold signs
          rw [List.length_map, Array.length_toList]
          exact hz
        · subst hd
          obtain ⟨c, _, rfl⟩ := List.mem_map.mp hm
          exact dt_notInSign (de_var (i := 1) rfl) de_str
        · subst h1
          have h3 := Sel.det (f := fun d => d) h2
          rw [h3, filter_signs, List.map_id']
      · unfold cmpOk
        simp only [pd, dep, hpd.1, hpd.2]
        rfl
      · rw [eqD_nil]
        show Dt.bl _ = Dt.bl ((decide ((0 : Int) < z.length) && decide ((z.length : Int) < 9)) && _)
        rw [hk, List.isEmpty_map, Bool.true_and]
  | ins _ _ _ => cases hp
  | _ => exact dss_when (DWt.t (dw_or (l := true) (dt_not (dt_valD (de_isi B.isinstance B.str boot_strT (DE.w (de_var (i := 0) rfl)) rfl))) (fun q => by cases q))) (fun hk => dss_ret de_bl (fin _ rfl)) (fun hk => by cases hk)
end
end K01
namespace K01
open PySem L2 WT
abbrev nDrawn : List Str := ["_law_dice_here", "_law_signs", "_law_some_here", "_law_odd", "_law_turn", "_law_draw"]
theorem scDrawn : FnScope nDrawn ["_law_dice_here"] (defScope sDrawn) := ⟨rfl, rfl, rfl, by decide +kernel, rfl, by decide +kernel, by decide +kernel⟩
def rhs (s : Stmt) : Expr := match s with
  | .Assign _ e _ => e
  | .Return (some e) _ => e
  | _ => .Constant .none 0 ⟨0, 0, 0, 0⟩
def lcS (e : Expr) : Scope := match e with
  | .ListComp _ _ sc _ => sc
  | _ => defScope sDrawn
def lcE (e : Expr) : Expr := match e with
  | .ListComp x _ _ _ => x
  | _ => .Constant .none 0 ⟨0, 0, 0, 0⟩
abbrev scOut : Scope := lcS (rhs ((defBody sDrawn).getD 1 (.Pass ⟨0, 0, 0, 0⟩)))
def sgs : List Str := ["", "", "A", " ", "-", "0", "_", ":", "/", ",", "\n"]
theorem strs_of {Q : Str → Prop} : ∀ {es : List Dt}, (∀ e ∈ es, ∃ y, e = .str y ∧ Q y) → ∃ ys : List Str, es = ys.map .str ∧ ∀ y ∈ ys, Q y
  | [], _ => ⟨[], rfl, fun _ h => by cases h⟩
  | e :: es, h => by
    obtain ⟨y, rfl, hy⟩ := h e List.mem_cons_self
    obtain ⟨ys, rfl, hys⟩ := strs_of fun x hx => h x (List.mem_cons_of_mem _ hx)
    exact ⟨y :: ys, rfl, fun z hz => by
      rcases List.mem_cons.mp hz with rfl | hz
      · exact hy
      · exact hys z hz⟩
theorem join_len : ∀ ys : List Str, (Str.join Str.empty ys).length = (ys.map (·.length)).sum
  | [] => rfl
  | [y] => by simp [Str.join]
  | x :: y :: r => by
    have ih := join_len (y :: r)
    show (x ++ Str.empty ++ Str.join Str.empty (y :: r)).length = _
    rw [strLen_append, strLen_append, ih]
    simp [Str.empty, Str.length]
theorem ok_of {z : Str} (h : ∀ c ∈ z.cps.toList, c < 0x110000) : PyData.strOk z = true := by
  unfold PyData.strOk
  rw [Array.all_eq_true_iff_forall_mem]
  intro c hc
  simpa using h c (Array.mem_toList_iff.mpr hc)
theorem of_ok {z : Str} (h : PyData.strOk z = true) : ∀ c ∈ z.cps.toList, c < 0x110000 := fun c hc => by
  have := Array.all_eq_true_iff_forall_mem.mp h c (Array.mem_toList_iff.mp hc)
  simpa using this
theorem sum_ones : ∀ {ys : List Str}, (∀ y ∈ ys, y.length = 1) → (ys.map (·.length)).sum = ys.length
  | [], _ => rfl
  | y :: ys, h => by
    rw [List.map_cons, List.sum_cons, h y List.mem_cons_self, sum_ones fun x hx => h x (List.mem_cons_of_mem _ hx), List.length_cons]
    omega
def odds : List Dt := [.non, .int 0, .bl true, .tup [], .tup [.str "a"], .lst [.str "a"], .dct [] [], .int (10 ^ 59), .str "Coin", .str "a b", .str "a1", .str "", .str "abcdefghi", .str "abcdefgh", .str "is"]
theorem odds_good : ∀ d ∈ odds, goodV d := by
  intro d hd
  refine ⟨?_, ?_⟩
  · simp only [odds, List.mem_cons, List.not_mem_nil, or_false] at hd
    rcases hd with rfl | rfl | rfl | rfl | rfl | rfl | rfl | rfl | rfl | rfl | rfl | rfl | rfl | rfl | rfl <;> rfl
  · intro z e
    subst e
    have key : ∀ z ∈ [("Coin" : Str), "a b", "a1", "", "abcdefghi", "abcdefgh", "is"], z.length ≤ 100000 ∧ PyData.strOk z = true := by decide +kernel
    simp only [odds, List.mem_cons, List.not_mem_nil, or_false, reduceCtorEq, false_or, Dt.str.injEq] at hd
    refine key z ?_
    simp only [List.mem_cons, List.not_mem_nil, or_false]
    exact hd
section
variable {P : Program} {w : World} {K : PySem.W.Frag} {mg : Str → Option Value} {base : Heap}
def preN (xs : List Ar) : Prop := xs = [.dic]
theorem ok_drawn {f fR fP fS : Addr} {fd fdR fdP fdS : FuncData} (F : Fun K "_law_drawn_value" "_law_drawn_value" sDrawn f fd) (B : Bl mg) (FR : Fun K "_law_roll" "_law_roll" sRoll fR fdR) (bR : Binds K fdR ["_law_dice_here", "_law_total"] []) (gR : mg "_law_roll" = some (.ref fR))
    (FP : Fun K "_law_pick" "_law_pick" sPick fP fdP) (bP : Binds K fdP ["_law_dice_here", "_law_items"] []) (gP : mg "_law_pick" = some (.ref fP)) (FS : Fun K "_law_some" "_law_some" sSome fS fdS) (bS : Binds K fdS ["_law_dice_here", "_law_items", "_law_size"] []) (gS : mg "_law_some" = some (.ref fS)) :
    FnOk P w K mg base CX0 3 f fd ["_law_dice_here"] (spA K preN fun _ => goodV) := by
  have GR : FnOk P w K mg base CX0 1 fR fdR ["_law_dice_here", "_law_total"] (spA K preR postR) := ok_roll FR B
  have GP : FnOk P w K mg base CX0 2 fP fdP ["_law_dice_here", "_law_items"] (spA K preP postP) := ok_pick FP B FR bR gR
  have GS : FnOk P w K mg base CX0 2 fS fdS ["_law_dice_here", "_law_items", "_law_size"] (spA K preS postS) := ok_some FS B FR bR gR
  refine fn_A F scDrawn (fun xs e => by rw [show xs = [.dic] from e]; rfl) (fun cdv A outer s H E hr xs e => ?_)
  have e : xs = [.dic] := e
  subst e
  have nd := scDrawn.nd
  have hr1 : Room 1 _ := hr.mono (by decide)
  -- signs
  refine dss_setP (i := 1) nd (P := fun d => ∃ z : Str, d = .str z ∧ 1 ≤ z.length ∧ z.length ≤ 18 ∧ PyData.strOk z = true) (de_addSP (p := (· = "aabcdehklnorstyzz")) (q := fun z => z ∈ sgs) (de_str.mono fun d q => ⟨_, q.symm, rfl⟩)
    (de_call GP hr gP FP.kp bP (da_diceD (i := 0) rfl (da_cons (DN.de (dn_listD (ds := sgs.map .str) (di_cons de_str (di_cons de_str (di_cons de_str (di_cons de_str (di_cons de_str (di_cons de_str (di_cons de_str (di_cons de_str (di_cons de_str (di_cons de_str (di_cons de_str di_nil))))))))))) (by decide +kernel))) da_nil)) (fun xs q => ?_)) (fun i j e hj => ?_)) (fun d ⟨z, e, hz1, hz2, hz3⟩ => ?_)
  · subst q
    refine ⟨⟨_, rfl, by decide +kernel, by decide +kernel⟩, fun d q => ?_⟩
    obtain ⟨z, hz, rfl⟩ := List.mem_map.mp (q _ rfl)
    exact ⟨z, rfl, hz⟩
  · subst e
    have key : ∀ j ∈ sgs, ("aabcdehklnorstyzz" : Str).length + j.length ≤ 100000 ∧ 1 ≤ (("aabcdehklnorstyzz" : Str) ++ j).length ∧ (("aabcdehklnorstyzz" : Str) ++ j).length ≤ 18 ∧ PyData.strOk (("aabcdehklnorstyzz" : Str) ++ j) = true := by decide +kernel
    obtain ⟨k1, k2, k3, k4⟩ := key j hj
    exact ⟨k1, _, rfl, k2, k3, k4⟩
  subst e
  -- some_here
  refine dss_setLc (i := 2) (j := 5) (T := fun _ => true) (Pe := fun _ d => ∃ y : Str, d = .str y ∧ y.length ≤ 100000 ∧ PyData.strOk y = true) nd (dit_range B.range de_int (by decide)) (fun ds q => ?_) (blkOk_by (N := nDrawn) (sc := defScope sDrawn) (own := [("_law_draw", 5)]) (by decide +kernel)) (fun _ _ _ _ _ _ _ _ _ => dts_nil) (fun s H C cl fp ds d hd hm _ => ?_) (fun _ _ _ _ _ => pg_name (i := 5) nd rfl (Or.inl rfl)) (by exact trivial) (ltq rfl) rfl rfl (sw_true rfl rfl rfl (by decide +kernel)) (fun es ⟨ds, h1, h2⟩ => ?_)
  · subst q
    rw [rangeD_len]
    decide
  · refine de_joinP (z := Str.empty) (P1 := fun ys => ys.length ≤ 10 ∧ ∀ y ∈ ys, y.length = 1 ∧ PyData.strOk y = true) de_str (DE.w ((dn_lc (j := 4) (T := fun _ => true) (Pe := fun _ d => d ∈ signs z) nd (dit_rangeP (P := fun ds => ds.length ≤ 10) B.range (de_call (P := IntP fun i => 0 ≤ i ∧ i < 11) GR hr1 gR FR.kp bR (da_diceD (i := 0) rfl (da_cons de_int da_nil)) (fun xs q => ?_)) (fun d ⟨i, e, hi⟩ => ?_)) (fun ds q => ?_) (blkOk_by (N := nDrawn) (sc := relS scOut (defScope sDrawn)) (own := [("_law_turn", 4)]) (by decide +kernel)) (fun _ _ _ _ _ _ _ _ _ => dts_nil) (fun s2 H2 C2 cl2 fp2 ds2 d2 hd2 hm2 _ => ?_) (fun _ _ _ _ _ => pg_name (i := 4) nd rfl (Or.inl rfl)) (by exact trivial) (ltq rfl)).toE (fun es ⟨ds, h1, h2⟩ => ?_))) (fun ys hys => ?_)
    · subst q
      exact ⟨⟨_, rfl, by decide, by decide⟩, fun d q => q _ rfl⟩
    · exact ⟨i, e, by omega, by omega, by rw [rangeD_len]; omega⟩
    · omega
    · refine de_call GP hr gP FP.kp bP (da_diceD (i := 0) rfl (da_cons (DN.de (dn_listStr B.list (de_var (i := 1) rfl) (by omega))) da_nil)) (fun xs q => ?_)
      subst q
      have hl : (signs z).length = z.length := by unfold signs; rw [List.length_map, Array.length_toList]; rfl
      exact ⟨⟨_, rfl, by omega, by omega⟩, fun d q => q _ rfl⟩
    · obtain ⟨ys, rfl, hys⟩ := strs_of (Q := fun y => y.length = 1 ∧ PyData.strOk y = true) (es := es) (fun e he => by
        have h3 := h2.each (Z := fun d => d ∈ signs z) (fun _ _ q => q) e he
        obtain ⟨c, hc, rfl⟩ := List.mem_map.mp h3
        refine ⟨_, rfl, rfl, ok_of fun c' hc' => ?_⟩
        have : c' = c := by simpa using hc'
        rw [this]
        exact of_ok hz3 c hc)
      refine ⟨ys, rfl, ?_, hys⟩
      have h3 := h2.len
      rw [List.length_map] at h3
      omega
    · obtain ⟨h1, h2⟩ := hys
      have hs := sum_ones fun y hy => (h2 y hy).1
      have hl := join_len ys
      have ej : Txt.join Str.empty ys = Str.join Str.empty ys := StrLaws.glued_eq_join _ _
      refine ⟨by rw [hs]; show ys.length + ys.length * 0 ≤ _; omega, _, rfl, ?_, ok_of fun c hc => ?_⟩
      · rw [ej]
        omega
      · rw [ej] at hc
        rcases (PyProof.Rows.mem_join Str.empty c ys).mp hc with ⟨t, ht, hc⟩ | ⟨_, hc⟩
        · exact of_ok (h2 t ht).2 c hc
        · simp [Str.empty] at hc
  -- odd
  have hes : es.length = 5 := by
    subst h1
    rw [h2.len, rangeD_len]
    rfl
  have heg : ∀ e ∈ es, goodV e := fun e he => by
    obtain ⟨y, rfl, h3, h4⟩ := h2.each (Z := fun d => ∃ y : Str, d = .str y ∧ y.length ≤ 100000 ∧ PyData.strOk y = true) (fun _ _ q => q) e he
    exact ⟨rfl, fun z e => by cases e; exact ⟨h3, h4⟩⟩
  have p59 : CPowW (10 : Int) 59 := ⟨by decide, by decide, by decide, by decide⟩
  refine dss_set (i := 3) nd (DN.de (dn_listD (ds := odds) (di_cons de_non (di_cons de_int (di_cons de_bl (di_cons (de_tupleD di_nil) (di_cons (de_tupleD (di_cons de_str di_nil)) (di_cons (DN.de (dn_listD (di_cons de_str di_nil))) (di_cons de_dict0 (di_cons (de_pow de_int de_int p59) (di_cons de_str (di_cons de_str (di_cons de_str (di_cons de_str (di_cons de_str (di_cons de_str (di_cons de_str di_nil))))))))))))))) (by decide))) ?_
  refine dss_retP (P := goodV) (de_call GP hr gP FP.kp bP (da_dice (i := 0) rfl (da_consP (P1 := fun d => ∃ fs, d = .lst (es ++ fs) ∧ fs.length ≤ 1000 ∧ ∀ e ∈ fs, e ∈ odds) ((dn_catP (P1 := (· = es)) (P2 := fun fs => fs.length ≤ 1000 ∧ ∀ e ∈ fs, e ∈ odds) (P := fun gs => ∃ fs, gs = es ++ fs ∧ fs.length ≤ 1000 ∧ ∀ e ∈ fs, e ∈ odds) ((DE.w (de_var (i := 2) rfl)).mono fun _ q => ⟨es, q.symm, rfl⟩) (DE.w (de_call GS hr gS FS.kp bS (da_diceD (i := 0) rfl (da_cons (de_var (i := 3) rfl) (da_cons de_int da_nil))) (fun xs q => ?_))) (fun d1 d2 e h => ?_)).toE (fun gs ⟨fs, e, h⟩ => ⟨fs, by rw [e], h⟩)) da_nil)) (fun xs q => ?_)) (fun _ q => q)
  · subst q
    refine ⟨⟨_, _, rfl, by decide, by decide, by decide⟩, fun d q => ?_⟩
    obtain ⟨fs, h3, h4, h5⟩ := q _ _ rfl
    exact ⟨fs, h3, h4, h5⟩
  · subst e
    exact ⟨by omega, d2, rfl, h.1, h.2⟩
  · obtain ⟨_, rfl, _, _, rfl, ⟨fs, rfl, h3, h4⟩, rfl⟩ := q
    refine ⟨⟨_, rfl, ?_, ?_⟩, fun d q => ?_⟩
    · rw [List.length_append]; omega
    · rw [List.length_append]; omega
    · rcases List.mem_append.mp (q _ rfl) with h | h
      · exact heg d h
      · exact odds_good d (h4 d h)
end
end K01
namespace K01
open PySem L2 WT
abbrev nLaw : List Str := ["_law_script", "_law_spot", "_law_dice_here", "_law_turn", "_law_value", "_law_told", "_law_one"]
theorem scLaw : FnScope nLaw ["_law_script"] (defScope sLaw) := ⟨rfl, rfl, rfl, by decide +kernel, rfl, by decide +kernel, by decide +kernel⟩
/-! ### the mathematics: both looks agree -/
theorem looks_agree (d : Dt) : isWord d = isWord2 d := by
  cases d with
  | str z =>
    unfold isWord isWord2
    have e1 : decide ((1 : Int) ≤ z.length) = decide ((0 : Int) < z.length) := by
      rw [decide_eq_decide]
      omega
    have e2 : decide ((z.length : Int) ≤ 8) = decide ((z.length : Int) < 9) := by
      rw [decide_eq_decide]
      omega
    have e3 : ∀ cs : List Nat, (cs.map isLetter).all id = (cs.filter fun c => !isLetter c).isEmpty := by
      intro cs
      induction cs with
      | nil => rfl
      | cons c cs ih =>
        rw [List.map_cons, List.all_cons, ih, List.filter_cons]
        cases isLetter c <;> simp
    show ((decide ((1 : Int) ≤ z.length) && decide ((z.length : Int) ≤ 8)) && (z.cps.toList.map isLetter).all id) = ((decide ((0 : Int) < z.length) && decide ((z.length : Int) < 9)) && (z.cps.toList.filter fun c => !isLetter c).isEmpty)
    rw [e1, e2, e3]
  | _ => rfl
def told : List Str := ["coin", "", "abcdefgh", "abcdefghi", "a b", "x0", "X"]
section
variable {P : Program} {w : World} {K : PySem.W.Frag} {mg : Str → Option Value} {base : Heap}
def preL (xs : List Ar) : Prop := ∃ ns : List Int, xs = [.scr ns]
theorem ok_law {f fW fD fV fN : Addr} {fd fdW fdD fdV fdN : FuncData} {tM : Tok} (F : Fun K "law" "law" sLaw f fd) (B : Bl mg) (gM : mg "MAX_LETTERS" = some (.int 8 tM))
    (kW : PySem.W.keepIn K (.ref fW) = true) (bW : Binds K fdW ["value"] []) (gW : mg "is_word" = some (.ref fW)) (GW : FnOk P w K mg base CX0 1 fW fdW ["value"] (spA K preW postW))
    (kD : PySem.W.keepIn K (.ref fD) = true) (bD : Binds K fdD ["_law_script", "_law_spot"] []) (gD : mg "_law_dice" = some (.ref fD)) (GD : FnOk P w K mg base CX0 1 fD fdD ["_law_script", "_law_spot"] (spN K preD fun _ => diceL))
    (kV : PySem.W.keepIn K (.ref fV) = true) (bV : Binds K fdV ["_law_value"] []) (gV : mg "_law_is_word" = some (.ref fV)) (GV : FnOk P w K mg base CX0 1 fV fdV ["_law_value"] (spA K preV postV))
    (kN : PySem.W.keepIn K (.ref fN) = true) (bN : Binds K fdN ["_law_dice_here"] []) (gN : mg "_law_drawn_value" = some (.ref fN)) (GN : FnOk P w K mg base CX0 3 fN fdN ["_law_dice_here"] (spA K preN fun _ => goodV)) :
    FnOk P w K mg base CX0 4 f fd ["_law_script"] (spA K preL fun _ => Eq (.bl true)) := by
  refine fn_A F scLaw (fun xs ⟨ns, e⟩ => by rw [e]; rfl) (fun cdv A outer s H E hr xs ⟨ns, e⟩ => ?_)
  subst e
  have nd := scLaw.nd
  have hr1 : Room 1 _ := hr.mono (by decide)
  refine dss_for (j := 1) (fun _ _ r => ∃ a b c d : Ent, NotOwn (some b) ∧ r = [.scr ns, a, b, c, d, .no, .no]) nd (dit_range B.range (de_max2 B.max de_int (de_min2 B.min de_int (de_lenS (i := 0) B.len rfl))) ?_) (fun ds hP => ⟨.no, .no, .no, .no, trivial, rfl⟩) (fun ds i d ρ' hP hd hI => ?_) (fun ds ρ' hP hI => ?_)
  · split <;> (try split) <;> omega
  · obtain ⟨a, b, c, dd, hb, rfl⟩ := hI
    subst hP
    obtain ⟨_, rfl⟩ := rangeD_get hd
    refine dss_dice (i := 2) nd (dn_call GD hr1 gD kD bD (da_scr (i := 0) rfl (da_cons (de_var (i := 1) rfl) da_nil)) (fun xs q => ?_)) hb ?_
    · obtain ⟨_, rfl, rfl⟩ := q
      exact ⟨⟨ns, i, by rw [Int.zero_add]⟩, fun _ h => h⟩
    refine dss_for (j := 3) (fun _ _ r => ∃ c d : Ent, r = [.scr ns, .val (.int (0 + (i : Int))), .dice, c, d, .no, .no]) nd (dit_range B.range de_int (by decide)) (fun ds hP => ⟨_, _, rfl⟩) (fun ds' i' d' ρ'' hP' hd' hI' => ?_) (fun ds' ρ'' hP' hI' => ?_)
    · obtain ⟨c', d'', rfl⟩ := hI'
      refine dss_setP (i := 4) nd (de_call GN hr gN kN bN (da_diceD (i := 2) rfl da_nil) (fun xs q => ⟨q.symm, fun _ h => h⟩)) (fun v hv => ?_)
      refine dss_when (dt_neS (de_reprB (k := isWord v) B.repr (de_call GW hr1 gW kW bW (da_cons (de_var (i := 4) rfl) da_nil) (fun xs q => ?_))) (de_reprB (k := isWord2 v) B.repr (de_call GV hr1 gV kV bV (da_cons (de_var (i := 4) rfl) da_nil) (fun xs q => ?_)))) (fun hk => ?_) (fun hk => dss_nilP ⟨_, _, rfl⟩)
      · subst q
        refine ⟨⟨v, rfl, hv.1, ?_⟩, fun d h => h v rfl⟩
        cases v <;> first | trivial | exact (hv.2 _ rfl).1
      · subst q
        exact ⟨⟨v, rfl, hv⟩, fun d h => h v rfl⟩
      · rw [looks_agree, decide_eq_true rfl] at hk
        cases hk
    · obtain ⟨c', d', rfl⟩ := hI'
      exact dss_nilP ⟨_, .dice, _, _, trivial, rfl⟩
  · obtain ⟨a, b, c, dd, hb, rfl⟩ := hI
    refine dss_setLc (i := 5) (j := 6) (T := fun _ => true) (Pe := fun d y => .bl (isWord d) = y) nd (dit_listD (DN.de (dn_listD (ds := told.map .str) (di_cons de_str (di_cons de_str (di_cons de_str (di_cons de_str (di_cons de_str (di_cons de_str (di_cons de_str di_nil))))))) (by decide +kernel)))) (fun ds q => ?_) (blkOk_by (N := nLaw) (sc := defScope sLaw) (own := [("_law_one", 6)]) (by decide +kernel)) (fun _ _ _ _ _ _ _ _ _ => dts_nil) (fun s H C cl fp ds d hd hm _ => ?_) (fun _ _ _ _ _ => pg_name (i := 6) nd rfl (Or.inl rfl)) (by exact trivial) (ltq rfl) rfl rfl (sw_true rfl rfl rfl (by decide +kernel)) (fun es ⟨ds, h1, h2⟩ => ?_)
    · subst q
      decide +kernel
    · refine de_call GW hr1 gW kW bW (da_cons (de_var (i := 6) rfl) da_nil) (fun xs q => ?_)
      subst q hd
      obtain ⟨z, hz, rfl⟩ := List.mem_map.mp hm
      have key : ∀ z ∈ told, z.length ≤ 100000 := by decide +kernel
      exact ⟨⟨_, rfl, rfl, key z hz⟩, fun d h => h _ rfl⟩
    · subst h1
      have h3 : es = [.bl true, .bl false, .bl true, .bl false, .bl false, .bl false, .bl false] := by
        rw [h2.all (Pe := fun _ _ => True), List.map_map]
        have key : (told.map fun z => isWord (.str z)) = [true, false, true, false, false, false, false] := by decide +kernel
        have := congrArg (List.map Dt.bl) key
        rw [List.map_map] at this
        exact this
      subst h3
      refine dss_retP (P := Eq (.bl true)) (DE.cast (de_and (de_eqD hr (DE.w (de_var (i := 5) rfl)) (DE.w (DN.de (dn_listD (di_cons de_bl (di_cons de_bl (di_cons de_bl (di_cons de_bl (di_cons de_bl (di_cons de_bl (di_cons de_bl di_nil)))))))))) rfl rfl) (fun _ => de_one (de_eqI (de_gint gM ⟨tM, rfl⟩) de_int))) rfl) (fun _ q => q)
end
end K01
namespace K01
open PySem L2 WT
theorem all_mk {l : PySem.W.OpenLaw} {w : World} {K : PySem.W.Frag} {h : Heap} {mg : Str → Option Value} {fa f3 f5 f6 f7 f8 f9 f10 f11 : Addr} (X : K.In h) (G : h.Ns mainGlobals mg) (hfa : mg "law" = some (.ref fa))
    {od3 an3 od5 an5 od6 an6 od7 an7 od8 an8 od9 an9 od10 an10 od11 an11 : Option Addr} {sl3 sl5 sl6 sl7 sl8 sl9 sl10 sl11 : Array (Option Value)} {oc3 kV3 dc3 pm3 cd3 ct3 oc5 kV5 dc5 pm5 cd5 ct5 oc6 kV6 dc6 pm6 cd6 ct6 oc7 kV7 dc7 pm7 cd7 ct7 oc8 kV8 dc8 pm8 cd8 ct8 oc9 kV9 dc9 pm9 cd9 ct9 oc10 kV10 dc10 pm10 cd10 ct10 oc11 kV11 dc11 pm11 cd11 ct11 : Value} {tM tL : Tok}
    (a3 : PySem.W.nsIn K mainGlobals "is_word" = some (some (.ref f3))) (l3 : K.lookup f3 = some ⟨oc3, od3, .func (PySem.W.fnOf "is_word" "is_word" (defArgs sIsWord) (defBody sIsWord) (defScope sIsWord) .none kV3 dc3 pm3 an3 cd3 ct3), sl3⟩) (c3 : PySem.W.codeIn K cd3 "is_word" = true) (k3 : PySem.W.keepIn K (.ref f3) = true)
    (a5 : PySem.W.nsIn K mainGlobals "_law_dice" = some (some (.ref f5))) (l5 : K.lookup f5 = some ⟨oc5, od5, .func (PySem.W.fnOf "_law_dice" "_law_dice" (defArgs sDice) (defBody sDice) (defScope sDice) .none kV5 dc5 pm5 an5 cd5 ct5), sl5⟩) (c5 : PySem.W.codeIn K cd5 "_law_dice" = true) (k5 : PySem.W.keepIn K (.ref f5) = true)
    (a6 : PySem.W.nsIn K mainGlobals "_law_roll" = some (some (.ref f6))) (l6 : K.lookup f6 = some ⟨oc6, od6, .func (PySem.W.fnOf "_law_roll" "_law_roll" (defArgs sRoll) (defBody sRoll) (defScope sRoll) .none kV6 dc6 pm6 an6 cd6 ct6), sl6⟩) (c6 : PySem.W.codeIn K cd6 "_law_roll" = true) (k6 : PySem.W.keepIn K (.ref f6) = true)
    (a7 : PySem.W.nsIn K mainGlobals "_law_pick" = some (some (.ref f7))) (l7 : K.lookup f7 = some ⟨oc7, od7, .func (PySem.W.fnOf "_law_pick" "_law_pick" (defArgs sPick) (defBody sPick) (defScope sPick) .none kV7 dc7 pm7 an7 cd7 ct7), sl7⟩) (c7 : PySem.W.codeIn K cd7 "_law_pick" = true) (k7 : PySem.W.keepIn K (.ref f7) = true)
    (a8 : PySem.W.nsIn K mainGlobals "_law_some" = some (some (.ref f8))) (l8 : K.lookup f8 = some ⟨oc8, od8, .func (PySem.W.fnOf "_law_some" "_law_some" (defArgs sSome) (defBody sSome) (defScope sSome) .none kV8 dc8 pm8 an8 cd8 ct8), sl8⟩) (c8 : PySem.W.codeIn K cd8 "_law_some" = true) (k8 : PySem.W.keepIn K (.ref f8) = true)
    (a9 : PySem.W.nsIn K mainGlobals "_law_is_word" = some (some (.ref f9))) (l9 : K.lookup f9 = some ⟨oc9, od9, .func (PySem.W.fnOf "_law_is_word" "_law_is_word" (defArgs sIsW2) (defBody sIsW2) (defScope sIsW2) .none kV9 dc9 pm9 an9 cd9 ct9), sl9⟩) (c9 : PySem.W.codeIn K cd9 "_law_is_word" = true) (k9 : PySem.W.keepIn K (.ref f9) = true)
    (a10 : PySem.W.nsIn K mainGlobals "_law_drawn_value" = some (some (.ref f10))) (l10 : K.lookup f10 = some ⟨oc10, od10, .func (PySem.W.fnOf "_law_drawn_value" "_law_drawn_value" (defArgs sDrawn) (defBody sDrawn) (defScope sDrawn) .none kV10 dc10 pm10 an10 cd10 ct10), sl10⟩) (c10 : PySem.W.codeIn K cd10 "_law_drawn_value" = true) (k10 : PySem.W.keepIn K (.ref f10) = true)
    (a11 : PySem.W.nsIn K mainGlobals "law" = some (some (.ref f11))) (l11 : K.lookup f11 = some ⟨oc11, od11, .func (PySem.W.fnOf "law" "law" (defArgs sLaw) (defBody sLaw) (defScope sLaw) .none kV11 dc11 pm11 an11 cd11 ct11), sl11⟩) (c11 : PySem.W.codeIn K cd11 "law" = true) (k11 : PySem.W.keepIn K (.ref f11) = true)
    (gM : PySem.W.nsIn K mainGlobals "MAX_LETTERS" = some (some (.int 8 tM))) (gL : PySem.W.nsIn K mainGlobals "LETTERS" = some (some (.str letters tL)))
    (z1 : PySem.W.nsIn K mainGlobals "len" = some none) (z2 : PySem.W.nsIn K mainGlobals "abs" = some none) (z3 : PySem.W.nsIn K mainGlobals "int" = some none) (z4 : PySem.W.nsIn K mainGlobals "str" = some none) (z5 : PySem.W.nsIn K mainGlobals "bool" = some none) (z6 : PySem.W.nsIn K mainGlobals "list" = some none) (z7 : PySem.W.nsIn K mainGlobals "tuple" = some none) (z8 : PySem.W.nsIn K mainGlobals "dict" = some none) (z9 : PySem.W.nsIn K mainGlobals "set" = some none)
    (z10 : PySem.W.nsIn K mainGlobals "max" = some none) (z11 : PySem.W.nsIn K mainGlobals "min" = some none) (z12 : PySem.W.nsIn K mainGlobals "sum" = some none) (z13 : PySem.W.nsIn K mainGlobals "all" = some none) (z14 : PySem.W.nsIn K mainGlobals "any" = some none) (z15 : PySem.W.nsIn K mainGlobals "range" = some none) (z16 : PySem.W.nsIn K mainGlobals "zip" = some none) (z17 : PySem.W.nsIn K mainGlobals "sorted" = some none) (z18 : PySem.W.nsIn K mainGlobals "isinstance" = some none) (z19 : PySem.W.nsIn K mainGlobals "repr" = some none) :
    ∃ fd : FuncData, (∀ (s : Shared) (v : Value), BindsTo s fd ⟨[v], []⟩ [("_law_script", v)]) ∧ ∀ base : Heap, K.In base → base.Ns mainGlobals mg → FnOk l.prog w K mg base CX0 4 fa fd ["_law_script"] (spA K preL fun _ => Eq (.bl true)) := by
  have e := hfa.symm.trans (PySem.W.mg_of X G a11)
  cases e
  have B : Bl mg := ⟨PySem.W.mg_none_of X G z1, PySem.W.mg_none_of X G z2, PySem.W.mg_none_of X G z3, PySem.W.mg_none_of X G z4, PySem.W.mg_none_of X G z5, PySem.W.mg_none_of X G z6, PySem.W.mg_none_of X G z7, PySem.W.mg_none_of X G z8, PySem.W.mg_none_of X G z9, PySem.W.mg_none_of X G z10, PySem.W.mg_none_of X G z11, PySem.W.mg_none_of X G z12, PySem.W.mg_none_of X G z13, PySem.W.mg_none_of X G z14, PySem.W.mg_none_of X G z15, PySem.W.mg_none_of X G z16, PySem.W.mg_none_of X G z17, PySem.W.mg_none_of X G z18, PySem.W.mg_none_of X G z19⟩
  have F3 := fun_mk (st := sIsWord) l3 c3 k3
  have F5 := fun_mk (st := sDice) l5 c5 k5
  have F6 := fun_mk (st := sRoll) l6 c6 k6
  have F7 := fun_mk (st := sPick) l7 c7 k7
  have F8 := fun_mk (st := sSome) l8 c8 k8
  have F9 := fun_mk (st := sIsW2) l9 c9 k9
  have F10 := fun_mk (st := sDrawn) l10 c10 k10
  have F11 := fun_mk (st := sLaw) l11 c11 k11
  have b3 := F3.binds (ps := ["value"]) fun _ _ _ _ _ _ us hl => match us, hl with | [_], _ => rfl
  have b5 := F5.binds (ps := ["_law_script", "_law_spot"]) fun _ _ _ _ _ _ us hl => match us, hl with | [_, _], _ => rfl
  have b6 := F6.binds (ps := ["_law_dice_here", "_law_total"]) fun _ _ _ _ _ _ us hl => match us, hl with | [_, _], _ => rfl
  have b7 := F7.binds (ps := ["_law_dice_here", "_law_items"]) fun _ _ _ _ _ _ us hl => match us, hl with | [_, _], _ => rfl
  have b8 := F8.binds (ps := ["_law_dice_here", "_law_items", "_law_size"]) fun _ _ _ _ _ _ us hl => match us, hl with | [_, _, _], _ => rfl
  have b9 := F9.binds (ps := ["_law_value"]) fun _ _ _ _ _ _ us hl => match us, hl with | [_], _ => rfl
  have b10 := F10.binds (ps := ["_law_dice_here"]) fun _ _ _ _ _ _ us hl => match us, hl with | [_], _ => rfl
  have g3 := PySem.W.mg_of X G a3
  have g5 := PySem.W.mg_of X G a5
  have g6 := PySem.W.mg_of X G a6
  have g7 := PySem.W.mg_of X G a7
  have g8 := PySem.W.mg_of X G a8
  have g9 := PySem.W.mg_of X G a9
  have g10 := PySem.W.mg_of X G a10
  have gM := PySem.W.mg_of X G gM
  have gL := PySem.W.mg_of X G gL
  exact ⟨PySem.W.fnOf "law" "law" (defArgs sLaw) (defBody sLaw) (defScope sLaw) .none kV11 dc11 pm11 an11 cd11 ct11, fun s v => .of_eq rfl, fun base _ _ => ok_law F11 B gM k3 b3 g3 (ok_isWord F3 B gM gL) k5 b5 g5 (ok_dice F5 B) k9 b9 g9 (ok_isW2 F9 B) k10 b10 g10 (ok_drawn F10 B F6 b6 g6 F7 b7 g7 F8 b8 g8)⟩
theorem sp_start {K : PySem.W.Frag} {H : Hp} {a : Addr} {ns : List Int} (hS : SqL K H a (ns.map V.int)) : spA K preL (fun _ => Eq (.bl true)) [.ref a] H (fun v _ => v = .bl true) fun _ _ _ => False :=
  ⟨fun _ => False, fun _ => False, [.scr ns], fun _ z => z.elim, fun _ z => z.elim, ⟨⟨a, rfl, hS, hS.elim (fun r => .inl ⟨r, fun z => z⟩) fun r => .inr fun H' => .inr r⟩, trivial⟩, ⟨ns, rfl⟩, fun v d H2 _ hd hp => by subst hp; exact hd.bls⟩
end K01
open PySem PySem.W PyProof.Rows
set_option maxHeartbeats 0 in
theorem PySem.Challenge.cw_wonbyturns_k01_words_judged_holds : PySem.Challenge.rw_wonbyturns_k01_words_judged.Holds := by
  w_on; o_law; k_head; (case hw => w_witness2)
  k_fill
  refine L2.walk_of (l := PySem.Challenge.rw_wonbyturns_k01_words_judged) (n := 63) (k := 4) (x := "_law_script") (CX := fun _ => L2.CX0) (sp := fun w => WT.spA _ K01.preL fun _ => Eq (.bl true)) rfl (by decide) rfl ⟨rfl, by decide, by decide⟩ (fun w h Y => PySem.W.kIn_of Y) ?F (fun _ _ a ns hl _ hS => K01.sp_start hS) (fun _ _ _ _ _ h => h)
  case F =>
    intro w mg fa h KX G hmg
    refine' K01.all_mk KX G hmg ?a3 ?l3 ?c3 ?k3 ?a5 ?l5 ?c5 ?k5 ?a6 ?l6 ?c6 ?k6 ?a7 ?l7 ?c7 ?k7 ?a8 ?l8 ?c8 ?k8 ?a9 ?l9 ?c9 ?k9 ?a10 ?l10 ?c10 ?k10 ?a11 ?l11 ?c11 ?k11 ?gM ?gL ?z1 ?z2 ?z3 ?z4 ?z5 ?z6 ?z7 ?z8 ?z9 ?z10 ?z11 ?z12 ?z13 ?z14 ?z15 ?z16 ?z17 ?z18 ?z19
    (case a3 => k_is); (case l3 => k_is); (case c3 => k_is); (case k3 => k_is); (case a5 => k_is); (case l5 => k_is); (case c5 => k_is); (case k5 => k_is); (case a6 => k_is); (case l6 => k_is); (case c6 => k_is); (case k6 => k_is); (case a7 => k_is); (case l7 => k_is); (case c7 => k_is); (case k7 => k_is); (case a8 => k_is); (case l8 => k_is); (case c8 => k_is); (case k8 => k_is); (case a9 => k_is); (case l9 => k_is); (case c9 => k_is); (case k9 => k_is); (case a10 => k_is); (case l10 => k_is); (case c10 => k_is); (case k10 => k_is); (case a11 => k_is); (case l11 => k_is); (case c11 => k_is); (case k11 => k_is); (case gM => k_is); (case gL => k_is); (case z1 => k_is); (case z2 => k_is); (case z3 => k_is); (case z4 => k_is); (case z5 => k_is); (case z6 => k_is); (case z7 => k_is); (case z8 => k_is); (case z9 => k_is); (case z10 => k_is); (case z11 => k_is); (case z12 => k_is); (case z13 => k_is); (case z14 => k_is); (case z15 => k_is); (case z16 => k_is); (case z17 => k_is); (case z18 => k_is); (case z19 => k_is)
