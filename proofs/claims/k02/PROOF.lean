import PyProof.Rows.All
import Wide.All
import OpenK.AllK
import Wide.FinOn
import HandS.ForMost
import HandS.Exc
import HandS.ExcOwn
import HandS.WordsExc
import HandS.TryMany
import HandS.Flow
import HandS.Wide
import HandS.WideBits
import HandS.IsInst
import HandS.StrMore
import HandS.Style
import HandS.Small
import HandS.ExcIs
import KE.LtData
import PyProof.StrLawsFrom
import PySem.Challenge.RW_runsback_k02_whole_roots_and_earlier_row
set_option Elab.async false
set_option linter.all false
set_option maxRecDepth 100000
set_option maxHeartbeats 8000000
namespace RB
open PySem PySem.Spec PyProof.Rows L2

/-! ### data -/
/-- data apart from the heap; mlst: a list that somebody owns and may change -/
inductive D where
  | non | bl (b : Bool) | int (i : Int) | str (s : List Nat) | adr (a : Addr) | ty (n : String)
  | lst (ds : List D) | kst (ds : List D) | tup (ds : List D) | ktp (ds : List D) | dic (kvs : List (Key × D))
  | mlst (ds : List D)
def S (l : List Nat) : Str := ⟨l.toArray⟩
theorem S_list (x : Str) : S x.cps.toList = x := by cases x; rfl
theorem S_cps (l : List Nat) : (S l).cps.toList = l := rfl
theorem S_len (l : List Nat) : (S l).length = l.length := by
  show l.toArray.size = l.length
  exact List.size_toArray
theorem S_inj {a b : List Nat} : S a = S b ↔ a = b := ⟨fun h => by
  have := congrArg (fun x : Str => x.cps.toList) h
  exact this, fun h => by rw [h]⟩

/-- the texts that come: ASCII, of a length that fits -/
def okS (s : List Nat) : Prop := s.length ≤ sizeLine ∧ ∀ c ∈ s, c < 128
/-- is it free of owned parts (at its head) -/
def D.fro : D → Bool
  | .mlst _ => false
  | _ => true

mutual
inductive Rp (K : PySem.W.Frag) (F H : Hp) : V → D → List Addr → Prop
  | non : Rp K F H .non .non []
  | bl (b : Bool) : Rp K F H (.bl b) (.bl b) []
  | int (i : Int) : Rp K F H (.int i) (.int i) []
  | str (s : List Nat) (z : okS s) : Rp K F H (.str (S s)) (.str s) []
  | adr (a : Addr) : Rp K F H (.ref a) (.adr a) []
  | ty (n : String) : Rp K F H (.ty n) (.ty n) []
  | lst {a : Addr} {vs : List V} {ds : List D} : F a = some (.lst vs) → Rps K F H vs ds [] → Rp K F H (.ref a) (.lst ds) []
  | kst {a : Addr} {vs : List V} {ds : List D} : SqL K F a vs → Rps K F H vs ds [] → Rp K F H (.ref a) (.kst ds) []
  | tup {a : Addr} {vs : List V} {ds : List D} : F a = some (.tup vs) → Rps K F H vs ds [] → Rp K F H (.ref a) (.tup ds) []
  | ktp {a : Addr} {vs : List V} {ds : List D} : SqT K F a vs → Rps K F H vs ds [] → Rp K F H (.ref a) (.ktp ds) []
  | dic {a : Addr} {ks : List Key} {vs : List V} {ds : List D} {kvs : List (Key × V)} {kds : List (Key × D)} : Rd F a (.dK kvs) → kvs = ks.zip vs → kds = ks.zip ds → ks.length = vs.length → Rps K F H vs ds [] → Rp K F H (.ref a) (.dic kds) []
  | mlst {a : Addr} {vs : List V} {ds : List D} {ps : List Addr} : H a = some (.lst vs) → Rps K F H vs ds ps → Rp K F H (.ref a) (.mlst ds) (a :: ps)
inductive Rps (K : PySem.W.Frag) (F H : Hp) : List V → List D → List Addr → Prop
  | nil : Rps K F H [] [] []
  | cons {v : V} {d : D} {vs : List V} {ds : List D} {ps qs rs : List Addr} : Rp K F H v d ps → Rps K F H vs ds qs → rs = ps ++ qs → Rps K F H (v :: vs) (d :: ds) rs
end
section
variable {K : PySem.W.Frag} {F F' H H' : Hp}
theorem rd_ex (e : ∀ a o, F a = some o → F' a = some o) {a : Addr} {u : HO} (h : Rd F a u) : Rd F' a u := by
  rcases h with h | ⟨o, h⟩
  · exact .inl (e _ _ h)
  · exact .inr ⟨o, e _ _ h⟩
theorem sl_ex (e : ∀ a o, F a = some o → F' a = some o) {a : Addr} {xs : List V} (h : SqL K F a xs) : SqL K F' a xs := by
  rcases h with h | h
  · exact .inl (rd_ex e h)
  · exact .inr h
theorem st_ex (e : ∀ a o, F a = some o → F' a = some o) {a : Addr} {xs : List V} (h : SqT K F a xs) : SqT K F' a xs := by
  rcases h with h | h
  · exact .inl (rd_ex e h)
  · exact .inr h
mutual
theorem Rp.mono (e : ∀ a o, F a = some o → F' a = some o) : ∀ {v : V} {d : D} {ps : List Addr}, Rp K F H v d ps → (∀ a ∈ ps, ∀ o, H a = some o → H' a = some o) → Rp K F' H' v d ps
  | _, _, _, .non, _ => .non
  | _, _, _, .bl b, _ => .bl b
  | _, _, _, .int i, _ => .int i
  | _, _, _, .str s z, _ => .str s z
  | _, _, _, .adr a, _ => .adr a
  | _, _, _, .ty n, _ => .ty n
  | _, _, _, .lst h r, k => .lst (e _ _ h) (Rps.mono e r (by simp))
  | _, _, _, .kst h r, k => .kst (sl_ex e h) (Rps.mono e r (by simp))
  | _, _, _, .tup h r, k => .tup (e _ _ h) (Rps.mono e r (by simp))
  | _, _, _, .ktp h r, k => .ktp (st_ex e h) (Rps.mono e r (by simp))
  | _, _, _, .dic h e1 e2 l r, k => .dic (rd_ex e h) e1 e2 l (Rps.mono e r (by simp))
  | _, _, _, .mlst h r, k => .mlst (k _ List.mem_cons_self _ h) (Rps.mono e r fun a ha => k a (List.mem_cons_of_mem _ ha))
theorem Rps.mono (e : ∀ a o, F a = some o → F' a = some o) : ∀ {vs : List V} {ds : List D} {ps : List Addr}, Rps K F H vs ds ps → (∀ a ∈ ps, ∀ o, H a = some o → H' a = some o) → Rps K F' H' vs ds ps
  | _, _, _, .nil, _ => .nil
  | _, _, _, .cons h r q, k => .cons (Rp.mono e h fun a ha => k a (by rw [q]; exact List.mem_append_left _ ha)) (Rps.mono e r fun a ha => k a (by rw [q]; exact List.mem_append_right _ ha)) q
end
theorem Rp.fro {v : V} {d : D} {ps : List Addr} (h : Rp K F H v d ps) (f : d.fro = true) : ps = [] := by
  cases h <;> first | rfl | exact nomatch f
theorem Rp.any {v : V} {d : D} (h : Rp K F H v d []) : Rp K F H' v d [] := h.mono (fun _ _ q => q) (by simp)
theorem Rps.any {v : List V} {d : List D} (h : Rps K F H v d []) : Rps K F H' v d [] := h.mono (fun _ _ q => q) (by simp)
theorem Rps.length : ∀ {vs : List V} {ds : List D} {ps : List Addr}, Rps K F H vs ds ps → vs.length = ds.length
  | _, _, _, .nil => rfl
  | _, _, _, .cons _ r _ => by rw [List.length_cons, List.length_cons, Rps.length r]
theorem Rps.cons0 {v : V} {d : D} {vs : List V} {ds : List D} (h : Rp K F H v d []) (r : Rps K F H vs ds []) : Rps K F H (v :: vs) (d :: ds) [] := .cons h r rfl
theorem Rps.uncons {v : V} {d : D} {vs : List V} {ds : List D} (h : Rps K F H (v :: vs) (d :: ds) []) : Rp K F H v d [] ∧ Rps K F H vs ds [] := by
  cases h with
  | cons a b e =>
    obtain ⟨rfl, rfl⟩ := List.append_eq_nil_iff.mp e.symm
    exact ⟨a, b⟩
theorem Rps.get : ∀ {vs : List V} {ds : List D} {i : Nat} {v : V}, Rps K F H vs ds [] → vs[i]? = some v → ∃ d, ds[i]? = some d ∧ Rp K F H v d []
  | [], _, i, v, _, e => by simp at e
  | x :: vs, d :: ds, 0, v, h, e => by
    have q : x = v := Option.some.inj e
    subst q
    exact ⟨d, rfl, h.uncons.1⟩
  | x :: vs, d :: ds, i + 1, v, h, e => Rps.get (i := i) h.uncons.2 e
theorem Rps.getD : ∀ {vs : List V} {ds : List D} {i : Nat} {d : D}, Rps K F H vs ds [] → ds[i]? = some d → ∃ v, vs[i]? = some v ∧ Rp K F H v d []
  | _, [], i, v, _, e => by simp at e
  | x :: vs, d :: ds, 0, v, h, e => by
    have q : d = v := Option.some.inj e
    subst q
    exact ⟨x, rfl, h.uncons.1⟩
  | x :: vs, d :: ds, i + 1, v, h, e => Rps.getD (i := i) h.uncons.2 e
theorem Rps.append : ∀ {vs ws : List V} {ds es : List D}, Rps K F H vs ds [] → Rps K F H ws es [] → Rps K F H (vs ++ ws) (ds ++ es) []
  | [], _, [], _, _, r => r
  | _ :: _, _, _ :: _, _, h, r => Rps.cons0 h.uncons.1 (Rps.append h.uncons.2 r)
theorem Rps.take : ∀ {vs : List V} {ds : List D} (n : Nat), Rps K F H vs ds [] → Rps K F H (vs.take n) (ds.take n) []
  | [], [], n, _ => by rw [List.take_nil, List.take_nil]; exact .nil
  | _ :: _, _ :: _, 0, _ => .nil
  | _ :: _, _ :: _, n + 1, h => .cons0 h.uncons.1 (Rps.take n h.uncons.2)
theorem Rps.drop : ∀ {vs : List V} {ds : List D} (n : Nat), Rps K F H vs ds [] → Rps K F H (vs.drop n) (ds.drop n) []
  | [], [], n, _ => by rw [List.drop_nil, List.drop_nil]; exact .nil
  | _ :: _, _ :: _, 0, h => h
  | _ :: _, _ :: _, n + 1, h => Rps.drop n h.uncons.2
theorem Rps.rev : ∀ {vs : List V} {ds : List D}, Rps K F H vs ds [] → Rps K F H vs.reverse ds.reverse []
  | [], [], _ => .nil
  | v :: vs, d :: ds, h => by
    rw [List.reverse_cons, List.reverse_cons]
    exact (Rps.rev h.uncons.2).append (.cons0 h.uncons.1 .nil)
theorem Rps.set : ∀ {vs : List V} {ds : List D} {v : V} {d : D} (n : Nat), Rps K F H vs ds [] → Rp K F H v d [] → Rps K F H (vs.set n v) (ds.set n d) []
  | [], [], _, _, n, _, _ => .nil
  | _ :: _, _ :: _, _, _, 0, h, r => .cons0 r h.uncons.2
  | _ :: _, _ :: _, _, _, n + 1, h, r => .cons0 h.uncons.1 (Rps.set n h.uncons.2 r)
end

/-! ### who owns what: nobody (frozen, or unknown) | 0: somebody outside | 1: the value at hand | i + 2: the slot i -/
abbrev Ow := Addr → Option Nat
def fz (w : Ow) (H : Hp) : Hp := fun a => if w a = none then H a else none
/-- what a slot is known to hold; bor: a thing at an address that the caller owns -/
inductive E where
  | no | val (d : D) | bor (a : Addr) (d : D)
/-- v holds d, owned by t -/
def Holds (K : PySem.W.Frag) (w : Ow) (H : Hp) (t : Nat) (v : V) (d : D) : Prop := ∃ ps, Rp K (fz w H) H v d ps ∧ ps.Nodup ∧ ∀ a ∈ ps, w a = some t
def SlotOk (K : PySem.W.Frag) (w : Ow) (H : Hp) (i : Nat) (x : Option (Option V)) : E → Prop
  | .no => True
  | .val d => ∃ v, x = some (some v) ∧ Holds K w H (i + 2) v d
  | .bor a d => x = some (some (.ref a)) ∧ Holds K w H (i + 2) (.ref a) d
structure Stt (K : PySem.W.Frag) (w : Ow) (H : Hp) (σ : L2.St) (es : List E) : Prop where
  sl : ∀ i e, es[i]? = some e → SlotOk K w H i σ[i]? e
  lv : ∀ a, w a ≠ none → H a ≠ none
  ln : es.length ≤ σ.length
/-- from one state to a later one -/
structure Fr (w : Ow) (H : Hp) (w2 : Ow) (H2 : Hp) : Prop where
  keep : ∀ a o, H a = some o → (w a = none ∨ w a = some 0) → H2 a = some o
  outer : ∀ a, w a = some 0 ↔ w2 a = some 0
  froz : ∀ a, H a ≠ none → w a = none → w2 a = none
section
variable {K : PySem.W.Frag} {w w1 w2 w3 : Ow} {H H1 H2 H3 : Hp} {σ : L2.St} {es es1 es2 : List E} {v : V} {d : D} {t : Nat}
theorem Fr.refl : Fr w H w H := ⟨fun _ _ h _ => h, fun _ => Iff.rfl, fun _ _ h => h⟩
theorem Fr.trans (a : Fr w H w1 H1) (b : Fr w1 H1 w2 H2) : Fr w H w2 H2 where
  keep := fun x o h c => b.keep x o (a.keep x o h c) (by
    rcases c with c | c
    · exact .inl (a.froz x (by rw [h]; simp) c)
    · exact .inr ((a.outer x).mp c))
  outer := fun x => (a.outer x).trans (b.outer x)
  froz := fun x h c => b.froz x (by
    cases q : H x with
    | none => exact absurd q h
    | some o => rw [a.keep x o q (.inl c)]; simp) (a.froz x h c)
theorem fz_of {a : Addr} {o : HO} (h : fz w H a = some o) : w a = none ∧ H a = some o := by
  unfold fz at h
  split at h
  · exact ⟨by assumption, h⟩
  · cases h
theorem of_fz {a : Addr} {o : HO} (h : w a = none) (h2 : H a = some o) : fz w H a = some o := by
  unfold fz
  rw [if_pos h, h2]
theorem Fr.fz (f : Fr w H w2 H2) : ∀ a o, RB.fz w H a = some o → RB.fz w2 H2 a = some o := fun a o h => by
  obtain ⟨h1, h2⟩ := fz_of h
  exact of_fz (f.froz a (by rw [h2]; simp) h1) (f.keep a o h2 (.inl h1))
/-- frozen things stay -/
theorem Fr.rp (f : Fr w H w2 H2) (h : Rp K (RB.fz w H) H v d []) : Rp K (RB.fz w2 H2) H2 v d [] := h.mono f.fz (by simp)
theorem Fr.rps (f : Fr w H w2 H2) {vs : List V} {ds : List D} (h : Rps K (RB.fz w H) H vs ds []) : Rps K (RB.fz w2 H2) H2 vs ds [] := h.mono f.fz (by simp)
theorem fz_sub {a : Addr} {o : HO} (h : fz w H a = some o) : H a = some o := (fz_of h).2
theorem Holds.fro (h : Holds K w H t v d) (f : d.fro = true) : Rp K (fz w H) H v d [] := by
  obtain ⟨ps, r, _, _⟩ := h
  have := r.fro f
  subst this
  exact r
theorem Holds.of (h : Rp K (fz w H) H v d []) : Holds K w H t v d := ⟨[], h, List.nodup_nil, by simp⟩
/-- only new things were made -/
theorem Fr.new (k : ∀ a o, H a = some o → H2 a = some o) : Fr w H w H2 := ⟨fun a o h _ => k a o h, fun _ => Iff.rfl, fun _ _ h => h⟩
theorem Stt.grow (s : Stt K w H σ es) (k : ∀ a o, H a = some o → H2 a = some o) : Stt K w H2 σ es where
  sl := fun i e he => by
    have h := s.sl i e he
    have kk : ∀ a o, fz w H a = some o → fz w H2 a = some o := fun a o q => of_fz (fz_of q).1 (k a o (fz_of q).2)
    cases e with
    | no => trivial
    | val d =>
      obtain ⟨v, e1, ps, r, n, q⟩ := h
      exact ⟨v, e1, ps, r.mono kk fun a _ o => k a o, n, q⟩
    | bor a d =>
      obtain ⟨e1, ps, r, n, q⟩ := h
      exact ⟨e1, ps, r.mono kk fun a _ o => k a o, n, q⟩
  lv := fun a h => by
    cases q : H a with
    | none => exact absurd q (s.lv a h)
    | some o => rw [k a o q]; simp
  ln := s.ln
theorem Holds.grow (h : Holds K w H t v d) (k : ∀ a o, H a = some o → H2 a = some o) : Holds K w H2 t v d := by
  have kk : ∀ a o, fz w H a = some o → fz w H2 a = some o := fun a o q => of_fz (fz_of q).1 (k a o (fz_of q).2)
  obtain ⟨ps, r, n, q⟩ := h
  exact ⟨ps, r.mono kk fun a _ o => k a o, n, q⟩
theorem up_new {p : Addr} {o : HO} (h : H p = none) : ∀ a u, H a = some u → upd H p o a = some u := fun a u e => by
  rw [upd_ne (ne_of_none e h)]
  exact e
theorem Stt.fresh (s : Stt K w H σ es) {p : Addr} (h : H p = none) : w p = none := by
  cases q : w p with
  | none => rfl
  | some t => exact absurd h (s.lv p (by rw [q]; simp))
end


/-! ### what is wanted, without the heap -/
structure Exn where
  cls : Addr
  fld : Option (Str × D) := none
abbrev DX := Exn → List E → Prop
abbrev XE := List E → (D → List E → Prop) → DX → Prop
abbrev XT := List E → (Bool → List E → Prop) → DX → Prop
inductive A where
  | v (d : D) | b (i : Nat)
abbrev XA := List E → (List A → List E → Prop) → DX → Prop
structure XD where
  nx : List E → Prop
  rt : D → List E → Prop
  bk : List E → Prop := fun _ => False
  ct : List E → Prop := fun _ => False
  xn : DX
abbrev XS := XD → List E → Prop

/-- an exception as it flies -/
def IsX (K : PySem.W.Frag) (w : Ow) (H : Hp) (x : Exn) (cls : Value) (dd : Option Addr) : Prop :=
  cls = .ref x.cls ∧ match x.fld with
    | none => dd = none
    | some (n, d) => ∃ a v, dd = some a ∧ w a = none ∧ H a = some (.xd [(n, v)]) ∧ Rp K (fz w H) H v d []
def XOk (K : PySem.W.Frag) (W : WX) (w : Ow) (H : Hp) (σ : L2.St) (RX : DX) : Prop :=
  ∀ x es2 H2 w2 cls dd, RX x es2 → Stt K w2 H2 σ es2 → Fr w H w2 H2 → IsX K w2 H2 x cls dd → W cls dd σ H2
/-- a value to look at: frozen, or a list that is owned but whose items are frozen -/
def RpV (K : PySem.W.Frag) (w : Ow) (H : Hp) (v : V) (d : D) : Prop :=
  Rp K (fz w H) H v d [] ∨ ∃ a vs ds, v = .ref a ∧ d = .lst ds ∧ H a = some (.lst vs) ∧ Rps K (fz w H) H vs ds []

def up (K : PySem.W.Frag) (W : WX) (d : XE) : TE := fun σ H Q => ∃ w es R RX, Stt K w H σ es ∧ d es R RX ∧
  (∀ dv es2 v H2 w2, R dv es2 → Stt K w2 H2 σ es2 → Holds K w2 H2 1 v dv → Fr w H w2 H2 → Q v H2) ∧ XOk K W w H σ RX
/-- an operand: looked at where it comes -/
def upO (K : PySem.W.Frag) (W : WX) (d : XE) : TE := fun σ H Q => ∃ w es R RX, Stt K w H σ es ∧ d es R RX ∧
  (∀ dv es2 v H2 w2, R dv es2 → Stt K w2 H2 σ es2 → RpV K w2 H2 v dv → Fr w H w2 H2 → Q v H2) ∧ XOk K W w H σ RX
/-- a frozen value -/
def upF (K : PySem.W.Frag) (W : WX) (d : XE) : TE := fun σ H Q => ∃ w es R RX, Stt K w H σ es ∧ d es R RX ∧
  (∀ dv es2 v H2 w2, R dv es2 → Stt K w2 H2 σ es2 → Rp K (fz w2 H2) H2 v dv [] → Fr w H w2 H2 → Q v H2) ∧ XOk K W w H σ RX
def upT (K : PySem.W.Frag) (W : WX) (d : XT) : TT := fun σ H Q => ∃ w es R RX, Stt K w H σ es ∧ d es R RX ∧
  (∀ b es2 H2 w2, R b es2 → Stt K w2 H2 σ es2 → Fr w H w2 H2 → Q b H2) ∧ XOk K W w H σ RX
def ArgRel (K : PySem.W.Frag) (w : Ow) (H : Hp) (σ : L2.St) (as : List A) (vs : List V) : Prop :=
  as.length = vs.length ∧ ∀ (j : Nat) v, vs[j]? = some v → (∀ d, as[j]? = some (.v d) → d.fro = true ∧ Rp K (fz w H) H v d []) ∧ (∀ i, as[j]? = some (.b i) → σ[i]? = some (some v))
def upA (K : PySem.W.Frag) (W : WX) (d : XA) : TA := fun σ H Q => ∃ w es R RX, Stt K w H σ es ∧ d es R RX ∧
  (∀ as es2 vs H2 w2, R as es2 → Stt K w2 H2 σ es2 → ArgRel K w2 H2 σ as vs → Fr w H w2 H2 → Q vs H2) ∧ XOk K W w H σ RX
def upS (K : PySem.W.Frag) (W : WX) (s : XS) : TS := fun D σ H => ∃ w es xd, Stt K w H σ es ∧ s xd es ∧
  (∀ es2 σ2 H2 w2, xd.nx es2 → Stt K w2 H2 σ2 es2 → Fr w H w2 H2 → D.nx σ2 H2) ∧
  (∀ dv es2 v σ2 H2 w2, xd.rt dv es2 → Stt K w2 H2 σ2 es2 → Holds K w2 H2 1 v dv → Fr w H w2 H2 → D.rt v H2) ∧
  (∀ es2 σ2 H2 w2, xd.bk es2 → Stt K w2 H2 σ2 es2 → Fr w H w2 H2 → D.bk σ2 H2) ∧
  (∀ es2 σ2 H2 w2, xd.ct es2 → Stt K w2 H2 σ2 es2 → Fr w H w2 H2 → D.ct σ2 H2) ∧
  (∀ x es2 σ2 H2 w2 cls dd, xd.xn x es2 → Stt K w2 H2 σ2 es2 → Fr w H w2 H2 → IsX K w2 H2 x cls dd → W cls dd σ2 H2)

def PEX (X : Cx) (e : Expr) (d : XE) : Prop := ∀ W, Takes X W → PE X e (up X.K W d)
def POX (X : Cx) (e : Expr) (d : XE) : Prop := ∀ W, Takes X W → PE X e (upO X.K W d)
def PFX (X : Cx) (e : Expr) (d : XE) : Prop := ∀ W, Takes X W → PE X e (upF X.K W d)
def PTX (X : Cx) (e : Expr) (d : XT) : Prop := ∀ W, Takes X W → PT X e (upT X.K W d)
def PWX (X : Cx) (e : Expr) (d : XT) : Prop := ∀ W, Takes X W → PW X e (upT X.K W d)
def PAX (X : Cx) (es : List Expr) (d : XA) : Prop := ∀ W, Takes X W → PA X es (upA X.K W d)
def PSX (X : Cx) (st : Stmt) (s : XS) : Prop := PassesOwn (model X.prog X.w) X.A X.env X.xe → ∀ W, Takes X W → PS X st (upS X.K W s)
def PSsX (X : Cx) (st : List Stmt) (s : XS) : Prop := PassesOwn (model X.prog X.w) X.A X.env X.xe → ∀ W, Takes X W → PSs X st (upS X.K W s)

theorem PE.weak {X : Cx} {e : Expr} {t t' : TE} (h : PE X e t) (k : ∀ σ H Q, t' σ H Q → t σ H Q) : PE X e t' := ⟨fun pins s σ H Q I q => h.run pins s σ H Q I (k σ H Q q)⟩
theorem PT.weak {X : Cx} {e : Expr} {t t' : TT} (h : PT X e t) (k : ∀ σ H Q, t' σ H Q → t σ H Q) : PT X e t' := ⟨fun pins s σ H Q I q => h.run pins s σ H Q I (k σ H Q q)⟩
theorem PW.weak {X : Cx} {e : Expr} {t t' : TT} (h : PW X e t) (k : ∀ σ H Q, t' σ H Q → t σ H Q) : PW X e t' := ⟨fun wh pins s σ H Q I q => h.run wh pins s σ H Q I (k σ H Q q)⟩
theorem PA.weak {X : Cx} {e : List Expr} {t t' : TA} (h : PA X e t) (k : ∀ σ H Q, t' σ H Q → t σ H Q) : PA X e t' := ⟨fun wh pins s σ H Q I q => h.run wh pins s σ H Q I (k σ H Q q)⟩
theorem PS.weak {X : Cx} {e : Stmt} {t t' : TS} (h : PS X e t) (k : ∀ D σ H, t' D σ H → t D σ H) : PS X e t' := ⟨fun pins s σ H D I q => h.run pins s σ H D I (k D σ H q)⟩
theorem PSs.weak {X : Cx} {e : List Stmt} {t t' : TS} (h : PSs X e t) (k : ∀ D σ H, t' D σ H → t D σ H) : PSs X e t' := ⟨fun pins s σ H D I q => h.run pins s σ H D I (k D σ H q)⟩

section
variable {K : PySem.W.Frag} {W : WX} {w w1 w2 : Ow} {H H1 H2 : Hp} {σ : L2.St} {es es1 es2 : List E} {v x y : V} {d d1 d2 : D} {RX : DX}
theorem XOk.fr (h : XOk K W w H σ RX) (f : Fr w H w1 H1) : XOk K W w1 H1 σ RX := fun x es2 H2 w2 cls dd r s g i => h x es2 H2 w2 cls dd r s (f.trans g) i
theorem RpV.rp (h : Rp K (fz w H) H v d []) : RpV K w H v d := .inl h
theorem RpV.lst {ds : List D} (h : RpV K w H v (.lst ds)) : ∃ a vs, v = .ref a ∧ H a = some (.lst vs) ∧ Rps K (fz w H) H vs ds [] := by
  rcases h with h | ⟨a, vs, ds', e1, e2, h1, h2⟩
  · cases h with
    | lst a b => exact ⟨_, _, rfl, fz_sub a, b⟩
  · cases e2
    exact ⟨a, vs, e1, h1, h2⟩
theorem RpV.kst {ds : List D} (h : RpV K w H v (.kst ds)) : ∃ a vs, v = .ref a ∧ SqL K H a vs ∧ Rps K (fz w H) H vs ds [] := by
  rcases h with h | ⟨a, vs, ds', e1, e2, h1, h2⟩
  · cases h with
    | kst a b => exact ⟨_, _, rfl, sl_ex (fun _ _ q => fz_sub q) a, b⟩
  · cases e2
theorem RpV.tup {ds : List D} (h : RpV K w H v (.tup ds)) : ∃ a vs, v = .ref a ∧ H a = some (.tup vs) ∧ Rps K (fz w H) H vs ds [] := by
  rcases h with h | ⟨a, vs, ds', e1, e2, h1, h2⟩
  · cases h with
    | tup a b => exact ⟨_, _, rfl, fz_sub a, b⟩
  · cases e2
theorem RpV.ktp {ds : List D} (h : RpV K w H v (.ktp ds)) : ∃ a vs, v = .ref a ∧ SqT K H a vs ∧ Rps K (fz w H) H vs ds [] := by
  rcases h with h | ⟨a, vs, ds', e1, e2, h1, h2⟩
  · cases h with
    | ktp a b => exact ⟨_, _, rfl, st_ex (fun _ _ q => fz_sub q) a, b⟩
  · cases e2
theorem RpV.int {i : Int} (h : RpV K w H v (.int i)) : v = .int i := by
  rcases h with h | ⟨a, vs, ds', e1, e2, h1, h2⟩
  · cases h; rfl
  · cases e2
theorem RpV.bl {i : Bool} (h : RpV K w H v (.bl i)) : v = .bl i := by
  rcases h with h | ⟨a, vs, ds', e1, e2, h1, h2⟩
  · cases h; rfl
  · cases e2
theorem RpV.non (h : RpV K w H v .non) : v = .non := by
  rcases h with h | ⟨a, vs, ds', e1, e2, h1, h2⟩
  · cases h; rfl
  · cases e2
theorem RpV.str {s : List Nat} (h : RpV K w H v (.str s)) : v = .str (S s) ∧ okS s := by
  rcases h with h | ⟨a, vs, ds', e1, e2, h1, h2⟩
  · cases h with
    | str s z => exact ⟨rfl, z⟩
  · cases e2
theorem RpV.ty {s : String} (h : RpV K w H v (.ty s)) : v = .ty s := by
  rcases h with h | ⟨a, vs, ds', e1, e2, h1, h2⟩
  · cases h; rfl
  · cases e2
theorem RpV.adr {a : Addr} (h : RpV K w H v (.adr a)) : v = .ref a := by
  rcases h with h | ⟨a, vs, ds', e1, e2, h1, h2⟩
  · cases h; rfl
  · cases e2
/-- seen later, frozen -/
theorem Fr.rpv (f : Fr w H w2 H2) (h : Rp K (RB.fz w H) H v d []) : RpV K w2 H2 v d := .inl (f.rp h)

/-! ### an owned value is frozen -/
/-- owned by nobody any more -/
def thaw (w : Ow) (t : Nat) : Ow := fun a => if w a = some t then none else w a
theorem thaw_none {t : Nat} {a : Addr} (h : w a = none) : thaw w t a = none := by unfold thaw; rw [h]; simp
theorem thaw_t {t : Nat} {a : Addr} (h : w a = some t) : thaw w t a = none := by unfold thaw; rw [if_pos h]
theorem thaw_ne {t u : Nat} {a : Addr} (h : w a = some u) (n : u ≠ t) : thaw w t a = some u := by
  unfold thaw; rw [if_neg (by rw [h]; simpa using n), h]
theorem thaw_some {t u : Nat} {a : Addr} (h : thaw w t a = some u) : w a = some u ∧ u ≠ t := by
  unfold thaw at h
  split at h
  · cases h
  · refine ⟨h, fun e => ?_⟩
    subst e
    exact absurd h (by assumption)
theorem thaw_fz {t : Nat} : ∀ a o, fz w H a = some o → fz (thaw w t) H a = some o := fun a o h => of_fz (thaw_none (fz_of h).1) (fz_of h).2
theorem thaw_fr {t : Nat} (h0 : t ≠ 0) : Fr w H (thaw w t) H := ⟨fun _ _ h _ => h, fun a => ⟨fun h => thaw_ne h (Ne.symm h0), fun h => (thaw_some h).1⟩, fun a _ h => thaw_none h⟩
theorem Holds.thaw {t u : Nat} (h : Holds K w H u v d) (n : u ≠ t) : Holds K (thaw w t) H u v d := by
  obtain ⟨ps, r, nd, q⟩ := h
  exact ⟨ps, r.mono thaw_fz (fun _ _ _ h => h), nd, fun a ha => thaw_ne (q a ha) n⟩
theorem Stt.thaw {t : Nat} (s : Stt K w H σ es) (n : ∀ i e, es[i]? = some e → (∃ d, e = .val d ∧ d.fro = false) ∨ (∃ a d, e = .bor a d) → i + 2 ≠ t) : Stt K (thaw w t) H σ es where
  sl := fun i e he => by
    have h := s.sl i e he
    cases e with
    | no => trivial
    | val d =>
      obtain ⟨v, e1, hd⟩ := h
      by_cases hf : d.fro = true
      · exact ⟨v, e1, .of ((hd.fro hf).mono thaw_fz (by simp))⟩
      · exact ⟨v, e1, hd.thaw (n i _ he (.inl ⟨d, rfl, by simpa using hf⟩))⟩
    | bor a d => exact ⟨h.1, h.2.thaw (n i _ he (.inr ⟨a, d, rfl⟩))⟩
  lv := fun a h => by
    cases q : RB.thaw w t a with
    | none => exact absurd q h
    | some u => exact s.lv a (by rw [(thaw_some q).1]; simp)
  ln := s.ln
/-- the frozen form: of a list whose items are frozen -/
def D.frz : D → D
  | .mlst ds => .lst ds
  | d => d
/-- may it be frozen so -/
def D.okf : D → Bool
  | .mlst ds => ds.all D.fro
  | _ => true
theorem Rps.fro : ∀ {F H : Hp} {vs : List V} {ds : List D} {ps : List Addr}, Rps K F H vs ds ps → ds.all D.fro = true → ps = []
  | _, _, _, _, _, .nil, _ => rfl
  | _, _, _, _, _, .cons h r e, f => by
    simp only [List.all_cons, Bool.and_eq_true] at f
    rw [e, h.fro f.1, Rps.fro r f.2]
    rfl
theorem Holds.frz {t : Nat} (h : Holds K w H t v d) (f : d.okf = true) (lv : ∀ a, w a ≠ none → H a ≠ none) : Rp K (fz (RB.thaw w t) H) H v d.frz [] := by
  obtain ⟨ps, r, nd, q⟩ := h
  cases r with
  | mlst h r =>
    have e := r.fro f
    subst e
    exact .lst (of_fz (thaw_t (q _ List.mem_cons_self)) h) ((r.any (H' := H)).mono thaw_fz (by simp))
  | non => exact .non
  | bl b => exact .bl b
  | int i => exact .int i
  | str s z => exact .str s z
  | adr a => exact .adr a
  | ty n => exact .ty n
  | lst h r => exact .lst (thaw_fz _ _ h) (r.mono thaw_fz (by simp))
  | kst h r => exact .kst (sl_ex thaw_fz h) (r.mono thaw_fz (by simp))
  | tup h r => exact .tup (thaw_fz _ _ h) (r.mono thaw_fz (by simp))
  | ktp h r => exact .ktp (st_ex thaw_fz h) (r.mono thaw_fz (by simp))
  | dic h e1 e2 l r => exact .dic (rd_ex thaw_fz h) e1 e2 l (r.mono thaw_fz (by simp))
end

section
variable {X : Cx} {e e1 e2 : Expr} {d d1 d2 : XE}
/-- a value taken frozen -/
def dF (d : XE) : XE := fun es Q QX => d es (fun dv es2 => dv.okf = true ∧ Q dv.frz es2) QX
theorem x_f (h : PEX X e d) : PFX X e (dF d) := fun W tk => PE.weak (h W tk) fun σ H Q ⟨w, es, R, RX, s, q, k, kx⟩ => ⟨w, es, _, RX, s, q, fun dv es2 v H2 w2 hR s2 hd f => by
  obtain ⟨ok, hR⟩ := hR
  exact k _ es2 v H2 (thaw w2 1) hR (s2.thaw (by omega)) (hd.frz ok s2.lv) (f.trans (thaw_fr (by omega))), kx⟩
theorem o_f (h : PFX X e d) : POX X e d := fun W tk => PE.weak (h W tk) fun σ H Q ⟨w, es, R, RX, s, q, k, kx⟩ => ⟨w, es, R, RX, s, q, fun dv es2 v H2 w2 hR s2 hd f => k dv es2 v H2 w2 hR s2 (.rp hd) f, kx⟩
theorem x_of (h : PFX X e d) : PEX X e d := fun W tk => PE.weak (h W tk) fun σ H Q ⟨w, es, R, RX, s, q, k, kx⟩ => ⟨w, es, R, RX, s, q, fun dv es2 v H2 w2 hR s2 hd f => k dv es2 v H2 w2 hR s2 (.of hd) f, kx⟩
end


/-! ### names and constants -/
/-- what a slot shows: a list that is owned is shown as a list -/
def E.look : E → Option D
  | .val d => some d
  | .bor _ d => some d
  | .no => none
def oVar (i : Nat) : XE := fun es Q _ => ∃ d, (es[i]?).bind E.look = some d ∧ d.okf = true ∧ Q d.frz es
def dC (d : D) : XE := fun es Q _ => Q d es
section
variable {K : PySem.W.Frag} {W : WX} {w w1 w2 : Ow} {H H1 H2 : Hp} {σ : L2.St} {es es1 es2 : List E} {v x y : V} {d d1 d2 : D} {RX : DX}
theorem Stt.look (s : Stt K w H σ es) {i : Nat} (h : (es[i]?).bind E.look = some d) : ∃ v, σ[i]? = some (some v) ∧ Holds K w H (i + 2) v d := by
  cases q : es[i]? with
  | none => rw [q] at h; cases h
  | some e =>
    rw [q] at h
    have z := s.sl i e q
    cases e with
    | no => cases h
    | val d' =>
      obtain ⟨v, e1, hd⟩ := z
      cases (show some d' = some d from h)
      exact ⟨v, e1, hd⟩
    | bor a d' =>
      cases (show some d' = some d from h)
      exact ⟨.ref a, z.1, z.2⟩
theorem Holds.view {t : Nat} (h : Holds K w H t v d) (ok : d.okf = true) : RpV K w H v d.frz := by
  obtain ⟨ps, r, nd, q⟩ := h
  cases r with
  | mlst h r =>
    have e := r.fro ok
    subst e
    exact .inr ⟨_, _, _, rfl, rfl, h, r⟩
  | non => exact .inl .non
  | bl b => exact .inl (.bl b)
  | int i => exact .inl (.int i)
  | str s z => exact .inl (.str s z)
  | adr a => exact .inl (.adr a)
  | ty n => exact .inl (.ty n)
  | lst h r => exact .inl (.lst h r)
  | kst h r => exact .inl (.kst h r)
  | tup h r => exact .inl (.tup h r)
  | ktp h r => exact .inl (.ktp h r)
  | dic h e1 e2 l r => exact .inl (.dic h e1 e2 l r)
end
section
variable {X : Cx} {e a b : Expr} {d da db : XE}
theorem o_var {i : Nat} (h : PE X e (tVar i)) : POX X e (oVar i) := fun W tk => PE.weak h fun σ H Q ⟨w, es, R, RX, s, q, k, kx⟩ => by
  obtain ⟨d, hd, ok, hR⟩ := q
  obtain ⟨v, e1, hv⟩ := s.look hd
  exact ⟨v, e1, k _ _ _ _ _ hR s (hv.view ok) .refl⟩
/-- a name that holds what nobody changes -/
def dVar (i : Nat) : XE := fun es Q _ => ∃ d, (es[i]?).bind E.look = some d ∧ d.fro = true ∧ Q d es
theorem x_var {i : Nat} (h : PE X e (tVar i)) : PFX X e (dVar i) := fun W tk => PE.weak h fun σ H Q ⟨w, es, R, RX, s, q, k, kx⟩ => by
  obtain ⟨d, hd, ok, hR⟩ := q
  obtain ⟨v, e1, hv⟩ := s.look hd
  exact ⟨v, e1, k _ _ _ _ _ hR s (hv.fro ok) .refl⟩
theorem x_c {v : V} {d : D} (h : PE X e (tC v)) (r : ∀ F H, Rp X.K F H v d []) : PFX X e (dC d) := fun W tk => PE.weak h fun σ H Q ⟨w, es, R, RX, s, q, k, kx⟩ =>
  k _ _ _ _ _ q s (r _ _) .refl
theorem x_int {i : Int} {j : Nat} {pos : Pos} : PFX X (.Constant (.int i) j pos) (dC (.int i)) := x_c pe_int fun _ _ => .int i
theorem x_bl {i : Bool} {j : Nat} {pos : Pos} : PFX X (.Constant (.bool i) j pos) (dC (.bl i)) := x_c pe_bl fun _ _ => .bl i
theorem x_non {j : Nat} {pos : Pos} : PFX X (.Constant .none j pos) (dC .non) := x_c pe_non fun _ _ => .non
theorem x_str {x : Str} {j : Nat} {pos : Pos} (h : okS x.cps.toList) : PFX X (.Constant (.str x) j pos) (dC (.str x.cps.toList)) := x_c pe_str fun F H => by
  have z := Rp.str (K := X.K) (F := F) (H := H) x.cps.toList h
  rw [S_list] at z
  exact z

/-! ### an operation on two operands -/
/-- what an operation gives: a frozen thing, or a new list -/
def Res (K : PySem.W.Frag) (w : Ow) (H : Hp) (v : V) (d : D) (H2 : Hp) : Prop :=
  (∀ a o, H a = some o → H2 a = some o) ∧ (Rp K (fz w H2) H2 v d [] ∨ ∃ p vs ds, v = .ref p ∧ d = .mlst ds ∧ H p = none ∧ H2 p = some (.lst vs) ∧ ∃ H1, H1 p = none ∧ (∀ a o, H1 a = some o → H2 a = some o) ∧ Rps K (fz w H1) H1 vs ds [])
/-- the new one is the value at hand -/
def own1 (w : Ow) (p : Addr) : Ow := fun a => if a = p then some 1 else w a
theorem Res.to {K : PySem.W.Frag} {w : Ow} {H H2 : Hp} {σ : L2.St} {es : List E} {v : V} {d : D} (r : Res K w H v d H2) (s : Stt K w H σ es) : ∃ w2, Stt K w2 H2 σ es ∧ Holds K w2 H2 1 v d ∧ Fr w H w2 H2 := by
  obtain ⟨k, r | ⟨p, vs, ds, rfl, rfl, hp, h2, H1, hp1, k1, r⟩⟩ := r
  · exact ⟨w, s.grow k, .of r, .new k⟩
  · have wp : w p = none := s.fresh hp
    have fr : Fr w H (own1 w p) H2 := by
      refine ⟨fun a o h _ => k a o h, fun a => ?_, fun a h1 h2 => ?_⟩
      · unfold own1
        by_cases e : a = p
        · subst e; rw [if_pos rfl, wp]; simp
        · rw [if_neg e]
      · unfold own1
        rw [if_neg (fun e => by subst e; exact h1 hp)]
        exact h2
    have s2 := s.grow k
    have up : ∀ {v d t}, Holds K w H t v d → Holds K (own1 w p) H2 t v d := by
      rintro v d t ⟨ps, r, nd, q⟩
      refine ⟨ps, r.mono fr.fz fun a ha o ho => k a o ho, nd, fun a ha => ?_⟩
      unfold own1
      rw [if_neg (fun e => by have := q a ha; rw [e, wp] at this; cases this)]
      exact q a ha
    refine ⟨own1 w p, ⟨fun i e he => ?_, fun a ha => ?_, s.ln⟩, ⟨[p], .mlst h2 (r.mono (fun a o h => ?_) (by simp)), by simp, by simp [own1]⟩, fr⟩
    · have z := s.sl i e he
      cases e with
      | no => trivial
      | val d => exact ⟨z.choose, z.choose_spec.1, up z.choose_spec.2⟩
      | bor a d => exact ⟨z.1, up z.2⟩
    · unfold own1 at ha
      by_cases e : a = p
      · subst e; rw [h2]; simp
      · rw [if_neg e] at ha
        cases q : H a with
        | none => exact absurd q (s.lv a ha)
        | some o => rw [k a o q]; simp
    · have e1 : a ≠ p := fun e => by subst e; rw [(fz_of h).2] at hp1; cases hp1
      refine of_fz ?_ (k1 a o (fz_of h).2)
      unfold own1
      rw [if_neg e1]
      exact (fz_of h).1
abbrev G2 := D → D → (D → Prop) → Prop
abbrev G1 := D → (D → Prop) → Prop
def Lift2 (K : PySem.W.Frag) (r : R2) (g : G2) : Prop := ∀ w H x y d1 d2 (G : D → Prop) (Q : VK), (∀ a, w a ≠ none → H a ≠ none) → RpV K w H x d1 → RpV K w H y d2 → g d1 d2 G → (∀ d v H2, G d → Res K w H v d H2 → Q v H2) → r x y H Q
def Lift1 (K : PySem.W.Frag) (r : V → Hp → VK → Prop) (g : G1) : Prop := ∀ w H x d1 (G : D → Prop) (Q : VK), (∀ a, w a ≠ none → H a ≠ none) → RpV K w H x d1 → g d1 G → (∀ d v H2, G d → Res K w H v d H2 → Q v H2) → r x H Q
/-- the first operand frozen as it comes; or a name, looked at behind the second one -/
def dOp (g : G2) (da db : XE) : XE := fun es Q QX => da es (fun d1 es1 => db es1 (fun d2 es2 => g d1 d2 fun d => Q d es2) QX) QX
def dOpV (g : G2) (i : Nat) (db : XE) : XE := fun es Q QX => ((es[i]?).bind E.look).isSome = true ∧ db es (fun d2 es2 => ∃ d, (es2[i]?).bind E.look = some d ∧ d.okf = true ∧ g d.frz d2 fun d => Q d es2) QX
def dUn (g : G1) (da : XE) : XE := fun es Q QX => da es (fun d1 es1 => g d1 fun d => Q d es1) QX
theorem x_bin {e : Expr} {r : R2} {g : G2} (h : ∀ {ta tb : TE}, PE X a ta → PE X b tb → PE X e (tOp r ta tb)) (l : Lift2 X.K r g) (ha : PFX X a da) (hb : POX X b db) : PEX X e (dOp g da db) := fun W tk =>
  PE.weak (h (ha W tk) (hb W tk)) fun σ H Q ⟨w, es, R, RX, s, q, k, kx⟩ => ⟨w, es, _, _, s, q, fun d1 es1 x H1 w1 q1 s1 r1 f1 => ⟨w1, es1, _, _, s1, q1, fun d2 es2 y H2 w2 q2 s2 r2 f2 =>
    l w2 H2 x y d1 d2 _ _ s2.lv (f2.rpv r1) r2 q2 fun d v H3 g3 rs => by
      obtain ⟨w3, s3, h3, f3⟩ := rs.to s2
      exact k d es2 v H3 w3 g3 s3 h3 ((f1.trans f2).trans f3), kx.fr f1⟩, kx⟩
theorem x_binV {e : Expr} {r : R2} {g : G2} {i : Nat} (h : ∀ {ta tb : TE}, PE X a ta → PE X b tb → PE X e (tOp r ta tb)) (l : Lift2 X.K r g) (ha : PE X a (tVar i)) (hb : POX X b db) : PEX X e (dOpV g i db) := fun W tk =>
  PE.weak (h ha (hb W tk)) fun σ H Q ⟨w, es, R, RX, s, ⟨i1, q⟩, k, kx⟩ => by
    obtain ⟨d0, e0⟩ := Option.isSome_iff_exists.mp i1
    obtain ⟨x, ex, _⟩ := s.look e0
    refine ⟨x, ex, w, es, _, _, s, q, fun d2 es2 y H2 w2 ⟨d1, e1, ok, q2⟩ s2 r2 f2 => ?_, kx⟩
    obtain ⟨x', ex', hx⟩ := s2.look e1
    rw [ex] at ex'
    cases ex'
    refine l w2 H2 x y d1.frz d2 _ _ s2.lv (hx.view ok) r2 q2 fun d v H3 g3 rs => ?_
    obtain ⟨w3, s3, h3, f3⟩ := rs.to s2
    exact k d es2 v H3 w3 g3 s3 h3 (f2.trans f3)
theorem x_un {e : Expr} {r : V → Hp → VK → Prop} {g : G1} (h : ∀ {ta : TE}, PE X a ta → PE X e (tUn r ta)) (l : Lift1 X.K r g) (ha : POX X a da) : PEX X e (dUn g da) := fun W tk =>
  PE.weak (h (ha W tk)) fun σ H Q ⟨w, es, R, RX, s, q, k, kx⟩ => ⟨w, es, _, _, s, q, fun d1 es1 x H1 w1 q1 s1 r1 f1 =>
    l w1 H1 x d1 _ _ s1.lv r1 q1 fun d v H3 g3 rs => by
      obtain ⟨w3, s3, h3, f3⟩ := rs.to s1
      exact k d es1 v H3 w3 g3 s3 h3 (f1.trans f3), kx⟩

/-! ### the same as implications between readings -/
theorem up_op {K : PySem.W.Frag} {W : WX} {r : R2} {g : G2} (l : Lift2 K r g) {σ : L2.St} {H : Hp} {Q : VK} (h : up K W (dOp g da db) σ H Q) : tOp r (upF K W da) (upO K W db) σ H Q := by
  obtain ⟨w, es, R, RX, s, q, k, kx⟩ := h
  exact ⟨w, es, _, _, s, q, fun d1 es1 x H1 w1 q1 s1 r1 f1 => ⟨w1, es1, _, _, s1, q1, fun d2 es2 y H2 w2 q2 s2 r2 f2 =>
    l w2 H2 x y d1 d2 _ _ s2.lv (f2.rpv r1) r2 q2 fun d v H3 g3 rs => by
      obtain ⟨w3, s3, h3, f3⟩ := rs.to s2
      exact k d es2 v H3 w3 g3 s3 h3 ((f1.trans f2).trans f3), kx.fr f1⟩, kx⟩
theorem up_opV {K : PySem.W.Frag} {W : WX} {r : R2} {g : G2} {i : Nat} (l : Lift2 K r g) {σ : L2.St} {H : Hp} {Q : VK} (h : up K W (dOpV g i db) σ H Q) : tOp r (tVar i) (upO K W db) σ H Q := by
  obtain ⟨w, es, R, RX, s, ⟨i1, q⟩, k, kx⟩ := h
  obtain ⟨d0, e0⟩ := Option.isSome_iff_exists.mp i1
  obtain ⟨x, ex, _⟩ := s.look e0
  refine ⟨x, ex, w, es, _, _, s, q, fun d2 es2 y H2 w2 ⟨d1, e1, ok, q2⟩ s2 r2 f2 => ?_, kx⟩
  obtain ⟨x', ex', hx⟩ := s2.look e1
  rw [ex] at ex'
  cases ex'
  refine l w2 H2 x y d1.frz d2 _ _ s2.lv (hx.view ok) r2 q2 fun d v H3 g3 rs => ?_
  obtain ⟨w3, s3, h3, f3⟩ := rs.to s2
  exact k d es2 v H3 w3 g3 s3 h3 (f2.trans f3)

/-! ### tests -/
def dTest (d : XE) : XT := fun es Q QX => d es (fun dv es2 => ∃ b, dv = .bl b ∧ Q b es2) QX
/-- the truth of a thing -/
def D.truth : D → Option Bool
  | .non => some false
  | .bl b => some b
  | .int i => some (i != 0)
  | .str s => some (!s.isEmpty)
  | .lst ds => some (!ds.isEmpty)
  | .tup ds => some (!ds.isEmpty)
  | _ => none
def dTru (d : XE) : XT := fun es Q QX => d es (fun dv es2 => ∃ b, dv.truth = some b ∧ Q b es2) QX
theorem Holds.bl {K : PySem.W.Frag} {w : Ow} {H : Hp} {t : Nat} {v : V} {b : Bool} (h : Holds K w H t v (.bl b)) : v = .bl b := by
  obtain ⟨ps, r, _, _⟩ := h
  cases r
  rfl
theorem test_imp {K : PySem.W.Frag} {W : WX} {d : XE} {σ : L2.St} {H : Hp} {Q : Bool → Hp → Prop} (h : upT K W (dTest d) σ H Q) : up K W d σ H fun x H1 => ∃ b, x = .bl b ∧ Q b H1 := by
  obtain ⟨w, es, R, RX, s, q, k, kx⟩ := h
  refine ⟨w, es, _, RX, s, q, fun dv es2 v H2 w2 ⟨b, eb, hR⟩ s2 r2 f2 => ?_, kx⟩
  subst eb
  exact ⟨b, r2.bl, k b es2 H2 w2 hR s2 f2⟩
/-- a comparison as a test -/
theorem t_cmp {r : R2} {g : G2} {op : CmpOp} {pos : Pos} (ho : OpR X (compareOp op) r) (l : Lift2 X.K r g) (ha : PFX X a da) (hb : POX X b db) (hm : behindInMarks op b = false) : PTX X (.Compare a [op] [b] pos) (dTest (dOp g da db)) := fun W tk =>
  PT.weak (pt_cmpR ho (ha W tk) (hb W tk) hm) fun σ H Q h => up_op l (test_imp h)
theorem t_cmpV {r : R2} {g : G2} {op : CmpOp} {pos : Pos} {i : Nat} (ho : OpR X (compareOp op) r) (l : Lift2 X.K r g) (ha : PE X a (tVar i)) (hb : POX X b db) (hm : behindInMarks op b = false) : PTX X (.Compare a [op] [b] pos) (dTest (dOpV g i db)) := fun W tk =>
  PT.weak (pt_cmpR ho ha (hb W tk) hm) fun σ H Q h => up_opV l (test_imp h)
theorem len_ne {s : List Nat} : (!s.isEmpty) = (((S s).length : Int) != 0) := by
  rw [S_len]
  cases s with
  | nil => rfl
  | cons a r =>
    have h2 : ((a :: r).length : Int) ≠ 0 := by simp; omega
    simp [bne, h2]
    omega
theorem Rps.empty {K : PySem.W.Frag} {F H : Hp} {vs : List V} {ds : List D} {ps : List Addr} (h : Rps K F H vs ds ps) : (!vs.isEmpty) = !ds.isEmpty := by
  cases h <;> rfl
/-- anything else as a test, by its truth -/
theorem t_tru {d : XE} (h : POX X a d) (he : ∀ whole, isTrue a X.env whole = (do let v ← whole; standAt a.pos; holding [v] (truthy v)) := by intro _; rfl) : PTX X a (dTru d) := fun W tk =>
  PT.weak (pt_truth (h W tk) he) fun σ H Q ⟨w, es, R, RX, s, q, k, kx⟩ => ⟨w, es, _, RX, s, q, fun dv es2 v H2 w2 ⟨b, eb, hR⟩ s2 r2 f2 => by
    have go := k b es2 H2 w2 hR s2 f2
    refine ⟨b, ?_, go⟩
    cases dv with
    | non => rw [r2.non]; cases eb; rfl
    | bl c => rw [r2.bl]; cases eb; rfl
    | int i => rw [r2.int]; cases eb; rfl
    | str t =>
      obtain ⟨e, z⟩ := r2.str
      rw [e]
      cases eb
      exact ⟨by rw [S_len]; exact z.1, len_ne⟩
    | lst ds =>
      obtain ⟨p, vs, rfl, h1, h2⟩ := r2.lst
      cases eb
      exact .inl ⟨vs, .inl (.inl h1), h2.empty.symm⟩
    | tup ds =>
      obtain ⟨p, vs, rfl, h1, h2⟩ := r2.tup
      cases eb
      exact .inr (.inl ⟨vs, .inl (.inl h1), h2.empty.symm⟩)
    | _ => exact (nomatch eb), kx⟩
def dNot (t : XT) : XT := fun es Q QX => t es (fun b es2 => Q (!b) es2) QX
def dAnd (t u : XT) : XT := fun es Q QX => t es (fun b es2 => if b = true then u es2 Q QX else Q false es2) QX
def dOr (t u : XT) : XT := fun es Q QX => t es (fun b es2 => if b = true then Q true es2 else u es2 Q QX) QX
theorem t_not {t : XT} {pos : Pos} (h : PTX X a t) : PTX X (.UnaryOp .Not a pos) (dNot t) := fun W tk => PT.weak (pt_not (h W tk)) fun σ H Q ⟨w, es, R, RX, s, q, k, kx⟩ =>
  ⟨w, es, _, RX, s, q, fun b es2 H2 w2 hR s2 f2 => k _ es2 H2 w2 hR s2 f2, kx⟩
theorem and_imp {K : PySem.W.Frag} {W : WX} {t u : XT} {σ : L2.St} {H : Hp} {Q : Bool → Hp → Prop} (h : upT K W (dAnd t u) σ H Q) : tAnd (upT K W t) (upT K W u) σ H Q := by
  obtain ⟨w, es, R, RX, s, q, k, kx⟩ := h
  refine ⟨w, es, _, RX, s, q, fun b es2 H2 w2 hR s2 f2 => ?_, kx⟩
  cases b with
  | true =>
    rw [if_pos rfl] at hR ⊢
    exact ⟨w2, es2, R, RX, s2, hR, fun b es3 H3 w3 h3 s3 f3 => k b es3 H3 w3 h3 s3 (f2.trans f3), kx.fr f2⟩
  | false =>
    rw [if_neg Bool.false_ne_true] at hR ⊢
    exact k _ es2 H2 w2 hR s2 f2
theorem or_imp {K : PySem.W.Frag} {W : WX} {t u : XT} {σ : L2.St} {H : Hp} {Q : Bool → Hp → Prop} (h : upT K W (dOr t u) σ H Q) : tOr (upT K W t) (upT K W u) σ H Q := by
  obtain ⟨w, es, R, RX, s, q, k, kx⟩ := h
  refine ⟨w, es, _, RX, s, q, fun b es2 H2 w2 hR s2 f2 => ?_, kx⟩
  cases b with
  | true =>
    rw [if_pos rfl] at hR ⊢
    exact k _ es2 H2 w2 hR s2 f2
  | false =>
    rw [if_neg Bool.false_ne_true] at hR ⊢
    exact ⟨w2, es2, R, RX, s2, hR, fun b es3 H3 w3 h3 s3 f3 => k b es3 H3 w3 h3 s3 (f2.trans f3), kx.fr f2⟩
theorem w_and1 {t : XT} {pos : Pos} (h : PTX X a t) : PWX X (.BoolOp .And [a] pos) t := fun W tk => pw_and1 (h W tk)
theorem w_or1 {t : XT} {pos : Pos} (h : PTX X a t) : PWX X (.BoolOp .Or [a] pos) t := fun W tk => pw_or1 (h W tk)
theorem w_and {t u : XT} {rest : List Expr} {pos : Pos} (h : PTX X a t) (h2 : PWX X (.BoolOp .And (b :: rest) pos) u) : PWX X (.BoolOp .And (a :: b :: rest) pos) (dAnd t u) := fun W tk => PW.weak (pw_and (h W tk) (h2 W tk)) fun _ _ _ q => and_imp q
theorem w_or {t u : XT} {rest : List Expr} {pos : Pos} (h : PTX X a t) (h2 : PWX X (.BoolOp .Or (b :: rest) pos) u) : PWX X (.BoolOp .Or (a :: b :: rest) pos) (dOr t u) := fun W tk => PW.weak (pw_or (h W tk) (h2 W tk)) fun _ _ _ q => or_imp q
theorem t_w {t : XT} (h : PWX X a t) : PTX X a t := fun W tk => (h W tk).pt
/-! ### and, or, not as values: of truth values -/
def dAndV (da db : XE) : XE := fun es Q QX => da es (fun x es1 => ∃ c, x = .bl c ∧ if c = true then db es1 Q QX else Q (.bl false) es1) QX
def dOrV (da db : XE) : XE := fun es Q QX => da es (fun x es1 => ∃ c, x = .bl c ∧ if c = true then Q (.bl true) es1 else db es1 Q QX) QX
def dNotV (da : XE) : XE := fun es Q QX => da es (fun x es1 => ∃ c, x = .bl c ∧ Q (.bl (!c)) es1) QX
theorem x_one {op} {pos : Pos} (h : PEX X a da) : PEX X (.BoolOp op [a] pos) da := fun W tk => pe_one (h W tk)
theorem x_and {rest : List Expr} {pos : Pos} (ha : PEX X a da) (hb : PEX X (.BoolOp .And (b :: rest) pos) db) : PEX X (.BoolOp .And (a :: b :: rest) pos) (dAndV da db) := fun W tk => PE.weak (pe_and (ha W tk) (hb W tk)) fun σ H Q ⟨w, es, R, RX, s, q, k, kx⟩ =>
  ⟨w, es, _, RX, s, q, fun dv es2 v H2 w2 ⟨c, e, hR⟩ s2 h2 f2 => by
    subst e
    refine ⟨c, h2.bl, ?_⟩
    cases c with
    | true =>
      rw [if_pos rfl] at hR ⊢
      exact ⟨w2, es2, R, RX, s2, hR, fun d es3 v H3 w3 h3 s3 hh f3 => k d es3 v H3 w3 h3 s3 hh (f2.trans f3), kx.fr f2⟩
    | false =>
      rw [if_neg Bool.false_ne_true] at hR ⊢
      exact k _ es2 _ H2 w2 hR s2 (.of (.bl false)) f2, kx⟩
theorem x_or {rest : List Expr} {pos : Pos} (ha : PEX X a da) (hb : PEX X (.BoolOp .Or (b :: rest) pos) db) : PEX X (.BoolOp .Or (a :: b :: rest) pos) (dOrV da db) := fun W tk => PE.weak (pe_or (ha W tk) (hb W tk)) fun σ H Q ⟨w, es, R, RX, s, q, k, kx⟩ =>
  ⟨w, es, _, RX, s, q, fun dv es2 v H2 w2 ⟨c, e, hR⟩ s2 h2 f2 => by
    subst e
    refine ⟨c, h2.bl, ?_⟩
    cases c with
    | true =>
      rw [if_pos rfl] at hR ⊢
      exact k _ es2 _ H2 w2 hR s2 (.of (.bl true)) f2
    | false =>
      rw [if_neg Bool.false_ne_true] at hR ⊢
      exact ⟨w2, es2, R, RX, s2, hR, fun d es3 v H3 w3 h3 s3 hh f3 => k d es3 v H3 w3 h3 s3 hh (f2.trans f3), kx.fr f2⟩, kx⟩
theorem x_not {pos : Pos} (ha : PEX X a da) : PEX X (.UnaryOp .Not a pos) (dNotV da) := fun W tk => PE.weak (pe_not (ha W tk)) fun σ H Q ⟨w, es, R, RX, s, q, k, kx⟩ =>
  ⟨w, es, _, RX, s, q, fun dv es2 v H2 w2 ⟨c, e, hR⟩ s2 h2 f2 => by
    subst e
    exact ⟨c, h2.bl, k _ es2 _ H2 w2 hR s2 (.of (.bl _)) f2⟩, kx⟩
def dIf (t : XT) (da db : XE) : XE := fun es Q QX => t es (fun b es1 => if b = true then da es1 Q QX else db es1 Q QX) QX
theorem x_ifexp {t : XT} {c : Expr} {pos : Pos} (hc : PTX X c t) (ha : PEX X a da) (hb : PEX X b db) : PEX X (.IfExp c a b pos) (dIf t da db) := fun W tk => PE.weak (pe_ifExp (hc W tk) (ha W tk) (hb W tk)) fun σ H Q ⟨w, es, R, RX, s, q, k, kx⟩ =>
  ⟨w, es, _, RX, s, q, fun b es2 H2 w2 hR s2 f2 => by
    cases b with
    | true =>
      rw [if_pos rfl] at hR ⊢
      exact ⟨w2, es2, R, RX, s2, hR, fun d es3 v H3 w3 h3 s3 hh f3 => k d es3 v H3 w3 h3 s3 hh (f2.trans f3), kx.fr f2⟩
    | false =>
      rw [if_neg Bool.false_ne_true] at hR ⊢
      exact ⟨w2, es2, R, RX, s2, hR, fun d es3 v H3 w3 h3 s3 hh f3 => k d es3 v H3 w3 h3 s3 hh (f2.trans f3), kx.fr f2⟩, kx⟩
end


/-! ### operations by what they are given -/
def O2 (X : Cx) (f : Value → Value → Sem Value) (g : G2) : Prop := ∃ r, OpR X f r ∧ Lift2 X.K r g
def O1 (X : Cx) (f : Value → Sem Value) (g : G1) : Prop := ∃ r, UnR X f r ∧ Lift1 X.K r g
def I2 (X : Cx) (g : G2) : Prop := ∃ r, IxR X r ∧ Lift2 X.K r g
section
variable {X : Cx} {f : Value → Value → Sem Value} {g g' g'' : G2}
theorem O2.or (a : O2 X f g) (b : O2 X f g') (h : ∀ x y G, g'' x y G → g x y G ∨ g' x y G) : O2 X f g'' := by
  obtain ⟨r, h1, l1⟩ := a
  obtain ⟨r', h2, l2⟩ := b
  refine ⟨fun x y H Q => r x y H Q ∨ r' x y H Q, fun pins s σ H x y v u Q I rx ry q => ?_, fun w H x y d1 d2 G Q lv hx hy hg k => ?_⟩
  · rcases q with q | q
    · exact h1 pins s σ H x y v u Q I rx ry q
    · exact h2 pins s σ H x y v u Q I rx ry q
  · rcases h _ _ _ hg with q | q
    · exact .inl (l1 w H x y d1 d2 G Q lv hx hy q k)
    · exact .inr (l2 w H x y d1 d2 G Q lv hx hy q k)
theorem I2.or (a : I2 X g) (b : I2 X g') (h : ∀ x y G, g'' x y G → g x y G ∨ g' x y G) : I2 X g'' := by
  obtain ⟨r, h1, l1⟩ := a
  obtain ⟨r', h2, l2⟩ := b
  refine ⟨fun x y H Q => r x y H Q ∨ r' x y H Q, h1.or h2, fun w H x y d1 d2 G Q lv hx hy hg k => ?_⟩
  rcases h _ _ _ hg with q | q
  · exact .inl (l1 w H x y d1 d2 G Q lv hx hy q k)
  · exact .inr (l2 w H x y d1 d2 G Q lv hx hy q k)
theorem Res.same {K : PySem.W.Frag} {w : Ow} {H : Hp} {v : V} {d : D} (h : Rp K (fz w H) H v d []) : Res K w H v d H := ⟨fun _ _ q => q, .inl h⟩
theorem Res.list {K : PySem.W.Frag} {w : Ow} {H : Hp} {p : Addr} {vs : List V} {ds : List D} (hp : H p = none) (h : Rps K (fz w H) H vs ds []) : Res K w H (.ref p) (.mlst ds) (upd H p (.lst vs)) :=
  ⟨up_new hp, .inr ⟨p, vs, ds, rfl, rfl, hp, upd_same, H, hp, up_new hp, h⟩⟩
theorem Res.tup {K : PySem.W.Frag} {w : Ow} {H : Hp} {p : Addr} {vs : List V} {ds : List D} (lv : ∀ a, w a ≠ none → H a ≠ none) (hp : H p = none) (h : Rps K (fz w H) H vs ds []) : Res K w H (.ref p) (.tup ds) (upd H p (.tup vs)) := by
  have wp : w p = none := by
    cases q : w p with
    | none => rfl
    | some t => exact absurd hp (lv p (by rw [q]; simp))
  exact ⟨up_new hp, .inl (.tup (of_fz wp upd_same) (h.mono (fun a o q => of_fz (fz_of q).1 (up_new hp a o (fz_of q).2)) (by simp)))⟩

/-! ints -/
def gI (C : Int → Int → Prop) (f : Int → Int → D) : G2 := fun x y G => match x, y with
  | .int i, .int j => C i j ∧ G (f i j)
  | _, _ => False
theorem O2.int {C : Int → Int → Prop} {fv : Int → Int → V} {fd : Int → Int → D} (h : OpR X f (rI C fv)) (e : ∀ K F H i j, Rp K F H (fv i j) (fd i j) []) : O2 X f (gI C fd) := by
  refine ⟨_, h, fun w H x y d1 d2 G Q lv hx hy hg k => ?_⟩
  unfold gI at hg
  split at hg
  · obtain ⟨hc, hg⟩ := hg
    exact ⟨_, _, hx.int, hy.int, hc, k _ _ H hg (.same (e _ _ _ _ _))⟩
  · exact hg.elim
theorem O2.int0 {fv : Int → Int → V} {fd : Int → Int → D} (h : OpR X f (rI0 fv)) (e : ∀ K F H i j, Rp K F H (fv i j) (fd i j) []) : O2 X f (gI (fun _ _ => True) fd) := by
  refine ⟨_, h, fun w H x y d1 d2 G Q lv hx hy hg k => ?_⟩
  unfold gI at hg
  split at hg
  · obtain ⟨hc, hg⟩ := hg
    exact ⟨_, _, hx.int, hy.int, k _ _ H hg (.same (e _ _ _ _ _))⟩
  · exact hg.elim
/-! texts -/
def gS (C : List Nat → List Nat → Prop) (f : List Nat → List Nat → D) : G2 := fun x y G => match x, y with
  | .str s, .str t => C s t ∧ G (f s t)
  | _, _ => False
theorem S_app (s t : List Nat) : S s ++ S t = S (s ++ t) := by
  show (⟨s.toArray ++ t.toArray⟩ : Str) = ⟨(s ++ t).toArray⟩
  rw [List.append_toArray]
theorem add_str : O2 X (binaryOp .Add) (gS (fun s t => s.length + t.length ≤ sizeLine) fun s t => .str (s ++ t)) := by
  refine ⟨_, op_add_str, fun w H x y d1 d2 G Q lv hx hy hg k => ?_⟩
  unfold gS at hg
  split at hg
  · obtain ⟨hc, hg⟩ := hg
    obtain ⟨e1, z1⟩ := hx.str
    obtain ⟨e2, z2⟩ := hy.str
    refine ⟨_, _, e1, e2, by rw [S_len, S_len]; exact hc, ?_⟩
    rw [S_app]
    exact k _ _ H hg (.same (.str _ ⟨by rw [List.length_append]; exact hc, fun c hm => (List.mem_append.mp hm).elim (z1.2 c) (z2.2 c)⟩))
  · exact hg.elim
/-! lists -/
def gL (C : List D → List D → Prop) (f : List D → List D → D) : G2 := fun x y G => match x, y with
  | .lst s, .lst t => C s t ∧ G (f s t)
  | _, _ => False
theorem add_lst : O2 X (binaryOp .Add) (gL (fun s t => s.length + t.length ≤ sizeLine) fun s t => .mlst (s ++ t)) := by
  refine ⟨_, op_cat, fun w H x y d1 d2 G Q lv hx hy hg k => ?_⟩
  unfold gL at hg
  split at hg
  · obtain ⟨hc, hg⟩ := hg
    obtain ⟨p, vs, e1, h1, r1⟩ := hx.lst
    obtain ⟨q, us, e2, h2, r2⟩ := hy.lst
    exact ⟨p, q, vs, us, e1, e2, h1, h2, by rw [r1.length, r2.length]; exact hc, fun a ha => k _ _ _ hg (.list ha (r1.append r2))⟩
  · exact hg.elim

/-! ints, as they come -/
abbrev gOr (g g' : G2) : G2 := fun x y G => g x y G ∨ g' x y G
theorem O2.sub (a : O2 X f g) (h : ∀ x y G, g'' x y G → g x y G) : O2 X f g'' := by
  obtain ⟨r, h1, l1⟩ := a
  exact ⟨r, h1, fun w H x y d1 d2 G Q lv hx hy hg k => l1 w H x y d1 d2 G Q lv hx hy (h _ _ _ hg) k⟩
def gAdd : G2 := fun x y G => match x, y with
  | .int i, .int j => G (.int (i + j))
  | .str s, .str t => s.length + t.length ≤ sizeLine ∧ G (.str (s ++ t))
  | .lst s, .lst t => s.length + t.length ≤ sizeLine ∧ G (.mlst (s ++ t))
  | _, _ => False
theorem o_add : O2 X (binaryOp .Add) gAdd := by
  refine (O2.int0 (fd := fun i j => .int (i + j)) op_add fun K F H i j => .int _).or (add_str.or add_lst (g'' := gOr _ _) fun _ _ _ h => h) fun x y G h => ?_
  unfold gAdd at h
  split at h
  · exact .inl ⟨trivial, h⟩
  · exact .inr (.inl h)
  · exact .inr (.inr h)
  · exact h.elim
def gMinus : G2 := fun x y G => match x, y with
  | .int i, .int j => G (.int (i - j))
  | _, _ => False
theorem o_sub : O2 X (binaryOp .Sub) gMinus := (O2.int0 (fd := fun i j => .int (i - j)) op_sub fun K F H i j => .int _).sub fun x y G h => by
  unfold gMinus at h
  split at h
  · exact ⟨trivial, h⟩
  · exact h.elim
/-- products that are asked: one factor of 64 bits, or both not too great -/
def okMul (i j : Int) : Prop := CMul i j ∨ CMulX i j
def gMod : G2 := fun x y G => match x, y with
  | .int i, .int j => 0 < j ∧ G (.int (i % j))
  | _, _ => False
theorem o_mod : O2 X (binaryOp .Mod) gMod := (O2.int (fd := fun i j => .int (i % j)) op_mod fun K F H i j => .int _).sub fun x y G h => by
  unfold gMod at h
  split at h
  · exact h
  · exact h.elim
def gFdv : G2 := fun x y G => match x, y with
  | .int i, .int j => CDivW i j ∧ G (.int (i / j))
  | _, _ => False
theorem o_fdv : O2 X (binaryOp .FloorDiv) gFdv := (O2.int (fd := fun i j => .int (i / j)) op_fdivW fun K F H i j => .int _).sub fun x y G h => by
  unfold gFdv at h
  split at h
  · exact h
  · exact h.elim
def gPow : G2 := fun x y G => match x, y with
  | .int i, .int j => CPow i j ∧ G (.int (i ^ j.toNat))
  | _, _ => False
theorem o_pow : O2 X (binaryOp .Pow) gPow := (O2.int (fd := fun i j => .int (i ^ j.toNat)) op_pow fun K F H i j => .int _).sub fun x y G h => by
  unfold gPow at h
  split at h
  · exact h
  · exact h.elim
theorem foldl_app {α : Type} (l : List α) : ∀ (n : Nat) (a : Array α), ((List.replicate n l.toArray).foldl (· ++ ·) a).toList = a.toList ++ (List.replicate n l).flatten
  | 0, a => by simp
  | n + 1, a => by
    rw [List.replicate_succ, List.foldl_cons, foldl_app l n, List.replicate_succ]
    simp
/-- a text so often -/
theorem mul_st : O2 X (binaryOp .Mult) (fun x y G => match x, y with
    | .str s, .int n => (-(2 ^ 63) ≤ n ∧ n < 2 ^ 63) ∧ s.length * n.toNat ≤ sizeLine ∧ G (.str (List.replicate n.toNat s).flatten)
    | _, _ => False) := by
  refine ⟨fun x y H Q => ∃ s n, x = .str (S s) ∧ y = .int n ∧ (-(2 ^ 63) ≤ n ∧ n < 2 ^ 63) ∧ s.length * n.toNat ≤ sizeLine ∧ Q (.str (S (List.replicate n.toNat s).flatten)) H, ?_, fun w H x y d1 d2 G Q lv hx hy hg k => ?_⟩
  · intro pins st σ H x y v u Q I rx ry h
    obtain ⟨s, n, rfl, rfl, hn, hl, q⟩ := h
    obtain ⟨t, rfl⟩ := rx
    obtain ⟨t', rfl⟩ := ry
    have h8 : (8 : Int) = 2 ^ 3 := rfl
    have hz : sizeLine = 16777216 := sizeLine_eq
    refine PySem.P.mul_str ?_ (fun h1 h2 => ?_) (fun h1 h2 => ?_) ?_
    · rw [decide_eq_false (by omega), decide_eq_false (by omega)]; rfl
    · have h3 : s.length ≤ 16777216 := by
        have : s.length * 1 ≤ s.length * n.toNat := Nat.mul_le_mul_left _ (by omega)
        omega
      rw [S_len]
      intro h4
      have h5 := Int.lt_mul_of_ediv_lt (by omega : (0 : Int) < n) h4
      have h6 : ((s.length * n.toNat : Nat) : Int) = (s.length : Int) * n := by
        rw [Int.natCast_mul, Int.toNat_of_nonneg (by omega)]
      omega
    · rw [S_len]
      unfold PySem.Builtin.Str.tooLong
      exact decide_eq_false (by omega)
    · by_cases h1 : n < 1
      · rw [if_pos h1]
        have e : n.toNat = 0 := by omega
        rw [e] at q
        exact ⟨by decide, ⟨.str (S []), H, I.tok _, ⟨_, rfl⟩, q⟩⟩
      · rw [if_neg h1]
        by_cases h2 : (n == 1 || (S s).length == 0) = true
        · rw [if_pos h2]
          refine ⟨.str (S s), H, I, ⟨_, rfl⟩, ?_⟩
          have e : (List.replicate n.toNat s).flatten = s := by
            simp only [Bool.or_eq_true, beq_iff_eq, S_len] at h2
            rcases h2 with h2 | h2
            · subst h2; simp
            · have : s = [] := List.eq_nil_of_length_eq_zero h2
              subst this
              simp
          rw [e] at q
          exact q
        · rw [if_neg h2]
          have e : (⟨(List.replicate n.toNat (S s).cps).foldl (· ++ ·) #[]⟩ : Str) = S (List.replicate n.toNat s).flatten := by
            rw [← S_list ⟨_⟩]
            congr 1
            have := foldl_app s n.toNat #[]
            rw [Array.toList_empty, List.nil_append] at this
            exact this
          rw [e]
          refine ⟨?_, ⟨.str _, H, I.tok _, ⟨_, rfl⟩, q⟩⟩
          rw [S_len, List.length_flatten, List.map_replicate, List.sum_replicate_nat, Nat.mul_comm]
          exact hl
  · dsimp only at hg
    split at hg
    · obtain ⟨h1, h2, hg⟩ := hg
      obtain ⟨e1, z1⟩ := hx.str
      refine ⟨_, _, e1, hy.int, h1, h2, k _ _ H hg (.same (.str _ ⟨?_, fun c hc => ?_⟩))⟩
      · rw [List.length_flatten, List.map_replicate, List.sum_replicate_nat, Nat.mul_comm]; exact h2
      · obtain ⟨l, hl, hc⟩ := List.mem_flatten.mp hc
        rw [(List.mem_replicate.mp hl).2] at hc
        exact z1.2 c hc
    · exact hg.elim
def gMul : G2 := fun x y G => match x, y with
  | .int i, .int j => okMul i j ∧ G (.int (i * j))
  | .str s, .int n => (-(2 ^ 63) ≤ n ∧ n < 2 ^ 63) ∧ s.length * n.toNat ≤ sizeLine ∧ G (.str (List.replicate n.toNat s).flatten)
  | _, _ => False
theorem o_mul : O2 X (binaryOp .Mult) gMul := by
  refine ((O2.int (fd := fun i j => .int (i * j)) op_mul fun K F H i j => .int _).or (O2.int (fd := fun i j => .int (i * j)) op_mulX fun K F H i j => .int _) (g'' := gOr _ _) fun _ _ _ h => h).or mul_st fun x y G h => ?_
  unfold gMul at h
  split at h
  · obtain ⟨h1 | h1, h⟩ := h
    · exact .inl (.inl ⟨h1, h⟩)
    · exact .inl (.inr ⟨h1, h⟩)
  · exact .inr h
  · exact h.elim
theorem o_neg : O1 X (unaryOp .USub) (fun x G => match x with
    | .int i => G (.int (-i))
    | _ => False) := ⟨_, un_neg, fun w H x d1 G Q lv hx hg k => by
  dsimp only at hg
  split at hg
  · exact ⟨_, hx.int, k _ _ H hg (.same (.int _))⟩
  · exact hg.elim⟩
/-! ### comparisons -/
def gCmp (fi : Int → Int → Bool) (fs : List Nat → List Nat → Bool) : G2 := fun x y G => match x, y with
  | .int i, .int j => G (.bl (fi i j))
  | .str s, .str t => G (.bl (fs s t))
  | _, _ => False
theorem o_cmp {op : CmpOp} {fi : Int → Int → Bool} {fs : List Nat → List Nat → Bool} (h1 : OpR X (compareOp op) (rI0 fun i j => .bl (fi i j)))
    (h2 : OpR X (compareOp op) (fun x y H Q => ∃ i j, x = .str i ∧ y = .str j ∧ Q (.bl (fs i.cps.toList j.cps.toList)) H)) : O2 X (compareOp op) (gCmp fi fs) := by
  refine (O2.int0 (fd := fun i j => .bl (fi i j)) h1 fun K F H i j => .bl _).or (g' := fun x y G => match x, y with
    | .str s, .str t => G (.bl (fs s t))
    | _, _ => False) ⟨_, h2, fun w H x y d1 d2 G Q lv hx hy hg k => ?_⟩ fun x y G h => ?_
  · dsimp only at hg
    split at hg
    · exact ⟨_, _, hx.str.1, hy.str.1, k _ _ H hg (.same (.bl _))⟩
    · exact hg.elim
  · unfold gCmp at h
    split at h
    · exact .inl ⟨trivial, h⟩
    · exact .inr h
    · exact h.elim
def gLt : G2 := gCmp (fun i j => decide (i < j)) fun s t => decide (s < t)
def gLe : G2 := gCmp (fun i j => decide (i ≤ j)) fun s t => !decide (t < s)
def gGt : G2 := gCmp (fun i j => decide (j < i)) fun s t => decide (t < s)
def gGe : G2 := gCmp (fun i j => decide (j ≤ i)) fun s t => !decide (s < t)
theorem o_lt : O2 X (compareOp .Lt) gLt := o_cmp op_lt op_lt_str
theorem o_le : O2 X (compareOp .LtE) gLe := o_cmp op_le op_le_str
theorem o_gt : O2 X (compareOp .Gt) gGt := o_cmp op_gt op_gt_str
theorem o_ge : O2 X (compareOp .GtE) gGe := o_cmp op_ge op_ge_str
/-! is None -/
def gIsN : G2 := fun x y G => match x, y with
  | .non, .non => G (.bl true)
  | .adr _, .non | .dic _, .non | .lst _, .non | .kst _, .non | .tup _, .non | .ktp _, .non | .int _, .non | .str _, .non | .bl _, .non => G (.bl false)
  | _, _ => False
theorem RpV.isN {K : PySem.W.Frag} {w : Ow} {H : Hp} {x : V} {d : D} (h : RpV K w H x d) (hd : d ≠ .non) : x ≠ .non := by
  rintro rfl
  rcases h with h | ⟨a, vs, ds, e, _⟩
  · cases h; exact hd rfl
  · cases e
theorem o_is : O2 X (compareOp .Is) gIsN := ⟨_, op_isN, fun w H x y d1 d2 G Q lv hx hy hg k => by
  unfold gIsN at hg
  split at hg
  · exact ⟨hy.non, by rw [hx.non]; exact k _ _ H hg (.same (.bl _))⟩
  all_goals first | exact hg.elim | exact ⟨hy.non, by rw [decide_eq_false (hx.isN (by simp))]; exact k _ _ H hg (.same (.bl _))⟩⟩
def gIsNot : G2 := fun x y G => gIsN x y fun d => ∃ b, d = .bl b ∧ G (.bl (!b))
theorem o_isnot : O2 X (compareOp .IsNot) gIsNot := ⟨_, op_notN, fun w H x y d1 d2 G Q lv hx hy hg k => by
  unfold gIsNot gIsN at hg
  split at hg
  · obtain ⟨b, e, hg⟩ := hg
    cases e
    exact ⟨hy.non, by rw [hx.non]; exact k _ _ H hg (.same (.bl _))⟩
  all_goals first | exact hg.elim | (obtain ⟨b, e, hg⟩ := hg; cases e; exact ⟨hy.non, by rw [decide_eq_false (hx.isN (by simp))]; exact k _ _ H hg (.same (.bl _))⟩)⟩
end


/-! ### subscripts -/
theorem rps_at {K : PySem.W.Frag} {F H : Hp} {vs : List V} {ds : List D} {i : Int} {d : D} (r : Rps K F H vs ds []) (h : atI ds i = some d) : ∃ v, atI vs i = some v ∧ Rp K F H v d [] := by
  unfold atI at h ⊢
  rw [r.length]
  cases e : ixN ds.length i with
  | none => rw [e] at h; cases h
  | some j =>
    rw [e] at h
    exact r.getD h
def gIx : G2 := fun x y G => match x, y with
  | .lst ds, .int i => ∃ d, atI ds i = some d ∧ G d
  | .kst ds, .int i => ∃ d, atI ds i = some d ∧ G d
  | .tup ds, .int i => ∃ d, atI ds i = some d ∧ G d
  | .ktp ds, .int i => ∃ d, atI ds i = some d ∧ G d
  | .str s, .int i => ∃ c, atI s i = some c ∧ G (.str [c])
  | _, _ => False
theorem atI_mem {α : Type} {xs : List α} {i : Int} {v : α} (h : atI xs i = some v) : v ∈ xs := by
  obtain ⟨j, _, h, _⟩ := atI_get h
  exact List.mem_of_getElem? h
section
variable {X : Cx}
theorem i_ix : I2 X gIx := ⟨_, ix_seq, fun w H x y d1 d2 G Q lv hx hy hg k => by
  unfold gIx at hg
  split at hg
  · obtain ⟨d, h, hg⟩ := hg
    obtain ⟨p, vs, e, hl, r⟩ := hx.lst
    obtain ⟨v, hv, rv⟩ := rps_at r h
    exact .inl ⟨p, vs, _, v, e, hy.int, .inl (.inl hl), hv, k _ _ H hg (.same rv)⟩
  · obtain ⟨d, h, hg⟩ := hg
    obtain ⟨p, vs, e, hl, r⟩ := hx.kst
    obtain ⟨v, hv, rv⟩ := rps_at r h
    exact .inl ⟨p, vs, _, v, e, hy.int, hl, hv, k _ _ H hg (.same rv)⟩
  · obtain ⟨d, h, hg⟩ := hg
    obtain ⟨p, vs, e, hl, r⟩ := hx.tup
    obtain ⟨v, hv, rv⟩ := rps_at r h
    exact .inr (.inl ⟨p, vs, _, v, e, hy.int, .inl (.inl hl), hv, k _ _ H hg (.same rv)⟩)
  · obtain ⟨d, h, hg⟩ := hg
    obtain ⟨p, vs, e, hl, r⟩ := hx.ktp
    obtain ⟨v, hv, rv⟩ := rps_at r h
    exact .inr (.inl ⟨p, vs, _, v, e, hy.int, hl, hv, k _ _ H hg (.same rv)⟩)
  · obtain ⟨c, h, hg⟩ := hg
    obtain ⟨e, z⟩ := hx.str
    refine .inr (.inr ⟨_, _, c, e, hy.int, by rw [S_len]; exact z.1, h, k _ _ H hg (.same (.str [c] ⟨by rw [sizeLine_eq]; simp, fun a ha => ?_⟩))⟩)
    have : a = c := by simpa using ha
    subst this
    exact z.2 _ (atI_mem h)
  · exact hg.elim⟩

/-! ### slices -/
def cutL {α : Type} (xs : List α) (lo hi : Option Int) : List α := (xs.drop (HT.sIx xs.length 0 lo)).take (HT.sIx xs.length xs.length hi - HT.sIx xs.length 0 lo)
theorem cutL_mem {α : Type} {xs : List α} {lo hi : Option Int} {x : α} (h : x ∈ cutL xs lo hi) : x ∈ xs := List.mem_of_mem_drop (List.mem_of_mem_take h)
theorem cutL_len {α : Type} (xs : List α) (lo hi : Option Int) : (cutL xs lo hi).length ≤ xs.length := by
  unfold cutL
  rw [List.length_take, List.length_drop]
  omega
theorem cutS_S (s : List Nat) (lo hi : Option Int) : cutS (S s) lo hi = S (cutL s lo hi) := by
  show (⟨(((S s).cps.toList.drop (HT.sIx (S s).length 0 lo)).take (HT.sIx (S s).length (S s).length hi - HT.sIx (S s).length 0 lo)).toArray⟩ : Str) = S (cutL s lo hi)
  rw [S_len]
  rfl
theorem cut_rps {K : PySem.W.Frag} {F H : Hp} {vs : List V} {ds : List D} (r : Rps K F H vs ds []) (lo hi : Option Int) : Rps K F H (cutV vs lo hi) (cutL ds lo hi) [] := by
  show Rps K F H ((vs.drop _).take _) ((ds.drop _).take _) []
  rw [r.length]
  exact (r.drop _).take _
/-- a[lo:hi], the bounds written or reckoned -/
abbrev GS := D → Option Int → Option Int → (D → Prop) → Prop
def gSl : GS := fun x lo hi G => match x with
  | .lst ds => G (.mlst (cutL ds lo hi))
  | .kst ds => G (.mlst (cutL ds lo hi))
  | .str s => G (.str (cutL s lo hi))
  | _ => False
abbrev XO := List E → (Option Int → List E → Prop) → DX → Prop
def upP (K : PySem.W.Frag) (W : WX) (d : XO) : TO := fun σ H Q => ∃ w es R RX, Stt K w H σ es ∧ d es R RX ∧
  (∀ o es2 H2 w2, R o es2 → Stt K w2 H2 σ es2 → Fr w H w2 H2 → Q o H2) ∧ XOk K W w H σ RX
def POpt (X : Cx) (e : Option Expr) (d : XO) : Prop := ∀ W, Takes X W → PO X e (upP X.K W d)
def dNoPart : XO := fun es Q _ => Q none es
def dPart (d : XE) : XO := fun es Q QX => d es (fun dv es2 => ∃ i, dv = .int i ∧ Q (some i) es2) QX
theorem PO.weak {e : Option Expr} {t t' : TO} (h : PO X e t) (k : ∀ σ H Q, t' σ H Q → t σ H Q) : PO X e t' := ⟨fun pins s σ H Q I q => h.run pins s σ H Q I (k σ H Q q)⟩
theorem p_none : POpt X none dNoPart := fun W tk => PO.weak po_none fun σ H Q ⟨w, es, R, RX, s, q, k, kx⟩ => k _ _ _ _ q s .refl
theorem p_some {e : Expr} {d : XE} (h : POX X e d) : POpt X (some e) (dPart d) := fun W tk => PO.weak (po_some (h W tk)) fun σ H Q ⟨w, es, R, RX, s, q, k, kx⟩ =>
  ⟨w, es, _, RX, s, q, fun dv es2 v H2 w2 ⟨i, e, hR⟩ s2 r2 f2 => by
    subst e
    exact ⟨i, r2.int, k _ es2 H2 w2 hR s2 f2⟩, kx⟩
def SL (X : Cx) (g : GS) : Prop := ∃ r, SlR X r ∧ ∀ w H x d1 lo hi (G : D → Prop) (Q : VK), (∀ a, w a ≠ none → H a ≠ none) → RpV X.K w H x d1 → g d1 lo hi G → (∀ d v H2, G d → Res X.K w H v d H2 → Q v H2) → r x lo hi H Q
theorem s_sl : SL X gSl := ⟨_, sl_list.or sl_str, fun w H x d1 lo hi G Q lv hx hg k => by
  unfold gSl at hg
  split at hg
  · obtain ⟨p, vs, e, hl, r⟩ := hx.lst
    exact .inl ⟨p, vs, e, .inl (.inl hl), fun a ha => k _ _ _ hg (.list ha (cut_rps r lo hi))⟩
  · obtain ⟨p, vs, e, hl, r⟩ := hx.kst
    exact .inl ⟨p, vs, e, hl, fun a ha => k _ _ _ hg (.list ha (cut_rps r lo hi))⟩
  · obtain ⟨e, z⟩ := hx.str
    refine .inr ⟨_, e, by rw [S_len]; exact z.1, ?_⟩
    rw [cutS_S]
    exact k _ _ H hg (.same (.str _ ⟨Nat.le_trans (cutL_len _ _ _) z.1, fun c hc => z.2 c (cutL_mem hc)⟩))
  · exact hg.elim⟩
/-- a frozen thing cut; a name's thing cut, looked at behind the bounds -/
def dSl (da : XE) (lo hi : XO) : XE := fun es Q QX => da es (fun d1 es1 => lo es1 (fun l es2 => hi es2 (fun h es3 => gSl d1 l h fun d => Q d es3) QX) QX) QX
def dSlV (i : Nat) (lo hi : XO) : XE := fun es Q QX => ((es[i]?).bind E.look).isSome = true ∧ lo es (fun l es2 => hi es2 (fun h es3 => ∃ d, (es3[i]?).bind E.look = some d ∧ d.okf = true ∧ gSl d.frz l h fun d => Q d es3) QX) QX
theorem x_sl {e : Expr} {l h : Option Expr} {da : XE} {lo hi : XO} {p2 pos : Pos} (he : PFX X e da) (hl : POpt X l lo) (hh : POpt X h hi) : PEX X (.Subscript e (.Slice l h none p2) pos) (dSl da lo hi) := fun W tk => by
  obtain ⟨r, hr, li⟩ := s_sl (X := X)
  exact PE.weak (pe_slice hr (he W tk) (hl W tk) (hh W tk)) fun σ H Q ⟨w, es, R, RX, s, q, k, kx⟩ =>
    ⟨w, es, _, RX, s, q, fun d1 es1 v H1 w1 q1 s1 r1 f1 => ⟨w1, es1, _, RX, s1, q1, fun o es2 H2 w2 q2 s2 f2 => ⟨w2, es2, _, RX, s2, q2, fun o3 es3 H3 w3 q3 s3 f3 =>
      li w3 H3 v d1 _ _ _ _ s3.lv (.inl ((f2.trans f3).rp r1)) q3 fun d v4 H4 g4 rs => by
        obtain ⟨w4, s4, h4, f4⟩ := rs.to s3
        exact k d es3 v4 H4 w4 g4 s4 h4 (((f1.trans f2).trans f3).trans f4), (kx.fr f1).fr f2⟩, kx.fr f1⟩, kx⟩
theorem x_slV {e : Expr} {l h : Option Expr} {i : Nat} {lo hi : XO} {p2 pos : Pos} (he : PE X e (tVar i)) (hl : POpt X l lo) (hh : POpt X h hi) : PEX X (.Subscript e (.Slice l h none p2) pos) (dSlV i lo hi) := fun W tk => by
  obtain ⟨r, hr, li⟩ := s_sl (X := X)
  exact PE.weak (pe_slice hr he (hl W tk) (hh W tk)) fun σ H Q ⟨w, es, R, RX, s, ⟨i1, q⟩, k, kx⟩ => by
    obtain ⟨d0, e0⟩ := Option.isSome_iff_exists.mp i1
    obtain ⟨x, ex, _⟩ := s.look e0
    refine ⟨x, ex, w, es, _, RX, s, q, fun o es2 H2 w2 q2 s2 f2 => ⟨w2, es2, _, RX, s2, q2, fun o3 es3 H3 w3 ⟨d1, e1, ok, q3⟩ s3 f3 => ?_, kx.fr f2⟩, kx⟩
    obtain ⟨x', ex', hx⟩ := s3.look e1
    rw [ex] at ex'
    cases ex'
    refine li w3 H3 x d1.frz _ _ _ _ s3.lv (hx.view ok) q3 fun d v4 H4 g4 rs => ?_
    obtain ⟨w4, s4, h4, f4⟩ := rs.to s3
    exact k d es3 v4 H4 w4 g4 s4 h4 ((f2.trans f3).trans f4)

/-! ### == of data -/
mutual
def D.py : D → PyData
  | .non => .none
  | .bl b => .bool b
  | .int i => .int i
  | .str s => .str (S s)
  | .lst ds => .list (pys ds)
  | .kst ds => .list (pys ds)
  | .tup ds => .tuple (pys ds)
  | .ktp ds => .tuple (pys ds)
  | _ => .dict []
def pys : List D → List PyData
  | [] => []
  | d :: ds => d.py :: pys ds
end
mutual
/-- may it be compared so: no more than n deep -/
def D.cmp : Nat → D → Bool
  | _, .non | _, .bl _ | _, .int _ | _, .str _ => true
  | n + 1, .lst ds | n + 1, .kst ds | n + 1, .tup ds | n + 1, .ktp ds => cmps n ds
  | _, _ => false
def cmps : Nat → List D → Bool
  | _, [] => true
  | n, d :: ds => d.cmp n && cmps n ds
end
theorem strOk_S {s : List Nat} (z : okS s) : PyData.strOk (S s) = true := by
  unfold PyData.strOk S
  rw [← Array.all_toList, List.all_eq_true]
  intro c hc
  have := z.2 c hc
  exact decide_eq_true (by omega)
section
variable {K : PySem.W.Frag} {w : Ow} {H : Hp}
mutual
theorem Rp.dp : ∀ (d : D) (n : Nat) (v : V), Rp K (fz w H) H v d [] → d.cmp n = true → Dp K H v d.py ∧ d.py.canLay0 = true ∧ d.py.depth ≤ n
  | .non, n, _, h, _ => by cases h; exact ⟨.non, rfl, by show 0 ≤ n; omega⟩
  | .bl b, n, _, h, _ => by cases h; exact ⟨.bl b, rfl, by show 0 ≤ n; omega⟩
  | .int b, n, _, h, _ => by cases h; exact ⟨.int b, rfl, by show 0 ≤ n; omega⟩
  | .str b, n, _, h, _ => by cases h with | str s z => exact ⟨.str _, strOk_S z, by show 0 ≤ n; omega⟩
  | .lst ds, n + 1, _, h, c => by
    cases h with
    | lst h r =>
      obtain ⟨a, b, e⟩ := Rps.dp ds n _ r c
      refine ⟨.lst (.inl (.inl (fz_sub h))) a, b, ?_⟩
      show PyData.depthAll (pys ds) + 1 ≤ n + 1
      omega
  | .kst ds, n + 1, _, h, c => by
    cases h with
    | kst h r =>
      obtain ⟨a, b, e⟩ := Rps.dp ds n _ r c
      refine ⟨.lst (sl_ex (fun _ _ q => fz_sub q) h) a, b, ?_⟩
      show PyData.depthAll (pys ds) + 1 ≤ n + 1
      omega
  | .tup ds, n + 1, _, h, c => by
    cases h with
    | tup h r =>
      obtain ⟨a, b, e⟩ := Rps.dp ds n _ r c
      refine ⟨.tup (.inl (.inl (fz_sub h))) a, b, ?_⟩
      show PyData.depthAll (pys ds) + 1 ≤ n + 1
      omega
  | .ktp ds, n + 1, _, h, c => by
    cases h with
    | ktp h r =>
      obtain ⟨a, b, e⟩ := Rps.dp ds n _ r c
      refine ⟨.tup (st_ex (fun _ _ q => fz_sub q) h) a, b, ?_⟩
      show PyData.depthAll (pys ds) + 1 ≤ n + 1
      omega
  | .adr _, n, _, _, c => by cases n <;> exact nomatch c
  | .ty _, n, _, _, c => by cases n <;> exact nomatch c
  | .dic _, n, _, _, c => by cases n <;> exact nomatch c
  | .mlst _, n, _, _, c => by cases n <;> exact nomatch c
  | .lst _, 0, _, _, c => nomatch c
  | .kst _, 0, _, _, c => nomatch c
  | .tup _, 0, _, _, c => nomatch c
  | .ktp _, 0, _, _, c => nomatch c
theorem Rps.dp : ∀ (ds : List D) (n : Nat) (vs : List V), Rps K (fz w H) H vs ds [] → cmps n ds = true → DpAll K H vs (pys ds) ∧ PyData.canLayAll0 (pys ds) = true ∧ PyData.depthAll (pys ds) ≤ n
  | [], n, vs, r, _ => by cases r; exact ⟨.nil, rfl, by show 0 ≤ n; omega⟩
  | d :: ds, n, v :: vs, r, c => by
    have c' : (d.cmp n && cmps n ds) = true := c
    rw [Bool.and_eq_true] at c'
    obtain ⟨r1, r2⟩ := r.uncons
    obtain ⟨a1, b1, e1⟩ := Rp.dp d n v r1 c'.1
    obtain ⟨a2, b2, e2⟩ := Rps.dp ds n vs r2 c'.2
    refine ⟨.cons a1 a2, ?_, ?_⟩
    · show (d.py.canLay0 && PyData.canLayAll0 (pys ds)) = true
      rw [b1, b2]
      rfl
    · show max d.py.depth (PyData.depthAll (pys ds)) ≤ n
      omega
end
theorem RpV.dp {v : V} {d : D} (h : RpV K w H v d) (c : d.cmp 40 = true) : Dp K H v d.py ∧ SeqAt.shaped d.py = true := by
  rcases h with h | ⟨a, vs, ds, rfl, rfl, h1, h2⟩
  · obtain ⟨a, b, e⟩ := Rp.dp d 40 v h c
    refine ⟨a, ?_⟩
    unfold SeqAt.shaped
    rw [b, decide_eq_true (by omega)]
    rfl
  · obtain ⟨a, b, e⟩ := Rps.dp ds 39 vs h2 c
    refine ⟨.lst (.inl (.inl h1)) a, ?_⟩
    unfold SeqAt.shaped
    have b' : (D.lst ds).py.canLay0 = true := b
    rw [b', decide_eq_true (by show PyData.depthAll (pys ds) + 1 ≤ 64; omega)]
    rfl
end
def eqD (x y : D) : Bool := PyData.eqv x.py y.py
def gEq : G2 := fun x y G => x.cmp 40 = true ∧ y.cmp 40 = true ∧ G (.bl (eqD x y))
def gNe : G2 := fun x y G => x.cmp 40 = true ∧ y.cmp 40 = true ∧ G (.bl (!eqD x y))
theorem o_eq {k : Nat} (hr : Room k X.A) : O2 X (compareOp .Eq) gEq := ⟨_, op_eqD hr.units, fun w H x y d1 d2 G Q lv hx hy ⟨c1, c2, hg⟩ k => by
  obtain ⟨a1, b1⟩ := hx.dp c1
  obtain ⟨a2, b2⟩ := hy.dp c2
  exact ⟨_, _, a1, a2, b1, b2, k _ _ H hg (.same (.bl _))⟩⟩
theorem o_ne {k : Nat} (hr : Room k X.A) : O2 X (compareOp .NotEq) gNe := ⟨_, op_neD hr.units, fun w H x y d1 d2 G Q lv hx hy ⟨c1, c2, hg⟩ k => by
  obtain ⟨a1, b1⟩ := hx.dp c1
  obtain ⟨a2, b2⟩ := hy.dp c2
  exact ⟨_, _, a1, a2, b1, b2, k _ _ H hg (.same (.bl _))⟩⟩
/-! ### in -/
def D.flat : D → Bool
  | .non | .bl _ | .int _ | .str _ => true
  | _ => false
def memD (x : D) (ds : List D) : Bool := ds.any fun y => eqD y x
theorem eqV_py {K : PySem.W.Frag} {F H : Hp} {x y : V} {d e : D} (hx : Rp K F H x d []) (hy : Rp K F H y e []) (fx : d.flat = true) (fy : e.flat = true) : flatV x = true ∧ flatV y = true ∧ eqV y x = eqD e d := by
  cases hx <;> first | exact absurd (show false = true from fx) Bool.false_ne_true | (cases hy <;> first | exact absurd (show false = true from fy) Bool.false_ne_true | exact ⟨rfl, rfl, rfl⟩)
theorem inV_py {K : PySem.W.Frag} {F H : Hp} {x : V} {d : D} (hx : Rp K F H x d []) (fx : d.flat = true) : ∀ {vs : List V} {ds : List D}, Rps K F H vs ds [] → ds.all D.flat = true → vs.all flatV = true ∧ inV x vs = memD d ds
  | [], [], _, _ => ⟨rfl, rfl⟩
  | v :: vs, e :: ds, r, f => by
    rw [List.all_cons, Bool.and_eq_true] at f
    obtain ⟨r1, r2⟩ := r.uncons
    obtain ⟨h1, h2, h3⟩ := eqV_py hx r1 fx f.1
    obtain ⟨h4, h5⟩ := inV_py hx fx r2 f.2
    refine ⟨by rw [List.all_cons, h2, h4]; rfl, ?_⟩
    show (eqV v x || inV x vs) = (eqD e d || memD d ds)
    rw [h3, h5]
theorem flat_fro {d : D} (h : d.flat = true) : d ≠ .lst [] → ∀ {K : PySem.W.Frag} {w : Ow} {H : Hp} {v : V}, RpV K w H v d → Rp K (fz w H) H v d [] := by
  intro _ K w H v r
  rcases r with r | ⟨a, vs, ds, rfl, rfl, h1, h2⟩
  · exact r
  · exact nomatch h
def gInB (neg : Bool) : G2 := fun x y G => match x, y with
  | .str [c], .str t => G (.bl (xor neg (decide (c ∈ t))))
  | x, .lst ds => x.flat = true ∧ ds.all D.flat = true ∧ G (.bl (xor neg (memD x ds)))
  | x, .tup ds => x.flat = true ∧ ds.all D.flat = true ∧ G (.bl (xor neg (memD x ds)))
  | x, .ktp ds => x.flat = true ∧ ds.all D.flat = true ∧ G (.bl (xor neg (memD x ds)))
  | _, _ => False
theorem o_in_sign : O2 X (compareOp .In) (fun x y G => match x, y with
    | .str [c], .str t => G (.bl (decide (c ∈ t)))
    | _, _ => False) := ⟨_, op_in_sign, fun w H x y d1 d2 G Q lv hx hy hg k => by
  dsimp only at hg
  split at hg
  · exact ⟨_, _, hx.str.1, hy.str.1, k _ _ H hg (.same (.bl _))⟩
  · exact hg.elim⟩
theorem o_notin_sign : O2 X (compareOp .NotIn) (fun x y G => match x, y with
    | .str [c], .str t => G (.bl (!decide (c ∈ t)))
    | _, _ => False) := ⟨_, op_notIn_sign, fun w H x y d1 d2 G Q lv hx hy hg k => by
  dsimp only at hg
  split at hg
  · exact ⟨_, _, hx.str.1, hy.str.1, k _ _ H hg (.same (.bl _))⟩
  · exact hg.elim⟩
def gInSeq (neg : Bool) : G2 := fun x y G => match y with
  | .lst ds => x.flat = true ∧ ds.all D.flat = true ∧ G (.bl (xor neg (memD x ds)))
  | .tup ds => x.flat = true ∧ ds.all D.flat = true ∧ G (.bl (xor neg (memD x ds)))
  | .ktp ds => x.flat = true ∧ ds.all D.flat = true ∧ G (.bl (xor neg (memD x ds)))
  | _ => False
theorem inSeq_lift {neg : Bool} : Lift2 X.K (rIn X.K neg) (gInSeq neg) := fun w H x y d1 d2 G Q lv hx hy hg k => by
  unfold gInSeq at hg
  have e : ∀ b : Bool, (if neg then !b else b) = xor neg b := fun b => by cases neg <;> cases b <;> rfl
  split at hg
  · obtain ⟨f1, f2, hg⟩ := hg
    obtain ⟨p, vs, e1, hl, r⟩ := hy.lst
    have hx' := flat_fro f1 (by rintro rfl; exact nomatch f1) hx
    obtain ⟨a, b⟩ := inV_py hx' f1 r f2
    obtain ⟨h1, _, _⟩ := eqV_py hx' hx' f1 f1
    refine ⟨p, vs, e1, .inl (.inl (.inl hl)), h1, a, ?_⟩
    rw [b, e]
    exact k _ _ H hg (.same (.bl _))
  · obtain ⟨f1, f2, hg⟩ := hg
    obtain ⟨p, vs, e1, hl, r⟩ := hy.tup
    have hx' := flat_fro f1 (by rintro rfl; exact nomatch f1) hx
    obtain ⟨a, b⟩ := inV_py hx' f1 r f2
    obtain ⟨h1, _, _⟩ := eqV_py hx' hx' f1 f1
    refine ⟨p, vs, e1, .inr (.inl (.inl hl)), h1, a, ?_⟩
    rw [b, e]
    exact k _ _ H hg (.same (.bl _))
  · obtain ⟨f1, f2, hg⟩ := hg
    obtain ⟨p, vs, e1, hl, r⟩ := hy.ktp
    have hx' := flat_fro f1 (by rintro rfl; exact nomatch f1) hx
    obtain ⟨a, b⟩ := inV_py hx' f1 r f2
    obtain ⟨h1, _, _⟩ := eqV_py hx' hx' f1 f1
    refine ⟨p, vs, e1, .inr hl, h1, a, ?_⟩
    rw [b, e]
    exact k _ _ H hg (.same (.bl _))
  · exact hg.elim
def gIn : G2 := gInB false
def gNotIn : G2 := gInB true
theorem o_in : O2 X (compareOp .In) gIn := by
  refine o_in_sign.or (g' := gInSeq false) ⟨_, op_in_seq, inSeq_lift⟩ fun x y G h => ?_
  unfold gIn gInB at h
  split at h
  · exact .inl (by simpa using h)
  · exact .inr h
  · exact .inr h
  · exact .inr h
  · exact h.elim
theorem o_notin : O2 X (compareOp .NotIn) gNotIn := by
  refine o_notin_sign.or (g' := gInSeq true) ⟨_, op_notIn_seq, inSeq_lift⟩ fun x y G h => ?_
  unfold gNotIn gInB at h
  split at h
  · exact .inl (by simpa using h)
  · exact .inr h
  · exact .inr h
  · exact .inr h
  · exact h.elim
end


/-! ### a name as a value: what it holds is frozen by that -/
section
variable {K : PySem.W.Frag} {W : WX} {w w1 w2 : Ow} {H H1 H2 : Hp} {σ : L2.St} {es es1 es2 : List E} {v x y : V} {d d1 d2 : D} {RX : DX}
theorem set_get {α : Type} {l : List α} {i j : Nat} {a b : α} (h : (l.set i a)[j]? = some b) : (i = j ∧ a = b) ∨ (i ≠ j ∧ l[j]? = some b) := by
  by_cases e : i = j
  · subst e
    by_cases hl : i < l.length
    · rw [List.getElem?_set_self hl] at h
      exact .inl ⟨rfl, Option.some.inj h⟩
    · rw [List.getElem?_eq_none (by simpa using hl)] at h
      cases h
  · rw [List.getElem?_set_ne e] at h
    exact .inr ⟨e, h⟩
theorem Stt.freeze {i : Nat} (s : Stt K w H σ es) (he : es[i]? = some (.val d)) (ok : d.okf = true) : Stt K (RB.thaw w (i + 2)) H σ (es.set i (.val d.frz)) ∧ Fr w H (RB.thaw w (i + 2)) H ∧ ∃ v, σ[i]? = some (some v) ∧ Rp K (fz (RB.thaw w (i + 2)) H) H v d.frz [] := by
  obtain ⟨v, e1, hv⟩ := s.sl i _ he
  have rv := hv.frz ok s.lv
  refine ⟨⟨fun j e hj => ?_, fun a h => ?_, by rw [List.length_set]; exact s.ln⟩, thaw_fr (by omega), v, e1, rv⟩
  · rcases set_get hj with ⟨rfl, rfl⟩ | ⟨n, hj⟩
    · exact ⟨v, e1, .of rv⟩
    · have z := s.sl j e hj
      cases e with
      | no => trivial
      | val d' => exact ⟨z.choose, z.choose_spec.1, z.choose_spec.2.thaw (by omega)⟩
      | bor a d' => exact ⟨z.1, z.2.thaw (by omega)⟩
  · cases q : RB.thaw w (i + 2) a with
    | none => exact absurd q h
    | some u => exact s.lv a (by rw [(thaw_some q).1]; simp)
end
def dName (i : Nat) : XE := fun es Q _ => ∃ d, es[i]? = some (.val d) ∧ d.okf = true ∧ Q d.frz (es.set i (.val d.frz))
section
variable {X : Cx} {e a b : Expr} {d da db : XE}
theorem x_name {i : Nat} (h : PE X e (tVar i)) : PFX X e (dName i) := fun W tk => PE.weak h fun σ H Q ⟨w, es, R, RX, s, q, k, kx⟩ => by
  obtain ⟨d, hd, ok, hR⟩ := q
  obtain ⟨s2, f2, v, e1, r⟩ := s.freeze hd ok
  exact ⟨v, e1, k _ _ _ _ _ hR s2 r f2⟩
/-! ### lists of frozen values; displays -/
abbrev XL := List E → (List D → List E → Prop) → DX → Prop
def upL (K : PySem.W.Frag) (W : WX) (d : XL) : TA := fun σ H Q => ∃ w es R RX, Stt K w H σ es ∧ d es R RX ∧
  (∀ ds es2 vs H2 w2, R ds es2 → Stt K w2 H2 σ es2 → Rps K (fz w2 H2) H2 vs ds [] → Fr w H w2 H2 → Q vs H2) ∧ XOk K W w H σ RX
def PLX (X : Cx) (es : List Expr) (d : XL) : Prop := ∀ W, Takes X W → PA X es (upL X.K W d)
def dLNil : XL := fun es Q _ => Q [] es
def dLCons (da : XE) (dl : XL) : XL := fun es Q QX => da es (fun d es1 => dl es1 (fun ds es2 => Q (d :: ds) es2) QX) QX
theorem l_nil : PLX X [] dLNil := fun W tk => PA.weak pa_nil fun σ H Q ⟨w, es, R, RX, s, q, k, kx⟩ => k _ _ _ _ _ q s .nil .refl
theorem l_cons {es : List Expr} {dl : XL} (ha : PFX X e da) (hl : PLX X es dl) (hs : starEach (e :: es) X.env = (false, eval e X.env) :: starEach es X.env := by rfl) : PLX X (e :: es) (dLCons da dl) := fun W tk =>
  PA.weak (pa_cons (ha W tk) (hl W tk) hs) fun σ H Q ⟨w, es, R, RX, s, q, k, kx⟩ => ⟨w, es, _, RX, s, q, fun d es1 v H1 w1 q1 s1 r1 f1 =>
    ⟨w1, es1, _, RX, s1, q1, fun ds es2 vs H2 w2 q2 s2 r2 f2 => k _ _ _ _ _ q2 s2 (.cons0 (f2.rp r1) r2) (f1.trans f2), kx.fr f1⟩, kx⟩
def dTup (dl : XL) : XE := fun es Q QX => dl es (fun ds es2 => ds.length ≤ sizeLine ∧ Q (.tup ds) es2) QX
def dLst (dl : XL) : XE := fun es Q QX => dl es (fun ds es2 => ds.length ≤ sizeLine ∧ Q (.mlst ds) es2) QX
theorem x_tup {es : List Expr} {dl : XL} {x1} {pos : Pos} (hl : PLX X es dl) : PFX X (.Tuple es x1 pos) (dTup dl) := fun W tk => PE.weak (pe_tup (hl W tk)) fun σ H Q ⟨w, es, R, RX, s, q, k, kx⟩ =>
  ⟨w, es, _, RX, s, q, fun ds es2 vs H2 w2 ⟨hl, hR⟩ s2 r2 f2 => ⟨by rw [r2.length]; exact hl, fun p hp => by
    obtain ⟨g1, g2 | ⟨p', _, _, _, e, _⟩⟩ := Res.tup s2.lv hp r2
    · exact k _ es2 _ _ w2 hR (s2.grow g1) g2 (f2.trans (.new g1))
    · cases e⟩, kx⟩
theorem x_lst {es : List Expr} {dl : XL} {pos : Pos} (hl : PLX X es dl) : PEX X (.List es pos) (dLst dl) := fun W tk => PE.weak (pe_lst (hl W tk)) fun σ H Q ⟨w, es, R, RX, s, q, k, kx⟩ =>
  ⟨w, es, _, RX, s, q, fun ds es2 vs H2 w2 ⟨hl, hR⟩ s2 r2 f2 => ⟨by rw [r2.length]; exact hl, fun p hp => by
    obtain ⟨w3, s3, h3, f3⟩ := (Res.list hp r2).to s2
    exact k _ es2 _ _ w3 hR s3 h3 (f2.trans f3)⟩, kx⟩

/-! ### calls of built-ins -/
def C1 (X : Cx) (f : Value) (g : G1) : Prop := ∃ r, CallR X f r ∧ Lift1 X.K (fun x H Q => r [x] H Q) g
def C2 (X : Cx) (f : Value) (g : G2) : Prop := ∃ r, CallR X f r ∧ Lift2 X.K (fun x y H Q => r [x, y] H Q) g
theorem C1.or {f : Value} {g g' g'' : G1} (a : C1 X f g) (b : C1 X f g') (h : ∀ x G, g'' x G → g x G ∨ g' x G) : C1 X f g'' := by
  obtain ⟨r, h1, l1⟩ := a
  obtain ⟨r', h2, l2⟩ := b
  refine ⟨fun x H Q => r x H Q ∨ r' x H Q, fun pins s σ H xs us Q I rs q => ?_, fun w H x d G Q lv hx hg k => ?_⟩
  · rcases q with q | q
    · exact h1 pins s σ H xs us Q I rs q
    · exact h2 pins s σ H xs us Q I rs q
  · rcases h _ _ hg with q | q
    · exact .inl (l1 w H x d G Q lv hx q k)
    · exact .inr (l2 w H x d G Q lv hx q k)
theorem un_imp {K : PySem.W.Frag} {W : WX} {r : V → Hp → VK → Prop} {g : G1} (l : Lift1 K r g) {σ : L2.St} {H : Hp} {Q : VK} (h : up K W (dUn g da) σ H Q) : upO K W da σ H (fun x H1 => r x H1 Q) := by
  obtain ⟨w, es, R, RX, s, q, k, kx⟩ := h
  refine ⟨w, es, _, RX, s, q, fun d1 es1 x H1 w1 q1 s1 r1 f1 => l w1 H1 x d1 _ _ s1.lv r1 q1 fun d v H3 g3 rs => ?_, kx⟩
  obtain ⟨w3, s3, h3, f3⟩ := rs.to s1
  exact k d es1 v H3 w3 g3 s3 h3 (f1.trans f3)
/-- f(a), f a built-in, by its call (pe_callB .. or pe_callTy ..) -/
theorem x_c1 {f : Value} {g : G1} (c : C1 X f g) (h : ∀ r, CallR X f r → ∀ t, PA X [a] t → PE X e (tCB r t)) (ha : POX X a da) (hs : starEach [a] X.env = (false, eval a X.env) :: starEach [] X.env := by rfl) : PEX X e (dUn g da) := fun W tk => by
  obtain ⟨r, h1, l⟩ := c
  exact PE.weak (h r h1 _ (pa_cons (ha W tk) pa_nil hs)) fun σ H Q q => un_imp l q
theorem x_c2 {f : Value} {g : G2} (c : C2 X f g) (h : ∀ r, CallR X f r → ∀ t, PA X [a, b] t → PE X e (tCB r t)) (ha : PFX X a da) (hb : POX X b db) (hs : starEach [a, b] X.env = (false, eval a X.env) :: starEach [b] X.env := by rfl)
    (hs2 : starEach [b] X.env = (false, eval b X.env) :: starEach [] X.env := by rfl) : PEX X e (dOp g da db) := fun W tk => by
  obtain ⟨r, h1, l⟩ := c
  exact PE.weak (h r h1 _ (pa_cons (ha W tk) (pa_cons (hb W tk) pa_nil hs2) hs)) fun σ H Q q => up_op l q
theorem x_c2V {f : Value} {g : G2} {i : Nat} (c : C2 X f g) (h : ∀ r, CallR X f r → ∀ t, PA X [a, b] t → PE X e (tCB r t)) (ha : PE X a (tVar i)) (hb : POX X b db) (hs : starEach [a, b] X.env = (false, eval a X.env) :: starEach [b] X.env := by rfl)
    (hs2 : starEach [b] X.env = (false, eval b X.env) :: starEach [] X.env := by rfl) : PEX X e (dOpV g i db) := fun W tk => by
  obtain ⟨r, h1, l⟩ := c
  exact PE.weak (h r h1 _ (pa_cons ha (pa_cons (hb W tk) pa_nil hs2) hs)) fun σ H Q q => up_opV l q
def gLen : G1 := fun x G => match x with
  | .str s => G (.int s.length)
  | .lst ds => G (.int ds.length)
  | .kst ds => G (.int ds.length)
  | .tup ds => G (.int ds.length)
  | .ktp ds => G (.int ds.length)
  | _ => False
theorem c_len : C1 X (.builtin "len") gLen := ⟨_, call_len, fun w H x d G Q lv hx hg k => by
  unfold gLen at hg
  split at hg
  · obtain ⟨e, z⟩ := hx.str
    exact ⟨x, _, rfl, by rw [e]; exact ⟨by rw [S_len]; exact z.1, rfl⟩, by rw [S_len]; exact k _ _ H hg (.same (.int _))⟩
  · obtain ⟨p, vs, e, hl, r⟩ := hx.lst
    exact ⟨x, _, rfl, by rw [e]; exact .inl ⟨vs, .inl (.inl hl), rfl⟩, by rw [r.length]; exact k _ _ H hg (.same (.int _))⟩
  · obtain ⟨p, vs, e, hl, r⟩ := hx.kst
    exact ⟨x, _, rfl, by rw [e]; exact .inl ⟨vs, hl, rfl⟩, by rw [r.length]; exact k _ _ H hg (.same (.int _))⟩
  · obtain ⟨p, vs, e, hl, r⟩ := hx.tup
    exact ⟨x, _, rfl, by rw [e]; exact .inr ⟨vs, .inl (.inl hl), rfl⟩, by rw [r.length]; exact k _ _ H hg (.same (.int _))⟩
  · obtain ⟨p, vs, e, hl, r⟩ := hx.ktp
    exact ⟨x, _, rfl, by rw [e]; exact .inr ⟨vs, hl, rfl⟩, by rw [r.length]; exact k _ _ H hg (.same (.int _))⟩
  · exact hg.elim⟩
def gAbs : G1 := fun x G => match x with
  | .int i => G (.int (if i < 0 then -i else i))
  | _ => False
theorem c_abs : C1 X (.builtin "abs") gAbs := ⟨_, call_abs, fun w H x d G Q lv hx hg k => by
  unfold gAbs at hg
  split at hg
  · rw [hx.int]
    exact ⟨_, rfl, k _ _ H hg (.same (.int _))⟩
  · exact hg.elim⟩
def gInt : G1 := fun x G => match x with
  | .int i => G (.int i)
  | .bl b => G (.int (if b then 1 else 0))
  | _ => False
theorem c_int : C1 X (.type "int") gInt := ⟨_, call_int1, fun w H x d G Q lv hx hg k => by
  unfold gInt at hg
  split at hg
  · rw [hx.int]
    exact .inl ⟨_, rfl, k _ _ H hg (.same (.int _))⟩
  · rw [hx.bl]
    exact .inr ⟨_, rfl, k _ _ H hg (.same (.int _))⟩
  · exact hg.elim⟩
def gTuple : G1 := fun x G => match x with
  | .lst ds => G (.tup ds)
  | .kst ds => G (.tup ds)
  | .tup ds => G (.tup ds)
  | _ => False
theorem c_tuple : C1 X (.type "tuple") gTuple := ⟨_, call_tuple_of, fun w H x d G Q lv hx hg k => by
  unfold gTuple at hg
  split at hg
  · obtain ⟨p, vs, rfl, hl, r⟩ := hx.lst
    exact ⟨p, vs, rfl, .inl ⟨.inl (.inl hl), fun l hl => k _ _ _ hg (.tup lv hl r)⟩⟩
  · obtain ⟨p, vs, rfl, hl, r⟩ := hx.kst
    exact ⟨p, vs, rfl, .inl ⟨hl, fun l hl => k _ _ _ hg (.tup lv hl r)⟩⟩
  · obtain ⟨p, vs, rfl, hl, r⟩ := hx.tup
    refine ⟨p, vs, rfl, .inr ⟨.inl (.inl hl), k _ _ H hg (.same ?_)⟩⟩
    rcases hx with hx | ⟨_, _, _, _, e, _⟩
    · exact hx
    · cases e
  · exact hg.elim⟩
def gList : G1 := fun x G => match x with
  | .lst ds => G (.mlst ds)
  | .kst ds => G (.mlst ds)
  | .tup ds => G (.mlst ds)
  | _ => False
theorem c_list0 : C1 X (.type "list") gList := ⟨_, call_list_of, fun w H x d G Q lv hx hg k => by
  unfold gList at hg
  split at hg
  · obtain ⟨p, vs, rfl, hl, r⟩ := hx.lst
    exact ⟨p, vs, rfl, .inl (.inl (.inl hl)), fun l hl => k _ _ _ hg (.list hl r)⟩
  · obtain ⟨p, vs, rfl, hl, r⟩ := hx.kst
    exact ⟨p, vs, rfl, .inl hl, fun l hl => k _ _ _ hg (.list hl r)⟩
  · obtain ⟨p, vs, rfl, hl, r⟩ := hx.tup
    exact ⟨p, vs, rfl, .inr (.inl (.inl hl)), fun l hl => k _ _ _ hg (.list hl r)⟩
  · exact hg.elim⟩
/-! isinstance -/
def D.tyn : D → String
  | .non => "NoneType" | .bl _ => "bool" | .int _ => "int" | .str _ => "str"
  | .lst _ | .kst _ | .mlst _ => "list" | .tup _ | .ktp _ => "tuple" | .dic _ => "dict" | .adr _ => "" | .ty _ => "type"
def isT (a b : String) : Bool := a == b || (a == "bool" && b == "int")
def tys1 : List String := ["NoneType", "bool", "int", "str", "list", "tuple", "dict"]
def tys2 : List String := ["bool", "int", "str", "list", "tuple", "dict"]
theorem isT_kit : ∀ a ∈ tys1, ∀ b ∈ tys2, kitB a b = some (isT a b) := by decide +kernel
end


section
variable {X : Cx} {e a b : Expr} {d da db : XE}
/-! ### isinstance -/
theorem TyX.ofL {K : PySem.W.Frag} {H : Hp} {a : Addr} {xs : List V} (h : SqL K H a xs) : TyX K H (.ref a) (.type "list") := by
  rcases h with (h | ⟨o, h⟩) | ⟨o, its, n, h, c, _⟩
  · exact .base (.lst h)
  · exact .base (.frz h)
  · exact .kList h c
theorem TyX.ofT {K : PySem.W.Frag} {H : Hp} {a : Addr} {xs : List V} (h : SqT K H a xs) : TyX K H (.ref a) (.type "tuple") := by
  rcases h with (h | ⟨o, h⟩) | ⟨o, its, n, h, c, _⟩
  · exact .base (.tup h)
  · exact .fTuple h
  · exact .kTuple h c
theorem RpV.tyx {K : PySem.W.Frag} {w : Ow} {H : Hp} {v : V} {d : D} (h : RpV K w H v d) (c : d.tyn ∈ tys1) : TyX K H v (.type d.tyn) := by
  cases d with
  | non => rw [h.non]; exact .base .non
  | bl b => rw [h.bl]; exact .base (.bl b)
  | int i => rw [h.int]; exact .base (.int i)
  | str s => rw [h.str.1]; exact .base (.str _)
  | lst ds => obtain ⟨p, vs, rfl, h1, _⟩ := h.lst; exact TyX.ofL (.inl (.inl h1))
  | kst ds => obtain ⟨p, vs, rfl, h1, _⟩ := h.kst; exact TyX.ofL h1
  | tup ds => obtain ⟨p, vs, rfl, h1, _⟩ := h.tup; exact TyX.ofT (.inl (.inl h1))
  | ktp ds => obtain ⟨p, vs, rfl, h1, _⟩ := h.ktp; exact TyX.ofT h1
  | dic kvs =>
    rcases h with h | ⟨_, _, _, _, e, _⟩
    · cases h with
      | dic h _ _ _ _ =>
        rcases rd_ex (fun _ _ q => fz_sub q) h with h | ⟨o, h⟩
        · exact .base (.dK h)
        · exact .fDict h
    · cases e
  | mlst ds =>
    rcases h with h | ⟨_, _, _, _, e, _⟩
    · cases h
    · cases e
  | adr a => exact absurd (show "" ∈ tys1 from c) (by decide)
  | ty n => exact absurd (show "type" ∈ tys1 from c) (by decide)
/-- of one class -/
def gIsi : G2 := fun x y G => x.tyn ∈ tys1 ∧ match y with
  | .ty n => n ∈ tys2 ∧ G (.bl (isT x.tyn n))
  | _ => False
theorem c_isi : C2 X (.builtin "isinstance") gIsi := ⟨_, call_isi, fun w H x y d1 d2 G Q lv hx hy ⟨h1, hg⟩ k => by
  split at hg
  · obtain ⟨h2, hg⟩ := hg
    exact ⟨x, y, _, _, _, rfl, by rw [hy.ty]; exact .ty _, hx.tyx h1, kit_ty (isT_kit _ h1 _ h2), k _ _ H hg (.same (.bl _))⟩
  · exact hg.elim⟩
/-- of one of some classes -/
def tysOf : List D → Option (List String)
  | [] => some []
  | .ty n :: ds => (tysOf ds).map (n :: ·)
  | _ => none
def gIsiT : G2 := fun x y G => x.tyn ∈ tys1 ∧ match y with
  | .tup ds => ∃ ns, tysOf ds = some ns ∧ (∀ n ∈ ns, n ∈ tys2) ∧ G (.bl (ns.any (isT x.tyn)))
  | _ => False
theorem kit_any {K : PySem.W.Frag} {t : String} (h1 : t ∈ tys1) : ∀ ns : List String, (∀ n ∈ ns, n ∈ tys2) → PySem.W.kitAny K (.type t) (ns.map .type) = some (ns.any (isT t))
  | [], _ => kitAny_nil
  | n :: ns, h => by
    have h2 := kit_any (K := K) h1 ns fun m hm => h m (List.mem_cons_of_mem _ hm)
    refine kitAny_cons (b := isT t n) (kit_ty (isT_kit _ h1 _ (h n List.mem_cons_self))) (fun e => ?_) (fun e => ?_)
    · rw [h2, List.any_cons, e]; rfl
    · rw [List.any_cons, e]; rfl
theorem tys_rel {K : PySem.W.Frag} {F H : Hp} : ∀ {ds : List D} {vs : List V} {ns : List String}, Rps K F H vs ds [] → tysOf ds = some ns → Paired ClsV vs (ns.map .type)
  | [], vs, ns, r, h => by
    cases h
    cases r
    exact .nil
  | .ty n :: ds, v :: vs, ns, r, h => by
    obtain ⟨r1, r2⟩ := r.uncons
    simp only [tysOf, Option.map_eq_some_iff] at h
    obtain ⟨ms, hm, rfl⟩ := h
    cases r1
    exact .cons (.ty n) (tys_rel r2 hm)
theorem c_isiT : C2 X (.builtin "isinstance") gIsiT := ⟨_, call_isiT, fun w H x y d1 d2 G Q lv hx hy ⟨h1, hg⟩ k => by
  split at hg
  · obtain ⟨ns, e, hn, hg⟩ := hg
    obtain ⟨p, vs, rfl, ht, r⟩ := hy.tup
    exact ⟨x, p, vs, _, _, _, rfl, ht, tys_rel r e, hx.tyx h1, kit_any h1 ns hn, k _ _ H hg (.same (.bl _))⟩
  · exact hg.elim⟩

/-! ### list of a text -/
def chars (s : List Nat) : List D := s.map fun c => .str [c]
theorem chars_rps {K : PySem.W.Frag} {F H : Hp} : ∀ {s : List Nat}, (∀ c ∈ s, c < 128) → Rps K F H (s.map fun c => .str (S [c])) (chars s) []
  | [], _ => .nil
  | c :: s, h => .cons0 (.str [c] ⟨by rw [sizeLine_eq]; simp, fun x hx => by
      have : x = c := by simpa using hx
      subst this
      exact h _ List.mem_cons_self⟩) (chars_rps fun x hx => h x (List.mem_cons_of_mem _ hx))
theorem signs_vals {s : List Nat} {acc : Array Value} (h : ItemsOf (SignAt (S s)) acc s.length) : Vals (s.map fun c => V.str (S [c])) acc.toList := by
  obtain ⟨hz, h⟩ := h
  have go : ∀ (s : List Nat) (l : List Value), l.length = s.length → (∀ (j : Nat) (v : Value), l[j]? = some v → ∃ (c : Nat) (u : Tok), s[j]? = some c ∧ v = Value.str ⟨#[c]⟩ u) → Vals (s.map fun c => V.str (S [c])) l := by
    intro s
    induction s with
    | nil => intro l hl _; cases l with
      | nil => exact .nil
      | cons _ _ => cases hl
    | cons c s ih =>
      intro l hl q
      cases l with
      | nil => cases hl
      | cons v l =>
        obtain ⟨c', u, e1, e2⟩ := q 0 v rfl
        cases e1
        subst e2
        exact .cons ⟨u, rfl⟩ (ih l (by simpa using hl) fun j v hj => q (j + 1) v hj)
  refine go s acc.toList (by rw [Array.length_toList]; exact hz) fun j v hj => ?_
  obtain ⟨c, u, hc, e⟩ := h j v (by simpa using hj)
  exact ⟨c, u, by simpa [S] using hc, e⟩
theorem c_listS (hc : X.calm = true) : C1 X (.type "list") (fun x G => match x with
    | .str s => G (.mlst (chars s))
    | _ => False) := by
  refine ⟨fun xs H Q => ∃ s, xs = [.str (S s)] ∧ okS s ∧ ∀ p, H p = none → Q (.ref p) (upd H p (.lst (s.map fun c => .str (S [c])))), ?_, fun w H x d G Q lv hx hg k => ?_⟩
  · intro pins st σ H xs us Q I r h
    obtain ⟨s, rfl, z, q⟩ := h
    obtain ⟨u, rfl, t, rfl⟩ := vals1 r
    refine PySem.call_list_str (I.ok.hd hc) (S s) t (fun h' tk acc c' hk ho hi => ?_) (by show s.toArray.size ≤ _; rw [List.size_toArray]; exact z.1)
    have hi' : ItemsOf (SignAt (S s)) acc s.length := by
      have e : (S s).cps.size = s.length := List.size_toArray
      rw [e] at hi
      exact hi
    refine ⟨.ref _, _, I.laid (t' := tk) (o := .lst (s.map fun c => .str (S [c]))) hk (Nat.le_refl _) ⟨by rw [List.length_map]; exact z.1, acc.toList, c', signs_vals hi', by rw [Array.toArray_toList]; exact ho⟩, rfl, q _ (I.hok.fresh (Nat.le_refl _))⟩
  · dsimp only at hg
    split at hg
    · obtain ⟨e, z⟩ := hx.str
      rw [e]
      exact ⟨_, rfl, z, fun p hp => k _ _ _ hg (.list hp (chars_rps z.2))⟩
    · exact hg.elim
def gList2 : G1 := fun x G => match x with
  | .str s => G (.mlst (chars s))
  | .lst ds => G (.mlst ds)
  | .kst ds => G (.mlst ds)
  | .tup ds => G (.mlst ds)
  | _ => False
theorem c_list (hc : X.calm = true) : C1 X (.type "list") gList2 := (c_listS hc).or c_list0 fun x G h => by
  unfold gList2 at h
  split at h
  · exact .inl h
  · exact .inr h
  · exact .inr h
  · exact .inr h
  · exact h.elim

/-! ### methods of texts -/
def up2 (c : Nat) : Nat := if 97 ≤ c ∧ c ≤ 122 then c - 32 else c
def lo2 (c : Nat) : Nat := if 65 ≤ c ∧ c ≤ 90 then c + 32 else c
def sw2 (c : Nat) : Nat := if 65 ≤ c ∧ c ≤ 90 then c + 32 else if 97 ≤ c ∧ c ≤ 122 then c - 32 else c
theorem S_map (s : List Nat) (f : Nat → Nat) : (⟨(S s).cps.map f⟩ : Str) = S (s.map f) := by
  show (⟨s.toArray.map f⟩ : Str) = ⟨(s.map f).toArray⟩
  rw [List.map_toArray]
theorem upper_S {s : List Nat} (h : ∀ c ∈ s, c < 128) : Txt.upper (S s) = S (s.map up2) := by
  rw [upper_ascii (x := S s) h, ← S_map]
  rfl
theorem lower_S {s : List Nat} (h : ∀ c ∈ s, c < 128) : Txt.lower (S s) = S (s.map lo2) := by
  rw [lower_ascii (x := S s) h, ← S_map]
  rfl
theorem swap_one : ∀ c, c < 128 → (if Unicode.isUpper c then [lo1 c] else if Unicode.isLower c then Unicode.upperOf c else [c]) = [sw2 c] := by decide +kernel
theorem swap_S {s : List Nat} (h : ∀ c ∈ s, c < 128) : Txt.swapcase (S s) = S (s.map sw2) := by
  rw [← S_map]
  unfold Txt.swapcase
  rw [placed_single (S s) _ sw2 fun i c hc => ?_]
  have hlt := h c (List.mem_of_getElem? hc)
  have hc' : (S s).cps[i]? = some c := by simpa using hc
  rw [← swap_one c hlt]
  have e : Unicode.lowerAt (S s).cps i = [lo1 c] := by
    unfold Unicode.lowerAt
    rw [hc']
    have hne : (c == 0x3A3) = false := by rw [beq_eq_false_iff_ne]; omega
    simp only [hne, Bool.false_and, Bool.false_eq_true, if_false]
    exact lowerOf_ascii c hlt
  rw [e]
theorem mt_swapcase : MtR X "str.swapcase" (fun x xs H Q => ∃ a, x = .str a ∧ xs = [] ∧ a.length ≤ 5592405 ∧ Q (.str (Txt.swapcase a)) H) :=
  mt0 (C := fun a => a.length ≤ 5592405) (g := fun a => .str (Txt.swapcase a)) fun a _ s _ hc h =>
    PySem.SC.swapcase (short24 (by have h1 : a.length ≤ 5592405 := hc; have := len_swapcase a; omega)) (h _ (s.toks + 1) ⟨_, rfl⟩)
def isLo (s : List Nat) : Bool := s.any (fun c => decide (97 ≤ c ∧ c ≤ 122)) && !s.any (fun c => decide (65 ≤ c ∧ c ≤ 90))
def isUp (s : List Nat) : Bool := s.any (fun c => decide (65 ≤ c ∧ c ≤ 90)) && !s.any (fun c => decide (97 ≤ c ∧ c ≤ 122))
theorem low_one : ∀ c, c < 128 → Unicode.isLower c = decide (97 ≤ c ∧ c ≤ 122) ∧ Unicode.isUpper c = decide (65 ≤ c ∧ c ≤ 90) ∧ Unicode.isTitle c = false := by decide +kernel
theorem any_S {s : List Nat} {f g : Nat → Bool} (h : ∀ c ∈ s, f c = g c) : (S s).cps.any f = s.any g := by
  show s.toArray.any f = _
  rw [List.any_toArray]
  induction s with
  | nil => rfl
  | cons c s ih => rw [List.any_cons, List.any_cons, h c List.mem_cons_self, ih fun x hx => h x (List.mem_cons_of_mem _ hx)]
theorem islower_S {s : List Nat} (h : ∀ c ∈ s, c < 128) : Txt.islower (S s) = isLo s := by
  unfold Txt.islower isLo
  rw [any_S fun c hc => (low_one c (h c hc)).1, any_S (g := fun c => decide (65 ≤ c ∧ c ≤ 90)) fun c hc => by rw [(low_one c (h c hc)).2.1, (low_one c (h c hc)).2.2, Bool.or_false]]
theorem isupper_S {s : List Nat} (h : ∀ c ∈ s, c < 128) : Txt.isupper (S s) = isUp s := by
  unfold Txt.isupper isUp
  rw [any_S fun c hc => (low_one c (h c hc)).2.1, any_S (g := fun c => decide (97 ≤ c ∧ c ≤ 122)) fun c hc => by rw [(low_one c (h c hc)).1, (low_one c (h c hc)).2.2, Bool.or_false]]
/-- s.m() -/
def M0 (X : Cx) (id : String) (g : G1) : Prop := ∃ r, MtR X id r ∧ Lift1 X.K (fun x H Q => tyV X.K "str" x H ∧ r x [] H Q) g
def gS1 (C : List Nat → Prop) (f : List Nat → D) : G1 := fun x G => match x with
  | .str s => C s ∧ G (f s)
  | _ => False
theorem okS_map {s : List Nat} {f : Nat → Nat} (h : okS s) (hf : ∀ c, c < 128 → f c < 128) : okS (s.map f) := ⟨by rw [List.length_map]; exact h.1, fun c hc => by
  obtain ⟨x, hx, rfl⟩ := List.mem_map.mp hc
  exact hf x (h.2 x hx)⟩
theorem m0_of {id : String} {C : Str → Prop} {fv : Str → V} {Cd : List Nat → Prop} {f : List Nat → D} (h : MtR X id (fun x xs H Q => ∃ a, x = .str a ∧ xs = [] ∧ C a ∧ Q (fv a) H)) (hC : ∀ s, okS s → Cd s → C (S s))
    (hr : ∀ s F H, okS s → Cd s → Rp X.K F H (fv (S s)) (f s) []) : M0 X id (gS1 Cd f) := ⟨_, h, fun w H x d G Q lv hx hg k => by
  unfold gS1 at hg
  split at hg
  · obtain ⟨hc, hg⟩ := hg
    obtain ⟨e, z⟩ := hx.str
    rw [e]
    exact ⟨rfl, _, rfl, rfl, hC _ z hc, k _ _ H hg (.same (hr _ _ _ z hc))⟩
  · exact hg.elim⟩
abbrev len5 (s : List Nat) : Prop := s.length ≤ 5592405
theorem m_upper : M0 X "str.upper" (gS1 len5 fun s => .str (s.map up2)) := m0_of mt_upper (fun s z h => by rw [S_len]; exact h) fun s F H z _ => by
  rw [upper_S z.2]
  exact .str _ (okS_map z fun c h => by unfold up2; split <;> omega)
theorem m_lower : M0 X "str.lower" (gS1 len5 fun s => .str (s.map lo2)) := m0_of mt_lower (fun s z h => by rw [S_len]; exact h) fun s F H z _ => by
  rw [lower_S z.2]
  exact .str _ (okS_map z fun c h => by unfold lo2; split <;> omega)
theorem m_swapcase : M0 X "str.swapcase" (gS1 len5 fun s => .str (s.map sw2)) := m0_of mt_swapcase (fun s z h => by rw [S_len]; exact h) fun s F H z _ => by
  rw [swap_S z.2]
  exact .str _ (okS_map z fun c h => by unfold sw2; split <;> (try split) <;> omega)
theorem m_islower : M0 X "str.islower" (gS1 (fun _ => True) fun s => .bl (isLo s)) := m0_of mt_islower (fun _ _ _ => trivial) fun s F H z _ => by
  rw [islower_S z.2]
  exact .bl _
theorem m_isupper : M0 X "str.isupper" (gS1 (fun _ => True) fun s => .bl (isUp s)) := m0_of mt_isupper (fun _ _ _ => trivial) fun s F H z _ => by
  rw [isupper_S z.2]
  exact .bl _
theorem x_m0 {id : String} {name : Str} {g : G1} {apos cpos : Pos} (m : M0 X id g) (slot : Slot "str" name id) (hty : typeOf (.builtin id) = pure (.type "method_descriptor")) (ha : POX X a da)
    (hbase : attributeBase a name X.env (eval a X.env) = eval a X.env := by rfl) (hline : (apos.endLine == cpos.line) = true := by rfl) : PEX X (.Call (.Attribute a name apos) [] [] cpos) (dUn g da) := fun W tk => by
  obtain ⟨r, h1, l⟩ := m
  exact PE.weak (pe_bm0 PySem.F.plainAttrs_str slot hty h1 (ha W tk) hbase hline) fun σ H Q q => un_imp l q
/-- s.m(x), s frozen -/
def M1 (X : Cx) (id : String) (g : G2) : Prop := ∃ r, MtR X id r ∧ Lift2 X.K (fun x y H Q => r x [y] H Q) g
def dMt (g : G2) (da db : XE) : XE := fun es Q QX => da es (fun d1 es1 => d1.tyn = "str" ∧ db es1 (fun d2 es2 => g d1 d2 fun d => Q d es2) QX) QX
theorem Rp.isStr {K : PySem.W.Frag} {w : Ow} {H H2 : Hp} {v : V} {d : D} (h : Rp K (fz w H) H v d []) (e : d.tyn = "str") : tyV K "str" v H2 := by
  cases h <;> first | rfl | exact absurd e (by simp [D.tyn])
theorem x_m1 {id : String} {name : Str} {g : G2} {apos cpos : Pos} (m : M1 X id g) (slot : Slot "str" name id) (hty : typeOf (.builtin id) = pure (.type "method_descriptor")) (ha : PFX X a da) (hb : POX X b db)
    (hbase : attributeBase a name X.env (eval a X.env) = eval a X.env := by rfl)
    (hfew : ((backTo cpos (starEach [b] X.env)).all (fun x => !x.1) && (backToKw cpos (keywordEach [] X.env)).all (fun x => x.1.isSome) && decide ([b].length + ([] : List Keyword).length + (if ([] : List Keyword).isEmpty then 0 else 1) < 30)) = true := by rfl)
    (hline : (apos.endLine == cpos.line) = true := by rfl) (hs : starEach [b] X.env = (false, eval b X.env) :: starEach [] X.env := by rfl) (hpl : (backTo cpos (starEach [] X.env)).any (·.1) = false := by rfl) :
    PEX X (.Call (.Attribute a name apos) [b] [] cpos) (dMt g da db) := fun W tk => by
  obtain ⟨r, h1, l⟩ := m
  exact PE.weak (pe_bm PySem.F.plainAttrs_str slot hty h1 (ha W tk) (pa_cons (hb W tk) pa_nil hs) hbase hfew hline hs hpl) fun σ H Q ⟨w, es, R, RX, s, q, k, kx⟩ =>
    ⟨w, es, _, RX, s, q, fun d1 es1 v H1 w1 ⟨ed, q1⟩ s1 r1 f1 => ⟨r1.isStr ed, w1, es1, _, RX, s1, q1, fun d2 es2 v2 H2 w2 q2 s2 r2 f2 =>
      l w2 H2 v v2 d1 d2 _ _ s2.lv (f2.rpv r1) r2 q2 fun d v3 H3 g3 rs => by
        obtain ⟨w3, s3, h3, f3⟩ := rs.to s2
        exact k d es2 v3 H3 w3 g3 s3 h3 ((f1.trans f2).trans f3), kx.fr f1⟩, kx⟩
/-! join -/
def strsOf : List D → Option (List (List Nat))
  | [] => some []
  | .str s :: ds => (strsOf ds).map (s :: ·)
  | _ => none
def joinL (sep : List Nat) : List (List Nat) → List Nat
  | [] => []
  | x :: xs => x ++ (xs.map fun y => sep ++ y).flatten
theorem glue_fold (sep : List Nat) : ∀ (l : List (List Nat)) (acc : Array Nat), ((l.map S).foldl (fun acc p => acc ++ (S sep).cps ++ p.cps) acc).toList = acc.toList ++ (l.map fun y => sep ++ y).flatten
  | [], acc => by simp
  | x :: l, acc => by
    rw [List.map_cons, List.foldl_cons, glue_fold sep l]
    simp [S, List.append_assoc]
theorem join_S (sep : List Nat) (l : List (List Nat)) : Txt.join (S sep) (l.map S) = S (joinL sep l) := by
  cases l with
  | nil => rfl
  | cons x l =>
    show (⟨(l.map S).foldl (fun acc p => acc ++ (S sep).cps ++ p.cps) (S x).cps⟩ : Str) = _
    rw [← S_list ⟨_⟩]
    congr 1
    rw [glue_fold]
    rfl
theorem strs_rel {K : PySem.W.Frag} {F H : Hp} : ∀ {ds : List D} {vs : List V} {ss : List (List Nat)}, Rps K F H vs ds [] → strsOf ds = some ss → vs = (ss.map S).map V.str ∧ ∀ s ∈ ss, okS s
  | [], vs, ns, r, h => by
    cases h
    cases r
    exact ⟨rfl, by simp⟩
  | .str s :: ds, v :: vs, ns, r, h => by
    obtain ⟨r1, r2⟩ := r.uncons
    simp only [strsOf, Option.map_eq_some_iff] at h
    obtain ⟨ms, hm, rfl⟩ := h
    obtain ⟨e, z⟩ := strs_rel r2 hm
    cases r1 with
    | str s z1 => exact ⟨by rw [e]; rfl, fun t ht => (List.mem_cons.mp ht).elim (fun q => by rw [q]; exact z1) (z t)⟩
def gJoin : G2 := fun x y G => match x, y with
  | .str sep, .lst ds => ∃ ss, strsOf ds = some ss ∧ (ss.map (·.length)).sum + ss.length * sep.length ≤ sizeLine ∧ G (.str (joinL sep ss))
  | .str sep, .tup ds => ∃ ss, strsOf ds = some ss ∧ (ss.map (·.length)).sum + ss.length * sep.length ≤ sizeLine ∧ G (.str (joinL sep ss))
  | _, _ => False
theorem sum_flat : ∀ (l : List (List Nat)) (sep : List Nat), (l.map fun y => sep ++ y).flatten.length = (l.map (·.length)).sum + l.length * sep.length
  | [], sep => by simp
  | x :: l, sep => by
    rw [List.map_cons, List.flatten_cons, List.length_append, sum_flat l sep, List.map_cons, List.sum_cons, List.length_append, List.length_cons, Nat.succ_mul]
    omega
theorem joinL_len (sep : List Nat) (l : List (List Nat)) : (joinL sep l).length ≤ (l.map (·.length)).sum + l.length * sep.length := by
  cases l with
  | nil => simp [joinL]
  | cons x l =>
    show (x ++ (l.map fun y => sep ++ y).flatten).length ≤ _
    rw [List.length_append, sum_flat, List.map_cons, List.sum_cons, List.length_cons, Nat.succ_mul]
    omega
theorem joinL_mem {sep : List Nat} {l : List (List Nat)} {c : Nat} (h : c ∈ joinL sep l) : c ∈ sep ∨ ∃ x ∈ l, c ∈ x := by
  cases l with
  | nil => cases h
  | cons x l =>
    rcases List.mem_append.mp h with h | h
    · exact .inr ⟨x, List.mem_cons_self, h⟩
    · obtain ⟨y, hy, hc⟩ := List.mem_flatten.mp h
      obtain ⟨z, hz, rfl⟩ := List.mem_map.mp hy
      rcases List.mem_append.mp hc with hc | hc
      · exact .inl hc
      · exact .inr ⟨z, List.mem_cons_of_mem _ hz, hc⟩
theorem m_join : M1 X "str.join" gJoin := ⟨_, mt_join, fun w H x y d1 d2 G Q lv hx hy hg k => by
  have big : sizeLine = 16777216 := sizeLine_eq
  unfold gJoin at hg
  split at hg
  all_goals first | exact hg.elim | skip
  all_goals
    obtain ⟨ss, hs, hz, hg⟩ := hg
    obtain ⟨e1, z1⟩ := hx.str
  · obtain ⟨p, vs, rfl, hl, r⟩ := hy.lst
    obtain ⟨rfl, zs⟩ := strs_rel r hs
    refine ⟨_, p, ss.map S, e1, rfl, .inl (.inl (.inl hl)), ?_, ?_⟩
    · rw [List.map_map, List.length_map, S_len, show ((fun x : Str => x.length) ∘ S) = List.length from funext S_len, ← big]
      exact hz
    · rw [join_S]
      exact k _ _ H hg (.same (.str _ ⟨Nat.le_trans (joinL_len _ _) hz, fun c hc => (joinL_mem hc).elim (z1.2 c) fun ⟨x, hx, hcx⟩ => (zs x hx).2 c hcx⟩))
  · obtain ⟨p, vs, rfl, hl, r⟩ := hy.tup
    obtain ⟨rfl, zs⟩ := strs_rel r hs
    refine ⟨_, p, ss.map S, e1, rfl, .inr (.inl (.inl hl)), ?_, ?_⟩
    · rw [List.map_map, List.length_map, S_len, show ((fun x : Str => x.length) ∘ S) = List.length from funext S_len, ← big]
      exact hz
    · rw [join_S]
      exact k _ _ H hg (.same (.str _ ⟨Nat.le_trans (joinL_len _ _) hz, fun c hc => (joinL_mem hc).elim (z1.2 c) fun ⟨x, hx, hcx⟩ => (zs x hx).2 c hcx⟩))⟩
end


section
variable {K : PySem.W.Frag} {W : WX} {w w1 w2 : Ow} {H H1 H2 : Hp} {σ : L2.St} {es es1 es2 : List E} {v x y : V} {d d1 d2 : D} {RX : DX}
/-! ### stores -/
/-- the value at hand goes to the slot i -/
def give (w : Ow) (i : Nat) : Ow := fun a => if w a = some 1 then some (i + 2) else if w a = some (i + 2) then none else w a
theorem give_none {i : Nat} {a : Addr} (h : w a = none) : give w i a = none := by unfold give; rw [h]; simp
theorem give_1 {i : Nat} {a : Addr} (h : w a = some 1) : give w i a = some (i + 2) := by unfold give; rw [if_pos h]
theorem give_ne {i t : Nat} {a : Addr} (h : w a = some t) (h1 : t ≠ 1) (h2 : t ≠ i + 2) : give w i a = some t := by
  unfold give
  rw [if_neg (by rw [h]; simpa using h1), if_neg (by rw [h]; simpa using h2), h]
theorem give_from {i t : Nat} {a : Addr} (h : give w i a = some t) : ∃ u, w a = some u ∧ (u = 1 ∧ t = i + 2 ∨ u = t ∧ t ≠ 1 ∧ t ≠ i + 2) := by
  unfold give at h
  split at h
  · cases h
    exact ⟨1, by assumption, .inl ⟨rfl, rfl⟩⟩
  · split at h
    · cases h
    · refine ⟨t, h, .inr ⟨rfl, fun e => ?_, fun e => ?_⟩⟩
      · subst e; exact absurd h (by assumption)
      · subst e; exact absurd h (by assumption)
theorem give_fr {i : Nat} : Fr w H (give w i) H := ⟨fun _ _ h _ => h, fun a => ⟨fun h => give_ne h (by omega) (by omega), fun h => by
  obtain ⟨u, h1, ⟨_, h2⟩ | ⟨rfl, _⟩⟩ := give_from h
  · omega
  · exact h1⟩, fun a _ h => give_none h⟩
theorem give_fz {i : Nat} : ∀ a o, fz w H a = some o → fz (give w i) H a = some o := give_fr.fz
theorem Holds.give {i t : Nat} (h : Holds K w H t v d) (h1 : t ≠ 1) (h2 : t ≠ i + 2) : Holds K (give w i) H t v d := by
  obtain ⟨ps, r, nd, q⟩ := h
  exact ⟨ps, r.mono give_fz (fun _ _ _ h => h), nd, fun a ha => give_ne (q a ha) h1 h2⟩
/-- may the slot be stored to -/
def E.free : E → Bool
  | .bor _ _ => false
  | _ => true
theorem Stt.store {i : Nat} (s : Stt K w H σ es) (h : Holds K w H 1 v d) {e0 : E} (he : es[i]? = some e0) (hf : e0.free = true) : Stt K (RB.give w i) H (σ.set i (some v)) (es.set i (.val d)) where
  sl := fun j e hj => by
    rcases set_get hj with ⟨rfl, rfl⟩ | ⟨n, hj⟩
    · have hi : i < es.length := (List.getElem?_eq_some_iff.mp he).1
      have hi2 : i < σ.length := Nat.lt_of_lt_of_le hi s.ln
      refine ⟨v, by rw [List.getElem?_set_self hi2], ?_⟩
      obtain ⟨ps, r, nd, q⟩ := h
      exact ⟨ps, r.mono give_fz (fun _ _ _ h => h), nd, fun a ha => give_1 (q a ha)⟩
    · rw [List.getElem?_set_ne n]
      have z := s.sl j e hj
      cases e with
      | no => trivial
      | val d' => exact ⟨z.choose, z.choose_spec.1, z.choose_spec.2.give (by omega) (by omega)⟩
      | bor a d' => exact ⟨z.1, z.2.give (by omega) (by omega)⟩
  lv := fun a ha => by
    cases q : RB.give w i a with
    | none => exact absurd q ha
    | some t =>
      obtain ⟨u, h1, _⟩ := give_from q
      exact s.lv a (by rw [h1]; simp)
  ln := by rw [List.length_set, List.length_set]; exact s.ln
/-- what is owned by the slot i is a list of frozen things -/
def own (es : List E) (i : Nat) : Option (List D) := match es[i]? with
  | some (.val (.mlst ds)) => if ds.all D.fro then some ds else none
  | some (.bor _ (.mlst ds)) => if ds.all D.fro then some ds else none
  | _ => none
def setc (es : List E) (i : Nat) (d : D) : List E := match es[i]? with
  | some (.val _) => es.set i (.val d)
  | some (.bor a _) => es.set i (.bor a d)
  | _ => es
theorem Stt.own (s : Stt K w H σ es) {i : Nat} {ds : List D} (h : RB.own es i = some ds) : ∃ a vs, σ[i]? = some (some (.ref a)) ∧ w a = some (i + 2) ∧ H a = some (.lst vs) ∧ Rps K (fz w H) H vs ds [] := by
  unfold RB.own at h
  split at h
  · split at h
    · cases h
      rename_i he hf
      obtain ⟨v, e1, ps, r, nd, q⟩ := s.sl i _ he
      cases r with
      | mlst ha r =>
        have e := r.fro hf
        subst e
        exact ⟨_, _, e1, q _ List.mem_cons_self, ha, r⟩
    · cases h
  · split at h
    · cases h
      rename_i he hf
      obtain ⟨e1, ps, r, nd, q⟩ := s.sl i _ he
      cases r with
      | mlst ha r =>
        have e := r.fro hf
        subst e
        exact ⟨_, _, e1, q _ List.mem_cons_self, ha, r⟩
    · cases h
  · cases h
/-- its owner changes a list -/
theorem Stt.write {i : Nat} {a : Addr} {ds : List D} {vs : List V} (s : Stt K w H σ es) (he : ∃ ds0, RB.own es i = some ds0) (ha : σ[i]? = some (some (.ref a))) (hw : w a = some (i + 2)) (r : Rps K (fz w H) H vs ds []) :
    Stt K w (upd H a (.lst vs)) σ (setc es i (.mlst ds)) ∧ Fr w H w (upd H a (.lst vs)) := by
  have fzE : ∀ b o, fz w H b = some o → fz w (upd H a (.lst vs)) b = some o := fun b o h => by
    obtain ⟨h1, h2⟩ := fz_of h
    refine of_fz h1 ?_
    rw [upd_ne (fun e => by subst e; rw [hw] at h1; cases h1)]
    exact h2
  have fr : Fr w H w (upd H a (.lst vs)) := ⟨fun b o h c => by
    rw [upd_ne (fun e => by subst e; rw [hw] at c; rcases c with c | c <;> simp at c)]
    exact h, fun _ => Iff.rfl, fun _ _ h => h⟩
  have other : ∀ {t : Nat} {v : V} {d : D}, t ≠ i + 2 → Holds K w H t v d → Holds K w (upd H a (.lst vs)) t v d := by
    rintro t v d n ⟨ps, r, nd, q⟩
    refine ⟨ps, r.mono fzE fun b hb o ho => ?_, nd, q⟩
    rw [upd_ne (fun e => by subst e; have := q _ hb; rw [hw] at this; exact n (Option.some.inj this).symm)]
    exact ho
  have new : Holds K w (upd H a (.lst vs)) (i + 2) (.ref a) (.mlst ds) := ⟨[a], .mlst upd_same (r.mono fzE (by simp)), by simp, fun b hb => by
    have : b = a := by simpa using hb
    subst this
    exact hw⟩
  refine ⟨⟨fun j e hj => ?_, fun b hb => ?_, ?_⟩, fr⟩
  · obtain ⟨ds0, h0⟩ := he
    unfold setc at hj
    have keep : ∀ e', es[j]? = some e' → i ≠ j → SlotOk K w (upd H a (.lst vs)) j σ[j]? e' := fun e' he' n => by
      have z := s.sl j e' he'
      cases e' with
      | no => trivial
      | val d' => exact ⟨z.choose, z.choose_spec.1, other (by omega) z.choose_spec.2⟩
      | bor a d' => exact ⟨z.1, other (by omega) z.2⟩
    split at hj
    · rcases set_get hj with ⟨rfl, rfl⟩ | ⟨n, hj⟩
      · exact ⟨_, ha, new⟩
      · exact keep e hj n
    · rename_i b d he
      rcases set_get hj with ⟨rfl, rfl⟩ | ⟨n, hj⟩
      · have z := s.sl i _ he
        have e1 : σ[i]? = some (some (.ref b)) := z.1
        rw [ha] at e1
        cases e1
        exact ⟨ha, new⟩
      · exact keep e hj n
    · rename_i h1 h2
      exfalso
      unfold RB.own at h0
      split at h0
      · exact h1 _ (by assumption)
      · exact h2 _ _ (by assumption)
      · cases h0
  · by_cases e : b = a
    · subst e; rw [upd_same]; simp
    · rw [upd_ne e]; exact s.lv b hb
  · unfold setc
    split
    · rw [List.length_set]; exact s.ln
    · rw [List.length_set]; exact s.ln
    · exact s.ln
end

/-! ### lists changed by their methods -/
section
variable {X : Cx} {e a b : Expr} {d da db : XE}
/-- xs.append(e), as a value: None -/
def dAppend (i : Nat) (da : XE) : XE := fun es Q QX => (own es i).isSome = true ∧ da es (fun d es2 => ∃ ds, own es2 i = some ds ∧ ds.length < sizeLine ∧ d.fro = true ∧ Q .non (setc es2 i (.mlst (ds ++ [d])))) QX
theorem x_append {i : Nat} {apos cpos : Pos} (hv : PE X a (tVar i)) (hb : PFX X b db)
    (hbase : attributeBase a "append" X.env (eval a X.env) = eval a X.env := by rfl)
    (hfew : ((backTo cpos (starEach [b] X.env)).all (fun x => !x.1) && (backToKw cpos (keywordEach [] X.env)).all (fun x => x.1.isSome) && decide ([b].length + ([] : List Keyword).length + (if ([] : List Keyword).isEmpty then 0 else 1) < 30)) = true := by rfl)
    (hline : (apos.endLine == cpos.line) = true := by rfl) (hs : starEach [b] X.env = (false, eval b X.env) :: starEach [] X.env := by rfl) (hpl : (backTo cpos (starEach [] X.env)).any (·.1) = false := by rfl) :
    PFX X (.Call (.Attribute a "append" apos) [b] [] cpos) (dAppend i db) := fun W tk =>
  PE.weak (pe_bm PySem.F.plainAttrs_list PySem.F.slot_list_append PySem.F.type_list_append mt_append hv (pa_cons (hb W tk) pa_nil hs) hbase hfew hline hs hpl) fun σ H Q ⟨w, es, R, RX, s, ⟨o1, q⟩, k, kx⟩ => by
    obtain ⟨ds0, h0⟩ := Option.isSome_iff_exists.mp o1
    obtain ⟨p, vs0, e1, _, e3, _⟩ := s.own h0
    refine ⟨_, e1, .inl ⟨rfl, vs0, .inl (.inl e3)⟩, w, es, _, RX, s, q, fun dv es2 v H2 w2 ⟨ds, h2, hl, hf, hR⟩ s2 r2 f2 => ?_, kx⟩
    obtain ⟨p', vs, e1', hw, e3', r⟩ := s2.own h2
    rw [e1] at e1'
    cases e1'
    obtain ⟨s3, f3⟩ := s2.write ⟨_, h2⟩ e1 hw (r.append (.cons0 r2 .nil))
    exact ⟨p, vs, v, rfl, rfl, e3', by rw [r.length]; exact hl, k _ _ _ _ w2 hR s3 .non (f2.trans f3)⟩
/-- xs.pop() -/
def dPop (i : Nat) : XE := fun es Q _ => ∃ ds d, own es i = some ds ∧ ds[ds.length - 1]? = some d ∧ Q d (setc es i (.mlst ds.dropLast))
theorem Rps.dropL {K : PySem.W.Frag} {F H : Hp} {vs : List V} {ds : List D} (h : Rps K F H vs ds []) : Rps K F H vs.dropLast ds.dropLast [] := by
  rw [List.dropLast_eq_take, List.dropLast_eq_take, h.length]
  exact h.take _
theorem x_pop {i : Nat} {apos cpos : Pos} (hv : PE X a (tVar i)) (hbase : attributeBase a "pop" X.env (eval a X.env) = eval a X.env := by rfl) (hline : (apos.endLine == cpos.line) = true := by rfl) :
    PFX X (.Call (.Attribute a "pop" apos) [] [] cpos) (dPop i) := fun W tk =>
  PE.weak (pe_bm0 PySem.F.plainAttrs_list PySem.F.slot_list_pop PySem.F.type_list_pop mt_pop hv hbase hline) fun σ H Q ⟨w, es, R, RX, s, ⟨ds, d, h0, hd, hR⟩, k, kx⟩ => by
    obtain ⟨p, vs, e1, hw, e3, r⟩ := s.own h0
    obtain ⟨v, hv, rv⟩ := r.getD hd
    obtain ⟨s3, f3⟩ := s.write ⟨_, h0⟩ e1 hw r.dropL
    exact ⟨_, e1, .inl ⟨rfl, vs, .inl (.inl e3)⟩, p, vs, v, rfl, rfl, e3, by rw [r.length]; exact hv, k _ _ _ _ w hR s3 (f3.rp rv) f3⟩
end

/-! ### statements -/
section
variable {X : Cx} {e a b : Expr} {st : Stmt} {sts : List Stmt} {d da db : XE} {s t : XS} {pos : Pos}
def dNext : XS := fun D es => D.nx es
def dSeq (s t : XS) : XS := fun D es => s { D with nx := t D } es
theorem ss_nil : PSsX X [] dNext := fun _ W tk => PSs.weak pss_nil fun D σ H ⟨w, es, xd, s, q, h1, h2, h3, h4, h5⟩ => h1 _ _ _ _ q s .refl
theorem ss_cons (h1 : PSX X st s) (h2 : PSsX X sts t) : PSsX X (st :: sts) (dSeq s t) := fun hp W tk => PSs.weak (pss_cons (h1 hp W tk) (h2 hp W tk)) fun D σ H ⟨w, es, xd, st, q, k1, k2, k3, k4, k5⟩ =>
  ⟨w, es, _, st, q, fun es2 σ2 H2 w2 q2 s2 f2 => ⟨w2, es2, xd, s2, q2, fun es3 σ3 H3 w3 q3 s3 f3 => k1 _ _ _ _ q3 s3 (f2.trans f3), fun dv es3 v σ3 H3 w3 q3 s3 h3 f3 => k2 _ _ _ _ _ _ q3 s3 h3 (f2.trans f3),
    fun es3 σ3 H3 w3 q3 s3 f3 => k3 _ _ _ _ q3 s3 (f2.trans f3), fun es3 σ3 H3 w3 q3 s3 f3 => k4 _ _ _ _ q3 s3 (f2.trans f3), fun x es3 σ3 H3 w3 cls dd q3 s3 f3 i3 => k5 _ _ _ _ _ _ _ q3 s3 (f2.trans f3) i3⟩, k2, k3, k4, k5⟩
theorem ss_one (h1 : PSX X st s) : PSsX X [st] s := fun hp W tk => pss_one (h1 hp W tk)
theorem s_pass : PSX X (.Pass pos) dNext := fun _ W tk => PS.weak ps_pass fun D σ H ⟨w, es, xd, s, q, h1, h2, h3, h4, h5⟩ => h1 _ _ _ _ q s .refl
def dBreak : XS := fun D es => D.bk es
def dCont : XS := fun D es => D.ct es
theorem s_break : PSX X (.Break pos) dBreak := fun _ W tk => PS.weak ps_break fun D σ H ⟨w, es, xd, s, q, h1, h2, h3, h4, h5⟩ => h3 _ _ _ _ q s .refl
theorem s_cont : PSX X (.Continue pos) dCont := fun _ W tk => PS.weak ps_continue fun D σ H ⟨w, es, xd, s, q, h1, h2, h3, h4, h5⟩ => h4 _ _ _ _ q s .refl
def dExpr (da : XE) : XS := fun D es => da es (fun _ es2 => D.nx es2) D.xn
theorem xok_of {K : PySem.W.Frag} {W : WX} {w : Ow} {H : Hp} {σ : L2.St} {xn : DX} (k5 : ∀ x es2 σ2 H2 w2 cls dd, xn x es2 → Stt K w2 H2 σ2 es2 → Fr w H w2 H2 → IsX K w2 H2 x cls dd → W cls dd σ2 H2) : XOk K W w H σ xn :=
  fun x es2 H2 w2 cls dd r s f i => k5 x es2 σ H2 w2 cls dd r s f i
theorem s_expr (h : PEX X e da) (hs : swapsWith e none pos.line X.env = pure false := by rfl) : PSX X (.Expr e pos) (dExpr da) := fun _ W tk => PS.weak (ps_expr (h W tk) hs) fun D σ H ⟨w, es, xd, s, q, h1, h2, h3, h4, h5⟩ =>
  ⟨w, es, _, _, s, q, fun dv es2 v H2 w2 hR s2 _ f2 => h1 _ _ _ _ hR s2 f2, xok_of h5⟩
def dRet (da : XE) : XS := fun D es => da es (fun d es2 => D.rt d es2) D.xn
theorem s_ret (h : PEX X e da) : PSX X (.Return (some e) pos) (dRet da) := fun _ W tk => PS.weak (ps_ret (h W tk)) fun D σ H ⟨w, es, xd, s, q, h1, h2, h3, h4, h5⟩ =>
  ⟨w, es, _, _, s, q, fun dv es2 v H2 w2 hR s2 hh f2 => h2 _ _ _ _ _ _ hR s2 hh f2, xok_of h5⟩
def dRetN : XS := fun D es => D.rt .non es
theorem s_retN : PSX X (.Return none pos) dRetN := fun _ W tk => PS.weak ps_retN fun D σ H ⟨w, es, xd, s, q, h1, h2, h3, h4, h5⟩ => h2 _ _ _ _ _ _ q s (.of .non) .refl
/-- `return xs`, xs a list of the def's own: it goes out as it is -/
def dRetV (i : Nat) : XS := fun D es => ∃ d, es[i]? = some (.val d) ∧ D.rt d (es.set i .no)
theorem s_retV {i : Nat} (h : PE X e (tVar i)) : PSX X (.Return (some e) pos) (dRetV i) := fun _ W tk => PS.weak (ps_ret h) fun D σ H ⟨w, es, xd, s, ⟨d, hd, q⟩, h1, h2, h3, h4, h5⟩ => by
  obtain ⟨v, e1, ps, r, nd, hq⟩ := s.sl i _ hd
  -- what the slot owned is the value at hand now
  let w' : Ow := fun a => if w a = some (i + 2) then some 1 else if w a = some 1 then none else w a
  have wn : ∀ a, w a = none → w' a = none := fun a h => by show (if _ then _ else _) = _; rw [h]; simp
  have ws : ∀ a, w a = some (i + 2) → w' a = some 1 := fun a h => by show (if _ then _ else _) = _; rw [if_pos h]
  have wo : ∀ a t, w a = some t → t ≠ i + 2 → t ≠ 1 → w' a = some t := fun a t h n1 n2 => by
    show (if _ then _ else _) = _
    rw [if_neg (by rw [h]; simpa using n1), if_neg (by rw [h]; simpa using n2), h]
  have fr : Fr w H w' H := ⟨fun _ _ h _ => h, fun a => ⟨fun h => wo a 0 h (by omega) (by omega), fun h => by
    have h' : (if w a = some (i + 2) then some 1 else if w a = some 1 then none else w a) = some 0 := h
    split at h'
    · cases h'
    · split at h'
      · cases h'
      · exact h'⟩, fun a _ h => wn a h⟩
  refine ⟨v, e1, h2 _ _ _ _ _ w' q ⟨fun j e0 hj => ?_, fun a ha => s.lv a fun z => ha (wn a z), by rw [List.length_set]; exact s.ln⟩ ⟨ps, r.mono fr.fz (fun _ _ _ h => h), nd, fun a ha => ws a (hq a ha)⟩ fr⟩
  rcases set_get hj with ⟨rfl, rfl⟩ | ⟨n, hj⟩
  · trivial
  · have z := s.sl j e0 hj
    have mv : ∀ {v d}, Holds X.K w H (j + 2) v d → Holds X.K w' H (j + 2) v d := by
      rintro v d ⟨ps, r, nd, q⟩
      exact ⟨ps, r.mono fr.fz (fun _ _ _ h => h), nd, fun a ha => wo a _ (q a ha) (by omega) (by omega)⟩
    cases e0 with
    | no => trivial
    | val d' => exact ⟨z.choose, z.choose_spec.1, mv z.choose_spec.2⟩
    | bor a d' => exact ⟨z.1, mv z.2⟩
def dIfS (c : XT) (s t : XS) : XS := fun D es => c es (fun b es2 => if b = true then s D es2 else t D es2) D.xn
theorem s_if {c : Expr} {sa sb : List Stmt} {ct : XT} (hc : PTX X c ct) (ha : PSsX X sa s) (hb : PSsX X sb t) : PSX X (.If c sa sb pos) (dIfS ct s t) := fun hp W tk => PS.weak (ps_if (hc W tk) (ha hp W tk) (hb hp W tk)) fun D σ H ⟨w, es, xd, st, q, k1, k2, k3, k4, k5⟩ =>
  ⟨w, es, _, _, st, q, fun b es2 H2 w2 hR s2 f2 => by
    have go : ∀ u : XS, u xd es2 → upS X.K W u D σ H2 := fun u hu => ⟨w2, es2, xd, s2, hu, fun es3 σ3 H3 w3 q3 s3 f3 => k1 _ _ _ _ q3 s3 (f2.trans f3), fun dv es3 v σ3 H3 w3 q3 s3 h3 f3 => k2 _ _ _ _ _ _ q3 s3 h3 (f2.trans f3),
      fun es3 σ3 H3 w3 q3 s3 f3 => k3 _ _ _ _ q3 s3 (f2.trans f3), fun es3 σ3 H3 w3 q3 s3 f3 => k4 _ _ _ _ q3 s3 (f2.trans f3), fun x es3 σ3 H3 w3 cls dd q3 s3 f3 i3 => k5 _ _ _ _ _ _ _ q3 s3 (f2.trans f3) i3⟩
    cases b with
    | true =>
      rw [if_pos rfl] at hR
      show upS X.K W s D σ H2
      exact go s hR
    | false =>
      rw [if_neg Bool.false_ne_true] at hR
      show upS X.K W t D σ H2
      exact go t hR, xok_of k5⟩
/-- x = e -/
def dSet (i : Nat) (da : XE) : XS := fun D es => da es (fun d es2 => ∃ e0, es2[i]? = some e0 ∧ e0.free = true ∧ D.nx (es2.set i (.val d))) D.xn
theorem s_asg {K : PySem.W.Frag} {W : WX} {i : Nat} {D : Ends} {σ : L2.St} {H : Hp} (h : upS K W (dSet i da) D σ H) : tAsg (up K W da) (gName i) D σ H := by
  obtain ⟨w, es, xd, s, q, h1, h2, h3, h4, h5⟩ := h
  exact ⟨w, es, _, _, s, q, fun dv es2 v H2 w2 ⟨e0, he, hf, hR⟩ s2 hh f2 => h1 _ _ _ _ hR (s2.store hh he hf) (f2.trans give_fr), xok_of h5⟩
theorem s_set {i : Nat} {x : Str} {pos' : Pos} (hN : X.N.Nodup) (hi : X.N[i]? = some x) (hx : Loc X.env.scope x) (he : PEX X e da) (hs : swapsWith e (some (.Name x pos')) pos.line X.env = pure false := by rfl)
    (hf : X.fn x = true ∨ X.env.scope.names.lookup x = some .local := by first | exact .inl rfl | exact .inr rfl) : PSX X (.Assign [.Name x pos'] e pos) (dSet i da) := fun _ W tk => PS.weak (ps_set hN hi hx (he W tk) hs hf) fun D σ H h => s_asg h
end


/-! ### targets of a frozen value -/
abbrev XG := D → List E → (List E → Prop) → Prop
def upG (K : PySem.W.Frag) (g : XG) : TG := fun v σ H Q => ∃ w es d R, Stt K w H σ es ∧ Rp K (fz w H) H v d [] ∧ g d es R ∧ (∀ es2 σ2 H2 w2, R es2 → Stt K w2 H2 σ2 es2 → Fr w H w2 H2 → Q σ2 H2)
def PGX (X : Cx) (e : Expr) (g : XG) : Prop := PG X e (upG X.K g)
abbrev XGs := List D → List E → (List E → Prop) → Prop
def upGs (K : PySem.W.Frag) (g : XGs) : TGs := fun vs σ H Q => ∃ w es ds R, Stt K w H σ es ∧ Rps K (fz w H) H vs ds [] ∧ g ds es R ∧ (∀ es2 σ2 H2 w2, R es2 → Stt K w2 H2 σ2 es2 → Fr w H w2 H2 → Q σ2 H2)
def PGsX (X : Cx) (es : List Expr) (g : XGs) : Prop := PGs X es (upGs X.K g)
theorem PG.weak {X : Cx} {e : Expr} {t t' : TG} (h : PG X e t) (k : ∀ v σ H Q, t' v σ H Q → t v σ H Q) : PG X e t' := ⟨fun pins s σ H v u Q I r q => h.run pins s σ H v u Q I r (k _ _ _ _ q)⟩
theorem PGs.weak {X : Cx} {e : List Expr} {t t' : TGs} (h : PGs X e t) (k : ∀ v σ H Q, t' v σ H Q → t v σ H Q) : PGs X e t' := ⟨fun pins s σ H v u Q I r q => h.run pins s σ H v u Q I r (k _ _ _ _ q)⟩
section
variable {X : Cx} {e : Expr} {pos : Pos}
def kName (i : Nat) : XG := fun d es Q => ∃ e0, es[i]? = some e0 ∧ e0.free = true ∧ Q (es.set i (.val d))
theorem g_name {i : Nat} {x : Str} (hN : X.N.Nodup) (hi : X.N[i]? = some x) (hx : Loc X.env.scope x) (hf : X.fn x = true ∨ X.env.scope.names.lookup x = some .local := by first | exact .inl rfl | exact .inr rfl) : PGX X (.Name x pos) (kName i) :=
  PG.weak (pg_name hN hi hx hf) fun v σ H Q ⟨w, es, d, R, s, r, ⟨e0, he, hf, q⟩, k⟩ => k _ _ _ _ q (s.store (.of r) he hf) give_fr
def ksNil : XGs := fun ds es Q => ds = [] ∧ Q es
def ksCons (g : XG) (gs : XGs) : XGs := fun ds es Q => ∃ d r, ds = d :: r ∧ g d es fun es2 => gs r es2 Q
theorem gs_nil : PGsX X [] ksNil := PGs.weak pgs_nil fun v σ H Q ⟨w, es, ds, R, s, r, ⟨e, q⟩, k⟩ => by
  subst e
  cases r
  exact ⟨rfl, k _ _ _ _ q s .refl⟩
theorem gs_cons {es : List Expr} {g : XG} {gs : XGs} (h1 : PGX X e g) (h2 : PGsX X es gs) (hs : (assignEach (e :: es) X.env).map (·.2) = assign e X.env :: (assignEach es X.env).map (·.2) := by rfl) : PGsX X (e :: es) (ksCons g gs) :=
  PGs.weak (pgs_cons h1 h2 hs) fun vs σ H Q ⟨w, es, ds, R, s, r, ⟨d, ds2, ed, q⟩, k⟩ => by
    subst ed
    cases vs with
    | nil => exact absurd r.length (by simp)
    | cons v vs =>
      obtain ⟨r1, r2⟩ := r.uncons
      exact ⟨v, vs, rfl, w, es, d, _, s, r1, q, fun es2 σ2 H2 w2 q2 s2 f2 => ⟨w2, es2, ds2, R, s2, f2.rps r2, q2, fun es3 σ3 H3 w3 q3 s3 f3 => k _ _ _ _ q3 s3 (f2.trans f3)⟩⟩
def kTup (n : Nat) (gs : XGs) : XG := fun d es Q => ∃ ds, d = .tup ds ∧ ds.length = n ∧ gs ds es Q
theorem g_tup {es : List Expr} {k n : Nat} {gs : XGs} (hc : X.calm = true) (h : PGsX X es gs) (hn : (assignEach es X.env).length = n := by rfl) (hst : (assignEach es X.env).findIdx? (·.1) = none := by rfl) : PGX X (.Tuple es k pos) (kTup n gs) :=
  PG.weak (pg_tup hc h hn hst) fun v σ H Q ⟨w, es, d, R, s, r, ⟨ds, ed, el, q⟩, k⟩ => by
    subst ed
    cases r with
    | tup ha r => exact ⟨_, _, rfl, .inl (.inl (fz_sub ha)), by rw [r.length]; exact el, w, es, ds, R, s, r, q, k⟩
/-- a, b = e, e a frozen tuple -/
def dAsgG (da : XE) (g : XG) : XS := fun D es => da es (fun d es2 => g d es2 D.nx) D.xn
theorem s_asgG {tg : Expr} {da : XE} {g : XG} (he : PFX X e da) (hg : PGX X tg g) (hs : swapsWithSole [tg] e pos.line X.env = pure false := by rfl) (hw : swappedStores [tg] e X.env = pure none := by rfl) (h1 : (assignEach [tg] X.env).map (·.2) = [assign tg X.env] := by rfl) : PSX X (.Assign [tg] e pos) (dAsgG da g) := fun _ W tk =>
  PS.weak (ps_asg (he W tk) hg hs hw h1) fun D σ H ⟨w, es, xd, s, q, h1, h2, h3, h4, h5⟩ => ⟨w, es, _, _, s, q, fun dv es2 v H2 w2 hR s2 r2 f2 =>
    ⟨w2, es2, dv, _, s2, r2, hR, fun es3 σ3 H3 w3 q3 s3 f3 => h1 _ _ _ _ q3 s3 (f2.trans f3)⟩, xok_of h5⟩
/-- xs[k] = e, xs a name's own list -/
def dPut (i : Nat) (dk da : XE) : XS := fun D es => da es (fun d es1 => (own es1 i).isSome = true ∧ dk es1 (fun k es2 => ∃ ds z j, own es2 i = some ds ∧ k = .int z ∧ ixN ds.length z = some j ∧ d.fro = true ∧ D.nx (setc es2 i (.mlst (ds.set j d)))) D.xn) D.xn
theorem s_put {a b : Expr} {i : Nat} {dk da : XE} {p2 : Pos} (he : PFX X e da) (hv : PE X a (tVar i)) (hk : POX X b dk) (hg : ∀ {to ti : TE}, PE X a to → PE X b ti → PG X (.Subscript a b p2) (gSub to ti rSetL))
    (hs : swapsWithSole [.Subscript a b p2] e pos.line X.env = pure false := by rfl) (hw : swappedStores [.Subscript a b p2] e X.env = pure none := by rfl) : PSX X (.Assign [.Subscript a b p2] e pos) (dPut i dk da) := fun _ W tk =>
  PS.weak (ps_asg (he W tk) (hg hv (hk W tk)) hs hw) fun D σ H ⟨w, es, xd, s, q, h1, h2, h3, h4, h5⟩ => ⟨w, es, _, _, s, q, fun dv es1 v H1 w1 ⟨o1, hR⟩ s1 r1 f1 => by
    obtain ⟨ds0, h0⟩ := Option.isSome_iff_exists.mp o1
    obtain ⟨p, vs0, e1, _, _, _⟩ := s1.own h0
    refine ⟨_, e1, w1, es1, _, _, s1, hR, fun kv es2 vk H2 w2 ⟨ds, z, j, g2, ek, ej, hf, hR2⟩ s2 r2 f2 => ?_, (xok_of h5).fr f1⟩
    subst ek
    obtain ⟨p', vs, e1', hw, e3, r⟩ := s2.own g2
    rw [e1] at e1'
    cases e1'
    obtain ⟨s3, f3⟩ := s2.write ⟨_, g2⟩ e1 hw (r.set j (f2.rp r1))
    exact ⟨p, vs, z, j, rfl, r2.int, e3, by rw [r.length]; exact ej, h1 _ _ _ _ hR2 s3 ((f1.trans f2).trans f3)⟩, xok_of h5⟩
/-- x += e, rangeD -/
def dAug (i : Nat) (f : Int → Int → Int) (da : XE) : XS := fun D es => ∃ n, es[i]? = some (.val (.int n)) ∧ da es (fun d es2 => ∃ m e0, d = .int m ∧ es2[i]? = some e0 ∧ e0.free = true ∧ D.nx (es2.set i (.val (.int (f n m))))) D.xn
theorem s_aug {st : Stmt} {i : Nat} {op : Operator} {f : Int → Int → Int} {da : XE} (ho : PIp X op (ipI f)) (h : ∀ {te : TE}, PE X e te → PS X st (tAug i te (ipI f))) (he : POX X e da) : PSX X st (dAug i f da) := fun _ W tk =>
  PS.weak (h (he W tk)) fun D σ H ⟨w, es, xd, s, ⟨n, hn, q⟩, h1, h2, h3, h4, h5⟩ => by
    obtain ⟨v, e1, hv⟩ := s.sl i _ hn
    have r := hv.fro rfl
    cases r
    refine ⟨_, e1, w, es, _, _, s, q, fun dv es2 v H2 w2 ⟨m, e0, em, he0, hf, hR⟩ s2 r2 f2 => ?_, xok_of h5⟩
    subst em
    exact ⟨n, m, rfl, r2.int, h1 _ _ _ _ hR (s2.store (.of (.int _)) he0 hf) (f2.trans give_fr)⟩

/-! ### what is walked -/
/-- J yields ds, whatever else happens meanwhile -/
def Goes (K : PySem.W.Frag) (J : It) (ds : List D) (w : Ow) (H : Hp) : Prop := ∀ w' H', (∀ a o, fz w H a = some o → fz w' H' a = some o) → (∀ a, w' a ≠ none → H' a ≠ none) → ∀ i,
  (∀ d, ds[i]? = some d → J.go i H' ∧ ∀ x H3, J.yld i H' x H3 → (∀ a o, H' a = some o → H3 a = some o) ∧ Rp K (fz w' H3) H3 x d []) ∧ (i = ds.length → J.stop i H')
abbrev XI := List E → (List D → List E → Prop) → DX → Prop
def upI (K : PySem.W.Frag) (W : WX) (d : XI) : TI := fun σ H R => ∃ w es Q QX, Stt K w H σ es ∧ d es Q QX ∧ (∀ ds es2 J H2 w2, Q ds es2 → Stt K w2 H2 σ es2 → Fr w H w2 H2 → Goes K J ds w2 H2 → R J H2) ∧ XOk K W w H σ QX
def PIX (X : Cx) (tg iter : Expr) (d : XI) : Prop := ∀ W, Takes X W → PI X tg iter (upI X.K W d)
theorem PI.weak {tg : Expr} {t t' : TI} (h : PI X tg e t) (k : ∀ σ H R, t' σ H R → t σ H R) : PI X tg e t' := ⟨fun pins s σ H R I q => h.run pins s σ H R I (k σ H R q)⟩
def iLst (da : XE) : XI := fun es Q QX => da es (fun d es2 => ∃ ds, (d = .lst ds ∨ d = .kst ds) ∧ Q ds es2) QX
def iTp (da : XE) : XI := fun es Q QX => da es (fun d es2 => ∃ ds, (d = .tup ds ∨ d = .ktp ds) ∧ Q ds es2) QX
def iSt (da : XE) : XI := fun es Q QX => da es (fun d es2 => ∃ s, d = .str s ∧ Q (chars s) es2) QX
def rangeD (lo : Int) (n : Nat) : List D := (List.range n).map fun (k : Nat) => D.int (lo + k)
def iRn (da : XE) : XI := fun es Q QX => da es (fun d es2 => ∃ j, d = .int j ∧ -(2 ^ 62) ≤ j ∧ j < 2 ^ 62 ∧ Q (rangeD 0 j.toNat) es2) QX
theorem goes_list {K : PySem.W.Frag} {w : Ow} {H : Hp} {a : Addr} {vs : List V} {ds : List D} (h : SqL K (fz w H) a vs) (r : Rps K (fz w H) H vs ds []) : Goes K (Itl K a) ds w H := fun w' H' f lv i => by
  have h' : SqL K H' a vs := sl_ex (fun _ _ q => fz_sub q) (sl_ex f h)
  refine ⟨fun d hd => ?_, fun e => ⟨vs, h', by rw [r.length]; omega⟩⟩
  obtain ⟨v, hv, rv⟩ := r.getD hd
  refine ⟨⟨vs, v, h', hv⟩, fun x H3 ⟨e, y⟩ => ?_⟩
  subst e
  have ex := y vs h'
  rw [hv] at ex
  cases ex
  exact ⟨fun _ _ q => q, rv.mono f (by simp)⟩
theorem goes_tup {K : PySem.W.Frag} {w : Ow} {H : Hp} {a : Addr} {vs : List V} {ds : List D} (h : SqT K (fz w H) a vs) (r : Rps K (fz w H) H vs ds []) : Goes K (Itt K a) ds w H := fun w' H' f lv i => by
  have h' : SqT K H' a vs := st_ex (fun _ _ q => fz_sub q) (st_ex f h)
  refine ⟨fun d hd => ?_, fun e => ⟨vs, h', by rw [r.length]; omega⟩⟩
  obtain ⟨v, hv, rv⟩ := r.getD hd
  refine ⟨⟨vs, v, h', hv⟩, fun x H3 ⟨e, y⟩ => ?_⟩
  subst e
  have ex := y vs h'
  rw [hv] at ex
  cases ex
  exact ⟨fun _ _ q => q, rv.mono f (by simp)⟩
theorem i_lst {tg : Expr} {da : XE} (h : PFX X e da) : PIX X tg e (iLst da) := fun W tk => PI.weak (pi_list (h W tk)) fun σ H R ⟨w, es, Q, QX, s, q, k, kx⟩ => ⟨w, es, _, QX, s, q, fun dv es2 v H2 w2 ⟨ds, ed, hR⟩ s2 r2 f2 => by
  rcases ed with rfl | rfl
  · cases r2 with
    | lst ha r => exact ⟨_, rfl, ⟨_, .inl (.inl (fz_sub ha))⟩, k _ _ _ _ w2 hR s2 f2 (goes_list (.inl (.inl ha)) r)⟩
  · cases r2 with
    | kst ha r => exact ⟨_, rfl, ⟨_, sl_ex (fun _ _ q => fz_sub q) ha⟩, k _ _ _ _ w2 hR s2 f2 (goes_list ha r)⟩, kx⟩
theorem i_tup {tg : Expr} {da : XE} (h : PFX X e da) : PIX X tg e (iTp da) := fun W tk => PI.weak (pi_tup (h W tk)) fun σ H R ⟨w, es, Q, QX, s, q, k, kx⟩ => ⟨w, es, _, QX, s, q, fun dv es2 v H2 w2 ⟨ds, ed, hR⟩ s2 r2 f2 => by
  rcases ed with rfl | rfl
  · cases r2 with
    | tup ha r => exact ⟨_, rfl, ⟨_, .inl (.inl (fz_sub ha))⟩, k _ _ _ _ w2 hR s2 f2 (goes_tup (.inl (.inl ha)) r)⟩
  · cases r2 with
    | ktp ha r => exact ⟨_, rfl, ⟨_, st_ex (fun _ _ q => fz_sub q) ha⟩, k _ _ _ _ w2 hR s2 f2 (goes_tup ha r)⟩, kx⟩
theorem goes_str {K : PySem.W.Frag} {w : Ow} {H : Hp} {s : List Nat} (z : okS s) : Goes K (Its (S s)) (chars s) w H := fun w' H' f lv i => by
  have e : (S s).cps.size = s.length := List.size_toArray
  refine ⟨fun d hd => ?_, fun ei => by show (S s).cps.size ≤ i; rw [e, ei, chars, List.length_map]; exact Nat.le_refl _⟩
  unfold chars at hd
  rw [List.getElem?_map] at hd
  cases q : s[i]? with
  | none => rw [q] at hd; cases hd
  | some c =>
    rw [q] at hd
    cases hd
    have hi : i < s.length := (List.getElem?_eq_some_iff.mp q).1
    refine ⟨by show i < (S s).cps.size; rw [e]; exact hi, fun x H3 ⟨eH, c', hc', ex⟩ => ?_⟩
    subst eH
    have : (S s).cps[i]? = s[i]? := by simp [S]
    rw [this, q] at hc'
    cases hc'
    subst ex
    exact ⟨fun _ _ q => q, .str [c] ⟨by rw [sizeLine_eq]; simp, fun x hx => by
      have : x = c := by simpa using hx
      subst this
      exact z.2 _ (List.mem_of_getElem? q)⟩⟩
theorem i_str {tg : Expr} {da : XE} (h : POX X e da) : PIX X tg e (iSt da) := fun W tk => PI.weak (pi_str (h W tk)) fun σ H R ⟨w, es, Q, QX, s, q, k, kx⟩ => ⟨w, es, _, QX, s, q, fun dv es2 v H2 w2 ⟨t, ed, hR⟩ s2 r2 f2 => by
  subst ed
  obtain ⟨e, z⟩ := r2.str
  exact ⟨_, e, k _ _ _ _ w2 hR s2 f2 (goes_str z)⟩, kx⟩
theorem goes_range {K : PySem.W.Frag} {w : Ow} {H : Hp} {lo : Int} {n : Nat} : Goes K (Itr lo n) (rangeD lo n) w H := fun w' H' f lv i => by
  refine ⟨fun d hd => ?_, fun ei => by show n ≤ i; rw [ei, rangeD, List.length_map, List.length_range]; exact Nat.le_refl _⟩
  unfold rangeD at hd
  rw [List.getElem?_map] at hd
  cases q : (List.range n)[i]? with
  | none => rw [q] at hd; cases hd
  | some c =>
    rw [q] at hd
    cases hd
    obtain ⟨hi, hc⟩ := List.getElem?_eq_some_iff.mp q
    rw [List.length_range] at hi
    rw [List.getElem_range] at hc
    subst hc
    refine ⟨hi, fun x H3 ⟨eH, ex⟩ => ?_⟩
    subst eH ex
    exact ⟨fun _ _ q => q, .int _⟩
theorem i_rng1 {tg a : Expr} {da : XE} (h : POX X a da) (hp : ∀ {ta : TA}, PA X [a] ta → PI X tg e (iRng1 ta)) (hs : starEach [a] X.env = (false, eval a X.env) :: starEach [] X.env := by rfl) : PIX X tg e (iRn da) := fun W tk =>
  PI.weak (hp (pa_cons (h W tk) pa_nil hs)) fun σ H R ⟨w, es, Q, QX, s, q, k, kx⟩ => ⟨w, es, _, QX, s, q, fun dv es2 v H2 w2 ⟨j, ed, h1, h2, hR⟩ s2 r2 f2 => by
    subst ed
    exact ⟨j, by rw [r2.int], h1, h2, k _ _ _ _ w2 hR s2 f2 goes_range⟩, kx⟩
/-- range(a, b) -/
def iRn2 (da db : XE) : XI := fun es Q QX => da es (fun d es2 => ∃ i, d = .int i ∧ db es2 (fun d2 es3 => ∃ j, d2 = .int j ∧ (-(2 ^ 62) ≤ i ∧ i < 2 ^ 62 ∧ -(2 ^ 62) ≤ j ∧ j < 2 ^ 62) ∧ Q (rangeD i (j - i).toNat) es3) QX) QX
theorem i_rng2 {tg a b : Expr} {da db : XE} (h : PFX X a da) (hb : POX X b db) (hp : ∀ {ta : TA}, PA X [a, b] ta → PI X tg e (iRng2 ta)) (hs : starEach [a, b] X.env = (false, eval a X.env) :: starEach [b] X.env := by rfl) (hs2 : starEach [b] X.env = (false, eval b X.env) :: starEach [] X.env := by rfl) : PIX X tg e (iRn2 da db) := fun W tk =>
  PI.weak (hp (pa_cons (h W tk) (pa_cons (hb W tk) pa_nil hs2) hs)) fun σ H R ⟨w, es, Q, QX, s, q, k, kx⟩ => ⟨w, es, _, QX, s, q, fun dv es2 v H2 w2 ⟨i, ed, q2⟩ s2 r2 f2 => by
    subst ed
    refine ⟨w2, es2, _, QX, s2, q2, fun dv es3 v3 H3 w3 ⟨j, ed, hj, hR⟩ s3 r3 f3 => ?_, kx.fr f2⟩
    subst ed
    have e1 : v = .int i := by cases r2; rfl
    exact ⟨i, j, by rw [e1, r3.int], hj, k _ _ _ _ w3 hR s3 (f2.trans f3) goes_range⟩, kx⟩

/-! ### loops -/
def dFor (it : XI) (g : XG) (tb : XS) : XS := fun D es => it es (fun ds es2 => ∃ I : Nat → List E → Prop, I 0 es2 ∧ (∀ i d es, ds[i]? = some d → I i es → g d es fun es3 => tb { D with nx := I (i + 1), ct := I (i + 1), bk := D.nx } es3) ∧ ∀ es, I ds.length es → D.nx es) D.xn
theorem s_for {tg iter : Expr} {body : List Stmt} {it : XI} {g : XG} {tb : XS} (hc : X.calm = true) (hi : PIX X tg iter it) (hg : PGX X tg g) (hb : PSsX X body tb) (hs : ∀ x, foldedSetIterable iter X.env x = pure x := by intro _; rfl) :
    PSX X (.For tg iter body [] pos) (dFor it g tb) := fun hp W tk => PS.weak (ps_for hp hc (hi W tk) hg (hb hp W tk) hs) fun D σ H ⟨w, es, xd, s, q, k1, k2, k3, k4, k5⟩ =>
  ⟨w, es, _, _, s, q, fun ds es2 J H2 w2 ⟨I, i0, turn, done⟩ s2 f2 go => by
    refine ⟨fun i m σ' H' => m = ds.length - i ∧ i ≤ ds.length ∧ ∃ w' es', Stt X.K w' H' σ' es' ∧ Fr w2 H2 w' H' ∧ I i es', ⟨ds.length, by simp, Nat.zero_le _, w2, es2, s2, .refl, i0⟩, ?_⟩
    rintro i m σ' H' ⟨rfl, hi, w', es', s', f', hI⟩
    have gg := go w' H' f'.fz s'.lv i
    by_cases hlt : i < ds.length
    · obtain ⟨g1, g2⟩ := gg.1 _ (List.getElem?_eq_getElem hlt)
      refine .inr ⟨g1, fun σ3 H3 => ∃ w3 es3, Stt X.K w3 H3 σ3 es3 ∧ Fr w2 H2 w3 H3 ∧ I (i + 1) es3, fun σ3 H3 z => ⟨ds.length - (i + 1), by omega, rfl, hlt, z⟩, fun x H3 y => ?_⟩
      obtain ⟨k3', r3⟩ := g2 x H3 y
      have f3 : Fr w' H' w' H3 := .new k3'
      refine ⟨w', es', ds[i], _, s'.grow k3', r3, turn i _ es' (List.getElem?_eq_getElem hlt) hI, fun es4 σ4 H4 w4 q4 s4 f4 => ?_⟩
      have fa : Fr w2 H2 w4 H4 := (f'.trans f3).trans f4
      exact ⟨w4, es4, _, s4, q4, fun es5 σ5 H5 w5 q5 s5 f5 => ⟨w5, es5, s5, fa.trans f5, q5⟩, fun dv es5 v σ5 H5 w5 q5 s5 h5 f5 => k2 _ _ _ _ _ _ q5 s5 h5 (f2.trans (fa.trans f5)),
        fun es5 σ5 H5 w5 q5 s5 f5 => k1 _ _ _ _ q5 s5 (f2.trans (fa.trans f5)), fun es5 σ5 H5 w5 q5 s5 f5 => ⟨w5, es5, s5, fa.trans f5, q5⟩, fun x es5 σ5 H5 w5 cls dd q5 s5 f5 i5 => k5 _ _ _ _ _ _ _ q5 s5 (f2.trans (fa.trans f5)) i5⟩
    · have e : i = ds.length := by omega
      subst e
      exact .inl ⟨gg.2 rfl, k1 _ _ _ _ (done _ hI) s' (f2.trans f')⟩, xok_of k5⟩
/-- while, by a word of the state and a number that falls -/
def dWhile (c : XT) (tb : XS) : XS := fun D es => ∃ I : Nat → List E → Prop, (∃ m, I m es) ∧ ∀ m es, I m es → c es (fun b es2 => if b = true then tb { D with nx := fun e => ∃ m', m' < m ∧ I m' e, ct := fun e => ∃ m', m' < m ∧ I m' e, bk := D.nx } es2 else D.nx es2) D.xn
theorem s_while {c : Expr} {body : List Stmt} {ct : XT} {tb : XS} (hc : PTX X c ct) (hb : PSsX X body tb) : PSX X (.While c body [] pos) (dWhile ct tb) := fun hp W tk => PS.weak (ps_while hp (hc W tk) (hb hp W tk)) fun D σ H ⟨w, es, xd, s, ⟨I, ⟨m0, i0⟩, turn⟩, k1, k2, k3, k4, k5⟩ => by
  refine ⟨fun m σ' H' => ∃ w' es', Stt X.K w' H' σ' es' ∧ Fr w H w' H' ∧ I m es', ⟨m0, w, es, s, .refl, i0⟩, ?_⟩
  rintro m σ' H' ⟨w', es', s', f', hI⟩
  refine ⟨w', es', _, _, s', turn m es' hI, fun b es2 H2 w2 hR s2 f2 => ?_, fun x es3 H3 w3 cls dd q3 s3 f3 i3 => k5 x es3 _ H3 w3 cls dd q3 s3 (f'.trans f3) i3⟩
  have fa := f'.trans f2
  cases b with
  | true =>
    rw [if_pos rfl] at hR
    show ∃ N : L2.St → Hp → Prop, _
    refine ⟨fun σ3 H3 => ∃ m', m' < m ∧ ∃ w3 es3, Stt X.K w3 H3 σ3 es3 ∧ Fr w H w3 H3 ∧ I m' es3, fun σ3 H3 ⟨m', hm, z⟩ => ⟨m', hm, z⟩, w2, es2, _, s2, hR, fun es5 σ5 H5 w5 ⟨m', hm, q5⟩ s5 f5 => ⟨m', hm, w5, es5, s5, fa.trans f5, q5⟩,
      fun dv es5 v σ5 H5 w5 q5 s5 h5 f5 => k2 _ _ _ _ _ _ q5 s5 h5 (fa.trans f5), fun es5 σ5 H5 w5 q5 s5 f5 => k1 _ _ _ _ q5 s5 (fa.trans f5), fun es5 σ5 H5 w5 ⟨m', hm, q5⟩ s5 f5 => ⟨m', hm, w5, es5, s5, fa.trans f5, q5⟩,
      fun x es5 σ5 H5 w5 cls dd q5 s5 f5 i5 => k5 _ _ _ _ _ _ _ q5 s5 (fa.trans f5) i5⟩
  | false =>
    rw [if_neg Bool.false_ne_true] at hR
    show D.nx σ' H2
    exact k1 _ _ _ _ hR s2 fa
end


/-! ### a list that is made item by item -/
structure FrD (p : Addr) (w : Ow) (H : Hp) (w2 : Ow) (H2 : Hp) : Prop where
  keep : ∀ a o, H a = some o → (w a = none ∨ w a = some 0) → H2 a = some o
  outer : ∀ a, a ≠ p → (w a = some 0 ↔ w2 a = some 0)
  froz : ∀ a, H a ≠ none → w a = none → w2 a = none
/-- may a slot hide behind a comprehension's name -/
def E.quiet : E → Bool
  | .no => true
  | .val d => d.fro
  | .bor _ _ => false
def tag (w : Ow) (p : Addr) (t : Nat) : Ow := fun a => if a = p then some t else w a
section
variable {K : PySem.W.Frag} {W : WX} {w w1 w2 w3 : Ow} {H H1 H2 H3 : Hp} {σ : L2.St} {es es1 es2 : List E} {v x y : V} {d d1 d2 : D} {RX : DX} {p : Addr} {i : Nat}
theorem tag_ne {a : Addr} {t : Nat} (h : a ≠ p) : tag w p t a = w a := by unfold tag; rw [if_neg h]
theorem tag_p {t : Nat} : tag w p t p = some t := by unfold tag; rw [if_pos rfl]
theorem FrD.go (f : FrD p w H w1 H1) (g : Fr w1 H1 w2 H2) (hp : H p = none) : FrD p w H w2 H2 where
  keep := fun a o h c => by
    have n : a ≠ p := fun e => by subst e; rw [hp] at h; cases h
    refine g.keep a o (f.keep a o h c) ?_
    rcases c with c | c
    · exact .inl (f.froz a (by rw [h]; simp) c)
    · exact .inr ((f.outer a n).mp c)
  outer := fun a n => (f.outer a n).trans (g.outer a)
  froz := fun a h c => by
    refine g.froz a ?_ (f.froz a h c)
    cases q : H a with
    | none => exact absurd q h
    | some o => rw [f.keep a o q (.inl c)]; simp
theorem FrD.fz (f : FrD p w H w1 H1) : ∀ a o, fz w H a = some o → RB.fz w1 H1 a = some o := fun a o h => by
  obtain ⟨h1, h2⟩ := fz_of h
  exact of_fz (f.froz a (by rw [h2]; simp) h1) (f.keep a o h2 (.inl h1))
/-- the tag of an object that no slot owns may change -/
theorem Stt.retag {t : Nat} (s : Stt K w H σ es) (h : w p = none ∨ w p = some 0) (hf : ∀ a o, fz w H a = some o → fz (tag w p t) H1 a = some o) (hk : ∀ a o, w a ≠ none → a ≠ p → H a = some o → H1 a = some o) (hp : H1 p ≠ none) : Stt K (tag w p t) H1 σ es := by
  have mv : ∀ {u v d}, Holds K w H (u + 2) v d → Holds K (tag w p t) H1 (u + 2) v d := by
    rintro u v d ⟨ps, r, nd, q⟩
    have n : ∀ a ∈ ps, a ≠ p := fun a ha e => by
      have := q a ha
      rw [e] at this
      rcases h with h | h <;> rw [h] at this <;> simp at this
    exact ⟨ps, r.mono hf fun a ha o ho => hk a o (by rw [q a ha]; simp) (n a ha) ho, nd, fun a ha => by rw [tag_ne (n a ha)]; exact q a ha⟩
  refine ⟨fun j e hj => ?_, fun a ha => ?_, s.ln⟩
  · have z := s.sl j e hj
    cases e with
    | no => trivial
    | val d' => exact ⟨z.choose, z.choose_spec.1, mv z.choose_spec.2⟩
    | bor a d' => exact ⟨z.1, mv z.2⟩
  · by_cases e : a = p
    · subst e; exact hp
    · rw [tag_ne e] at ha
      cases q : H a with
      | none => exact absurd q (s.lv a ha)
      | some o => rw [hk a o ha e q]; simp
/-- a frozen value under a comprehension's name -/
theorem Stt.hide (s : Stt K w H σ es) {e0 : E} (he : es[i]? = some e0) (r : Rp K (fz w H) H v d []) : Stt K w H ((wipe σ [i]).set i (some v)) (es.set i (.val d)) where
  sl := fun j e hj => by
    have hi : i < es.length := (List.getElem?_eq_some_iff.mp he).1
    have hi2 : i < σ.length := Nat.lt_of_lt_of_le hi s.ln
    have hw : wipe σ [i] = σ.set i none := rfl
    rw [hw]
    rcases set_get hj with ⟨rfl, rfl⟩ | ⟨n, hj⟩
    · exact ⟨v, by rw [List.getElem?_set_self (by rw [List.length_set]; exact hi2)], .of r⟩
    · rw [List.getElem?_set_ne n, List.getElem?_set_ne n]
      exact s.sl j e hj
  lv := s.lv
  ln := by
    have hw : wipe σ [i] = σ.set i none := rfl
    rw [hw, List.length_set, List.length_set, List.length_set]
    exact s.ln
theorem Stt.unhide (s : Stt K w H σ es) {e0 : E} (he : es[i]? = some e0) (q0 : e0.quiet = true) (s2 : Stt K w2 H2 ((wipe σ [i]).set i (some v)) es2) (f : ∀ a o, fz w H a = some o → fz w2 H2 a = some o) : Stt K w2 H2 σ (es2.set i e0) where
  sl := fun j e hj => by
    rcases set_get hj with ⟨rfl, rfl⟩ | ⟨n, hj⟩
    · have z := s.sl i _ he
      cases e0 with
      | no => trivial
      | val d' => exact ⟨z.choose, z.choose_spec.1, .of ((z.choose_spec.2.fro q0).mono f (by simp))⟩
      | bor a d' => exact nomatch q0
    · have z := s2.sl j e hj
      have hw : wipe σ [i] = σ.set i none := rfl
      rw [hw, List.getElem?_set_ne n, List.getElem?_set_ne n] at z
      exact z
  lv := s2.lv
  ln := by
    have := s2.ln
    have hw : wipe σ [i] = σ.set i none := rfl
    rw [hw, List.length_set, List.length_set] at this
    rw [List.length_set]
    exact this
def noX : WX := fun _ _ _ _ => False
def dLc (it : XI) (i : Nat) (tt : XT) (te : XE) : XE := fun es Q QX => it es (fun ds es2 => ∃ I : Nat → List D → List E → Prop, I 0 [] es2 ∧
  (∀ k d acc es, ds[k]? = some d → I k acc es → ∃ e0, es[i]? = some e0 ∧ e0.quiet = true ∧ tt (es.set i (.val d)) (fun b es4 => if b = true then te es4 (fun y es5 => acc.length < sizeLine ∧ I (k + 1) (acc ++ [y]) (es5.set i e0)) (fun _ _ => False) else I (k + 1) acc (es4.set i e0)) (fun _ _ => False)) ∧
  ∀ acc es, I ds.length acc es → Q (.mlst acc) es) QX
theorem lc_imp {it : XI} {tt : XT} {te : XE} {Q : VK} (h : up K W (dLc it i tt te) σ H Q) : tLc (upI K W it) (gName i) (upT K noX tt) (upF K noX te) [i] σ H Q := by
  obtain ⟨w, es, R, RX, s, q, k, kx⟩ := h
  refine ⟨w, es, _, _, s, q, fun ds es2 J H1 w1 ⟨I, i0, turn, done⟩ s1 f1 go => fun p hp => ?_, kx⟩
  have wp : w1 p = none := s1.fresh hp
  have e0f : ∀ a o, fz w1 H1 a = some o → fz (tag w1 p 0) (upd H1 p (.lst [])) a = some o := fun a o h => by
    obtain ⟨h1, h2⟩ := fz_of h
    have n : a ≠ p := fun e => by subst e; rw [hp] at h2; cases h2
    exact of_fz (by rw [tag_ne n]; exact h1) (by rw [upd_ne n]; exact h2)
  have s2 : Stt K (tag w1 p 0) (upd H1 p (.lst [])) σ es2 := s1.retag (.inl wp) e0f (fun a o _ n h => by rw [upd_ne n]; exact h) (by rw [upd_same]; simp)
  have fd0 : FrD p w1 H1 (tag w1 p 0) (upd H1 p (.lst [])) := ⟨fun a o h _ => up_new hp a o h, fun a n => by rw [tag_ne n], fun a h c => by
    have n : a ≠ p := fun e => by subst e; exact h hp
    rw [tag_ne n]; exact c⟩
  refine ⟨fun j m H' => m = ds.length - j ∧ j ≤ ds.length ∧ ∃ w' es' acc vacc, Stt K w' H' σ es' ∧ FrD p w1 H1 w' H' ∧ w' p = some 0 ∧ H' p = some (.lst vacc) ∧ Rps K (fz w' H') H' vacc acc [] ∧ I j acc es',
    ⟨ds.length, by simp, Nat.zero_le _, tag w1 p 0, es2, [], [], s2, fd0, tag_p, upd_same, .nil, i0⟩, ?_⟩
  rintro j m H' ⟨rfl, hj, w', es', acc, vacc, s', fd, hw', hH', rA, hI⟩
  have gg := go w' H' fd.fz s'.lv j
  by_cases hlt : j < ds.length
  · obtain ⟨g1, g2⟩ := gg.1 _ (List.getElem?_eq_getElem hlt)
    refine .inr ⟨g1, fun H3 => ∃ w3 es3 acc3 vacc3, Stt K w3 H3 σ es3 ∧ FrD p w1 H1 w3 H3 ∧ w3 p = some 0 ∧ H3 p = some (.lst vacc3) ∧ Rps K (fz w3 H3) H3 vacc3 acc3 [] ∧ I (j + 1) acc3 es3,
      fun H3 z => ⟨ds.length - (j + 1), by omega, rfl, hlt, z⟩, fun x H3 y => ?_⟩
    obtain ⟨k3, r3⟩ := g2 x H3 y
    obtain ⟨e0, he0, hq0, tq⟩ := turn j _ acc es' (List.getElem?_eq_getElem hlt) hI
    have s3 := s'.grow k3
    have f3 : Fr w' H' w' H3 := .new k3
    show wipe ((wipe σ [i]).set i (some x)) [i] = wipe σ [i] ∧ _
    refine ⟨?_, ?_⟩
    · show (((σ.set i none).set i (some x)).set i none) = σ.set i none
      rw [List.set_set, List.set_set]
    · refine ⟨w', es'.set i (.val ds[j]), _, _, s3.hide he0 r3, tq, fun b es4 H4 w4 hb s4 f4 => ?_, fun x es2 H2 w2 cls dd z => z.elim⟩
      have unh : ∀ {es5 H5 w5}, Stt K w5 H5 ((wipe σ [i]).set i (some x)) es5 → Fr w' H3 w5 H5 → Stt K w5 H5 σ (es5.set i e0) ∧ FrD p w1 H1 w5 H5 ∧ w5 p = some 0 ∧ H5 p = some (.lst vacc) ∧ Rps K (fz w5 H5) H5 vacc acc [] := fun {es5 H5 w5} s5 f5 => by
        have f35 := f3.trans f5
        exact ⟨s3.unhide he0 hq0 s5 f5.fz, fd.go f35 hp, (f35.outer p).mp hw', f35.keep p _ hH' (.inr hw'), f35.rps rA⟩
      cases b with
      | true =>
        rw [if_pos rfl] at hb
        show upF K noX te _ H4 _
        refine ⟨w4, es4, _, _, s4, hb, fun yv es5 vy H5 w5 ⟨hl, hI5⟩ s5 r5 f5 => ?_, fun x es2 H2 w2 cls dd z => z.elim⟩
        obtain ⟨s6, fd6, w6, h6, r6⟩ := unh s5 (f4.trans f5)
        have e6f : ∀ a o, fz w5 H5 a = some o → fz w5 (upd H5 p (.lst (vacc ++ [vy]))) a = some o := fun a o h => by
          obtain ⟨h1, h2⟩ := fz_of h
          have n : a ≠ p := fun e => by subst e; rw [w6] at h1; cases h1
          exact of_fz h1 (by rw [upd_ne n]; exact h2)
        refine ⟨vacc, h6, by rw [r6.length]; exact hl, w5, es5.set i e0, acc ++ [yv], _, ?_, ⟨fun a o h c => ?_, fd6.outer, fd6.froz⟩, w6, upd_same, (r6.append (.cons0 r5 .nil)).mono e6f (by simp), hI5⟩
        · refine ⟨fun j' e hj' => ?_, fun a ha => ?_, s6.ln⟩
          · have z := s6.sl j' e hj'
            have mv : ∀ {u v d}, Holds K w5 H5 (u + 2) v d → Holds K w5 (upd H5 p (.lst (vacc ++ [vy]))) (u + 2) v d := by
              rintro u v d ⟨ps, r, nd, q⟩
              exact ⟨ps, r.mono e6f fun a ha o ho => by
                rw [upd_ne (fun e => by have := q a ha; rw [e, w6] at this; simp at this)]
                exact ho, nd, q⟩
            cases e with
            | no => trivial
            | val d' => exact ⟨z.choose, z.choose_spec.1, mv z.choose_spec.2⟩
            | bor a d' => exact ⟨z.1, mv z.2⟩
          · by_cases e : a = p
            · subst e; rw [upd_same]; simp
            · rw [upd_ne e]; exact s6.lv a ha
        · have n : a ≠ p := fun e => by subst e; rw [hp] at h; cases h
          rw [upd_ne n]
          exact fd6.keep a o h c
      | false =>
        rw [if_neg Bool.false_ne_true] at hb
        obtain ⟨s6, fd6, w6, h6, r6⟩ := unh s4 f4
        exact ⟨w4, _, acc, vacc, s6, fd6, w6, h6, r6, hb⟩
  · have e : j = ds.length := by omega
    subst e
    refine .inl ⟨gg.2 rfl, ?_⟩
    have efz : ∀ a o, fz w' H' a = some o → fz (tag w' p 1) H' a = some o := fun a o h => by
      obtain ⟨h1, h2⟩ := fz_of h
      have n : a ≠ p := fun e => by subst e; rw [hw'] at h1; cases h1
      exact of_fz (by rw [tag_ne n]; exact h1) h2
    have fr : Fr w1 H1 (tag w' p 1) H' := ⟨fd.keep, fun a => by
      by_cases e : a = p
      · subst e; rw [tag_p, wp]; simp
      · rw [tag_ne e]; exact fd.outer a e, fun a h c => by
      have n : a ≠ p := fun e => by subst e; exact h hp
      rw [tag_ne n]; exact fd.froz a h c⟩
    exact k _ _ _ H' (tag w' p 1) (done acc es' hI) (s'.retag (.inr hw') efz (fun a o _ _ h => h) (by rw [hH']; simp)) ⟨[p], .mlst hH' (rA.mono efz (by simp)), by simp, fun a ha => by
      have : a = p := by simpa using ha
      subst this
      exact tag_p⟩ (f1.trans fr)
end
section
variable {X : Cx} {tg iter elt : Expr} {ifs : List Expr} {it : XI} {tt : XT} {te : XE} {i : Nat} {x : Str} {scope : Scope} {pos pos' : Pos}
def PTsX (X : Cx) (es : List Expr) (d : XT) : Prop := ∀ W, Takes X W → PTs X es (upT X.K W d)
def dYes : XT := fun es Q _ => Q true es
theorem PTs.weak {X : Cx} {e : List Expr} {t t' : TT} (h : PTs X e t) (k : ∀ σ H Q, t' σ H Q → t σ H Q) : PTs X e t' := ⟨fun pins s σ H Q I q => h.run pins s σ H Q I (k σ H Q q)⟩
theorem ts_nil : PTsX X [] dYes := fun W tk => PTs.weak pts_nil fun σ H Q ⟨w, es, R, RX, s, q, k, kx⟩ => k _ _ _ _ q s .refl
theorem ts_one {c : Expr} {t : XT} (h : PTX X c t) : PTsX X [c] t := fun W tk => pts_one (h W tk)
theorem x_lc (hc : X.calm = true) (hN : X.N.Nodup) (hi : PIX X tg iter it) (ok : BlkOk X.N X.env.scope scope [(x, i)])
    (hg : ∀ (s : Shared) (H : Hp) (C : Addr) (cl : List (Str × Addr)) (fp : List Addr), PG (X.blk s H scope (compEnvC scope cl C X.env) fp) tg (gName i)) (ht : ∀ (s : Shared) (H : Hp) (C : Addr) (cl : List (Str × Addr)) (fp : List Addr), PTsX (X.blk s H scope (compEnvC scope cl C X.env) fp) ifs tt)
    (he : ∀ (s : Shared) (H : Hp) (C : Addr) (cl : List (Str × Addr)) (fp : List Addr), PFX (X.blk s H scope (compEnvC scope cl C X.env) fp) elt te) (hs : ∀ x, foldedSetIterable iter X.env x = pure x := by intro _; rfl) : PEX X (.ListComp elt [⟨tg, iter, ifs, 0⟩] scope pos) (dLc it i tt te) := fun W tk =>
  PE.weak (pe_lc (own := [(x, i)]) hc hN (hi W tk) ok hg (fun s H C cl fp => ht s H C cl fp noX takes0) (fun s H C cl fp => he s H C cl fp noX takes0) hs) fun σ H Q q => lc_imp q
theorem s_setLc {j : Nat} {y : Str} {py spos : Pos} (hc : X.calm = true) (hN : X.N.Nodup) (hy : X.N[j]? = some y) (hyl : X.env.scope.names.lookup y = some .local) (hsw : swapsWith (.ListComp elt [⟨tg, iter, ifs, 0⟩] scope pos) (some (.Name y py)) spos.line X.env = pure true)
    (hi : PIX X tg iter it) (ok : BlkOk X.N X.env.scope scope [(x, i)])
    (hg : ∀ (s : Shared) (H : Hp) (C : Addr) (cl : List (Str × Addr)) (fp : List Addr), PG (X.blk s H scope (compEnvC scope cl C X.env) fp) tg (gName i)) (ht : ∀ (s : Shared) (H : Hp) (C : Addr) (cl : List (Str × Addr)) (fp : List Addr), PTsX (X.blk s H scope (compEnvC scope cl C X.env) fp) ifs tt)
    (he : ∀ (s : Shared) (H : Hp) (C : Addr) (cl : List (Str × Addr)) (fp : List Addr), PFX (X.blk s H scope (compEnvC scope cl C X.env) fp) elt te) (hs : ∀ x, foldedSetIterable iter X.env x = pure x := by intro _; rfl) : PSX X (.Assign [.Name y py] (.ListComp elt [⟨tg, iter, ifs, 0⟩] scope pos) spos) (dSet j (dLc it i tt te)) := fun _ W tk =>
  PS.weak (ps_setLc (own := [(x, i)]) hc hN hy hyl hsw (hi W tk) ok hg (fun s H C cl fp => ht s H C cl fp noX takes0) (fun s H C cl fp => he s H C cl fp noX takes0) hs) fun D σ H q => lc_imp (s_asg q)
end


/-! ### a def, without the heap: what it is given, what it hands back (and what becomes of what it was given), what it raises -/
abbrev DSp := List D → (D → List D → Prop) → (Exn → List D → Prop) → Prop
def ArgsOk (K : PySem.W.Frag) (w : Ow) (H : Hp) (vs : List V) (args : List D) : Prop := vs.length = args.length ∧ ∀ (j : Nat) v d, vs[j]? = some v → args[j]? = some d → Holds K w H (j + 2) v d
def spOf (K : PySem.W.Frag) (sp : DSp) : Sp := fun vs H Q EX => ∃ w args R RX, ArgsOk K w H vs args ∧ (∀ a, w a ≠ none → H a ≠ none) ∧ sp args R RX ∧
  (∀ dv args2 v H2 w2, R dv args2 → ArgsOk K w2 H2 vs args2 → (∀ a, w2 a ≠ none → H2 a ≠ none) → Holds K w2 H2 1 v dv → Fr w H w2 H2 → Q v H2) ∧
  (∀ x args2 H2 w2 cls dd, RX x args2 → ArgsOk K w2 H2 vs args2 → (∀ a, w2 a ≠ none → H2 a ≠ none) → Fr w H w2 H2 → IsX K w2 H2 x cls dd → EX cls dd H2)
/-- the slots at the entry: what is owned by the caller is borrowed (ad: where it stands) -/
def entry (ad : Nat → Addr) : Nat → List D → List E
  | _, [] => []
  | j, d :: ds => (if d.fro then .val d else .bor (ad j) d) :: entry ad (j + 1) ds
/-- what became of the arguments: es the slots at the end -/
def back (ad : Nat → Addr) (es : List E) : Nat → List D → List D → Prop
  | _, [], r => r = []
  | j, d :: ds, r => ∃ d2 r2, r = d2 :: r2 ∧ (if d.fro then d2 = d else es[j]? = some (.bor (ad j) d2)) ∧ back ad es (j + 1) ds r2
theorem entry_len (ad : Nat → Addr) : ∀ (ds : List D) (j : Nat), (entry ad j ds).length = ds.length
  | [], _ => rfl
  | d :: ds, j => by simp [entry, entry_len ad ds (j + 1)]
theorem entry_get (ad : Nat → Addr) : ∀ (ds : List D) (j i : Nat) (e : E), (entry ad j ds)[i]? = some e → ∃ d, ds[i]? = some d ∧ e = if d.fro then .val d else .bor (ad (j + i)) d
  | [], _, _, _, h => by simp [entry] at h
  | d :: ds, j, 0, e, h => by
    simp [entry] at h
    exact ⟨d, rfl, h.symm⟩
  | d :: ds, j, i + 1, e, h => by
    have h' : (entry ad (j + 1) ds)[i]? = some e := by simpa [entry] using h
    obtain ⟨d', h1, h2⟩ := entry_get ad ds (j + 1) i e h'
    refine ⟨d', by simpa using h1, ?_⟩
    rw [h2, show j + 1 + i = j + (i + 1) by omega]
theorem back_get (ad : Nat → Addr) (es : List E) : ∀ (ds : List D) (j : Nat) (r : List D), back ad es j ds r → r.length = ds.length ∧ ∀ (i : Nat) (d d2 : D), ds[i]? = some d → r[i]? = some d2 → (d.fro = true → d2 = d) ∧ (d.fro = false → es[j + i]? = some (E.bor (ad (j + i)) d2))
  | [], j, r, h => by
    have h' : r = [] := h
    subst h'
    exact ⟨rfl, fun i d d2 h1 _ => by simp at h1⟩
  | d :: ds, j, r, h => by
    obtain ⟨d2, r2, rfl, h1, h2⟩ := h
    obtain ⟨l, g⟩ := back_get ad es ds (j + 1) r2 h2
    refine ⟨by simp [l], fun i a a2 ha ha2 => ?_⟩
    cases i with
    | zero =>
      cases ha
      cases ha2
      refine ⟨fun f => by rw [if_pos f] at h1; exact h1, fun f => ?_⟩
      rw [if_neg (by rw [f]; simp)] at h1
      exact h1
    | succ i =>
      have := g i a a2 (by simpa using ha) (by simpa using ha2)
      refine ⟨this.1, fun f => ?_⟩
      have := this.2 f
      rw [show j + 1 + i = j + (i + 1) by omega] at this
      exact this
section
variable {P : Program} {w : World} {K : PySem.W.Frag} {mg : Str → Option Value} {base : Heap}
theorem start_get {N : List Str} {vs : List V} {i : Nat} {v : V} (h : vs[i]? = some v) : (L2.start N vs)[i]? = some (some v) := by
  unfold L2.start
  have hi : i < vs.length := (List.getElem?_eq_some_iff.mp h).1
  rw [List.getElem?_append_left (by simpa using hi), List.getElem?_map, h]
  rfl
/-- THE RULE for a def -/
theorem ok_def {x qual : Str} {st : Stmt} {f : Addr} {fd : FuncData} {N ps : List Str} {k : Nat} {sp : DSp} {xs : XS} (F : Fun K x qual st f fd) (Sc : FnScope N ps (defScope st)) (hn : ∀ args R RX, sp args R RX → args.length = ps.length)
    (hb : ∀ (cdv : Value) (A : Around) (outer : List Env) (s : Shared) (H : Hp) (EX : XK), Room k (A.deeper (envOfC qual (defScope st) s.heap.objs.size f cdv)) → PSsX (cxOf (L2.CX P w) P w K mg base N qual (defScope st) f cdv A outer s H EX) (defBody st) xs)
    (hv : ∀ args R RX, sp args R RX → ∀ ad : Nat → Addr, xs { nx := fun es => ∃ a2, back ad es 0 args a2 ∧ R .non a2, rt := fun d es => ∃ a2, back ad es 0 args a2 ∧ R d a2, xn := fun x es => ∃ a2, back ad es 0 args a2 ∧ RX x a2 } (entry ad 0 args ++ List.replicate (N.length - args.length) .no)) :
    FnOk P w K mg base (L2.CX P w) (k + 1) f fd ps (spOf K sp) := by
  have hlen : ∀ vs H Q EX, spOf K sp vs H Q EX → vs.length = ps.length := fun vs H Q EX ⟨w, args, R, RX, ⟨l, _⟩, _, h, _⟩ => by rw [l]; exact hn _ _ _ h
  refine F.okX Sc hlen fun cdv A outer s H vs Q EX hr hsp => ?_
  refine ⟨upS K (fun cls d _ H => EX cls d H) xs, hb cdv A outer s H EX hr (passes_of rfl) _ (takes_of rfl rfl rfl rfl), ?_⟩
  have hl := hlen _ _ _ _ hsp
  obtain ⟨w0, args, R, RX, ⟨l, ok⟩, lv, h, kR, kX⟩ := hsp
  have hN : ps.length ≤ N.length := by
    have := congrArg List.length Sc.pre
    rw [List.length_take] at this
    omega
  -- where the owned arguments stand
  let ad : Nat → Addr := fun j => match vs[j]? with | some (.ref a) => a | _ => 0
  have adv : ∀ (j : Nat) v d, vs[j]? = some v → args[j]? = some d → d.fro = false → v = .ref (ad j) := fun j v d h1 h2 h3 => by
    obtain ⟨qs, r, _, _⟩ := ok j v d h1 h2
    cases r <;> first | exact absurd (show true = false from h3) (by decide) | (show _ = V.ref (match vs[j]? with | some (.ref a) => a | _ => 0); rw [h1])
  have argB : ∀ {es2 : List E} {a2 : List D} {σ2 : L2.St} {H2 : Hp} {w2 : Ow}, back ad es2 0 args a2 → Stt K w2 H2 σ2 es2 → Fr w0 H w2 H2 → ArgsOk K w2 H2 vs a2 := fun {es2 a2 σ2 H2 w2} hbk s2 f2 => by
    obtain ⟨l2, g⟩ := back_get ad es2 args 0 a2 hbk
    refine ⟨by rw [l, l2], fun j v d2 h1 h2 => ?_⟩
    have hj : j < args.length := by rw [← l]; exact (List.getElem?_eq_some_iff.mp h1).1
    obtain ⟨g1, g2⟩ := g j args[j] d2 (List.getElem?_eq_getElem hj) h2
    have hold := ok j v args[j] h1 (List.getElem?_eq_getElem hj)
    cases hf : args[j].fro with
    | true =>
      have e := g1 hf
      subst e
      exact .of (f2.rp (hold.fro hf))
    | false =>
      have g3 := g2 hf
      rw [Nat.zero_add] at g3
      have z := s2.sl j _ g3
      have ev := adv j v args[j] h1 (List.getElem?_eq_getElem hj) hf
      rw [ev]
      exact z.2
  refine ⟨w0, _, _, ⟨fun i e he => ?_, lv, ?_⟩, hv args R RX h ad, fun es2 σ2 H2 w2 ⟨a2, hbk, hR⟩ s2 f2 => kR _ _ _ _ w2 hR (argB hbk s2 f2) s2.lv (.of .non) f2, fun dv es2 v σ2 H2 w2 ⟨a2, hbk, hR⟩ s2 hh f2 => kR _ _ _ _ w2 hR (argB hbk s2 f2) s2.lv hh f2,
    fun es2 σ2 H2 w2 z => z.elim, fun es2 σ2 H2 w2 z => z.elim, fun x es2 σ2 H2 w2 cls dd ⟨a2, hbk, hR⟩ s2 f2 i2 => kX _ _ _ w2 _ _ hR (argB hbk s2 f2) s2.lv f2 i2⟩
  · by_cases hi : i < args.length
    · rw [List.getElem?_append_left (by rw [entry_len]; exact hi)] at he
      obtain ⟨d, h1, h2⟩ := entry_get ad args 0 i e he
      have hiv : i < vs.length := by rw [l]; exact hi
      have hvi : vs[i]? = some vs[i] := List.getElem?_eq_getElem hiv
      have hold := ok i _ d hvi h1
      subst h2
      cases hf : d.fro with
      | true => exact ⟨_, start_get hvi, hold⟩
      | false =>
        have ev := adv i _ d hvi h1 hf
        rw [show (0 + i) = i by omega]
        refine ⟨?_, ?_⟩
        · rw [start_get hvi, ev]
        · rw [← ev]; exact hold
    · rw [List.getElem?_append_right (by rw [entry_len]; omega)] at he
      have := List.mem_of_getElem? he
      rw [(List.mem_replicate.mp this).2]
      trivial
  · rw [List.length_append, entry_len, List.length_replicate]
    show _ ≤ (L2.start N vs).length
    unfold L2.start
    rw [List.length_append, List.length_map, List.length_replicate]
    omega
end

/-! ### arguments of a call: frozen values, or names whose things are lent -/
def dANil : XA := fun es Q _ => Q [] es
def dAV (da : XE) (dr : XA) : XA := fun es Q QX => da es (fun d es1 => dr es1 (fun as es2 => Q (.v d :: as) es2) QX) QX
def dAB (i : Nat) (dr : XA) : XA := fun es Q QX => ((es[i]?).bind E.look).isSome = true ∧ dr es (fun as es2 => Q (.b i :: as) es2) QX
section
variable {X : Cx} {e a b : Expr} {es : List Expr} {da db : XE} {dr : XA}
theorem fro_frz {d : D} (h : d.okf = true) : d.frz.fro = true := by cases d <;> rfl
theorem Rp.isfro {K : PySem.W.Frag} {F H : Hp} {v : V} {d : D} (h : Rp K F H v d []) : d.fro = true := by cases h <;> rfl
theorem a_nil : PAX X [] dANil := fun W tk => PA.weak pa_nil fun σ H Q ⟨w, es, R, RX, s, q, k, kx⟩ => k _ _ _ _ _ q s ⟨rfl, fun j v h => by simp at h⟩ .refl
theorem a_v (ha : PFX X e da) (hr : PAX X es dr) (hs : starEach (e :: es) X.env = (false, eval e X.env) :: starEach es X.env := by rfl) : PAX X (e :: es) (dAV da dr) := fun W tk =>
  PA.weak (pa_cons (ha W tk) (hr W tk) hs) fun σ H Q ⟨w, es, R, RX, s, q, k, kx⟩ => ⟨w, es, _, RX, s, q, fun d es1 v H1 w1 q1 s1 r1 f1 =>
    ⟨w1, es1, _, RX, s1, q1, fun as es2 vs H2 w2 q2 s2 ⟨l2, r2⟩ f2 => k _ _ _ _ _ q2 s2 ⟨by simp [l2], fun j u hj => by
      cases j with
      | zero =>
        cases hj
        exact ⟨fun d' e => by cases e; exact ⟨r1.isfro, f2.rp r1⟩, fun i e => by cases e⟩
      | succ j => simpa using r2 j u (by simpa using hj)⟩ (f1.trans f2), kx.fr f1⟩, kx⟩
theorem a_b {i : Nat} (ha : PE X e (tVar i)) (hr : PAX X es dr) (hs : starEach (e :: es) X.env = (false, eval e X.env) :: starEach es X.env := by rfl) : PAX X (e :: es) (dAB i dr) := fun W tk =>
  PA.weak (pa_cons ha (hr W tk) hs) fun σ H Q ⟨w, es, R, RX, s, ⟨i1, q⟩, k, kx⟩ => by
    obtain ⟨d0, e0⟩ := Option.isSome_iff_exists.mp i1
    obtain ⟨x, ex, _⟩ := s.look e0
    refine ⟨x, ex, w, es, _, RX, s, q, fun as es2 vs H2 w2 q2 s2 ⟨l2, r2⟩ f2 => k _ _ _ _ _ q2 s2 ⟨by simp [l2], fun j u hj => ?_⟩ f2, kx⟩
    cases j with
    | zero =>
      cases hj
      exact ⟨fun d' e => (nomatch e), fun i' e => by cases e; exact ex⟩
    | succ j => simpa using r2 j u (by simpa using hj)
/-- what is handed over -/
def getA (es : List E) : List A → Option (List D)
  | [] => some []
  | .v d :: as => (getA es as).map (d :: ·)
  | .b i :: as => ((es[i]?).bind E.look).bind fun d => if d.fro then none else (getA es as).map (d :: ·)
/-- what is lent is as it was handed back -/
def putA : List E → List A → List D → List E
  | es, .b i :: as, d :: ds => putA (setc es i d) as ds
  | es, .v _ :: as, _ :: ds => putA es as ds
  | es, _, _ => es
/-- at which place of the arguments a slot is lent -/
def posA : List A → Nat → Option Nat
  | [], _ => none
  | .b i :: as, k => if i = k then some 0 else (posA as k).map (· + 1)
  | .v _ :: as, k => (posA as k).map (· + 1)
def slotsA : List A → List Nat
  | [] => []
  | .b i :: as => i :: slotsA as
  | .v _ :: as => slotsA as
theorem posA_of : ∀ {as : List A} {j i : Nat}, (slotsA as).Nodup → as[j]? = some (.b i) → posA as i = some j
  | [], j, i, _, h => by simp at h
  | .b k :: as, 0, i, n, h => by
    cases h
    simp [posA]
  | .b k :: as, j + 1, i, n, h => by
    have h' : as[j]? = some (.b i) := by simpa using h
    have n' : k ∉ slotsA as ∧ (slotsA as).Nodup := by simpa [slotsA] using n
    have ne : k ≠ i := fun e => by
      subst e
      refine n'.1 ?_
      have : ∀ {as : List A} {j : Nat}, as[j]? = some (.b k) → k ∈ slotsA as := by
        intro as
        induction as with
        | nil => intro j h; simp at h
        | cons a as ih =>
          intro j h
          cases j with
          | zero => cases h; exact List.mem_cons_self
          | succ j =>
            have := ih (j := j) (by simpa using h)
            cases a with
            | v d => exact this
            | b m => exact List.mem_cons_of_mem _ this
      exact this h'
    show (if k = i then some 0 else (posA as i).map (· + 1)) = _
    rw [if_neg ne, posA_of n'.2 h']
    rfl
  | .v d :: as, 0, i, n, h => by cases h
  | .v d :: as, j + 1, i, n, h => by
    have h' : as[j]? = some (.b i) := by simpa using h
    have e1 : posA (.v d :: as) i = (posA as i).map (· + 1) := rfl
    rw [e1, posA_of (as := as) n h']
    rfl
theorem posA_at : ∀ {as : List A} {j i : Nat}, posA as i = some j → as[j]? = some (.b i)
  | [], j, i, h => by cases h
  | .b k :: as, j, i, h => by
    have h : (if k = i then some 0 else (posA as i).map (· + 1)) = some j := h
    split at h
    · cases h
      rename_i e
      subst e
      rfl
    · obtain ⟨j', h1, rfl⟩ := Option.map_eq_some_iff.mp h
      simpa using posA_at h1
  | .v d :: as, j, i, h => by
    have h : (posA as i).map (· + 1) = some j := h
    obtain ⟨j', h1, rfl⟩ := Option.map_eq_some_iff.mp h
    simpa using posA_at h1
theorem getA_get {es : List E} : ∀ {as : List A} {args : List D}, getA es as = some args → args.length = as.length ∧ ∀ (j : Nat) (d : D), args[j]? = some d → as[j]? = some (A.v d) ∨ ∃ i, as[j]? = some (A.b i) ∧ (es[i]?).bind E.look = some d ∧ d.fro = false
  | [], args, h => by
    cases h
    exact ⟨rfl, fun j d h => by simp at h⟩
  | .v d :: as, args, h => by
    obtain ⟨r, h1, rfl⟩ := Option.map_eq_some_iff.mp (show (getA es as).map (d :: ·) = some args from h)
    obtain ⟨l, g⟩ := getA_get h1
    refine ⟨by simp [l], fun j d' hj => ?_⟩
    cases j with
    | zero => cases hj; exact .inl rfl
    | succ j => simpa using g j d' (by simpa using hj)
  | .b i :: as, args, h => by
    obtain ⟨d, h0, h⟩ := Option.bind_eq_some_iff.mp (show (((es[i]?).bind E.look).bind fun d => if d.fro then none else (getA es as).map (d :: ·)) = some args from h)
    split at h
    · cases h
    · rename_i hf
      obtain ⟨r, h1, rfl⟩ := Option.map_eq_some_iff.mp h
      obtain ⟨l, g⟩ := getA_get h1
      refine ⟨by simp [l], fun j d' hj => ?_⟩
      cases j with
      | zero => cases hj; exact .inr ⟨i, rfl, h0, by simpa using hf⟩
      | succ j => simpa using g j d' (by simpa using hj)
theorem setc_get {es : List E} {i k : Nat} {d : D} {e : E} (h : (setc es i d)[k]? = some e) : (i ≠ k ∧ es[k]? = some e) ∨ (i = k ∧ ((∃ d0, es[k]? = some (.val d0) ∧ e = .val d) ∨ (∃ a d0, es[k]? = some (.bor a d0) ∧ e = .bor a d) ∨ (es[k]? = some e ∧ e = .no))) := by
  unfold setc at h
  split at h
  · rename_i d0 he
    rcases set_get h with ⟨rfl, rfl⟩ | ⟨n, h⟩
    · exact .inr ⟨rfl, .inl ⟨d0, he, rfl⟩⟩
    · exact .inl ⟨n, h⟩
  · rename_i a d0 he
    rcases set_get h with ⟨rfl, rfl⟩ | ⟨n, h⟩
    · exact .inr ⟨rfl, .inr (.inl ⟨a, d0, he, rfl⟩)⟩
    · exact .inl ⟨n, h⟩
  · rename_i h1 h2
    by_cases e1 : i = k
    · subst e1
      cases e with
      | no => exact .inr ⟨rfl, .inr (.inr ⟨h, rfl⟩)⟩
      | val d0 => exact absurd h (h1 d0)
      | bor a d0 => exact absurd h (h2 a d0)
    · exact .inl ⟨e1, h⟩
theorem setc_len {es : List E} {i : Nat} {d : D} : (setc es i d).length = es.length := by
  unfold setc
  split <;> simp
/-- the slots behind a call -/
theorem putA_get : ∀ {as : List A} {ds : List D} {es : List E} {k : Nat} {e : E}, ds.length = as.length → (slotsA as).Nodup → (putA es as ds)[k]? = some e →
    (posA as k = none ∧ es[k]? = some e) ∨ ∃ j d, posA as k = some j ∧ ds[j]? = some d ∧ ((∃ d0, es[k]? = some (.val d0) ∧ e = .val d) ∨ (∃ a d0, es[k]? = some (.bor a d0) ∧ e = .bor a d) ∨ (es[k]? = some e ∧ e = .no))
  | [], [], es, k, e, _, _, h => .inl ⟨rfl, h⟩
  | .v _ :: as, d :: ds, es, k, e, l, n, h => by
    rcases putA_get (as := as) (ds := ds) (by simpa using l) n h with ⟨h1, h2⟩ | ⟨j, d', h1, h2, h3⟩
    · exact .inl ⟨by show (posA as k).map (· + 1) = none; rw [h1]; rfl, h2⟩
    · exact .inr ⟨j + 1, d', by show (posA as k).map (· + 1) = _; rw [h1]; rfl, by simpa using h2, h3⟩
  | .b i :: as, d :: ds, es, k, e, l, n, h => by
    have n' : i ∉ slotsA as ∧ (slotsA as).Nodup := by simpa [slotsA] using n
    have pk : posA (.b i :: as) k = if i = k then some 0 else (posA as k).map (· + 1) := rfl
    rcases putA_get (as := as) (ds := ds) (es := setc es i d) (by simpa using l) n'.2 h with ⟨h1, h2⟩ | ⟨j, d', h1, h2, h3⟩
    · rcases setc_get h2 with ⟨ne, h2⟩ | ⟨rfl, h2⟩
      · exact .inl ⟨by rw [pk, if_neg ne, h1]; rfl, h2⟩
      · exact .inr ⟨0, d, by rw [pk, if_pos rfl], rfl, h2⟩
    · have ne : i ≠ k := fun e => by
        subst e
        refine n'.1 ?_
        have : ∀ {as : List A} {j : Nat}, posA as i = some j → i ∈ slotsA as := by
          intro as
          induction as with
          | nil => intro j h; cases h
          | cons a as ih =>
            intro j h
            cases a with
            | v d =>
              obtain ⟨j', h1, _⟩ := Option.map_eq_some_iff.mp (show (posA as i).map (· + 1) = some j from h)
              exact ih h1
            | b m =>
              have h : (if m = i then some 0 else (posA as i).map (· + 1)) = some j := h
              split at h
              · rename_i e; subst e; exact List.mem_cons_self
              · obtain ⟨j', h1, _⟩ := Option.map_eq_some_iff.mp h
                exact List.mem_cons_of_mem _ (ih h1)
        exact this h1
      refine .inr ⟨j + 1, d', by rw [pk, if_neg ne, h1]; rfl, by simpa using h2, ?_⟩
      have se : ∀ e', (setc es i d)[k]? = some e' → es[k]? = some e' := fun e' h => by
        rcases setc_get h with ⟨_, h⟩ | ⟨e, _⟩
        · exact h
        · exact absurd e ne
      rcases h3 with ⟨d0, h4, h5⟩ | ⟨a, d0, h4, h5⟩ | ⟨h4, h5⟩
      · exact .inl ⟨d0, se _ h4, h5⟩
      · exact .inr (.inl ⟨a, d0, se _ h4, h5⟩)
      · exact .inr (.inr ⟨se _ h4, h5⟩)
theorem putA_len : ∀ (as : List A) (ds : List D) (es : List E), (putA es as ds).length = es.length
  | [], _, es => by unfold putA; rfl
  | .v _ :: as, [], es => by unfold putA; rfl
  | .b _ :: as, [], es => by unfold putA; rfl
  | .v _ :: as, _ :: ds, es => by show (putA es as ds).length = _; exact putA_len as ds es
  | .b i :: as, d :: ds, es => by show (putA (setc es i d) as ds).length = _; rw [putA_len as ds, setc_len]
/-- f(..) -/
def dCall (sp : DSp) (da : XA) : XE := fun es Q QX => da es (fun as es2 => ∃ args, getA es2 as = some args ∧ (slotsA as).Nodup ∧ sp args (fun d args2 => Q d (putA es2 as args2)) (fun x args2 => QX x (putA es2 as args2))) QX
end


/-- who owns what, seen by the callee -/
def inW (w : Ow) (as : List A) : Ow := fun a => match w a with
  | none => none
  | some 0 => some 0
  | some 1 => some 0
  | some (t + 2) => match posA as t with
    | some j => some (j + 2)
    | none => some 0
/-- and behind the call, seen by the caller -/
def outW (w : Ow) (as : List A) (wc : Ow) : Ow := fun a => match wc a with
  | none => none
  | some 0 => w a
  | some 1 => some 1
  | some (j + 2) => match as[j]? with
    | some (.b i) => some (i + 2)
    | _ => none
section
variable {K : PySem.W.Frag} {w wc : Ow} {H H3 : Hp} {σ : L2.St} {es : List E} {as : List A} {vs : List V} {args args2 : List D}
theorem inW_none {a : Addr} (h : w a = none) : inW w as a = none := by unfold inW; rw [h]
theorem inW_0 {a : Addr} (h : w a = some 0) : inW w as a = some 0 := by unfold inW; rw [h]
theorem inW_slot {a : Addr} {t : Nat} (h : w a = some (t + 2)) : inW w as a = match posA as t with | some j => some (j + 2) | none => some 0 := by
  unfold inW; rw [h]
theorem inW_some {a : Addr} (h : inW w as a ≠ none) : w a ≠ none := fun e => h (inW_none e)
theorem outW_none {a : Addr} (h : wc a = none) : outW w as wc a = none := by unfold outW; rw [h]
theorem outW_0 {a : Addr} (h : wc a = some 0) : outW w as wc a = w a := by unfold outW; rw [h]
theorem outW_1 {a : Addr} (h : wc a = some 1) : outW w as wc a = some 1 := by unfold outW; rw [h]
theorem outW_slot {a : Addr} {j i : Nat} (h : wc a = some (j + 2)) (hj : as[j]? = some (.b i)) : outW w as wc a = some (i + 2) := by unfold outW; rw [h]; simp only [hj]
theorem in_ok (s : Stt K w H σ es) (hg : getA es as = some args) (nd : (slotsA as).Nodup) (ar : ArgRel K w H σ as vs) : ArgsOk K (inW w as) H vs args := by
  obtain ⟨l, g⟩ := getA_get hg
  refine ⟨by rw [← ar.1, l], fun j v d h1 h2 => ?_⟩
  have ff : ∀ a o, fz w H a = some o → fz (inW w as) H a = some o := fun a o h => of_fz (inW_none (fz_of h).1) (fz_of h).2
  rcases g j d h2 with h | ⟨i, h, h3, _⟩
  · exact .of (((ar.2 j v h1).1 d h).2.mono ff (by simp))
  · obtain ⟨v', e1, ps, r, n, q⟩ := s.look h3
    have e2 := (ar.2 j v h1).2 i h
    rw [e1] at e2
    cases e2
    refine ⟨ps, r.mono ff fun _ _ _ h => h, n, fun a ha => ?_⟩
    rw [inW_slot (q a ha), posA_of nd h]
theorem out_fr (fr : Fr (inW w as) H wc H3) : Fr w H (outW w as wc) H3 where
  keep := fun a o h c => fr.keep a o h (c.imp inW_none inW_0)
  outer := fun a => ⟨fun h => by rw [outW_0 ((fr.outer a).mp (inW_0 h))]; exact h, fun h => by
    unfold outW at h
    split at h
    · cases h
    · exact h
    · cases h
    · split at h <;> cases h⟩
  froz := fun a h c => outW_none (fr.froz a h (inW_none c))
theorem out_fz : ∀ a o, fz wc H3 a = some o → fz (outW w as wc) H3 a = some o := fun a o h => of_fz (outW_none (fz_of h).1) (fz_of h).2
theorem out_stt (s : Stt K w H σ es) (nd : (slotsA as).Nodup) (ar : ArgRel K w H σ as vs) (fr : Fr (inW w as) H wc H3) (a2 : ArgsOk K wc H3 vs args2) (lv : ∀ a, wc a ≠ none → H3 a ≠ none) : Stt K (outW w as wc) H3 σ (putA es as args2) where
  sl := fun k e he => by
    have l2 : args2.length = as.length := by rw [← a2.1, ar.1]
    rcases putA_get l2 nd he with ⟨h1, h2⟩ | ⟨j, d, h1, h2, h3⟩
    · have z := s.sl k e h2
      have mv : ∀ {v d}, Holds K w H (k + 2) v d → Holds K (outW w as wc) H3 (k + 2) v d := by
        rintro v d ⟨ps, r, n, q⟩
        have i0 : ∀ a ∈ ps, inW w as a = some 0 := fun a ha => by rw [inW_slot (q a ha), h1]
        exact ⟨ps, r.mono (out_fr fr).fz fun a ha o ho => fr.keep a o ho (.inr (i0 a ha)), n, fun a ha => by rw [outW_0 ((fr.outer a).mp (i0 a ha))]; exact q a ha⟩
      cases e with
      | no => trivial
      | val d => exact ⟨z.choose, z.choose_spec.1, mv z.choose_spec.2⟩
      | bor a d => exact ⟨z.1, mv z.2⟩
    · have hb := posA_at h1
      have hj : j < vs.length := by rw [← ar.1]; exact (List.getElem?_eq_some_iff.mp hb).1
      have hv : vs[j]? = some vs[j] := List.getElem?_eq_getElem hj
      have ev := (ar.2 j _ hv).2 k hb
      obtain ⟨ps, r, n, q⟩ := a2.2 j _ d hv h2
      have new : Holds K (outW w as wc) H3 (k + 2) vs[j] d := ⟨ps, r.mono out_fz fun _ _ _ h => h, n, fun a ha => outW_slot (q a ha) hb⟩
      rcases h3 with ⟨d0, h4, rfl⟩ | ⟨a, d0, h4, rfl⟩ | ⟨_, rfl⟩
      · exact ⟨_, ev, new⟩
      · have z := s.sl k _ h4
        have e1 : σ[k]? = some (some (.ref a)) := z.1
        rw [ev] at e1
        have e2 : vs[j] = V.ref a := Option.some.inj (Option.some.inj e1)
        rw [e2] at new
        exact ⟨z.1, new⟩
      · trivial
  lv := fun a h => lv a fun e => h (outW_none e)
  ln := by rw [putA_len]; exact s.ln
theorem call_imp {W : WX} {sp : DSp} {da : XA} {Q : VK} (h : up K W (dCall sp da) σ H Q) : tCallS (spOf K sp) (WE W) (upA K W da) σ H Q := by
  obtain ⟨w, es, R, RX, s, q, k, kx⟩ := h
  refine ⟨w, es, _, RX, s, q, fun as es2 vs H2 w2 ⟨args, hg, nd, hsp⟩ s2 ar f2 => ?_, kx⟩
  refine ⟨inW w2 as, args, _, _, in_ok s2 hg nd ar, fun a ha => s2.lv a (inW_some ha), hsp, fun dv args2 v H3 wc hR a2 lv hh fr => ?_, fun x args2 H3 wc cls dd hR a2 lv fr ix => ?_⟩
  · obtain ⟨ps, r, n, q⟩ := hh
    exact k dv _ v H3 (outW w2 as wc) hR (out_stt s2 nd ar fr a2 lv) ⟨ps, r.mono out_fz fun _ _ _ h => h, n, fun a ha => outW_1 (q a ha)⟩ (f2.trans (out_fr fr))
  · refine kx x _ H3 (outW w2 as wc) cls dd hR (out_stt s2 nd ar fr a2 lv) (f2.trans (out_fr fr)) ⟨ix.1, ?_⟩
    have i2 := ix.2
    split at i2
    · exact i2
    · obtain ⟨a, v, e1, e2, e3, r⟩ := i2
      exact ⟨a, v, e1, outW_none e2, e3, r.mono out_fz (by simp)⟩
end
section
variable {X : Cx} {k : Nat} {f : Addr} {fd : FuncData} {ps : List Str} {sp : DSp} {x : Str} {p pos : Pos} {e : Expr} {es : List Expr} {da : XA}
theorem x_call (F : FnOk X.prog X.w X.K X.mg X.base (L2.CX X.prog X.w) k f fd ps (spOf X.K sp)) (hr : Room k X.A) (hg : Gl X x) (hm : X.mg x = some (.ref f)) (hk : PySem.W.keepIn X.K (.ref f) = true) (hb : Binds X.K fd ps []) (ha : PAX X (e :: es) da)
    (hdb : (x == ("__debug__" : Str)) = false := by decide) (he : starEach (e :: es) X.env = (false, eval e X.env) :: starEach es X.env := by rfl) (hpl : (backTo pos (starEach es X.env)).any (·.1) = false := by rfl) : PEX X (.Call (.Name x p) (e :: es) [] pos) (dCall sp da) := fun W tk =>
  PE.weak (pe_callS F hr hg hm hk hb (fun σ => passAt tk σ) (ha W tk) hdb he hpl) fun σ H Q q => call_imp q

/-! ### raise -/
theorem pmk_own0 {C : Addr} {bmB : List Value} {B newId initId : String} (F : ExcBaseFacts B newId initId bmB) (q : PySem.W.excIn X.K C bmB newId = true) (gC : X.mg x = some (.ref C)) (kC : PySem.W.keepIn X.K (.ref C) = true) (r : Raises X (.ref C)) (hg : Gl X x)
    (hdb : (x == ("__debug__" : Str)) = false := by decide) : PMk X (.Call (.Name x p) [] [] pos) (fun σ H Q => Q (.ref C) none H) := by
  intro pins s σ H Q I h
  refine wpAny_Call_Name_kw (ld_glob I hg gC ?_ hdb)
  refine PySem.W.callWith_K0 I.kIn kC ?_
  show wpAny _ _ (call (.ref C) []) _ _ _
  obtain ⟨bm, nsA, nm, qn, bs, hdct, sn, sub, ab, col, dd, c0, c1, c2, c3, c5, mN, hC, hN, hni, T⟩ := exc_obj I.kIn q
  exact wpAny_call_exc_subT F T hC hN hni (fun h' e hm => mk_of I hm r h (I.hok.gone hm.new)) (Nat.zero_le _)
/-- what is known of an own exception class without an __init__ -/
structure XCls (K : PySem.W.Frag) (mg : Str → Option Value) (x : Str) (C : Addr) : Prop where
  gC : mg x = some (.ref C)
  ex : PySem.W.excIn K C PySem.HandSPX.veTail "ValueError.__new__" = true
  kp : PySem.W.keepIn K (.ref C) = true
  sb : PySem.W.subIn K (.ref C) (.type "BaseException") = some true
  ty : PySem.W.typeIn K (.ref C) = some (.type "type")
def dRaise (C : Addr) : XS := fun D es => D.xn ⟨C, none⟩ es
theorem s_raise {C : Addr} {pos2 : Pos} (hc : X.calm = true) (T : XCls X.K X.mg x C) (hg : Gl X x) (hdb : (x == ("__debug__" : Str)) = false := by decide) : PSX X (.Raise (some (.Call (.Name x p) [] [] pos)) none pos2) (dRaise C) := fun _ W tk =>
  PS.weak (ps_raise hc tk (pmk_own0 PySem.F.excBase_ValueError T.ex T.gC T.kp (raises_own T.sb T.ty) hg hdb)) fun D σ H ⟨w, es, xd, s, q, h1, h2, h3, h4, h5⟩ => h5 _ _ _ _ _ _ _ q s .refl ⟨rfl, rfl⟩
end


/-! ### except clauses, with a name or without, one after the other -/
/-- the ends behind a suite whose name goes -/
def goneE (D : Ends) : Option Nat → Ends
  | none => D
  | some i => { nx := fun ρ G => D.nx (ρ.set i none) G, rt := D.rt, bk := fun ρ G => D.bk (ρ.set i none) G, ct := fun ρ G => D.ct (ρ.set i none) G }
def boundE (ρ : L2.St) (a : Addr) : Option Nat → L2.St
  | none => ρ
  | some i => ρ.set i (some (.ref a))
abbrev Cl := Value × Option Nat × (Addr → Value → Option Addr → TS)
def wCl (K : PySem.W.Frag) (Wout : WX) (D : Ends) : List Cl → WX
  | [] => Wout
  | (c, o, ts) :: more => fun cls d ρ G => ∃ hit, PySem.W.exmOne K cls c = some hit ∧ (hit = true → ∀ a, G a = none → ts a cls d (goneE D o) (boundE ρ a o) G) ∧ (hit = false → wCl K Wout D more cls d ρ G)
inductive ClOk (X : Cx) : List ExceptHandler → List Cl → Prop
  | nil : ClOk X [] []
  | anon {x : Str} {c : Value} {ts : Addr → Value → Option Addr → TS} {s1 : Stmt} {sr : List Stmt} {np hp : Pos} {hds : List ExceptHandler} {l : List Cl} (names : Names X x c)
      (suite : ∀ (a : Addr) (oe : Obj) (cls : Value) (d : Option Addr) (pn : List (Addr × Obj)), Zc cls d oe → (∃ vs, oe.data = .fields vs) → PSs (X.suite a ((a, oe) :: pn)) (s1 :: sr) (ts a cls d)) (more : ClOk X hds l) : ClOk X (.ExceptHandler (some (.Name x np)) none (s1 :: sr) hp :: hds) ((c, none, ts) :: l)
  | named {x n : Str} {i : Nat} {c : Value} {ts : Addr → Value → Option Addr → TS} {s1 : Stmt} {sr : List Stmt} {np hp : Pos} {hds : List ExceptHandler} {l : List Cl} (names : Names X x c) (slot : X.N[i]? = some n) (loc : X.env.kindOf n = some .local)
      (suite : ∀ (a : Addr) (oe : Obj) (cls : Value) (d : Option Addr) (pn : List (Addr × Obj)), Zc cls d oe → (∃ vs, oe.data = .fields vs) → PSs (X.suite a ((a, oe) :: pn)) (s1 :: sr) (ts a cls d)) (more : ClOk X hds l) : ClOk X (.ExceptHandler (some (.Name x np)) (some n) (s1 :: sr) hp :: hds) ((c, some i, ts) :: l)

section
variable {X : Cx} {pins : List (Addr × Obj)} {D : Ends} {Wout : WX} {ρ : L2.St} {G : Hp} {sI s' : Shared} {B : Heap} {a : Addr} {cls : Value} {d : Option Addr}
/-- an exception that has landed in this frame -/
structure Here (X : Cx) (pins : List (Addr × Obj)) (ρ : L2.St) (G : Hp) (sI s' : Shared) (B : Heap) (a : Addr) (cls : Value) (d : Option Addr) : Prop where
  inv : Inv X pins ρ G sI
  sub : ∀ b o, sI.heap.get? b = some o → b ∉ frs X.stack → B.get? b = some o
  upto : sI.heap.UpToSlots s'.heap
  free : G a = none
  osE : s'.os = sI.os
  gens : AllBare s'.gens
  stk : X.stack = X.env :: X.outer
  frm : X.env.frame = some X.env.locals
theorem Here.at (h : Here X pins ρ G sI s' B a cls d) {g : Heap} (st : B.StaysIn g) (up : s'.heap.UpToSlots g) : Inv X pins ρ G { s' with heap := g } :=
  h.inv.landed h.sub st (h.upto.trans up) h.osE h.gens
theorem Here.off (h : Here X pins ρ G sI s' B a cls d) {g : Heap} {o : Obj} {vs : Array Value} (ff : g.FunFrames B (X.env :: X.outer)) (e : g.get? a = some o) (dd : o.data = .fields vs) : a ≠ X.env.locals ∧ a ∉ X.fs := by
  have key : a ∉ frs (X.env :: X.outer) := fun hm => by
    obtain ⟨_, o2, e2, hno⟩ := ff.mem hm
    rw [e] at e2
    cases e2
    exact hno _ dd
  refine ⟨fun z => key (List.mem_filterMap.mpr ⟨X.env, List.mem_cons_self, by rw [h.frm, z]⟩), fun hm => ?_⟩
  obtain ⟨en, hen, q⟩ := List.mem_filterMap.mp hm
  exact key (List.mem_filterMap.mpr ⟨en, List.mem_cons_of_mem _ hen, q⟩)
theorem clauses_run (nd : X.N.Nodup) (h : Here X pins ρ G sI s' B a cls d) (tk : Takes X Wout) {g : Heap} (fly : HandSPX.FlyingZ B (X.env :: X.outer) a (Zc cls d) g) (up : s'.heap.UpToSlots g) :
    ∀ {hds : List ExceptHandler} {l : List Cl}, ClOk X hds l → wCl X.K Wout D l cls d ρ G → wpAny (model X.prog X.w) X.A (handleBy (.ref a) X.env hds) (SP X pins D) X.xe { s' with heap := g } := by
  intro hds l ok
  obtain ⟨oe1, vs1, at1, zc1, fl1⟩ := fly.there
  obtain ⟨nL, nF⟩ := h.off fly.2.2.1 at1 fl1
  have I1 := h.at fly.1 up
  have S1 := I1.suite at1 fl1 h.free nL nF
  -- its class is looked up
  have tyL : PySem.W.Looks (model X.prog X.w) g (typeOf (.ref a)) cls := fun A Q E st kk q => wpAny_typeOf_ref (kk _ _ at1) (by rw [zc1.1]; exact q)
  have nameV : ∀ {x : Str} {np : Pos} {c : Value} {Q : Value → Shared → Prop} {E : Value → Shared → Prop}, Names X x c → Q c { s' with heap := g } → wpAny (model X.prog X.w) (X.A.mark (some (.ref a))) (eval (.Name x np) X.env) Q E { s' with heap := g } := fun {x np c Q E} hc q => by
    obtain ⟨hg, hdb, hm | ⟨hm, hv, hno⟩⟩ := hc
    · exact ld_glob (X := X.suite a ((a, oe1) :: (X.pn ++ pins))) S1 hg hm q hdb
    · exact ld_blt (X := X.suite a ((a, oe1) :: (X.pn ++ pins))) S1 hg hm hv q hno hdb
  induction ok with
  | nil =>
    intro wish
    refine wpAny_handleBy_nil ?_
    obtain ⟨_, _, _, oe, vs, T, oT, ts2, he, hz, hd, h1, hr⟩ := id fly
    unfold PySem.passOn
    refine wpAny_bind (wpAny_field he hd h1 ?_)
    rw [if_neg (show ¬ ((Value.ref T == Value.none) = true) from by simp)]
    have rest : wpAny (model X.prog X.w) X.A (setFlight (.ref a) X.env.frame) (fun _ s4 => wpAny (model X.prog X.w) X.A (throw (.ref a) : Sem Flow) (SP X pins D) X.xe s4) X.xe { s' with heap := g } := by
      rw [h.frm]
      refine HandSPX.setFlight_upZ fly fun g2 fly2 up2 => ?_
      refine wpAny_throw (tk _ _ ?_)
      exact ⟨a, B, sI, pins, ρ, G, cls, d, rfl, h.inv, h.sub, (h.upto.trans up).trans up2, .inr (.inr (by rw [h.stk]; exact fly2)), h.free, h.osE, h.gens, wish⟩
    first
      | exact wpAny_bind (wpAny_pure (wpAny_bind rest))
      | exact wpAny_bind rest
  | @anon x c ts s1 sr np hp hds l names suite more ih =>
    intro wish
    obtain ⟨hit, hx, yes, no⟩ := wish
    refine wpAny_handleBy_cons (codeAny_handlers_test ?_) (by intro q; cases q)
    refine nameV names ((PySem.W.exm_one (M := model X.prog X.w) I1.kIn tyL hx).here ?_)
    cases hit with
    | false =>
      show wpAny _ X.A (handleBy (.ref a) X.env hds) _ _ _
      exact ih (no rfl)
    | true =>
      refine codeAny_handlers_suite (HandSPX.lands_againZ fly fun g2 fly2 up2 => ?_)
      obtain ⟨oe2, vs2, at2, zc2, fl2⟩ := fly2.there
      have S2 := (h.at fly2.1 (up.trans up2)).suite at2 fl2 h.free nL nF
      refine wpAny_mono ((suite a oe2 cls d (X.pn ++ pins) zc2 ⟨_, fl2⟩).run [] _ ρ G D S2 (yes rfl a h.free)) (fun fl s6 z => ?_) (fun _ _ z => z.elim)
      cases fl with
      | next => exact let ⟨_, _, S6, q6⟩ := z; ⟨_, _, S6.unsuite h.inv.ok, q6⟩
      | brk => exact let ⟨_, _, S6, q6⟩ := z; ⟨_, _, S6.unsuite h.inv.ok, q6⟩
      | cont => exact let ⟨_, _, S6, q6⟩ := z; ⟨_, _, S6.unsuite h.inv.ok, q6⟩
      | ret u => exact let ⟨_, _, _, S6, r6, q6⟩ := z; ⟨_, _, _, S6.unsuite h.inv.ok, r6, q6⟩
  | @named x n i c ts s1 sr np hp hds l names slot loc suite more ih =>
    intro wish
    obtain ⟨hit, hx, yes, no⟩ := wish
    refine wpAny_handleBy_cons (codeAny_handlers_test ?_) (by intro q; cases q)
    refine nameV names ((PySem.W.exm_one (M := model X.prog X.w) I1.kIn tyL hx).here ?_)
    cases hit with
    | false =>
      show wpAny _ X.A (handleBy (.ref a) X.env hds) _ _ _
      exact ih (no rfl)
    | true =>
      refine codeAny_handlers_suite_as (HandSPX.lands_againZ fly fun g2 fly2 up2 => ?_)
      obtain ⟨oe2, vs2, at2, zc2, fl2⟩ := fly2.there
      have S2 := (h.at fly2.1 (up.trans up2)).suite at2 fl2 h.free nL nF
      refine store_ok (X := X.suite a ((a, oe2) :: (X.pn ++ pins))) (v := .ref a) S2 nd slot (.inl loc) rfl (fun s5 S5 => ?_) (.inr loc)
      refine wpAny_mono ((suite a oe2 cls d (X.pn ++ pins) zc2 ⟨_, fl2⟩).run [] s5 _ G (goneE D (some i)) S5 (yes rfl a h.free)) (fun fl s6 z => ?_) (fun _ _ z => z.elim)
      have away : ∀ {ρ6 : L2.St} {G6 : Hp} {Q : Shared → Prop}, Inv (X.suite a ((a, oe2) :: (X.pn ++ pins))) [] ρ6 G6 s6 → (∀ s7, Inv X pins (ρ6.set i none) G6 s7 → Q s7) →
          wpAny (model X.prog X.w) X.A (do bindName X.env n .none; unbindBehindTheSuite X.env n hp) (fun _ s7 => Q s7) X.xe s6 := fun S6 k => gone_ok (S6.unsuite h.inv.ok) nd slot loc k
      cases fl with
      | next => exact let ⟨_, _, S6, q6⟩ := z; away S6 fun s7 J7 => ⟨_, _, J7, q6⟩
      | brk => exact let ⟨_, _, S6, q6⟩ := z; away S6 fun s7 J7 => ⟨_, _, J7, q6⟩
      | cont => exact let ⟨_, _, S6, q6⟩ := z; away S6 fun s7 J7 => ⟨_, _, J7, q6⟩
      | ret u => exact let ⟨_, _, _, S6, r6, q6⟩ := z; away S6 fun s7 J7 => ⟨_, _, _, J7, r6, q6⟩
variable {body : List Stmt} {h₀ : ExceptHandler} {hds : List ExceptHandler} {l : List Cl} {pos : Pos} {tb : WX → TS}
theorem ps_try_cl (stk : X.stack = X.env :: X.outer) (frm : X.env.frame = some X.env.locals) (nd : X.N.Nodup) (tk : Takes X Wout)
    (hb : ∀ (W : WX) (pn : List (Addr × Obj)) (xe : Value → Shared → Prop), Takes (X.tr pn xe) W → PassesOwn (model X.prog X.w) X.A X.env xe → PSs (X.tr pn xe) body (tb W)) (ok : ClOk X (h₀ :: hds) l) :
    PS X (.Try body (h₀ :: hds) [] [] pos) (fun D σ H => tb (wCl X.K Wout D l) D σ H) := by
  refine ⟨fun pins s σ H D I hw => ?_⟩
  have xok := I.ok
  have fr0 : X.A.frames = some (X.env :: X.outer) := by rw [xok.frames, stk]
  let land : Value → Shared → Prop := fun e t1 => wpAny (model X.prog X.w) X.A (noteFrame e X.env) (fun _ t2 => wpAny (model X.prog X.w) X.A (setFlight e none) (fun _ t3 => wpAny (model X.prog X.w) X.A (handleBy e X.env (h₀ :: hds)) (SP X pins D) X.xe t3) X.xe t2) X.xe t1
  have caught : Takes (X.tr (X.pn ++ pins) land) (wCl X.K Wout D l) := fun u s' fl => by
    obtain ⟨a, B, sI, pins2, ρ, G, cls, d, rfl, J2, nb, up, sky, na, os, ag, wish⟩ := fl
    have hh : Here X pins ρ G sI s' B a cls d := ⟨J2.ofTry xok, nb, up, na, os, ag, stk, frm⟩
    have sky2 : Sky B (X.env :: X.outer) a (Zc cls d) X.env.locals s'.heap := by rw [← stk]; exact sky
    exact Sky.land Zc.steady fr0 frm sky2 fun g fly up2 => clauses_run nd hh tk fly up2 ok wish
  refine wpAny_Try_except (wpAny_mono ((hb _ (X.pn ++ pins) land caught PassesOwn.looking).run [] s σ H D (I.toTry _) hw) (fun fl s1 z => ?_) (fun e s1 he => he))
  cases fl with
  | next => exact let ⟨_, _, J2, q⟩ := z; wpAny_execs_nil ⟨_, _, J2.ofTry xok, q⟩
  | brk => exact let ⟨_, _, J2, q⟩ := z; ⟨_, _, J2.ofTry xok, q⟩
  | cont => exact let ⟨_, _, J2, q⟩ := z; ⟨_, _, J2.ofTry xok, q⟩
  | ret u => exact let ⟨_, _, _, J2, r, q⟩ := z; ⟨_, _, _, J2.ofTry xok, r, q⟩
end


/-! ### try, without the heap -/
/-- a clause: its class; where it has a name: the slot, and the class that just comes there -/
structure DH where
  c : Value
  o : Option (Nat × Addr)
  xs : Addr → XS
def goneD (D : XD) (i : Nat) : XD := { nx := fun es => D.nx (es.set i .no), rt := D.rt, bk := fun es => D.bk (es.set i .no), ct := fun es => D.ct (es.set i .no), xn := fun _ _ => False }
def dSel (K : PySem.W.Frag) (D : XD) : List DH → DX
  | [] => D.xn
  | h :: r => fun x es => ∃ hit, PySem.W.exmOne K (.ref x.cls) h.c = some hit ∧ (hit = true → match h.o with
      | none => h.xs 0 { D with xn := fun _ _ => False } es
      | some (i, C0) => x.cls = C0 ∧ x.fld = none ∧ (∃ e0, es[i]? = some e0 ∧ e0.free = true) ∧ ∀ a, h.xs a (goneD D i) (es.set i (.val (.adr a)))) ∧ (hit = false → dSel K D r x es)
def dTry (K : PySem.W.Frag) (tb : XS) (l : List DH) : XS := fun D es => tb { D with xn := dSel K D l } es
inductive ClX (X : Cx) : List ExceptHandler → List DH → Prop
  | nil : ClX X [] []
  | anon {x : Str} {c : Value} {xs : XS} {s1 : Stmt} {sr : List Stmt} {np hp : Pos} {hds : List ExceptHandler} {l : List DH} (names : Names X x c)
      (suite : ∀ (a : Addr) (oe : Obj) (pn : List (Addr × Obj)), PSsX (X.suite a ((a, oe) :: pn)) (s1 :: sr) xs) (more : ClX X hds l) : ClX X (.ExceptHandler (some (.Name x np)) none (s1 :: sr) hp :: hds) (⟨c, none, fun _ => xs⟩ :: l)
  | named {x n : Str} {i : Nat} {c : Value} {C0 : Addr} {xs : Addr → XS} {s1 : Stmt} {sr : List Stmt} {np hp : Pos} {hds : List ExceptHandler} {l : List DH} (names : Names X x c) (slot : X.N[i]? = some n) (loc : X.env.kindOf n = some .local)
      (suite : ∀ (a : Addr) (oe : Obj) (pn : List (Addr × Obj)), Zc (.ref C0) none oe → (∃ vs, oe.data = .fields vs) → PSsX (X.suite a ((a, oe) :: pn)) (s1 :: sr) (xs a)) (more : ClX X hds l) : ClX X (.ExceptHandler (some (.Name x np)) (some n) (s1 :: sr) hp :: hds) (⟨c, some (i, C0), xs⟩ :: l)
def tsOf (K : PySem.W.Frag) (h : DH) : Addr → Value → Option Addr → TS := fun a cls d D σ H => (∀ p, h.o = some p → cls = .ref p.2 ∧ d = none) ∧ upS K noX (h.xs a) D σ H
def clOf (K : PySem.W.Frag) (h : DH) : Cl := (h.c, h.o.map (·.1), match h.o with | none => fun _ cls d => tsOf K h 0 cls d | some _ => tsOf K h)
section
variable {X : Cx}
theorem PSs.from {sts : List Stmt} {t : TS} {p : Prop} {t' : TS} (h : p → PSs X sts t) (k : ∀ D σ H, t' D σ H → p ∧ t D σ H) : PSs X sts t' := ⟨fun pins s σ H D I q => (h (k _ _ _ q).1).run pins s σ H D I (k _ _ _ q).2⟩
theorem ClX.ok {hds : List ExceptHandler} {l : List DH} (h : ClX X hds l) : ClOk X hds (l.map (clOf X.K)) := by
  induction h with
  | nil => exact .nil
  | anon names suite more ih =>
    exact .anon names (fun a oe cls d pn _ _ => PSs.from (p := True) (fun _ => suite a oe pn PassesOwn.never noX takes0) fun D σ H q => ⟨trivial, q.2⟩) ih
  | named names slot loc suite more ih =>
    exact .named names slot loc (fun a oe cls d pn hz hf => PSs.from (fun hp => by
      obtain ⟨rfl, rfl⟩ := hp
      exact suite a oe pn hz hf PassesOwn.never noX takes0) fun D σ H q => ⟨q.1 _ rfl, q.2⟩) ih
theorem Stt.drop {K : PySem.W.Frag} {w : Ow} {H : Hp} {σ : L2.St} {es : List E} {i : Nat} (s : Stt K w H σ es) : Stt K w H (σ.set i none) (es.set i .no) where
  sl := fun j e hj => by
    rcases set_get hj with ⟨rfl, rfl⟩ | ⟨n, hj⟩
    · trivial
    · rw [List.getElem?_set_ne n]
      exact s.sl j e hj
  lv := s.lv
  ln := by rw [List.length_set, List.length_set]; exact s.ln
theorem sel_imp {K : PySem.W.Frag} {W : WX} {D : Ends} {xd : XD} {w w2 : Ow} {H H2 : Hp} {x : Exn} {σ2 : L2.St} {cls : Value} {dd : Option Addr}
    (k1 : ∀ es2 σ2 H2 w2, xd.nx es2 → Stt K w2 H2 σ2 es2 → Fr w H w2 H2 → D.nx σ2 H2) (k2 : ∀ dv es2 v σ2 H2 w2, xd.rt dv es2 → Stt K w2 H2 σ2 es2 → Holds K w2 H2 1 v dv → Fr w H w2 H2 → D.rt v H2)
    (k3 : ∀ es2 σ2 H2 w2, xd.bk es2 → Stt K w2 H2 σ2 es2 → Fr w H w2 H2 → D.bk σ2 H2) (k4 : ∀ es2 σ2 H2 w2, xd.ct es2 → Stt K w2 H2 σ2 es2 → Fr w H w2 H2 → D.ct σ2 H2)
    (k5 : ∀ x es2 σ2 H2 w2 cls dd, xd.xn x es2 → Stt K w2 H2 σ2 es2 → Fr w H w2 H2 → IsX K w2 H2 x cls dd → W cls dd σ2 H2) : ∀ {l : List DH} {es2 : List E}, dSel K xd l x es2 → Stt K w2 H2 σ2 es2 → Fr w H w2 H2 → IsX K w2 H2 x cls dd → wCl K W D (l.map (clOf K)) cls dd σ2 H2
  | [], es2, h, s2, f2, ix => k5 _ _ _ _ _ _ _ h s2 f2 ix
  | ⟨c, none, xs⟩ :: l, es2, ⟨hit, hx, yes, no⟩, s2, f2, ix => by
    refine ⟨hit, by rw [ix.1]; exact hx, fun e a ha => ⟨fun p z => (nomatch z), w2, es2, _, s2, yes e, fun es3 σ3 H3 w3 q s3 f3 => k1 _ _ _ _ q s3 (f2.trans f3), fun dv es3 v σ3 H3 w3 q s3 h3 f3 => k2 _ _ _ _ _ _ q s3 h3 (f2.trans f3),
      fun es3 σ3 H3 w3 q s3 f3 => k3 _ _ _ _ q s3 (f2.trans f3), fun es3 σ3 H3 w3 q s3 f3 => k4 _ _ _ _ q s3 (f2.trans f3), fun x es3 σ3 H3 w3 cls dd z => z.elim⟩, fun e => sel_imp k1 k2 k3 k4 k5 (no e) s2 f2 ix⟩
  | ⟨c, some (i, C0), xs⟩ :: l, es2, ⟨hit, hx, yes, no⟩, s2, f2, ix => by
    refine ⟨hit, by rw [ix.1]; exact hx, fun e a ha => ?_, fun e => sel_imp k1 k2 k3 k4 k5 (no e) s2 f2 ix⟩
    obtain ⟨ec, ef, ⟨e0, he, hf⟩, q⟩ := yes e
    have i2 := ix.2
    rw [ef] at i2
    refine ⟨fun p z => by cases z; exact ⟨by rw [ix.1, ec], i2⟩, give w2 i, _, _, s2.store (.of (.adr a)) he hf, q a, fun es3 σ3 H3 w3 q s3 f3 => k1 _ _ _ _ q s3.drop ((f2.trans give_fr).trans f3), fun dv es3 v σ3 H3 w3 q s3 h3 f3 => k2 _ _ _ _ _ _ q s3 h3 ((f2.trans give_fr).trans f3),
      fun es3 σ3 H3 w3 q s3 f3 => k3 _ _ _ _ q s3.drop ((f2.trans give_fr).trans f3), fun es3 σ3 H3 w3 q s3 f3 => k4 _ _ _ _ q s3.drop ((f2.trans give_fr).trans f3), fun x es3 σ3 H3 w3 cls dd z => z.elim⟩
theorem s_try {body : List Stmt} {h₀ : ExceptHandler} {hds : List ExceptHandler} {l : List DH} {pos : Pos} {tb : XS} (stk : X.stack = X.env :: X.outer) (frm : X.env.frame = some X.env.locals) (nd : X.N.Nodup)
    (hb : ∀ (pn : List (Addr × Obj)) (xe : Value → Shared → Prop), PSsX (X.tr pn xe) body tb) (ok : ClX X (h₀ :: hds) l) : PSX X (.Try body (h₀ :: hds) [] [] pos) (dTry X.K tb l) := fun hp W tk =>
  PS.weak (ps_try_cl (tb := fun W => upS X.K W tb) stk frm nd tk (fun W pn xe tk po => hb pn xe po W tk) ok.ok) fun D σ H ⟨w, es, xd, s, q, k1, k2, k3, k4, k5⟩ =>
    ⟨w, es, _, s, q, k1, k2, k3, k4, fun x es2 σ2 H2 w2 cls dd hs s2 f2 ix => sel_imp k1 k2 k3 k4 k5 hs s2 f2 ix⟩
/-- isinstance(e, C) of the error that a suite holds -/
def clsD : D → Option Value
  | .adr a => some (.ref a)
  | .ty n => some (.type n)
  | _ => none
def gIsE (K : PySem.W.Frag) (C0 a : Addr) : G2 := fun x y G => x = .adr a ∧ ∃ cv b, clsD y = some cv ∧ PySem.W.kitOne K (.ref C0) cv = some b ∧ G (.bl b)
theorem c_isE {a C0 : Addr} {oe : Obj} {pn : List (Addr × Obj)} (C : ExcC X.K C0) (hz : Zc (.ref C0) none oe) (hf : ∃ vs, oe.data = .fields vs) : C2 (X.suite a ((a, oe) :: pn)) (.builtin "isinstance") (gIsE X.K C0 a) := ⟨_, call_isE C hz hf, fun w H x y d1 d2 G Q lv hx hy ⟨e1, cv, b, ec, hk, hg⟩ k => by
  subst e1
  have ex := hx.adr
  subst ex
  refine ⟨y, cv, b, rfl, fun u ru => ?_, hk, k _ _ H hg (.same (.bl _))⟩
  cases d2 with
  | adr q =>
    cases ec
    have ey := hy.adr
    subst ey
    exact ru
  | ty n =>
    cases ec
    have ey := hy.ty
    subst ey
    exact ru
  | _ => exact nomatch ec⟩
end


/-! ### the forms that a text is made of -/
section
variable {X : Cx} {a b c : Expr} {da db : XE} {op : Operator} {cop : CmpOp} {g : G2} {g1 : G1} {pos p : Pos} {i : Nat} {x : Str} {id T : String}
theorem x_op (o : O2 X (binaryOp op) g) (ha : PFX X a da) (hb : POX X b db) : PEX X (.BinOp a op b pos) (dOp g da db) := by
  obtain ⟨r, h, l⟩ := o
  exact x_bin (fun h1 h2 => pe_op h h1 h2) l ha hb
theorem x_opV (o : O2 X (binaryOp op) g) (ha : PE X a (tVar i)) (hb : POX X b db) : PEX X (.BinOp a op b pos) (dOpV g i db) := by
  obtain ⟨r, h, l⟩ := o
  exact x_binV (fun h1 h2 => pe_op h h1 h2) l ha hb
theorem x_cmp (o : O2 X (compareOp cop) g) (ha : PFX X a da) (hb : POX X b db) (hm : behindInMarks cop b = false) : PEX X (.Compare a [cop] [b] pos) (dOp g da db) := by
  obtain ⟨r, h, l⟩ := o
  exact x_bin (fun h1 h2 => pe_cmpR h h1 h2 hm) l ha hb
theorem x_cmpV (o : O2 X (compareOp cop) g) (ha : PE X a (tVar i)) (hb : POX X b db) (hm : behindInMarks cop b = false) : PEX X (.Compare a [cop] [b] pos) (dOpV g i db) := by
  obtain ⟨r, h, l⟩ := o
  exact x_binV (fun h1 h2 => pe_cmpR h h1 h2 hm) l ha hb
theorem t_cm (o : O2 X (compareOp cop) g) (ha : PFX X a da) (hb : POX X b db) (hm : behindInMarks cop b = false) : PTX X (.Compare a [cop] [b] pos) (dTest (dOp g da db)) := by
  obtain ⟨r, h, l⟩ := o
  exact t_cmp h l ha hb hm
theorem t_cmV (o : O2 X (compareOp cop) g) (ha : PE X a (tVar i)) (hb : POX X b db) (hm : behindInMarks cop b = false) : PTX X (.Compare a [cop] [b] pos) (dTest (dOpV g i db)) := by
  obtain ⟨r, h, l⟩ := o
  exact t_cmpV h l ha hb hm
theorem x_ix (ha : PFX X a da) (hb : POX X b db) (hs : PlainIx b) : PEX X (.Subscript a b pos) (dOp gIx da db) := by
  obtain ⟨r, h, l⟩ := i_ix (X := X)
  exact x_bin (fun h1 h2 => pe_ix h h1 h2 hs) l ha hb
theorem x_ixV (ha : PE X a (tVar i)) (hb : POX X b db) (hs : PlainIx b) : PEX X (.Subscript a b pos) (dOpV gIx i db) := by
  obtain ⟨r, h, l⟩ := i_ix (X := X)
  exact x_binV (fun h1 h2 => pe_ix h h1 h2 hs) l ha hb
def gNeg : G1 := fun x G => match x with
  | .int i => G (.int (-i))
  | _ => False
theorem x_neg (ha : POX X a da) : PEX X (.UnaryOp .USub a pos) (dUn gNeg da) := x_un (fun h => pe_un un_neg h) (fun w H x d1 G Q lv hx hg k => by
  unfold gNeg at hg
  split at hg
  · exact ⟨_, hx.int, k _ _ H hg (.same (.int _))⟩
  · exact hg.elim) ha
theorem x_glob {v : V} {u : Value} {d : D} (hg : Gl X x) (hm : X.mg x = some u) (r : RelV v u) (h : ∀ F H, Rp X.K F H v d []) (hd : (x == ("__debug__" : Str)) = false := by decide) : PFX X (.Name x pos) (dC d) := x_c (pe_glob hg hm r hd) h
theorem x_gstr {y : Str} {t : Tok} (hg : Gl X x) (hm : X.mg x = some (.str y t)) (z : okS y.cps.toList) (hd : (x == ("__debug__" : Str)) = false := by decide) : PFX X (.Name x pos) (dC (.str y.cps.toList)) := x_c (v := .str y) (pe_glob hg hm ⟨_, rfl⟩ hd) fun F H => by
  have r := Rp.str (K := X.K) (F := F) (H := H) y.cps.toList z
  rw [S_list] at r
  exact r
theorem x_gint {y : Int} {t : Tok} (hg : Gl X x) (hm : X.mg x = some (.int y t)) (hd : (x == ("__debug__" : Str)) = false := by decide) : PFX X (.Name x pos) (dC (.int y)) := x_c (v := .int y) (pe_glob hg hm ⟨_, rfl⟩ hd) fun F H => .int y
theorem x_gcls {C : Addr} (hg : Gl X x) (hm : X.mg x = some (.ref C)) (hd : (x == ("__debug__" : Str)) = false := by decide) : PFX X (.Name x pos) (dC (.adr C)) := x_c (v := .ref C) (pe_glob hg hm rfl hd) fun F H => .adr C
theorem x_gty (hg : Gl X x) (hm : X.mg x = none) (hv : bootBuiltins x = some (.type T)) (hn : x ≠ "__name__" := by decide) (hd : (x == ("__debug__" : Str)) = false := by decide) : PFX X (.Name x pos) (dC (.ty T)) := x_c (v := .ty T) (pe_bltn hg hm hv rfl hn hd) fun F H => .ty T
theorem x_b1 (o : C1 X (.builtin id) g1) (hg : Gl X x) (hm : X.mg x = none) (hv : bootBuiltins x = some (.builtin id)) (ha : POX X a da) (hn : x ≠ "__name__" := by decide) (hdb : (x == ("__debug__" : Str)) = false := by decide)
    (hs : starEach [a] X.env = (false, eval a X.env) :: starEach [] X.env := by rfl) (hpl : (backTo pos (starEach [] X.env)).any (·.1) = false := by rfl) : PEX X (.Call (.Name x p) [a] [] pos) (dUn g1 da) :=
  x_c1 o (fun r hc t h => pe_callB hc hg hm hv h hn hdb hs hpl) ha hs
theorem x_t1 (o : C1 X (.type T) g1) (hg : Gl X x) (hm : X.mg x = none) (hv : bootBuiltins x = some (.type T)) (ha : POX X a da) (hn : x ≠ "__name__" := by decide) (hdb : (x == ("__debug__" : Str)) = false := by decide)
    (hs : starEach [a] X.env = (false, eval a X.env) :: starEach [] X.env := by rfl) (hpl : (backTo pos (starEach [] X.env)).any (·.1) = false := by rfl) : PEX X (.Call (.Name x p) [a] [] pos) (dUn g1 da) :=
  x_c1 o (fun r hc t h => pe_callTy hc hg hm hv h hn hdb hs hpl) ha hs
theorem x_b2 (o : C2 X (.builtin id) g) (hg : Gl X x) (hm : X.mg x = none) (hv : bootBuiltins x = some (.builtin id)) (ha : PFX X a da) (hb : POX X b db) (hn : x ≠ "__name__" := by decide) (hdb : (x == ("__debug__" : Str)) = false := by decide)
    (hs : starEach [a, b] X.env = (false, eval a X.env) :: starEach [b] X.env := by rfl) (hs2 : starEach [b] X.env = (false, eval b X.env) :: starEach [] X.env := by rfl) (hpl : (backTo pos (starEach [b] X.env)).any (·.1) = false := by rfl) : PEX X (.Call (.Name x p) [a, b] [] pos) (dOp g da db) :=
  x_c2 o (fun r hc t h => pe_callB hc hg hm hv h hn hdb hs hpl) ha hb hs hs2
theorem x_b2V (o : C2 X (.builtin id) g) (hg : Gl X x) (hm : X.mg x = none) (hv : bootBuiltins x = some (.builtin id)) (ha : PE X a (tVar i)) (hb : POX X b db) (hn : x ≠ "__name__" := by decide) (hdb : (x == ("__debug__" : Str)) = false := by decide)
    (hs : starEach [a, b] X.env = (false, eval a X.env) :: starEach [b] X.env := by rfl) (hs2 : starEach [b] X.env = (false, eval b X.env) :: starEach [] X.env := by rfl) (hpl : (backTo pos (starEach [b] X.env)).any (·.1) = false := by rfl) : PEX X (.Call (.Name x p) [a, b] [] pos) (dOpV g i db) :=
  x_c2V o (fun r hc t h => pe_callB hc hg hm hv h hn hdb hs hpl) ha hb hs hs2
/-! a[::-1] -/
def gRevS : G1 := fun x G => match x with
  | .str s => G (.str s.reverse)
  | _ => False
theorem rev_pick (s : List Nat) : ((Builtin.Str.strSliceIndices none none (-1) s.length).filterMap ((S s).cps[·]?)) = s.reverse := by
  have e0 : Builtin.Str.strSliceIndices none none (-1) s.length = sliceRange ((s.length : Int) - 1) (-1) (-1) := rfl
  rw [e0, PySem.W.krv_sliceRange, PySem.W.krv_range, List.filterMap_reverse]
  congr 1
  have e := PySem.W.krv_all (S s).cps
  have e1 : (S s).cps.size = s.length := List.size_toArray
  rw [e1] at e
  exact e
theorem pe_revS {te : TE} {j : Nat} {q1 q2 q3 : Pos} (he : PE X a te) : PE X (.Subscript a (.Slice none none (some (.UnaryOp .USub (.Constant (.int 1) j q1) q2)) q3) pos) (fun σ H Q => te σ H fun x H1 => ∃ s, x = .str (S s) ∧ s.length ≤ sizeLine ∧ Q (.str (S s.reverse)) H1) := by
  refine ⟨fun pins s σ H Q I h => Subscript_ (thn (he.run pins s σ H _ I h) fun v t1 hv => ?_)⟩
  obtain ⟨x, H1, I1, r1, l, rfl, hz, q⟩ := hv
  obtain ⟨tk, rfl⟩ := r1
  have part : PO X (some (.UnaryOp .USub (.Constant (.int 1) j q1) q2)) (tPart (tUn (rU fun n => .int (-n)) (tC (.int 1)))) := po_some (pe_un un_neg pe_int)
  refine wpAny_Slice (thn (po_none.run pins t1 σ H1 (fun o G => o = none ∧ G = H1) I1 ⟨rfl, rfl⟩) fun v1 t2 z1 => ?_)
  obtain ⟨o1, G1, I2, p1, rfl, rfl⟩ := z1
  refine thn (po_none.run pins t2 σ G1 (fun o G => o = none ∧ G = G1) I2 ⟨rfl, rfl⟩) fun v2 t3 z2 => ?_
  obtain ⟨o2, G2, I3, p2, rfl, rfl⟩ := z2
  refine thn (part.run pins t3 σ G2 (fun o G => o = some (-1) ∧ G = G2) I3 ⟨1, rfl, -1, rfl, rfl, rfl⟩) fun v3 t4 z3 => ?_
  obtain ⟨o3, G3, I4, p3, rfl, rfl⟩ := z3
  have I5 : Inv X pins σ G3 { t4 with heap := t4.heap.push { cls := .type "slice", data := .fields #[v1, v2, v3] } } := I4.kept (t' := t4.toks) fun b ob z => Heap.get?_push_of_some _ z
  have tail : wpAny (model X.prog X.w) X.A (getItem (.str (S l) tk) (.ref t4.heap.objs.size)) (EP X pins σ Q) X.xe { t4 with heap := t4.heap.push { cls := .type "slice", data := .fields #[v1, v2, v3] } } := by
    obtain ⟨l1, rfl, e1⟩ := IsPart.raw p1
    obtain ⟨l2, rfl, e2⟩ := IsPart.raw p2
    obtain ⟨l3, rfl, e3⟩ := IsPart.raw p3
    refine wpAny_getItem_str_slice (l := l1) (u := l2) (st := l3) (Heap.IsSliceOf.new _ _ _ _) (by rw [e3]; rfl) ?_
    unfold sliceMade slicePicked
    rw [e1, e2, e3, S_len]
    show Made.post (if ((-1 : Int) == 1 && (Builtin.Str.strSliceIndices none none (-1) l.length).length == l.length) = true then Made.val (.str (S l) tk) else Made.str ⟨((Builtin.Str.strSliceIndices none none (-1) l.length).filterMap ((S l).cps[·]?)).toArray⟩) _ _
    rw [if_neg (by simp), rev_pick]
    exact ⟨by show l.reverse.toArray.size ≤ _; rw [List.size_toArray, List.length_reverse]; exact hz, ⟨.str (S l.reverse), _, I5.tok _, ⟨_, rfl⟩, q⟩⟩
  exact tail_any (T := "str") (ops := [.str (S l) tk, .ref t4.heap.objs.size]) (typeIs_str _ _ _) PySem.F.slot_str_getitem.lookup tail (by with_unfolding_all rfl)
theorem x_revS {j : Nat} {q1 q2 q3 : Pos} (ha : POX X a da) : PEX X (.Subscript a (.Slice none none (some (.UnaryOp .USub (.Constant (.int 1) j q1) q2)) q3) pos) (dUn gRevS da) := fun W tk =>
  PE.weak (pe_revS (ha W tk)) fun σ H Q q => un_imp (r := fun x H1 Q => ∃ s, x = .str (S s) ∧ s.length ≤ sizeLine ∧ Q (.str (S s.reverse)) H1) (fun w H x d1 G Q lv hx hg k => by
    unfold gRevS at hg
    split at hg
    · obtain ⟨e, z⟩ := hx.str
      exact ⟨_, e, z.1, k _ _ H hg (.same (.str _ ⟨by rw [List.length_reverse]; exact z.1, fun c hc => z.2 c (List.mem_reverse.mp hc)⟩))⟩
    · exact hg.elim) q
/-! x += e, of ints -/
theorem s_augI {op : Operator} {f : Int → Int → Int} {pos' : Pos} (ho : PIp X op (ipI f)) (hN : X.N.Nodup) (hi : X.N[i]? = some x) (hx : Loc X.env.scope x) (he : POX X a da)
    (hf : X.fn x = true ∨ X.env.scope.names.lookup x = some .local := by first | exact .inl rfl | exact .inr rfl) : PSX X (.AugAssign (.Name x pos') op a pos) (dAug i f da) := s_aug ho (fun h => ps_aug hN hi hx h ho hf) he
end
/-! ### a def as its callers see it -/
structure Fn (P : Program) (w : World) (K : PySem.W.Frag) (mg : Str → Option Value) (base : Heap) (k : Nat) (x : Str) (sp : DSp) : Prop where
  ex : ∃ (f : Addr) (fd : FuncData) (ps : List Str), FnOk P w K mg base (L2.CX P w) k f fd ps (spOf K sp) ∧ mg x = some (.ref f) ∧ PySem.W.keepIn K (.ref f) = true ∧ Binds K fd ps []
theorem x_fn {X : Cx} {k : Nat} {sp : DSp} {x : Str} {p pos : Pos} {e : Expr} {es : List Expr} {da : XA} (F : Fn X.prog X.w X.K X.mg X.base k x sp) (hr : Room k X.A) (hg : Gl X x) (ha : PAX X (e :: es) da)
    (hdb : (x == ("__debug__" : Str)) = false := by decide) (he : starEach (e :: es) X.env = (false, eval e X.env) :: starEach es X.env := by rfl) (hpl : (backTo pos (starEach es X.env)).any (·.1) = false := by rfl) : PEX X (.Call (.Name x p) (e :: es) [] pos) (dCall sp da) := by
  obtain ⟨f, fd, ps, F, hm, hk, hb⟩ := F.ex
  exact x_call F hr hg hm hk hb ha hdb he hpl
/-- a def of the top as it stands -/
structure At (K : PySem.W.Frag) (mg : Str → Option Value) (x : Str) (st : Stmt) (ps : List Str) : Prop where
  ex : ∃ (f : Addr) (fd : FuncData), Fun K x x st f fd ∧ mg x = some (.ref f) ∧ Binds K fd ps []
theorem fn_def {P : Program} {w : World} {K : PySem.W.Frag} {mg : Str → Option Value} {base : Heap} {x : Str} {st : Stmt} {N ps : List Str} {k : Nat} {sp : DSp} {xs : XS} (F : At K mg x st ps) (Sc : FnScope N ps (defScope st)) (hn : ∀ args R RX, sp args R RX → args.length = ps.length)
    (hb : ∀ (f : Addr) (cdv : Value) (A : Around) (outer : List Env) (s : Shared) (H : Hp) (EX : XK), Room k (A.deeper (envOfC x (defScope st) s.heap.objs.size f cdv)) → PSsX (cxOf (L2.CX P w) P w K mg base N x (defScope st) f cdv A outer s H EX) (defBody st) xs)
    (hv : ∀ args R RX, sp args R RX → ∀ ad : Nat → Addr, xs { nx := fun es => ∃ a2, back ad es 0 args a2 ∧ R .non a2, rt := fun d es => ∃ a2, back ad es 0 args a2 ∧ R d a2, xn := fun x es => ∃ a2, back ad es 0 args a2 ∧ RX x a2 } (entry ad 0 args ++ List.replicate (N.length - args.length) .no)) :
    Fn P w K mg base (k + 1) x sp := by
  obtain ⟨f, fd, F, hm, hbi⟩ := F.ex
  exact ⟨f, fd, ps, ok_def F Sc hn (fun cdv A outer s H EX hr => hb f cdv A outer s H EX hr) hv, hm, F.kp, hbi⟩
theorem at_mk {K : PySem.W.Frag} {h : Heap} {mg : Str → Option Value} {x : Str} {st : Stmt} {ps : List Str} {f : Addr} {oc : Value} {od an : Option Addr} {osl : Array (Option Value)} {kV doc pm cdv ct : Value} (Kin : K.In h) (G : h.Ns mainGlobals mg)
    (a : PySem.W.nsIn K mainGlobals x = some (some (.ref f))) (l : K.lookup f = some ⟨oc, od, .func (PySem.W.fnOf x x (defArgs st) (defBody st) (defScope st) .none kV doc pm an cdv ct), osl⟩) (c : PySem.W.codeIn K cdv x = true) (k : PySem.W.keepIn K (.ref f) = true)
    (hb : ∀ (kV doc pm : Value) (an : Option Addr) (cdv ct : Value) (us : List Value), us.length = ps.length → bindArgs (PySem.W.fnOf x x (defArgs st) (defBody st) (defScope st) .none kV doc pm an cdv ct) ⟨us, []⟩ = pure (ps.zip us)) : At K mg x st ps :=
  ⟨f, _, fun_mk l c k, PySem.W.mg_of Kin G a, (fun_mk l c k).binds hb⟩


/-- the signs of a written text -/
def lit (x : Str) : List Nat := x.cps.toList
theorem okS_of {s : List Nat} (h : (decide (s.length ≤ 1000000) && s.all (fun c => decide (c < 128))) = true) : okS s := by
  rw [Bool.and_eq_true, decide_eq_true_eq, List.all_eq_true] at h
  exact ⟨Nat.le_trans h.1 (by rw [sizeLine_eq]; decide), fun c hc => of_decide_eq_true (h.2 c hc)⟩
/-! ### {k: v, ..} -/
def keyD : D → Option Key
  | .str s => some (.inr (S s))
  | .int i => some (.inl i)
  | _ => none
def dPs : List (XE × XE) → List E → (List (Key × D) → List E → Prop) → DX → Prop
  | [], es, Q, _ => Q [] es
  | (k, v) :: r, es, Q, QX => k es (fun dk es1 => ∃ key, keyD dk = some key ∧ v es1 (fun dv es2 => dPs r es2 (fun kds es3 => Q ((key, dv) :: kds) es3) QX) QX) QX
def dDict (ps : List (XE × XE)) : XE := fun es Q QX => dPs ps es (fun kds es2 => kds.length ≤ 15 ∧ (kds.map (·.1)).Nodup ∧ Q (.dic kds) es2) QX
abbrev dPNil : List (XE × XE) := []
abbrev dPCons (a b : XE) (r : List (XE × XE)) : List (XE × XE) := (a, b) :: r
section
variable {K : PySem.W.Frag} {W : WX} {w : Ow} {H : Hp} {σ : L2.St} {es : List E}
theorem keyD_rel {F H : Hp} {v : V} {d : D} {key : Key} (h : keyD d = some key) (r : Rp K F H v d []) : v = kV key := by
  cases r <;> first | (cases h; rfl) | exact nomatch h
theorem pairs_imp : ∀ {ps : List (XE × XE)} {es : List E} {w : Ow} {H : Hp} {R : List (Key × D) → List E → Prop} {RX : DX} {Q : List (V × V) → Hp → Prop}, Stt K w H σ es → dPs ps es R RX →
    (∀ kds es2 (vs : List V) H2 w2, R kds es2 → Stt K w2 H2 σ es2 → Rps K (fz w2 H2) H2 vs (kds.map (·.2)) [] → Fr w H w2 H2 → Q (((kds.map (·.1)).zip vs).map fun kv => (kV kv.1, kv.2)) H2) → XOk K W w H σ RX →
    tPairs (ps.map fun p => (upF K W p.1, upF K W p.2)) σ H Q
  | [], es, w, H, R, RX, Q, s, h, k, kx => k [] es [] H w h s .nil .refl
  | (a, b) :: r, es, w, H, R, RX, Q, s, h, k, kx => ⟨w, es, _, RX, s, h, fun dk es1 x H1 w1 ⟨key, ek, q1⟩ s1 r1 f1 => ⟨w1, es1, _, RX, s1, q1, fun dv es2 y H2 w2 q2 s2 r2 f2 => by
      have ex := keyD_rel ek r1
      subst ex
      exact pairs_imp s2 q2 (fun kds es3 vs H3 w3 q3 s3 r3 f3 => k ((key, dv) :: kds) es3 (y :: vs) H3 w3 q3 s3 (.cons0 (f3.rp r2) r3) ((f1.trans f2).trans f3)) ((kx.fr f1).fr f2), kx.fr f1⟩, kx⟩
theorem put_new {acc : List (Key × V)} {k : Key} {v : V} (h : k ∉ acc.map (·.1)) : putK acc k v = acc ++ [(k, v)] := by
  unfold putK
  rw [if_neg]
  intro e
  obtain ⟨p, hp, e2⟩ := List.any_eq_true.mp e
  exact h (List.mem_map.mpr ⟨p, hp, of_decide_eq_true e2⟩)
theorem merge_nd : ∀ (kvs acc : List (Key × V)), ((acc ++ kvs).map (·.1)).Nodup → mergeK acc kvs = acc ++ kvs
  | [], acc, _ => by simp [mergeK]
  | p :: r, acc, h => by
    have e : mergeK acc (p :: r) = mergeK (putK acc p.1 p.2) r := rfl
    have hp : p.1 ∉ acc.map (·.1) := by
      rw [List.map_append, List.map_cons, List.nodup_append] at h
      intro hm
      exact h.2.2 _ hm _ List.mem_cons_self rfl
    rw [e, put_new hp, merge_nd r]
    · simp
    · simpa using h
theorem zip_parts : ∀ (l : List (Key × D)), (l.map (·.1)).zip (l.map (·.2)) = l
  | [] => rfl
  | p :: r => by simp [zip_parts r]
def PPX (X : Cx) (pos : Pos) (ks : List (Option Expr)) (vs : List Expr) (ps : List (XE × XE)) : Prop := ∀ W, Takes X W → PPs X pos ks vs (ps.map fun p => (upF X.K W p.1, upF X.K W p.2))
theorem p_nil' {X : Cx} {pos : Pos} : PPX X pos [] [] dPNil := fun W tk => pps_nil
theorem pp_cons {X : Cx} {pos : Pos} {k v : Expr} {ks : List (Option Expr)} {vs : List Expr} {a b : XE} {r : List (XE × XE)} (hk : PFX X k a) (hv : PFX X v b) (hr : PPX X pos ks vs r) : PPX X pos (some k :: ks) (v :: vs) (dPCons a b r) := fun W tk => pps_cons (hk W tk) (hv W tk) (hr W tk)
theorem x_dict {X : Cx} {pos : Pos} {ks : List (Option Expr)} {vs : List Expr} {ps : List (XE × XE)} (h : PPX X pos ks vs ps) (hall : ks.all (·.isSome) = true := by rfl) (hl : ks.length = vs.length := by rfl) (h0 : ks ≠ [] := by exact (fun z => nomatch z)) (h15 : ks.length ≤ 15 := by decide) :
    PFX X (.Dict ks vs pos) (dDict ps) := fun W tk => PE.weak (pe_disp (h W tk) hall hl h0 h15) fun σ H Q ⟨w, es, R, RX, s, q, k, kx⟩ => fun p hp => by
  have wp : w p = none := s.fresh hp
  have f0 : ∀ a o, fz w H a = some o → fz (tag w p 0) (upd H p (.dK [])) a = some o := fun a o h => by
    obtain ⟨h1, h2⟩ := fz_of h
    have n : a ≠ p := fun e => by subst e; rw [hp] at h2; cases h2
    exact of_fz (by rw [tag_ne n]; exact h1) (by rw [upd_ne n]; exact h2)
  have s2 : Stt X.K (tag w p 0) (upd H p (.dK [])) σ es := s.retag (.inl wp) f0 (fun a o _ n h => by rw [upd_ne n]; exact h) (by rw [upd_same]; simp)
  have fd0 : FrD p w H (tag w p 0) (upd H p (.dK [])) := ⟨fun a o h _ => up_new hp a o h, fun a n => by rw [tag_ne n], fun a h c => by
    have n : a ≠ p := fun e => by subst e; exact h hp
    rw [tag_ne n]; exact c⟩
  have fin : ∀ {w2 H2} (o : HO), Fr (tag w p 0) (upd H p (.dK [])) w2 H2 → Fr w H (fun a => if a = p then none else w2 a) (upd H2 p o) := fun {w2 H2} o f => by
    have fd := fd0.go f hp
    refine ⟨fun a o h c => ?_, fun a => ?_, fun a h c => ?_⟩
    · have n : a ≠ p := fun e => by subst e; rw [hp] at h; cases h
      rw [upd_ne n]
      exact fd.keep a o h c
    · by_cases e : a = p
      · subst e; rw [wp]; simp
      · rw [if_neg e]; exact fd.outer a e
    · by_cases e : a = p
      · rw [if_pos e]
      · rw [if_neg e]; exact fd.froz a h c
  have sfin : ∀ {w2 H2 es2} (o : HO), w2 p = some 0 → Stt X.K w2 H2 σ es2 → Stt X.K (fun a => if a = p then none else w2 a) (upd H2 p o) σ es2 ∧ ∀ a u, fz w2 H2 a = some u → fz (fun a => if a = p then none else w2 a) (upd H2 p o) a = some u := fun {w2 H2 es2} o hw2 s2 => by
    have ff : ∀ a u, fz w2 H2 a = some u → fz (fun a => if a = p then none else w2 a) (upd H2 p o) a = some u := fun a u h => by
      obtain ⟨h1, h2⟩ := fz_of h
      have n : a ≠ p := fun e => by subst e; rw [hw2] at h1; cases h1
      exact of_fz (by show (if a = p then none else w2 a) = none; rw [if_neg n]; exact h1) (by rw [upd_ne n]; exact h2)
    have mv : ∀ {u v d}, Holds X.K w2 H2 (u + 2) v d → Holds X.K (fun a => if a = p then none else w2 a) (upd H2 p o) (u + 2) v d := by
      rintro u v d ⟨ps, r, nd, q⟩
      have n : ∀ a ∈ ps, a ≠ p := fun a ha e => by have := q a ha; rw [e, hw2] at this; simp at this
      exact ⟨ps, r.mono ff fun a ha o ho => by rw [upd_ne (n a ha)]; exact ho, nd, fun a ha => by
        show (if a = p then none else w2 a) = _
        rw [if_neg (n a ha)]
        exact q a ha⟩
    refine ⟨⟨fun j e hj => ?_, fun a ha => ?_, s2.ln⟩, ff⟩
    · have z := s2.sl j e hj
      cases e with
      | no => trivial
      | val d' => exact ⟨z.choose, z.choose_spec.1, mv z.choose_spec.2⟩
      | bor a d' => exact ⟨z.1, mv z.2⟩
    · by_cases e : a = p
      · subst e; rw [upd_same]; simp
      · rw [upd_ne e]
        exact s2.lv a (by
          have : (if a = p then none else w2 a) ≠ none := ha
          rw [if_neg e] at this
          exact this)
  refine pairs_imp s2 q (fun kds es2 vs H2 w2 ⟨h15', nd, hR⟩ s3 r3 f3 => ?_) (fun x es2 H2 w2 cls dd hr s3 f3 ix => ?_)
  · have hp2 : H2 p = some (.dK []) := f3.keep p _ upd_same (.inr tag_p)
    have hw2 : w2 p = some 0 := (f3.outer p).mp tag_p
    have hl2 : (kds.map (·.1)).length = vs.length := by rw [List.length_map, r3.length, List.length_map]
    have ezip : ((kds.map (·.1)).zip vs).map (·.1) = kds.map (·.1) := by rw [List.map_fst_zip (by omega)]
    refine ⟨hp2, (kds.map (·.1)).zip vs, rfl, ?_, ?_⟩
    · rw [List.length_zip, ← hl2, List.length_map]; omega
    · rw [merge_nd _ [] (by rw [List.nil_append, ezip]; exact nd), List.nil_append]
      obtain ⟨s4, ff⟩ := sfin (.dK ((kds.map (·.1)).zip vs)) hw2 s3
      refine k (.dic kds) es2 (.ref p) _ _ hR s4 ?_ (fin _ f3)
      refine .dic (ks := kds.map (·.1)) (vs := vs) (ds := kds.map (·.2)) (kvs := (kds.map (·.1)).zip vs) (.inl (of_fz (by simp) upd_same)) rfl ?_ hl2 (r3.mono ff (by simp))
      exact (zip_parts kds).symm
  · have hp2 : H2 p = some (.dK []) := f3.keep p _ upd_same (.inr tag_p)
    have hw2 : w2 p = some 0 := (f3.outer p).mp tag_p
    obtain ⟨s4, ff⟩ := sfin (.dK []) hw2 s3
    have eH : upd H2 p (.dK []) = H2 := by
      funext a
      by_cases e : a = p
      · subst e; rw [upd_same, hp2]
      · rw [upd_ne e]
    have f4 := fin (.dK []) f3
    rw [eH] at s4 ff f4
    refine kx x es2 H2 _ cls dd hr s4 f4 ⟨ix.1, ?_⟩
    have i2 := ix.2
    split at i2
    · exact i2
    · obtain ⟨a, v, e1, e2, e3, r⟩ := i2
      refine ⟨a, v, e1, ?_, e3, r.mono ff (by simp)⟩
      show (if a = p then none else w2 a) = none
      by_cases e : a = p
      · rw [if_pos e]
      · rw [if_neg e]; exact e2
end

section
variable {P : Program} {w : World} {K : PySem.W.Frag} {mg : Str → Option Value} {base : Heap}
/-- a def whose arguments nobody changes -/
theorem entry_val (ad : Nat → Addr) : ∀ (ds : List D) (j : Nat), ds.all D.fro = true → entry ad j ds = ds.map E.val
  | [], _, _ => rfl
  | d :: ds, j, h => by
    rw [List.all_cons, Bool.and_eq_true] at h
    show (if d.fro then E.val d else _) :: _ = _
    rw [if_pos h.1, entry_val ad ds (j + 1) h.2]
    rfl
theorem back_self (ad : Nat → Addr) (es : List E) : ∀ (ds : List D) (j : Nat), ds.all D.fro = true → back ad es j ds ds
  | [], _, _ => rfl
  | d :: ds, j, h => by
    rw [List.all_cons, Bool.and_eq_true] at h
    exact ⟨d, ds, rfl, by rw [if_pos h.1], back_self ad es ds (j + 1) h.2⟩
/-- the def ends with d: what it was given is as it was (or, of what was lent, as it stands) -/
def Rt (ad : Nat → Addr) (args : List D) (R : D → List D → Prop) : D → List E → Prop := fun d es => ∃ a2, back ad es 0 args a2 ∧ R d a2
def Rx (ad : Nat → Addr) (args : List D) (RX : Exn → List D → Prop) : DX := fun x es => ∃ a2, back ad es 0 args a2 ∧ RX x a2
theorem Rt.pure {ad : Nat → Addr} {args : List D} {R : D → List D → Prop} {d : D} {es : List E} (h : R d args) (f : args.all D.fro = true) : Rt ad args R d es := ⟨args, back_self ad es args 0 f, h⟩
theorem Rx.pure {ad : Nat → Addr} {args : List D} {RX : Exn → List D → Prop} {x : Exn} {es : List E} (h : RX x args) (f : args.all D.fro = true) : Rx ad args RX x es := ⟨args, back_self ad es args 0 f, h⟩
theorem Rt.hand {ad : Nat → Addr} {d0 d1 : D} {args : List D} {R : D → List D → Prop} {d : D} {es : List E} (h : R d (d1 :: args)) (he : es[0]? = some (.bor (ad 0) d1)) (f : args.all D.fro = true) (f0 : d0.fro = false) : Rt ad (d0 :: args) R d es :=
  ⟨d1 :: args, ⟨d1, args, rfl, by rw [if_neg (by rw [f0]; simp)]; exact he, back_self ad es args 1 f⟩, h⟩
/-- the slots at the entry -/
def env0 : List Str → List D → List E
  | [], _ => []
  | _ :: N, [] => .no :: env0 N []
  | _ :: N, d :: ds => .val d :: env0 N ds
theorem env0_nil : ∀ N : List Str, env0 N [] = List.replicate N.length .no
  | [] => rfl
  | _ :: N => by rw [env0, env0_nil N]; rfl
theorem env0_eq : ∀ (N : List Str) (ds : List D), ds.length ≤ N.length → env0 N ds = ds.map E.val ++ List.replicate (N.length - ds.length) .no
  | N, [], _ => by rw [env0_nil]; rfl
  | [], d :: ds, h => absurd h (by simp)
  | n :: N, d :: ds, h => by
    rw [env0, env0_eq N ds (by simpa using h)]
    simp
variable {x : Str} {st : Stmt} {N ps : List Str} {k : Nat} {sp : DSp} {xs : XS}
theorem len_le (Sc : FnScope N ps (defScope st)) : ps.length ≤ N.length := by
  have := congrArg List.length Sc.pre
  rw [List.length_take] at this
  omega
theorem fnP (F : At K mg x st ps) (Sc : FnScope N ps (defScope st)) (hn : ∀ args R RX, sp args R RX → args.length = ps.length ∧ args.all D.fro = true)
    (hb : ∀ (f : Addr) (cdv : Value) (A : Around) (outer : List Env) (s : Shared) (H : Hp) (EX : XK), Room k (A.deeper (envOfC x (defScope st) s.heap.objs.size f cdv)) → PSsX (cxOf (L2.CX P w) P w K mg base N x (defScope st) f cdv A outer s H EX) (defBody st) xs)
    (hv : ∀ args R RX, sp args R RX → ∀ ad : Nat → Addr, xs { nx := Rt ad args R .non, rt := Rt ad args R, xn := Rx ad args RX } (env0 N args)) : Fn P w K mg base (k + 1) x sp :=
  fn_def F Sc (fun args R RX h => (hn _ _ _ h).1) hb fun args R RX h ad => by
    have h2 := hn _ _ _ h
    have l := len_le Sc
    rw [entry_val ad args 0 h2.2, ← env0_eq N args (by omega)]
    exact hv _ _ _ h ad
/-- the law itself: its object is known -/
theorem fnL {f : Addr} {fd : FuncData} (F : Fun K x x st f fd) (Sc : FnScope N ps (defScope st)) (hn : ∀ args R RX, sp args R RX → args.length = ps.length ∧ args.all D.fro = true)
    (hb : ∀ (f : Addr) (cdv : Value) (A : Around) (outer : List Env) (s : Shared) (H : Hp) (EX : XK), Room k (A.deeper (envOfC x (defScope st) s.heap.objs.size f cdv)) → PSsX (cxOf (L2.CX P w) P w K mg base N x (defScope st) f cdv A outer s H EX) (defBody st) xs)
    (hv : ∀ args R RX, sp args R RX → ∀ ad : Nat → Addr, xs { nx := Rt ad args R .non, rt := Rt ad args R, xn := Rx ad args RX } (env0 N args)) : FnOk P w K mg base (L2.CX P w) (k + 1) f fd ps (spOf K sp) :=
  ok_def F Sc (fun args R RX h => (hn _ _ _ h).1) (fun cdv A outer s H EX hr => hb f cdv A outer s H EX hr) fun args R RX h ad => by
    have h2 := hn _ _ _ h
    have l := len_le Sc
    rw [entry_val ad args 0 h2.2, ← env0_eq N args (by omega)]
    exact hv _ _ _ h ad
/-- a def that is lent its first argument -/
theorem fnH (F : At K mg x st ps) (Sc : FnScope N ps (defScope st)) (hn : ∀ args R RX, sp args R RX → args.length = ps.length ∧ ∃ d0 r, args = d0 :: r ∧ d0.fro = false ∧ r.all D.fro = true)
    (hb : ∀ (f : Addr) (cdv : Value) (A : Around) (outer : List Env) (s : Shared) (H : Hp) (EX : XK), Room k (A.deeper (envOfC x (defScope st) s.heap.objs.size f cdv)) → PSsX (cxOf (L2.CX P w) P w K mg base N x (defScope st) f cdv A outer s H EX) (defBody st) xs)
    (hv : ∀ d0 r R RX, sp (d0 :: r) R RX → ∀ ad : Nat → Addr, xs { nx := Rt ad (d0 :: r) R .non, rt := Rt ad (d0 :: r) R, xn := Rx ad (d0 :: r) RX } (.bor (ad 0) d0 :: env0 N.tail r)) : Fn P w K mg base (k + 1) x sp :=
  fn_def F Sc (fun args R RX h => (hn _ _ _ h).1) hb fun args R RX h ad => by
    obtain ⟨h1, d0, r, rfl, f0, f⟩ := hn _ _ _ h
    have l := len_le Sc
    have e : entry ad 0 (d0 :: r) ++ List.replicate (N.length - (d0 :: r).length) .no = .bor (ad 0) d0 :: env0 N.tail r := by
      show (if d0.fro then _ else E.bor (ad 0) d0) :: entry ad 1 r ++ _ = _
      rw [if_neg (by rw [f0]; simp), entry_val ad r 1 f, env0_eq N.tail r (by rw [List.length_tail]; simp at h1; omega), List.length_tail]
      simp [Nat.sub_sub, Nat.add_comm]
    rw [e]
    exact hv _ _ _ _ h ad
end

/-! ### what simp computes of data, by its head -/
section
variable {b : Bool} {i : Int} {s : List Nat} {a : Addr} {n : String} {ds : List D} {kvs : List (Key × D)}
theorem fro_non : D.non.fro = true := rfl
theorem fro_bl : (D.bl b).fro = true := rfl
theorem fro_int : (D.int i).fro = true := rfl
theorem fro_str : (D.str s).fro = true := rfl
theorem fro_adr : (D.adr a).fro = true := rfl
theorem fro_ty : (D.ty n).fro = true := rfl
theorem fro_lst : (D.lst ds).fro = true := rfl
theorem fro_kst : (D.kst ds).fro = true := rfl
theorem fro_tup : (D.tup ds).fro = true := rfl
theorem fro_ktp : (D.ktp ds).fro = true := rfl
theorem fro_dic : (D.dic kvs).fro = true := rfl
theorem fro_mlst : (D.mlst ds).fro = false := rfl
theorem okf_non : D.non.okf = true := rfl
theorem okf_bl : (D.bl b).okf = true := rfl
theorem okf_int : (D.int i).okf = true := rfl
theorem okf_str : (D.str s).okf = true := rfl
theorem okf_adr : (D.adr a).okf = true := rfl
theorem okf_ty : (D.ty n).okf = true := rfl
theorem okf_lst : (D.lst ds).okf = true := rfl
theorem okf_kst : (D.kst ds).okf = true := rfl
theorem okf_tup : (D.tup ds).okf = true := rfl
theorem okf_ktp : (D.ktp ds).okf = true := rfl
theorem okf_dic : (D.dic kvs).okf = true := rfl
theorem okf_mlst : (D.mlst ds).okf = ds.all D.fro := rfl
theorem frz_non : D.non.frz = .non := rfl
theorem frz_bl : (D.bl b).frz = .bl b := rfl
theorem frz_int : (D.int i).frz = .int i := rfl
theorem frz_str : (D.str s).frz = .str s := rfl
theorem frz_adr : (D.adr a).frz = .adr a := rfl
theorem frz_ty : (D.ty n).frz = .ty n := rfl
theorem frz_lst : (D.lst ds).frz = .lst ds := rfl
theorem frz_kst : (D.kst ds).frz = .kst ds := rfl
theorem frz_tup : (D.tup ds).frz = .tup ds := rfl
theorem frz_ktp : (D.ktp ds).frz = .ktp ds := rfl
theorem frz_dic : (D.dic kvs).frz = .dic kvs := rfl
theorem frz_mlst : (D.mlst ds).frz = .lst ds := rfl
theorem tyn_non : D.non.tyn = "NoneType" := rfl
theorem tyn_bl : (D.bl b).tyn = "bool" := rfl
theorem tyn_int : (D.int i).tyn = "int" := rfl
theorem tyn_str : (D.str s).tyn = "str" := rfl
theorem tyn_lst : (D.lst ds).tyn = "list" := rfl
theorem tyn_kst : (D.kst ds).tyn = "list" := rfl
theorem tyn_mlst : (D.mlst ds).tyn = "list" := rfl
theorem tyn_tup : (D.tup ds).tyn = "tuple" := rfl
theorem tyn_ktp : (D.ktp ds).tyn = "tuple" := rfl
theorem tyn_dic : (D.dic kvs).tyn = "dict" := rfl
theorem frz_fro {d : D} (h : d.fro = true) : d.frz = d := by cases d <;> first | rfl | exact nomatch h
theorem okf_fro {d : D} (h : d.fro = true) : d.okf = true := by cases d <;> first | rfl | exact nomatch h
end
theorem all_fro {α : Type} {f : α → D} (h : ∀ x, (f x).fro = true) (l : List α) : (l.map f).all D.fro = true := by
  induction l with
  | nil => rfl
  | cons a l ih => rw [List.map_cons, List.all_cons, h a, ih]; rfl
/-! ### an if whose ways meet again: by a word of what holds there -/
def dIfJ (c : XT) (s t : XS) : XS := fun D es => ∃ M : List E → Prop, c es (fun b es2 => if b = true then s { D with nx := M } es2 else t { D with nx := M } es2) D.xn ∧ ∀ e, M e → D.nx e
theorem s_ifJ {X : Cx} {s t : XS} {pos : Pos} {c : Expr} {sa sb : List Stmt} {ct : XT} (hc : PTX X c ct) (ha : PSsX X sa s) (hb : PSsX X sb t) : PSX X (.If c sa sb pos) (dIfJ ct s t) := fun hp W tk => PS.weak (s_if hc ha hb hp W tk) fun D σ H ⟨w, es, xd, st, ⟨M, q, hM⟩, k1, k2, k3, k4, k5⟩ =>
  ⟨w, es, { xd with nx := M }, st, q, fun es2 σ2 H2 w2 q2 s2 f2 => k1 _ _ _ _ (hM _ q2) s2 f2, k2, k3, k4, k5⟩
theorem seqI {s t : XS} {D : XD} {es : List E} (h : s { D with nx := t D } es) : dSeq s t D es := h
/-! ### slots by their numbers -/
theorem get_0 {x0 : E} {r : List E} : (x0 :: r)[0]? = some x0 := rfl
theorem set_0 {x0 v : E} {r : List E} : (x0 :: r).set 0 v = v :: r := rfl
theorem get_1 {x0 x1 : E} {r : List E} : (x0 :: x1 :: r)[1]? = some x1 := rfl
theorem set_1 {x0 x1 v : E} {r : List E} : (x0 :: x1 :: r).set 1 v = x0 :: v :: r := rfl
theorem get_2 {x0 x1 x2 : E} {r : List E} : (x0 :: x1 :: x2 :: r)[2]? = some x2 := rfl
theorem set_2 {x0 x1 x2 v : E} {r : List E} : (x0 :: x1 :: x2 :: r).set 2 v = x0 :: x1 :: v :: r := rfl
theorem get_3 {x0 x1 x2 x3 : E} {r : List E} : (x0 :: x1 :: x2 :: x3 :: r)[3]? = some x3 := rfl
theorem set_3 {x0 x1 x2 x3 v : E} {r : List E} : (x0 :: x1 :: x2 :: x3 :: r).set 3 v = x0 :: x1 :: x2 :: v :: r := rfl
theorem get_4 {x0 x1 x2 x3 x4 : E} {r : List E} : (x0 :: x1 :: x2 :: x3 :: x4 :: r)[4]? = some x4 := rfl
theorem set_4 {x0 x1 x2 x3 x4 v : E} {r : List E} : (x0 :: x1 :: x2 :: x3 :: x4 :: r).set 4 v = x0 :: x1 :: x2 :: x3 :: v :: r := rfl
theorem get_5 {x0 x1 x2 x3 x4 x5 : E} {r : List E} : (x0 :: x1 :: x2 :: x3 :: x4 :: x5 :: r)[5]? = some x5 := rfl
theorem set_5 {x0 x1 x2 x3 x4 x5 v : E} {r : List E} : (x0 :: x1 :: x2 :: x3 :: x4 :: x5 :: r).set 5 v = x0 :: x1 :: x2 :: x3 :: x4 :: v :: r := rfl
theorem get_6 {x0 x1 x2 x3 x4 x5 x6 : E} {r : List E} : (x0 :: x1 :: x2 :: x3 :: x4 :: x5 :: x6 :: r)[6]? = some x6 := rfl
theorem set_6 {x0 x1 x2 x3 x4 x5 x6 v : E} {r : List E} : (x0 :: x1 :: x2 :: x3 :: x4 :: x5 :: x6 :: r).set 6 v = x0 :: x1 :: x2 :: x3 :: x4 :: x5 :: v :: r := rfl
theorem get_7 {x0 x1 x2 x3 x4 x5 x6 x7 : E} {r : List E} : (x0 :: x1 :: x2 :: x3 :: x4 :: x5 :: x6 :: x7 :: r)[7]? = some x7 := rfl
theorem set_7 {x0 x1 x2 x3 x4 x5 x6 x7 v : E} {r : List E} : (x0 :: x1 :: x2 :: x3 :: x4 :: x5 :: x6 :: x7 :: r).set 7 v = x0 :: x1 :: x2 :: x3 :: x4 :: x5 :: x6 :: v :: r := rfl
theorem get_8 {x0 x1 x2 x3 x4 x5 x6 x7 x8 : E} {r : List E} : (x0 :: x1 :: x2 :: x3 :: x4 :: x5 :: x6 :: x7 :: x8 :: r)[8]? = some x8 := rfl
theorem set_8 {x0 x1 x2 x3 x4 x5 x6 x7 x8 v : E} {r : List E} : (x0 :: x1 :: x2 :: x3 :: x4 :: x5 :: x6 :: x7 :: x8 :: r).set 8 v = x0 :: x1 :: x2 :: x3 :: x4 :: x5 :: x6 :: x7 :: v :: r := rfl
theorem get_9 {x0 x1 x2 x3 x4 x5 x6 x7 x8 x9 : E} {r : List E} : (x0 :: x1 :: x2 :: x3 :: x4 :: x5 :: x6 :: x7 :: x8 :: x9 :: r)[9]? = some x9 := rfl
theorem set_9 {x0 x1 x2 x3 x4 x5 x6 x7 x8 x9 v : E} {r : List E} : (x0 :: x1 :: x2 :: x3 :: x4 :: x5 :: x6 :: x7 :: x8 :: x9 :: r).set 9 v = x0 :: x1 :: x2 :: x3 :: x4 :: x5 :: x6 :: x7 :: x8 :: v :: r := rfl
theorem get_10 {x0 x1 x2 x3 x4 x5 x6 x7 x8 x9 x10 : E} {r : List E} : (x0 :: x1 :: x2 :: x3 :: x4 :: x5 :: x6 :: x7 :: x8 :: x9 :: x10 :: r)[10]? = some x10 := rfl
theorem set_10 {x0 x1 x2 x3 x4 x5 x6 x7 x8 x9 x10 v : E} {r : List E} : (x0 :: x1 :: x2 :: x3 :: x4 :: x5 :: x6 :: x7 :: x8 :: x9 :: x10 :: r).set 10 v = x0 :: x1 :: x2 :: x3 :: x4 :: x5 :: x6 :: x7 :: x8 :: x9 :: v :: r := rfl
theorem get_11 {x0 x1 x2 x3 x4 x5 x6 x7 x8 x9 x10 x11 : E} {r : List E} : (x0 :: x1 :: x2 :: x3 :: x4 :: x5 :: x6 :: x7 :: x8 :: x9 :: x10 :: x11 :: r)[11]? = some x11 := rfl
theorem set_11 {x0 x1 x2 x3 x4 x5 x6 x7 x8 x9 x10 x11 v : E} {r : List E} : (x0 :: x1 :: x2 :: x3 :: x4 :: x5 :: x6 :: x7 :: x8 :: x9 :: x10 :: x11 :: r).set 11 v = x0 :: x1 :: x2 :: x3 :: x4 :: x5 :: x6 :: x7 :: x8 :: x9 :: x10 :: v :: r := rfl
theorem get_12 {x0 x1 x2 x3 x4 x5 x6 x7 x8 x9 x10 x11 x12 : E} {r : List E} : (x0 :: x1 :: x2 :: x3 :: x4 :: x5 :: x6 :: x7 :: x8 :: x9 :: x10 :: x11 :: x12 :: r)[12]? = some x12 := rfl
theorem set_12 {x0 x1 x2 x3 x4 x5 x6 x7 x8 x9 x10 x11 x12 v : E} {r : List E} : (x0 :: x1 :: x2 :: x3 :: x4 :: x5 :: x6 :: x7 :: x8 :: x9 :: x10 :: x11 :: x12 :: r).set 12 v = x0 :: x1 :: x2 :: x3 :: x4 :: x5 :: x6 :: x7 :: x8 :: x9 :: x10 :: x11 :: v :: r := rfl
theorem get_13 {x0 x1 x2 x3 x4 x5 x6 x7 x8 x9 x10 x11 x12 x13 : E} {r : List E} : (x0 :: x1 :: x2 :: x3 :: x4 :: x5 :: x6 :: x7 :: x8 :: x9 :: x10 :: x11 :: x12 :: x13 :: r)[13]? = some x13 := rfl
theorem set_13 {x0 x1 x2 x3 x4 x5 x6 x7 x8 x9 x10 x11 x12 x13 v : E} {r : List E} : (x0 :: x1 :: x2 :: x3 :: x4 :: x5 :: x6 :: x7 :: x8 :: x9 :: x10 :: x11 :: x12 :: x13 :: r).set 13 v = x0 :: x1 :: x2 :: x3 :: x4 :: x5 :: x6 :: x7 :: x8 :: x9 :: x10 :: x11 :: x12 :: v :: r := rfl
theorem get_14 {x0 x1 x2 x3 x4 x5 x6 x7 x8 x9 x10 x11 x12 x13 x14 : E} {r : List E} : (x0 :: x1 :: x2 :: x3 :: x4 :: x5 :: x6 :: x7 :: x8 :: x9 :: x10 :: x11 :: x12 :: x13 :: x14 :: r)[14]? = some x14 := rfl
theorem set_14 {x0 x1 x2 x3 x4 x5 x6 x7 x8 x9 x10 x11 x12 x13 x14 v : E} {r : List E} : (x0 :: x1 :: x2 :: x3 :: x4 :: x5 :: x6 :: x7 :: x8 :: x9 :: x10 :: x11 :: x12 :: x13 :: x14 :: r).set 14 v = x0 :: x1 :: x2 :: x3 :: x4 :: x5 :: x6 :: x7 :: x8 :: x9 :: x10 :: x11 :: x12 :: x13 :: v :: r := rfl
theorem get_15 {x0 x1 x2 x3 x4 x5 x6 x7 x8 x9 x10 x11 x12 x13 x14 x15 : E} {r : List E} : (x0 :: x1 :: x2 :: x3 :: x4 :: x5 :: x6 :: x7 :: x8 :: x9 :: x10 :: x11 :: x12 :: x13 :: x14 :: x15 :: r)[15]? = some x15 := rfl
theorem set_15 {x0 x1 x2 x3 x4 x5 x6 x7 x8 x9 x10 x11 x12 x13 x14 x15 v : E} {r : List E} : (x0 :: x1 :: x2 :: x3 :: x4 :: x5 :: x6 :: x7 :: x8 :: x9 :: x10 :: x11 :: x12 :: x13 :: x14 :: x15 :: r).set 15 v = x0 :: x1 :: x2 :: x3 :: x4 :: x5 :: x6 :: x7 :: x8 :: x9 :: x10 :: x11 :: x12 :: x13 :: x14 :: v :: r := rfl
theorem get_16 {x0 x1 x2 x3 x4 x5 x6 x7 x8 x9 x10 x11 x12 x13 x14 x15 x16 : E} {r : List E} : (x0 :: x1 :: x2 :: x3 :: x4 :: x5 :: x6 :: x7 :: x8 :: x9 :: x10 :: x11 :: x12 :: x13 :: x14 :: x15 :: x16 :: r)[16]? = some x16 := rfl
theorem set_16 {x0 x1 x2 x3 x4 x5 x6 x7 x8 x9 x10 x11 x12 x13 x14 x15 x16 v : E} {r : List E} : (x0 :: x1 :: x2 :: x3 :: x4 :: x5 :: x6 :: x7 :: x8 :: x9 :: x10 :: x11 :: x12 :: x13 :: x14 :: x15 :: x16 :: r).set 16 v = x0 :: x1 :: x2 :: x3 :: x4 :: x5 :: x6 :: x7 :: x8 :: x9 :: x10 :: x11 :: x12 :: x13 :: x14 :: x15 :: v :: r := rfl
theorem get_17 {x0 x1 x2 x3 x4 x5 x6 x7 x8 x9 x10 x11 x12 x13 x14 x15 x16 x17 : E} {r : List E} : (x0 :: x1 :: x2 :: x3 :: x4 :: x5 :: x6 :: x7 :: x8 :: x9 :: x10 :: x11 :: x12 :: x13 :: x14 :: x15 :: x16 :: x17 :: r)[17]? = some x17 := rfl
theorem set_17 {x0 x1 x2 x3 x4 x5 x6 x7 x8 x9 x10 x11 x12 x13 x14 x15 x16 x17 v : E} {r : List E} : (x0 :: x1 :: x2 :: x3 :: x4 :: x5 :: x6 :: x7 :: x8 :: x9 :: x10 :: x11 :: x12 :: x13 :: x14 :: x15 :: x16 :: x17 :: r).set 17 v = x0 :: x1 :: x2 :: x3 :: x4 :: x5 :: x6 :: x7 :: x8 :: x9 :: x10 :: x11 :: x12 :: x13 :: x14 :: x15 :: x16 :: v :: r := rfl
theorem get_18 {x0 x1 x2 x3 x4 x5 x6 x7 x8 x9 x10 x11 x12 x13 x14 x15 x16 x17 x18 : E} {r : List E} : (x0 :: x1 :: x2 :: x3 :: x4 :: x5 :: x6 :: x7 :: x8 :: x9 :: x10 :: x11 :: x12 :: x13 :: x14 :: x15 :: x16 :: x17 :: x18 :: r)[18]? = some x18 := rfl
theorem set_18 {x0 x1 x2 x3 x4 x5 x6 x7 x8 x9 x10 x11 x12 x13 x14 x15 x16 x17 x18 v : E} {r : List E} : (x0 :: x1 :: x2 :: x3 :: x4 :: x5 :: x6 :: x7 :: x8 :: x9 :: x10 :: x11 :: x12 :: x13 :: x14 :: x15 :: x16 :: x17 :: x18 :: r).set 18 v = x0 :: x1 :: x2 :: x3 :: x4 :: x5 :: x6 :: x7 :: x8 :: x9 :: x10 :: x11 :: x12 :: x13 :: x14 :: x15 :: x16 :: x17 :: v :: r := rfl
theorem get_19 {x0 x1 x2 x3 x4 x5 x6 x7 x8 x9 x10 x11 x12 x13 x14 x15 x16 x17 x18 x19 : E} {r : List E} : (x0 :: x1 :: x2 :: x3 :: x4 :: x5 :: x6 :: x7 :: x8 :: x9 :: x10 :: x11 :: x12 :: x13 :: x14 :: x15 :: x16 :: x17 :: x18 :: x19 :: r)[19]? = some x19 := rfl
theorem set_19 {x0 x1 x2 x3 x4 x5 x6 x7 x8 x9 x10 x11 x12 x13 x14 x15 x16 x17 x18 x19 v : E} {r : List E} : (x0 :: x1 :: x2 :: x3 :: x4 :: x5 :: x6 :: x7 :: x8 :: x9 :: x10 :: x11 :: x12 :: x13 :: x14 :: x15 :: x16 :: x17 :: x18 :: x19 :: r).set 19 v = x0 :: x1 :: x2 :: x3 :: x4 :: x5 :: x6 :: x7 :: x8 :: x9 :: x10 :: x11 :: x12 :: x13 :: x14 :: x15 :: x16 :: x17 :: x18 :: v :: r := rfl
theorem get_20 {x0 x1 x2 x3 x4 x5 x6 x7 x8 x9 x10 x11 x12 x13 x14 x15 x16 x17 x18 x19 x20 : E} {r : List E} : (x0 :: x1 :: x2 :: x3 :: x4 :: x5 :: x6 :: x7 :: x8 :: x9 :: x10 :: x11 :: x12 :: x13 :: x14 :: x15 :: x16 :: x17 :: x18 :: x19 :: x20 :: r)[20]? = some x20 := rfl
theorem set_20 {x0 x1 x2 x3 x4 x5 x6 x7 x8 x9 x10 x11 x12 x13 x14 x15 x16 x17 x18 x19 x20 v : E} {r : List E} : (x0 :: x1 :: x2 :: x3 :: x4 :: x5 :: x6 :: x7 :: x8 :: x9 :: x10 :: x11 :: x12 :: x13 :: x14 :: x15 :: x16 :: x17 :: x18 :: x19 :: x20 :: r).set 20 v = x0 :: x1 :: x2 :: x3 :: x4 :: x5 :: x6 :: x7 :: x8 :: x9 :: x10 :: x11 :: x12 :: x13 :: x14 :: x15 :: x16 :: x17 :: x18 :: x19 :: v :: r := rfl
theorem get_21 {x0 x1 x2 x3 x4 x5 x6 x7 x8 x9 x10 x11 x12 x13 x14 x15 x16 x17 x18 x19 x20 x21 : E} {r : List E} : (x0 :: x1 :: x2 :: x3 :: x4 :: x5 :: x6 :: x7 :: x8 :: x9 :: x10 :: x11 :: x12 :: x13 :: x14 :: x15 :: x16 :: x17 :: x18 :: x19 :: x20 :: x21 :: r)[21]? = some x21 := rfl
theorem set_21 {x0 x1 x2 x3 x4 x5 x6 x7 x8 x9 x10 x11 x12 x13 x14 x15 x16 x17 x18 x19 x20 x21 v : E} {r : List E} : (x0 :: x1 :: x2 :: x3 :: x4 :: x5 :: x6 :: x7 :: x8 :: x9 :: x10 :: x11 :: x12 :: x13 :: x14 :: x15 :: x16 :: x17 :: x18 :: x19 :: x20 :: x21 :: r).set 21 v = x0 :: x1 :: x2 :: x3 :: x4 :: x5 :: x6 :: x7 :: x8 :: x9 :: x10 :: x11 :: x12 :: x13 :: x14 :: x15 :: x16 :: x17 :: x18 :: x19 :: x20 :: v :: r := rfl
theorem get_22 {x0 x1 x2 x3 x4 x5 x6 x7 x8 x9 x10 x11 x12 x13 x14 x15 x16 x17 x18 x19 x20 x21 x22 : E} {r : List E} : (x0 :: x1 :: x2 :: x3 :: x4 :: x5 :: x6 :: x7 :: x8 :: x9 :: x10 :: x11 :: x12 :: x13 :: x14 :: x15 :: x16 :: x17 :: x18 :: x19 :: x20 :: x21 :: x22 :: r)[22]? = some x22 := rfl
theorem set_22 {x0 x1 x2 x3 x4 x5 x6 x7 x8 x9 x10 x11 x12 x13 x14 x15 x16 x17 x18 x19 x20 x21 x22 v : E} {r : List E} : (x0 :: x1 :: x2 :: x3 :: x4 :: x5 :: x6 :: x7 :: x8 :: x9 :: x10 :: x11 :: x12 :: x13 :: x14 :: x15 :: x16 :: x17 :: x18 :: x19 :: x20 :: x21 :: x22 :: r).set 22 v = x0 :: x1 :: x2 :: x3 :: x4 :: x5 :: x6 :: x7 :: x8 :: x9 :: x10 :: x11 :: x12 :: x13 :: x14 :: x15 :: x16 :: x17 :: x18 :: x19 :: x20 :: x21 :: v :: r := rfl
theorem get_23 {x0 x1 x2 x3 x4 x5 x6 x7 x8 x9 x10 x11 x12 x13 x14 x15 x16 x17 x18 x19 x20 x21 x22 x23 : E} {r : List E} : (x0 :: x1 :: x2 :: x3 :: x4 :: x5 :: x6 :: x7 :: x8 :: x9 :: x10 :: x11 :: x12 :: x13 :: x14 :: x15 :: x16 :: x17 :: x18 :: x19 :: x20 :: x21 :: x22 :: x23 :: r)[23]? = some x23 := rfl
theorem set_23 {x0 x1 x2 x3 x4 x5 x6 x7 x8 x9 x10 x11 x12 x13 x14 x15 x16 x17 x18 x19 x20 x21 x22 x23 v : E} {r : List E} : (x0 :: x1 :: x2 :: x3 :: x4 :: x5 :: x6 :: x7 :: x8 :: x9 :: x10 :: x11 :: x12 :: x13 :: x14 :: x15 :: x16 :: x17 :: x18 :: x19 :: x20 :: x21 :: x22 :: x23 :: r).set 23 v = x0 :: x1 :: x2 :: x3 :: x4 :: x5 :: x6 :: x7 :: x8 :: x9 :: x10 :: x11 :: x12 :: x13 :: x14 :: x15 :: x16 :: x17 :: x18 :: x19 :: x20 :: x21 :: x22 :: v :: r := rfl

/-! ### the readings' steps, one rule each: the engine of the verification conditions -/
section
variable {D0 : XD} {es es' es1 es2 : List E} {Q : D → List E → Prop} {QT : Bool → List E → Prop} {QX : DX} {d d' d2 x y : D} {da db : XE} {dl : XL} {ct cu : XT} {s t : XS} {i : Nat} {b : Bool} {G : D → Prop} {a : Addr} {g : G2} {g1 : G1} {as : List A} {args args' : List D} {ds : List D} {e e0 : E} {dr : XA} {n m : Int} {st tt : List Nat}
theorem lk_v (h : es[i]? = some (.val d)) : (es[i]?).bind E.look = some d := by rw [h]; rfl
theorem lk_b (h : es[i]? = some (.bor a d)) : (es[i]?).bind E.look = some d := by rw [h]; rfl
theorem own_v (h : es[i]? = some (.val (.mlst ds))) (f : ds.all D.fro = true) : own es i = some ds := by unfold own; rw [h]; exact if_pos f
theorem own_b (h : es[i]? = some (.bor a (.mlst ds))) (f : ds.all D.fro = true) : own es i = some ds := by unfold own; rw [h]; exact if_pos f
theorem setc_v (h : es[i]? = some (.val d)) (e : es.set i (.val d') = es') : setc es i d' = es' := by unfold setc; rw [h]; exact e
theorem setc_b (h : es[i]? = some (.bor a d)) (e : es.set i (.bor a d') = es') : setc es i d' = es' := by unfold setc; rw [h]; exact e
theorem free_v : (E.val d).free = true := rfl
theorem free_n : E.no.free = true := rfl
theorem quiet_n : E.no.quiet = true := rfl
theorem getA_n : getA es [] = some [] := rfl
theorem getA_v {r : List D} (h : getA es as = some r) : getA es (.v d :: as) = some (d :: r) := by show (getA es as).map _ = _; rw [h]; rfl
theorem getA_b {r : List D} (h : (es[i]?).bind E.look = some d) (f : d.fro = false) (k : getA es as = some r) : getA es (.b i :: as) = some (d :: r) := by
  show ((es[i]?).bind E.look).bind _ = _
  rw [h]
  show (if d.fro = true then none else (getA es as).map (d :: ·)) = _
  rw [if_neg (by rw [f]; simp), k]
  rfl
theorem putA_n : putA es [] [] = es := rfl
theorem putA_v (h : putA es as args = es') : putA es (.v d :: as) (x :: args) = es' := h
theorem putA_b (h : setc es i x = es1) (k : putA es1 as args = es') : putA es (.b i :: as) (x :: args) = es' := by show putA (setc es i x) as args = es'; rw [h]; exact k
-- expressions
def kF (Q : D → List E → Prop) : D → List E → Prop := fun dv es => dv.okf = true ∧ Q dv.frz es
theorem r_F (q : da es (kF Q) QX) : dF da es Q QX := q
theorem r_kF (ok : d.okf = true) (e : d.frz = d') (q : Q d' es) : kF Q d es := ⟨ok, e ▸ q⟩
theorem r_C (q : Q d es) : dC d es Q QX := q
theorem r_var (h : (es[i]?).bind E.look = some d) (ok : d.okf = true) (e : d.frz = d') (q : Q d' es) : oVar i es Q QX := ⟨d, h, ok, e ▸ q⟩
theorem r_name (h : es[i]? = some (.val d)) (ok : d.okf = true) (e : d.frz = d') (f : es.set i (.val d') = es') (q : Q d' es') : dName i es Q QX := ⟨d, h, ok, by subst e; subst f; exact q⟩
theorem r_op (q : da es (fun d1 es1 => db es1 (fun d2 es2 => g d1 d2 fun d => Q d es2) QX) QX) : dOp g da db es Q QX := q
def kOpV (g : G2) (i : Nat) (Q : D → List E → Prop) : D → List E → Prop := fun d2 es2 => ∃ d, (es2[i]?).bind E.look = some d ∧ d.okf = true ∧ g d.frz d2 fun d => Q d es2
theorem r_opV (h : (es[i]?).bind E.look = some d) (q : db es (kOpV g i Q) QX) : dOpV g i db es Q QX := ⟨by rw [h]; rfl, q⟩
theorem r_kOpV (h : (es[i]?).bind E.look = some d) (ok : d.okf = true) (e : d.frz = d') (q : g d' d2 fun d => Q d es) : kOpV g i Q d2 es := ⟨d, h, ok, e ▸ q⟩
theorem r_un (q : da es (fun d1 es1 => g1 d1 fun d => Q d es1) QX) : dUn g1 da es Q QX := q
-- tests
def kTest (Q : Bool → List E → Prop) : D → List E → Prop := fun dv es2 => ∃ b, dv = .bl b ∧ Q b es2
theorem r_test (q : da es (kTest QT) QX) : dTest da es QT QX := q
theorem r_kTest (h : d = .bl b) (q : QT b es) : kTest QT d es := ⟨b, h, q⟩
def kTru (Q : Bool → List E → Prop) : D → List E → Prop := fun dv es2 => ∃ b, dv.truth = some b ∧ Q b es2
theorem r_tru (q : da es (kTru QT) QX) : dTru da es QT QX := q
theorem r_kTru (h : d.truth = some b) (q : QT b es) : kTru QT d es := ⟨b, h, q⟩
theorem r_not (q : ct es (fun b es2 => QT (!b) es2) QX) : dNot ct es QT QX := q
def kAnd (u : XT) (Q : Bool → List E → Prop) (QX : DX) : Bool → List E → Prop := fun b es2 => if b = true then u es2 Q QX else Q false es2
def kOr (u : XT) (Q : Bool → List E → Prop) (QX : DX) : Bool → List E → Prop := fun b es2 => if b = true then Q true es2 else u es2 Q QX
theorem r_and (q : ct es (kAnd cu QT QX) QX) : dAnd ct cu es QT QX := q
theorem r_or (q : ct es (kOr cu QT QX) QX) : dOr ct cu es QT QX := q
theorem r_kAndT (q : cu es QT QX) : kAnd cu QT QX true es := q
theorem r_kAndF (q : QT false es) : kAnd cu QT QX false es := q
theorem r_kOrT (q : QT true es) : kOr cu QT QX true es := q
theorem r_kOrF (q : cu es QT QX) : kOr cu QT QX false es := q
theorem r_kAnd (h1 : b = true → cu es QT QX) (h2 : b = false → QT false es) : kAnd cu QT QX b es := by cases b with | true => exact h1 rfl | false => exact h2 rfl
theorem r_kOr (h1 : b = true → QT true es) (h2 : b = false → cu es QT QX) : kOr cu QT QX b es := by cases b with | true => exact h1 rfl | false => exact h2 rfl
theorem r_yes (q : QT true es) : dYes es QT QX := q
def kAndV (db : XE) (Q : D → List E → Prop) (QX : DX) : D → List E → Prop := fun x es1 => ∃ c, x = .bl c ∧ if c = true then db es1 Q QX else Q (.bl false) es1
theorem r_andV (q : da es (kAndV db Q QX) QX) : dAndV da db es Q QX := q
theorem r_kAndV (h : x = .bl b) (h1 : b = true → db es Q QX) (h2 : b = false → Q (.bl false) es) : kAndV db Q QX x es := ⟨b, h, by cases b with | true => exact h1 rfl | false => exact h2 rfl⟩
-- slices, displays
variable {lo hi : XO} {QO : Option Int → List E → Prop} {o : Option Int} {QL : List D → List E → Prop} {QA : List A → List E → Prop}
theorem r_noPart (q : QO none es) : dNoPart es QO QX := q
def kPart (Q : Option Int → List E → Prop) : D → List E → Prop := fun dv es2 => ∃ i, dv = .int i ∧ Q (some i) es2
theorem r_part (q : da es (kPart QO) QX) : dPart da es QO QX := q
theorem r_kPart (h : d = .int n) (q : QO (some n) es) : kPart QO d es := ⟨n, h, q⟩
theorem r_sl (q : da es (fun d1 es1 => lo es1 (fun l es2 => hi es2 (fun h es3 => gSl d1 l h fun d => Q d es3) QX) QX) QX) : dSl da lo hi es Q QX := q
def kSlV (i : Nat) (l h : Option Int) (Q : D → List E → Prop) : List E → Prop := fun es3 => ∃ d, (es3[i]?).bind E.look = some d ∧ d.okf = true ∧ gSl d.frz l h fun d => Q d es3
theorem r_slV (h : (es[i]?).bind E.look = some d) (q : lo es (fun l es2 => hi es2 (fun h es3 => kSlV i l h Q es3) QX) QX) : dSlV i lo hi es Q QX := ⟨by rw [h]; rfl, q⟩
theorem r_kSlV {l h : Option Int} (h0 : (es[i]?).bind E.look = some d) (ok : d.okf = true) (e : d.frz = d') (q : gSl d' l h fun d => Q d es) : kSlV i l h Q es := ⟨d, h0, ok, e ▸ q⟩
theorem r_gSlS {l h : Option Int} (e : x = .str st) (q : G (.str (cutL st l h))) : gSl x l h G := by subst e; exact q
theorem r_gSlL {l h : Option Int} (e : x = .lst ds) (q : G (.mlst (cutL ds l h))) : gSl x l h G := by subst e; exact q
theorem r_gSlK {l h : Option Int} (e : x = .kst ds) (q : G (.mlst (cutL ds l h))) : gSl x l h G := by subst e; exact q
theorem r_lnil (q : QL [] es) : dLNil es QL QX := q
theorem r_lcons (q : da es (fun d es1 => dl es1 (fun ds es2 => QL (d :: ds) es2) QX) QX) : dLCons da dl es QL QX := q
def kTupD (Q : D → List E → Prop) : List D → List E → Prop := fun ds es2 => ds.length ≤ sizeLine ∧ Q (.tup ds) es2
def kLstD (Q : D → List E → Prop) : List D → List E → Prop := fun ds es2 => ds.length ≤ sizeLine ∧ Q (.mlst ds) es2
theorem r_tup (q : dl es (kTupD Q) QX) : dTup dl es Q QX := q
theorem r_lst (q : dl es (kLstD Q) QX) : dLst dl es Q QX := q
theorem cnt_le {n : Nat} (h : n ≤ 1000) : n ≤ sizeLine := by rw [sizeLine_eq]; omega
theorem r_kTupD (h : ds.length ≤ 1000) (q : Q (.tup ds) es) : kTupD Q ds es := ⟨cnt_le h, q⟩
theorem r_kLstD (h : ds.length ≤ 1000) (q : Q (.mlst ds) es) : kLstD Q ds es := ⟨cnt_le h, q⟩
-- lists changed
def kApp (i : Nat) (Q : D → List E → Prop) : D → List E → Prop := fun d es2 => ∃ ds, own es2 i = some ds ∧ ds.length < sizeLine ∧ d.fro = true ∧ Q .non (setc es2 i (.mlst (ds ++ [d])))
theorem r_append (h : own es i = some ds) (q : da es (kApp i Q) QX) : dAppend i da es Q QX := ⟨by rw [h]; rfl, q⟩
theorem r_kApp (h : own es i = some ds) (f : d.fro = true) (e : setc es i (.mlst (ds ++ [d])) = es') (q : ds.length < sizeLine ∧ Q .non es') : kApp i Q d es := ⟨ds, h, q.1, f, e ▸ q.2⟩
theorem r_pop (h : own es i = some ds) (e : setc es i (.mlst ds.dropLast) = es') (q : ∃ d, ds[ds.length - 1]? = some d ∧ Q d es') : dPop i es Q QX := by
  obtain ⟨d, h1, h2⟩ := q
  exact ⟨ds, d, h, h1, e ▸ h2⟩
-- calls
theorem r_anil (q : QA [] es) : dANil es QA QX := q
theorem r_av (q : da es (fun d es1 => dr es1 (fun as es2 => QA (.v d :: as) es2) QX) QX) : dAV da dr es QA QX := q
theorem r_ab (h : (es[i]?).bind E.look = some d) (q : dr es (fun as es2 => QA (.b i :: as) es2) QX) : dAB i dr es QA QX := ⟨by rw [h]; rfl, q⟩
def kBack (Q : D → List E → Prop) (es : List E) (as : List A) : D → List D → Prop := fun d args2 => Q d (putA es as args2)
def kBackX (QX : DX) (es : List E) (as : List A) : Exn → List D → Prop := fun x args2 => QX x (putA es as args2)
def kCall (sp : DSp) (Q : D → List E → Prop) (QX : DX) : List A → List E → Prop := fun as es2 => ∃ args, getA es2 as = some args ∧ (slotsA as).Nodup ∧ sp args (kBack Q es2 as) (kBackX QX es2 as)
variable {sp : DSp} {xe : Exn}
theorem r_call (q : dr es (kCall sp Q QX) QX) : dCall sp dr es Q QX := q
theorem r_kCall (h : getA es as = some args) (n : (slotsA as).Nodup) (q : sp args (kBack Q es as) (kBackX QX es as)) : kCall sp Q QX as es := ⟨args, h, n, q⟩
theorem r_kBack (e : putA es as args = es') (q : Q d es') : kBack Q es as d args := by subst e; exact q
theorem r_kBackX (e : putA es as args = es') (q : QX xe es') : kBackX QX es as xe args := by subst e; exact q
-- methods
def kMt (g : G2) (db : XE) (Q : D → List E → Prop) (QX : DX) : D → List E → Prop := fun d1 es1 => d1.tyn = "str" ∧ db es1 (fun d2 es2 => g d1 d2 fun d => Q d es2) QX
theorem r_mt (q : da es (kMt g db Q QX) QX) : dMt g da db es Q QX := q
theorem r_kMt (h : d = .str st) (q : db es (fun d2 es2 => g (.str st) d2 fun d => Q d es2) QX) : kMt g db Q QX d es := by subst h; exact ⟨rfl, q⟩
-- operations
theorem r_gAddI (h1 : x = .int n) (h2 : y = .int m) (q : G (.int (n + m))) : gAdd x y G := by subst h1 h2; exact q
theorem r_gAddS (h1 : x = .str st) (h2 : y = .str tt) (q : st.length + tt.length ≤ sizeLine ∧ G (.str (st ++ tt))) : gAdd x y G := by subst h1 h2; exact q
theorem r_gAddL {d1 d2 : List D} (h1 : x = .lst d1) (h2 : y = .lst d2) (q : d1.length + d2.length ≤ sizeLine ∧ G (.mlst (d1 ++ d2))) : gAdd x y G := by subst h1 h2; exact q
theorem r_gMinus (h1 : x = .int n) (h2 : y = .int m) (q : G (.int (n - m))) : gMinus x y G := by subst h1 h2; exact q
theorem r_gMul (h1 : x = .int n) (h2 : y = .int m) (q : okMul n m ∧ G (.int (n * m))) : gMul x y G := by subst h1 h2; exact q
theorem r_gMod (h1 : x = .int n) (h2 : y = .int m) (q : 0 < m ∧ G (.int (n % m))) : gMod x y G := by subst h1 h2; exact q
theorem r_gFdv (h1 : x = .int n) (h2 : y = .int m) (q : CDivW n m ∧ G (.int (n / m))) : gFdv x y G := by subst h1 h2; exact q
theorem r_gPow (h1 : x = .int n) (h2 : y = .int m) (h : CPow n m) (q : G (.int (n ^ m.toNat))) : gPow x y G := by subst h1 h2; exact ⟨h, q⟩
theorem r_gLtI (h1 : x = .int n) (h2 : y = .int m) (q : G (.bl (decide (n < m)))) : gLt x y G := by subst h1 h2; exact q
theorem r_gLeI (h1 : x = .int n) (h2 : y = .int m) (q : G (.bl (decide (n ≤ m)))) : gLe x y G := by subst h1 h2; exact q
theorem r_gGtI (h1 : x = .int n) (h2 : y = .int m) (q : G (.bl (decide (m < n)))) : gGt x y G := by subst h1 h2; exact q
theorem r_gGeI (h1 : x = .int n) (h2 : y = .int m) (q : G (.bl (decide (m ≤ n)))) : gGe x y G := by subst h1 h2; exact q
theorem r_gIxL (h : x = .lst ds) (h2 : y = .int n) (q : ∃ d, atI ds n = some d ∧ G d) : gIx x y G := by subst h h2; exact q
theorem r_gIxK (h : x = .kst ds) (h2 : y = .int n) (q : ∃ d, atI ds n = some d ∧ G d) : gIx x y G := by subst h h2; exact q
theorem r_gIxT (h : x = .tup ds) (h2 : y = .int n) (q : ∃ d, atI ds n = some d ∧ G d) : gIx x y G := by subst h h2; exact q
theorem r_gIxS (h : x = .str st) (h2 : y = .int n) (q : ∃ c, atI st n = some c ∧ G (.str [c])) : gIx x y G := by subst h h2; exact q
theorem r_gIx0 (h : x = .lst ds) (h2 : y = .int n) (h3 : atI ds n = some d) (q : G d) : gIx x y G := by subst h h2; exact ⟨d, h3, q⟩
theorem eqD_ss {s t : List Nat} : eqD (.str s) (.str t) = decide (s = t) := by
  show PyData.eqv (PyData.str (S s)) (PyData.str (S t)) = _
  rw [PyData.eqv.eq_def]
  show (S s == S t) = _
  by_cases h : s = t
  · subst h; simp
  · have : ¬ S s = S t := fun e => h (by have := congrArg (fun s : Str => s.cps.toList) e; simpa [S] using this)
    simp [h, this]
theorem eqD_ii {i j : Int} : eqD (.int i) (.int j) = decide (i = j) := by
  show PyData.eqv (PyData.int i) (PyData.int j) = _
  rw [PyData.eqv.eq_def]
  rfl
theorem r_gEqS (h1 : x = .str st) (h2 : y = .str tt) (q : G (.bl (decide (st = tt)))) : gEq x y G := by subst h1 h2; exact ⟨rfl, rfl, by rw [eqD_ss]; exact q⟩
theorem r_gEqI (h1 : x = .int n) (h2 : y = .int m) (q : G (.bl (decide (n = m)))) : gEq x y G := by subst h1 h2; exact ⟨rfl, rfl, by rw [eqD_ii]; exact q⟩
theorem r_gNeS (h1 : x = .str st) (h2 : y = .str tt) (q : G (.bl (!decide (st = tt)))) : gNe x y G := by subst h1 h2; exact ⟨rfl, rfl, by rw [eqD_ss]; exact q⟩
theorem r_gNeI (h1 : x = .int n) (h2 : y = .int m) (q : G (.bl (!decide (n = m)))) : gNe x y G := by subst h1 h2; exact ⟨rfl, rfl, by rw [eqD_ii]; exact q⟩
theorem r_gEq (h1 : x.cmp 40 = true) (h2 : y.cmp 40 = true) (q : G (.bl (eqD x y))) : gEq x y G := ⟨h1, h2, q⟩
theorem r_gNe (h1 : x.cmp 40 = true) (h2 : y.cmp 40 = true) (q : G (.bl (!eqD x y))) : gNe x y G := ⟨h1, h2, q⟩
theorem r_gLenS (h : x = .str st) (q : G (.int st.length)) : gLen x G := by subst h; exact q
theorem r_gLenL (h : x = .lst ds) (q : G (.int ds.length)) : gLen x G := by subst h; exact q
theorem r_gNeg (h : x = .int n) (q : G (.int (-n))) : gNeg x G := by subst h; exact q
theorem r_gS1 {C : List Nat → Prop} {f : List Nat → D} (h : x = .str st) (q : C st ∧ G (f st)) : gS1 C f x G := by subst h; exact q
theorem r_gJoin (h : x = .str st) (h2 : y = .lst ds) (q : ∃ ss, strsOf ds = some ss ∧ (ss.map (·.length)).sum + ss.length * st.length ≤ sizeLine ∧ G (.str (joinL st ss))) : gJoin x y G := by subst h h2; exact q
theorem r_gAbs (h : x = .int n) (q : G (.int (if n < 0 then -n else n))) : gAbs x G := by subst h; exact q
theorem r_gIntI (h : x = .int n) (q : G (.int n)) : gInt x G := by subst h; exact q
theorem r_gIntB (h : x = .bl b) (q : G (.int (if b then 1 else 0))) : gInt x G := by subst h; exact q
theorem r_gIsi {k : String} (h : x.tyn ∈ tys1) (h2 : y = .ty k) (h3 : k ∈ tys2) (q : G (.bl (isT x.tyn k))) : gIsi x y G := by subst h2; exact ⟨h, h3, q⟩
theorem r_gNotInS {ch : Nat} (h : x = .str [ch]) (h2 : y = .str tt) (q : G (.bl (xor true (decide (ch ∈ tt))))) : gNotIn x y G := by subst h h2; exact q
theorem r_gRevS (h : x = .str st) (q : G (.str st.reverse)) : gRevS x G := by subst h; exact q
theorem r_gList2S (h : x = .str st) (q : G (.mlst (chars st))) : gList2 x G := by subst h; exact q
theorem r_gList2L (h : x = .lst ds) (q : G (.mlst ds)) : gList2 x G := by subst h; exact q
theorem lset_0 {α : Type} {a v : α} {r : List α} {j : Nat} (h : j = 0) : (a :: r).set j v = v :: r := by subst h; rfl
theorem lset_1 {α : Type} {a b v : α} {r : List α} {j : Nat} (h : j = 1) : (a :: b :: r).set j v = a :: v :: r := by subst h; rfl
theorem lset_2 {α : Type} {a b c v : α} {r : List α} {j : Nat} (h : j = 2) : (a :: b :: c :: r).set j v = a :: b :: v :: r := by subst h; rfl
theorem lset_3 {α : Type} {a b c d v : α} {r : List α} {j : Nat} (h : j = 3) : (a :: b :: c :: d :: r).set j v = a :: b :: c :: v :: r := by subst h; rfl
theorem lset_4 {α : Type} {a b c d e v : α} {r : List α} {j : Nat} (h : j = 4) : (a :: b :: c :: d :: e :: r).set j v = a :: b :: c :: d :: v :: r := by subst h; rfl
theorem ty_non : D.non.tyn ∈ tys1 := (by decide : "NoneType" ∈ tys1)
theorem ty_bl : (D.bl b).tyn ∈ tys1 := (by decide : "bool" ∈ tys1)
theorem ty_int : (D.int n).tyn ∈ tys1 := (by decide : "int" ∈ tys1)
theorem ty_str : (D.str st).tyn ∈ tys1 := (by decide : "str" ∈ tys1)
theorem ty_lst : (D.lst ds).tyn ∈ tys1 := (by decide : "list" ∈ tys1)
theorem ty_kst : (D.kst ds).tyn ∈ tys1 := (by decide : "list" ∈ tys1)
theorem ty_tup : (D.tup ds).tyn ∈ tys1 := (by decide : "tuple" ∈ tys1)
theorem ty_ktp : (D.ktp ds).tyn ∈ tys1 := (by decide : "tuple" ∈ tys1)
theorem ty_dic {kds : List (Key × D)} : (D.dic kds).tyn ∈ tys1 := (by decide : "dict" ∈ tys1)
theorem nd1 {α : Type} {i : α} : [i].Nodup := by simp
theorem r_try {K : PySem.W.Frag} {l : List DH} (q : s { D0 with xn := dSel K D0 l } es) : dTry K s l D0 es := q
def kDict (Q : D → List E → Prop) : List (Key × D) → List E → Prop := fun kds es2 => kds.length ≤ 15 ∧ (kds.map (·.1)).Nodup ∧ Q (.dic kds) es2
theorem r_dict {ps : List (XE × XE)} (q : dPs ps es (kDict Q) QX) : dDict ps es Q QX := q
theorem r_kDict {kds : List (Key × D)} (h : kds.length ≤ 15) (h2 : (kds.map (·.1)).Nodup) (q : Q (.dic kds) es) : kDict Q kds es := ⟨h, h2, q⟩
theorem r_psNil {QD : List (Key × D) → List E → Prop} (q : QD [] es) : dPs [] es QD QX := q
theorem r_psCons {QD : List (Key × D) → List E → Prop} {k v : XE} {r : List (XE × XE)} (q : k es (fun dk es1 => ∃ key, keyD dk = some key ∧ v es1 (fun dv es2 => dPs r es2 (fun kds es3 => QD ((key, dv) :: kds) es3) QX) QX) QX) : dPs ((k, v) :: r) es QD QX := q
-- statements
theorem r_nx {n b c : List E → Prop} {r : D → List E → Prop} {xx : DX} (h : n es) : XD.nx ⟨n, r, b, c, xx⟩ es := h
theorem r_ct {n b c : List E → Prop} {r : D → List E → Prop} {xx : DX} (h : c es) : XD.ct ⟨n, r, b, c, xx⟩ es := h
theorem r_bk {n b c : List E → Prop} {r : D → List E → Prop} {xx : DX} (h : b es) : XD.bk ⟨n, r, b, c, xx⟩ es := h
theorem r_rt {n b c : List E → Prop} {r : D → List E → Prop} {xx : DX} (h : r d es) : XD.rt ⟨n, r, b, c, xx⟩ d es := h
theorem r_xn {n b c : List E → Prop} {r : D → List E → Prop} {xx : DX} (h : xx xe es) : XD.xn ⟨n, r, b, c, xx⟩ xe es := h
theorem r_next (h : D0.nx es) : dNext D0 es := h
theorem r_break (h : D0.bk es) : dBreak D0 es := h
theorem r_cont (h : D0.ct es) : dCont D0 es := h
theorem r_seq (h : s { D0 with nx := t D0 } es) : dSeq s t D0 es := h
theorem r_expr (q : da es (fun _ es2 => D0.nx es2) D0.xn) : dExpr da D0 es := q
theorem r_ret (q : da es (fun d es2 => D0.rt d es2) D0.xn) : dRet da D0 es := q
theorem r_retN (q : D0.rt .non es) : dRetN D0 es := q
theorem r_retV (h : es[i]? = some (.val d)) (e : es.set i .no = es') (q : D0.rt d es') : dRetV i D0 es := ⟨d, h, e ▸ q⟩
def kIf (s t : XS) (D0 : XD) : Bool → List E → Prop := fun b es2 => if b = true then s D0 es2 else t D0 es2
theorem r_if (q : ct es (kIf s t D0) D0.xn) : dIfS ct s t D0 es := q
theorem r_kIfT (q : s D0 es) : kIf s t D0 true es := q
theorem r_kIfF (q : t D0 es) : kIf s t D0 false es := q
theorem r_kIf (h1 : b = true → s D0 es) (h2 : b = false → t D0 es) : kIf s t D0 b es := by cases b with | true => exact h1 rfl | false => exact h2 rfl
theorem r_ifJ0 (q : ct es (kIf s t D0) D0.xn) : dIfJ ct s t D0 es := ⟨D0.nx, q, fun _ h => h⟩
theorem r_ifJ (M : List E → Prop) (q : ct es (kIf s t { D0 with nx := M }) D0.xn) (k : ∀ e, M e → D0.nx e) : dIfJ ct s t D0 es := ⟨M, q, k⟩
def kSet (i : Nat) (n : List E → Prop) : D → List E → Prop := fun d es2 => ∃ e0, es2[i]? = some e0 ∧ e0.free = true ∧ n (es2.set i (.val d))
theorem r_set (q : da es (kSet i D0.nx) D0.xn) : dSet i da D0 es := q
theorem r_kSet {nn : List E → Prop} (h : es[i]? = some e0) (f : e0.free = true) (e : es.set i (.val d) = es') (q : nn es') : kSet i nn d es := ⟨e0, h, f, e ▸ q⟩
theorem r_kName {nn : List E → Prop} (h : es[i]? = some e0) (f : e0.free = true) (e : es.set i (.val d) = es') (q : nn es') : kName i d es nn := ⟨e0, h, f, e ▸ q⟩
theorem r_raise {C : Addr} (q : D0.xn ⟨C, none⟩ es) : dRaise C D0 es := q
def kPut2 (i : Nat) (d : D) (nn : List E → Prop) : D → List E → Prop := fun k es2 => ∃ ds z j, own es2 i = some ds ∧ k = .int z ∧ ixN ds.length z = some j ∧ d.fro = true ∧ nn (setc es2 i (.mlst (ds.set j d)))
def kPut1 (i : Nat) (dk : XE) (nn : List E → Prop) (xn : DX) : D → List E → Prop := fun d es1 => (own es1 i).isSome = true ∧ dk es1 (kPut2 i d nn) xn
theorem r_put {dk : XE} (q : da es (kPut1 i dk D0.nx D0.xn) D0.xn) : dPut i dk da D0 es := q
theorem r_kPut1 {dk : XE} {nn : List E → Prop} {xn : DX} (h : own es i = some ds) (q : dk es (kPut2 i d nn) xn) : kPut1 i dk nn xn d es := ⟨by rw [h]; rfl, q⟩
theorem r_kPut2 {nn : List E → Prop} {j : Nat} {ds' : List D} (h : own es i = some ds) (hy : y = .int n) (hj : ixN ds.length n = some j) (f : d.fro = true) (e0 : ds.set j d = ds') (e : setc es i (.mlst ds') = es') (q : nn es') : kPut2 i d nn y es :=
  ⟨ds, n, j, h, hy, hj, f, by rw [e0, e]; exact q⟩
-- iterables and loops
variable {QI : List D → List E → Prop} {it : XI} {kg : XG} {nn : List E → Prop}
def kILst (Q : List D → List E → Prop) : D → List E → Prop := fun d es2 => ∃ ds, (d = .lst ds ∨ d = .kst ds) ∧ Q ds es2
def kITp (Q : List D → List E → Prop) : D → List E → Prop := fun d es2 => ∃ ds, (d = .tup ds ∨ d = .ktp ds) ∧ Q ds es2
def kISt (Q : List D → List E → Prop) : D → List E → Prop := fun d es2 => ∃ s, d = .str s ∧ Q (chars s) es2
def kIRn (Q : List D → List E → Prop) : D → List E → Prop := fun d es2 => ∃ j, d = .int j ∧ -(2 ^ 62) ≤ j ∧ j < 2 ^ 62 ∧ Q (rangeD 0 j.toNat) es2
theorem r_iLst (q : da es (kILst QI) QX) : iLst da es QI QX := q
theorem r_iTp (q : da es (kITp QI) QX) : iTp da es QI QX := q
theorem r_iSt (q : da es (kISt QI) QX) : iSt da es QI QX := q
theorem r_iRn (q : da es (kIRn QI) QX) : iRn da es QI QX := q
theorem r_kILstL (h : d = .lst ds) (q : QI ds es) : kILst QI d es := ⟨ds, .inl h, q⟩
theorem r_kILstK (h : d = .kst ds) (q : QI ds es) : kILst QI d es := ⟨ds, .inr h, q⟩
theorem r_kITp (h : d = .tup ds) (q : QI ds es) : kITp QI d es := ⟨ds, .inl h, q⟩
theorem r_kISt (h : d = .str st) (q : QI (chars st) es) : kISt QI d es := ⟨st, h, q⟩
theorem r_kIRn (h : d = .int n) (q : (-1000000000 ≤ n ∧ n ≤ 1000000000) ∧ QI (rangeD 0 n.toNat) es) : kIRn QI d es := ⟨n, h, by omega, by omega, q.2⟩
theorem r_kIRnN {k : Nat} (h : d = .int k) (h2 : k ≤ 1000000000) (q : QI (rangeD 0 k) es) : kIRn QI d es := ⟨k, h, by omega, by omega, q⟩
def kFor (g : XG) (tb : XS) (D0 : XD) : List D → List E → Prop := fun ds es2 => ∃ I : Nat → List E → Prop, I 0 es2 ∧ (∀ i d es, ds[i]? = some d → I i es → g d es fun es3 => tb { D0 with nx := I (i + 1), ct := I (i + 1), bk := D0.nx } es3) ∧ ∀ es, I ds.length es → D0.nx es
theorem r_for (q : it es (kFor kg s D0) D0.xn) : dFor it kg s D0 es := q
theorem r_kFor (I : Nat → List E → Prop) (h0 : I 0 es) (turn : ∀ i d es, ds[i]? = some d → I i es → kg d es fun es3 => s { D0 with nx := I (i + 1), ct := I (i + 1), bk := D0.nx } es3) (fin : ∀ es, I ds.length es → D0.nx es) : kFor kg s D0 ds es := ⟨I, h0, turn, fin⟩
def kLc (i : Nat) (tt : XT) (te : XE) (Q : D → List E → Prop) : List D → List E → Prop := fun ds es2 => ∃ I : Nat → List D → List E → Prop, I 0 [] es2 ∧
  (∀ k d acc es, ds[k]? = some d → I k acc es → ∃ e0, es[i]? = some e0 ∧ e0.quiet = true ∧ tt (es.set i (.val d)) (fun b es4 => if b = true then te es4 (fun y es5 => acc.length < sizeLine ∧ I (k + 1) (acc ++ [y]) (es5.set i e0)) (fun _ _ => False) else I (k + 1) acc (es4.set i e0)) (fun _ _ => False)) ∧
  ∀ acc es, I ds.length acc es → Q (.mlst acc) es
theorem r_lc {ct : XT} {te : XE} (q : it es (kLc i ct te Q) QX) : dLc it i ct te es Q QX := q
def kLcE (i : Nat) (e0 : E) (I : List D → List E → Prop) (acc : List D) : D → List E → Prop := fun y es5 => acc.length < sizeLine ∧ I (acc ++ [y]) (es5.set i e0)
def kLcT (i : Nat) (e0 : E) (te : XE) (I1 I : List D → List E → Prop) (acc : List D) : Bool → List E → Prop := fun b es4 => if b = true then te es4 (kLcE i e0 I1 acc) (fun _ _ => False) else I acc (es4.set i e0)
theorem r_kLc {ct : XT} {te : XE} (I : Nat → List D → List E → Prop) (h0 : I 0 [] es) (turn : ∀ k d acc es, ds[k]? = some d → I k acc es → ∃ e0, es[i]? = some e0 ∧ e0.quiet = true ∧ ct (es.set i (.val d)) (kLcT i e0 te (I (k + 1)) (I (k + 1)) acc) (fun _ _ => False))
    (fin : ∀ acc es, I ds.length acc es → Q (.mlst acc) es) : kLc i ct te Q ds es := ⟨I, h0, turn, fin⟩
theorem r_kLcTT {te : XE} {I1 I : List D → List E → Prop} {acc : List D} (q : te es (kLcE i e0 I1 acc) (fun _ _ => False)) : kLcT i e0 te I1 I acc true es := q
theorem r_kLcT {te : XE} {I1 I : List D → List E → Prop} {acc : List D} (h1 : b = true → te es (kLcE i e0 I1 acc) (fun _ _ => False)) (h2 : b = false → I acc (es.set i e0)) : kLcT i e0 te I1 I acc b es := by cases b with | true => exact h1 rfl | false => exact h2 rfl
theorem r_kLcE {I : List D → List E → Prop} {acc : List D} (e : es.set i e0 = es') (q : acc.length < sizeLine ∧ I (acc ++ [x]) es') : kLcE i e0 I acc x es := ⟨q.1, e ▸ q.2⟩
end
theorem chars_fro (s : List Nat) : (chars s).all D.fro = true := all_fro (fun _ => rfl) s

/-! ### a list, a tuple or a str, whichever comes -/
section
variable {X : Cx} {tg e : Expr}
def iSeqT (K : PySem.W.Frag) (te : TE) : TI := fun σ H R => te σ H fun v H' => (∃ a, v = .ref a ∧ (∃ xs, SqL K H' a xs) ∧ R (Itl K a) H') ∨ (∃ a, v = .ref a ∧ (∃ xs, SqT K H' a xs) ∧ R (Itt K a) H')
theorem pi_seq {l : Expr} {tl : TE} (hl : PE X l tl) : PI X tg l (iSeqT X.K tl) := by
  refine ⟨fun pins s σ H R I h => ?_⟩
  refine thn (hl.run pins s σ H _ I h) fun v s1 ⟨x, H1, I1, r1, q1⟩ => ?_
  rcases q1 with ⟨a, e, ⟨xs, hq⟩, q⟩ | ⟨a, e, ⟨xs, hq⟩, q⟩
  · subst e
    cases r1
    obtain ⟨its, rv, p, hz⟩ := I1.list hq
    refine wpAny_pyIter_list p.isList ?_
    refine ⟨s1.heap.objs.size, [s1.heap.objs.size], _, _, H1, rfl, I1.kept (t' := s1.toks) fun b o e => Heap.get?_push_of_some _ e, turn_list a _, ⟨_, Heap.get?_push_size _ rfl, rfl, rfl⟩, fun b hb => ?_, q⟩
    have e : b = s1.heap.objs.size := by simpa using hb
    subst e
    exact I1.fpOk (Nat.le_refl _) (I1.hok.fresh (Nat.le_refl _))
  · subst e
    cases r1
    obtain ⟨its, rv, p, hz⟩ := I1.tuple hq
    refine wpAny_pyIter_tuple (show s1.heap.IsTuple a its.toArray from p) ?_
    refine ⟨s1.heap.objs.size, [s1.heap.objs.size], _, _, H1, rfl, I1.kept (t' := s1.toks) fun b o e => Heap.get?_push_of_some _ e, turn_tuple a _, ⟨_, Heap.get?_push_size _ rfl, rfl, rfl⟩, fun b hb => ?_, q⟩
    have e : b = s1.heap.objs.size := by simpa using hb
    subst e
    exact I1.fpOk (Nat.le_refl _) (I1.hok.fresh (Nat.le_refl _))
def D.seq : D → Option (List D)
  | .lst ds | .kst ds | .tup ds | .ktp ds => some ds
  | _ => none
def iSeq (da : XE) : XI := fun es Q QX => da es (fun d es2 => ∃ ds, d.seq = some ds ∧ Q ds es2) QX
theorem i_seq {da : XE} (h : PFX X e da) : PIX X tg e (iSeq da) := fun W tk => PI.weak (pi_seq (h W tk)) fun σ H R ⟨w, es, Q, QX, s, q, k, kx⟩ => ⟨w, es, _, QX, s, q, (fun dv es2 v H2 w2 ⟨ds, ed, hR⟩ s2 r2 f2 => by
  cases r2 with
  | lst ha r =>
    cases ed
    exact .inl ⟨_, rfl, ⟨_, .inl (.inl (fz_sub ha))⟩, k _ _ _ _ w2 hR s2 f2 (goes_list (.inl (.inl ha)) r)⟩
  | kst ha r =>
    cases ed
    exact .inl ⟨_, rfl, ⟨_, sl_ex (fun _ _ q => fz_sub q) ha⟩, k _ _ _ _ w2 hR s2 f2 (goes_list ha r)⟩
  | tup ha r =>
    cases ed
    exact .inr ⟨_, rfl, ⟨_, .inl (.inl (fz_sub ha))⟩, k _ _ _ _ w2 hR s2 f2 (goes_tup (.inl (.inl ha)) r)⟩
  | ktp ha r =>
    cases ed
    exact .inr ⟨_, rfl, ⟨_, st_ex (fun _ _ q => fz_sub q) ha⟩, k _ _ _ _ w2 hR s2 f2 (goes_tup ha r)⟩
  | _ => cases ed), kx⟩
end
/-! ### all(xs), any(xs) of flags -/
section
variable {X : Cx}
def blsOf : List D → Option (List Bool)
  | [] => some []
  | .bl b :: ds => (blsOf ds).map (b :: ·)
  | _ => none
theorem bls_rel {K : PySem.W.Frag} {F H : Hp} : ∀ {ds : List D} {vs : List V} {bs : List Bool}, Rps K F H vs ds [] → blsOf ds = some bs → vs = bs.map V.bl
  | [], vs, bs, r, h => by
    cases h
    cases r
    rfl
  | d :: ds, vs, bs, r, h => by
    cases vs with
    | nil => cases r
    | cons v vs =>
      obtain ⟨r1, r2⟩ := r.uncons
      cases d with
      | bl b =>
        have h' : (blsOf ds).map (b :: ·) = some bs := h
        rw [Option.map_eq_some_iff] at h'
        obtain ⟨bs', h1, rfl⟩ := h'
        rw [bls_rel r2 h1]
        cases r1
        rfl
      | _ => cases h
def gAll : G1 := fun x G => match x with
  | .lst ds => ∃ bs, blsOf ds = some bs ∧ G (.bl (bs.all id))
  | _ => False
def gAny : G1 := fun x G => match x with
  | .lst ds => ∃ bs, blsOf ds = some bs ∧ G (.bl (bs.any id))
  | _ => False
theorem c_all (hc : X.calm = true) : C1 X (.builtin "all") gAll := ⟨_, cr_all hc, fun w H x d G Q lv hx hg k => by
  unfold gAll at hg
  split at hg
  · obtain ⟨bs, hb, hg⟩ := hg
    rcases hx with hx | ⟨a, vs, ds', e1, e2, h1, h2⟩
    · cases hx with
      | lst ha r =>
        rw [bls_rel r hb] at ha
        exact ⟨_, bs, rfl, .inl (.inl (fz_sub ha)), k _ _ H hg (.same (.bl _))⟩
    · cases e2
      rw [bls_rel h2 hb] at h1
      exact ⟨_, bs, by rw [e1], .inl (.inl h1), k _ _ H hg (.same (.bl _))⟩
  · exact hg.elim⟩
theorem c_any (hc : X.calm = true) : C1 X (.builtin "any") gAny := ⟨_, cr_any hc, fun w H x d G Q lv hx hg k => by
  unfold gAny at hg
  split at hg
  · obtain ⟨bs, hb, hg⟩ := hg
    rcases hx with hx | ⟨a, vs, ds', e1, e2, h1, h2⟩
    · cases hx with
      | lst ha r =>
        rw [bls_rel r hb] at ha
        exact ⟨_, bs, rfl, .inl (.inl (fz_sub ha)), k _ _ H hg (.same (.bl _))⟩
    · cases e2
      rw [bls_rel h2 hb] at h1
      exact ⟨_, bs, by rw [e1], .inl (.inl h1), k _ _ H hg (.same (.bl _))⟩
  · exact hg.elim⟩
end
/-! ### a op b op c -/
section
variable {X : Cx} {a b c : Expr} {pos : Pos} {da db dc : XE} {op op' : CmpOp} {g g' : G2}
def dChain (g g' : G2) (da db dc : XE) : XE := fun es Q QX => da es (fun d1 es1 => db es1 (fun d2 es2 => g d1 d2 fun z => ∃ k, z = .bl k ∧ (if k = true then dc es2 (fun d3 es3 => g' d2 d3 fun d => Q d es3) QX else Q (.bl false) es2)) QX) QX
theorem chain_imp {K : PySem.W.Frag} {W : WX} {r r' : R2} (l : Lift2 K r g) (l' : Lift2 K r' g') {σ : L2.St} {H : Hp} {Q : VK} (h : up K W (dChain g g' da db dc) σ H Q) : tChain r r' (upF K W da) (upF K W db) (upF K W dc) σ H Q := by
  obtain ⟨w, es, R, RX, s, q, k, kx⟩ := h
  refine ⟨w, es, _, _, s, q, fun d1 es1 x H1 w1 q1 s1 r1 f1 => ⟨w1, es1, _, _, s1, q1, fun d2 es2 y H2 w2 q2 s2 r2 f2 =>
    l w2 H2 x y d1 d2 _ _ s2.lv (.inl (f2.rp r1)) (.inl r2) q2 fun d v H3 ⟨b, e, g3⟩ rs => ?_, kx.fr f1⟩, kx⟩
  subst e
  obtain ⟨w3, s3, h3, f3⟩ := rs.to s2
  refine ⟨b, h3.bl, ?_⟩
  cases b with
  | false =>
    rw [if_neg Bool.false_ne_true] at g3 ⊢
    exact k _ _ _ _ w3 g3 s3 (.of (.bl _)) ((f1.trans f2).trans f3)
  | true =>
    rw [if_pos rfl] at g3 ⊢
    refine ⟨w3, es2, _, _, s3, g3, fun d3 es3 z H4 w4 q4 s4 r4 f4 => ?_, kx.fr ((f1.trans f2).trans f3)⟩
    refine l' w4 H4 y z d2 d3 _ _ s4.lv (.inl (f4.rp (f3.rp r2))) (.inl r4) q4 fun d v H5 g5 rs5 => ?_
    obtain ⟨w5, s5, h5, f5⟩ := rs5.to s4
    exact k d es3 v H5 w5 g5 s5 h5 ((((f1.trans f2).trans f3).trans f4).trans f5)
theorem x_chain (o : O2 X (compareOp op) g) (o' : O2 X (compareOp op') g') (ha : PFX X a da) (hb : PFX X b db) (hc : PFX X c dc) (hm : lastMarks [op, op'] [b, c] = false := by with_unfolding_all rfl) : PEX X (.Compare a [op, op'] [b, c] pos) (dChain g g' da db dc) := by
  obtain ⟨r, h, l⟩ := o
  obtain ⟨r', h', l'⟩ := o'
  exact fun W tk => PE.weak (pe_chain h h' (ha W tk) (hb W tk) (hc W tk) hm) fun σ H Q q => chain_imp l l' q
end
/-! rules -/
section
variable {es : List E} {Q : D → List E → Prop} {QX : DX} {d x y : D} {da db dc : XE} {g g' : G2} {QI : List D → List E → Prop} {ds : List D} {G : D → Prop}
theorem r_chain (q : da es (fun d1 es1 => db es1 (fun d2 es2 => g d1 d2 fun z => ∃ k, z = .bl k ∧ (if k = true then dc es2 (fun d3 es3 => g' d2 d3 fun d => Q d es3) QX else Q (.bl false) es2)) QX) QX) : dChain g g' da db dc es Q QX := q
def kISeq (Q : List D → List E → Prop) : D → List E → Prop := fun d es2 => ∃ ds, d.seq = some ds ∧ Q ds es2
theorem r_iSeq (q : da es (kISeq QI) QX) : iSeq da es QI QX := q
theorem r_kISeq (h : d.seq = some ds) (q : QI ds es) : kISeq QI d es := ⟨ds, h, q⟩
theorem r_gAll (h : x = .lst ds) (q : ∃ bs, blsOf ds = some bs ∧ G (.bl (bs.all id))) : gAll x G := by subst h; exact q
theorem r_gIsiT {ts : List D} {ns : List String} (h : x.tyn ∈ tys1) (h2 : y = .tup ts) (h3 : tysOf ts = some ns) (h4 : ∀ n ∈ ns, n ∈ tys2) (q : G (.bl (ns.any (isT x.tyn)))) : gIsiT x y G := by subst h2; exact ⟨h, ns, h3, h4, q⟩
theorem r_gTupleL (h : x = .lst ds) (q : G (.tup ds)) : gTuple x G := by subst h; exact q
theorem r_gMulS {s : List Nat} {n : Int} (h1 : x = .str s) (h2 : y = .int n) (q : (-(2 ^ 63) ≤ n ∧ n < 2 ^ 63) ∧ s.length * n.toNat ≤ sizeLine ∧ G (.str (List.replicate n.toNat s).flatten)) : gMul x y G := by subst h1 h2; exact q
theorem r_orV {b : Bool} (q : da es (fun x es1 => ∃ c, x = .bl c ∧ if c = true then Q (.bl true) es1 else db es1 Q QX) QX) : dOrV da db es Q QX := q
theorem r_notV (q : da es (fun x es1 => ∃ c, x = .bl c ∧ Q (.bl (!c)) es1) QX) : dNotV da es Q QX := q
variable {i : Nat} {f : Int → Int → Int} {D0 : XD} {n m : Int} {e0 : E} {es' : List E} {nn : List E → Prop}
def kAug (i : Nat) (f : Int → Int → Int) (n : Int) (nn : List E → Prop) : D → List E → Prop := fun d es2 => ∃ m e0, d = .int m ∧ es2[i]? = some e0 ∧ e0.free = true ∧ nn (es2.set i (.val (.int (f n m))))
theorem r_aug (h : es[i]? = some (.val (.int n))) (q : da es (kAug i f n D0.nx) D0.xn) : dAug i f da D0 es := ⟨n, h, q⟩
theorem r_kAug (h : d = .int m) (h2 : es[i]? = some e0) (hf : e0.free = true) (e : es.set i (.val (.int (f n m))) = es') (q : nn es') : kAug i f n nn d es := ⟨m, e0, h, h2, hf, e ▸ q⟩
theorem r_while {ct : XT} {s : XS} (I : Nat → List E → Prop) (m : Nat) (h0 : I m es) (turn : ∀ m es, I m es → ct es (kIf s (fun _ e => D0.nx e) { D0 with nx := fun e => ∃ m', m' < m ∧ I m' e, ct := fun e => ∃ m', m' < m ∧ I m' e, bk := D0.nx }) D0.xn) : dWhile ct s D0 es :=
  ⟨I, ⟨m, h0⟩, turn⟩
end

open PySem PySem.Spec PyProof.Rows L2 PySem.W
/-! ### s.find(t) -/
section
variable {X : Cx}
/-- where t first stands in s, from i on; else -1 -/
def findN (s t : List Nat) (i : Nat) : Int := match s with
  | [] => if t.isEmpty then i else -1
  | c :: r => if t.isPrefixOf (c :: r) then i else findN r t (i + 1)
def findS (s t : List Nat) : Int := Txt.find (S s) (S t)
def gFind : G2 := fun x y G => match x, y with
  | .str s, .str t => G (.int (findS s t))
  | _, _ => False
theorem m_find : M1 X "str.find" gFind := ⟨_, mt_find, fun w H x y d1 d2 G Q lv hx hy hg k => by
  unfold gFind at hg
  split at hg
  · obtain ⟨e1, z1⟩ := hx.str
    obtain ⟨e2, z2⟩ := hy.str
    exact ⟨_, _, e1, by rw [e2], k _ _ H hg (.same (.int _))⟩
  · exact hg.elim⟩
end
theorem r_gFind {x y : D} {s t : List Nat} {G : D → Prop} (h : x = .str s) (h2 : y = .str t) (q : G (.int (findS s t))) : gFind x y G := by subst h h2; exact q
/-! ### < of alike data -/
section
variable {X : Cx}
def rLtD (K : PySem.W.Frag) : R2 := fun x y H Q => ∃ d e : PyData, Dp K H x d ∧ Dp K H y e ∧ alike d e = true ∧ d ≠ .none ∧ min d.depth e.depth ≤ 64 ∧ Q (.bl (dataLt d e)) H
theorem op_ltD (hu : X.A.units + 64 < cLine) : OpR X (compareOp .Lt) (rLtD X.K) := by
  intro pins s σ H x y v u Q I rx ry h
  obtain ⟨d, e, hd, he, al, hn, dp, q⟩ := h
  obtain ⟨as, r1⟩ := Dp.reads I d x v hd rx
  obtain ⟨bs, r2⟩ := Dp.reads I e y u he ry
  exact rcLt_alike d e X.A s v u as bs r1 r2 al hn (by omega) _ _ _ _ ⟨.bl _, H, I, rfl, q⟩
def ltD (x y : D) : Bool := dataLt x.py y.py
def gLtD : G2 := fun x y G => x.cmp 40 = true ∧ y.cmp 40 = true ∧ alike x.py y.py = true ∧ x.py ≠ .none ∧ min x.py.depth y.py.depth ≤ 64 ∧ G (.bl (ltD x y))
theorem o_ltD {k : Nat} (hr : Room k X.A) : O2 X (compareOp .Lt) gLtD := ⟨_, op_ltD hr.units, fun w H x y d1 d2 G Q lv hx hy ⟨c1, c2, al, hn, dp, hg⟩ k => by
  obtain ⟨a1, b1⟩ := hx.dp c1
  obtain ⟨a2, b2⟩ := hy.dp c2
  exact ⟨_, _, a1, a2, al, hn, dp, k _ _ H hg (.same (.bl _))⟩⟩
end

/-! ### methods of str with two arguments -/
section
variable {X : Cx} {a b c : Expr} {da db dc : XE}
abbrev G3 := D → D → D → (D → Prop) → Prop
def M2 (X : Cx) (id : String) (g : G3) : Prop := ∃ r, MtR X id r ∧ ∀ w H x y z d1 d2 d3 (G : D → Prop) (Q : VK), (∀ a, w a ≠ none → H a ≠ none) → RpV X.K w H x d1 → RpV X.K w H y d2 → RpV X.K w H z d3 → g d1 d2 d3 G → (∀ d v H2, G d → Res X.K w H v d H2 → Q v H2) → r x [y, z] H Q
def dMt2 (g : G3) (da db dc : XE) : XE := fun es Q QX => da es (fun d1 es1 => d1.tyn = "str" ∧ db es1 (fun d2 es2 => dc es2 (fun d3 es3 => g d1 d2 d3 fun d => Q d es3) QX) QX) QX
theorem x_m2 {id : String} {name : Str} {g : G3} {apos cpos : Pos} (m : M2 X id g) (slot : Slot "str" name id) (hty : typeOf (.builtin id) = pure (.type "method_descriptor")) (ha : PFX X a da) (hb : PFX X b db) (hc : POX X c dc)
    (hbase : attributeBase a name X.env (eval a X.env) = eval a X.env := by rfl)
    (hfew : ((backTo cpos (starEach [b, c] X.env)).all (fun x => !x.1) && (backToKw cpos (keywordEach [] X.env)).all (fun x => x.1.isSome) && decide ([b, c].length + ([] : List Keyword).length + (if ([] : List Keyword).isEmpty then 0 else 1) < 30)) = true := by rfl)
    (hline : (apos.endLine == cpos.line) = true := by rfl) (hs : starEach [b, c] X.env = (false, eval b X.env) :: starEach [c] X.env := by rfl) (hs2 : starEach [c] X.env = (false, eval c X.env) :: starEach [] X.env := by rfl) (hpl : (backTo cpos (starEach [c] X.env)).any (·.1) = false := by rfl) :
    PEX X (.Call (.Attribute a name apos) [b, c] [] cpos) (dMt2 g da db dc) := fun W tk => by
  obtain ⟨r, h1, l⟩ := m
  exact PE.weak (pe_bm PySem.F.plainAttrs_str slot hty h1 (ha W tk) (pa_cons (hb W tk) (pa_cons (hc W tk) pa_nil hs2) hs) hbase hfew hline hs hpl) fun σ H Q ⟨w, es, R, RX, s, q, k, kx⟩ =>
    ⟨w, es, _, RX, s, q, fun d1 es1 v H1 w1 ⟨ed, q1⟩ s1 r1 f1 => ⟨r1.isStr ed, w1, es1, _, RX, s1, q1, fun d2 es2 v2 H2 w2 q2 s2 r2 f2 => ⟨w2, es2, _, RX, s2, q2, fun d3 es3 v3 H3 w3 q3 s3 r3 f3 =>
      l w3 H3 v v2 v3 d1 d2 d3 _ _ s3.lv ((f2.trans f3).rpv r1) (f3.rpv r2) r3 q3 fun d v4 H4 g4 rs => by
        obtain ⟨w4, s4, h4, f4⟩ := rs.to s3
        exact k d es3 v4 H4 w4 g4 s4 h4 (((f1.trans f2).trans f3).trans f4), kx.fr (f1.trans f2)⟩, kx.fr f1⟩, kx⟩
def gFind3 : G3 := fun x y z G => match x, y, z with
  | .str s, .str t, .int i => G (.int (Txt.find3 (S s) (S t) i))
  | _, _, _ => False
theorem m_find3 : M2 X "str.find" gFind3 := ⟨_, mt_find3, fun w H x y z d1 d2 d3 G Q lv hx hy hz hg k => by
  unfold gFind3 at hg
  split at hg
  · obtain ⟨e1, z1⟩ := hx.str
    obtain ⟨e2, z2⟩ := hy.str
    exact ⟨_, _, _, e1, by rw [e2, hz.int], k _ _ H hg (.same (.int _))⟩
  · exact hg.elim⟩
end

/-! ### range(a, b, -1) -/
section
variable {X : Cx} {tg e a b c : Expr} {da db dc : XE}
def downD (lo : Int) (n : Nat) : List D := (List.range n).map fun (k : Nat) => D.int (lo + k * (-1))
theorem goes_down {K : PySem.W.Frag} {w : Ow} {H : Hp} {lo : Int} {n : Nat} : Goes K (Itc lo (-1) n) (downD lo n) w H := fun w' H' f lv i => by
  refine ⟨fun d hd => ?_, fun ei => by show n ≤ i; rw [ei, downD, List.length_map, List.length_range]; exact Nat.le_refl _⟩
  unfold downD at hd
  rw [List.getElem?_map] at hd
  cases q : (List.range n)[i]? with
  | none => rw [q] at hd; cases hd
  | some c =>
    rw [q] at hd
    cases hd
    obtain ⟨hi, hc⟩ := List.getElem?_eq_some_iff.mp q
    rw [List.length_range] at hi
    rw [List.getElem_range] at hc
    subst hc
    refine ⟨hi, fun x H3 ⟨eH, ex⟩ => ?_⟩
    subst eH ex
    exact ⟨fun _ _ q => q, .int _⟩
def iRnD (da db dc : XE) : XI := fun es Q QX => da es (fun d es2 => ∃ i, d = .int i ∧ db es2 (fun d2 es3 => ∃ j, d2 = .int j ∧ dc es3 (fun d3 es4 => d3 = .int (-1) ∧ (-(2 ^ 62) ≤ i ∧ i < 2 ^ 62 ∧ -(2 ^ 62) ≤ j ∧ j < 2 ^ 62) ∧ Q (downD i (i - j).toNat) es4) QX) QX) QX
theorem i_rngD (h : PFX X a da) (hb : PFX X b db) (hc : POX X c dc) (hp : ∀ {ta : TA}, PA X [a, b, c] ta → PI X tg e (iRng3 ta)) (hs : starEach [a, b, c] X.env = (false, eval a X.env) :: starEach [b, c] X.env := by rfl)
    (hs2 : starEach [b, c] X.env = (false, eval b X.env) :: starEach [c] X.env := by rfl) (hs3 : starEach [c] X.env = (false, eval c X.env) :: starEach [] X.env := by rfl) : PIX X tg e (iRnD da db dc) := fun W tk =>
  PI.weak (hp (pa_cons (h W tk) (pa_cons (hb W tk) (pa_cons (hc W tk) pa_nil hs3) hs2) hs)) fun σ H R ⟨w, es, Q, QX, s, q, k, kx⟩ => ⟨w, es, _, QX, s, q, fun dv es2 v H2 w2 ⟨i, ei, hR⟩ s2 r2 f2 => by
    subst ei
    refine ⟨w2, es2, _, QX, s2, hR, fun dv2 es3 v2 H3 w3 ⟨j, ej, hR2⟩ s3 r3 f3 => ?_, kx.fr f2⟩
    subst ej
    refine ⟨w3, es3, _, QX, s3, hR2, fun dv3 es4 v3 H4 w4 ⟨ek, ⟨h1, h2, h3, h4⟩, hR3⟩ s4 r4 f4 => ?_, kx.fr (f2.trans f3)⟩
    subst ek
    have e1 : v = .int i := by cases r2; rfl
    have e2 : v2 = .int j := by cases r3; rfl
    exact ⟨i, j, -1, _, by rw [e1, e2, r4.int], RgC.neg h1 h2 h3 h4, k _ _ _ _ w4 hR3 s4 ((f2.trans f3).trans f4) goes_down⟩, kx⟩
end

/-! ### isinstance(e, (C1, C2)) of the error that a suite holds -/
def clssOf : List D → Option (List Value)
  | [] => some []
  | d :: ds => (clsD d).bind fun c => (clssOf ds).map (c :: ·)
theorem clss_rel {K : PySem.W.Frag} {F H : Hp} : ∀ {ds : List D} {vs : List V} {cs : List Value}, Rps K F H vs ds [] → clssOf ds = some cs → Paired ClsV vs cs
  | [], vs, cs, r, h => by
    cases h
    cases r
    exact .nil
  | d :: ds, vs, cs, r, h => by
    cases vs with
    | nil => cases r
    | cons v vs =>
      obtain ⟨r1, r2⟩ := r.uncons
      obtain ⟨c, hc, h⟩ := Option.bind_eq_some_iff.mp h
      obtain ⟨cs', h1, rfl⟩ := Option.map_eq_some_iff.mp h
      refine .cons ?_ (clss_rel r2 h1)
      cases d with
      | adr a => cases hc; cases r1; exact .own _
      | ty n => cases hc; cases r1; exact .ty _
      | _ => cases hc
def rIsET (K : PySem.W.Frag) (C0 a : Addr) : List V → Hp → VK → Prop := fun xs H Q => ∃ (tp : Addr) (cs : List V) (us : List Value) (b : Bool), xs = [.ref a, .ref tp] ∧ H tp = some (.tup cs) ∧ Paired ClsV cs us ∧ PySem.W.kitAny K (.ref C0) us = some b ∧ Q (.bl b) H
theorem call_isET {X : Cx} {a C0 : Addr} {oe : Obj} {pn : List (Addr × Obj)} (C : ExcC X.K C0) (hz : Zc (.ref C0) none oe) (hf : ∃ vs, oe.data = .fields vs) : CallR (X.suite a ((a, oe) :: pn)) (.builtin "isinstance") (rIsET X.K C0 a) := by
  intro pins s σ H xs us Q I r h
  obtain ⟨tp, cs, ws, b, rfl, hT, k, e, q⟩ := h
  obtain ⟨u1, u2, rfl, r1, r2⟩ := vals2 r
  cases (show u1 = Value.ref a from r1)
  cases (show u2 = Value.ref tp from r2)
  obtain ⟨_, its, rv, o, h1, h2, n, h3⟩ := (show ObjOk X.prog X.w H s.heap tp (.tup cs) from I.hok tp _ hT)
  have e3 := ClsV.all k rv
  subst e3
  obtain ⟨oc, od, dt, sl⟩ := o
  simp only at h2 h3
  subst h2 h3
  obtain ⟨hget, _⟩ := I.pin (a, oe) (List.mem_append.mpr (.inl List.mem_cons_self))
  obtain ⟨vs, hv⟩ := hf
  have J : PySem.W.InstAt s.heap a oe C0 none := by
    obtain ⟨oc, od, oda, osl⟩ := oe
    obtain ⟨h1, h2⟩ := hz
    dsimp only at h1 h2 hv
    subst h1 h2 hv
    exact ⟨hget, rfl, rfl, trivial⟩
  exact PySem.W.kia_tup (PySem.W.handS_kitx_exc C.hg C.hk C.hs C.hd C.ha C.hn C.ht C.hm) I.kIn J h1 e (fun z => nomatch z) fun tk => ⟨.bl b, H, I.kept (t' := tk) fun _ _ z => z, rfl, q⟩
def gIsET (K : PySem.W.Frag) (C0 a : Addr) : G2 := fun x y G => x = .adr a ∧ match y with
  | .tup ds => ∃ cs b, clssOf ds = some cs ∧ PySem.W.kitAny K (.ref C0) cs = some b ∧ G (.bl b)
  | _ => False
theorem c_isET {X : Cx} {a C0 : Addr} {oe : Obj} {pn : List (Addr × Obj)} (C : ExcC X.K C0) (hz : Zc (.ref C0) none oe) (hf : ∃ vs, oe.data = .fields vs) : C2 (X.suite a ((a, oe) :: pn)) (.builtin "isinstance") (gIsET X.K C0 a) := ⟨_, call_isET C hz hf, fun w H x y d1 d2 G Q lv hx hy ⟨e1, hg⟩ k => by
  subst e1
  have ex := hx.adr
  subst ex
  split at hg
  · obtain ⟨cs, b, ec, hk, hg⟩ := hg
    obtain ⟨p, vs, rfl, ht, r⟩ := hy.tup
    exact ⟨p, vs, cs, b, rfl, ht, clss_rel r ec, hk, k _ _ H hg (.same (.bl _))⟩
  · exact hg.elim⟩
theorem r_gIsE {K : PySem.W.Frag} {C0 a : Addr} {x y : D} {cv : Value} {b : Bool} {G : D → Prop} (h : x = .adr a) (h2 : clsD y = some cv) (h3 : PySem.W.kitOne K (.ref C0) cv = some b) (q : G (.bl b)) : gIsE K C0 a x y G := ⟨h, cv, b, h2, h3, q⟩
theorem r_gIsET {K : PySem.W.Frag} {C0 a : Addr} {x : D} {ds : List D} {cs : List Value} {b : Bool} {G : D → Prop} (h : x = .adr a) (h2 : clssOf ds = some cs) (h3 : PySem.W.kitAny K (.ref C0) cs = some b) (q : G (.bl b)) : gIsET K C0 a x (.tup ds) G := ⟨h, cs, b, h2, h3, q⟩
/-! ### {} -/
theorem x_dict0 {X : Cx} {pos : Pos} : PFX X (.Dict [] [] pos) (dC (.dic [])) := fun W tk => PE.weak pe_dnewK fun σ H Q ⟨w, es, R, RX, s, q, k, kx⟩ => fun p hp => by
  have wp : w p = none := s.fresh hp
  have g1 := up_new (o := HO.dK []) hp
  refine k _ es _ _ w q (s.grow g1) ?_ (.new g1)
  exact .dic (ks := []) (vs := []) (ds := []) (kvs := []) (.inl (of_fz wp upd_same)) rfl rfl rfl .nil
/-! ### lists of texts, compared -/
theorem pys_strs_eqv : ∀ xs ys : List (List Nat), PyData.eqvAll (pys (xs.map .str)) (pys (ys.map .str)) = decide (xs = ys)
  | [], [] => by simp [pys, PyData.eqvAll]
  | [], y :: ys => by simp [pys, PyData.eqvAll]
  | x :: xs, [] => by simp [pys, PyData.eqvAll]
  | x :: xs, y :: ys => by
    have h1 := eqD_ss (s := x) (t := y)
    have h2 := pys_strs_eqv xs ys
    have h1' : PyData.eqv (D.str x).py (D.str y).py = decide (x = y) := h1
    simp only [List.map_cons, pys, PyData.eqvAll, h1', h2]
    by_cases a : x = y <;> by_cases b : xs = ys <;> simp [a, b]
theorem eqD_strs (xs ys : List (List Nat)) : eqD (.lst (xs.map .str)) (.lst (ys.map .str)) = decide (xs = ys) := by
  unfold eqD
  simp only [D.py, PyData.eqv]
  exact pys_strs_eqv xs ys
/-! ### where a text first stands in another -/
def Occ (s t : List Nat) (k : Nat) : Prop := k + t.length ≤ s.length ∧ (s.drop k).take t.length = t
theorem at_occ (s t : List Nat) (k : Nat) : StrLaws.At (S s) (S t) (S s).length k ↔ Occ s t k := by
  have ls : (S s).length = s.length := rfl
  have lt : (S t).length = t.length := rfl
  unfold StrLaws.At Occ Builtin.Str.subAt
  rw [ls, lt]
  refine and_congr_right fun _ => ?_
  show ((s.toArray.extract k (k + t.length)) == t.toArray) = true ↔ _
  rw [beq_iff_eq]
  constructor
  · intro h
    have := congrArg Array.toList h
    rw [Array.toList_extract] at this
    simpa [List.extract_eq_take_drop] using this
  · intro h
    apply Array.ext'
    rw [Array.toList_extract]
    simpa [List.extract_eq_take_drop] using h
theorem find3_is (s t : List Nat) (i : Nat) (hi : i ≤ s.length) : (Txt.find3 (S s) (S t) i = -1 ∧ ∀ k, i ≤ k → ¬ Occ s t k) ∨ ∃ k : Nat, Txt.find3 (S s) (S t) i = k ∧ i ≤ k ∧ Occ s t k ∧ ∀ j, i ≤ j → j < k → ¬ Occ s t j := by
  have fi : fromIndex (S s).length (i : Int) = i := by
    have ls : (S s).length = s.length := rfl
    unfold fromIndex
    rw [ls]
    first | omega | (split <;> omega) | (simp; omega)
  unfold Txt.find3
  rw [fi]
  rcases StrLaws.occ_head_from (S s) (S t) i 1 (Nat.le_refl 1) with ⟨h0, hn⟩ | ⟨k, r, h0, hlo, hk, hn⟩
  · rw [h0]
    exact .inl ⟨rfl, fun k h1 h2 => hn k h1 ((at_occ s t k).mpr h2)⟩
  · rw [h0]
    exact .inr ⟨k, rfl, hlo, (at_occ s t k).mp hk, fun j h1 h2 h3 => hn j h1 h2 ((at_occ s t j).mpr h3)⟩
theorem r_gFind3 {x y z : D} {s t : List Nat} {i : Int} {G : D → Prop} (h : x = .str s) (h2 : y = .str t) (h3 : z = .int i) (q : G (.int (Txt.find3 (S s) (S t) i))) : gFind3 x y z G := by subst h h2 h3; exact q
theorem r_gFind' {x y : D} {s t : List Nat} {G : D → Prop} (h : x = .str s) (h2 : y = .str t) (q : G (.int (findS s t))) : gFind x y G := by subst h h2; exact q
section
variable {es : List E} {Q : D → List E → Prop} {QX : DX} {d d3 : D} {da db dc : XE} {QI : List D → List E → Prop} {n m : Int}
def kMt2 (g : G3) (db dc : XE) (Q : D → List E → Prop) (QX : DX) : D → List E → Prop := fun d1 es1 => d1.tyn = "str" ∧ db es1 (fun d2 es2 => dc es2 (fun d3 es3 => g d1 d2 d3 fun d => Q d es3) QX) QX
theorem r_mt2 {g : G3} (q : da es (kMt2 g db dc Q QX) QX) : dMt2 g da db dc es Q QX := q
theorem r_kMt2 {g : G3} {st : List Nat} (h : d = .str st) (q : db es (fun d2 es2 => dc es2 (fun d3 es3 => g (.str st) d2 d3 fun d => Q d es3) QX) QX) : kMt2 g db dc Q QX d es := by subst h; exact ⟨rfl, q⟩
def kIRnD (db dc : XE) (Q : List D → List E → Prop) (QX : DX) : D → List E → Prop := fun d es2 => ∃ i, d = .int i ∧ db es2 (fun d2 es3 => ∃ j, d2 = .int j ∧ dc es3 (fun d3 es4 => d3 = .int (-1) ∧ (-(2 ^ 62) ≤ i ∧ i < 2 ^ 62 ∧ -(2 ^ 62) ≤ j ∧ j < 2 ^ 62) ∧ Q (downD i (i - j).toNat) es4) QX) QX
def kIRnD2 (dc : XE) (i : Int) (Q : List D → List E → Prop) (QX : DX) : D → List E → Prop := fun d2 es3 => ∃ j, d2 = .int j ∧ dc es3 (fun d3 es4 => d3 = .int (-1) ∧ (-(2 ^ 62) ≤ i ∧ i < 2 ^ 62 ∧ -(2 ^ 62) ≤ j ∧ j < 2 ^ 62) ∧ Q (downD i (i - j).toNat) es4) QX
def kIRnD3 (i j : Int) (Q : List D → List E → Prop) : D → List E → Prop := fun d3 es4 => d3 = .int (-1) ∧ (-(2 ^ 62) ≤ i ∧ i < 2 ^ 62 ∧ -(2 ^ 62) ≤ j ∧ j < 2 ^ 62) ∧ Q (downD i (i - j).toNat) es4
theorem r_iRnD (q : da es (kIRnD db dc QI QX) QX) : iRnD da db dc es QI QX := q
theorem r_kIRnD (h : d = .int n) (q : db es (kIRnD2 dc n QI QX) QX) : kIRnD db dc QI QX d es := ⟨n, h, q⟩
theorem r_kIRnD2 (h : d = .int m) (q : dc es (kIRnD3 n m QI) QX) : kIRnD2 dc n QI QX d es := ⟨m, h, q⟩
theorem r_kIRnD3 (h : d = .int (-1)) (q : (-1000000000 ≤ n ∧ n ≤ 1000000000 ∧ -1000000000 ≤ m ∧ m ≤ 1000000000) ∧ QI (downD n (n - m).toNat) es) : kIRnD3 n m QI d es := ⟨h, by omega, q.2⟩
end

/-! ### rows -/
def isL (c : Nat) : Prop := (65 ≤ c ∧ c ≤ 90) ∨ (97 ≤ c ∧ c ≤ 122)
instance (c : Nat) : Decidable (isL c) := by unfold isL; infer_instance
def Ls (s : List Nat) : Prop := ∀ c ∈ s, isL c
def LETTERS : List Nat := lit "abcdefghijklmnopqrstuvwxyzABCDEFGHIJKLMNOPQRSTUVWXYZ"
def isStrOf (x : D) (signs : List Nat) : Bool := match x with
  | .str t => t.all fun c => decide (c ∈ signs)
  | _ => false
def isRow (x : D) : Bool := isStrOf x LETTERS
/-- the stack of a net, the last letter first -/
def rpush (st : List Nat) (c : Nat) : List Nat := match st with
  | a :: r => if a = sw2 c then r else c :: a :: r
  | [] => [c]
def netL (s : List Nat) : List Nat := (s.foldl rpush []).reverse
def back1 (s : List Nat) : List Nat := s.reverse.map sw2
/-- some value -/
def okV (x : D) : Prop := x.fro = true ∧ x.tyn ∈ tys1
def HandOk (d : D) : Prop := ∃ (cells : List Int) (p b s n : Int), d = .mlst [.lst (cells.map .int), .int p, .int b, .int s, .int n] ∧ (∀ x ∈ cells, 0 ≤ x) ∧ 0 ≤ p ∧ 0 ≤ b ∧ 0 ≤ s ∧ s < 2147483648 ∧ 0 ≤ n
def isInt : D → Bool
  | .int _ => true
  | _ => false
def within (x : D) (a b : Int) : Bool := match x with
  | .int i => decide (a ≤ i) && decide (i ≤ b)
  | _ => false
/-- how far a row is its own undoing from its ends -/
def Bent (s : List Nat) (m : Nat) : Prop := 2 * m ≤ s.length ∧ (∀ i, i < m → ∀ a b, s[i]? = some a → s[s.length - 1 - i]? = some b → a = sw2 b) ∧ (2 * m + 1 < s.length → ∀ a b, s[m]? = some a → s[s.length - 1 - m]? = some b → a ≠ sw2 b)
def repL (s : List Nat) (n : Nat) : List Nat := (List.replicate n s).flatten
def powL (s : List Nat) (t : Int) : List Nat := if t < 0 then netL (repL (back1 s) (-t).toNat) else netL (repL s t.toNat)
/-! ### small things -/
theorem chars_get {s : List Nat} {k : Nat} {d : D} (h : (chars s)[k]? = some d) : ∃ c, s[k]? = some c ∧ d = .str [c] := by
  unfold chars at h
  rw [List.getElem?_map, Option.map_eq_some_iff] at h
  obtain ⟨c, h1, h2⟩ := h
  exact ⟨c, h1, h2.symm⟩
theorem take_get {α : Type} {l : List α} {k : Nat} {x : α} (h : l[k]? = some x) : l.take (k + 1) = l.take k ++ [x] := by
  rw [List.take_succ, h]
  rfl
theorem chars_app (s t : List Nat) : chars s ++ chars t = chars (s ++ t) := by unfold chars; rw [List.map_append]
theorem chars_len (s : List Nat) : (chars s).length = s.length := by unfold chars; rw [List.length_map]
theorem strs_chars (s : List Nat) : strsOf (chars s) = some (s.map fun c => [c]) := by
  induction s with
  | nil => rfl
  | cons a s ih =>
    show (strsOf (chars s)).map _ = _
    rw [ih]
    rfl
theorem join_chars (s : List Nat) : joinL [] (s.map fun c => [c]) = s := by
  cases s with
  | nil => rfl
  | cons a s =>
    show [a] ++ ((s.map fun c => [c]).map fun y => [] ++ y).flatten = _
    have : ∀ s : List Nat, ((s.map fun c => [c]).map fun y => [] ++ y).flatten = s := by
      intro s
      induction s with
      | nil => rfl
      | cons b s ih => simp only [List.map_cons, List.flatten_cons, ih]; rfl
    rw [this]
    rfl
theorem sum_ones (s : List Nat) : ((s.map fun c => [c]).map (·.length)).sum = s.length := by
  induction s with
  | nil => rfl
  | cons a s ih => simp only [List.map_cons, List.sum_cons, ih, List.length_cons, List.length_nil]; omega
theorem cut_chars (s : List Nat) (lo hi : Option Int) : cutL (chars s) lo hi = chars (cutL s lo hi) := by
  unfold cutL chars
  rw [List.length_map, List.map_take, List.map_drop]
theorem at_chars {s : List Nat} {i : Int} {c : Nat} (h : atI s i = some c) : atI (chars s) i = some (.str [c]) := by
  unfold atI at h ⊢
  rw [chars_len]
  cases e : ixN s.length i with
  | none => rw [e] at h; cases h
  | some j =>
    rw [e] at h
    have h' : s[j]? = some c := h
    show (chars s)[j]? = _
    unfold chars
    rw [List.getElem?_map, h']
    rfl
theorem at_nat {α : Type} {l : List α} {i : Int} (h0 : 0 ≤ i) (h1 : i < l.length) : ∃ x, atI l i = some x ∧ l[i.toNat]? = some x := by
  have h2 : i.toNat < l.length := by omega
  refine ⟨l[i.toNat], ?_, List.getElem?_eq_getElem h2⟩
  have := atI_nat (j := i.toNat) (List.getElem?_eq_getElem h2)
  rw [show ((i.toNat : Nat) : Int) = i by omega] at this
  exact this
theorem eqD_str (s t : List Nat) : eqD (.str s) (.str t) = decide (s = t) := by
  show (S s == S t) = _
  rw [Bool.eq_iff_iff]
  simp only [beq_iff_eq, decide_eq_true_eq, S_inj]
theorem eqD_int (i j : Int) : eqD (.int i) (.int j) = decide (i = j) := by
  show (i == j) = _
  rw [Bool.eq_iff_iff]
  simp
/-! ### nets -/
theorem sw_sw {c : Nat} (h : isL c) : sw2 (sw2 c) = c := by
  unfold isL at h
  unfold sw2
  split <;> (try split) <;> (try split) <;> omega
theorem sw_L {c : Nat} (h : isL c) : isL (sw2 c) := by
  unfold isL at h ⊢
  unfold sw2
  split <;> (try split) <;> omega
/-- no letter stands on its undoing -/
def Red : List Nat → Prop
  | [] => True
  | [_] => True
  | a :: b :: r => a ≠ sw2 b ∧ Red (b :: r)
theorem Red.tail {a : Nat} {r : List Nat} (h : Red (a :: r)) : Red r := by
  cases r with
  | nil => trivial
  | cons b r => exact h.2
theorem rpush_red {st : List Nat} {c : Nat} (h : Red st) (hl : isL c) (ls : Ls st) : Red (rpush st c) ∧ Ls (rpush st c) := by
  unfold rpush
  split
  · rename_i a r
    split
    · exact ⟨h.tail, fun x hx => ls x (List.mem_cons_of_mem _ hx)⟩
    · rename_i n
      refine ⟨⟨fun e => n ?_, h⟩, fun x hx => (List.mem_cons.mp hx).elim (fun e => by rw [e]; exact hl) (ls x)⟩
      rw [e, sw_sw (ls a List.mem_cons_self)]
  · exact ⟨trivial, fun x hx => (List.mem_cons.mp hx).elim (fun e => by rw [e]; exact hl) (fun h => nomatch h)⟩
theorem rpush_pair {st : List Nat} {c : Nat} (h : Red st) (hl : isL c) (ls : Ls st) : rpush (rpush st c) (sw2 c) = st := by
  cases st with
  | nil =>
    show (if c = sw2 (sw2 c) then [] else _) = _
    rw [if_pos (sw_sw hl).symm]
  | cons a r =>
    have e1 : rpush (a :: r) c = if a = sw2 c then r else c :: a :: r := rfl
    rw [e1]
    by_cases e : a = sw2 c
    · rw [if_pos e]
      cases r with
      | nil => rw [e]; rfl
      | cons b r =>
        show (if b = sw2 (sw2 c) then r else sw2 c :: b :: r) = _
        rw [if_neg, e]
        intro e2
        exact h.1 (by rw [e, e2, sw_sw hl])
    · rw [if_neg e]
      show (if c = sw2 (sw2 c) then a :: r else _) = _
      rw [if_pos (sw_sw hl).symm]
theorem fold_red : ∀ (s : List Nat) (st : List Nat), Ls s → Red st → Ls st → Red (s.foldl rpush st) ∧ Ls (s.foldl rpush st)
  | [], st, _, h, l => ⟨h, l⟩
  | c :: s, st, hs, h, l => by
    obtain ⟨a, b⟩ := rpush_red h (hs c List.mem_cons_self) l
    exact fold_red s _ (fun x hx => hs x (List.mem_cons_of_mem _ hx)) a b
/-- a pair that undoes itself counts nothing -/
theorem net_pair {s t : List Nat} {c : Nat} (hs : Ls s) (hl : isL c) : netL (s ++ [c, sw2 c] ++ t) = netL (s ++ t) := by
  obtain ⟨a, b⟩ := fold_red s [] hs trivial (fun _ h => nomatch h)
  unfold netL
  rw [List.append_assoc, List.foldl_append, List.foldl_append, List.foldl_append]
  show (t.foldl rpush (rpush (rpush (s.foldl rpush []) c) (sw2 c))).reverse = _
  rw [rpush_pair a hl b]
/-- a row without such neighbours -/
def Flat (s : List Nat) : Prop := ∀ (i : Nat) a b, s[i]? = some a → s[i + 1]? = some b → b ≠ sw2 a
theorem fold_flat : ∀ (s st : List Nat), Flat s → (∀ a b, st.head? = some a → s.head? = some b → b ≠ sw2 a) → Ls s → Ls st → s.foldl rpush st = s.reverse ++ st
  | [], st, _, _, _, _ => rfl
  | c :: s, st, h, hh, ls, lt => by
    have hc := ls c List.mem_cons_self
    have e : rpush st c = c :: st := by
      unfold rpush
      split
      · rename_i a r
        rw [if_neg]
        intro e
        exact hh a c rfl rfl (by rw [e, sw_sw hc])
      · rfl
    rw [List.foldl_cons, e, fold_flat s (c :: st) (fun i a b h1 h2 => h (i + 1) a b (by simpa using h1) (by simpa using h2)) (fun a b h1 h2 => ?_) (fun x hx => ls x (List.mem_cons_of_mem _ hx)) (fun x hx => (List.mem_cons.mp hx).elim (fun e => by rw [e]; exact hc) (lt x))]
    · simp
    · cases h1
      cases s with
      | nil => cases h2
      | cons d s =>
        cases h2
        exact h 0 c _ rfl rfl
theorem net_flat {s : List Nat} (h : Flat s) (ls : Ls s) : netL s = s := by
  unfold netL
  rw [fold_flat s [] h (fun a b h1 => by cases h1) ls (fun _ h => nomatch h), List.append_nil, List.reverse_reverse]
theorem red_flat : ∀ (s : List Nat), Red s → ∀ (i : Nat) a b, s[i]? = some a → s[i + 1]? = some b → a ≠ sw2 b
  | [], _, i, a, b, h, _ => by simp at h
  | [x], _, i, a, b, _, h => by simp at h
  | x :: y :: r, h, 0, a, b, h1, h2 => by
    cases h1
    cases h2
    exact h.1
  | x :: y :: r, h, i + 1, a, b, h1, h2 => red_flat (y :: r) h.2 i a b (by simpa using h1) (by simpa using h2)
theorem net_is_flat {s : List Nat} (ls : Ls s) : Flat (netL s) ∧ Ls (netL s) := by
  obtain ⟨a, b⟩ := fold_red s [] ls trivial (fun _ h => nomatch h)
  refine ⟨fun i x y h1 h2 e => ?_, fun x hx => b x (List.mem_reverse.mp hx)⟩
  unfold netL at h1 h2
  have hi := (List.getElem?_eq_some_iff.mp h2).1
  rw [List.length_reverse] at hi
  rw [List.getElem?_reverse (by omega)] at h1
  rw [List.getElem?_reverse (by omega)] at h2
  have := red_flat _ a ((s.foldl rpush []).length - 1 - (i + 1)) y x h2 (by
    rw [show (s.foldl rpush []).length - 1 - (i + 1) + 1 = (s.foldl rpush []).length - 1 - i by omega]
    exact h1)
  exact this e
theorem net_net {s : List Nat} (ls : Ls s) : netL (netL s) = netL s := net_flat (net_is_flat ls).1 (net_is_flat ls).2
theorem push_len (st : List Nat) (c : Nat) : (rpush st c).length ≤ st.length + 1 := by
  unfold rpush
  split
  · split
    · simp; omega
    · simp
  · simp
theorem fold_len : ∀ (s st : List Nat), (s.foldl rpush st).length ≤ st.length + s.length
  | [], st => Nat.le_refl _
  | c :: s, st => by
    have h1 := fold_len s (rpush st c)
    have h2 := push_len st c
    rw [List.foldl_cons, List.length_cons]
    omega
theorem net_len (s : List Nat) : (netL s).length ≤ s.length := by
  unfold netL
  rw [List.length_reverse]
  have := fold_len s []
  simpa using this
theorem net_back {s t : List Nat} (hs : Ls s) : ∀ (m : List Nat), Ls m → netL (s ++ (m ++ back1 m) ++ t) = netL (s ++ t)
  | [], _ => by simp [back1]
  | c :: m, hm => by
    have hc := hm c List.mem_cons_self
    have hm' : Ls m := fun x hx => hm x (List.mem_cons_of_mem _ hx)
    have e : s ++ (c :: m ++ back1 (c :: m)) ++ t = (s ++ [c]) ++ (m ++ back1 m) ++ ([sw2 c] ++ t) := by
      unfold back1
      simp
    have hs2 : Ls (s ++ [c]) := fun x hx => (List.mem_append.mp hx).elim (hs x) fun h => by
      have : x = c := by simpa using h
      rw [this]; exact hc
    rw [e, net_back hs2 m hm', show s ++ [c] ++ ([sw2 c] ++ t) = s ++ [c, sw2 c] ++ t by simp, net_pair hs hc]
theorem back_L {m : List Nat} (h : Ls m) : Ls (back1 m) := fun x hx => by
  obtain ⟨y, hy, rfl⟩ := List.mem_map.mp hx
  exact sw_L (h y (List.mem_reverse.mp hy))
theorem back_back {m : List Nat} (h : Ls m) : back1 (back1 m) = m := by
  unfold back1
  rw [← List.map_reverse, List.reverse_reverse, List.map_map]
  have : m.map (sw2 ∘ sw2) = m.map id := List.map_congr_left fun x hx => sw_sw (h x hx)
  rw [this, List.map_id]
theorem letters_mem (c : Nat) : c ∈ LETTERS ↔ isL c := by
  have h1 : ∀ c, c < 128 → (c ∈ LETTERS ↔ isL c) := by decide +kernel
  by_cases h : c < 128
  · exact h1 c h
  · constructor
    · intro hm
      have : ∀ x ∈ LETTERS, x < 128 := by decide +kernel
      exact absurd (this c hm) h
    · intro hl
      unfold isL at hl
      omega
theorem isRow_str (s : List Nat) : isRow (.str s) = true ↔ Ls s := by
  show (s.all fun c => decide (c ∈ LETTERS)) = true ↔ _
  rw [List.all_eq_true]
  exact ⟨fun h c hc => (letters_mem c).mp (of_decide_eq_true (h c hc)), fun h c hc => decide_eq_true ((letters_mem c).mpr (h c hc))⟩
theorem isRow_other {x : D} (h : ∀ s, x ≠ .str s) : isRow x = false := by
  cases x with
  | str s => exact absurd rfl (h s)
  | _ => rfl
/-- the stack as the program holds it: the last letter last -/
theorem rpush_last (st : List Nat) (c : Nat) : (rpush st c).reverse = if st.reverse.getLast? = some (sw2 c) then st.reverse.dropLast else st.reverse ++ [c] := by
  cases st with
  | nil => rfl
  | cons a r =>
    show (if a = sw2 c then r else c :: a :: r).reverse = _
    rw [List.reverse_cons, List.getLast?_concat, List.dropLast_concat]
    by_cases e : a = sw2 c
    · rw [if_pos e, if_pos (by rw [e])]
    · rw [if_neg e, if_neg (by simpa using e)]
      simp
/-! ### rows as words of a group -/
theorem net_snoc (s : List Nat) (c : Nat) : netL (s ++ [c]) = (rpush (netL s).reverse c).reverse := by
  unfold netL
  rw [List.foldl_append, List.reverse_reverse]
  rfl
theorem snoc_ind {P : List Nat → Prop} (h0 : P []) (h1 : ∀ s c, P s → P (s ++ [c])) : ∀ s, P s := fun s => by
  have : ∀ r : List Nat, P r.reverse := fun r => by
    induction r with
    | nil => exact h0
    | cons a r ih => rw [List.reverse_cons]; exact h1 _ _ ih
  have := this s.reverse
  rwa [List.reverse_reverse] at this
theorem fold_net {st : List Nat} (hr : Red st) (hl : Ls st) : ∀ s, Ls s → s.foldl rpush st = (netL s).foldl rpush st := fun s => by
  induction s using snoc_ind with
  | h0 => exact fun _ => rfl
  | h1 s c ih =>
    intro ls
    have ls1 : Ls s := fun x hx => ls x (List.mem_append_left _ hx)
    have lc : isL c := ls c (List.mem_append_right _ List.mem_cons_self)
    have ih := ih ls1
    have lns := (net_is_flat ls1).2
    rw [List.foldl_append, ih, net_snoc]
    show rpush _ c = _
    cases e : (netL s).reverse with
    | nil =>
      have : netL s = [] := by rw [← List.reverse_reverse (netL s), e]; rfl
      rw [this]
      rfl
    | cons a r =>
      have e2 : netL s = r.reverse ++ [a] := by rw [← List.reverse_reverse (netL s), e, List.reverse_cons]
      have la : isL a := lns a (by rw [e2]; simp)
      have lr : Ls r.reverse := fun x hx => lns x (by rw [e2]; exact List.mem_append_left _ hx)
      by_cases h : a = sw2 c
      · have hc : c = sw2 a := by rw [h, sw_sw lc]
        have : rpush (a :: r) c = r := if_pos h
        rw [this, e2, List.foldl_append]
        show rpush (rpush _ a) c = _
        obtain ⟨r1, r2⟩ := fold_red r.reverse st lr hr hl
        rw [hc]
        exact rpush_pair r1 la r2
      · have : rpush (a :: r) c = c :: a :: r := if_neg h
        rw [this, List.reverse_cons, List.reverse_cons, ← e2, List.foldl_append]
        rfl
theorem net_mid {a s b : List Nat} (la : Ls a) (ls : Ls s) : netL (a ++ netL s ++ b) = netL (a ++ s ++ b) := by
  obtain ⟨r1, r2⟩ := fold_red a [] la trivial (fun _ h => nomatch h)
  unfold netL
  rw [List.foldl_append, List.foldl_append, List.foldl_append, List.foldl_append]
  congr 2
  exact (fold_net r1 r2 s ls).symm
theorem net_l {s b : List Nat} (ls : Ls s) : netL (netL s ++ b) = netL (s ++ b) := net_mid (a := []) (fun _ h => nomatch h) ls
theorem net_r {a s : List Nat} (la : Ls a) (ls : Ls s) : netL (a ++ netL s) = netL (a ++ s) := by
  have := net_mid (b := []) la ls
  simpa using this
theorem back_app (a b : List Nat) : back1 (a ++ b) = back1 b ++ back1 a := by unfold back1; rw [List.reverse_append, List.map_append]
theorem net_back2 {s t m : List Nat} (hs : Ls s) (lm : Ls m) : netL (s ++ (back1 m ++ m) ++ t) = netL (s ++ t) := by
  have := net_back (t := t) hs (back1 m) (back_L lm)
  rwa [back_back lm] at this
theorem Ls.app {s t : List Nat} (h1 : Ls s) (h2 : Ls t) : Ls (s ++ t) := fun x hx => (List.mem_append.mp hx).elim (h1 x) (h2 x)
theorem Ls.nil : Ls [] := fun _ h => nomatch h
theorem Ls.net {s : List Nat} (h : Ls s) : Ls (netL s) := (net_is_flat h).2
theorem flat_back {s : List Nat} (ls : Ls s) (h : Flat s) : Flat (back1 s) := fun i a b h1 h2 e => by
  unfold back1 at h1 h2
  rw [List.getElem?_map, Option.map_eq_some_iff] at h1 h2
  obtain ⟨x, hx, rfl⟩ := h1
  obtain ⟨y, hy, rfl⟩ := h2
  have hi := (List.getElem?_eq_some_iff.mp hy).1
  rw [List.length_reverse] at hi
  rw [List.getElem?_reverse (by omega)] at hx hy
  have lx := ls x (List.mem_of_getElem? hx)
  have ly := ls y (List.mem_of_getElem? hy)
  rw [sw_sw lx] at e
  have := h (s.length - 1 - (i + 1)) y x hy (by rw [show s.length - 1 - (i + 1) + 1 = s.length - 1 - i by omega]; exact hx)
  exact this e.symm
/-- the undoing of a net is the net of the undoing -/
theorem back_net {s : List Nat} (ls : Ls s) : back1 (netL s) = netL (back1 s) := by
  obtain ⟨fl, ln⟩ := net_is_flat ls
  have h1 : netL (back1 (netL s)) = back1 (netL s) := net_flat (flat_back ln fl) (back_L ln)
  rw [← h1]
  have h2 : netL (back1 (netL s) ++ netL s ++ back1 s) = netL (back1 (netL s) ++ s ++ back1 s) := net_mid (back_L ln) ls
  have h3 : netL (back1 (netL s) ++ netL s ++ back1 s) = netL (back1 s) := by
    have := net_back2 (s := []) (t := back1 s) Ls.nil ln
    simpa using this
  have h4 : netL (back1 (netL s) ++ s ++ back1 s) = netL (back1 (netL s)) := by
    have := net_back (s := back1 (netL s)) (t := []) (back_L ln) s ls
    simpa [List.append_assoc] using this
  rw [← h4, ← h2, h3]
/-! ### powers -/
theorem rep_succ (s : List Nat) (k : Nat) : repL s (k + 1) = repL s k ++ s := by
  unfold repL
  rw [List.replicate_succ', List.flatten_append]
  simp
theorem rep_zero (s : List Nat) : repL s 0 = [] := rfl
theorem rep_L {s : List Nat} (ls : Ls s) : ∀ k, Ls (repL s k)
  | 0 => Ls.nil
  | k + 1 => by rw [rep_succ]; exact (rep_L ls k).app ls
theorem rep_len (s : List Nat) : ∀ k, (repL s k).length = s.length * k
  | 0 => by simp [rep_zero]
  | k + 1 => by rw [rep_succ, List.length_append, rep_len s k, Nat.mul_succ]
theorem rep_net {s : List Nat} (ls : Ls s) : ∀ k, netL (repL (netL s) k) = netL (repL s k)
  | 0 => rfl
  | k + 1 => by
    rw [rep_succ, rep_succ, net_r (rep_L ls.net k) ls, ← net_l (rep_L ls.net k), rep_net ls k, net_l (rep_L ls k)]
theorem back_len (s : List Nat) : (back1 s).length = s.length := by unfold back1; rw [List.length_map, List.length_reverse]
theorem pow_net {s : List Nat} (ls : Ls s) (t : Int) : powL (netL s) t = powL s t := by
  unfold powL
  split
  · rw [back_net ls, rep_net (back_L ls)]
  · exact rep_net ls _
/-- the word of a power -/
def wd (s : List Nat) (t : Int) : List Nat := if t < 0 then repL (back1 s) (-t).toNat else repL s t.toNat
theorem pow_wd (s : List Nat) (t : Int) : powL s t = netL (wd s t) := by
  unfold powL wd
  split <;> rfl
theorem wd_L {s : List Nat} (ls : Ls s) (t : Int) : Ls (wd s t) := by
  unfold wd
  split
  · exact rep_L (back_L ls) _
  · exact rep_L ls _
theorem wd_up {s : List Nat} (ls : Ls s) (t : Int) : netL (wd s t ++ s) = netL (wd s (t + 1)) := by
  unfold wd
  by_cases h : t < 0
  · rw [if_pos h]
    obtain ⟨k, hk⟩ : ∃ k : Nat, (-t).toNat = k + 1 := ⟨(-t).toNat - 1, by omega⟩
    rw [hk, rep_succ]
    have := net_back2 (s := repL (back1 s) k) (t := []) (m := s) (rep_L (back_L ls) k) ls
    rw [List.append_assoc]
    rw [show netL (repL (back1 s) k ++ (back1 s ++ s)) = netL (repL (back1 s) k) by simpa using this]
    by_cases h2 : t + 1 < 0
    · rw [if_pos h2, show (-(t + 1)).toNat = k by omega]
    · rw [if_neg h2, show k = 0 by omega, show (t + 1).toNat = 0 by omega, rep_zero, rep_zero]
  · rw [if_neg h, if_neg (by omega), show (t + 1).toNat = t.toNat + 1 by omega, rep_succ]
theorem wd_down {s : List Nat} (ls : Ls s) (t : Int) : netL (wd s t ++ back1 s) = netL (wd s (t - 1)) := by
  have h := wd_up ls (t - 1)
  rw [show t - 1 + 1 = t by omega] at h
  have h2 : netL (wd s t ++ back1 s) = netL (wd s (t - 1) ++ s ++ back1 s) := by rw [← net_l (wd_L ls t), ← h, net_l ((wd_L ls _).app ls)]
  rw [h2, List.append_assoc]
  have := net_back (s := wd s (t - 1)) (t := []) (wd_L ls _) s ls
  simpa using this
theorem wd_add {s : List Nat} (ls : Ls s) (a : Int) : ∀ k : Nat, netL (wd s a ++ wd s k) = netL (wd s (a + k)) ∧ netL (wd s a ++ wd s (-(k : Int))) = netL (wd s (a - k))
  | 0 => by
    have : wd s ((0 : Nat) : Int) = [] := rfl
    have h2 : wd s (-((0 : Nat) : Int)) = [] := rfl
    rw [this, h2]
    simp
  | k + 1 => by
    obtain ⟨h1, h2⟩ := wd_add ls a k
    constructor
    · have e : wd s ((k + 1 : Nat) : Int) = wd s (k : Int) ++ s := by
        unfold wd
        rw [if_neg (by omega), if_neg (by omega), show (((k + 1 : Nat)) : Int).toNat = (k : Int).toNat + 1 by omega, rep_succ]
      rw [e, ← List.append_assoc, ← net_l ((wd_L ls a).app (wd_L ls _)), h1, net_l (wd_L ls _), wd_up ls, show a + (k : Int) + 1 = a + ((k + 1 : Nat) : Int) by omega]
    · have e : wd s (-((k + 1 : Nat) : Int)) = wd s (-(k : Int)) ++ back1 s := by
        unfold wd
        rw [if_pos (by omega)]
        by_cases hk : -(k : Int) < 0
        · rw [if_pos hk, show (-(-((k + 1 : Nat) : Int))).toNat = (-(-(k : Int))).toNat + 1 by omega, rep_succ]
        · have hk0 : k = 0 := by omega
          subst hk0
          rw [if_neg hk, show (-(-((0 + 1 : Nat) : Int))).toNat = 0 + 1 by decide, rep_succ]
          rfl
      rw [e, ← List.append_assoc, ← net_l ((wd_L ls a).app (wd_L ls _)), h2, net_l (wd_L ls _), wd_down ls, show a - (k : Int) - 1 = a - ((k + 1 : Nat) : Int) by omega]
theorem pow_add {s : List Nat} (ls : Ls s) (a b : Int) : netL (powL s a ++ powL s b) = powL s (a + b) := by
  rw [pow_wd, pow_wd, pow_wd, net_l (wd_L ls a), net_r (wd_L ls a) (wd_L ls b)]
  by_cases h : 0 ≤ b
  · have := (wd_add ls a b.toNat).1
    rwa [show ((b.toNat : Nat) : Int) = b by omega] at this
  · have := (wd_add ls a (-b).toNat).2
    rwa [show (((-b).toNat : Nat) : Int) = -b by omega, show -(-b) = b by omega, show a - -b = a + b by omega] at this
/-! ### a net bent about -/
theorem flat_app {a b : List Nat} (ha : Flat a) (hb : Flat b) (hj : ∀ x y, a.getLast? = some x → b.head? = some y → y ≠ sw2 x) : Flat (a ++ b) := fun i x y h1 h2 => by
  by_cases c1 : i + 1 < a.length
  · rw [List.getElem?_append_left (by omega)] at h1
    rw [List.getElem?_append_left c1] at h2
    exact ha i x y h1 h2
  · by_cases c2 : i < a.length
    · rw [List.getElem?_append_left c2] at h1
      rw [List.getElem?_append_right (by omega), show i + 1 - a.length = 0 by omega] at h2
      exact hj x y (by rw [List.getLast?_eq_getElem?, show a.length - 1 = i by omega]; exact h1) (by rw [List.head?_eq_getElem?]; exact h2)
    · rw [List.getElem?_append_right (by omega)] at h1 h2
      rw [show i + 1 - a.length = (i - a.length) + 1 by omega] at h2
      exact hb _ x y h1 h2
theorem flat_drop {s : List Nat} (h : Flat s) (k : Nat) : Flat (s.drop k) := fun i a b h1 h2 => by
  rw [List.getElem?_drop] at h1 h2
  exact h (k + i) a b h1 h2
theorem flat_take {s : List Nat} (h : Flat s) (k : Nat) : Flat (s.take k) := fun i a b h1 h2 => by
  have hi := (List.getElem?_eq_some_iff.mp h2).1
  rw [List.length_take] at hi
  rw [List.getElem?_take_of_lt (by omega)] at h1 h2
  exact h i a b h1 h2
theorem rep_last {v : List Nat} (hv : v ≠ []) (k : Nat) : (repL v (k + 1)).getLast? = v.getLast? := by
  rw [rep_succ, List.getLast?_append]
  cases e : v.getLast? with
  | none => exact absurd (List.getLast?_eq_none_iff.mp e) hv
  | some x => rfl
theorem rep_head {v : List Nat} (hv : v ≠ []) (k : Nat) : (repL v (k + 1)).head? = v.head? := by
  unfold repL
  rw [List.replicate_succ, List.flatten_cons]
  cases v with
  | nil => exact absurd rfl hv
  | cons a r => rfl
theorem rep_flat {v : List Nat} (hv : v ≠ []) (hf : Flat v) (hj : ∀ x y, v.getLast? = some x → v.head? = some y → y ≠ sw2 x) : ∀ k, Flat (repL v k)
  | 0 => fun i a b h => by cases h
  | 1 => by rw [rep_succ, rep_zero]; exact hf
  | k + 2 => by
    rw [rep_succ]
    exact flat_app (rep_flat hv hf hj (k + 1)) hf fun x y h1 h2 => hj x y (by rw [rep_last hv] at h1; exact h1) h2
theorem sw_ne {a : Nat} (h : isL a) : a ≠ sw2 a := by
  unfold isL at h
  unfold sw2
  split
  · omega
  · split <;> omega
theorem pow_split {u v : List Nat} (lu : Ls u) (lv : Ls v) : ∀ k, netL (repL (u ++ v ++ back1 u) k) = netL (u ++ repL v k ++ back1 u)
  | 0 => by
    have := net_back (s := []) (t := []) Ls.nil u lu
    rw [rep_zero, rep_zero, List.append_nil]
    simpa using this.symm
  | k + 1 => by
    have lw := back_L lu
    have ls : Ls (u ++ v ++ back1 u) := (lu.app lv).app lw
    rw [rep_succ, ← net_l (rep_L ls k), pow_split lu lv k, net_l ((lu.app (rep_L lv k)).app lw), rep_succ]
    have := net_back2 (s := u ++ repL v k) (t := v ++ back1 u) (lu.app (rep_L lv k)) lu
    simpa [List.append_assoc] using this
theorem pow_bent {s : List Nat} {m : Nat} (ls : Ls s) (fl : Flat s) (hs : s ≠ []) (hb : Bent s m) (k : Nat) :
    s.take m ++ repL ((s.drop m).take (s.length - m - m)) (k + 1) ++ s.drop (s.length - m) = netL (repL s (k + 1)) := by
  obtain ⟨b1, b2, b3⟩ := hb
  have hw : s.drop (s.length - m) = back1 (s.take m) := by
    apply List.ext_getElem?
    intro i
    unfold back1
    rw [List.getElem?_drop, List.getElem?_map]
    by_cases hi : i < m
    · have hl : (s.take m).length = m := by rw [List.length_take]; omega
      rw [List.getElem?_reverse (by omega), hl, List.getElem?_take_of_lt (by omega)]
      obtain ⟨a, ha⟩ : ∃ a, s[m - 1 - i]? = some a := ⟨_, List.getElem?_eq_getElem (by omega)⟩
      obtain ⟨b, hb⟩ : ∃ b, s[s.length - m + i]? = some b := ⟨_, List.getElem?_eq_getElem (by omega)⟩
      have := b2 (m - 1 - i) (by omega) a b ha (by rw [show s.length - 1 - (m - 1 - i) = s.length - m + i by omega]; exact hb)
      rw [ha, hb, this]
      show some b = some (sw2 (sw2 b))
      rw [sw_sw (ls b (List.mem_of_getElem? hb))]
    · rw [List.getElem?_eq_none (by omega), List.getElem?_eq_none (by rw [List.length_reverse, List.length_take]; omega)]
      rfl
  have hsplit : s = s.take m ++ (s.drop m).take (s.length - m - m) ++ s.drop (s.length - m) := by
    have e1 : (s.drop m).drop (s.length - m - m) = s.drop (s.length - m) := by rw [List.drop_drop]; congr 1; omega
    rw [List.append_assoc, ← e1, List.take_append_drop, List.take_append_drop]
  have lu : Ls (s.take m) := fun x hx => ls x (List.mem_of_mem_take hx)
  have lv : Ls ((s.drop m).take (s.length - m - m)) := fun x hx => ls x (List.mem_of_mem_drop (List.mem_of_mem_take hx))
  have hpos : 0 < s.length := by
    cases s with
    | nil => exact absurd rfl hs
    | cons _ _ => simp
  have hne : 2 * m < s.length := by
    by_cases h : 2 * m < s.length
    · exact h
    · exfalso
      obtain ⟨a, ha⟩ : ∃ a, s[m - 1]? = some a := ⟨_, List.getElem?_eq_getElem (by omega)⟩
      obtain ⟨b, hb⟩ : ∃ b, s[m]? = some b := ⟨_, List.getElem?_eq_getElem (by omega)⟩
      have e := b2 (m - 1) (by omega) a b ha (by rw [show s.length - 1 - (m - 1) = m by omega]; exact hb)
      have := fl (m - 1) a b ha (by rw [show m - 1 + 1 = m by omega]; exact hb)
      exact this (by rw [e, sw_sw (ls b (List.mem_of_getElem? hb))])
  have vlen : ((s.drop m).take (s.length - m - m)).length = s.length - m - m := by rw [List.length_take, List.length_drop]; omega
  have vget : ∀ i, i < s.length - m - m → ((s.drop m).take (s.length - m - m))[i]? = s[m + i]? := fun i hi => by
    rw [List.getElem?_take_of_lt hi, List.getElem?_drop]
  have vh : ((s.drop m).take (s.length - m - m)).head? = s[m]? := by rw [List.head?_eq_getElem?, vget 0 (by omega)]; rfl
  have vl : ((s.drop m).take (s.length - m - m)).getLast? = s[s.length - 1 - m]? := by
    rw [List.getLast?_eq_getElem?, vlen, vget _ (by omega)]
    congr 1
    omega
  have fv : Flat ((s.drop m).take (s.length - m - m)) := flat_take (flat_drop fl m) _
  have fu : Flat (s.take m) := flat_take fl m
  have fw : Flat (s.drop (s.length - m)) := flat_drop fl _
  generalize hv : (s.drop m).take (s.length - m - m) = v at *
  have vne : v ≠ [] := fun e => by
    rw [e] at vlen
    simp only [List.length_nil] at vlen
    omega
  have hj : ∀ x y, v.getLast? = some x → v.head? = some y → y ≠ sw2 x := fun x y hx hy => by
    rw [vl] at hx
    rw [vh] at hy
    by_cases h : 2 * m + 1 < s.length
    · exact b3 h y x hy hx
    · rw [show s.length - 1 - m = m by omega, hy] at hx
      cases hx
      exact sw_ne (ls _ (List.mem_of_getElem? hy))
  have fr := rep_flat vne fv hj (k + 1)
  have ful : Flat (s.take m ++ repL v (k + 1) ++ s.drop (s.length - m)) := by
    refine flat_app (flat_app fu fr fun x y hx hy => ?_) fw fun x y hx hy => ?_
    · rw [rep_head vne, vh] at hy
      rw [List.getLast?_eq_getElem?] at hx
      have hi := (List.getElem?_eq_some_iff.mp hx).1
      rw [List.length_take] at hi
      rw [List.length_take, List.getElem?_take_of_lt (by omega), show min m s.length - 1 = m - 1 by omega] at hx
      exact fl (m - 1) x y hx (by rw [show m - 1 + 1 = m by omega]; exact hy)
    · rw [List.getLast?_append, rep_last vne, vl] at hx
      rw [List.head?_drop] at hy
      have hi := (List.getElem?_eq_some_iff.mp hy).1
      have hx' : s[s.length - 1 - m]? = some x := by
        cases q : s[s.length - 1 - m]? with
        | none => rw [List.getElem?_eq_none_iff] at q; omega
        | some z => rw [q] at hx; exact hx
      exact fl (s.length - 1 - m) x y hx' (by rw [show s.length - 1 - m + 1 = s.length - m by omega]; exact hy)
  have lful : Ls (s.take m ++ repL v (k + 1) ++ s.drop (s.length - m)) := (lu.app (rep_L lv _)).app fun x hx => ls x (List.mem_of_mem_drop hx)
  rw [← net_flat ful lful, hw]
  rw [hw] at hsplit
  have := pow_split lu lv (k + 1)
  rw [← this, ← hsplit]

/-- a sign's place: a, A, b, B .. -/
def keyOf (c : Nat) : Int := 2 * ((lo2 c : Int) - 97) + (if 65 ≤ c ∧ c ≤ 90 then 1 else 0)
def rkD (s : List Nat) : D := .tup [.int s.length, .lst (s.map fun c => .int (keyOf c))]
def isRows (x : D) : Bool := match x.seq with
  | some ds => ds.all isRow
  | none => false
/-- the least turn that leaves a text as it is -/
def Turn (v : List Nat) (k : Nat) : Prop := 1 ≤ k ∧ k ≤ v.length ∧ Occ (v ++ v) v k ∧ ∀ j, 1 ≤ j → j < k → ¬ Occ (v ++ v) v j
def inner (u : List Nat) (m : Nat) : List Nat := (u.drop m).take (u.length - m - m)
def SmS (n : Nat) (x : D) : Prop := okV x ∧ ∀ s, x = .str s → isRow x = true → s.length ≤ n
theorem at_last {s : List Nat} {a : Nat} (h : s.getLast? = some a) : atI s (-1) = some a := by
  cases s with
  | nil => cases h
  | cons b s =>
    rw [List.getLast?_eq_getElem?] at h
    unfold atI ixN
    rw [if_neg (by decide), if_pos (by simp only [List.length_cons]; omega)]
    show (b :: s)[((-1 : Int) + ((b :: s).length : Int)).toNat]? = some a
    rw [← h]
    congr 1
    simp only [List.length_cons]
    omega
theorem join_ok (s : List Nat) (h : s.length ≤ 16777216) : ((s.map fun c => [c]).map (·.length)).sum + (s.map fun c => [c]).length * (lit "").length ≤ sizeLine := by
  rw [sum_ones, sizeLine_eq, show (lit "").length = 0 from rfl]
  omega
theorem isint_eq (x : D) (h : x.tyn ∈ tys1) : (isT x.tyn "int" = true → (!isT x.tyn "bool") = isInt x) ∧ (isT x.tyn "int" = false → false = isInt x) := by
  cases x <;> refine ⟨fun h => ?_, fun h => ?_⟩ <;> first | rfl | exact Bool.noConfusion h | exact absurd h (by simp [D.tyn, isT])
theorem listed_eq (x : D) (h : x.fro = true) : (["list", "tuple"].any (isT x.tyn)) = x.seq.isSome := by
  cases x <;> first | rfl | exact Bool.noConfusion h
theorem okV_s (s : List Nat) : okV (.str s) := ⟨rfl, ty_str⟩
theorem cut63 (ds : List D) : (cutL ds none (some 63)).length ≤ 63 := by
  have h : HT.sIx ds.length ds.length (some 63) ≤ 63 := by rw [show (some (63 : Int)) = some ((63 : Nat) : Int) from rfl, HT.sIx_nat]; omega
  unfold cutL
  rw [List.length_take]
  omega
theorem okMul_l {i j : Int} (h : -(2 ^ 64) < i ∧ i < 2 ^ 64) : okMul i j := .inl (.inl h)
theorem okMul_r {i j : Int} (h : -(2 ^ 64) < j ∧ j < 2 ^ 64) : okMul i j := .inl (.inr h)
theorem at_ints {cells : List Int} {p : Int} (h0 : 0 ≤ p) (h1 : p < (cells.map D.int).length) : ∃ x, x ∈ cells ∧ atI (cells.map D.int) p = some (.int x) := by
  obtain ⟨d, h2, h3⟩ := at_nat h0 h1
  rw [List.getElem?_map, Option.map_eq_some_iff] at h3
  obtain ⟨x, h4, rfl⟩ := h3
  exact ⟨x, List.mem_of_getElem? h4, h2⟩
theorem divW {i m : Int} (h0 : 1 ≤ m) (h1 : m ≤ 1000000) : CDivW i m := ⟨by omega, Nat.lt_of_lt_of_le ((Nat.log2_lt (by omega)).mpr (by omega : m.natAbs < 2 ^ 20)) (by decide)⟩
theorem HandOk.nf {h : D} (k : HandOk h) : h.fro = false := by
  obtain ⟨_, _, _, _, _, rfl, _⟩ := k
  rfl
theorem und_one (c : Nat) : (if isLo [c] = true then [c].map up2 else [c].map lo2) = [sw2 c] := by
  unfold isLo
  simp only [List.any_cons, List.any_nil, Bool.or_false, List.map_cons, List.map_nil, up2, lo2, sw2]
  by_cases h : 97 ≤ c ∧ c ≤ 122
  · have h2 : ¬ (65 ≤ c ∧ c ≤ 90) := by omega
    simp [h, h2]
  · simp [h]
theorem up_L {c : Nat} (h : isL c) : isL (up2 c) := by
  unfold isL up2 at *
  split <;> omega
theorem at_mem {α : Type} {l : List α} {i : Int} (h0 : 0 ≤ i) (h1 : i < l.length) : ∃ x, x ∈ l ∧ atI l i = some x := by
  obtain ⟨x, a, b⟩ := at_nat h0 h1
  exact ⟨x, List.mem_of_getElem? b, a⟩
theorem cut_to {α : Type} (l : List α) (k : Nat) (h : k ≤ l.length) : cutL l none (some (k : Int)) = l.take k := by
  unfold cutL
  rw [HT.sIx_nat, Nat.min_eq_left h]
  show (l.drop 0).take (k - 0) = l.take k
  rw [List.drop_zero, Nat.sub_zero]
theorem cut_from {α : Type} (l : List α) (k : Nat) (h : k ≤ l.length) : cutL l (some (k : Int)) none = l.drop k := by
  unfold cutL
  rw [HT.sIx_nat, Nat.min_eq_left h]
  show (l.drop k).take (l.length - k) = l.drop k
  rw [List.take_of_length_le (by rw [List.length_drop]; omega)]
theorem fn_none {P : Program} {w : World} {K : PySem.W.Frag} {mg : Str → Option Value} {base : Heap} {x : Str} {st : Stmt} {ps : List Str} (k : Nat) (F : At K mg x st ps) : Fn P w K mg base k x (fun _ _ _ => False) := by
  obtain ⟨f, fd, F, hm, hb⟩ := F.ex
  exact ⟨f, fd, ps, ⟨fun vs H Q E ⟨_, _, _, _, _, _, h, _⟩ => h.elim, fun A outer s H args us vs Q E _ _ _ _ ⟨_, _, _, _, _, _, h, _⟩ => h.elim⟩, hm, F.kp, hb⟩
theorem atI_back {s : List Nat} {i : Nat} {a : Nat} (h : i < s.length) (e : s[s.length - 1 - i]? = some a) : atI s (-1 - (i : Int)) = some a := by
  unfold atI ixN
  rw [if_neg (by omega), if_pos (by omega)]
  show s[((-1 - (i : Int)) + (s.length : Int)).toNat]? = some a
  rw [← e]
  congr 1
  omega
theorem cut_mid {α : Type} (l : List α) (i j : Nat) (h1 : i ≤ j) (h2 : j ≤ l.length) : cutL l (some (i : Int)) (some (j : Int)) = (l.drop i).take (j - i) := by
  unfold cutL
  rw [HT.sIx_nat, HT.sIx_nat, Nat.min_eq_left (Nat.le_trans h1 h2)]
  try rw [Nat.min_eq_left h2]
theorem rep_nil : ∀ k, repL [] k = []
  | 0 => rfl
  | k + 1 => by rw [rep_succ, rep_nil k]; rfl
theorem pow_zero' (s : List Nat) : powL s 0 = [] := rfl
theorem pow_nil (t : Int) : powL [] t = [] := by
  unfold powL
  split
  · rw [show back1 [] = [] from rfl, rep_nil]; rfl
  · rw [rep_nil]; rfl
theorem pow_len (s : List Nat) (t : Int) : (powL s t).length ≤ s.length * t.natAbs := by
  unfold powL
  split
  · have := net_len (repL (back1 s) (-t).toNat)
    have e : (-t).toNat = t.natAbs := by omega
    rw [rep_len, back_len] at this
    rw [e] at this ⊢
    exact this
  · have := net_len (repL s t.toNat)
    have e : t.toNat = t.natAbs := by omega
    rw [rep_len] at this
    rw [e] at this ⊢
    exact this
theorem pow_L {s : List Nat} (ls : Ls s) (t : Int) : Ls (powL s t) := by
  rw [pow_wd]
  exact (wd_L ls t).net
def AZ : List Nat := lit "abcdefghijklmnopqrstuvwxyz"
theorem AZ_L : Ls AZ := fun c h => (letters_mem c).mp (by
  have : ∀ c ∈ AZ, c ∈ LETTERS := by decide
  exact this c h)
theorem AZ_len : AZ.length = 26 := by decide
theorem bls_true {α : Type} (l : List α) : blsOf (l.map fun _ => D.bl true) = some (l.map fun _ => true) := by
  induction l with
  | nil => rfl
  | cons a l ih =>
    show (blsOf (l.map fun _ => D.bl true)).map _ = _
    rw [ih]
    rfl
theorem strs_map (rows : List (List Nat)) : strsOf (rows.map .str) = some rows := by
  induction rows with
  | nil => rfl
  | cons a l ih =>
    show (strsOf (l.map .str)).map _ = _
    rw [ih]
    rfl
theorem join_flat (rows : List (List Nat)) : joinL [] rows = rows.flatten := by
  cases rows with
  | nil => rfl
  | cons a r =>
    show a ++ (r.map fun y => [] ++ y).flatten = a ++ r.flatten
    simp
theorem sum_flat' (rows : List (List Nat)) : (rows.map (·.length)).sum = rows.flatten.length := by
  induction rows with
  | nil => rfl
  | cons a r ih => simp only [List.map_cons, List.sum_cons, ih, List.flatten_cons, List.length_append]
theorem flat_L {rows : List (List Nat)} (h : ∀ s ∈ rows, Ls s) : Ls rows.flatten := fun x hx => by
  obtain ⟨s, hs, hx⟩ := List.mem_flatten.mp hx
  exact h s hs x hx
theorem range_get {n k : Nat} {d : D} (h : (rangeD 0 n)[k]? = some d) : k < n ∧ d = .int k := by
  have h1 := (List.getElem?_eq_some_iff.mp h).1
  have e : (rangeD 0 n).length = n := by unfold rangeD; simp
  rw [e] at h1
  unfold rangeD at h
  rw [List.getElem?_map, List.getElem?_range h1] at h
  cases h
  exact ⟨h1, by simp⟩
theorem range_len (n : Nat) : (rangeD 0 n).length = n := by unfold rangeD; simp
theorem at_lastD {s : List D} {a : D} (h : s.getLast? = some a) : atI s (-1) = some a := by
  cases s with
  | nil => cases h
  | cons b s =>
    rw [List.getLast?_eq_getElem?] at h
    unfold atI ixN
    rw [if_neg (by decide), if_pos (by simp only [List.length_cons]; omega)]
    show (b :: s)[((-1 : Int) + ((b :: s).length : Int)).toNat]? = some a
    rw [← h]
    congr 1
    simp only [List.length_cons]
    omega
theorem cut_le {α : Type} (l : List α) (k : Nat) : (cutL l none (some (k : Int))).length ≤ k := by
  unfold cutL
  rw [HT.sIx_nat, List.length_take]
  show min (min k l.length - 0) _ ≤ k
  omega
theorem turn_turn {s b : List Nat} (ls : Ls s) (lb : Ls b) : netL (back1 (netL b) ++ netL (b ++ s ++ back1 b) ++ back1 (back1 (netL b))) = netL s := by
  have ln := lb.net
  have lu := back_L ln
  have l1 : Ls (b ++ s ++ back1 b) := (lb.app ls).app (back_L lb)
  rw [net_mid lu l1, back_back ln, net_r (lu.app l1) lb]
  have e1 : netL (back1 (netL b) ++ (b ++ s ++ back1 b) ++ b) = netL (back1 (netL b) ++ (b ++ s)) := by
    have := net_back2 (s := back1 (netL b) ++ (b ++ s)) (t := []) (m := b) (lu.app (lb.app ls)) lb
    simpa [List.append_assoc] using this
  have e2 : netL (back1 (netL b) ++ netL b ++ s) = netL (back1 (netL b) ++ b ++ s) := net_mid lu lb
  have e3 : netL (back1 (netL b) ++ netL b ++ s) = netL s := by
    have := net_back2 (s := []) (t := s) Ls.nil ln
    simpa using this
  rw [e1, ← List.append_assoc, ← e2, e3]
theorem net_with_back {s : List Nat} (ls : Ls s) : netL (s ++ back1 (netL s)) = [] ∧ netL (back1 (netL s) ++ s) = [] := by
  have ln := ls.net
  constructor
  · rw [← net_l ls]
    have := net_back (s := []) (t := []) Ls.nil (netL s) ln
    exact (show netL (netL s ++ back1 (netL s)) = netL [] by simpa using this).trans rfl
  · rw [← net_r (back_L ln) ls]
    have := net_back2 (s := []) (t := []) Ls.nil ln
    exact (show netL (back1 (netL s) ++ netL s) = netL [] by simpa using this).trans rfl

/-! ### turns, periods, roots -/
theorem occ_turn {v : List Nat} {k : Nat} (h : k ≤ v.length) : Occ (v ++ v) v k ↔ v.drop k ++ v.take k = v := by
  unfold Occ
  have e : ((v ++ v).drop k).take v.length = v.drop k ++ v.take k := by
    rw [List.drop_append_of_le_length h, List.take_append, List.take_of_length_le (by rw [List.length_drop]; omega), List.length_drop, show v.length - (v.length - k) = k by omega]
  rw [e, List.length_append]
  exact ⟨fun h => h.2, fun q => ⟨by omega, q⟩⟩
/-- v[i mod n] -/
def cyc (v : List Nat) (i : Nat) : Option Nat := v[i % v.length]?
theorem turn_cyc {v : List Nat} {k : Nat} (h : k ≤ v.length) (hv : v ≠ []) : v.drop k ++ v.take k = v ↔ ∀ i, cyc v (i + k) = cyc v i := by
  have n0 : 0 < v.length := List.length_pos_iff.mpr hv
  have key : ∀ i, i < v.length → (v.drop k ++ v.take k)[i]? = cyc v (i + k) := fun i hi => by
    unfold cyc
    by_cases q : i < v.length - k
    · rw [List.getElem?_append_left (by rw [List.length_drop]; exact q), List.getElem?_drop, Nat.mod_eq_of_lt (by omega)]
      congr 1
      omega
    · rw [List.getElem?_append_right (by rw [List.length_drop]; omega), List.length_drop, List.getElem?_take_of_lt (by omega)]
      rw [show (i + k) % v.length = i - (v.length - k) by rw [Nat.mod_eq_sub_mod (by omega), Nat.mod_eq_of_lt (by omega)]; omega]
  constructor
  · intro e i
    have h1 := key (i % v.length) (Nat.mod_lt _ n0)
    rw [e] at h1
    unfold cyc at h1 ⊢
    rw [h1]
    rw [Nat.mod_add_mod]
  · intro e
    apply List.ext_getElem?
    intro i
    by_cases q : i < v.length
    · rw [key i q, e i]
      unfold cyc
      rw [Nat.mod_eq_of_lt q]
    · rw [List.getElem?_eq_none (by rw [List.length_append, List.length_drop, List.length_take]; omega), List.getElem?_eq_none (by omega)]
theorem turn_c {v : List Nat} {k : Nat} (hv : v ≠ []) : Turn v k ↔ 1 ≤ k ∧ k ≤ v.length ∧ (∀ i, cyc v (i + k) = cyc v i) ∧ ∀ j, 1 ≤ j → j < k → ¬ ∀ i, cyc v (i + j) = cyc v i := by
  unfold Turn
  constructor
  · rintro ⟨h1, h2, h3, h4⟩
    exact ⟨h1, h2, (turn_cyc h2 hv).mp ((occ_turn h2).mp h3), fun j j1 j2 q => h4 j j1 j2 ((occ_turn (by omega)).mpr ((turn_cyc (by omega) hv).mpr q))⟩
  · rintro ⟨h1, h2, h3, h4⟩
    exact ⟨h1, h2, (occ_turn h2).mpr ((turn_cyc h2 hv).mpr h3), fun j j1 j2 q => h4 j j1 j2 ((turn_cyc (by omega) hv).mp ((occ_turn (by omega)).mp q))⟩
theorem cyc_n (v : List Nat) (i : Nat) : cyc v (i + v.length) = cyc v i := by unfold cyc; rw [Nat.add_mod_right]
theorem cyc_mul {v : List Nat} {k : Nat} (h : ∀ i, cyc v (i + k) = cyc v i) : ∀ q i, cyc v (i + k * q) = cyc v i
  | 0, i => rfl
  | q + 1, i => by rw [Nat.mul_succ, ← Nat.add_assoc, h, cyc_mul h q]
theorem turn_dvd {v : List Nat} {k : Nat} (hv : v ≠ []) (h : Turn v k) : k ∣ v.length := by
  obtain ⟨h1, h2, h3, h4⟩ := (turn_c hv).mp h
  apply Nat.dvd_of_mod_eq_zero
  by_cases e : v.length % k = 0
  · exact e
  · refine absurd (fun i => ?_) (h4 (v.length % k) (by omega) (Nat.mod_lt _ (by omega)))
    have a := cyc_mul h3 (v.length / k) (i + v.length % k)
    rw [show i + v.length % k + k * (v.length / k) = i + v.length by have := Nat.mod_add_div v.length k; omega, cyc_n] at a
    exact a.symm
theorem turn_uni {v : List Nat} {k j : Nat} (h : Turn v k) (h' : Turn v j) : k = j := by
  rcases Nat.lt_trichotomy k j with q | q | q
  · exact absurd h.2.2.1 (h'.2.2.2 k h.1 q)
  · exact q
  · exact absurd h'.2.2.1 (h.2.2.2 j h'.1 q)
theorem rep_get (s : List Nat) : ∀ (t i : Nat), i < s.length * t → (repL s t)[i]? = s[i % s.length]?
  | 0, i, h => absurd h (by omega)
  | t + 1, i, h => by
    have hs : 0 < s.length := by
      rcases Nat.eq_zero_or_pos s.length with e | e
      · rw [e] at h; omega
      · exact e
    rw [rep_succ]
    by_cases q : i < s.length * t
    · rw [List.getElem?_append_left (by rw [rep_len]; exact q), rep_get s t i q]
    · rw [List.getElem?_append_right (by rw [rep_len]; omega), rep_len]
      congr 1
      rw [Nat.mul_succ] at h
      have : i = (i - s.length * t) + s.length * t := by omega
      rw [show i % s.length = (i - s.length * t) % s.length by conv => lhs; rw [this]; rw [Nat.add_mul_mod_self_left]]
      rw [Nat.mod_eq_of_lt (by omega)]
/-- v is its beginning of length d, so often, just if it is the same turned by d -/
theorem rep_take {v : List Nat} {d t : Nat} (hv : v ≠ []) (e : d * t = v.length) : repL (v.take d) t = v ↔ ∀ i, cyc v (i + d) = cyc v i := by
  have n0 : 0 < v.length := List.length_pos_iff.mpr hv
  have d0 : 0 < d := Nat.pos_of_ne_zero fun q => by subst q; omega
  have t0 : 0 < t := Nat.pos_of_ne_zero fun q => by subst q; omega
  have dl : d ≤ v.length := by rw [← e]; exact Nat.le_mul_of_pos_right d t0
  have tl : (v.take d).length = d := by rw [List.length_take]; omega
  have rl : (repL (v.take d) t).length = v.length := by rw [rep_len, tl, e]
  constructor
  · intro h i
    have key : ∀ i, cyc v i = (v.take d)[i % d]? := fun i => by
      unfold cyc
      have a : i % v.length < v.length := Nat.mod_lt _ n0
      have b := rep_get (v.take d) t (i % v.length) (by rw [tl, e]; exact a)
      rw [h, tl] at b
      rw [b]
      congr 1
      rw [← e]
      exact Nat.mod_mul_right_mod i d t
    rw [key, key, Nat.add_mod_right]
  · intro h
    apply List.ext_getElem?
    intro i
    by_cases q : i < v.length
    · rw [rep_get (v.take d) t i (by rw [tl, e]; exact q), tl, List.getElem?_take_of_lt (Nat.mod_lt _ d0)]
      have a := cyc_mul h (i / d) (i % d)
      rw [Nat.mod_add_div] at a
      unfold cyc at a
      rw [Nat.mod_eq_of_lt q, Nat.mod_eq_of_lt (Nat.lt_of_lt_of_le (Nat.mod_lt _ d0) dl)] at a
      exact a.symm
    · rw [List.getElem?_eq_none (by omega), List.getElem?_eq_none (by omega)]
/-! ### bent nets -/
theorem bent_uni {s : List Nat} {m m' : Nat} (h : Bent s m) (h' : Bent s m') : m = m' := by
  have key : ∀ m m', Bent s m → Bent s m' → ¬ m < m' := fun m m' h h' q => by
    have h1 := h'.1
    obtain ⟨a, ha⟩ : ∃ a, s[m]? = some a := ⟨_, List.getElem?_eq_getElem (by omega)⟩
    obtain ⟨b, hb⟩ : ∃ b, s[s.length - 1 - m]? = some b := ⟨_, List.getElem?_eq_getElem (by omega)⟩
    exact h.2.2 (by omega) a b ha hb (h'.2.1 m q a b ha hb)
  have := key m m' h h'
  have := key m' m h' h
  omega
theorem bent_parts {u : List Nat} {m : Nat} (lu : Ls u) (hb : Bent u m) : u = u.take m ++ inner u m ++ back1 (u.take m) ∧ u.drop (u.length - m) = back1 (u.take m) := by
  have h1 := hb.1
  have e2 : u.drop (u.length - m) = back1 (u.take m) := by
    apply List.ext_getElem?
    intro i
    unfold back1
    rw [List.getElem?_drop, List.getElem?_map]
    by_cases q : i < m
    · rw [List.getElem?_reverse (by rw [List.length_take]; omega), List.length_take, List.getElem?_take_of_lt (by omega)]
      obtain ⟨a, ha⟩ : ∃ a, u[min m u.length - 1 - i]? = some a := ⟨_, List.getElem?_eq_getElem (by omega)⟩
      obtain ⟨b, hb'⟩ : ∃ b, u[u.length - m + i]? = some b := ⟨_, List.getElem?_eq_getElem (by omega)⟩
      rw [ha, hb']
      have := hb.2.1 (min m u.length - 1 - i) (by omega) a b ha (by rw [← hb']; congr 1; omega)
      rw [this]
      show some b = some (sw2 (sw2 b))
      rw [sw_sw (lu b (List.mem_of_getElem? hb'))]
    · rw [List.getElem?_eq_none (by omega), List.getElem?_eq_none (by rw [List.length_reverse, List.length_take]; omega)]
      rfl
  refine ⟨?_, e2⟩
  rw [← e2]
  unfold inner
  rw [List.append_assoc]
  have a : (u.drop m).drop (u.length - m - m) = u.drop (u.length - m) := by rw [List.drop_drop]; congr 1; omega
  rw [← a, List.take_append_drop, List.take_append_drop]
theorem net_len_eq {s : List Nat} (ls : Ls s) (h : (netL s).length = s.length) : netL s = s := by
  revert ls h
  refine snoc_ind (P := fun s => Ls s → (netL s).length = s.length → netL s = s) (fun _ _ => rfl) (fun s c ih ls h => ?_) s
  have ls1 : Ls s := fun x hx => ls x (List.mem_append_left _ hx)
  rw [net_snoc] at h ⊢
  have nl := net_len s
  rw [List.length_reverse, List.length_append] at h
  unfold rpush at h ⊢
  cases e : (netL s).reverse with
  | nil =>
    have e1 : netL s = [] := by simpa using e
    rw [e] at h
    simp at h
    rw [h]
    rfl
  | cons a r =>
    rw [e] at h
    have el : (netL s).length = r.length + 1 := by rw [← List.length_reverse, e]; rfl
    dsimp only at h ⊢
    split at h
    · simp at h
      omega
    · rename_i hne
      rw [if_neg hne]
      simp at h
      have := ih ls1 (by omega)
      rw [List.reverse_cons, ← e, List.reverse_reverse, this]
/-- a row, so often, is a bent net just if the inner one is -/
theorem rep_is {u : List Nat} {m : Nat} (lu : Ls u) (fu : Flat u) (hb : Bent u m) {w : List Nat} (lw : Ls w) {t : Nat} (hl : w.length * t = (inner u m).length) : netL (repL (u.take m ++ w ++ back1 (u.take m)) t) = u ↔ repL w t = inner u m := by
  have la : Ls (u.take m) := fun x hx => lu x (List.mem_of_mem_take hx)
  have lb := back_L la
  obtain ⟨e1, e2⟩ := bent_parts lu hb
  have lv : Ls (inner u m) := fun x hx => lu x (List.mem_of_mem_drop (List.mem_of_mem_take hx))
  have fv : Flat (inner u m) := flat_take (flat_drop fu m) _
  have lr := rep_L lw t
  rw [pow_split la lw]
  constructor
  · intro h
    have h2 : netL (back1 (u.take m) ++ netL (u.take m ++ repL w t ++ back1 (u.take m)) ++ u.take m) = netL (back1 (u.take m) ++ u ++ u.take m) := by rw [h]
    have z : ∀ x : List Nat, Ls x → netL (back1 (u.take m) ++ (u.take m ++ x ++ back1 (u.take m)) ++ u.take m) = netL x := fun x lx => by
      have a := net_back2 (s := []) (t := x ++ back1 (u.take m) ++ u.take m) Ls.nil la
      have b := net_back2 (s := x) (t := []) (m := u.take m) lx la
      simp only [List.nil_append, List.append_assoc, List.append_nil] at a b ⊢
      rw [a, b]
    rw [net_mid lb ((la.app lr).app lb), z _ lr] at h2
    have h3 : netL (back1 (u.take m) ++ u ++ u.take m) = netL (inner u m) := by
      have := z _ lv
      rw [← e1] at this
      exact this
    rw [h3, net_flat fv lv] at h2
    have h4 := net_len_eq lr (by rw [h2, rep_len, hl])
    rw [h4] at h2
    exact h2
  · intro h
    rw [h, ← e1]
    exact net_flat fu lu
theorem root_has {v : List Nat} {k : Nat} (hv : v ≠ []) (h : Turn v k) : repL (v.take k) (v.length / k) = v ∧ k * (v.length / k) = v.length ∧ v.length / (v.length / k) = k ∧ 1 ≤ v.length / k ∧ v.length / k ≤ v.length ∧ v.length / k ∣ v.length := by
  have d := turn_dvd hv h
  have n0 : 0 < v.length := List.length_pos_iff.mpr hv
  have e : k * (v.length / k) = v.length := Nat.mul_div_cancel' d
  have q0 : 0 < v.length / k := Nat.pos_of_ne_zero fun q => by rw [q] at e; omega
  refine ⟨(rep_take hv e).mpr ((turn_c hv).mp h).2.2.1, e, ?_, q0, Nat.div_le_self _ _, ⟨k, by rw [Nat.mul_comm]; exact e.symm⟩⟩
  exact Nat.div_eq_of_eq_mul_left q0 e.symm
theorem root_pick {v : List Nat} {k t : Nat} (hv : v ≠ []) (h : Turn v k) (t1 : 1 ≤ t) (td : t ∣ v.length) (hr : repL (v.take (v.length / t)) t = v) : t ≤ v.length / k := by
  have n0 : 0 < v.length := List.length_pos_iff.mpr hv
  have e : v.length / t * t = v.length := Nat.div_mul_cancel td
  have q0 : 0 < v.length / t := Nat.pos_of_ne_zero fun q => by rw [q] at e; omega
  have c := (rep_take hv e).mp hr
  have kl : k ≤ v.length / t := Nat.le_of_not_lt fun q => ((turn_c hv).mp h).2.2.2 _ q0 q c
  rw [Nat.le_div_iff_mul_le (by have := h.1; omega)]
  calc t * k ≤ t * (v.length / t) := Nat.mul_le_mul_left t kl
    _ = v.length := by rw [Nat.mul_comm]; exact e
def rootOf (u : List Nat) (m k : Nat) : List Nat := u.take m ++ (inner u m).take k ++ u.drop (u.length - m)
theorem inner_ln (u : List Nat) (m : Nat) (h : 2 * m ≤ u.length) : (inner u m).length = u.length - 2 * m := by
  unfold inner
  rw [List.length_take, List.length_drop]
  omega
theorem inner_app (a w : List Nat) : inner (a ++ w ++ back1 a) a.length = w := by
  unfold inner
  rw [List.append_assoc, List.drop_append_of_le_length (Nat.le_refl _), List.drop_length, List.nil_append]
  rw [List.length_append, List.length_append, back_len, show a.length + (w.length + a.length) - a.length - a.length = w.length by omega]
  simp
theorem root_root {u : List Nat} {m k : Nat} (lu : Ls u) (fu : Flat u) (hb : Bent u m) (hv : inner u m ≠ []) (ht : Turn (inner u m) k) :
    Ls (rootOf u m k) ∧ Flat (rootOf u m k) ∧ (rootOf u m k).length = 2 * m + k ∧ netL (repL (rootOf u m k) ((inner u m).length / k)) = u ∧
    ∀ m' k', Bent (rootOf u m k) m' → Turn (inner (rootOf u m k) m') k' → rootOf (rootOf u m k) m' k' = rootOf u m k ∧ (inner (rootOf u m k) m').length / k' = 1 := by
  obtain ⟨e1, e2⟩ := bent_parts lu hb
  have hm := hb.1
  have kn := ht.2.1
  have k1 := ht.1
  have il := inner_ln u m hm
  have al : (u.take m).length = m := by rw [List.length_take]; omega
  have wl : ((inner u m).take k).length = k := by rw [List.length_take]; omega
  have ef : rootOf u m k = u.take m ++ (inner u m).take k ++ back1 (u.take m) := by unfold rootOf; rw [e2]
  obtain ⟨r1, r2, r3, r4, r5, r6⟩ := root_has hv ht
  have la : Ls (u.take m) := fun x hx => lu x (List.mem_of_mem_take hx)
  have lv : Ls (inner u m) := fun x hx => lu x (List.mem_of_mem_drop (List.mem_of_mem_take hx))
  have lw : Ls ((inner u m).take k) := fun x hx => lv x (List.mem_of_mem_take hx)
  have lf : Ls (rootOf u m k) := by rw [ef]; exact (la.app lw).app (back_L la)
  have fl : (rootOf u m k).length = 2 * m + k := by rw [ef, List.length_append, List.length_append, back_len, al, wl]; omega
  -- the last letter of the inner part is that of its beginning
  have last : (inner u m)[(inner u m).length - 1]? = ((inner u m).take k)[k - 1]? := by
    have a := rep_get ((inner u m).take k) ((inner u m).length / k) ((inner u m).length - 1) (by rw [wl, r2]; omega)
    rw [r1, wl] at a
    rw [a]
    congr 1
    have e3 : (inner u m).length - 1 = (k - 1) + k * ((inner u m).length / k - 1) := by
      have := Nat.mul_sub k ((inner u m).length / k) 1
      rw [r2, Nat.mul_one] at this
      omega
    rw [e3, Nat.add_mul_mod_self_left, Nat.mod_eq_of_lt (by omega)]
  have bf : Bent (rootOf u m k) m := by
    refine ⟨by omega, fun i hi x y hx hy => ?_, fun h x y hx hy => ?_⟩
    · rw [fl] at hy
      rw [ef, List.append_assoc, List.getElem?_append_left (by omega)] at hx
      rw [ef, List.getElem?_append_right (by rw [List.length_append, al, wl]; omega), List.length_append, al, wl] at hy
      unfold back1 at hy
      rw [List.getElem?_map, List.getElem?_reverse (by omega), al, show m - 1 - (2 * m + k - 1 - i - (m + k)) = i by omega, hx] at hy
      cases hy
      exact (sw_sw (la x (List.mem_of_getElem? hx))).symm
    · rw [fl] at h hy
      rw [ef, List.append_assoc, List.getElem?_append_right (by omega), al, Nat.sub_self, List.getElem?_append_left (by omega), List.getElem?_take_of_lt (by omega)] at hx
      rw [ef, List.append_assoc, List.getElem?_append_right (by omega), al, List.getElem?_append_left (by omega), show 2 * m + k - 1 - m - m = k - 1 by omega, ← last] at hy
      have g : ∀ i, i < (inner u m).length → (inner u m)[i]? = u[m + i]? := fun i hi => by
        unfold inner
        rw [List.getElem?_take_of_lt (by omega), List.getElem?_drop]
      rw [g 0 (by omega)] at hx
      rw [g _ (by omega), show m + ((inner u m).length - 1) = u.length - 1 - m by omega] at hy
      exact hb.2.2 (by omega) x y hx hy
  have ffl : Flat (rootOf u m k) := by
    have w0 : (inner u m).take k ≠ [] := fun q => by rw [q] at wl; simp at wl; omega
    have fa : Flat (u.take m ++ (inner u m).take k) := by
      have : u.take m ++ (inner u m).take k = u.take (m + k) := by
        unfold inner
        rw [List.take_add, List.take_take, Nat.min_eq_left (by omega)]
      rw [this]
      exact flat_take fu _
    rw [ef]
    refine flat_app fa (by rw [← e2]; exact flat_drop fu _) fun x y hx hy => ?_
    have hx2 : u[u.length - m - 1]? = some x := by
      have hx : ((inner u m).take k).getLast? = some x := by
        cases q : ((inner u m).take k).getLast? with
        | none => exact absurd (List.getLast?_eq_none_iff.mp q) w0
        | some z => rw [List.getLast?_append, q] at hx; exact hx
      rw [List.getLast?_eq_getElem?, wl, ← last] at hx
      unfold inner at hx
      rw [List.getElem?_take_of_lt (by rw [List.length_take, List.length_drop]; omega), List.getElem?_drop, List.length_take, List.length_drop] at hx
      rw [← hx]
      congr 1
      omega
    have hy2 : u[u.length - m]? = some y := by
      rw [← e2, List.head?_drop] at hy
      exact hy
    have m1 : 0 < m := Nat.pos_of_ne_zero fun q => by
      subst q
      rw [List.getElem?_eq_none (by omega)] at hy2
      cases hy2
    exact fu (u.length - m - 1) x y hx2 (by rw [show u.length - m - 1 + 1 = u.length - m by omega]; exact hy2)
  refine ⟨lf, ffl, fl, ?_, fun m' k' hb' ht' => ?_⟩
  · rw [ef]
    exact (rep_is lu fu hb lw (by rw [wl, r2])).mpr r1
  · obtain rfl := bent_uni bf hb'
    have ei : inner (rootOf u m k) m = (inner u m).take k := by
      rw [ef]
      have := inner_app (u.take m) ((inner u m).take k)
      rw [al] at this
      exact this
    rw [ei] at ht' ⊢
    have w0 : (inner u m).take k ≠ [] := fun q => by rw [q] at wl; simp at wl; omega
    have ek : k' = k := by
      have c := (turn_c w0).mp ht'
      rw [wl] at c
      refine Nat.le_antisymm c.2.1 (Nat.le_of_not_lt fun q => ((turn_c hv).mp ht).2.2.2 k' c.1 q fun i => ?_)
      have key : ∀ i, cyc (inner u m) i = cyc ((inner u m).take k) i := fun i => by
        unfold cyc
        have a := rep_get ((inner u m).take k) ((inner u m).length / k) (i % (inner u m).length) (by rw [wl, r2]; exact Nat.mod_lt _ (by omega))
        rw [r1] at a
        rw [a, wl]
        congr 1
        conv => lhs; rw [← r2]
        exact Nat.mod_mul_right_mod i k _
      rw [key, key]
      exact c.2.2.1 i
    subst ek
    refine ⟨?_, by rw [wl]; exact Nat.div_self (by omega)⟩
    have e3 : (rootOf u m k').take m = u.take m := by rw [ef, List.append_assoc, List.take_append_of_le_length (by omega), List.take_of_length_le (by omega)]
    have e4 : (rootOf u m k').drop ((rootOf u m k').length - m) = back1 (u.take m) := by
      rw [fl, ef, show 2 * m + k' - m = (u.take m ++ (inner u m).take k').length by rw [List.length_append, al, wl]; omega, List.drop_append_of_le_length (Nat.le_refl _), List.drop_length, List.nil_append]
    show (rootOf u m k').take m ++ (inner (rootOf u m k') m).take k' ++ (rootOf u m k').drop _ = rootOf u m k'
    rw [e3, e4, ei, List.take_take, Nat.min_self, ← ef]
/-! ### earlier -/
def ltKey : List Nat → List Nat → Bool
  | x :: xs, y :: ys => if x = y then ltKey xs ys else decide (keyOf x < keyOf y)
  | _, _ => false
theorem key_inj {a b : Nat} (ha : isL a) (hb : isL b) (h : keyOf a = keyOf b) : a = b := by
  unfold keyOf lo2 at h
  unfold isL at ha hb
  split at h <;> split at h <;> omega
theorem lt_toks : ∀ (s t : List Nat), Ls s → Ls t → s.length = t.length → lexLt itemOrd (PySem.W.keyToksAll (pys (s.map fun c => D.int (keyOf c)))) (PySem.W.keyToksAll (pys (t.map fun c => D.int (keyOf c)))) = ltKey s t
  | [], [], _, _, _ => by simp [pys, ltKey, PySem.W.keyToksAll]; decide
  | [], y :: t, _, _, h => absurd h (by simp)
  | x :: s, [], _, _, h => absurd h (by simp)
  | x :: s, y :: t, hs, ht, h => by
    have lx := hs x List.mem_cons_self
    have ly := ht y List.mem_cons_self
    have ih := lt_toks s t (fun z hz => hs z (List.mem_cons_of_mem _ hz)) (fun z hz => ht z (List.mem_cons_of_mem _ hz)) (by simpa using h)
    simp only [List.map_cons, pys, D.py]
    by_cases e : x = y
    · subst e
      rw [PySem.W.dataLt_all_yes (by simp [PySem.W.alike]) (by simp [PyData.eqv]), ih]
      unfold ltKey
      rw [if_pos rfl]
      cases s <;> cases t <;> first | rfl | (simp [ltKey])
    · have ne : keyOf x ≠ keyOf y := fun q => e (key_inj lx ly q)
      rw [PySem.W.dataLt_all_no (by simp [PySem.W.alike]) (by simp [PyData.eqv, ne]), PySem.W.dataLt_int]
      unfold ltKey
      rw [if_neg e]
theorem eqv_keys : ∀ (s t : List Nat), Ls s → Ls t → PyData.eqvAll (pys (s.map fun c => D.int (keyOf c))) (pys (t.map fun c => D.int (keyOf c))) = decide (s = t)
  | [], [], _, _ => by simp [pys, PyData.eqvAll]
  | [], y :: t, _, _ => by simp [pys, PyData.eqvAll]
  | x :: s, [], _, _ => by simp [pys, PyData.eqvAll]
  | x :: s, y :: t, hs, ht => by
    have lx := hs x List.mem_cons_self
    have ly := ht y List.mem_cons_self
    have ih := eqv_keys s t (fun z hz => hs z (List.mem_cons_of_mem _ hz)) (fun z hz => ht z (List.mem_cons_of_mem _ hz))
    have k : (keyOf x = keyOf y) ↔ x = y := ⟨key_inj lx ly, fun e => by rw [e]⟩
    simp only [List.map_cons, pys, D.py, PyData.eqvAll, ih, PyData.eqv]
    by_cases a : x = y
    · subst a
      by_cases b : s = t <;> simp [b]
    · have : keyOf x ≠ keyOf y := fun q => a (k.mp q)
      simp [a, this]
theorem lt_key_self : ∀ s : List Nat, ltKey s s = false
  | [] => rfl
  | x :: s => by unfold ltKey; rw [if_pos rfl]; exact lt_key_self s
theorem earlier_is {s t : List Nat} (ls : Ls s) (lt : Ls t) : ltD (rkD s) (rkD t) = if s.length = t.length then ltKey s t else decide (s.length < t.length) := by
  unfold ltD rkD
  simp only [D.py, pys]
  rw [PySem.W.dataLt_tuple]
  by_cases e : s.length = t.length
  · rw [if_pos e, PySem.W.dataLt_all_yes (by simp [PySem.W.alike]) (by simp [PyData.eqv, e])]
    have al : PySem.W.alike (PyData.list (pys (s.map fun c => D.int (keyOf c)))) (PyData.list (pys (t.map fun c => D.int (keyOf c)))) = true := by
      have keys_alike : ∀ a b : List Nat, PySem.W.alikeAll (pys (a.map fun c => D.int (keyOf c))) (pys (b.map fun c => D.int (keyOf c))) = true := by
        intro a
        induction a with
        | nil => intro b; simp [pys, PySem.W.alikeAll]
        | cons x a ih =>
          intro b
          cases b with
          | nil => simp [pys, PySem.W.alikeAll]
          | cons y b => simp [pys, D.py, PySem.W.alikeAll, PySem.W.alike, ih]
      simp [PySem.W.alike, keys_alike]
    have q := eqv_keys s t ls lt
    by_cases st : s = t
    · subst st
      rw [PySem.W.dataLt_all_yes al (by simp [PyData.eqv, q]), lt_key_self]
      simp [PySem.W.keyToksAll]
      decide
    · rw [PySem.W.dataLt_all_no al (by simp [PyData.eqv, q, st]), PySem.W.dataLt_list, lt_toks s t ls lt e]
  · rw [if_neg e, PySem.W.dataLt_all_no (by simp [PySem.W.alike]) (by simp [PyData.eqv]; omega), PySem.W.dataLt_int]
    simp

structure Cs where
  RunsError : Addr
  NoRow : Addr
  NoNumber : Addr
  NoRoot : Addr
abbrev rootD (u : List Nat) (m k : Nat) : D := .tup [.str (rootOf u m k), .int ((inner u m).length / k : Nat)]
def sp_is_integer (_ : Cs) : DSp := fun args R _ => ∃ x, args = [x] ∧ okV x ∧ R (.bl (isInt x)) args
def sp_is_within (_ : Cs) : DSp := fun args R _ => ∃ x a b, args = [x, .int a, .int b] ∧ okV x ∧ R (.bl (within x a b)) args
def sp_is_string_of (_ : Cs) : DSp := fun args R _ => ∃ x signs, args = [x, .str signs] ∧ okV x ∧ R (.bl (isStrOf x signs)) args
def sp_undoing_of (_ : Cs) : DSp := fun args R _ => ∃ s, args = [.str s] ∧ s.length ≤ 50000 ∧ R (.str (s.map sw2)) args
def sp_is_row (_ : Cs) : DSp := fun args R _ => ∃ x, args = [x] ∧ okV x ∧ R (.bl (isRow x)) args
def sp_check_any_row (c : Cs) : DSp := fun args R RX => ∃ x, args = [x] ∧ okV x ∧ (isRow x = true → R .non args) ∧ (isRow x = false → RX ⟨c.NoRow, none⟩ args)
def sp_net_letters (_ : Cs) : DSp := fun args R _ => ∃ s, args = [.str s] ∧ s.length ≤ 50000 ∧ R (.str (netL s)) args
def sp_turned_about (_ : Cs) : DSp := fun args R _ => ∃ s, args = [.str s] ∧ s.length ≤ 50000 ∧ R (.str (back1 s)) args
def sp_row_key (_ : Cs) : DSp := fun args R _ => ∃ s, args = [.str s] ∧ Ls s ∧ s.length ≤ 50000 ∧ R (rkD s) args
def sp_bent (_ : Cs) : DSp := fun args R _ => ∃ s, args = [.str s] ∧ s.length ≤ 50000 ∧ ∀ m : Nat, Bent s m → R (.int m) args
def sp_net (c : Cs) : DSp := fun args R RX => ∃ x, args = [x] ∧ okV x ∧ (isRow x = true → ∃ s, x = .str s ∧ s.length ≤ 50000 ∧ R (.str (netL s)) args) ∧ (isRow x = false → RX ⟨c.NoRow, none⟩ args)
def sp_power_letters (_ : Cs) : DSp := fun args R _ => ∃ s t, args = [.str s, .int t] ∧ Ls s ∧ Flat s ∧ s.length ≤ 50000 ∧ s.length * t.natAbs ≤ 50000 ∧ t.natAbs ≤ 1000 ∧ R (.str (powL s t)) args
def sp_power0 (_ : Cs) : DSp := fun args R _ => ∃ s t, args = [.str s, .int t] ∧ 0 ≤ t ∧ Ls s ∧ Flat s ∧ s.length ≤ 50000 ∧ s.length * t.natAbs ≤ 50000 ∧ t.natAbs ≤ 1000 ∧ R (.str (powL s t)) args
def sp_power (c : Cs) : DSp := fun args R RX => ∃ x y, args = [x, y] ∧ okV x ∧ okV y ∧ (isRow x = true → within y (-1000) 1000 = true → ∃ s t, x = .str s ∧ y = .int t ∧ s.length * t.natAbs ≤ 50000 ∧ s.length ≤ 50000 ∧ R (.str (powL (netL s) t)) args) ∧ (isRow x = false → RX ⟨c.NoRow, none⟩ args) ∧ (isRow x = true → within y (-1000) 1000 = false → RX ⟨c.NoNumber, none⟩ args)
def sp_earlier (c : Cs) : DSp := fun args R RX => ∃ x y, args = [x, y] ∧ okV x ∧ okV y ∧ (isRow x = true → isRow y = true → ∃ s b, x = .str s ∧ y = .str b ∧ s.length ≤ 50000 ∧ b.length ≤ 50000 ∧ R (.bl (ltD (rkD s) (rkD b))) args) ∧ ((isRow x && isRow y) = false → RX ⟨c.NoRow, none⟩ args)
def sp_root (c : Cs) : DSp := fun args R RX => ∃ x, args = [x] ∧ okV x ∧ (isRow x = false → RX ⟨c.NoRow, none⟩ args) ∧ (isRow x = true → ∃ s, x = .str s ∧ s.length ≤ 50000 ∧ (netL s = [] → RX ⟨c.NoRoot, none⟩ args) ∧ (netL s ≠ [] → ∀ m k, Bent (netL s) m → Turn (inner (netL s) m) k → R (.tup [.str ((netL s).take m ++ (inner (netL s) m).take k ++ (netL s).drop ((netL s).length - m)), .int ((inner (netL s) m).length / k : Nat)]) args))
def sp_law_hand (_ : Cs) : DSp := fun args R _ => ∃ ns : List Int, args = [.kst (ns.map .int)] ∧ ∀ h, HandOk h → R h args
def sp_law_draw (_ : Cs) : DSp := fun args R _ => ∃ h m, args = [h, .int m] ∧ HandOk h ∧ 1 ≤ m ∧ m ≤ 1000000 ∧ ∀ r h', HandOk h' → 0 ≤ r → r < m → R (.int r) [h', .int m]
def sp_law_undoing (_ : Cs) : DSp := fun args R _ => ∃ c, args = [.str [c]] ∧ R (.str [sw2 c]) args
def sp_law_back (_ : Cs) : DSp := fun args R _ => ∃ s, args = [.str s] ∧ s.length ≤ 50000 ∧ R (.str (back1 s)) args
def sp_law_net (_ : Cs) : DSp := fun args R _ => ∃ s, args = [.str s] ∧ s.length ≤ 50000 ∧ R (.str (netL s)) args
def sp_law_deeds (_ : Cs) : DSp := fun args R _ => ∃ h m, args = [h, .int m] ∧ HandOk h ∧ 1 ≤ m ∧ m ≤ 26 ∧ ∀ s h', HandOk h' → Ls s → (∀ c ∈ s, c ∈ AZ) → 1 ≤ s.length → s.length ≤ 26 → R (.str s) [h', .int m]
def sp_law_row (_ : Cs) : DSp := fun args R _ => ∃ h deeds n, args = [h, .str deeds, .int n] ∧ HandOk h ∧ Ls deeds ∧ 1 ≤ deeds.length ∧ deeds.length ≤ 26 ∧ 0 ≤ n ∧ n ≤ 50000 ∧ ∀ s h', HandOk h' → Ls s → (s.length : Int) = n → R (.str s) [h', .str deeds, .int n]
def sp_law_root (_ : Cs) : DSp := fun args R _ => ∃ u, args = [.str u] ∧ Ls u ∧ Flat u ∧ u ≠ [] ∧ u.length ≤ 200 ∧ ∀ m k, Bent u m → Turn (inner u m) k → R (rootD u m k) args
def sp_law_is_earlier (_ : Cs) : DSp := fun args R _ => ∃ s t, args = [.str s, .str t] ∧ Ls s ∧ Ls t ∧ s.length ≤ 1000 ∧ t.length ≤ 1000 ∧ R (.bl (ltD (rkD s) (rkD t))) args
def sp_law_asked (_ : Cs) : DSp := fun args R _ => ∃ s, args = [.str s] ∧ Ls s ∧ s.length ≤ 200 ∧ (netL s = [] → R (.str (lit "none")) args) ∧ (netL s ≠ [] → ∀ m k, Bent (netL s) m → Turn (inner (netL s) m) k → R (rootD (netL s) m k) args)
def sp_law_roots_right (_ : Cs) : DSp := fun args R _ => ∃ h deeds, args = [h, .str deeds] ∧ HandOk h ∧ Ls deeds ∧ 1 ≤ deeds.length ∧ deeds.length ≤ 26 ∧ ∀ h', HandOk h' → R (.bl true) [h', .str deeds]
def sp_law (_ : Cs) : DSp := fun args R _ => ∃ ns : List Int, args = [.kst (ns.map .int)] ∧ R (.bl true) args

def topS (i : Nat) : Stmt := PySem.Challenge.pw_runsback_k02_whole_roots_and_earlier_row.main.body.getD i (.Pass ⟨0, 0, 0, 0⟩)
abbrev N_is_integer : List Str := ["thing"]
abbrev s_is_integer : Stmt := topS 8
theorem sc_is_integer : FnScope N_is_integer ["thing"] (defScope s_is_integer) := ⟨rfl, rfl, rfl, by decide +kernel, rfl, by decide +kernel, by decide +kernel⟩
abbrev N_is_within : List Str := ["thing", "least", "most"]
abbrev s_is_within : Stmt := topS 9
theorem sc_is_within : FnScope N_is_within ["thing", "least", "most"] (defScope s_is_within) := ⟨rfl, rfl, rfl, by decide +kernel, rfl, by decide +kernel, by decide +kernel⟩
abbrev N_is_string_of : List Str := ["thing", "signs", "sign"]
abbrev s_is_string_of : Stmt := topS 10
theorem sc_is_string_of : FnScope N_is_string_of ["thing", "signs"] (defScope s_is_string_of) := ⟨rfl, rfl, rfl, by decide +kernel, rfl, by decide +kernel, by decide +kernel⟩
abbrev N_undoing_of : List Str := ["letter"]
abbrev s_undoing_of : Stmt := topS 11
theorem sc_undoing_of : FnScope N_undoing_of ["letter"] (defScope s_undoing_of) := ⟨rfl, rfl, rfl, by decide +kernel, rfl, by decide +kernel, by decide +kernel⟩
abbrev N_is_row : List Str := ["thing"]
abbrev s_is_row : Stmt := topS 12
theorem sc_is_row : FnScope N_is_row ["thing"] (defScope s_is_row) := ⟨rfl, rfl, rfl, by decide +kernel, rfl, by decide +kernel, by decide +kernel⟩
abbrev N_check_any_row : List Str := ["thing"]
abbrev s_check_any_row : Stmt := topS 13
theorem sc_check_any_row : FnScope N_check_any_row ["thing"] (defScope s_check_any_row) := ⟨rfl, rfl, rfl, by decide +kernel, rfl, by decide +kernel, by decide +kernel⟩
abbrev N_net_letters : List Str := ["row", "kept", "letter"]
abbrev s_net_letters : Stmt := topS 16
theorem sc_net_letters : FnScope N_net_letters ["row"] (defScope s_net_letters) := ⟨rfl, rfl, rfl, by decide +kernel, rfl, by decide +kernel, by decide +kernel⟩
abbrev N_turned_about : List Str := ["row"]
abbrev s_turned_about : Stmt := topS 17
theorem sc_turned_about : FnScope N_turned_about ["row"] (defScope s_turned_about) := ⟨rfl, rfl, rfl, by decide +kernel, rfl, by decide +kernel, by decide +kernel⟩
abbrev N_row_key : List Str := ["row", "places", "letter"]
abbrev s_row_key : Stmt := topS 18
theorem sc_row_key : FnScope N_row_key ["row"] (defScope s_row_key) := ⟨rfl, rfl, rfl, by decide +kernel, rfl, by decide +kernel, by decide +kernel⟩
abbrev N_bent : List Str := ["net", "many"]
abbrev s_bent : Stmt := topS 19
theorem sc_bent : FnScope N_bent ["net"] (defScope s_bent) := ⟨rfl, rfl, rfl, by decide +kernel, rfl, by decide +kernel, by decide +kernel⟩
abbrev N_net : List Str := ["row"]
abbrev s_net : Stmt := topS 20
theorem sc_net : FnScope N_net ["row"] (defScope s_net) := ⟨rfl, rfl, rfl, by decide +kernel, rfl, by decide +kernel, by decide +kernel⟩
abbrev N_power_letters : List Str := ["net", "times", "ends"]
abbrev s_power_letters : Stmt := topS 21
theorem sc_power_letters : FnScope N_power_letters ["net", "times"] (defScope s_power_letters) := ⟨rfl, rfl, rfl, by decide +kernel, rfl, by decide +kernel, by decide +kernel⟩
abbrev N_power : List Str := ["row", "times"]
abbrev s_power : Stmt := topS 22
theorem sc_power : FnScope N_power ["row", "times"] (defScope s_power) := ⟨rfl, rfl, rfl, by decide +kernel, rfl, by decide +kernel, by decide +kernel⟩
abbrev N_earlier : List Str := ["row", "second"]
abbrev s_earlier : Stmt := topS 23
theorem sc_earlier : FnScope N_earlier ["row", "second"] (defScope s_earlier) := ⟨rfl, rfl, rfl, by decide +kernel, rfl, by decide +kernel, by decide +kernel⟩
abbrev N_root : List Str := ["row", "whole", "ends", "inner", "size"]
abbrev s_root : Stmt := topS 24
theorem sc_root : FnScope N_root ["row"] (defScope s_root) := ⟨rfl, rfl, rfl, by decide +kernel, rfl, by decide +kernel, by decide +kernel⟩
abbrev N_law_hand : List Str := ["_law_script", "_law_cells", "_law_cell"]
abbrev s_law_hand : Stmt := topS 26
theorem sc_law_hand : FnScope N_law_hand ["_law_script"] (defScope s_law_hand) := ⟨rfl, rfl, rfl, by decide +kernel, rfl, by decide +kernel, by decide +kernel⟩
abbrev N_law_draw : List Str := ["_law_hand_here", "_law_many", "_law_cell", "_law_digit", "_law_number"]
abbrev s_law_draw : Stmt := topS 27
theorem sc_law_draw : FnScope N_law_draw ["_law_hand_here", "_law_many"] (defScope s_law_draw) := ⟨rfl, rfl, rfl, by decide +kernel, rfl, by decide +kernel, by decide +kernel⟩
abbrev N_law_undoing : List Str := ["_law_letter"]
abbrev s_law_undoing : Stmt := topS 28
theorem sc_law_undoing : FnScope N_law_undoing ["_law_letter"] (defScope s_law_undoing) := ⟨rfl, rfl, rfl, by decide +kernel, rfl, by decide +kernel, by decide +kernel⟩
abbrev N_law_back : List Str := ["_law_row_here", "_law_letter"]
abbrev s_law_back : Stmt := topS 29
theorem sc_law_back : FnScope N_law_back ["_law_row_here"] (defScope s_law_back) := ⟨rfl, rfl, rfl, by decide +kernel, rfl, by decide +kernel, by decide +kernel⟩
abbrev N_law_net : List Str := ["_law_row_here", "_law_kept", "_law_letter"]
abbrev s_law_net : Stmt := topS 30
theorem sc_law_net : FnScope N_law_net ["_law_row_here"] (defScope s_law_net) := ⟨rfl, rfl, rfl, by decide +kernel, rfl, by decide +kernel, by decide +kernel⟩
abbrev N_law_deeds : List Str := ["_law_hand_here", "_law_most", "_law_many", "_law_found", "_law_rest", "_law_turn", "_law_at"]
abbrev s_law_deeds : Stmt := topS 31
theorem sc_law_deeds : FnScope N_law_deeds ["_law_hand_here", "_law_most"] (defScope s_law_deeds) := ⟨rfl, rfl, rfl, by decide +kernel, rfl, by decide +kernel, by decide +kernel⟩
abbrev N_law_row : List Str := ["_law_hand_here", "_law_deeds_here", "_law_many", "_law_letters", "_law_turn"]
abbrev s_law_row : Stmt := topS 32
theorem sc_law_row : FnScope N_law_row ["_law_hand_here", "_law_deeds_here", "_law_many"] (defScope s_law_row) := ⟨rfl, rfl, rfl, by decide +kernel, rfl, by decide +kernel, by decide +kernel⟩
abbrev N_law_root : List Str := ["_law_whole", "_law_ends", "_law_many", "_law_times", "_law_found"]
abbrev s_law_root : Stmt := topS 33
theorem sc_law_root : FnScope N_law_root ["_law_whole"] (defScope s_law_root) := ⟨rfl, rfl, rfl, by decide +kernel, rfl, by decide +kernel, by decide +kernel⟩
abbrev N_law_is_earlier : List Str := ["_law_one", "_law_other", "_law_order", "_law_at"]
abbrev s_law_is_earlier : Stmt := topS 34
theorem sc_law_is_earlier : FnScope N_law_is_earlier ["_law_one", "_law_other"] (defScope s_law_is_earlier) := ⟨rfl, rfl, rfl, by decide +kernel, rfl, by decide +kernel, by decide +kernel⟩
abbrev N_law_asked : List Str := ["_law_row_here", "_law_told"]
abbrev s_law_asked : Stmt := topS 35
theorem sc_law_asked : FnScope N_law_asked ["_law_row_here"] (defScope s_law_asked) := ⟨rfl, rfl, rfl, by decide +kernel, rfl, by decide +kernel, by decide +kernel⟩
abbrev N_law_roots_right : List Str := ["_law_hand_here", "_law_deeds_here", "_law_inner", "_law_by", "_law_row_here", "_law_kind", "_law_whole", "_law_told"]
abbrev s_law_roots_right : Stmt := topS 36
theorem sc_law_roots_right : FnScope N_law_roots_right ["_law_hand_here", "_law_deeds_here"] (defScope s_law_roots_right) := ⟨rfl, rfl, rfl, by decide +kernel, rfl, by decide +kernel, by decide +kernel⟩
abbrev N_law : List Str := ["_law_script", "_law_hand_here", "_law_deeds_here", "_law_turn", "_law_begin", "_law_rows", "_law_one", "_law_other", "_law_told"]
abbrev s_law : Stmt := topS 37
theorem sc_law : FnScope N_law ["_law_script"] (defScope s_law) := ⟨rfl, rfl, rfl, by decide +kernel, rfl, by decide +kernel, by decide +kernel⟩
/-- what the top has written -/
structure Txt (K : PySem.W.Frag) (mg : Str → Option Value) (c : Cs) : Prop where
  z_abs : mg "abs" = none
  z_bool : mg "bool" = none
  z_int : mg "int" = none
  z_isinstance : mg "isinstance" = none
  z_len : mg "len" = none
  z_range : mg "range" = none
  z_str : mg "str" = none
  z_tuple : mg "tuple" = none
  c_RunsError : XCls K mg "RunsError" c.RunsError
  c_NoRow : XCls K mg "NoRow" c.NoRow
  c_NoNumber : XCls K mg "NoNumber" c.NoNumber
  c_NoRoot : XCls K mg "NoRoot" c.NoRoot
  g_SMALL : ∃ t, mg "SMALL" = some (.str "abcdefghijklmnopqrstuvwxyz" t)
  g_LETTERS : ∃ t, mg "LETTERS" = some (.str "abcdefghijklmnopqrstuvwxyzABCDEFGHIJKLMNOPQRSTUVWXYZ" t)
  g_MOST_TIMES : ∃ t, mg "MOST_TIMES" = some (.int 1000 t)
  a_is_integer : At K mg "is_integer" s_is_integer ["thing"]
  a_is_within : At K mg "is_within" s_is_within ["thing", "least", "most"]
  a_is_string_of : At K mg "is_string_of" s_is_string_of ["thing", "signs"]
  a_undoing_of : At K mg "undoing_of" s_undoing_of ["letter"]
  a_is_row : At K mg "is_row" s_is_row ["thing"]
  a_check_any_row : At K mg "check_any_row" s_check_any_row ["thing"]
  a_net_letters : At K mg "net_letters" s_net_letters ["row"]
  a_turned_about : At K mg "turned_about" s_turned_about ["row"]
  a_row_key : At K mg "row_key" s_row_key ["row"]
  a_bent : At K mg "bent" s_bent ["net"]
  a_net : At K mg "net" s_net ["row"]
  a_power_letters : At K mg "power_letters" s_power_letters ["net", "times"]
  a_power : At K mg "power" s_power ["row", "times"]
  a_earlier : At K mg "earlier" s_earlier ["row", "second"]
  a_root : At K mg "root" s_root ["row"]
  a_law_hand : At K mg "_law_hand" s_law_hand ["_law_script"]
  a_law_draw : At K mg "_law_draw" s_law_draw ["_law_hand_here", "_law_many"]
  a_law_undoing : At K mg "_law_undoing" s_law_undoing ["_law_letter"]
  a_law_back : At K mg "_law_back" s_law_back ["_law_row_here"]
  a_law_net : At K mg "_law_net" s_law_net ["_law_row_here"]
  a_law_deeds : At K mg "_law_deeds" s_law_deeds ["_law_hand_here", "_law_most"]
  a_law_row : At K mg "_law_row" s_law_row ["_law_hand_here", "_law_deeds_here", "_law_many"]
  a_law_root : At K mg "_law_root" s_law_root ["_law_whole"]
  a_law_is_earlier : At K mg "_law_is_earlier" s_law_is_earlier ["_law_one", "_law_other"]
  a_law_asked : At K mg "_law_asked" s_law_asked ["_law_row_here"]
  a_law_roots_right : At K mg "_law_roots_right" s_law_roots_right ["_law_hand_here", "_law_deeds_here"]
  a_law : At K mg "law" s_law ["_law_script"]
section
variable {P : Program} {w : World} {K : PySem.W.Frag} {mg : Str → Option Value} {base : Heap} {c : Cs}
/-! is_integer -/
def x_is_integer (K : PySem.W.Frag) (c : Cs) : XS :=
  (dRet (dAndV (dOpV gIsi 0 (dC (.ty "int"))) (dNotV (dOpV gIsi 0 (dC (.ty "bool"))))))
theorem d_is_integer (T : Txt K mg c)  (f : Addr) (cdv : Value) (A : Around) (outer : List Env) (s : Shared) (H : Hp) (EX : XK) (hr : Room 0 (A.deeper (envOfC "is_integer" (defScope s_is_integer) s.heap.objs.size f cdv))) : PSsX (cxOf (L2.CX P w) P w K mg base N_is_integer "is_integer" (defScope s_is_integer) f cdv A outer s H EX) (defBody s_is_integer) (x_is_integer K c) :=
  (ss_one (s_ret (x_and (x_b2V c_isi (by rfl) T.z_isinstance (by decide +kernel) (pv 0) (o_f (x_gty (by rfl) T.z_int (by decide +kernel)))) (x_one (x_not (x_b2V c_isi (by rfl) T.z_isinstance (by decide +kernel) (pv 0) (o_f (x_gty (by rfl) T.z_bool (by decide +kernel)))))))))
/-! is_within -/
def x_is_within (K : PySem.W.Frag) (c : Cs) : XS :=
  (dRet (dAndV (dCall (sp_is_integer c) (dAV (dName 0) dANil)) (dChain gLe gLe (dName 1) (dName 0) (dName 2))))
theorem d_is_within (T : Txt K mg c) (F_is_integer : Fn P w K mg base 1 "is_integer" (sp_is_integer c)) (f : Addr) (cdv : Value) (A : Around) (outer : List Env) (s : Shared) (H : Hp) (EX : XK) (hr : Room 1 (A.deeper (envOfC "is_within" (defScope s_is_within) s.heap.objs.size f cdv))) : PSsX (cxOf (L2.CX P w) P w K mg base N_is_within "is_within" (defScope s_is_within) f cdv A outer s H EX) (defBody s_is_within) (x_is_within K c) :=
  (ss_one (s_ret (x_and (x_fn F_is_integer (hr.mono (by decide)) (by rfl) (a_v (x_name (pv 0)) a_nil)) (x_one (x_chain o_le o_le (x_name (pv 1)) (x_name (pv 0)) (x_name (pv 2)))))))
/-! is_string_of -/
def x_is_string_of (K : PySem.W.Frag) (c : Cs) : XS :=
  (dSeq (dIfS (dNot (dTru (dF (dOpV gIsi 0 (dC (.ty "str"))))))
    (dRet (dC (.bl false)))
    dNext)
    (dSeq (dFor (iSt (oVar 0)) (kName 2)
    (dIfS (dTest (dOpV gNotIn 2 (oVar 1)))
    (dRet (dC (.bl false)))
    dNext))
    (dRet (dC (.bl true)))))
theorem d_is_string_of (T : Txt K mg c)  (f : Addr) (cdv : Value) (A : Around) (outer : List Env) (s : Shared) (H : Hp) (EX : XK) (hr : Room 0 (A.deeper (envOfC "is_string_of" (defScope s_is_string_of) s.heap.objs.size f cdv))) : PSsX (cxOf (L2.CX P w) P w K mg base N_is_string_of "is_string_of" (defScope s_is_string_of) f cdv A outer s H EX) (defBody s_is_string_of) (x_is_string_of K c) :=
  (ss_cons (s_if (t_not (t_tru (o_f (x_f (x_b2V c_isi (by rfl) T.z_isinstance (by decide +kernel) (pv 0) (o_f (x_gty (by rfl) T.z_str (by decide +kernel))))))))
    (ss_one (s_ret (x_of x_bl)))
    ss_nil)
    (ss_cons (s_for rfl (i_str (o_var (pv 0))) (g_name (i := 2) sc_is_string_of.nd rfl (by first | exact .inl rfl | exact .inr rfl))
    (ss_one (s_if (t_cmV o_notin (pv 2) (o_var (pv 1)) (rfl))
    (ss_one (s_ret (x_of x_bl)))
    ss_nil)))
    (ss_one (s_ret (x_of x_bl)))))
/-! undoing_of -/
def x_undoing_of (K : PySem.W.Frag) (c : Cs) : XS :=
  (dRet (dUn (gS1 len5 fun s => .str (s.map sw2)) (oVar 0)))
theorem d_undoing_of (T : Txt K mg c)  (f : Addr) (cdv : Value) (A : Around) (outer : List Env) (s : Shared) (H : Hp) (EX : XK) (hr : Room 0 (A.deeper (envOfC "undoing_of" (defScope s_undoing_of) s.heap.objs.size f cdv))) : PSsX (cxOf (L2.CX P w) P w K mg base N_undoing_of "undoing_of" (defScope s_undoing_of) f cdv A outer s H EX) (defBody s_undoing_of) (x_undoing_of K c) :=
  (ss_one (s_ret (x_m0 m_swapcase PySem.F.slot_str_swapcase PySem.F.type_str_swapcase (o_var (pv 0)))))
/-! is_row -/
def x_is_row (K : PySem.W.Frag) (c : Cs) : XS :=
  (dRet (dCall (sp_is_string_of c) (dAV (dName 0) (dAV (dC (.str (lit "abcdefghijklmnopqrstuvwxyzABCDEFGHIJKLMNOPQRSTUVWXYZ"))) dANil))))
theorem d_is_row (T : Txt K mg c) (F_is_string_of : Fn P w K mg base 1 "is_string_of" (sp_is_string_of c)) (f : Addr) (cdv : Value) (A : Around) (outer : List Env) (s : Shared) (H : Hp) (EX : XK) (hr : Room 1 (A.deeper (envOfC "is_row" (defScope s_is_row) s.heap.objs.size f cdv))) : PSsX (cxOf (L2.CX P w) P w K mg base N_is_row "is_row" (defScope s_is_row) f cdv A outer s H EX) (defBody s_is_row) (x_is_row K c) :=
  (ss_one (s_ret (x_fn F_is_string_of (hr.mono (by decide)) (by rfl) (a_v (x_name (pv 0)) (a_v (x_gstr (by rfl) T.g_LETTERS.choose_spec (okS_of (by decide +kernel))) a_nil)))))
/-! check_any_row -/
def x_check_any_row (K : PySem.W.Frag) (c : Cs) : XS :=
  (dIfS (dNot (dTru (dF (dCall (sp_is_row c) (dAV (dName 0) dANil)))))
    (dRaise c.NoRow)
    dNext)
theorem d_check_any_row (T : Txt K mg c) (F_is_row : Fn P w K mg base 2 "is_row" (sp_is_row c)) (f : Addr) (cdv : Value) (A : Around) (outer : List Env) (s : Shared) (H : Hp) (EX : XK) (hr : Room 2 (A.deeper (envOfC "check_any_row" (defScope s_check_any_row) s.heap.objs.size f cdv))) : PSsX (cxOf (L2.CX P w) P w K mg base N_check_any_row "check_any_row" (defScope s_check_any_row) f cdv A outer s H EX) (defBody s_check_any_row) (x_check_any_row K c) :=
  (ss_one (s_if (t_not (t_tru (o_f (x_f (x_fn F_is_row (hr.mono (by decide)) (by rfl) (a_v (x_name (pv 0)) a_nil))))))
    (ss_one (s_raise rfl T.c_NoRow (by rfl)))
    ss_nil))
/-! net_letters -/
def x_net_letters (K : PySem.W.Frag) (c : Cs) : XS :=
  (dSeq (dSet 1 (dLst dLNil))
    (dSeq (dFor (iSt (oVar 0)) (kName 2)
    (dIfJ (dAnd (dTest (dOp gGt (dF (dUn gLen (oVar 1))) (dC (.int 0)))) (dTest (dOp gEq (dF (dOpV gIx 1 (dF (dUn gNeg (dC (.int 1)))))) (dF (dCall (sp_undoing_of c) (dAV (dName 2) dANil))))))
    (dExpr (dPop 1))
    (dExpr (dAppend 1 (dName 2)))))
    (dRet (dMt gJoin (dC (.str (lit ""))) (oVar 1)))))
theorem d_net_letters (T : Txt K mg c) (F_undoing_of : Fn P w K mg base 1 "undoing_of" (sp_undoing_of c)) (f : Addr) (cdv : Value) (A : Around) (outer : List Env) (s : Shared) (H : Hp) (EX : XK) (hr : Room 1 (A.deeper (envOfC "net_letters" (defScope s_net_letters) s.heap.objs.size f cdv))) : PSsX (cxOf (L2.CX P w) P w K mg base N_net_letters "net_letters" (defScope s_net_letters) f cdv A outer s H EX) (defBody s_net_letters) (x_net_letters K c) :=
  (ss_cons (s_set (i := 1) sc_net_letters.nd rfl (by first | exact .inl rfl | exact .inr rfl) (x_lst l_nil))
    (ss_cons (s_for rfl (i_str (o_var (pv 0))) (g_name (i := 2) sc_net_letters.nd rfl (by first | exact .inl rfl | exact .inr rfl))
    (ss_one (s_ifJ (t_w (w_and (t_cm o_gt (x_f (x_b1 c_len (by rfl) T.z_len (by decide +kernel) (o_var (pv 1)))) (o_f x_int) (nomark _)) (w_and1 (t_cm (o_eq hr) (x_f (x_ixV (pv 1) (o_f (x_f (x_neg (o_f x_int)))) (fun _ _ => rfl))) (o_f (x_f (x_fn F_undoing_of (hr.mono (by decide)) (by rfl) (a_v (x_name (pv 2)) a_nil)))) (nomark _)))))
    (ss_one (s_expr (x_of (x_pop (pv 1)))))
    (ss_one (s_expr (x_of (x_append (pv 1) (x_name (pv 2)))))))))
    (ss_one (s_ret (x_m1 m_join PySem.F.slot_str_join PySem.F.type_str_join (x_str (okS_of (by decide +kernel))) (o_var (pv 1)))))))
/-! turned_about -/
def x_turned_about (K : PySem.W.Frag) (c : Cs) : XS :=
  (dRet (dUn (gS1 len5 fun s => .str (s.map sw2)) (dF (dUn gRevS (oVar 0)))))
theorem d_turned_about (T : Txt K mg c)  (f : Addr) (cdv : Value) (A : Around) (outer : List Env) (s : Shared) (H : Hp) (EX : XK) (hr : Room 0 (A.deeper (envOfC "turned_about" (defScope s_turned_about) s.heap.objs.size f cdv))) : PSsX (cxOf (L2.CX P w) P w K mg base N_turned_about "turned_about" (defScope s_turned_about) f cdv A outer s H EX) (defBody s_turned_about) (x_turned_about K c) :=
  (ss_one (s_ret (x_m0 m_swapcase PySem.F.slot_str_swapcase PySem.F.type_str_swapcase (o_f (x_f (x_revS (o_var (pv 0))))))))
/-! row_key -/
def x_row_key (K : PySem.W.Frag) (c : Cs) : XS :=
  (dSeq (dSet 1 (dLc (iSt (oVar 0)) 2 dYes (dF (dOp gAdd (dF (dOp gMul (dC (.int 2)) (dF (dMt gFind (dC (.str (lit "abcdefghijklmnopqrstuvwxyz"))) (dF (dUn (gS1 len5 fun s => .str (s.map lo2)) (oVar 2))))))) (dF (dUn gInt (dF (dUn (gS1 (fun _ => True) fun s => .bl (isUp s)) (oVar 2)))))))))
    (dRet (dTup (dLCons (dF (dUn gLen (oVar 0))) (dLCons (dName 1) dLNil)))))
theorem d_row_key (T : Txt K mg c)  (f : Addr) (cdv : Value) (A : Around) (outer : List Env) (s : Shared) (H : Hp) (EX : XK) (hr : Room 0 (A.deeper (envOfC "row_key" (defScope s_row_key) s.heap.objs.size f cdv))) : PSsX (cxOf (L2.CX P w) P w K mg base N_row_key "row_key" (defScope s_row_key) f cdv A outer s H EX) (defBody s_row_key) (x_row_key K c) :=
  (ss_cons (s_setLc (j := 1) rfl sc_row_key.nd rfl rfl (sw_true rfl rfl rfl (by decide +kernel)) (i_str (o_var (pv 0))) (blkOk_by (own := [("letter", 2)]) (N := N_row_key) (sc := defScope s_row_key) (by decide +kernel)) (fun _ _ _ _ _ => pg_name (i := 2) sc_row_key.nd rfl (by first | exact .inl rfl | exact .inr rfl)) (fun _ _ _ _ _ => ts_nil) (fun _ _ _ _ _ => (x_f (x_op o_add (x_f (x_op o_mul x_int (o_f (x_f (x_m1 m_find PySem.F.slot_str_find PySem.F.type_str_find (x_gstr (by rfl) T.g_SMALL.choose_spec (okS_of (by decide +kernel))) (o_f (x_f (x_m0 m_lower PySem.F.slot_str_lower PySem.F.type_str_lower (o_var (pv 2)))))))))) (o_f (x_f (x_t1 c_int (by rfl) T.z_int (by decide +kernel) (o_f (x_f (x_m0 m_isupper PySem.F.slot_str_isupper PySem.F.type_str_isupper (o_var (pv 2))))))))))))
    (ss_one (s_ret (x_of (x_tup (l_cons (x_f (x_b1 c_len (by rfl) T.z_len (by decide +kernel) (o_var (pv 0)))) (l_cons (x_name (pv 1)) l_nil)))))))
/-! bent -/
def x_bent (K : PySem.W.Frag) (c : Cs) : XS :=
  (dSeq (dSet 1 (dC (.int 0)))
    (dSeq (dWhile (dAnd (dTest (dOp gLt (dF (dOp gAdd (dF (dOp gMul (dC (.int 2)) (oVar 1))) (dC (.int 1)))) (dF (dUn gLen (oVar 0))))) (dTest (dOp gEq (dF (dOpV gIx 0 (oVar 1))) (dF (dCall (sp_undoing_of c) (dAV (dF (dOpV gIx 0 (dF (dOp gMinus (dF (dUn gNeg (dC (.int 1)))) (oVar 1))))) dANil))))))
    (dAug 1 (fun i j => i + j) (dC (.int 1))))
    (dRetV 1)))
theorem d_bent (T : Txt K mg c) (F_undoing_of : Fn P w K mg base 1 "undoing_of" (sp_undoing_of c)) (f : Addr) (cdv : Value) (A : Around) (outer : List Env) (s : Shared) (H : Hp) (EX : XK) (hr : Room 1 (A.deeper (envOfC "bent" (defScope s_bent) s.heap.objs.size f cdv))) : PSsX (cxOf (L2.CX P w) P w K mg base N_bent "bent" (defScope s_bent) f cdv A outer s H EX) (defBody s_bent) (x_bent K c) :=
  (ss_cons (s_set (i := 1) sc_bent.nd rfl (by first | exact .inl rfl | exact .inr rfl) (x_of x_int))
    (ss_cons (s_while (t_w (w_and (t_cm o_lt (x_f (x_op o_add (x_f (x_op o_mul x_int (o_var (pv 1)))) (o_f x_int))) (o_f (x_f (x_b1 c_len (by rfl) T.z_len (by decide +kernel) (o_var (pv 0))))) (nomark _)) (w_and1 (t_cm (o_eq hr) (x_f (x_ixV (pv 0) (o_var (pv 1)) (fun _ _ => rfl))) (o_f (x_f (x_fn F_undoing_of (hr.mono (by decide)) (by rfl) (a_v (x_f (x_ixV (pv 0) (o_f (x_f (x_op o_sub (x_f (x_neg (o_f x_int))) (o_var (pv 1))))) (fun _ _ => rfl))) a_nil)))) (nomark _)))))
    (ss_one (s_augI (i := 1) ip_add sc_bent.nd rfl (by first | exact .inl rfl | exact .inr rfl) (o_f x_int))))
    (ss_one (s_retV (pv 1)))))
/-! net -/
def x_net (K : PySem.W.Frag) (c : Cs) : XS :=
  (dSeq (dExpr (dCall (sp_check_any_row c) (dAV (dName 0) dANil)))
    (dRet (dCall (sp_net_letters c) (dAV (dName 0) dANil))))
theorem d_net (T : Txt K mg c) (F_net_letters : Fn P w K mg base 2 "net_letters" (sp_net_letters c)) (F_check_any_row : Fn P w K mg base 3 "check_any_row" (sp_check_any_row c)) (f : Addr) (cdv : Value) (A : Around) (outer : List Env) (s : Shared) (H : Hp) (EX : XK) (hr : Room 3 (A.deeper (envOfC "net" (defScope s_net) s.heap.objs.size f cdv))) : PSsX (cxOf (L2.CX P w) P w K mg base N_net "net" (defScope s_net) f cdv A outer s H EX) (defBody s_net) (x_net K c) :=
  (ss_cons (s_expr (x_fn F_check_any_row (hr.mono (by decide)) (by rfl) (a_v (x_name (pv 0)) a_nil)))
    (ss_one (s_ret (x_fn F_net_letters (hr.mono (by decide)) (by rfl) (a_v (x_name (pv 0)) a_nil)))))
/-! power_letters -/
def x_power_letters (K : PySem.W.Frag) (c : Cs) (spS : DSp) : XS :=
  (dSeq (dIfS (dTest (dOpV gLt 1 (dC (.int 0))))
    (dRet (dCall spS (dAV (dF (dCall (sp_turned_about c) (dAV (dName 0) dANil))) (dAV (dF (dUn gNeg (oVar 1))) dANil))))
    dNext)
    (dSeq (dIfS (dOr (dTest (dOpV gEq 1 (dC (.int 0)))) (dTest (dOpV gEq 0 (dC (.str (lit ""))))))
    (dRet (dC (.str (lit ""))))
    dNext)
    (dSeq (dSet 2 (dCall (sp_bent c) (dAV (dName 0) dANil)))
    (dRet (dOp gAdd (dF (dOp gAdd (dF (dSlV 0 dNoPart (dPart (oVar 2)))) (dF (dOp gMul (dF (dSlV 0 (dPart (oVar 2)) (dPart (dF (dOp gMinus (dF (dUn gLen (oVar 0))) (oVar 2)))))) (oVar 1))))) (dF (dSlV 0 (dPart (dF (dOp gMinus (dF (dUn gLen (oVar 0))) (oVar 2)))) dNoPart)))))))
theorem d_power_letters (T : Txt K mg c) {k : Nat} {spS : DSp} (hk : 2 ≤ k) (F_self : Fn P w K mg base k "power_letters" spS) (F_bent : Fn P w K mg base 2 "bent" (sp_bent c)) (F_turned_about : Fn P w K mg base 1 "turned_about" (sp_turned_about c)) (f : Addr) (cdv : Value) (A : Around) (outer : List Env) (s : Shared) (H : Hp) (EX : XK) (hr : Room k (A.deeper (envOfC "power_letters" (defScope s_power_letters) s.heap.objs.size f cdv))) : PSsX (cxOf (L2.CX P w) P w K mg base N_power_letters "power_letters" (defScope s_power_letters) f cdv A outer s H EX) (defBody s_power_letters) (x_power_letters K c spS) :=
  (ss_cons (s_if (t_cmV o_lt (pv 1) (o_f x_int) (nomark _))
    (ss_one (s_ret (x_fn F_self (hr.mono (by omega)) (by rfl) (a_v (x_f (x_fn F_turned_about (hr.mono (by omega)) (by rfl) (a_v (x_name (pv 0)) a_nil))) (a_v (x_f (x_neg (o_var (pv 1)))) a_nil)))))
    ss_nil)
    (ss_cons (s_if (t_w (w_or (t_cmV (o_eq hr) (pv 1) (o_f x_int) (nomark _)) (w_or1 (t_cmV (o_eq hr) (pv 0) (o_f (x_str (okS_of (by decide +kernel)))) (nomark _)))))
    (ss_one (s_ret (x_of (x_str (okS_of (by decide +kernel))))))
    ss_nil)
    (ss_cons (s_set (i := 2) sc_power_letters.nd rfl (by first | exact .inl rfl | exact .inr rfl) (x_fn F_bent (hr.mono (by omega)) (by rfl) (a_v (x_name (pv 0)) a_nil)))
    (ss_one (s_ret (x_op o_add (x_f (x_op o_add (x_f (x_slV (pv 0) p_none (p_some (o_var (pv 2))))) (o_f (x_f (x_op o_mul (x_f (x_slV (pv 0) (p_some (o_var (pv 2))) (p_some (o_f (x_f (x_op o_sub (x_f (x_b1 c_len (by rfl) T.z_len (by decide +kernel) (o_var (pv 0)))) (o_var (pv 2)))))))) (o_var (pv 1))))))) (o_f (x_f (x_slV (pv 0) (p_some (o_f (x_f (x_op o_sub (x_f (x_b1 c_len (by rfl) T.z_len (by decide +kernel) (o_var (pv 0)))) (o_var (pv 2)))))) p_none)))))))))
/-! power -/
def x_power (K : PySem.W.Frag) (c : Cs) : XS :=
  (dSeq (dExpr (dCall (sp_check_any_row c) (dAV (dName 0) dANil)))
    (dSeq (dIfS (dNot (dTru (dF (dCall (sp_is_within c) (dAV (dName 1) (dAV (dF (dUn gNeg (dC (.int 1000)))) (dAV (dC (.int 1000)) dANil)))))))
    (dRaise c.NoNumber)
    dNext)
    (dRet (dCall (sp_power_letters c) (dAV (dF (dCall (sp_net_letters c) (dAV (dName 0) dANil))) (dAV (dName 1) dANil))))))
theorem d_power (T : Txt K mg c) (F_net_letters : Fn P w K mg base 2 "net_letters" (sp_net_letters c)) (F_power_letters : Fn P w K mg base 4 "power_letters" (sp_power_letters c)) (F_is_within : Fn P w K mg base 2 "is_within" (sp_is_within c)) (F_check_any_row : Fn P w K mg base 3 "check_any_row" (sp_check_any_row c)) (f : Addr) (cdv : Value) (A : Around) (outer : List Env) (s : Shared) (H : Hp) (EX : XK) (hr : Room 4 (A.deeper (envOfC "power" (defScope s_power) s.heap.objs.size f cdv))) : PSsX (cxOf (L2.CX P w) P w K mg base N_power "power" (defScope s_power) f cdv A outer s H EX) (defBody s_power) (x_power K c) :=
  (ss_cons (s_expr (x_fn F_check_any_row (hr.mono (by decide)) (by rfl) (a_v (x_name (pv 0)) a_nil)))
    (ss_cons (s_if (t_not (t_tru (o_f (x_f (x_fn F_is_within (hr.mono (by decide)) (by rfl) (a_v (x_name (pv 1)) (a_v (x_f (x_neg (o_f (x_gint (by rfl) T.g_MOST_TIMES.choose_spec)))) (a_v (x_gint (by rfl) T.g_MOST_TIMES.choose_spec) a_nil))))))))
    (ss_one (s_raise rfl T.c_NoNumber (by rfl)))
    ss_nil)
    (ss_one (s_ret (x_fn F_power_letters (hr.mono (by decide)) (by rfl) (a_v (x_f (x_fn F_net_letters (hr.mono (by decide)) (by rfl) (a_v (x_name (pv 0)) a_nil))) (a_v (x_name (pv 1)) a_nil)))))))
/-! earlier -/
def x_earlier (K : PySem.W.Frag) (c : Cs) : XS :=
  (dSeq (dExpr (dCall (sp_check_any_row c) (dAV (dName 0) dANil)))
    (dSeq (dExpr (dCall (sp_check_any_row c) (dAV (dName 1) dANil)))
    (dRet (dOp gLtD (dF (dCall (sp_row_key c) (dAV (dName 0) dANil))) (dF (dCall (sp_row_key c) (dAV (dName 1) dANil)))))))
theorem d_earlier (T : Txt K mg c) (F_row_key : Fn P w K mg base 1 "row_key" (sp_row_key c)) (F_check_any_row : Fn P w K mg base 3 "check_any_row" (sp_check_any_row c)) (f : Addr) (cdv : Value) (A : Around) (outer : List Env) (s : Shared) (H : Hp) (EX : XK) (hr : Room 3 (A.deeper (envOfC "earlier" (defScope s_earlier) s.heap.objs.size f cdv))) : PSsX (cxOf (L2.CX P w) P w K mg base N_earlier "earlier" (defScope s_earlier) f cdv A outer s H EX) (defBody s_earlier) (x_earlier K c) :=
  (ss_cons (s_expr (x_fn F_check_any_row (hr.mono (by decide)) (by rfl) (a_v (x_name (pv 0)) a_nil)))
    (ss_cons (s_expr (x_fn F_check_any_row (hr.mono (by decide)) (by rfl) (a_v (x_name (pv 1)) a_nil)))
    (ss_one (s_ret (x_cmp (o_ltD hr) (x_f (x_fn F_row_key (hr.mono (by decide)) (by rfl) (a_v (x_name (pv 0)) a_nil))) (o_f (x_f (x_fn F_row_key (hr.mono (by decide)) (by rfl) (a_v (x_name (pv 1)) a_nil)))) (nomark _))))))
/-! root -/
def x_root (K : PySem.W.Frag) (c : Cs) : XS :=
  (dSeq (dExpr (dCall (sp_check_any_row c) (dAV (dName 0) dANil)))
    (dSeq (dSet 1 (dCall (sp_net_letters c) (dAV (dName 0) dANil)))
    (dSeq (dIfS (dTest (dOpV gEq 1 (dC (.str (lit "")))))
    (dRaise c.NoRoot)
    dNext)
    (dSeq (dSet 2 (dCall (sp_bent c) (dAV (dName 1) dANil)))
    (dSeq (dSet 3 (dSlV 1 (dPart (oVar 2)) (dPart (dF (dOp gMinus (dF (dUn gLen (oVar 1))) (oVar 2))))))
    (dSeq (dSet 4 (dMt2 gFind3 (dF (dOpV gAdd 3 (oVar 3))) (dName 3) (dC (.int 1))))
    (dRet (dTup (dLCons (dF (dOp gAdd (dF (dOp gAdd (dF (dSlV 1 dNoPart (dPart (oVar 2)))) (dF (dSlV 3 dNoPart (dPart (oVar 4)))))) (dF (dSlV 1 (dPart (dF (dOp gMinus (dF (dUn gLen (oVar 1))) (oVar 2)))) dNoPart)))) (dLCons (dF (dOp gFdv (dF (dUn gLen (oVar 3))) (oVar 4))) dLNil))))))))))
theorem d_root (T : Txt K mg c) (F_bent : Fn P w K mg base 2 "bent" (sp_bent c)) (F_net_letters : Fn P w K mg base 2 "net_letters" (sp_net_letters c)) (F_check_any_row : Fn P w K mg base 3 "check_any_row" (sp_check_any_row c)) (f : Addr) (cdv : Value) (A : Around) (outer : List Env) (s : Shared) (H : Hp) (EX : XK) (hr : Room 3 (A.deeper (envOfC "root" (defScope s_root) s.heap.objs.size f cdv))) : PSsX (cxOf (L2.CX P w) P w K mg base N_root "root" (defScope s_root) f cdv A outer s H EX) (defBody s_root) (x_root K c) :=
  (ss_cons (s_expr (x_fn F_check_any_row (hr.mono (by decide)) (by rfl) (a_v (x_name (pv 0)) a_nil)))
    (ss_cons (s_set (i := 1) sc_root.nd rfl (by first | exact .inl rfl | exact .inr rfl) (x_fn F_net_letters (hr.mono (by decide)) (by rfl) (a_v (x_name (pv 0)) a_nil)))
    (ss_cons (s_if (t_cmV (o_eq hr) (pv 1) (o_f (x_str (okS_of (by decide +kernel)))) (nomark _))
    (ss_one (s_raise rfl T.c_NoRoot (by rfl)))
    ss_nil)
    (ss_cons (s_set (i := 2) sc_root.nd rfl (by first | exact .inl rfl | exact .inr rfl) (x_fn F_bent (hr.mono (by decide)) (by rfl) (a_v (x_name (pv 1)) a_nil)))
    (ss_cons (s_set (i := 3) sc_root.nd rfl (by first | exact .inl rfl | exact .inr rfl) (x_slV (pv 1) (p_some (o_var (pv 2))) (p_some (o_f (x_f (x_op o_sub (x_f (x_b1 c_len (by rfl) T.z_len (by decide +kernel) (o_var (pv 1)))) (o_var (pv 2))))))))
    (ss_cons (s_set (i := 4) sc_root.nd rfl (by first | exact .inl rfl | exact .inr rfl) (x_m2 m_find3 PySem.F.slot_str_find PySem.F.type_str_find (x_f (x_opV o_add (pv 3) (o_var (pv 3)))) (x_name (pv 3)) (o_f x_int)))
    (ss_one (s_ret (x_of (x_tup (l_cons (x_f (x_op o_add (x_f (x_op o_add (x_f (x_slV (pv 1) p_none (p_some (o_var (pv 2))))) (o_f (x_f (x_slV (pv 3) p_none (p_some (o_var (pv 4)))))))) (o_f (x_f (x_slV (pv 1) (p_some (o_f (x_f (x_op o_sub (x_f (x_b1 c_len (by rfl) T.z_len (by decide +kernel) (o_var (pv 1)))) (o_var (pv 2)))))) p_none))))) (l_cons (x_f (x_op o_fdv (x_f (x_b1 c_len (by rfl) T.z_len (by decide +kernel) (o_var (pv 3)))) (o_var (pv 4)))) l_nil))))))))))))
/-! _law_hand -/
def x_law_hand (K : PySem.W.Frag) (c : Cs) : XS :=
  (dSeq (dSet 1 (dLc (iLst (dF (dSlV 0 dNoPart (dPart (dC (.int 63)))))) 2 dYes (dF (dUn gAbs (dF (dUn gInt (oVar 2)))))))
    (dRet (dLst (dLCons (dName 1) (dLCons (dC (.int 0)) (dLCons (dC (.int 0)) (dLCons (dF (dOp gAdd (dC (.int 1)) (dF (dUn gLen (oVar 1))))) (dLCons (dC (.int 0)) dLNil))))))))
theorem d_law_hand (T : Txt K mg c)  (f : Addr) (cdv : Value) (A : Around) (outer : List Env) (s : Shared) (H : Hp) (EX : XK) (hr : Room 0 (A.deeper (envOfC "_law_hand" (defScope s_law_hand) s.heap.objs.size f cdv))) : PSsX (cxOf (L2.CX P w) P w K mg base N_law_hand "_law_hand" (defScope s_law_hand) f cdv A outer s H EX) (defBody s_law_hand) (x_law_hand K c) :=
  (ss_cons (s_setLc (j := 1) rfl sc_law_hand.nd rfl rfl (sw_true rfl rfl rfl (by decide +kernel)) (i_lst (x_f (x_slV (pv 0) p_none (p_some (o_f x_int))))) (blkOk_by (own := [("_law_cell", 2)]) (N := N_law_hand) (sc := defScope s_law_hand) (by decide +kernel)) (fun _ _ _ _ _ => pg_name (i := 2) sc_law_hand.nd rfl (by first | exact .inl rfl | exact .inr rfl)) (fun _ _ _ _ _ => ts_nil) (fun _ _ _ _ _ => (x_f (x_b1 c_abs (by rfl) T.z_abs (by decide +kernel) (o_f (x_f (x_t1 c_int (by rfl) T.z_int (by decide +kernel) (o_var (pv 2)))))))))
    (ss_one (s_ret (x_lst (l_cons (x_name (pv 1)) (l_cons x_int (l_cons x_int (l_cons (x_f (x_op o_add x_int (o_f (x_f (x_b1 c_len (by rfl) T.z_len (by decide +kernel) (o_var (pv 1))))))) (l_cons x_int l_nil)))))))))
/-! _law_draw -/
def x_law_draw (K : PySem.W.Frag) (c : Cs) : XS :=
  (dSeq (dIfJ (dAnd (dTest (dOp gEq (dF (dOpV gIx 0 (dC (.int 2)))) (dC (.int 0)))) (dTest (dOp gLt (dF (dOpV gIx 0 (dC (.int 1)))) (dF (dUn gLen (dF (dOpV gIx 0 (dC (.int 0)))))))))
    (dSeq (dSet 2 (dOp gIx (dF (dOpV gIx 0 (dC (.int 0)))) (dF (dOpV gIx 0 (dC (.int 1))))))
    (dSeq (dPut 0 (dC (.int 1)) (dF (dOp gAdd (dF (dOpV gIx 0 (dC (.int 1)))) (dC (.int 1)))))
    (dSeq (dPut 0 (dC (.int 3)) (dF (dOp gMod (dF (dUn gInt (dF (dOp gAdd (dF (dOp gAdd (dF (dOp gMul (dF (dOpV gIx 0 (dC (.int 3)))) (dC (.int 69621)))) (oVar 2))) (dC (.int 11)))))) (dC (.int 2147483629)))))
    (dIfJ (dTest (dOpV gGe 2 (dF (dOp gPow (dC (.int 10)) (dC (.int 18))))))
    (dPut 0 (dC (.int 2)) (dName 2))
    dNext))))
    dNext)
    (dSeq (dIfS (dTest (dOp gGt (dF (dOpV gIx 0 (dC (.int 2)))) (dC (.int 0))))
    (dSeq (dSet 3 (dOp gMod (dF (dUn gInt (dF (dOpV gIx 0 (dC (.int 2)))))) (oVar 1)))
    (dSeq (dPut 0 (dC (.int 2)) (dF (dOp gFdv (dF (dOpV gIx 0 (dC (.int 2)))) (oVar 1))))
    (dRetV 3)))
    dNext)
    (dSeq (dPut 0 (dC (.int 4)) (dF (dOp gAdd (dF (dOpV gIx 0 (dC (.int 4)))) (dC (.int 1)))))
    (dSeq (dSet 4 (dOp gMod (dF (dUn gInt (dF (dOp gMul (dF (dUn gInt (dF (dOp gAdd (dF (dOpV gIx 0 (dC (.int 3)))) (dF (dOp gMul (dC (.int 7919)) (dF (dOpV gIx 0 (dC (.int 4)))))))))) (dC (.int 48271)))))) (dC (.int 2147483647))))
    (dSeq (dSet 4 (dOp gMod (dF (dUn gInt (dF (dOpV gMul 4 (dF (dOp gAdd (dF (dOpV gFdv 4 (dC (.int 1009)))) (dC (.int 69621)))))))) (dC (.int 2147483647))))
    (dSeq (dSet 4 (dOp gMod (dF (dUn gInt (dF (dOpV gMul 4 (dF (dOp gAdd (dF (dOpV gFdv 4 (dC (.int 2003)))) (dC (.int 40692)))))))) (dC (.int 2147483399))))
    (dRet (dOp gMod (dF (dUn gInt (dF (dOpV gFdv 4 (dC (.int 16)))))) (oVar 1)))))))))
theorem d_law_draw (T : Txt K mg c)  (f : Addr) (cdv : Value) (A : Around) (outer : List Env) (s : Shared) (H : Hp) (EX : XK) (hr : Room 0 (A.deeper (envOfC "_law_draw" (defScope s_law_draw) s.heap.objs.size f cdv))) : PSsX (cxOf (L2.CX P w) P w K mg base N_law_draw "_law_draw" (defScope s_law_draw) f cdv A outer s H EX) (defBody s_law_draw) (x_law_draw K c) :=
  (ss_cons (s_ifJ (t_w (w_and (t_cm (o_eq hr) (x_f (x_ixV (pv 0) (o_f x_int) (fun _ _ => rfl))) (o_f x_int) (nomark _)) (w_and1 (t_cm o_lt (x_f (x_ixV (pv 0) (o_f x_int) (fun _ _ => rfl))) (o_f (x_f (x_b1 c_len (by rfl) T.z_len (by decide +kernel) (o_f (x_f (x_ixV (pv 0) (o_f x_int) (fun _ _ => rfl))))))) (nomark _)))))
    (ss_cons (s_set (i := 2) sc_law_draw.nd rfl (by first | exact .inl rfl | exact .inr rfl) (x_ix (x_f (x_ixV (pv 0) (o_f x_int) (fun _ _ => rfl))) (o_f (x_f (x_ixV (pv 0) (o_f x_int) (fun _ _ => rfl)))) (fun _ _ => rfl)))
    (ss_cons (s_put (x_f (x_op o_add (x_f (x_ixV (pv 0) (o_f x_int) (fun _ _ => rfl))) (o_f x_int))) (pv 0) (o_f x_int) (fun h1 h2 => pg_sub h1 h2 set_list))
    (ss_cons (s_put (x_f (x_op o_mod (x_f (x_t1 c_int (by rfl) T.z_int (by decide +kernel) (o_f (x_f (x_op o_add (x_f (x_op o_add (x_f (x_op o_mul (x_f (x_ixV (pv 0) (o_f x_int) (fun _ _ => rfl))) (o_f x_int))) (o_var (pv 2)))) (o_f x_int)))))) (o_f x_int))) (pv 0) (o_f x_int) (fun h1 h2 => pg_sub h1 h2 set_list))
    (ss_one (s_ifJ (t_cmV o_ge (pv 2) (o_f (x_f (x_op o_pow x_int (o_f x_int)))) (nomark _))
    (ss_one (s_put (x_name (pv 2)) (pv 0) (o_f x_int) (fun h1 h2 => pg_sub h1 h2 set_list)))
    ss_nil)))))
    ss_nil)
    (ss_cons (s_if (t_cm o_gt (x_f (x_ixV (pv 0) (o_f x_int) (fun _ _ => rfl))) (o_f x_int) (nomark _))
    (ss_cons (s_set (i := 3) sc_law_draw.nd rfl (by first | exact .inl rfl | exact .inr rfl) (x_op o_mod (x_f (x_t1 c_int (by rfl) T.z_int (by decide +kernel) (o_f (x_f (x_ixV (pv 0) (o_f x_int) (fun _ _ => rfl)))))) (o_var (pv 1))))
    (ss_cons (s_put (x_f (x_op o_fdv (x_f (x_ixV (pv 0) (o_f x_int) (fun _ _ => rfl))) (o_var (pv 1)))) (pv 0) (o_f x_int) (fun h1 h2 => pg_sub h1 h2 set_list))
    (ss_one (s_retV (pv 3)))))
    ss_nil)
    (ss_cons (s_put (x_f (x_op o_add (x_f (x_ixV (pv 0) (o_f x_int) (fun _ _ => rfl))) (o_f x_int))) (pv 0) (o_f x_int) (fun h1 h2 => pg_sub h1 h2 set_list))
    (ss_cons (s_set (i := 4) sc_law_draw.nd rfl (by first | exact .inl rfl | exact .inr rfl) (x_op o_mod (x_f (x_t1 c_int (by rfl) T.z_int (by decide +kernel) (o_f (x_f (x_op o_mul (x_f (x_t1 c_int (by rfl) T.z_int (by decide +kernel) (o_f (x_f (x_op o_add (x_f (x_ixV (pv 0) (o_f x_int) (fun _ _ => rfl))) (o_f (x_f (x_op o_mul x_int (o_f (x_f (x_ixV (pv 0) (o_f x_int) (fun _ _ => rfl)))))))))))) (o_f x_int)))))) (o_f x_int)))
    (ss_cons (s_set (i := 4) sc_law_draw.nd rfl (by first | exact .inl rfl | exact .inr rfl) (x_op o_mod (x_f (x_t1 c_int (by rfl) T.z_int (by decide +kernel) (o_f (x_f (x_opV o_mul (pv 4) (o_f (x_f (x_op o_add (x_f (x_opV o_fdv (pv 4) (o_f x_int))) (o_f x_int))))))))) (o_f x_int)))
    (ss_cons (s_set (i := 4) sc_law_draw.nd rfl (by first | exact .inl rfl | exact .inr rfl) (x_op o_mod (x_f (x_t1 c_int (by rfl) T.z_int (by decide +kernel) (o_f (x_f (x_opV o_mul (pv 4) (o_f (x_f (x_op o_add (x_f (x_opV o_fdv (pv 4) (o_f x_int))) (o_f x_int))))))))) (o_f x_int)))
    (ss_one (s_ret (x_op o_mod (x_f (x_t1 c_int (by rfl) T.z_int (by decide +kernel) (o_f (x_f (x_opV o_fdv (pv 4) (o_f x_int)))))) (o_var (pv 1)))))))))))
/-! _law_undoing -/
def x_law_undoing (K : PySem.W.Frag) (c : Cs) : XS :=
  (dSeq (dIfS (dTru (dF (dUn (gS1 (fun _ => True) fun s => .bl (isLo s)) (oVar 0))))
    (dRet (dUn (gS1 len5 fun s => .str (s.map up2)) (oVar 0)))
    dNext)
    (dRet (dUn (gS1 len5 fun s => .str (s.map lo2)) (oVar 0))))
theorem d_law_undoing (T : Txt K mg c)  (f : Addr) (cdv : Value) (A : Around) (outer : List Env) (s : Shared) (H : Hp) (EX : XK) (hr : Room 0 (A.deeper (envOfC "_law_undoing" (defScope s_law_undoing) s.heap.objs.size f cdv))) : PSsX (cxOf (L2.CX P w) P w K mg base N_law_undoing "_law_undoing" (defScope s_law_undoing) f cdv A outer s H EX) (defBody s_law_undoing) (x_law_undoing K c) :=
  (ss_cons (s_if (t_tru (o_f (x_f (x_m0 m_islower PySem.F.slot_str_islower PySem.F.type_str_islower (o_var (pv 0))))))
    (ss_one (s_ret (x_m0 m_upper PySem.F.slot_str_upper PySem.F.type_str_upper (o_var (pv 0)))))
    ss_nil)
    (ss_one (s_ret (x_m0 m_lower PySem.F.slot_str_lower PySem.F.type_str_lower (o_var (pv 0))))))
/-! _law_back -/
def x_law_back (K : PySem.W.Frag) (c : Cs) : XS :=
  (dRet (dMt gJoin (dC (.str (lit ""))) (dF (dLc (iSt (dF (dUn gRevS (oVar 0)))) 1 dYes (dF (dCall (sp_law_undoing c) (dAV (dName 1) dANil)))))))
theorem d_law_back (T : Txt K mg c) (F_law_undoing : Fn P w K mg base 1 "_law_undoing" (sp_law_undoing c)) (f : Addr) (cdv : Value) (A : Around) (outer : List Env) (s : Shared) (H : Hp) (EX : XK) (hr : Room 1 (A.deeper (envOfC "_law_back" (defScope s_law_back) s.heap.objs.size f cdv))) : PSsX (cxOf (L2.CX P w) P w K mg base N_law_back "_law_back" (defScope s_law_back) f cdv A outer s H EX) (defBody s_law_back) (x_law_back K c) :=
  (ss_one (s_ret (x_m1 m_join PySem.F.slot_str_join PySem.F.type_str_join (x_str (okS_of (by decide +kernel))) (o_f (x_f (x_lc rfl sc_law_back.nd (i_str (o_f (x_f (x_revS (o_var (pv 0)))))) (blkOk_by (own := [("_law_letter", 1)]) (N := N_law_back) (sc := defScope s_law_back) (by decide +kernel)) (fun _ _ _ _ _ => pg_name (i := 1) sc_law_back.nd rfl (by first | exact .inl rfl | exact .inr rfl)) (fun _ _ _ _ _ => ts_nil) (fun _ _ _ _ _ => (x_f (x_fn F_law_undoing (hr.mono (by decide)) (by rfl) (a_v (x_name (pv 1)) a_nil))))))))))
/-! _law_net -/
def x_law_net (K : PySem.W.Frag) (c : Cs) : XS :=
  (dSeq (dSet 1 (dLst dLNil))
    (dSeq (dFor (iSt (oVar 0)) (kName 2)
    (dIfJ (dAnd (dTest (dOp gGt (dF (dUn gLen (oVar 1))) (dC (.int 0)))) (dTest (dOp gEq (dF (dOpV gIx 1 (dF (dUn gNeg (dC (.int 1)))))) (dF (dCall (sp_law_undoing c) (dAV (dName 2) dANil))))))
    (dExpr (dPop 1))
    (dExpr (dAppend 1 (dName 2)))))
    (dRet (dMt gJoin (dC (.str (lit ""))) (oVar 1)))))
theorem d_law_net (T : Txt K mg c) (F_law_undoing : Fn P w K mg base 1 "_law_undoing" (sp_law_undoing c)) (f : Addr) (cdv : Value) (A : Around) (outer : List Env) (s : Shared) (H : Hp) (EX : XK) (hr : Room 1 (A.deeper (envOfC "_law_net" (defScope s_law_net) s.heap.objs.size f cdv))) : PSsX (cxOf (L2.CX P w) P w K mg base N_law_net "_law_net" (defScope s_law_net) f cdv A outer s H EX) (defBody s_law_net) (x_law_net K c) :=
  (ss_cons (s_set (i := 1) sc_law_net.nd rfl (by first | exact .inl rfl | exact .inr rfl) (x_lst l_nil))
    (ss_cons (s_for rfl (i_str (o_var (pv 0))) (g_name (i := 2) sc_law_net.nd rfl (by first | exact .inl rfl | exact .inr rfl))
    (ss_one (s_ifJ (t_w (w_and (t_cm o_gt (x_f (x_b1 c_len (by rfl) T.z_len (by decide +kernel) (o_var (pv 1)))) (o_f x_int) (nomark _)) (w_and1 (t_cm (o_eq hr) (x_f (x_ixV (pv 1) (o_f (x_f (x_neg (o_f x_int)))) (fun _ _ => rfl))) (o_f (x_f (x_fn F_law_undoing (hr.mono (by decide)) (by rfl) (a_v (x_name (pv 2)) a_nil)))) (nomark _)))))
    (ss_one (s_expr (x_of (x_pop (pv 1)))))
    (ss_one (s_expr (x_of (x_append (pv 1) (x_name (pv 2)))))))))
    (ss_one (s_ret (x_m1 m_join PySem.F.slot_str_join PySem.F.type_str_join (x_str (okS_of (by decide +kernel))) (o_var (pv 1)))))))
/-! _law_deeds -/
def x_law_deeds (K : PySem.W.Frag) (c : Cs) : XS :=
  (dSeq (dSet 2 (dOp gAdd (dC (.int 1)) (dF (dCall (sp_law_draw c) (dAB 0 (dAV (dName 1) dANil))))))
    (dSeq (dSet 3 (dC (.str (lit ""))))
    (dSeq (dSet 4 (dC (.str (lit "abcdefghijklmnopqrstuvwxyz"))))
    (dSeq (dFor (iRn (oVar 2)) (kName 5)
    (dSeq (dSet 6 (dCall (sp_law_draw c) (dAB 0 (dAV (dF (dOp gMinus (dF (dUn gLen (oVar 4))) (dF (dOp gMinus (dF (dOpV gMinus 2 (oVar 5))) (dC (.int 1)))))) dANil))))
    (dSeq (dSet 3 (dOpV gAdd 3 (dF (dOpV gIx 4 (oVar 6)))))
    (dSet 4 (dSlV 4 (dPart (dF (dOpV gAdd 6 (dC (.int 1))))) dNoPart)))))
    (dRetV 3)))))
theorem d_law_deeds (T : Txt K mg c) (F_law_draw : Fn P w K mg base 1 "_law_draw" (sp_law_draw c)) (f : Addr) (cdv : Value) (A : Around) (outer : List Env) (s : Shared) (H : Hp) (EX : XK) (hr : Room 1 (A.deeper (envOfC "_law_deeds" (defScope s_law_deeds) s.heap.objs.size f cdv))) : PSsX (cxOf (L2.CX P w) P w K mg base N_law_deeds "_law_deeds" (defScope s_law_deeds) f cdv A outer s H EX) (defBody s_law_deeds) (x_law_deeds K c) :=
  (ss_cons (s_set (i := 2) sc_law_deeds.nd rfl (by first | exact .inl rfl | exact .inr rfl) (x_op o_add x_int (o_f (x_f (x_fn F_law_draw (hr.mono (by decide)) (by rfl) (a_b (pv 0) (a_v (x_name (pv 1)) a_nil)))))))
    (ss_cons (s_set (i := 3) sc_law_deeds.nd rfl (by first | exact .inl rfl | exact .inr rfl) (x_of (x_str (okS_of (by decide +kernel)))))
    (ss_cons (s_set (i := 4) sc_law_deeds.nd rfl (by first | exact .inl rfl | exact .inr rfl) (x_of (x_str (okS_of (by decide +kernel)))))
    (ss_cons (s_for rfl (i_rng1 (o_var (pv 2)) (fun h => pi_range1 (by rfl) T.z_range h)) (g_name (i := 5) sc_law_deeds.nd rfl (by first | exact .inl rfl | exact .inr rfl))
    (ss_cons (s_set (i := 6) sc_law_deeds.nd rfl (by first | exact .inl rfl | exact .inr rfl) (x_fn F_law_draw (hr.mono (by decide)) (by rfl) (a_b (pv 0) (a_v (x_f (x_op o_sub (x_f (x_b1 c_len (by rfl) T.z_len (by decide +kernel) (o_var (pv 4)))) (o_f (x_f (x_op o_sub (x_f (x_opV o_sub (pv 2) (o_var (pv 5)))) (o_f x_int)))))) a_nil))))
    (ss_cons (s_set (i := 3) sc_law_deeds.nd rfl (by first | exact .inl rfl | exact .inr rfl) (x_opV o_add (pv 3) (o_f (x_f (x_ixV (pv 4) (o_var (pv 6)) (fun _ _ => rfl))))))
    (ss_one (s_set (i := 4) sc_law_deeds.nd rfl (by first | exact .inl rfl | exact .inr rfl) (x_slV (pv 4) (p_some (o_f (x_f (x_opV o_add (pv 6) (o_f x_int))))) p_none))))))
    (ss_one (s_retV (pv 3)))))))
/-! _law_row -/
def x_law_row (K : PySem.W.Frag) (c : Cs) : XS :=
  (dSeq (dSet 3 (dOpV gAdd 1 (dF (dUn (gS1 len5 fun s => .str (s.map up2)) (oVar 1)))))
    (dRet (dMt gJoin (dC (.str (lit ""))) (dF (dLc (iRn (oVar 2)) 4 dYes (dF (dOpV gIx 3 (dF (dCall (sp_law_draw c) (dAB 0 (dAV (dF (dUn gLen (oVar 3))) dANil)))))))))))
theorem d_law_row (T : Txt K mg c) (F_law_draw : Fn P w K mg base 1 "_law_draw" (sp_law_draw c)) (f : Addr) (cdv : Value) (A : Around) (outer : List Env) (s : Shared) (H : Hp) (EX : XK) (hr : Room 1 (A.deeper (envOfC "_law_row" (defScope s_law_row) s.heap.objs.size f cdv))) : PSsX (cxOf (L2.CX P w) P w K mg base N_law_row "_law_row" (defScope s_law_row) f cdv A outer s H EX) (defBody s_law_row) (x_law_row K c) :=
  (ss_cons (s_set (i := 3) sc_law_row.nd rfl (by first | exact .inl rfl | exact .inr rfl) (x_opV o_add (pv 1) (o_f (x_f (x_m0 m_upper PySem.F.slot_str_upper PySem.F.type_str_upper (o_var (pv 1)))))))
    (ss_one (s_ret (x_m1 m_join PySem.F.slot_str_join PySem.F.type_str_join (x_str (okS_of (by decide +kernel))) (o_f (x_f (x_lc rfl sc_law_row.nd (i_rng1 (o_var (pv 2)) (fun h => pi_range1 (by rfl) T.z_range h)) (blkOk_by (own := [("_law_turn", 4)]) (N := N_law_row) (sc := defScope s_law_row) (by decide +kernel)) (fun _ _ _ _ _ => pg_name (i := 4) sc_law_row.nd rfl (by first | exact .inl rfl | exact .inr rfl)) (fun _ _ _ _ _ => ts_nil) (fun _ _ _ _ _ => (x_f (x_ixV (pv 3) (o_f (x_f (x_fn F_law_draw (hr.mono (by decide)) (by rfl) (a_b (pv 0) (a_v (x_f (x_b1 c_len (by rfl) T.z_len (by decide +kernel) (o_var (pv 3)))) a_nil))))) (fun _ _ => rfl)))))))))))
/-! _law_root -/
def x_law_root (K : PySem.W.Frag) (c : Cs) : XS :=
  (dSeq (dSet 1 (dC (.int 0)))
    (dSeq (dWhile (dAnd (dTest (dOp gLt (dF (dOp gAdd (dF (dOp gMul (dC (.int 2)) (oVar 1))) (dC (.int 1)))) (dF (dUn gLen (oVar 0))))) (dTest (dOp gEq (dF (dOpV gIx 0 (oVar 1))) (dF (dCall (sp_law_undoing c) (dAV (dF (dOpV gIx 0 (dF (dOp gMinus (dF (dOp gMinus (dF (dUn gLen (oVar 0))) (dC (.int 1)))) (oVar 1))))) dANil))))))
    (dSet 1 (dOpV gAdd 1 (dC (.int 1)))))
    (dSeq (dSet 2 (dOp gMinus (dF (dUn gLen (oVar 0))) (dF (dOp gMul (dC (.int 2)) (oVar 1)))))
    (dSeq (dFor (iRnD (dName 2) (dC (.int 0)) (dF (dUn gNeg (dC (.int 1))))) (kName 3)
    (dIfJ (dTest (dOp gEq (dF (dOp gMod (dF (dUn gInt (oVar 2))) (oVar 3))) (dC (.int 0))))
    (dSeq (dSet 4 (dOp gAdd (dF (dSlV 0 dNoPart (dPart (dF (dOpV gAdd 1 (dF (dOpV gFdv 2 (oVar 3)))))))) (dF (dSlV 0 (dPart (dF (dOp gMinus (dF (dUn gLen (oVar 0))) (oVar 1)))) dNoPart))))
    (dIfS (dTest (dOp gEq (dF (dCall (sp_law_net c) (dAV (dF (dOpV gMul 4 (oVar 3))) dANil))) (oVar 0)))
    (dRet (dTup (dLCons (dName 4) (dLCons (dName 3) dLNil))))
    dNext))
    dNext))
    (dRet (dC .non))))))
theorem d_law_root (T : Txt K mg c) (F_law_net : Fn P w K mg base 2 "_law_net" (sp_law_net c)) (F_law_undoing : Fn P w K mg base 1 "_law_undoing" (sp_law_undoing c)) (f : Addr) (cdv : Value) (A : Around) (outer : List Env) (s : Shared) (H : Hp) (EX : XK) (hr : Room 2 (A.deeper (envOfC "_law_root" (defScope s_law_root) s.heap.objs.size f cdv))) : PSsX (cxOf (L2.CX P w) P w K mg base N_law_root "_law_root" (defScope s_law_root) f cdv A outer s H EX) (defBody s_law_root) (x_law_root K c) :=
  (ss_cons (s_set (i := 1) sc_law_root.nd rfl (by first | exact .inl rfl | exact .inr rfl) (x_of x_int))
    (ss_cons (s_while (t_w (w_and (t_cm o_lt (x_f (x_op o_add (x_f (x_op o_mul x_int (o_var (pv 1)))) (o_f x_int))) (o_f (x_f (x_b1 c_len (by rfl) T.z_len (by decide +kernel) (o_var (pv 0))))) (nomark _)) (w_and1 (t_cm (o_eq hr) (x_f (x_ixV (pv 0) (o_var (pv 1)) (fun _ _ => rfl))) (o_f (x_f (x_fn F_law_undoing (hr.mono (by decide)) (by rfl) (a_v (x_f (x_ixV (pv 0) (o_f (x_f (x_op o_sub (x_f (x_op o_sub (x_f (x_b1 c_len (by rfl) T.z_len (by decide +kernel) (o_var (pv 0)))) (o_f x_int))) (o_var (pv 1))))) (fun _ _ => rfl))) a_nil)))) (nomark _)))))
    (ss_one (s_set (i := 1) sc_law_root.nd rfl (by first | exact .inl rfl | exact .inr rfl) (x_opV o_add (pv 1) (o_f x_int)))))
    (ss_cons (s_set (i := 2) sc_law_root.nd rfl (by first | exact .inl rfl | exact .inr rfl) (x_op o_sub (x_f (x_b1 c_len (by rfl) T.z_len (by decide +kernel) (o_var (pv 0)))) (o_f (x_f (x_op o_mul x_int (o_var (pv 1)))))))
    (ss_cons (s_for rfl (i_rngD (x_name (pv 2)) x_int (o_f (x_f (x_neg (o_f x_int)))) (fun h => pi_range3 (by rfl) T.z_range h)) (g_name (i := 3) sc_law_root.nd rfl (by first | exact .inl rfl | exact .inr rfl))
    (ss_one (s_ifJ (t_cm (o_eq hr) (x_f (x_op o_mod (x_f (x_t1 c_int (by rfl) T.z_int (by decide +kernel) (o_var (pv 2)))) (o_var (pv 3)))) (o_f x_int) (nomark _))
    (ss_cons (s_set (i := 4) sc_law_root.nd rfl (by first | exact .inl rfl | exact .inr rfl) (x_op o_add (x_f (x_slV (pv 0) p_none (p_some (o_f (x_f (x_opV o_add (pv 1) (o_f (x_f (x_opV o_fdv (pv 2) (o_var (pv 3))))))))))) (o_f (x_f (x_slV (pv 0) (p_some (o_f (x_f (x_op o_sub (x_f (x_b1 c_len (by rfl) T.z_len (by decide +kernel) (o_var (pv 0)))) (o_var (pv 1)))))) p_none)))))
    (ss_one (s_if (t_cm (o_eq hr) (x_f (x_fn F_law_net (hr.mono (by decide)) (by rfl) (a_v (x_f (x_opV o_mul (pv 4) (o_var (pv 3)))) a_nil))) (o_var (pv 0)) (nomark _))
    (ss_one (s_ret (x_of (x_tup (l_cons (x_name (pv 4)) (l_cons (x_name (pv 3)) l_nil))))))
    ss_nil)))
    ss_nil)))
    (ss_one (s_ret (x_of x_non)))))))
/-! _law_is_earlier -/
def x_law_is_earlier (K : PySem.W.Frag) (c : Cs) : XS :=
  (dSeq (dIfS (dTest (dOp gNe (dF (dUn gLen (oVar 0))) (dF (dUn gLen (oVar 1)))))
    (dRet (dOp gLt (dF (dUn gLen (oVar 0))) (dF (dUn gLen (oVar 1)))))
    dNext)
    (dSeq (dSet 2 (dC (.str (lit "aAbBcCdDeEfFgGhHiIjJkKlLmMnNoOpPqQrRsStTuUvVwWxXyYzZ"))))
    (dSeq (dFor (iRn (dF (dUn gLen (oVar 0)))) (kName 3)
    (dIfS (dTest (dOp gNe (dF (dOpV gIx 0 (oVar 3))) (dF (dOpV gIx 1 (oVar 3)))))
    (dRet (dOp gLt (dF (dMt gFind (dName 2) (dF (dOpV gIx 0 (oVar 3))))) (dF (dMt gFind (dName 2) (dF (dOpV gIx 1 (oVar 3)))))))
    dNext))
    (dRet (dC (.bl false))))))
theorem d_law_is_earlier (T : Txt K mg c)  (f : Addr) (cdv : Value) (A : Around) (outer : List Env) (s : Shared) (H : Hp) (EX : XK) (hr : Room 0 (A.deeper (envOfC "_law_is_earlier" (defScope s_law_is_earlier) s.heap.objs.size f cdv))) : PSsX (cxOf (L2.CX P w) P w K mg base N_law_is_earlier "_law_is_earlier" (defScope s_law_is_earlier) f cdv A outer s H EX) (defBody s_law_is_earlier) (x_law_is_earlier K c) :=
  (ss_cons (s_if (t_cm (o_ne hr) (x_f (x_b1 c_len (by rfl) T.z_len (by decide +kernel) (o_var (pv 0)))) (o_f (x_f (x_b1 c_len (by rfl) T.z_len (by decide +kernel) (o_var (pv 1))))) (nomark _))
    (ss_one (s_ret (x_cmp o_lt (x_f (x_b1 c_len (by rfl) T.z_len (by decide +kernel) (o_var (pv 0)))) (o_f (x_f (x_b1 c_len (by rfl) T.z_len (by decide +kernel) (o_var (pv 1))))) (nomark _))))
    ss_nil)
    (ss_cons (s_set (i := 2) sc_law_is_earlier.nd rfl (by first | exact .inl rfl | exact .inr rfl) (x_of (x_str (okS_of (by decide +kernel)))))
    (ss_cons (s_for rfl (i_rng1 (o_f (x_f (x_b1 c_len (by rfl) T.z_len (by decide +kernel) (o_var (pv 0))))) (fun h => pi_range1 (by rfl) T.z_range h)) (g_name (i := 3) sc_law_is_earlier.nd rfl (by first | exact .inl rfl | exact .inr rfl))
    (ss_one (s_if (t_cm (o_ne hr) (x_f (x_ixV (pv 0) (o_var (pv 3)) (fun _ _ => rfl))) (o_f (x_f (x_ixV (pv 1) (o_var (pv 3)) (fun _ _ => rfl)))) (nomark _))
    (ss_one (s_ret (x_cmp o_lt (x_f (x_m1 m_find PySem.F.slot_str_find PySem.F.type_str_find (x_name (pv 2)) (o_f (x_f (x_ixV (pv 0) (o_var (pv 3)) (fun _ _ => rfl)))))) (o_f (x_f (x_m1 m_find PySem.F.slot_str_find PySem.F.type_str_find (x_name (pv 2)) (o_f (x_f (x_ixV (pv 1) (o_var (pv 3)) (fun _ _ => rfl))))))) (nomark _))))
    ss_nil)))
    (ss_one (s_ret (x_of x_bl))))))
/-! _law_asked -/
def x_law_asked (K : PySem.W.Frag) (c : Cs) : XS :=
  (dSeq (dSet 1 (dC .non))
    (dSeq (dTry K (dSet 1 (dCall (sp_root c) (dAV (dName 0) dANil))) (⟨.ref c.NoRoot, none, fun _ => (dSet 1 (dC (.str (lit "none"))))⟩ :: []))
    (dRetV 1)))
theorem d_law_asked (T : Txt K mg c) (F_root : Fn P w K mg base 4 "root" (sp_root c)) (f : Addr) (cdv : Value) (A : Around) (outer : List Env) (s : Shared) (H : Hp) (EX : XK) (hr : Room 4 (A.deeper (envOfC "_law_asked" (defScope s_law_asked) s.heap.objs.size f cdv))) : PSsX (cxOf (L2.CX P w) P w K mg base N_law_asked "_law_asked" (defScope s_law_asked) f cdv A outer s H EX) (defBody s_law_asked) (x_law_asked K c) :=
  (ss_cons (s_set (i := 1) sc_law_asked.nd rfl (by first | exact .inl rfl | exact .inr rfl) (x_of x_non))
    (ss_cons (s_try rfl rfl sc_law_asked.nd (fun pn xe => (ss_one (s_set (i := 1) sc_law_asked.nd rfl (by first | exact .inl rfl | exact .inr rfl) (x_fn F_root (hr.mono (by decide)) (by rfl) (a_v (x_name (pv 0)) a_nil))))) (.anon ⟨by rfl, by decide, .inl T.c_NoRoot.gC⟩ (fun a_x oe pn => (ss_one (s_set (i := 1) sc_law_asked.nd rfl (by first | exact .inl rfl | exact .inr rfl) (x_of (x_str (okS_of (by decide +kernel))))))) .nil))
    (ss_one (s_retV (pv 1)))))
/-! _law_roots_right -/
def x_law_roots_right (K : PySem.W.Frag) (c : Cs) : XS :=
  (dSeq (dSet 2 (dCall (sp_law_row c) (dAB 0 (dAV (dName 1) (dAV (dF (dOp gAdd (dC (.int 1)) (dF (dCall (sp_law_draw c) (dAB 0 (dAV (dC (.int 4)) dANil)))))) dANil)))))
    (dSeq (dSet 3 (dCall (sp_law_row c) (dAB 0 (dAV (dName 1) (dAV (dF (dCall (sp_law_draw c) (dAB 0 (dAV (dC (.int 4)) dANil)))) dANil)))))
    (dSeq (dSet 4 (dOp gAdd (dF (dOpV gAdd 3 (dF (dOpV gMul 2 (dF (dOp gAdd (dC (.int 1)) (dF (dCall (sp_law_draw c) (dAB 0 (dAV (dC (.int 13)) dANil)))))))))) (dF (dCall (sp_law_back c) (dAV (dName 3) dANil)))))
    (dSeq (dSet 5 (dCall (sp_law_draw c) (dAB 0 (dAV (dC (.int 6)) dANil))))
    (dSeq (dIfJ (dTest (dOpV gLt 5 (dC (.int 2))))
    (dSet 4 (dCall (sp_law_row c) (dAB 0 (dAV (dName 1) (dAV (dF (dCall (sp_law_draw c) (dAB 0 (dAV (dC (.int 30)) dANil)))) dANil)))))
    dNext)
    (dSeq (dIfJ (dTest (dOpV gEq 5 (dC (.int 2))))
    (dSeq (dSet 2 (dCall (sp_law_row c) (dAB 0 (dAV (dName 1) (dAV (dF (dOp gAdd (dC (.int 1)) (dF (dCall (sp_law_draw c) (dAB 0 (dAV (dC (.int 9)) dANil)))))) dANil)))))
    (dSet 4 (dOp gAdd (dF (dOpV gAdd 3 (dF (dOpV gMul 2 (dF (dOp gFdv (dF (dOp gMinus (dC (.int 200)) (dF (dOp gMul (dC (.int 2)) (dF (dUn gLen (oVar 3))))))) (dF (dUn gLen (oVar 2))))))))) (dF (dCall (sp_law_back c) (dAV (dName 3) dANil))))))
    dNext)
    (dSeq (dSet 6 (dCall (sp_law_net c) (dAV (dName 4) dANil)))
    (dSeq (dSet 7 (dCall (sp_law_asked c) (dAV (dName 4) dANil)))
    (dSeq (dIfS (dTest (dOpV gEq 6 (dC (.str (lit "")))))
    (dRet (dOpV gEq 7 (dC (.str (lit "none")))))
    dNext)
    (dSeq (dIfS (dOr (dNot (dTru (dF (dOpV gIsi 7 (dC (.ty "tuple")))))) (dOr (dTest (dOpV gNe 7 (dF (dCall (sp_law_root c) (dAV (dName 6) dANil))))) (dTru (dF (dOp gIsi (dF (dOpV gIx 7 (dC (.int 1)))) (dC (.ty "bool")))))))
    (dRet (dC (.bl false)))
    dNext)
    (dRet (dAndV (dOp gEq (dF (dCall (sp_power c) (dAV (dF (dOpV gIx 7 (dC (.int 0)))) (dAV (dF (dOpV gIx 7 (dC (.int 1)))) dANil)))) (oVar 6)) (dAndV (dOp gEq (dF (dCall (sp_net c) (dAV (dF (dOpV gIx 7 (dC (.int 0)))) dANil))) (dF (dOpV gIx 7 (dC (.int 0))))) (dOp gEq (dF (dCall (sp_root c) (dAV (dF (dOpV gIx 7 (dC (.int 0)))) dANil))) (dTup (dLCons (dF (dOpV gIx 7 (dC (.int 0)))) (dLCons (dC (.int 1)) dLNil)))))))))))))))))
theorem d_law_roots_right (T : Txt K mg c) (F_root : Fn P w K mg base 4 "root" (sp_root c)) (F_net : Fn P w K mg base 4 "net" (sp_net c)) (F_power : Fn P w K mg base 5 "power" (sp_power c)) (F_law_root : Fn P w K mg base 3 "_law_root" (sp_law_root c)) (F_law_asked : Fn P w K mg base 5 "_law_asked" (sp_law_asked c)) (F_law_net : Fn P w K mg base 2 "_law_net" (sp_law_net c)) (F_law_back : Fn P w K mg base 2 "_law_back" (sp_law_back c)) (F_law_draw : Fn P w K mg base 1 "_law_draw" (sp_law_draw c)) (F_law_row : Fn P w K mg base 2 "_law_row" (sp_law_row c)) (f : Addr) (cdv : Value) (A : Around) (outer : List Env) (s : Shared) (H : Hp) (EX : XK) (hr : Room 5 (A.deeper (envOfC "_law_roots_right" (defScope s_law_roots_right) s.heap.objs.size f cdv))) : PSsX (cxOf (L2.CX P w) P w K mg base N_law_roots_right "_law_roots_right" (defScope s_law_roots_right) f cdv A outer s H EX) (defBody s_law_roots_right) (x_law_roots_right K c) :=
  (ss_cons (s_set (i := 2) sc_law_roots_right.nd rfl (by first | exact .inl rfl | exact .inr rfl) (x_fn F_law_row (hr.mono (by decide)) (by rfl) (a_b (pv 0) (a_v (x_name (pv 1)) (a_v (x_f (x_op o_add x_int (o_f (x_f (x_fn F_law_draw (hr.mono (by decide)) (by rfl) (a_b (pv 0) (a_v x_int a_nil))))))) a_nil)))))
    (ss_cons (s_set (i := 3) sc_law_roots_right.nd rfl (by first | exact .inl rfl | exact .inr rfl) (x_fn F_law_row (hr.mono (by decide)) (by rfl) (a_b (pv 0) (a_v (x_name (pv 1)) (a_v (x_f (x_fn F_law_draw (hr.mono (by decide)) (by rfl) (a_b (pv 0) (a_v x_int a_nil)))) a_nil)))))
    (ss_cons (s_set (i := 4) sc_law_roots_right.nd rfl (by first | exact .inl rfl | exact .inr rfl) (x_op o_add (x_f (x_opV o_add (pv 3) (o_f (x_f (x_opV o_mul (pv 2) (o_f (x_f (x_op o_add x_int (o_f (x_f (x_fn F_law_draw (hr.mono (by decide)) (by rfl) (a_b (pv 0) (a_v x_int a_nil))))))))))))) (o_f (x_f (x_fn F_law_back (hr.mono (by decide)) (by rfl) (a_v (x_name (pv 3)) a_nil))))))
    (ss_cons (s_set (i := 5) sc_law_roots_right.nd rfl (by first | exact .inl rfl | exact .inr rfl) (x_fn F_law_draw (hr.mono (by decide)) (by rfl) (a_b (pv 0) (a_v x_int a_nil))))
    (ss_cons (s_ifJ (t_cmV o_lt (pv 5) (o_f x_int) (nomark _))
    (ss_one (s_set (i := 4) sc_law_roots_right.nd rfl (by first | exact .inl rfl | exact .inr rfl) (x_fn F_law_row (hr.mono (by decide)) (by rfl) (a_b (pv 0) (a_v (x_name (pv 1)) (a_v (x_f (x_fn F_law_draw (hr.mono (by decide)) (by rfl) (a_b (pv 0) (a_v x_int a_nil)))) a_nil))))))
    ss_nil)
    (ss_cons (s_ifJ (t_cmV (o_eq hr) (pv 5) (o_f x_int) (nomark _))
    (ss_cons (s_set (i := 2) sc_law_roots_right.nd rfl (by first | exact .inl rfl | exact .inr rfl) (x_fn F_law_row (hr.mono (by decide)) (by rfl) (a_b (pv 0) (a_v (x_name (pv 1)) (a_v (x_f (x_op o_add x_int (o_f (x_f (x_fn F_law_draw (hr.mono (by decide)) (by rfl) (a_b (pv 0) (a_v x_int a_nil))))))) a_nil)))))
    (ss_one (s_set (i := 4) sc_law_roots_right.nd rfl (by first | exact .inl rfl | exact .inr rfl) (x_op o_add (x_f (x_opV o_add (pv 3) (o_f (x_f (x_opV o_mul (pv 2) (o_f (x_f (x_op o_fdv (x_f (x_op o_sub x_int (o_f (x_f (x_op o_mul x_int (o_f (x_f (x_b1 c_len (by rfl) T.z_len (by decide +kernel) (o_var (pv 3)))))))))) (o_f (x_f (x_b1 c_len (by rfl) T.z_len (by decide +kernel) (o_var (pv 2))))))))))))) (o_f (x_f (x_fn F_law_back (hr.mono (by decide)) (by rfl) (a_v (x_name (pv 3)) a_nil))))))))
    ss_nil)
    (ss_cons (s_set (i := 6) sc_law_roots_right.nd rfl (by first | exact .inl rfl | exact .inr rfl) (x_fn F_law_net (hr.mono (by decide)) (by rfl) (a_v (x_name (pv 4)) a_nil)))
    (ss_cons (s_set (i := 7) sc_law_roots_right.nd rfl (by first | exact .inl rfl | exact .inr rfl) (x_fn F_law_asked (hr.mono (by decide)) (by rfl) (a_v (x_name (pv 4)) a_nil)))
    (ss_cons (s_if (t_cmV (o_eq hr) (pv 6) (o_f (x_str (okS_of (by decide +kernel)))) (nomark _))
    (ss_one (s_ret (x_cmpV (o_eq hr) (pv 7) (o_f (x_str (okS_of (by decide +kernel)))) (nomark _))))
    ss_nil)
    (ss_cons (s_if (t_w (w_or (t_not (t_tru (o_f (x_f (x_b2V c_isi (by rfl) T.z_isinstance (by decide +kernel) (pv 7) (o_f (x_gty (by rfl) T.z_tuple (by decide +kernel)))))))) (w_or (t_cmV (o_ne hr) (pv 7) (o_f (x_f (x_fn F_law_root (hr.mono (by decide)) (by rfl) (a_v (x_name (pv 6)) a_nil)))) (nomark _)) (w_or1 (t_tru (o_f (x_f (x_b2 c_isi (by rfl) T.z_isinstance (by decide +kernel) (x_f (x_ixV (pv 7) (o_f x_int) (fun _ _ => rfl))) (o_f (x_gty (by rfl) T.z_bool (by decide +kernel)))))))))))
    (ss_one (s_ret (x_of x_bl)))
    ss_nil)
    (ss_one (s_ret (x_and (x_cmp (o_eq hr) (x_f (x_fn F_power (hr.mono (by decide)) (by rfl) (a_v (x_f (x_ixV (pv 7) (o_f x_int) (fun _ _ => rfl))) (a_v (x_f (x_ixV (pv 7) (o_f x_int) (fun _ _ => rfl))) a_nil)))) (o_var (pv 6)) (nomark _)) (x_and (x_cmp (o_eq hr) (x_f (x_fn F_net (hr.mono (by decide)) (by rfl) (a_v (x_f (x_ixV (pv 7) (o_f x_int) (fun _ _ => rfl))) a_nil))) (o_f (x_f (x_ixV (pv 7) (o_f x_int) (fun _ _ => rfl)))) (nomark _)) (x_one (x_cmp (o_eq hr) (x_f (x_fn F_root (hr.mono (by decide)) (by rfl) (a_v (x_f (x_ixV (pv 7) (o_f x_int) (fun _ _ => rfl))) a_nil))) (o_f (x_tup (l_cons (x_f (x_ixV (pv 7) (o_f x_int) (fun _ _ => rfl))) (l_cons x_int l_nil)))) (nomark _)))))))))))))))))
/-! law -/
def x_law (K : PySem.W.Frag) (c : Cs) : XS :=
  (dSeq (dSet 1 (dCall (sp_law_hand c) (dAV (dName 0) dANil)))
    (dSeq (dSet 2 (dCall (sp_law_deeds c) (dAB 1 (dAV (dC (.int 3)) dANil))))
    (dSeq (dFor (iRn (dC (.int 3))) (kName 3)
    (dIfS (dNot (dTru (dF (dCall (sp_law_roots_right c) (dAB 1 (dAV (dName 2) dANil))))))
    (dRet (dC (.bl false)))
    dNext))
    (dSeq (dSet 4 (dCall (sp_law_row c) (dAB 1 (dAV (dName 2) (dAV (dF (dCall (sp_law_draw c) (dAB 1 (dAV (dC (.int 4)) dANil)))) dANil)))))
    (dSeq (dSet 5 (dLc (iRn (dC (.int 6))) 3 dYes (dF (dOpV gAdd 4 (dF (dCall (sp_law_row c) (dAB 1 (dAV (dName 2) (dAV (dF (dCall (sp_law_draw c) (dAB 1 (dAV (dC (.int 3)) dANil)))) dANil)))))))))
    (dSeq (dFor (iLst (dName 5)) (kName 6)
    (dFor (iLst (dName 5)) (kName 7)
    (dSeq (dSet 8 (dCall (sp_earlier c) (dAV (dName 6) (dAV (dName 7) dANil))))
    (dIfS (dOr (dNot (dTru (dF (dOpV gIsi 8 (dC (.ty "bool")))))) (dTest (dOpV gNe 8 (dF (dCall (sp_law_is_earlier c) (dAV (dName 6) (dAV (dName 7) dANil)))))))
    (dRet (dC (.bl false)))
    dNext))))
    (dRet (dOp gEq (dF (dCall (sp_root c) (dAV (dC (.str (lit "a"))) dANil))) (dTup (dLCons (dC (.str (lit "a"))) (dLCons (dC (.int 1)) dLNil)))))))))))
theorem d_law (T : Txt K mg c) (F_root : Fn P w K mg base 4 "root" (sp_root c)) (F_law_is_earlier : Fn P w K mg base 1 "_law_is_earlier" (sp_law_is_earlier c)) (F_earlier : Fn P w K mg base 4 "earlier" (sp_earlier c)) (F_law_draw : Fn P w K mg base 1 "_law_draw" (sp_law_draw c)) (F_law_row : Fn P w K mg base 2 "_law_row" (sp_law_row c)) (F_law_roots_right : Fn P w K mg base 6 "_law_roots_right" (sp_law_roots_right c)) (F_law_deeds : Fn P w K mg base 2 "_law_deeds" (sp_law_deeds c)) (F_law_hand : Fn P w K mg base 1 "_law_hand" (sp_law_hand c)) (f : Addr) (cdv : Value) (A : Around) (outer : List Env) (s : Shared) (H : Hp) (EX : XK) (hr : Room 6 (A.deeper (envOfC "law" (defScope s_law) s.heap.objs.size f cdv))) : PSsX (cxOf (L2.CX P w) P w K mg base N_law "law" (defScope s_law) f cdv A outer s H EX) (defBody s_law) (x_law K c) :=
  (ss_cons (s_set (i := 1) sc_law.nd rfl (by first | exact .inl rfl | exact .inr rfl) (x_fn F_law_hand (hr.mono (by decide)) (by rfl) (a_v (x_name (pv 0)) a_nil)))
    (ss_cons (s_set (i := 2) sc_law.nd rfl (by first | exact .inl rfl | exact .inr rfl) (x_fn F_law_deeds (hr.mono (by decide)) (by rfl) (a_b (pv 1) (a_v x_int a_nil))))
    (ss_cons (s_for rfl (i_rng1 (o_f x_int) (fun h => pi_range1 (by rfl) T.z_range h)) (g_name (i := 3) sc_law.nd rfl (by first | exact .inl rfl | exact .inr rfl))
    (ss_one (s_if (t_not (t_tru (o_f (x_f (x_fn F_law_roots_right (hr.mono (by decide)) (by rfl) (a_b (pv 1) (a_v (x_name (pv 2)) a_nil)))))))
    (ss_one (s_ret (x_of x_bl)))
    ss_nil)))
    (ss_cons (s_set (i := 4) sc_law.nd rfl (by first | exact .inl rfl | exact .inr rfl) (x_fn F_law_row (hr.mono (by decide)) (by rfl) (a_b (pv 1) (a_v (x_name (pv 2)) (a_v (x_f (x_fn F_law_draw (hr.mono (by decide)) (by rfl) (a_b (pv 1) (a_v x_int a_nil)))) a_nil)))))
    (ss_cons (s_setLc (j := 5) rfl sc_law.nd rfl rfl (sw_true rfl rfl rfl (by decide +kernel)) (i_rng1 (o_f x_int) (fun h => pi_range1 (by rfl) T.z_range h)) (blkOk_by (own := [("_law_turn", 3)]) (N := N_law) (sc := defScope s_law) (by decide +kernel)) (fun _ _ _ _ _ => pg_name (i := 3) sc_law.nd rfl (by first | exact .inl rfl | exact .inr rfl)) (fun _ _ _ _ _ => ts_nil) (fun _ _ _ _ _ => (x_f (x_opV o_add (pv 4) (o_f (x_f (x_fn F_law_row (hr.mono (by decide)) (by rfl) (a_b (pv 1) (a_v (x_name (pv 2)) (a_v (x_f (x_fn F_law_draw (hr.mono (by decide)) (by rfl) (a_b (pv 1) (a_v x_int a_nil)))) a_nil))))))))))
    (ss_cons (s_for rfl (i_lst (x_name (pv 5))) (g_name (i := 6) sc_law.nd rfl (by first | exact .inl rfl | exact .inr rfl))
    (ss_one (s_for rfl (i_lst (x_name (pv 5))) (g_name (i := 7) sc_law.nd rfl (by first | exact .inl rfl | exact .inr rfl))
    (ss_cons (s_set (i := 8) sc_law.nd rfl (by first | exact .inl rfl | exact .inr rfl) (x_fn F_earlier (hr.mono (by decide)) (by rfl) (a_v (x_name (pv 6)) (a_v (x_name (pv 7)) a_nil))))
    (ss_one (s_if (t_w (w_or (t_not (t_tru (o_f (x_f (x_b2V c_isi (by rfl) T.z_isinstance (by decide +kernel) (pv 8) (o_f (x_gty (by rfl) T.z_bool (by decide +kernel)))))))) (w_or1 (t_cmV (o_ne hr) (pv 8) (o_f (x_f (x_fn F_law_is_earlier (hr.mono (by decide)) (by rfl) (a_v (x_name (pv 6)) (a_v (x_name (pv 7)) a_nil))))) (nomark _)))))
    (ss_one (s_ret (x_of x_bl)))
    ss_nil))))))
    (ss_one (s_ret (x_cmp (o_eq hr) (x_f (x_fn F_root (hr.mono (by decide)) (by rfl) (a_v (x_str (okS_of (by decide +kernel))) a_nil))) (o_f (x_tup (l_cons (x_str (okS_of (by decide +kernel))) (l_cons x_int l_nil)))) (nomark _))))))))))
end

local macro_rules | `(tactic| walk_at "sd") => `(tactic| first | rfl | assumption | exact chars_fro _ | exact all_fro (fun _ => rfl) _ | exact okf_fro (by assumption) | exact okf_mlst.trans (by assumption) | decide)
local macro_rules | `(tactic| walk_at "fz") => `(tactic| with_reducible first | exact frz_non | exact frz_bl | exact frz_int | exact frz_str | exact frz_adr | exact frz_ty | exact frz_lst | exact frz_kst | exact frz_tup | exact frz_ktp | exact frz_dic | exact frz_mlst | exact frz_fro (by assumption))
local macro_rules | `(tactic| walk_at "get") => `(tactic| with_reducible first | exact get_0 | exact get_1 | exact get_2 | exact get_3 | exact get_4 | exact get_5 | exact get_6 | exact get_7 | exact get_8 | exact get_9 | exact get_10 | exact get_11 | exact get_12 | exact get_13 | exact get_14 | exact get_15 | exact get_16 | exact get_17 | exact get_18 | exact get_19 | exact get_20 | exact get_21 | exact get_22 | exact get_23)
local macro_rules | `(tactic| walk_at "set") => `(tactic| with_reducible first | exact set_0 | exact set_1 | exact set_2 | exact set_3 | exact set_4 | exact set_5 | exact set_6 | exact set_7 | exact set_8 | exact set_9 | exact set_10 | exact set_11 | exact set_12 | exact set_13 | exact set_14 | exact set_15 | exact set_16 | exact set_17 | exact set_18 | exact set_19 | exact set_20 | exact set_21 | exact set_22 | exact set_23)
local macro_rules | `(tactic| walk_at "lk") => `(tactic| first | ((with_reducible apply lk_v); walk_at "get") | ((with_reducible apply lk_b); walk_at "get"))
local macro_rules | `(tactic| walk_at "own") => `(tactic| first | ((with_reducible apply own_v); walk_at "get"; walk_at "sd") | ((with_reducible apply own_b); walk_at "get"; walk_at "sd"))
local macro_rules | `(tactic| walk_at "setc") => `(tactic| first | ((with_reducible apply setc_v); walk_at "get"; walk_at "set") | ((with_reducible apply setc_b); walk_at "get"; walk_at "set"))
local macro_rules | `(tactic| walk_at "ga") => `(tactic| repeat first | with_reducible exact getA_n | (with_reducible apply getA_v) | ((with_reducible apply getA_b); walk_at "lk"; (first | rfl | assumption)))
local macro_rules | `(tactic| walk_at "pa") => `(tactic| repeat first | with_reducible exact putA_n | (with_reducible apply putA_v) | ((with_reducible apply putA_b); walk_at "setc"))
local macro_rules | `(tactic| walk_at "fr") => `(tactic| with_reducible first | exact free_v | exact free_n | assumption)
local macro_rules | `(tactic| walk_at "ls") => `(tactic| first | exact lset_0 (by decide) | exact lset_1 (by decide) | exact lset_2 (by decide) | exact lset_3 (by decide) | exact lset_4 (by decide) | rfl)
local macro_rules | `(tactic| walk_at "go1") => `(tactic| first | ((with_reducible apply r_seq)) | ((with_reducible apply r_kF); walk_at "sd"; walk_at "fz") | ((with_reducible apply r_F)) | ((with_reducible apply r_C)) | ((with_reducible apply r_var); walk_at "lk"; walk_at "sd"; walk_at "fz") | ((with_reducible apply r_name); walk_at "get"; walk_at "sd"; walk_at "fz"; walk_at "set") | ((with_reducible apply r_op)) | ((with_reducible apply r_opV); walk_at "lk") | ((with_reducible apply r_kOpV); walk_at "lk"; walk_at "sd"; walk_at "fz") | ((with_reducible apply r_un)) | ((with_reducible apply r_test)) | ((with_reducible apply r_kTest); rfl) | ((with_reducible apply r_tru)) | ((with_reducible apply r_kTru); rfl) | ((with_reducible apply r_not)) | ((with_reducible apply r_and)) | ((with_reducible apply r_or)) | ((with_reducible apply r_kAndT)) | ((with_reducible apply r_kAndF)) | ((with_reducible apply r_kOrT)) | ((with_reducible apply r_kOrF)) | ((with_reducible apply r_yes)) | ((with_reducible apply r_andV)) | ((with_reducible apply r_noPart)) | ((with_reducible apply r_part)) | ((with_reducible apply r_kPart); rfl) | ((with_reducible apply r_sl)) | ((with_reducible apply r_slV); walk_at "lk") | ((with_reducible apply r_kSlV); walk_at "lk"; walk_at "sd"; walk_at "fz") | ((with_reducible apply r_gSlS); rfl) | ((with_reducible apply r_gSlL); rfl) | ((with_reducible apply r_gSlK); rfl) | ((with_reducible apply r_lnil)) | ((with_reducible apply r_lcons)) | ((with_reducible apply r_tup)) | ((with_reducible apply r_lst)) | ((with_reducible apply r_kTupD); exact Nat.le_of_ble_eq_true rfl) | ((with_reducible apply r_kLstD); exact Nat.le_of_ble_eq_true rfl) | ((with_reducible apply r_append); walk_at "own") | ((with_reducible apply r_kApp); walk_at "own"; walk_at "sd"; walk_at "setc") | ((with_reducible apply r_pop); walk_at "own"; walk_at "setc") | ((with_reducible apply r_anil)) | ((with_reducible apply r_av)) | ((with_reducible apply r_ab); walk_at "lk") | ((with_reducible apply r_call)) | ((with_reducible apply r_kCall); walk_at "ga"; first | exact List.nodup_nil | exact nd1) | ((with_reducible apply r_kBack); walk_at "pa") | ((with_reducible apply r_kBackX); walk_at "pa") | ((with_reducible apply r_mt)) | ((with_reducible apply r_kMt); rfl) | ((with_reducible apply r_gAddI); rfl; rfl) | ((with_reducible apply r_gAddS); rfl; rfl) | ((with_reducible apply r_gAddL); rfl; rfl) | ((with_reducible apply r_gMinus); rfl; rfl) | ((with_reducible apply r_gMul); rfl; rfl) | ((with_reducible apply r_gMod); rfl; rfl) | ((with_reducible apply r_gFdv); rfl; rfl) | ((with_reducible apply r_gPow); rfl; rfl; exact ⟨by decide, by decide, by decide⟩) | ((with_reducible apply r_gLtI); rfl; rfl) | ((with_reducible apply r_gLeI); rfl; rfl) | ((with_reducible apply r_gGtI); rfl; rfl) | ((with_reducible apply r_gGeI); rfl; rfl) | ((with_reducible apply r_gIx0); rfl; rfl; rfl) | ((with_reducible apply r_gIxL); rfl; rfl) | ((with_reducible apply r_gIxK); rfl; rfl) | ((with_reducible apply r_gIxT); rfl; rfl) | ((with_reducible apply r_gIxS); rfl; rfl) | ((with_reducible apply r_gEqS); rfl; rfl) | ((with_reducible apply r_gEqI); rfl; rfl) | ((with_reducible apply r_gNeS); rfl; rfl) | ((with_reducible apply r_gNeI); rfl; rfl) | ((with_reducible apply r_gEq); rfl; rfl) | ((with_reducible apply r_gNe); rfl; rfl) | ((with_reducible apply r_gFind'); rfl; rfl) | ((with_reducible apply r_mt2)) | ((with_reducible apply r_kMt2); rfl) | ((with_reducible apply r_gFind3); rfl; rfl; rfl) | ((with_reducible apply r_iRnD)) | ((with_reducible apply r_kIRnD); rfl) | ((with_reducible apply r_kIRnD2); rfl) | ((with_reducible apply r_kIRnD3); rfl) | ((with_reducible apply r_gLenS); rfl) | ((with_reducible apply r_gLenL); rfl) | ((with_reducible apply r_gNeg); rfl) | ((with_reducible apply r_gMulS); rfl; rfl) | ((with_reducible apply r_gAll); rfl) | ((with_reducible apply r_gIsiT); (first | assumption | exact ty_str | exact ty_int | exact ty_lst | exact ty_kst | exact ty_tup | exact ty_ktp | exact ty_dic | exact ty_bl | exact ty_non); rfl; rfl; decide) | ((with_reducible apply r_gTupleL); rfl) | ((with_reducible apply r_chain)) | ((with_reducible apply r_orV)) | ((with_reducible apply r_notV)) | ((with_reducible apply r_aug); walk_at "get") | ((with_reducible apply r_kAug); rfl; walk_at "get"; walk_at "fr"; walk_at "set") | ((with_reducible apply r_gS1); rfl) | ((with_reducible apply r_gJoin); rfl; rfl) | ((with_reducible apply r_gAbs); rfl) | ((with_reducible apply r_gIntI); rfl) | ((with_reducible apply r_gIntB); rfl) | ((with_reducible apply r_gNotInS); rfl; rfl) | ((with_reducible apply r_gRevS); rfl) | ((with_reducible apply r_gList2S); rfl) | ((with_reducible apply r_gList2L); rfl) | ((with_reducible apply r_gIsi); (first | assumption | exact ty_str | exact ty_int | exact ty_lst | exact ty_kst | exact ty_tup | exact ty_ktp | exact ty_dic | exact ty_bl | exact ty_non); rfl; decide) | ((with_reducible apply r_dict)) | ((with_reducible apply r_kDict); exact Nat.le_of_ble_eq_true rfl; first | exact List.nodup_nil | exact nd1) | ((with_reducible apply r_psNil)) | ((with_reducible apply r_psCons)) | ((with_reducible apply r_next)) | ((with_reducible apply r_break)) | ((with_reducible apply r_cont)) | ((with_reducible apply r_expr)) | ((with_reducible apply r_ret)) | ((with_reducible apply r_retN)) | ((with_reducible apply r_retV); walk_at "get"; walk_at "set") | ((with_reducible apply r_if)) | ((with_reducible apply r_kIfT)) | ((with_reducible apply r_kIfF)) | ((with_reducible apply r_set)) | ((with_reducible apply r_kSet); walk_at "get"; walk_at "fr"; walk_at "set") | ((with_reducible apply r_kName); walk_at "get"; walk_at "fr"; walk_at "set") | ((with_reducible apply r_raise)) | ((with_reducible apply r_put)) | ((with_reducible apply r_kPut1); walk_at "own") | ((with_reducible apply r_kPut2); walk_at "own"; rfl; rfl; walk_at "sd"; walk_at "ls"; walk_at "setc") | ((with_reducible apply r_iLst)) | ((with_reducible apply r_iTp)) | ((with_reducible apply r_iSt)) | ((with_reducible apply r_iRn)) | ((with_reducible apply r_kILstL); rfl) | ((with_reducible apply r_kILstK); rfl) | ((with_reducible apply r_kITp); rfl) | ((with_reducible apply r_kISt); rfl) | ((with_reducible apply r_iSeq)) | ((with_reducible apply r_kISeq); rfl) | ((with_reducible apply r_kIRnN); rfl; omega) | ((with_reducible apply r_kIRn); rfl) | ((with_reducible apply r_try)) | ((with_reducible apply r_for)) | ((with_reducible apply r_lc)) | ((with_reducible apply r_kLcTT)) | ((with_reducible apply r_kLcE); walk_at "set") | dsimp only [goneD])
local macro_rules | `(tactic| walk_at "go") => `(tactic| repeat walk_at "go1")
local macro_rules | `(tactic| walk_at "st0") => `(tactic| simp only [env0, List.tail_cons, List.map_cons, List.map_nil, N_bent, N_check_any_row, N_earlier, N_is_integer, N_is_row, N_is_string_of, N_is_within, N_law, N_law_asked, N_law_back, N_law_deeds, N_law_draw, N_law_hand, N_law_is_earlier, N_law_net, N_law_root, N_law_roots_right, N_law_row, N_law_undoing, N_net, N_net_letters, N_power, N_power_letters, N_root, N_row_key, N_turned_about, N_undoing_of])
section
variable {P : Program} {w : World} {K : PySem.W.Frag} {mg : Str → Option Value} {base : Heap} {c : Cs}
theorem ok_is_integer (T : Txt K mg c) : Fn P w K mg base 1 "is_integer" (sp_is_integer c) := by
  refine fnP T.a_is_integer sc_is_integer (fun args R RX ⟨x, e, ⟨f, _⟩, _⟩ => by rw [e]; exact ⟨rfl, by simp only [List.all_cons, f, List.all_nil, Bool.and_true]⟩) (d_is_integer T) ?_
  rintro args R RX ⟨x, rfl, ⟨h1, h2⟩, hR⟩ ad
  have fr : [x].all D.fro = true := by simp only [List.all_cons, h1, List.all_nil, Bool.and_true]
  have ie := isint_eq x h2
  walk_at "st0"
  unfold x_is_integer
  walk_at "go"
  refine r_kAndV rfl (fun h => ?_) (fun h => ?_)
  · walk_at "go"
    refine ⟨_, rfl, Rt.pure ?_ fr⟩
    rw [ie.1 h]
    exact hR
  · refine Rt.pure ?_ fr
    rw [ie.2 h]
    exact hR
theorem ok_is_within (T : Txt K mg c) : Fn P w K mg base 2 "is_within" (sp_is_within c) := by
  refine fnP T.a_is_within sc_is_within (fun args R RX ⟨x, a, b, e, ⟨f, _⟩, _⟩ => by rw [e]; exact ⟨rfl, by simp only [List.all_cons, f, fro_int, List.all_nil, Bool.and_true]⟩) (d_is_within T (ok_is_integer T)) ?_
  rintro args R RX ⟨x, a, b, rfl, ⟨h1, h2⟩, hR⟩ ad
  have fr : [x, D.int a, D.int b].all D.fro = true := by simp only [List.all_cons, h1, fro_int, List.all_nil, Bool.and_true]
  walk_at "st0"
  unfold x_is_within
  walk_at "go"
  refine ⟨x, rfl, ⟨h1, h2⟩, ?_⟩
  walk_at "go"
  refine r_kAndV rfl (fun h => ?_) (fun h => ?_)
  · obtain ⟨i, rfl⟩ : ∃ i, x = .int i := by
      cases x with
      | int i => exact ⟨i, rfl⟩
      | _ => exact nomatch h
    walk_at "go"
    refine ⟨_, rfl, ?_⟩
    by_cases h : a ≤ i
    · rw [if_pos (decide_eq_true h)]
      walk_at "go"
      refine Rt.pure ?_ fr
      have : within (.int i) a b = decide (i ≤ b) := by simp [within, h]
      rw [← this]
      exact hR
    · rw [if_neg (by simpa using h)]
      refine Rt.pure ?_ fr
      have : within (.int i) a b = false := by simp [within, h]
      rw [← this]
      exact hR
  · refine Rt.pure ?_ fr
    have : within x a b = false := by
      cases x with
      | int i => exact nomatch h
      | _ => rfl
    rw [← this]
    exact hR
theorem ok_is_string_of (T : Txt K mg c) : Fn P w K mg base 1 "is_string_of" (sp_is_string_of c) := by
  refine fnP T.a_is_string_of sc_is_string_of (fun args R RX ⟨x, s, e, ⟨f, _⟩, _⟩ => by rw [e]; exact ⟨rfl, by simp only [List.all_cons, f, fro_str, List.all_nil, Bool.and_true]⟩) (d_is_string_of T) ?_
  rintro args R RX ⟨x, signs, rfl, ⟨h1, h2⟩, hR⟩ ad
  have fr : [x, D.str signs].all D.fro = true := by simp only [List.all_cons, h1, fro_str, List.all_nil, Bool.and_true]
  walk_at "st0"
  unfold x_is_string_of
  walk_at "go"
  by_cases e : ∃ t, x = .str t
  · obtain ⟨t, rfl⟩ := e
    refine r_kIf (fun h => (nomatch h)) (fun h => ?_)
    walk_at "go"
    refine r_kFor (fun k es => ∃ y, E.free y = true ∧ es = [.val (.str t), .val (.str signs), y] ∧ (t.take k).all (fun c => decide (c ∈ signs)) = true) ⟨_, rfl, rfl, rfl⟩ ?_ ?_
    · rintro k d es hd ⟨y, fy, rfl, ih⟩
      obtain ⟨ch, hch, rfl⟩ := chars_get hd
      walk_at "go"
      refine r_kIf (fun h => ?_) (fun h => ?_)
      · have hm : ch ∉ signs := by simpa using h
        walk_at "go"
        refine Rt.pure ?_ fr
        have : isStrOf (.str t) signs = false := by
          show t.all _ = false
          rw [List.all_eq_false]
          exact ⟨ch, List.mem_of_getElem? hch, by simp [hm]⟩
        rw [this] at hR
        exact hR
      · have hm : ch ∈ signs := by simpa using h
        walk_at "go"
        exact ⟨_, rfl, rfl, by rw [take_get hch, List.all_append, ih]; simp [hm]⟩
    · rintro es ⟨y, fy, rfl, ih⟩
      walk_at "go"
      refine Rt.pure ?_ fr
      rw [chars_len, List.take_length] at ih
      have : isStrOf (.str t) signs = true := ih
      rw [this] at hR
      exact hR
  · have e2 : isT x.tyn "str" = false := by
      have : x.tyn ≠ "str" := fun q => by
        cases x with
        | str s => exact e ⟨s, rfl⟩
        | _ => exact absurd q (by simp [D.tyn])
      simp [isT, this]
    rw [e2]
    walk_at "go"
    refine Rt.pure ?_ fr
    have : isStrOf x signs = false := by
      cases x with
      | str s => exact absurd ⟨s, rfl⟩ e
      | _ => rfl
    rw [this] at hR
    exact hR
theorem ok_undoing_of (T : Txt K mg c) : Fn P w K mg base 1 "undoing_of" (sp_undoing_of c) := by
  refine fnP T.a_undoing_of sc_undoing_of (fun args R RX ⟨s, e, _⟩ => by rw [e]; exact ⟨rfl, rfl⟩) (d_undoing_of T) ?_
  rintro args R RX ⟨s, rfl, hs, hR⟩ ad
  walk_at "st0"
  unfold x_undoing_of
  walk_at "go"
  exact ⟨Nat.le_trans hs (by decide), Rt.pure hR rfl⟩
theorem ok_is_row (T : Txt K mg c) : Fn P w K mg base 2 "is_row" (sp_is_row c) := by
  refine fnP T.a_is_row sc_is_row (fun args R RX ⟨x, e, ⟨f, _⟩, _⟩ => by rw [e]; exact ⟨rfl, by simp only [List.all_cons, f, List.all_nil, Bool.and_true]⟩) (d_is_row T (ok_is_string_of T)) ?_
  rintro args R RX ⟨x, rfl, ⟨h1, h2⟩, hR⟩ ad
  have fr : [x].all D.fro = true := by simp only [List.all_cons, h1, List.all_nil, Bool.and_true]
  walk_at "st0"
  unfold x_is_row
  walk_at "go"
  refine ⟨x, LETTERS, rfl, ⟨h1, h2⟩, ?_⟩
  walk_at "go"
  exact Rt.pure hR fr
theorem ok_check_any_row (T : Txt K mg c) : Fn P w K mg base 3 "check_any_row" (sp_check_any_row c) := by
  refine fnP T.a_check_any_row sc_check_any_row (fun args R RX ⟨x, e, ⟨f, _⟩, _⟩ => by rw [e]; exact ⟨rfl, by simp only [List.all_cons, f, List.all_nil, Bool.and_true]⟩) (d_check_any_row T (ok_is_row T)) ?_
  rintro args R RX ⟨x, rfl, ⟨h1, h2⟩, hR, hX⟩ ad
  have fr : [x].all D.fro = true := by simp only [List.all_cons, h1, List.all_nil, Bool.and_true]
  walk_at "st0"
  unfold x_check_any_row
  walk_at "go"
  refine ⟨x, rfl, ⟨h1, h2⟩, ?_⟩
  cases hr : isRow x with
  | true => walk_at "go"; refine r_kIf (fun h => (nomatch h)) (fun h => ?_); walk_at "go"; exact Rt.pure (hR hr) fr
  | false => walk_at "go"; refine r_kIf (fun h => ?_) (fun h => (nomatch h)); walk_at "go"; exact Rx.pure (hX hr) fr
theorem ok_net_letters (T : Txt K mg c) : Fn P w K mg base 2 "net_letters" (sp_net_letters c) := by
  refine fnP T.a_net_letters sc_net_letters (fun args R RX ⟨s, e, _⟩ => by rw [e]; exact ⟨rfl, rfl⟩) (d_net_letters T (ok_undoing_of T)) ?_
  rintro args R RX ⟨s, rfl, hs, hR⟩ ad
  have big : sizeLine = 16777216 := sizeLine_eq
  walk_at "st0"
  unfold x_net_letters
  walk_at "go"
  refine r_kFor (fun k es => ∃ y, E.free y = true ∧ es = [.val (.str s), .val (.mlst (chars ((s.take k).foldl rpush []).reverse)), y]) ⟨_, rfl, rfl⟩ ?_ ?_
  · rintro k d es hd ⟨y, fy, rfl⟩
    obtain ⟨ch, hch, rfl⟩ := chars_get hd
    have hk := (List.getElem?_eq_some_iff.mp hch).1
    have hlen : ((s.take k).foldl rpush []).reverse.length ≤ k := by
      rw [List.length_reverse]
      have := fold_len (s.take k) []
      rw [List.length_take] at this
      simp at this
      omega
    have step := rpush_last ((s.take k).foldl rpush []) ch
    have e1 : (s.take (k + 1)).foldl rpush [] = rpush ((s.take k).foldl rpush []) ch := by rw [take_get hch, List.foldl_append]; rfl
    rw [e1, step]
    generalize ((s.take k).foldl rpush []).reverse = st at hlen
    walk_at "go"
    refine r_ifJ0 ?_
    walk_at "go"
    have small : (chars st).length < sizeLine := by rw [chars_len]; omega
    refine r_kAnd (fun hb => ?_) (fun hb => ?_)
    · have hp : 0 < st.length := by
        have := of_decide_eq_true hb
        rw [chars_len] at this
        omega
      obtain ⟨a, ha⟩ : ∃ a, st.getLast? = some a := by
        cases e : st.getLast? with
        | some a => exact ⟨a, rfl⟩
        | none => rw [List.getLast?_eq_none_iff] at e; subst e; simp at hp
      walk_at "go"
      refine ⟨.str [a], at_chars (at_last ha), ?_⟩
      walk_at "go"
      refine ⟨[ch], rfl, by simp, ?_⟩
      walk_at "go"
      refine r_kIf (fun h => ?_) (fun h => ?_)
      · have h' : a = sw2 ch := by simpa using h
        subst h'
        walk_at "go"
        have hl : (chars st)[(chars st).length - 1]? = some (.str [sw2 ch]) := by
          rw [chars_len]
          unfold chars
          rw [List.getElem?_map, ← List.getLast?_eq_getElem?, ha]
          rfl
        refine ⟨.str [sw2 ch], hl, ?_⟩
        walk_at "go"
        refine ⟨_, free_v (d := .str [ch]), ?_⟩
        rw [if_pos ha]
        unfold chars
        rw [List.map_dropLast]
      · have h' : ¬ st.getLast? = some (sw2 ch) := fun e => by rw [ha] at e; cases e; simp at h
        walk_at "go"
        refine ⟨small, ?_⟩
        walk_at "go"
        refine ⟨_, free_v (d := .str [ch]), ?_⟩
        rw [if_neg h', ← chars_app]
        rfl
    · have h' : ¬ st.getLast? = some (sw2 ch) := fun e => by
        have : ¬ (0 : Int) < ((chars st).length : Int) := of_decide_eq_false hb
        rw [chars_len] at this
        cases st with
        | nil => cases e
        | cons _ _ => exact this (by simp only [List.length_cons]; omega)
      walk_at "go"
      refine ⟨small, ?_⟩
      walk_at "go"
      refine ⟨_, free_v (d := .str [ch]), ?_⟩
      rw [if_neg h', ← chars_app]
      rfl
  · rintro es ⟨y, fy, rfl⟩
    rw [chars_len, List.take_length]
    walk_at "go"
    have hl := net_len s
    refine ⟨_, strs_chars _, join_ok _ (by unfold netL at hl; omega), ?_⟩
    refine Rt.pure ?_ rfl
    rw [show lit "" = [] from rfl, join_chars]
    exact hR
theorem ok_turned_about (T : Txt K mg c) : Fn P w K mg base 1 "turned_about" (sp_turned_about c) := by
  refine fnP T.a_turned_about sc_turned_about (fun args R RX ⟨s, e, _⟩ => by rw [e]; exact ⟨rfl, rfl⟩) (d_turned_about T) ?_
  rintro args R RX ⟨s, rfl, hs, hR⟩ ad
  walk_at "st0"
  unfold x_turned_about
  walk_at "go"
  exact ⟨by show s.reverse.length ≤ _; rw [List.length_reverse]; omega, Rt.pure hR rfl⟩
theorem key_find : ∀ c < 128, isL c → findS AZ [lo2 c] = (lo2 c : Int) - 97 := by decide +kernel
theorem key_up (c : Nat) (h : isL c) : (if isUp [c] = true then (1 : Int) else 0) = if 65 ≤ c ∧ c ≤ 90 then 1 else 0 := by
  have : isUp [c] = decide (65 ≤ c ∧ c ≤ 90) := by
    unfold isUp
    unfold isL at h
    simp
    try omega
  rw [this]
  simp
theorem ok_row_key (T : Txt K mg c) : Fn P w K mg base 1 "row_key" (sp_row_key c) := by
  refine fnP T.a_row_key sc_row_key (fun args R RX ⟨s, e, _⟩ => by rw [e]; exact ⟨rfl, rfl⟩) (d_row_key T) ?_
  rintro args R RX ⟨s, rfl, ls, hs, hR⟩ ad
  have big : sizeLine = 16777216 := sizeLine_eq
  walk_at "st0"
  unfold x_row_key
  walk_at "go"
  refine r_kLc (fun k acc es => es = [.val (.str s), .no, .no] ∧ acc = (s.take k).map fun c => D.int (keyOf c)) ⟨rfl, rfl⟩ ?_ ?_
  · rintro k d acc es hd ⟨rfl, rfl⟩
    obtain ⟨ch, hch, rfl⟩ := chars_get hd
    have hk := (List.getElem?_eq_some_iff.mp hch).1
    have lc := ls ch (List.mem_of_getElem? hch)
    have l128 : ch < 128 := by unfold isL at lc; omega
    have l5 : len5 [ch] := by show 1 ≤ _; decide
    refine ⟨.no, get_2, quiet_n, ?_⟩
    rw [set_2]
    walk_at "go"
    refine ⟨l5, ?_⟩
    walk_at "go"
    refine ⟨okMul_l (by decide), ?_⟩
    walk_at "go"
    refine ⟨trivial, ?_⟩
    walk_at "go"
    refine ⟨by rw [List.length_map, List.length_take]; omega, rfl, ?_⟩
    rw [take_get hch, List.map_append]
    have e1 : findS (lit "abcdefghijklmnopqrstuvwxyz") (List.map lo2 [ch]) = (lo2 ch : Int) - 97 := key_find ch l128 lc
    rw [e1, key_up ch lc]
    rfl
  · rintro acc es ⟨rfl, rfl⟩
    rw [chars_len, List.take_length]
    walk_at "go"
    exact Rt.pure hR rfl
theorem ok_bent (T : Txt K mg c) : Fn P w K mg base 2 "bent" (sp_bent c) := by
  refine fnP T.a_bent sc_bent (fun args R RX ⟨s, e, _⟩ => by rw [e]; exact ⟨rfl, rfl⟩) (d_bent T (ok_undoing_of T)) ?_
  rintro args R RX ⟨s, rfl, hs, hR⟩ ad
  walk_at "st0"
  unfold x_bent
  walk_at "go"
  refine r_while (fun m es => ∃ k : Nat, m = s.length - k ∧ es = [.val (.str s), .val (.int k)] ∧ 2 * k ≤ s.length ∧ ∀ i, i < k → ∀ a b, s[i]? = some a → s[s.length - 1 - i]? = some b → a = sw2 b) s.length ⟨0, rfl, rfl, Nat.zero_le _, fun i h => absurd h (by omega)⟩ ?_
  rintro m es ⟨k, rfl, rfl, hk, hb⟩
  walk_at "go"
  refine ⟨okMul_l (by decide), ?_⟩
  walk_at "go"
  refine r_kAnd (fun h => ?_) (fun h => ?_)
  · have hlt := of_decide_eq_true h
    obtain ⟨a, ha⟩ : ∃ a, s[k]? = some a := ⟨_, List.getElem?_eq_getElem (by omega)⟩
    obtain ⟨b, hb'⟩ : ∃ b, s[s.length - 1 - k]? = some b := ⟨_, List.getElem?_eq_getElem (by omega)⟩
    walk_at "go"
    refine ⟨a, atI_nat ha, ?_⟩
    walk_at "go"
    refine ⟨b, atI_back (by omega) hb', ?_⟩
    walk_at "go"
    refine ⟨[b], rfl, by simp, ?_⟩
    walk_at "go"
    refine r_kIf (fun h => ?_) (fun h => ?_)
    · have e : a = sw2 b := by simpa using h
      walk_at "go"
      refine ⟨s.length - (k + 1), by omega, k + 1, rfl, rfl, by omega, fun i hi x y hx hy => ?_⟩
      by_cases q : i = k
      · subst q
        rw [ha] at hx
        rw [hb'] at hy
        cases hx
        cases hy
        exact e
      · exact hb i (by omega) x y hx hy
    · have e : ¬ a = sw2 b := by simpa using h
      walk_at "go"
      refine Rt.pure (hR k ⟨hk, hb, fun _ x y hx hy => ?_⟩) rfl
      rw [ha] at hx
      rw [hb'] at hy
      cases hx
      cases hy
      exact e
  · have hlt := of_decide_eq_false h
    walk_at "go"
    exact Rt.pure (hR k ⟨hk, hb, fun q => absurd q (by omega)⟩) rfl
theorem ok_net (T : Txt K mg c) : Fn P w K mg base 4 "net" (sp_net c) := by
  refine fnP T.a_net sc_net (fun args R RX ⟨x, e, ⟨f, _⟩, _⟩ => by rw [e]; exact ⟨rfl, by simp only [List.all_cons, f, List.all_nil, Bool.and_true]⟩) (d_net T (ok_net_letters T) (ok_check_any_row T)) ?_
  rintro args R RX ⟨x, rfl, ⟨h1, h2⟩, hR, hX⟩ ad
  have fr : [x].all D.fro = true := by simp only [List.all_cons, h1, List.all_nil, Bool.and_true]
  walk_at "st0"
  unfold x_net
  walk_at "go"
  refine ⟨x, rfl, ⟨h1, h2⟩, fun hr => ?_, fun hr => ?_⟩
  · obtain ⟨s, rfl, hs, hR⟩ := hR hr
    walk_at "go"
    refine ⟨s, rfl, hs, ?_⟩
    walk_at "go"
    exact Rt.pure hR fr
  · walk_at "go"
    exact Rx.pure (hX hr) fr
theorem vc_power {spS : DSp} {R : D → List D → Prop} {RX : Exn → List D → Prop} {ad : Nat → Addr} {s : List Nat} {t : Int} (t0 : 0 ≤ t) (ls : Ls s) (fl : Flat s) (hs : s.length ≤ 50000) (hl : s.length * t.natAbs ≤ 50000) (ht : t.natAbs ≤ 1000)
    (hR : R (.str (powL s t)) [.str s, .int t]) : x_power_letters K c spS { nx := Rt ad [.str s, .int t] R .non, rt := Rt ad [.str s, .int t] R, xn := Rx ad [.str s, .int t] RX } [.val (.str s), .val (.int t), .no] := by
  have big : sizeLine = 16777216 := sizeLine_eq
  unfold x_power_letters
  walk_at "go"
  refine r_kIf (fun h => absurd (of_decide_eq_true h) (by omega)) (fun _ => ?_)
  walk_at "go"
  refine r_kOr (fun h => ?_) (fun h => ?_)
  · have e : t = 0 := of_decide_eq_true h
    subst e
    walk_at "go"
    exact Rt.pure hR rfl
  · have e : ¬ t = 0 := of_decide_eq_false h
    walk_at "go"
    refine r_kIf (fun h => ?_) (fun h => ?_)
    · have e : s = [] := of_decide_eq_true h
      subst e
      rw [pow_nil] at hR
      walk_at "go"
      exact Rt.pure hR rfl
    · have e2 : ¬ s = [] := of_decide_eq_false h
      obtain ⟨k, rfl⟩ : ∃ k : Nat, t = (k + 1 : Nat) := ⟨t.toNat - 1, by omega⟩
      walk_at "go"
      refine ⟨s, rfl, hs, fun m hb => ?_⟩
      have key := pow_bent ls fl e2 hb k
      have hm := hb.1
      walk_at "go"
      rw [show ((s.length : Int) - (m : Int)) = ((s.length - m : Nat) : Int) by omega, cut_mid s m (s.length - m) (by omega) (by omega), cut_to s m (by omega)]
      have vl : ((s.drop m).take (s.length - m - m)).length ≤ s.length := by rw [List.length_take, List.length_drop]; omega
      have hz : ((s.drop m).take (s.length - m - m)).length * (((k + 1 : Nat) : Int)).toNat ≤ 50000 := Nat.le_trans (Nat.mul_le_mul vl (by omega : (((k + 1 : Nat) : Int)).toNat ≤ (((k + 1 : Nat) : Int)).natAbs)) hl
      refine ⟨by omega, by omega, ?_⟩
      walk_at "go"
      have hrl : (List.replicate (((k + 1 : Nat) : Int)).toNat ((s.drop m).take (s.length - m - m))).flatten.length ≤ 50000 := by
        have := rep_len ((s.drop m).take (s.length - m - m)) (((k + 1 : Nat) : Int)).toNat
        unfold repL at this
        rw [this]
        exact hz
      refine ⟨by rw [List.length_take]; omega, ?_⟩
      walk_at "go"
      rw [show ((s.length : Int) - (m : Int)) = ((s.length - m : Nat) : Int) by omega, cut_from s (s.length - m) (by omega)]
      refine ⟨by rw [List.length_append, List.length_take, List.length_drop]; omega, ?_⟩
      refine Rt.pure ?_ rfl
      have e3 : powL s ((k + 1 : Nat) : Int) = netL (repL s (k + 1)) := by
        unfold powL
        rw [if_neg (by omega)]
        rfl
      rw [e3, ← key] at hR
      exact hR
theorem ok_power0 (T : Txt K mg c) : Fn P w K mg base 3 "power_letters" (sp_power0 c) := by
  refine fnP T.a_power_letters sc_power_letters (fun args R RX ⟨s, t, e, _⟩ => by rw [e]; exact ⟨rfl, rfl⟩) (d_power_letters T (k := 2) (by decide) (fn_none 2 T.a_power_letters) (ok_bent T) (ok_turned_about T)) ?_
  rintro args R RX ⟨s, t, rfl, t0, ls, fl, hs, hl, ht, hR⟩ ad
  exact vc_power t0 ls fl hs hl ht hR
theorem ok_power_letters (T : Txt K mg c) : Fn P w K mg base 4 "power_letters" (sp_power_letters c) := by
  refine fnP T.a_power_letters sc_power_letters (fun args R RX ⟨s, t, e, _⟩ => by rw [e]; exact ⟨rfl, rfl⟩) (d_power_letters T (k := 3) (by decide) (ok_power0 T) (ok_bent T) (ok_turned_about T)) ?_
  rintro args R RX ⟨s, t, rfl, ls, fl, hs, hl, ht, hR⟩ ad
  by_cases h : t < 0
  · walk_at "st0"
    unfold x_power_letters
    walk_at "go"
    refine r_kIf (fun _ => ?_) (fun q => absurd (of_decide_eq_false q) (by omega))
    walk_at "go"
    refine ⟨s, rfl, hs, ?_⟩
    walk_at "go"
    refine ⟨back1 s, -t, rfl, by omega, back_L ls, flat_back ls fl, by rw [back_len]; exact hs, by rw [back_len, Int.natAbs_neg]; exact hl, by rw [Int.natAbs_neg]; exact ht, ?_⟩
    walk_at "go"
    refine Rt.pure ?_ rfl
    have e : powL (back1 s) (-t) = powL s t := by
      unfold powL
      rw [if_pos h, if_neg (by omega)]
    rw [e]
    exact hR
  · exact vc_power (by omega) ls fl hs hl ht hR
theorem row_of {x : D} (h : isRow x = true) : ∃ s, x = .str s ∧ Ls s := by
  cases x with
  | str s => exact ⟨s, rfl, (isRow_str s).mp h⟩
  | _ => exact nomatch h
theorem ok_power (T : Txt K mg c) : Fn P w K mg base 5 "power" (sp_power c) := by
  refine fnP T.a_power sc_power (fun args R RX ⟨x, y, e, ⟨f1, _⟩, ⟨f2, _⟩, _⟩ => by rw [e]; exact ⟨rfl, by simp only [List.all_cons, f1, f2, List.all_nil, Bool.and_true]⟩) (d_power T (ok_net_letters T) (ok_power_letters T) (ok_is_within T) (ok_check_any_row T)) ?_
  rintro args R RX ⟨x, y, rfl, ox, oy, hR, hX, hN⟩ ad
  have fx := ox.1
  have fy := oy.1
  have fr : [x, y].all D.fro = true := by simp only [List.all_cons, fx, fy, List.all_nil, Bool.and_true]
  walk_at "st0"
  unfold x_power
  walk_at "go"
  refine ⟨_, rfl, ox, fun hr => ?_, fun hr => ?_⟩
  · walk_at "go"
    refine ⟨_, _, _, rfl, oy, ?_⟩
    cases wi : within y (-1000) 1000 with
    | false =>
      walk_at "go"
      refine r_kIf (fun _ => ?_) (fun h => nomatch h)
      walk_at "go"
      exact Rx.pure (hN hr wi) fr
    | true =>
      obtain ⟨s, t, rfl, rfl, hl, hs, hR⟩ := hR hr wi
      have ls := (isRow_str s).mp hr
      have nl := net_len s
      obtain ⟨nf, ln⟩ := net_is_flat ls
      have ht : t.natAbs ≤ 1000 := by
        unfold within at wi
        simp only [Bool.and_eq_true, decide_eq_true_eq] at wi
        omega
      walk_at "go"
      refine r_kIf (fun h => nomatch h) (fun _ => ?_)
      walk_at "go"
      refine ⟨s, rfl, hs, ?_⟩
      walk_at "go"
      refine ⟨netL s, t, rfl, ln, nf, by omega, Nat.le_trans (Nat.mul_le_mul_right _ nl) hl, ht, ?_⟩
      walk_at "go"
      exact Rt.pure hR rfl
  · walk_at "go"
    exact Rx.pure (hX hr) fr
theorem keys_cmp (l : List Nat) (n : Nat) : cmps n (l.map fun c => D.int (keyOf c)) = true := by
  induction l with
  | nil => cases n <;> rfl
  | cons a l ih => simp only [List.map_cons, cmps, D.cmp, ih, Bool.and_self]
theorem rkD_cmp (s : List Nat) : (rkD s).cmp 40 = true := by
  unfold rkD
  simp only [D.cmp, cmps, keys_cmp, Bool.and_self]
theorem keys_alike (a b : List Nat) : PySem.W.alikeAll (pys (a.map fun c => D.int (keyOf c))) (pys (b.map fun c => D.int (keyOf c))) = true := by
  induction a generalizing b with
  | nil => simp [pys, PySem.W.alikeAll]
  | cons x a ih =>
    cases b with
    | nil => simp [pys, PySem.W.alikeAll]
    | cons y b => simp [pys, D.py, PySem.W.alikeAll, PySem.W.alike, ih]
theorem rkD_alike (s t : List Nat) : PySem.W.alike (rkD s).py (rkD t).py = true := by
  unfold rkD
  simp [D.py, pys, PySem.W.alikeAll, PySem.W.alike, keys_alike]
theorem keys_depth (l : List Nat) : PyData.depthAll (pys (l.map fun c => D.int (keyOf c))) ≤ 1 := by
  induction l with
  | nil => simp [pys, PyData.depthAll]
  | cons a l ih => simp [pys, D.py, PyData.depthAll, PyData.depth]; omega
theorem rkD_depth (s : List Nat) : (rkD s).py.depth ≤ 20 := by
  have := keys_depth s
  unfold rkD
  simp only [D.py, pys, PyData.depth, PyData.depthAll]
  omega
theorem r_gLtD {x y : D} {G : D → Prop} (c1 : x.cmp 40 = true) (c2 : y.cmp 40 = true) (al : PySem.W.alike x.py y.py = true) (hn : x.py ≠ .none) (dp : x.py.depth ≤ 64) (q : G (.bl (ltD x y))) : gLtD x y G := ⟨c1, c2, al, hn, by omega, q⟩
theorem ok_earlier (T : Txt K mg c) : Fn P w K mg base 4 "earlier" (sp_earlier c) := by
  refine fnP T.a_earlier sc_earlier (fun args R RX ⟨x, y, e, ⟨f1, _⟩, ⟨f2, _⟩, _⟩ => by rw [e]; exact ⟨rfl, by simp only [List.all_cons, f1, f2, List.all_nil, Bool.and_true]⟩) (d_earlier T (ok_row_key T) (ok_check_any_row T)) ?_
  rintro args R RX ⟨x, y, rfl, ox, oy, hR, hX⟩ ad
  have fx := ox.1
  have fy := oy.1
  have fr : [x, y].all D.fro = true := by simp only [List.all_cons, fx, fy, List.all_nil, Bool.and_true]
  walk_at "st0"
  unfold x_earlier
  walk_at "go"
  refine ⟨_, rfl, ox, fun hx => ?_, fun hx => ?_⟩
  · walk_at "go"
    refine ⟨_, rfl, oy, fun hy => ?_, fun hy => ?_⟩
    · obtain ⟨s, b, rfl, rfl, hl, hl2, hR⟩ := hR hx hy
      walk_at "go"
      refine ⟨s, rfl, (isRow_str s).mp hx, hl, ?_⟩
      have k1 : rkD s = .tup [.int s.length, .lst (s.map fun c => .int (keyOf c))] := rfl
      have k2 : rkD b = .tup [.int b.length, .lst (b.map fun c => .int (keyOf c))] := rfl
      have fs : (rkD s).fro = true := rfl
      have fb : (rkD b).fro = true := rfl
      walk_at "go"
      refine ⟨b, rfl, (isRow_str b).mp hy, hl2, ?_⟩
      walk_at "go"
      refine r_gLtD (rkD_cmp s) (rkD_cmp b) (rkD_alike s b) (fun h => nomatch h) (Nat.le_trans (rkD_depth s) (by decide)) ?_
      walk_at "go"
      exact Rt.pure hR rfl
    · walk_at "go"
      exact Rx.pure (hX (by rw [hx, hy]; rfl)) fr
  · walk_at "go"
    exact Rx.pure (hX (by rw [hx]; rfl)) fr
theorem bent_ex (s : List Nat) : ∃ m, Bent s m := by
  suffices h : ∀ n k, s.length - k = n → 2 * k ≤ s.length → (∀ i, i < k → ∀ a b, s[i]? = some a → s[s.length - 1 - i]? = some b → a = sw2 b) → ∃ m, Bent s m from h _ 0 rfl (by omega) (fun i h => absurd h (by omega))
  intro n
  induction n with
  | zero => exact fun k h1 h2 h3 => ⟨k, h2, h3, fun h => absurd h (by omega)⟩
  | succ n ih =>
    intro k h1 h2 h3
    by_cases q : 2 * k + 1 < s.length
    · obtain ⟨a, ha⟩ : ∃ a, s[k]? = some a := ⟨_, List.getElem?_eq_getElem (by omega)⟩
      obtain ⟨b, hb⟩ : ∃ b, s[s.length - 1 - k]? = some b := ⟨_, List.getElem?_eq_getElem (by omega)⟩
      by_cases e : a = sw2 b
      · refine ih (k + 1) (by omega) (by omega) fun i hi x y hx hy => ?_
        by_cases q2 : i = k
        · subst q2
          rw [ha] at hx
          rw [hb] at hy
          cases hx
          cases hy
          exact e
        · exact h3 i (by omega) x y hx hy
      · refine ⟨k, h2, h3, fun _ x y hx hy => ?_⟩
        rw [ha] at hx
        rw [hb] at hy
        cases hx
        cases hy
        exact e
    · exact ⟨k, h2, h3, fun h => absurd h q⟩
theorem inner_len (u : List Nat) (m : Nat) (h : 2 * m ≤ u.length) : (inner u m).length = u.length - 2 * m := by
  unfold inner
  rw [List.length_take, List.length_drop]
  omega
theorem bent_lt {s : List Nat} {m : Nat} (ls : Ls s) (fl : Flat s) (hs : s ≠ []) (hb : Bent s m) : 2 * m < s.length := by
  have h1 := hb.1
  by_cases e : 2 * m = s.length
  · exfalso
    have m0 : 0 < m := by
      rcases Nat.eq_zero_or_pos m with h | h
      · subst h
        cases s with
        | nil => exact absurd rfl hs
        | cons _ _ => simp at e
      · exact h
    obtain ⟨a, ha⟩ : ∃ a, s[m - 1]? = some a := ⟨_, List.getElem?_eq_getElem (by omega)⟩
    obtain ⟨b, hb'⟩ : ∃ b, s[m]? = some b := ⟨_, List.getElem?_eq_getElem (by omega)⟩
    have h2 := hb.2.1 (m - 1) (by omega) a b ha (by rw [show s.length - 1 - (m - 1) = m by omega]; exact hb')
    have h3 := fl (m - 1) a b ha (by rw [show m - 1 + 1 = m by omega]; exact hb')
    exact h3 (by rw [h2, sw_sw (ls b (List.mem_of_getElem? hb'))])
  · omega
theorem find_turn (v : List Nat) (hv : v ≠ []) : ∃ k : Nat, Txt.find3 (S (v ++ v)) (S v) 1 = k ∧ Turn v k := by
  have vl : 0 < v.length := List.length_pos_iff.mpr hv
  have oc : Occ (v ++ v) v v.length := ⟨by rw [List.length_append]; exact Nat.le_refl _, by simp⟩
  rcases find3_is (v ++ v) v 1 (by rw [List.length_append]; omega) with ⟨_, h⟩ | ⟨k, h1, h2, h3, h4⟩
  · exact absurd oc (h v.length (by omega))
  · refine ⟨k, h1, h2, ?_, h3, h4⟩
    have := h3.1
    rw [List.length_append] at this
    omega
theorem ok_root (T : Txt K mg c) : Fn P w K mg base 4 "root" (sp_root c) := by
  refine fnP T.a_root sc_root (fun args R RX ⟨x, e, ⟨f, _⟩, _⟩ => by rw [e]; exact ⟨rfl, by simp only [List.all_cons, f, List.all_nil, Bool.and_true]⟩) (d_root T (ok_bent T) (ok_net_letters T) (ok_check_any_row T)) ?_
  rintro args R RX ⟨x, rfl, ox, hX, hR⟩ ad
  have fx := ox.1
  have fr : [x].all D.fro = true := by simp only [List.all_cons, fx, List.all_nil, Bool.and_true]
  have big : sizeLine = 16777216 := sizeLine_eq
  walk_at "st0"
  unfold x_root
  walk_at "go"
  refine ⟨_, rfl, ox, fun hr => ?_, fun hr => ?_⟩
  · obtain ⟨s, rfl, hs, hN, hR⟩ := hR hr
    have ls := (isRow_str s).mp hr
    have nl := net_len s
    obtain ⟨nf, ln⟩ := net_is_flat ls
    walk_at "go"
    refine ⟨s, rfl, hs, ?_⟩
    walk_at "go"
    refine r_kIf (fun h => ?_) (fun h => ?_)
    · have e : netL s = [] := of_decide_eq_true h
      walk_at "go"
      exact Rx.pure (hN e) fr
    · have e : netL s ≠ [] := of_decide_eq_false h
      have hR := hR e
      walk_at "go"
      refine ⟨netL s, rfl, by omega, fun m hb => ?_⟩
      have hlt := bent_lt ln nf e hb
      have il := inner_len (netL s) m (by omega)
      have ine : inner (netL s) m ≠ [] := fun q => by rw [q] at il; simp at il; omega
      obtain ⟨k, ek, ht⟩ := find_turn _ ine
      have hR := hR m k hb ht
      have kl := ht.2.1
      walk_at "go"
      rw [show (((netL s).length : Int) - (m : Int)) = (((netL s).length - m : Nat) : Int) by omega, cut_mid (netL s) m ((netL s).length - m) (by omega) (by omega), show ((netL s).drop m).take ((netL s).length - m - m) = inner (netL s) m from rfl]
      refine ⟨by omega, ?_⟩
      walk_at "go"
      rw [ek]
      walk_at "go"
      rw [cut_to (netL s) m (by omega), cut_to (inner (netL s) m) k kl]
      refine ⟨by rw [List.length_take, List.length_take]; omega, ?_⟩
      walk_at "go"
      rw [show (((netL s).length : Int) - (m : Int)) = (((netL s).length - m : Nat) : Int) by omega, cut_from (netL s) ((netL s).length - m) (by omega)]
      refine ⟨by rw [List.length_append, List.length_take, List.length_take, List.length_drop]; omega, ?_⟩
      walk_at "go"
      refine ⟨divW (by have := ht.1; omega) (by omega), ?_⟩
      walk_at "go"
      refine Rt.pure ?_ rfl
      exact_mod_cast hR
  · walk_at "go"
    exact Rx.pure (hX hr) fr
theorem ok_law_hand (T : Txt K mg c) : Fn P w K mg base 1 "_law_hand" (sp_law_hand c) := by
  refine fnP T.a_law_hand sc_law_hand (fun args R RX ⟨ns, e, _⟩ => by rw [e]; exact ⟨rfl, rfl⟩) (d_law_hand T) ?_
  rintro args R RX ⟨ns, rfl, hR⟩ ad
  have big : sizeLine = 16777216 := sizeLine_eq
  have hl := cut63 (ns.map .int)
  have hm : ∀ d ∈ cutL (ns.map D.int) none (some 63), ∃ n, d = .int n := fun d hd => by
    obtain ⟨n, _, rfl⟩ := List.mem_map.mp (cutL_mem hd)
    exact ⟨n, rfl⟩
  have hf : (cutL (ns.map D.int) none (some 63)).all D.fro = true := List.all_eq_true.mpr fun d hd => by
    obtain ⟨n, rfl⟩ := hm d hd
    rfl
  walk_at "st0"
  unfold x_law_hand
  walk_at "go"
  generalize cutL (ns.map D.int) none (some 63) = ds at hl hm
  refine r_kLc (fun k acc es => es = [.val (.kst (ns.map .int)), .no, .no] ∧ ∃ cells : List Int, acc = cells.map .int ∧ (∀ x ∈ cells, 0 ≤ x) ∧ cells.length ≤ k) ⟨rfl, [], rfl, by simp, Nat.le_refl _⟩ ?_ ?_
  · rintro k d acc es hd ⟨rfl, cells, rfl, hc, hk⟩
    obtain ⟨n, rfl⟩ := hm d (List.mem_of_getElem? hd)
    have kl := (List.getElem?_eq_some_iff.mp hd).1
    refine ⟨.no, get_2, quiet_n, ?_⟩
    rw [set_2]
    walk_at "go"
    refine ⟨by rw [List.length_map]; omega, rfl, cells ++ [if n < 0 then -n else n], by rw [List.map_append]; rfl, fun x hx => ?_, by rw [List.length_append]; simpa using hk⟩
    rcases List.mem_append.mp hx with hx | hx
    · exact hc x hx
    · have := List.mem_singleton.mp hx
      subst this
      split <;> omega
  · rintro acc es ⟨rfl, cells, rfl, hc, hk⟩
    walk_at "go"
    exact Rt.pure (hR _ ⟨cells, 0, 0, 1 + (cells.map D.int).length, 0, rfl, hc, by omega, by omega, by omega, by rw [List.length_map]; omega, by omega⟩) rfl
theorem ok_law_draw (T : Txt K mg c) : Fn P w K mg base 1 "_law_draw" (sp_law_draw c) := by
  refine fnH T.a_law_draw sc_law_draw (fun args R RX ⟨h, m, e, ⟨_, _, _, _, _, e2, _⟩, _⟩ => by rw [e, e2]; exact ⟨rfl, _, _, rfl, rfl, rfl⟩) (d_law_draw T) ?_
  rintro h r R RX ⟨_, m, e, hh, m0, m1, hR⟩ ad
  cases e
  obtain ⟨cells, p, b, s, n, rfl, hc, p0, b0, s0, s1, n0⟩ := hh
  walk_at "st0"
  unfold x_law_draw
  walk_at "go1"
  refine r_ifJ (fun e => ∃ h y, HandOk h ∧ E.free y = true ∧ e = [.bor (ad 0) h, .val (.int m), y, .no, .no]) ?_ ?_
  · walk_at "go"
    refine r_kAnd (fun hb => ?_) (fun hb => ?_)
    · walk_at "go"
      refine r_kIf (fun hp => ?_) (fun hp => ?_)
      · obtain ⟨x, hx, ex⟩ := at_ints p0 (of_decide_eq_true hp)
        have hx := hc x hx
        walk_at "go"
        refine ⟨_, ex, ?_⟩
        walk_at "go"
        refine ⟨okMul_r (by decide), ?_⟩
        walk_at "go"
        refine ⟨by decide, ?_⟩
        walk_at "go"
        refine r_ifJ0 ?_
        walk_at "go"
        refine r_kIf (fun hb => ?_) (fun hb => ?_)
        · walk_at "go"
          exact ⟨_, _, ⟨cells, _, _, _, n, rfl, hc, by omega, hx, by omega, by omega, n0⟩, free_v, rfl⟩
        · walk_at "go"
          exact ⟨_, _, ⟨cells, _, _, _, n, rfl, hc, by omega, b0, by omega, by omega, n0⟩, free_v, rfl⟩
      · walk_at "go"
        exact ⟨_, _, ⟨cells, p, b, s, n, rfl, hc, p0, b0, s0, s1, n0⟩, free_n, rfl⟩
    · walk_at "go"
      exact ⟨_, _, ⟨cells, p, b, s, n, rfl, hc, p0, b0, s0, s1, n0⟩, free_n, rfl⟩
  · rintro e ⟨h, y, ⟨cells, p, b, s, n, rfl, hc, p0, b0, s0, s1, n0⟩, fy, rfl⟩
    walk_at "go"
    refine r_kIf (fun hb => ?_) (fun hb => ?_)
    · walk_at "go"
      refine ⟨by omega, ?_⟩
      walk_at "go"
      refine ⟨divW m0 m1, ?_⟩
      walk_at "go"
      exact Rt.hand (hR _ _ ⟨cells, _, _, _, _, rfl, hc, p0, Int.ediv_nonneg b0 (by omega), s0, s1, n0⟩ (Int.emod_nonneg _ (by omega)) (Int.emod_lt_of_pos _ (by omega))) rfl rfl rfl
    · walk_at "go"
      refine ⟨okMul_l (by decide), ?_⟩
      walk_at "go"
      refine ⟨okMul_r (by decide), ?_⟩
      walk_at "go"
      refine ⟨by decide, ?_⟩
      have z0 : 0 ≤ (s + 7919 * (n + 1)) * 48271 % 2147483647 ∧ (s + 7919 * (n + 1)) * 48271 % 2147483647 < 2147483647 := by omega
      generalize (s + 7919 * (n + 1)) * 48271 % 2147483647 = z at z0
      walk_at "go"
      refine ⟨⟨by decide, by decide⟩, ?_⟩
      walk_at "go"
      refine ⟨okMul_l (by omega), ?_⟩
      walk_at "go"
      refine ⟨by decide, ?_⟩
      have y0 : 0 ≤ z * (z / 1009 + 69621) % 2147483647 ∧ z * (z / 1009 + 69621) % 2147483647 < 2147483647 := by omega
      generalize z * (z / 1009 + 69621) % 2147483647 = y at y0
      walk_at "go"
      refine ⟨⟨by decide, by decide⟩, ?_⟩
      walk_at "go"
      refine ⟨okMul_l (by omega), ?_⟩
      walk_at "go"
      refine ⟨by decide, ?_⟩
      walk_at "go"
      refine ⟨⟨by decide, by decide⟩, ?_⟩
      walk_at "go"
      refine ⟨by omega, ?_⟩
      walk_at "go"
      exact Rt.hand (hR _ _ ⟨cells, _, _, _, _, rfl, hc, p0, b0, s0, s1, by omega⟩ (Int.emod_nonneg _ (by omega)) (Int.emod_lt_of_pos _ (by omega))) rfl rfl rfl
theorem ok_law_undoing (T : Txt K mg c) : Fn P w K mg base 1 "_law_undoing" (sp_law_undoing c) := by
  refine fnP T.a_law_undoing sc_law_undoing (fun args R RX ⟨s, e, _⟩ => by rw [e]; exact ⟨rfl, rfl⟩) (d_law_undoing T) ?_
  rintro args R RX ⟨ch, rfl, hR⟩ ad
  have u := und_one ch
  have l5 : len5 [ch] := by show 1 ≤ _; decide
  walk_at "st0"
  unfold x_law_undoing
  walk_at "go"
  refine ⟨trivial, ?_⟩
  walk_at "go"
  refine r_kIf (fun h => ?_) (fun h => ?_)
  · rw [h, if_pos rfl] at u
    walk_at "go"
    refine ⟨l5, ?_⟩
    rw [u]
    exact Rt.pure hR rfl
  · rw [h, if_neg (by simp)] at u
    walk_at "go"
    refine ⟨l5, ?_⟩
    rw [u]
    exact Rt.pure hR rfl
theorem ok_law_back (T : Txt K mg c) : Fn P w K mg base 2 "_law_back" (sp_law_back c) := by
  refine fnP T.a_law_back sc_law_back (fun args R RX ⟨s, e, _⟩ => by rw [e]; exact ⟨rfl, rfl⟩) (d_law_back T (ok_law_undoing T)) ?_
  rintro args R RX ⟨s, rfl, hs, hR⟩ ad
  have big : sizeLine = 16777216 := sizeLine_eq
  walk_at "st0"
  unfold x_law_back
  walk_at "go"
  refine r_kLc (fun k acc es => es = [.val (.str s), .no] ∧ acc = chars ((s.reverse.take k).map sw2)) ⟨rfl, rfl⟩ ?_ ?_
  · rintro k d acc es hd ⟨rfl, rfl⟩
    obtain ⟨ch, hch, rfl⟩ := chars_get hd
    have hk := (List.getElem?_eq_some_iff.mp hch).1
    rw [List.length_reverse] at hk
    refine ⟨.no, get_1, quiet_n, ?_⟩
    rw [set_1]
    walk_at "go"
    refine ⟨ch, rfl, ?_⟩
    walk_at "go"
    refine ⟨by rw [chars_len, List.length_map, List.length_take]; omega, rfl, ?_⟩
    rw [take_get hch, List.map_append, ← chars_app]
    rfl
  · rintro acc es ⟨rfl, rfl⟩
    rw [chars_len, List.take_length]
    walk_at "go"
    refine ⟨_, strs_chars _, join_ok _ (by rw [List.length_map, List.length_reverse]; omega), Rt.pure ?_ rfl⟩
    rw [show lit "" = [] from rfl, join_chars]
    exact hR
theorem ok_law_net (T : Txt K mg c) : Fn P w K mg base 2 "_law_net" (sp_law_net c) := by
  refine fnP T.a_law_net sc_law_net (fun args R RX ⟨s, e, _⟩ => by rw [e]; exact ⟨rfl, rfl⟩) (d_law_net T (ok_law_undoing T)) ?_
  rintro args R RX ⟨s, rfl, hs, hR⟩ ad
  have big : sizeLine = 16777216 := sizeLine_eq
  walk_at "st0"
  unfold x_law_net
  walk_at "go"
  refine r_kFor (fun k es => ∃ y, E.free y = true ∧ es = [.val (.str s), .val (.mlst (chars ((s.take k).foldl rpush []).reverse)), y]) ⟨_, rfl, rfl⟩ ?_ ?_
  · rintro k d es hd ⟨y, fy, rfl⟩
    obtain ⟨ch, hch, rfl⟩ := chars_get hd
    have hk := (List.getElem?_eq_some_iff.mp hch).1
    have hlen : ((s.take k).foldl rpush []).reverse.length ≤ k := by
      rw [List.length_reverse]
      have := fold_len (s.take k) []
      rw [List.length_take] at this
      simp at this
      omega
    have step := rpush_last ((s.take k).foldl rpush []) ch
    have e1 : (s.take (k + 1)).foldl rpush [] = rpush ((s.take k).foldl rpush []) ch := by rw [take_get hch, List.foldl_append]; rfl
    rw [e1, step]
    generalize ((s.take k).foldl rpush []).reverse = st at hlen
    walk_at "go"
    refine r_ifJ0 ?_
    walk_at "go"
    have small : (chars st).length < sizeLine := by rw [chars_len]; omega
    refine r_kAnd (fun hb => ?_) (fun hb => ?_)
    · have hp : 0 < st.length := by
        have := of_decide_eq_true hb
        rw [chars_len] at this
        omega
      obtain ⟨a, ha⟩ : ∃ a, st.getLast? = some a := by
        cases e : st.getLast? with
        | some a => exact ⟨a, rfl⟩
        | none => rw [List.getLast?_eq_none_iff] at e; subst e; simp at hp
      walk_at "go"
      refine ⟨.str [a], at_chars (at_last ha), ?_⟩
      walk_at "go"
      refine ⟨ch, rfl, ?_⟩
      walk_at "go"
      refine r_kIf (fun h => ?_) (fun h => ?_)
      · have h' : a = sw2 ch := by simpa using h
        subst h'
        walk_at "go"
        have hl : (chars st)[(chars st).length - 1]? = some (.str [sw2 ch]) := by
          rw [chars_len]
          unfold chars
          rw [List.getElem?_map, ← List.getLast?_eq_getElem?, ha]
          rfl
        refine ⟨.str [sw2 ch], hl, ?_⟩
        walk_at "go"
        refine ⟨_, free_v (d := .str [ch]), ?_⟩
        rw [if_pos ha]
        unfold chars
        rw [List.map_dropLast]
      · have h' : ¬ st.getLast? = some (sw2 ch) := fun e => by rw [ha] at e; cases e; simp at h
        walk_at "go"
        refine ⟨small, ?_⟩
        walk_at "go"
        refine ⟨_, free_v (d := .str [ch]), ?_⟩
        rw [if_neg h', ← chars_app]
        rfl
    · have h' : ¬ st.getLast? = some (sw2 ch) := fun e => by
        have : ¬ (0 : Int) < ((chars st).length : Int) := of_decide_eq_false hb
        rw [chars_len] at this
        cases st with
        | nil => cases e
        | cons _ _ => exact this (by simp only [List.length_cons]; omega)
      walk_at "go"
      refine ⟨small, ?_⟩
      walk_at "go"
      refine ⟨_, free_v (d := .str [ch]), ?_⟩
      rw [if_neg h', ← chars_app]
      rfl
  · rintro es ⟨y, fy, rfl⟩
    rw [chars_len, List.take_length]
    walk_at "go"
    have hl := net_len s
    refine ⟨_, strs_chars _, join_ok _ (by unfold netL at hl; omega), ?_⟩
    refine Rt.pure ?_ rfl
    rw [show lit "" = [] from rfl, join_chars]
    exact hR
theorem ok_law_deeds (T : Txt K mg c) : Fn P w K mg base 2 "_law_deeds" (sp_law_deeds c) := by
  refine fnH T.a_law_deeds sc_law_deeds (fun args R RX ⟨h, m, e, hh, _⟩ => by rw [e]; exact ⟨rfl, _, _, rfl, hh.nf, rfl⟩) (d_law_deeds T (ok_law_draw T)) ?_
  rintro h r R RX ⟨_, m, e, hh, m0, m1, hR⟩ ad
  cases e
  have big : sizeLine = 16777216 := sizeLine_eq
  have hf := hh.nf
  have hf0 := hh.nf
  walk_at "st0"
  unfold x_law_deeds
  walk_at "go"
  refine ⟨h, m, rfl, hh, m0, by omega, fun r h1 hh1 r0 r1 => ?_⟩
  walk_at "go"
  obtain ⟨n, hn⟩ : ∃ n : Nat, 1 + r = n := ⟨(1 + r).toNat, by omega⟩
  rw [hn]
  refine ⟨by omega, ?_⟩
  rw [Int.toNat_natCast]
  refine r_kFor (fun k es => ∃ h f q y5 y6, HandOk h ∧ (E.free y5 = true ∧ E.free y6 = true) ∧ es = [.bor (ad 0) h, .val (.int m), .val (.int n), .val (.str f), .val (.str q), y5, y6] ∧ Ls f ∧ f.length = k ∧ Ls q ∧ n ≤ q.length + k ∧ q.length ≤ 26 ∧ (∀ c ∈ f, c ∈ AZ) ∧ ∀ c ∈ q, c ∈ AZ) ⟨h1, [], AZ, _, _, hh1, ⟨free_n, free_n⟩, rfl, Ls.nil, rfl, AZ_L, by rw [AZ_len]; omega, by rw [AZ_len]; omega, (fun _ h => nomatch h), fun _ h => h⟩ ?_ ?_
  · rintro k d es hd ⟨h, f, q, y5, y6, hh, ⟨f5, f6⟩, rfl, lf, fl, lq, ql, q2, zf, zq⟩
    have hf := hh.nf
    obtain ⟨hk, rfl⟩ := range_get hd
    walk_at "go"
    refine ⟨h, _, rfl, hh, by omega, by omega, fun z h2 hh2 z0 z1 => ?_⟩
    have hf2 := hh2.nf
    obtain ⟨j, rfl⟩ : ∃ j : Nat, z = j := ⟨z.toNat, by omega⟩
    obtain ⟨a, ha⟩ : ∃ a, q[j]? = some a := ⟨_, List.getElem?_eq_getElem (by omega)⟩
    walk_at "go"
    refine ⟨a, atI_nat ha, ?_⟩
    walk_at "go"
    refine ⟨by simp only [List.length_cons, List.length_nil]; omega, ?_⟩
    walk_at "go"
    rw [show ((j : Int) + 1) = ((j + 1 : Nat) : Int) by omega, cut_from q (j + 1) (by omega)]
    refine ⟨h2, _, _, _, _, hh2, ⟨free_v, free_v⟩, rfl, lf.app ?_, ?_, fun x hx => lq x (List.mem_of_mem_drop hx), ?_, ?_, ?_, fun x hx => zq x (List.mem_of_mem_drop hx)⟩
    · intro x hx
      rw [List.mem_singleton.mp hx]
      exact lq a (List.mem_of_getElem? ha)
    · rw [List.length_append]; simp [fl]
    · rw [List.length_drop]; omega
    · rw [List.length_drop]; omega
    · intro x hx
      rcases List.mem_append.mp hx with hx | hx
      · exact zf x hx
      · rw [List.mem_singleton.mp hx]; exact zq a (List.mem_of_getElem? ha)
  · rintro es ⟨h, f, q, y5, y6, hh, ⟨f5, f6⟩, rfl, lf, fl, lq, ql, q2, zf, zq⟩
    rw [range_len] at fl
    walk_at "go"
    exact Rt.hand (hR f h hh lf zf (by omega) (by omega)) rfl rfl hf0
theorem ok_law_row (T : Txt K mg c) : Fn P w K mg base 2 "_law_row" (sp_law_row c) := by
  refine fnH T.a_law_row sc_law_row (fun args R RX ⟨h, deeds, n, e, hh, _⟩ => by rw [e]; exact ⟨rfl, _, _, rfl, hh.nf, rfl⟩) (d_law_row T (ok_law_draw T)) ?_
  rintro h r R RX ⟨_, deeds, n, e, hh, ld, d1, d2, n0, n1, hR⟩ ad
  cases e
  have big : sizeLine = 16777216 := sizeLine_eq
  have hf := hh.nf
  have hf0 := hh.nf
  walk_at "st0"
  unfold x_law_row
  walk_at "go"
  refine ⟨by omega, ?_⟩
  walk_at "go"
  refine ⟨by rw [List.length_map]; omega, ?_⟩
  have l2 : Ls (deeds ++ deeds.map up2) := fun x hx => by
    rcases List.mem_append.mp hx with hx | hx
    · exact ld x hx
    · obtain ⟨y, hy, rfl⟩ := List.mem_map.mp hx
      exact up_L (ld y hy)
  have g1 : 1 ≤ (deeds ++ deeds.map up2).length := by rw [List.length_append]; omega
  have g2 : (deeds ++ deeds.map up2).length ≤ 1000 := by rw [List.length_append, List.length_map]; omega
  generalize deeds ++ deeds.map up2 = dd at l2 g1 g2
  walk_at "go"
  refine ⟨by omega, ?_⟩
  refine r_kLc (fun k acc es => ∃ h s, HandOk h ∧ es = [.bor (ad 0) h, .val (.str deeds), .val (.int n), .val (.str dd), .no] ∧ acc = chars s ∧ Ls s ∧ s.length = k) ⟨h, [], hh, rfl, rfl, (fun _ h => nomatch h), rfl⟩ ?_ ?_
  · rintro k d acc es hd ⟨h, s, hh, rfl, rfl, ls, hl⟩
    have hf := hh.nf
    have hk := (List.getElem?_eq_some_iff.mp hd).1
    rw [show (rangeD 0 n.toNat).length = n.toNat by unfold rangeD; simp] at hk
    refine ⟨.no, get_4, quiet_n, ?_⟩
    rw [set_4]
    walk_at "go"
    refine ⟨h, _, rfl, hh, by omega, by omega, fun r h' hh' r0 r1 => ?_⟩
    obtain ⟨ch, hm, ha⟩ := at_mem r0 r1
    walk_at "go"
    refine ⟨ch, ha, ?_⟩
    walk_at "go"
    refine ⟨by rw [chars_len]; omega, h', s ++ [ch], hh', rfl, ?_, ?_, ?_⟩
    · rw [← chars_app]; rfl
    · intro x hx
      rcases List.mem_append.mp hx with hx | hx
      · exact ls x hx
      · rw [List.mem_singleton.mp hx]; exact l2 ch hm
    · rw [List.length_append]; simp [hl]
  · rintro acc es ⟨h, s, hh, rfl, rfl, ls, hl⟩
    have hf := hh.nf
    rw [show (rangeD 0 n.toNat).length = n.toNat by unfold rangeD; simp] at hl
    walk_at "go"
    refine ⟨_, strs_chars _, join_ok _ (by omega), Rt.hand ?_ rfl rfl hf0⟩
    rw [show lit "" = [] from rfl, join_chars]
    exact hR s h hh ls (by omega)
end

section
variable {P : Program} {w : World} {K : PySem.W.Frag} {mg : Str → Option Value} {base : Heap} {c : Cs}
theorem r_whileE {D0 : XD} {es : List E} {ct : XT} {s : XS} {ι : Type} (es0 : ι → List E) (Cd : ι → Prop) (rest : ∀ i, Cd i → D0.nx (es0 i)) (k : (∀ i, Cd i → D0.nx (es0 i)) → dWhile ct s D0 es) : dWhile ct s D0 es := k rest
theorem down_get {n k : Nat} {d : D} (h : (downD (n : Int) n)[k]? = some d) : k < n ∧ d = .int ((n - k : Nat) : Int) := by
  have h1 := (List.getElem?_eq_some_iff.mp h).1
  have e : (downD (n : Int) n).length = n := by unfold downD; simp
  rw [e] at h1
  unfold downD at h
  rw [List.getElem?_map, List.getElem?_range h1] at h
  cases h
  refine ⟨h1, ?_⟩
  show D.int ((n : Int) + (k : Int) * -1) = _
  congr 1
  omega
theorem down_len (n : Nat) : (downD (n : Int) n).length = n := by unfold downD; simp
theorem ok_law_root (T : Txt K mg c) : Fn P w K mg base 3 "_law_root" (sp_law_root c) := by
  refine fnP T.a_law_root sc_law_root (fun args R RX ⟨s, e, _⟩ => by rw [e]; exact ⟨rfl, rfl⟩) (d_law_root T (ok_law_net T) (ok_law_undoing T)) ?_
  rintro args R RX ⟨s, rfl, ls, fl, hs0, hs, hR⟩ ad
  have big : sizeLine = 16777216 := sizeLine_eq
  walk_at "st0"
  unfold x_law_root
  walk_at "go"
  refine r_whileE (fun k : Nat => [.val (.str s), .val (.int k), .no, .no, .no]) (fun k => Bent s k) (fun k hb => ?_) (fun rest => ?_)
  · have hlt := bent_lt ls fl hs0 hb
    have il := inner_ln s k (by omega)
    have v0 : inner s k ≠ [] := fun q => by rw [q] at il; simp at il; omega
    obtain ⟨kk, _, ht⟩ := find_turn _ v0
    have hR := hR k kk hb ht
    obtain ⟨z1, z2, z3, z4, z5, z6⟩ := root_has v0 ht
    obtain ⟨e1, e2⟩ := bent_parts ls hb
    have lv : Ls (inner s k) := fun x hx => ls x (List.mem_of_mem_drop (List.mem_of_mem_take hx))
    have pick := fun t => root_pick (t := t) v0 ht
    generalize hn : (inner s k).length = n at *
    walk_at "go"
    refine ⟨okMul_l (by decide), ?_⟩
    walk_at "go"
    rw [show ((s.length : Int) - 2 * (k : Int)) = (n : Int) by omega]
    refine ⟨by omega, ?_⟩
    rw [show ((n : Int) - 0).toNat = n by omega]
    refine r_kFor (fun i es => ∃ y3 y4, (E.free y3 = true ∧ E.free y4 = true) ∧ es = [.val (.str s), .val (.int k), .val (.int n), y3, y4] ∧ ∀ t, n - i < t → t ≤ n → t ∣ n → repL ((inner s k).take (n / t)) t ≠ inner s k) ⟨_, _, ⟨free_n, free_n⟩, rfl, fun t h1 h2 => absurd h1 (by omega)⟩ ?_ ?_
    · rintro i d es hd ⟨y3, y4, ⟨f3, f4⟩, rfl, no⟩
      obtain ⟨hi, rfl⟩ := down_get hd
      obtain ⟨t, et⟩ : ∃ t, n - i = t := ⟨_, rfl⟩
      rw [et] at no ⊢
      have t1 : 1 ≤ t := by omega
      have tn : t ≤ n := by omega
      walk_at "go"
      refine r_ifJ0 ?_
      walk_at "go"
      refine ⟨by omega, ?_⟩
      walk_at "go"
      refine r_kIf (fun h => ?_) (fun h => ?_)
      · have td : t ∣ n := by
          have := of_decide_eq_true h
          exact Int.natCast_dvd_natCast.mp (Int.dvd_of_emod_eq_zero this)
        have q0 : n / t ≤ n := Nat.div_le_self _ _
        have e5 : n / t * t = n := Nat.div_mul_cancel td
        walk_at "go"
        refine ⟨divW (by omega) (by omega), ?_⟩
        walk_at "go"
        rw [show ((k : Int) + (n : Int) / (t : Int)) = ((k + n / t : Nat) : Int) by norm_cast, cut_to s (k + n / t) (by omega), show ((s.length : Int) - (k : Int)) = ((s.length - k : Nat) : Int) by omega, cut_from s (s.length - k) (by omega)]
        have ef : s.take (k + n / t) ++ s.drop (s.length - k) = s.take k ++ (inner s k).take (n / t) ++ back1 (s.take k) := by
          rw [e2]
          congr 1
          unfold inner
          rw [List.take_add, List.take_take, Nat.min_eq_left (by omega)]
        have flen : (s.take (k + n / t) ++ s.drop (s.length - k)).length ≤ 200 := by rw [List.length_append, List.length_take, List.length_drop]; omega
        refine ⟨by rw [List.length_take, List.length_drop]; omega, ?_⟩
        have wl : ((inner s k).take (n / t)).length = n / t := by rw [List.length_take, hn]; omega
        have lw : Ls ((inner s k).take (n / t)) := fun x hx => lv x (List.mem_of_mem_take hx)
        have key := rep_is (t := t) ls fl hb lw (by rw [wl, hn]; exact e5)
        rw [← ef] at key
        have sz : (s.take (k + n / t) ++ s.drop (s.length - k)).length * t ≤ 200 * 200 := Nat.mul_le_mul flen (by omega)
        have rl := rep_len (s.take (k + n / t) ++ s.drop (s.length - k)) t
        generalize s.take (k + n / t) ++ s.drop (s.length - k) = f at key flen sz ef rl
        walk_at "go"
        refine ⟨by omega, by rw [Int.toNat_natCast]; omega, ?_⟩
        rw [Int.toNat_natCast]
        walk_at "go"
        refine ⟨_, rfl, by show (repL f t).length ≤ 50000; rw [rl]; omega, ?_⟩
        walk_at "go"
        refine r_kIf (fun h => ?_) (fun h => ?_)
        · have h := key.mp (of_decide_eq_true h)
          have t2 := pick t t1 td h
          have t3 : t = n / kk := Nat.le_antisymm t2 (Nat.le_of_not_lt fun q => no _ (by omega) z5 z6 (by rw [z3]; exact z1))
          walk_at "go"
          refine Rt.pure ?_ rfl
          have e7 : f = rootOf s k kk := by
            unfold rootOf
            rw [ef, e2, t3, z3]
          rw [e7, t3, ← hn]
          exact hR
        · have h : ¬ _ := fun q => absurd (key.mpr q) (of_decide_eq_false h)
          walk_at "go"
          refine ⟨_, _, ⟨free_v, free_v⟩, rfl, fun t' h1 h2 h3 h4 => ?_⟩
          by_cases q : t' = t
          · subst q; exact h h4
          · exact no t' (by omega) h2 h3 h4
      · have td : ¬ t ∣ n := fun q => absurd (Int.emod_eq_zero_of_dvd (Int.natCast_dvd_natCast.mpr q)) (of_decide_eq_false h)
        walk_at "go"
        refine ⟨_, _, ⟨free_v, f4⟩, rfl, fun t' h1 h2 h3 h4 => ?_⟩
        by_cases q : t' = t
        · subst q; exact td h3
        · exact no t' (by omega) h2 h3 h4
    · rintro es ⟨y3, y4, ⟨f3, f4⟩, rfl, no⟩
      rw [down_len] at no
      exact absurd z1 (by have := no (n / kk) (by omega) z5 z6; rw [z3] at this; exact this)
  · refine r_while (fun m es => ∃ k : Nat, m = s.length - k ∧ es = [.val (.str s), .val (.int k), .no, .no, .no] ∧ 2 * k ≤ s.length ∧ ∀ i, i < k → ∀ a b, s[i]? = some a → s[s.length - 1 - i]? = some b → a = sw2 b) s.length ⟨0, rfl, rfl, Nat.zero_le _, fun i h => absurd h (by omega)⟩ ?_
    rintro m es ⟨k, rfl, rfl, hk, hb⟩
    walk_at "go"
    refine ⟨okMul_l (by decide), ?_⟩
    walk_at "go"
    refine r_kAnd (fun h => ?_) (fun h => ?_)
    · have hlt := of_decide_eq_true h
      obtain ⟨a, ha⟩ : ∃ a, s[k]? = some a := ⟨_, List.getElem?_eq_getElem (by omega)⟩
      obtain ⟨b, hb'⟩ : ∃ b, s[s.length - 1 - k]? = some b := ⟨_, List.getElem?_eq_getElem (by omega)⟩
      walk_at "go"
      refine ⟨a, atI_nat ha, ?_⟩
      walk_at "go"
      refine ⟨b, by rw [show ((s.length : Int) - 1 - (k : Int)) = ((s.length - 1 - k : Nat) : Int) by omega]; exact atI_nat hb', ?_⟩
      walk_at "go"
      refine ⟨b, rfl, ?_⟩
      walk_at "go"
      refine r_kIf (fun h => ?_) (fun h => ?_)
      · have e : a = sw2 b := by simpa using h
        walk_at "go"
        refine ⟨s.length - (k + 1), by omega, k + 1, rfl, rfl, by omega, fun i hi x y hx hy => ?_⟩
        by_cases q : i = k
        · subst q
          rw [ha] at hx
          rw [hb'] at hy
          cases hx
          cases hy
          exact e
        · exact hb i (by omega) x y hx hy
      · have e : ¬ a = sw2 b := by simpa using h
        refine rest k ⟨hk, hb, fun _ x y hx hy => ?_⟩
        rw [ha] at hx
        rw [hb'] at hy
        cases hx
        cases hy
        exact e
    · have hlt := of_decide_eq_false h
      exact rest k ⟨hk, hb, fun q => absurd q (by omega)⟩
end

section
variable {P : Program} {w : World} {K : PySem.W.Frag} {mg : Str → Option Value} {base : Heap} {c : Cs}
theorem ord_find : ∀ c < 128, isL c → findS (lit "aAbBcCdDeEfFgGhHiIjJkKlLmMnNoOpPqQrRsStTuUvVwWxXyYzZ") [c] = keyOf c := by decide +kernel
theorem lt_key_at : ∀ (s t : List Nat) (k : Nat) (a b : Nat), s.take k = t.take k → s[k]? = some a → t[k]? = some b → a ≠ b → ltKey s t = decide (keyOf a < keyOf b)
  | [], _, _, _, _, _, h, _, _ => by simp at h
  | _ :: _, [], _, _, _, _, _, h, _ => by simp at h
  | x :: s, y :: t, 0, a, b, _, h1, h2, h3 => by
    simp at h1 h2
    subst h1 h2
    unfold ltKey
    rw [if_neg h3]
  | x :: s, y :: t, k + 1, a, b, h, h1, h2, h3 => by
    simp only [List.take_succ_cons, List.cons.injEq] at h
    simp at h1 h2
    unfold ltKey
    rw [if_pos h.1]
    exact lt_key_at s t k a b h.2 h1 h2 h3
theorem ok_law_is_earlier (T : Txt K mg c) : Fn P w K mg base 1 "_law_is_earlier" (sp_law_is_earlier c) := by
  refine fnP T.a_law_is_earlier sc_law_is_earlier (fun args R RX ⟨s, t, e, _⟩ => by rw [e]; exact ⟨rfl, rfl⟩) (d_law_is_earlier T) ?_
  rintro args R RX ⟨s, t, rfl, ls, lt, hs, ht, hR⟩ ad
  have big : sizeLine = 16777216 := sizeLine_eq
  rw [earlier_is ls lt] at hR
  walk_at "st0"
  unfold x_law_is_earlier
  walk_at "go"
  refine r_kIf (fun h => ?_) (fun h => ?_)
  · have h : ¬ s.length = t.length := fun q => absurd h (by simp [q])
    rw [if_neg h] at hR
    walk_at "go"
    refine Rt.pure ?_ rfl
    rw [show decide ((s.length : Int) < (t.length : Int)) = decide (s.length < t.length) by simp]
    exact hR
  · have h : s.length = t.length := by
      have : (s.length : Int) = (t.length : Int) := by simpa using h
      omega
    rw [if_pos h] at hR
    walk_at "go"
    refine r_kFor (fun k es => ∃ y, E.free y = true ∧ es = [.val (.str s), .val (.str t), .val (.str (lit "aAbBcCdDeEfFgGhHiIjJkKlLmMnNoOpPqQrRsStTuUvVwWxXyYzZ")), y] ∧ s.take k = t.take k) ⟨_, free_n, rfl, by simp⟩ ?_ ?_
    · rintro k d es hd ⟨y, fy, rfl, ih⟩
      obtain ⟨hk, rfl⟩ := range_get hd
      have hk : k < s.length := by omega
      obtain ⟨a, ha⟩ : ∃ a, s[k]? = some a := ⟨_, List.getElem?_eq_getElem hk⟩
      obtain ⟨b, hb⟩ : ∃ b, t[k]? = some b := ⟨_, List.getElem?_eq_getElem (by omega)⟩
      have la := ls a (List.mem_of_getElem? ha)
      have lb := lt b (List.mem_of_getElem? hb)
      have fa := ord_find a (by unfold isL at la; omega) la
      have fb := ord_find b (by unfold isL at lb; omega) lb
      walk_at "go"
      refine ⟨a, atI_nat ha, ?_⟩
      walk_at "go"
      refine ⟨b, atI_nat hb, ?_⟩
      walk_at "go"
      refine r_kIf (fun h => ?_) (fun h => ?_)
      · have h : ¬ a = b := by simpa using h
        rw [lt_key_at s t k a b ih ha hb h] at hR
        walk_at "go"
        refine ⟨a, atI_nat ha, ?_⟩
        walk_at "go"
        refine ⟨b, atI_nat hb, ?_⟩
        walk_at "go"
        rw [fa, fb]
        exact Rt.pure hR rfl
      · have h : a = b := by simpa using h
        subst h
        walk_at "go"
        exact ⟨_, free_v, rfl, by rw [take_get ha, take_get hb, ih]⟩
    · rintro es ⟨y, fy, rfl, ih⟩
      rw [range_len] at ih
      rw [List.take_length, h, List.take_length] at ih
      subst ih
      rw [lt_key_self] at hR
      walk_at "go"
      exact Rt.pure hR rfl
end

section
variable {P : Program} {w : World} {K : PySem.W.Frag} {mg : Str → Option Value} {base : Heap} {c : Cs}
structure Wd (K : PySem.W.Frag) (c : Cs) : Prop where
  h1 : PySem.W.exmOne K (.ref c.NoRoot) (.ref c.NoRoot) = some true
theorem ok_law_asked (T : Txt K mg c) (wd : Wd K c) : Fn P w K mg base 5 "_law_asked" (sp_law_asked c) := by
  refine fnP T.a_law_asked sc_law_asked (fun args R RX ⟨s, e, _⟩ => by rw [e]; exact ⟨rfl, rfl⟩) (d_law_asked T (ok_root T)) ?_
  rintro args R RX ⟨s, rfl, ls, hs, h0, hR⟩ ad
  have rs : isRow (.str s) = true := (isRow_str s).mpr ls
  walk_at "st0"
  unfold x_law_asked
  walk_at "go"
  refine ⟨_, rfl, okV_s s, fun h => absurd (rs.symm.trans h) (by simp), fun _ => ⟨s, rfl, by omega, fun e => ?_, fun e m k hb ht => ?_⟩⟩
  · walk_at "go"
    refine ⟨true, wd.h1, fun _ => ?_, fun h => nomatch h⟩
    walk_at "go"
    exact Rt.pure (h0 e) rfl
  · walk_at "go"
    exact Rt.pure (hR e m k hb ht) rfl
end

section
variable {P : Program} {w : World} {K : PySem.W.Frag} {mg : Str → Option Value} {base : Heap} {c : Cs}
theorem eqD_rt {a b : List Nat} {i j : Int} : eqD (.tup [.str a, .int i]) (.tup [.str b, .int j]) = decide (a = b ∧ i = j) := by
  have h1 := eqD_ss (s := a) (t := b)
  have h2 := eqD_ii (i := i) (j := j)
  unfold eqD at h1 h2 ⊢
  simp only [D.py, pys, PyData.eqv, PyData.eqvAll] at h1 h2 ⊢
  rw [h1, Bool.and_true]
  by_cases x : a = b <;> by_cases y : i = j <;> simp [x, y]
theorem ok_law_roots_right (T : Txt K mg c) (wd : Wd K c) : Fn P w K mg base 6 "_law_roots_right" (sp_law_roots_right c) := by
  refine fnH T.a_law_roots_right sc_law_roots_right (fun args R RX ⟨h, deeds, e, hh, _⟩ => by rw [e]; exact ⟨rfl, _, _, rfl, hh.nf, rfl⟩) (d_law_roots_right T (ok_root T) (ok_net T) (ok_power T) (ok_law_root T) (ok_law_asked T wd) (ok_law_net T) (ok_law_back T) (ok_law_draw T) (ok_law_row T)) ?_
  rintro h r R RX ⟨_, deeds, e, hh, ld, d1, d2, hR⟩ ad
  cases e
  have big : sizeLine = 16777216 := sizeLine_eq
  have hf := hh.nf
  have hf0 := hh.nf
  walk_at "st0"
  unfold x_law_roots_right
  walk_at "go"
  refine ⟨h, 4, rfl, hh, by decide, by decide, fun q h1 hh1 q0 q1 => ?_⟩
  have hf1 := hh1.nf
  walk_at "go"
  refine ⟨h1, deeds, _, rfl, hh1, ld, d1, d2, by omega, by omega, fun v h2 hh2 lv vl => ?_⟩
  have hf2 := hh2.nf
  walk_at "go"
  refine ⟨h2, 4, rfl, hh2, by decide, by decide, fun q' h3 hh3 q'0 q'1 => ?_⟩
  have hf3 := hh3.nf
  walk_at "go"
  refine ⟨h3, deeds, _, rfl, hh3, ld, d1, d2, by omega, by omega, fun b h4 hh4 lb bl => ?_⟩
  have hf4 := hh4.nf
  have bb : (back1 b).length = b.length := back_len b
  walk_at "go"
  refine ⟨h4, 13, rfl, hh4, by decide, by decide, fun z h5 hh5 z0 z1 => ?_⟩
  have hf5 := hh5.nf
  walk_at "go"
  obtain ⟨n, hn⟩ : ∃ n : Nat, 1 + z = n := ⟨(1 + z).toNat, by omega⟩
  rw [hn]
  have v4 : v.length ≤ 4 := by omega
  have vn : v.length * n ≤ 4 * 13 := Nat.mul_le_mul v4 (by omega)
  have rl := rep_len v n
  have lr := rep_L lv n
  refine ⟨by omega, by rw [Int.toNat_natCast]; omega, ?_⟩
  rw [Int.toNat_natCast, show (List.replicate n v).flatten = repL v n from rfl]
  walk_at "go"
  refine ⟨by omega, ?_⟩
  walk_at "go"
  refine ⟨b, rfl, by omega, ?_⟩
  walk_at "go"
  refine ⟨by rw [List.length_append]; omega, ?_⟩
  walk_at "go"
  refine ⟨h5, 6, rfl, hh5, by decide, by decide, fun kd h6 hh6 k0 k1 => ?_⟩
  have hf6 := hh6.nf
  walk_at "go"
  have l0 : Ls (b ++ repL v n ++ back1 b) := (lb.app lr).app (back_L lb)
  have n0 : (b ++ repL v n ++ back1 b).length ≤ 200 := by rw [List.length_append, List.length_append]; omega
  generalize b ++ repL v n ++ back1 b = row at l0 n0
  refine r_ifJ (fun e => ∃ h row, HandOk h ∧ e = [.bor (ad 0) h, .val (.str deeds), .val (.str v), .val (.str b), .val (.str row), .val (.int kd), .no, .no] ∧ Ls row ∧ row.length ≤ 200) ?_ ?_
  · walk_at "go"
    refine r_kIf (fun _ => ?_) (fun _ => ?_)
    · walk_at "go"
      refine ⟨h6, 30, rfl, hh6, by decide, by decide, fun q h7 hh7 q0 q1 => ?_⟩
      have hf7 := hh7.nf
      walk_at "go"
      refine ⟨h7, deeds, _, rfl, hh7, ld, d1, d2, by omega, by omega, fun s h8 hh8 ls sl => ?_⟩
      have hf8 := hh8.nf
      walk_at "go"
      exact ⟨h8, s, hh8, rfl, ls, by omega⟩
    · walk_at "go"
      exact ⟨h6, row, hh6, rfl, l0, n0⟩
  rintro e ⟨h, row, hh, rfl, l0, n0⟩
  have hf := hh.nf
  walk_at "go"
  refine r_ifJ (fun e => ∃ h row v, HandOk h ∧ e = [.bor (ad 0) h, .val (.str deeds), .val (.str v), .val (.str b), .val (.str row), .val (.int kd), .no, .no] ∧ Ls row ∧ row.length ≤ 200) ?_ ?_
  · walk_at "go"
    refine r_kIf (fun _ => ?_) (fun _ => ?_)
    · walk_at "go"
      refine ⟨h, 9, rfl, hh, by decide, by decide, fun q h1 hh1 q0 q1 => ?_⟩
      have hf1 := hh1.nf
      walk_at "go"
      refine ⟨h1, deeds, _, rfl, hh1, ld, d1, d2, by omega, by omega, fun v h2 hh2 lv vl => ?_⟩
      have hf2 := hh2.nf
      walk_at "go"
      refine ⟨okMul_l (by decide), ?_⟩
      walk_at "go"
      refine ⟨divW (by omega) (by omega), ?_⟩
      walk_at "go"
      obtain ⟨n, hn⟩ : ∃ n : Nat, (200 - 2 * (b.length : Int)) / (v.length : Int) = n := ⟨((200 - 2 * (b.length : Int)) / (v.length : Int)).toNat, by have := Int.ediv_nonneg (a := 200 - 2 * (b.length : Int)) (b := (v.length : Int)) (by omega) (by omega); omega⟩
      rw [hn]
      have vn : v.length * n ≤ 200 - 2 * b.length := by
        have a := Int.ediv_mul_le (200 - 2 * (b.length : Int)) (b := (v.length : Int)) (by omega)
        rw [hn] at a
        have a2 : ((n * v.length : Nat) : Int) ≤ 200 - 2 * (b.length : Int) := by exact_mod_cast a
        rw [Nat.mul_comm]
        omega
      have n200 : n ≤ 200 := by
        have : n ≤ v.length * n := Nat.le_mul_of_pos_left n (by omega)
        omega
      have rl := rep_len v n
      have lr := rep_L lv n
      refine ⟨by omega, by rw [Int.toNat_natCast]; omega, ?_⟩
      rw [Int.toNat_natCast, show (List.replicate n v).flatten = repL v n from rfl]
      walk_at "go"
      refine ⟨by omega, ?_⟩
      walk_at "go"
      refine ⟨b, rfl, by omega, ?_⟩
      walk_at "go"
      refine ⟨by rw [List.length_append]; omega, ?_⟩
      walk_at "go"
      exact ⟨h2, _, v, hh2, rfl, (lb.app lr).app (back_L lb), by rw [List.length_append, List.length_append]; omega⟩
    · walk_at "go"
      exact ⟨h, row, v, hh, rfl, l0, n0⟩
  rintro e ⟨h, row, v, hh, rfl, l0, n0⟩
  have hf := hh.nf
  obtain ⟨nf, ln⟩ := net_is_flat l0
  have nl := net_len row
  have hRh := hR h hh
  walk_at "go"
  refine ⟨row, rfl, by omega, ?_⟩
  walk_at "go"
  refine ⟨row, rfl, l0, n0, fun e => ?_, fun ne m k hb ht => ?_⟩
  · rw [e]
    walk_at "go"
    refine r_kIf (fun _ => ?_) (fun h => absurd h (by decide))
    walk_at "go"
    exact Rt.hand hRh rfl rfl hf0
  · have hlt := bent_lt ln nf ne hb
    have il := inner_ln (netL row) m (by omega)
    have v0 : inner (netL row) m ≠ [] := fun q => by rw [q] at il; simp at il; omega
    obtain ⟨z1, z2, z3, z4, z5, z6⟩ := root_has v0 ht
    obtain ⟨g1, g2, g3, g4, g5⟩ := root_root ln nf hb v0 ht
    have kn := ht.2.1
    have k1 := ht.1
    have rr : isRow (.str (rootOf (netL row) m k)) = true := (isRow_str _).mpr g1
    have gne : rootOf (netL row) m k ≠ [] := fun q => by rw [q] at g3; simp at g3; omega
    have nr : netL (rootOf (netL row) m k) = rootOf (netL row) m k := net_flat g2 g1
    walk_at "go"
    refine r_kIf (fun h => absurd (of_decide_eq_true h) ne) (fun _ => ?_)
    walk_at "go"
    refine r_kOr (fun h => absurd h (show ¬ (!isT "tuple" "tuple") = true from by decide)) (fun _ => ?_)
    walk_at "go"
    refine ⟨_, rfl, ln, nf, ne, by omega, fun m' k' hb' ht' => ?_⟩
    obtain rfl := bent_uni hb hb'
    obtain rfl := turn_uni ht ht'
    walk_at "go"
    refine r_kOr (fun h => absurd h (by rw [eqD_rt]; simp)) (fun _ => ?_)
    walk_at "go"
    refine ⟨_, rfl, ?_⟩
    walk_at "go"
    refine r_kIf (fun h => absurd h (show ¬ isT "int" "bool" = true from by decide)) (fun _ => ?_)
    walk_at "go"
    refine ⟨_, rfl, ?_⟩
    walk_at "go"
    refine ⟨_, rfl, ?_⟩
    walk_at "go"
    have t2 : (inner (netL row) m).length / k ≤ 200 := by omega
    have w1 : within (.int ((inner (netL row) m).length / k : Nat)) (-1000) 1000 = true := by
      unfold within
      simp only [Bool.and_eq_true, decide_eq_true_eq]
      omega
    have sz : (rootOf (netL row) m k).length * ((inner (netL row) m).length / k) ≤ 200 * 200 := Nat.mul_le_mul (by omega) t2
    have pw : powL (netL (rootOf (netL row) m k)) (((inner (netL row) m).length / k : Nat) : Int) = netL row := by
      rw [pow_net g1]
      unfold powL
      rw [if_neg (by omega), Int.toNat_natCast]
      exact g4
    refine ⟨_, _, rfl, okV_s _, ⟨rfl, ty_int⟩, fun _ _ => ⟨_, _, rfl, rfl, by rw [Int.natAbs_natCast]; omega, by omega, ?_⟩, fun h => absurd (rr.symm.trans h) (by simp), fun _ h => absurd (w1.symm.trans h) (by simp)⟩
    rw [pw]
    walk_at "go"
    refine r_kAndV rfl (fun _ => ?_) (fun h => absurd h (by simp))
    walk_at "go"
    refine ⟨_, rfl, ?_⟩
    walk_at "go"
    refine ⟨_, rfl, okV_s _, fun _ => ⟨_, rfl, by omega, ?_⟩, fun h => absurd (rr.symm.trans h) (by simp)⟩
    rw [nr]
    walk_at "go"
    refine ⟨_, rfl, ?_⟩
    walk_at "go"
    refine r_kAndV rfl (fun _ => ?_) (fun h => absurd h (by simp))
    walk_at "go"
    refine ⟨_, rfl, ?_⟩
    walk_at "go"
    refine ⟨_, rfl, okV_s _, fun h => absurd (rr.symm.trans h) (by simp), fun _ => ⟨_, rfl, by omega, fun e => absurd (nr.symm.trans e) gne, fun _ m' k' hb' ht' => ?_⟩⟩
    rw [nr] at hb' ht' ⊢
    obtain ⟨y1, y2⟩ := g5 m' k' hb' ht'
    rw [show (rootOf (netL row) m k).take m' ++ (inner (rootOf (netL row) m k) m').take k' ++ (rootOf (netL row) m k).drop ((rootOf (netL row) m k).length - m') = rootOf (netL row) m k from y1, y2]
    walk_at "go"
    refine ⟨_, rfl, ?_⟩
    walk_at "go"
    refine Rt.hand ?_ rfl rfl hf0
    rw [show eqD (.tup [.str (rootOf (netL row) m k), .int ((1 : Nat) : Int)]) (.tup [.str (rootOf (netL row) m k), .int 1]) = true by rw [eqD_rt]; simp]
    exact hRh
end

section
variable {P : Program} {w : World} {K : PySem.W.Frag} {mg : Str → Option Value} {base : Heap} {c : Cs}
theorem ok_law (T : Txt K mg c) (wd : Wd K c) {f : Addr} {fd : FuncData} (F : Fun K "law" "law" s_law f fd) : FnOk P w K mg base (L2.CX P w) 7 f fd ["_law_script"] (spOf K (sp_law c)) := by
  refine fnL F sc_law (fun args R RX ⟨ns, e, _⟩ => by rw [e]; exact ⟨rfl, rfl⟩) (d_law T (ok_root T) (ok_law_is_earlier T) (ok_earlier T) (ok_law_draw T) (ok_law_row T) (ok_law_roots_right T wd) (ok_law_deeds T) (ok_law_hand T)) ?_
  rintro args R RX ⟨ns, rfl, hR⟩ ad
  have big : sizeLine = 16777216 := sizeLine_eq
  walk_at "st0"
  unfold x_law
  walk_at "go"
  refine ⟨ns, rfl, fun h hh => ?_⟩
  have hf := hh.nf
  walk_at "go"
  refine ⟨h, 3, rfl, hh, by decide, by decide, fun deeds h1 hh1 ld zd d1 d2 => ?_⟩
  have hf1 := hh1.nf
  walk_at "go"
  refine ⟨by decide, ?_⟩
  refine r_kFor (fun k es => ∃ h y3, HandOk h ∧ E.free y3 = true ∧ E.quiet y3 = true ∧ es = [.val (.kst (ns.map .int)), .val h, .val (.str deeds), y3, .no, .no, .no, .no, .no]) ⟨h1, _, hh1, free_n, quiet_n, rfl⟩ ?_ ?_
  · rintro k d es hd ⟨h, y3, hh, f3, q3, rfl⟩
    obtain ⟨_, rfl⟩ := range_get hd
    have hf := hh.nf
    walk_at "go"
    refine ⟨h, deeds, rfl, hh, ld, d1, d2, fun h' hh' => ?_⟩
    have hf' := hh'.nf
    walk_at "go"
    refine r_kIf (fun h => nomatch h) (fun _ => ?_)
    walk_at "go"
    exact ⟨h', _, hh', free_v, rfl, rfl⟩
  rintro es ⟨h, y3, hh, f3, q3, rfl⟩
  have hf := hh.nf
  walk_at "go"
  refine ⟨h, 4, rfl, hh, by decide, by decide, fun q h1 hh1 q0 q1 => ?_⟩
  have hf1 := hh1.nf
  walk_at "go"
  refine ⟨h1, deeds, _, rfl, hh1, ld, d1, d2, by omega, by omega, fun s0 h2 hh2 l0 n0 => ?_⟩
  have hf2 := hh2.nf
  walk_at "go"
  refine ⟨by decide, ?_⟩
  refine r_kLc (fun k acc es => ∃ h, ∃ rows : List (List Nat), HandOk h ∧ es = [.val (.kst (ns.map .int)), .val h, .val (.str deeds), y3, .val (.str s0), .no, .no, .no, .no] ∧ acc = rows.map .str ∧ rows.length = k ∧ ∀ s ∈ rows, Ls s ∧ s.length ≤ 10) ⟨h2, [], hh2, rfl, rfl, rfl, fun _ h => nomatch h⟩ ?_ ?_
  · rintro k d acc es hd ⟨h, rows, hh, rfl, rfl, rl, lr⟩
    have hf := hh.nf
    obtain ⟨hk, rfl⟩ := range_get hd
    refine ⟨_, get_3, q3, ?_⟩
    rw [set_3]
    walk_at "go"
    refine ⟨h, 3, rfl, hh, by decide, by decide, fun q h1 hh1 q0 q1 => ?_⟩
    have hf1 := hh1.nf
    walk_at "go"
    refine ⟨h1, deeds, _, rfl, hh1, ld, d1, d2, by omega, by omega, fun s1 h2 hh2 l1 n1 => ?_⟩
    have hf2 := hh2.nf
    walk_at "go"
    refine ⟨by omega, ?_⟩
    walk_at "go"
    refine ⟨by rw [List.length_map]; have : k < 6 := hk; omega, h2, rows ++ [s0 ++ s1], hh2, rfl, by rw [List.map_append]; rfl, by rw [List.length_append, rl]; rfl, fun s hs => ?_⟩
    rcases List.mem_append.mp hs with hs | hs
    · exact lr s hs
    · rw [List.mem_singleton.mp hs]
      exact ⟨l0.app l1, by rw [List.length_append]; omega⟩
  rintro acc es ⟨h, rows, hh, rfl, rfl, rl, lr⟩
  have hf := hh.nf
  walk_at "go"
  have inn : ∀ (k : Nat) (d : D), (rows.map D.str)[k]? = some d → ∃ s, d = .str s ∧ Ls s ∧ s.length ≤ 10 := fun k d hd => by
    rw [List.getElem?_map, Option.map_eq_some_iff] at hd
    obtain ⟨s, hs, rfl⟩ := hd
    exact ⟨s, rfl, lr s (List.mem_of_getElem? hs)⟩
  have rf : (rows.map D.str).all D.fro = true := all_fro (fun _ => rfl) rows
  refine r_kFor (fun k es => ∃ y6 y7 y8, (E.free y6 = true ∧ E.free y7 = true ∧ E.free y8 = true) ∧ es = [.val (.kst (ns.map .int)), .val h, .val (.str deeds), y3, .val (.str s0), .val (.lst (rows.map .str)), y6, y7, y8]) ⟨_, _, _, ⟨free_n, free_n, free_n⟩, rfl⟩ ?_ ?_
  · rintro k d es hd ⟨y6, y7, y8, ⟨f6, f7, f8⟩, rfl⟩
    obtain ⟨s, rfl, ls, sl⟩ := inn k d hd
    walk_at "go"
    refine r_kFor (fun k es => ∃ y7 y8, (E.free y7 = true ∧ E.free y8 = true) ∧ es = [.val (.kst (ns.map .int)), .val h, .val (.str deeds), y3, .val (.str s0), .val (.lst (rows.map .str)), .val (.str s), y7, y8]) ⟨_, _, ⟨f7, f8⟩, rfl⟩ ?_ ?_
    · rintro k d es hd ⟨y7, y8, ⟨f7, f8⟩, rfl⟩
      obtain ⟨t, rfl, lt, tl⟩ := inn k d hd
      have rs : isRow (.str s) = true := (isRow_str s).mpr ls
      have rt : isRow (.str t) = true := (isRow_str t).mpr lt
      walk_at "go"
      refine ⟨_, _, rfl, okV_s _, okV_s _, fun _ _ => ⟨s, t, rfl, rfl, by omega, by omega, ?_⟩, fun h => absurd h (by rw [rs, rt]; simp)⟩
      walk_at "go"
      refine r_kOr (fun h => absurd h (show ¬ (!isT "bool" "bool") = true from by decide)) (fun _ => ?_)
      walk_at "go"
      refine ⟨s, t, rfl, ls, lt, by omega, by omega, ?_⟩
      walk_at "go"
      refine r_kIf (fun h => absurd h (by cases ltD (rkD s) (rkD t) <;> decide)) (fun _ => ?_)
      walk_at "go"
      exact ⟨_, _, ⟨free_v, free_v⟩, rfl⟩
    · rintro es ⟨y7, y8, ⟨f7, f8⟩, rfl⟩
      exact ⟨_, _, _, ⟨free_v, f7, f8⟩, rfl⟩
  · rintro es ⟨y6, y7, y8, ⟨f6, f7, f8⟩, rfl⟩
    walk_at "go"
    have na : netL [97] = [97] := rfl
    have ra : isRow (.str (lit "a")) = true := rfl
    refine ⟨_, rfl, okV_s _, (fun h => absurd (ra.symm.trans h) (by simp)), fun _ => ⟨lit "a", rfl, by decide, (fun e => absurd (na.symm.trans e) (by simp)), fun _ m k hb ht => ?_⟩⟩
    have hm : m = 0 := by
      have := hb.1
      have e : (netL (lit "a")).length = 1 := rfl
      omega
    subst hm
    have hk : k = 1 := by
      have h1 := ht.1
      have h2 := ht.2.1
      have e : (inner (netL (lit "a")) 0).length = 1 := rfl
      omega
    subst hk
    rw [show (netL (lit "a")).take 0 ++ (inner (netL (lit "a")) 0).take 1 ++ (netL (lit "a")).drop ((netL (lit "a")).length - 0) = lit "a" from rfl, show (inner (netL (lit "a")) 0).length / 1 = 1 from rfl]
    walk_at "go"
    refine Rt.pure ?_ rfl
    rw [show eqD (.tup [.str (lit "a"), .int ((1 : Nat) : Int)]) (.tup [.str (lit "a"), .int 1]) = true by rw [eqD_rt]; simp]
    exact hR
end

/-! ### what the top has written; the law's own head -/
def c0 : Cs := ⟨0, 0, 0, 0⟩
theorem all_mk {l : PySem.W.OpenLaw} {w : World} {K : PySem.W.Frag} {h : Heap} {mg : Str → Option Value} {fa : Addr} {C_RunsError C_NoRow C_NoNumber C_NoRoot : Addr} (X : K.In h) (G : h.Ns mainGlobals mg) (hfa : mg "law" = some (.ref fa))
    {tg_SMALL : Tok}
    {tg_LETTERS : Tok}
    {tg_MOST_TIMES : Tok}
    {fa_is_integer : Addr} {oda_is_integer ana_is_integer : Option Addr} {sla_is_integer : Array (Option Value)} {oca_is_integer kVa_is_integer dca_is_integer pma_is_integer cda_is_integer cta_is_integer : Value}
    {fa_is_within : Addr} {oda_is_within ana_is_within : Option Addr} {sla_is_within : Array (Option Value)} {oca_is_within kVa_is_within dca_is_within pma_is_within cda_is_within cta_is_within : Value}
    {fa_is_string_of : Addr} {oda_is_string_of ana_is_string_of : Option Addr} {sla_is_string_of : Array (Option Value)} {oca_is_string_of kVa_is_string_of dca_is_string_of pma_is_string_of cda_is_string_of cta_is_string_of : Value}
    {fa_undoing_of : Addr} {oda_undoing_of ana_undoing_of : Option Addr} {sla_undoing_of : Array (Option Value)} {oca_undoing_of kVa_undoing_of dca_undoing_of pma_undoing_of cda_undoing_of cta_undoing_of : Value}
    {fa_is_row : Addr} {oda_is_row ana_is_row : Option Addr} {sla_is_row : Array (Option Value)} {oca_is_row kVa_is_row dca_is_row pma_is_row cda_is_row cta_is_row : Value}
    {fa_check_any_row : Addr} {oda_check_any_row ana_check_any_row : Option Addr} {sla_check_any_row : Array (Option Value)} {oca_check_any_row kVa_check_any_row dca_check_any_row pma_check_any_row cda_check_any_row cta_check_any_row : Value}
    {fa_net_letters : Addr} {oda_net_letters ana_net_letters : Option Addr} {sla_net_letters : Array (Option Value)} {oca_net_letters kVa_net_letters dca_net_letters pma_net_letters cda_net_letters cta_net_letters : Value}
    {fa_turned_about : Addr} {oda_turned_about ana_turned_about : Option Addr} {sla_turned_about : Array (Option Value)} {oca_turned_about kVa_turned_about dca_turned_about pma_turned_about cda_turned_about cta_turned_about : Value}
    {fa_row_key : Addr} {oda_row_key ana_row_key : Option Addr} {sla_row_key : Array (Option Value)} {oca_row_key kVa_row_key dca_row_key pma_row_key cda_row_key cta_row_key : Value}
    {fa_bent : Addr} {oda_bent ana_bent : Option Addr} {sla_bent : Array (Option Value)} {oca_bent kVa_bent dca_bent pma_bent cda_bent cta_bent : Value}
    {fa_net : Addr} {oda_net ana_net : Option Addr} {sla_net : Array (Option Value)} {oca_net kVa_net dca_net pma_net cda_net cta_net : Value}
    {fa_power_letters : Addr} {oda_power_letters ana_power_letters : Option Addr} {sla_power_letters : Array (Option Value)} {oca_power_letters kVa_power_letters dca_power_letters pma_power_letters cda_power_letters cta_power_letters : Value}
    {fa_power : Addr} {oda_power ana_power : Option Addr} {sla_power : Array (Option Value)} {oca_power kVa_power dca_power pma_power cda_power cta_power : Value}
    {fa_earlier : Addr} {oda_earlier ana_earlier : Option Addr} {sla_earlier : Array (Option Value)} {oca_earlier kVa_earlier dca_earlier pma_earlier cda_earlier cta_earlier : Value}
    {fa_root : Addr} {oda_root ana_root : Option Addr} {sla_root : Array (Option Value)} {oca_root kVa_root dca_root pma_root cda_root cta_root : Value}
    {fa_law_hand : Addr} {oda_law_hand ana_law_hand : Option Addr} {sla_law_hand : Array (Option Value)} {oca_law_hand kVa_law_hand dca_law_hand pma_law_hand cda_law_hand cta_law_hand : Value}
    {fa_law_draw : Addr} {oda_law_draw ana_law_draw : Option Addr} {sla_law_draw : Array (Option Value)} {oca_law_draw kVa_law_draw dca_law_draw pma_law_draw cda_law_draw cta_law_draw : Value}
    {fa_law_undoing : Addr} {oda_law_undoing ana_law_undoing : Option Addr} {sla_law_undoing : Array (Option Value)} {oca_law_undoing kVa_law_undoing dca_law_undoing pma_law_undoing cda_law_undoing cta_law_undoing : Value}
    {fa_law_back : Addr} {oda_law_back ana_law_back : Option Addr} {sla_law_back : Array (Option Value)} {oca_law_back kVa_law_back dca_law_back pma_law_back cda_law_back cta_law_back : Value}
    {fa_law_net : Addr} {oda_law_net ana_law_net : Option Addr} {sla_law_net : Array (Option Value)} {oca_law_net kVa_law_net dca_law_net pma_law_net cda_law_net cta_law_net : Value}
    {fa_law_deeds : Addr} {oda_law_deeds ana_law_deeds : Option Addr} {sla_law_deeds : Array (Option Value)} {oca_law_deeds kVa_law_deeds dca_law_deeds pma_law_deeds cda_law_deeds cta_law_deeds : Value}
    {fa_law_row : Addr} {oda_law_row ana_law_row : Option Addr} {sla_law_row : Array (Option Value)} {oca_law_row kVa_law_row dca_law_row pma_law_row cda_law_row cta_law_row : Value}
    {fa_law_root : Addr} {oda_law_root ana_law_root : Option Addr} {sla_law_root : Array (Option Value)} {oca_law_root kVa_law_root dca_law_root pma_law_root cda_law_root cta_law_root : Value}
    {fa_law_is_earlier : Addr} {oda_law_is_earlier ana_law_is_earlier : Option Addr} {sla_law_is_earlier : Array (Option Value)} {oca_law_is_earlier kVa_law_is_earlier dca_law_is_earlier pma_law_is_earlier cda_law_is_earlier cta_law_is_earlier : Value}
    {fa_law_asked : Addr} {oda_law_asked ana_law_asked : Option Addr} {sla_law_asked : Array (Option Value)} {oca_law_asked kVa_law_asked dca_law_asked pma_law_asked cda_law_asked cta_law_asked : Value}
    {fa_law_roots_right : Addr} {oda_law_roots_right ana_law_roots_right : Option Addr} {sla_law_roots_right : Array (Option Value)} {oca_law_roots_right kVa_law_roots_right dca_law_roots_right pma_law_roots_right cda_law_roots_right cta_law_roots_right : Value}
    {fa_law : Addr} {oda_law ana_law : Option Addr} {sla_law : Array (Option Value)} {oca_law kVa_law dca_law pma_law cda_law cta_law : Value}
    (z_abs : PySem.W.nsIn K mainGlobals "abs" = some none)
    (z_bool : PySem.W.nsIn K mainGlobals "bool" = some none)
    (z_int : PySem.W.nsIn K mainGlobals "int" = some none)
    (z_isinstance : PySem.W.nsIn K mainGlobals "isinstance" = some none)
    (z_len : PySem.W.nsIn K mainGlobals "len" = some none)
    (z_range : PySem.W.nsIn K mainGlobals "range" = some none)
    (z_str : PySem.W.nsIn K mainGlobals "str" = some none)
    (z_tuple : PySem.W.nsIn K mainGlobals "tuple" = some none)
    (pc_RunsError : PySem.W.nsIn K mainGlobals "RunsError" = some (some (.ref C_RunsError))) (qc_RunsError : PySem.W.excIn K C_RunsError PySem.HandSPX.veTail "ValueError.__new__" = true) (rc_RunsError : PySem.W.keepIn K (.ref C_RunsError) = true) (uc_RunsError : PySem.W.subIn K (.ref C_RunsError) (.type "BaseException") = some true) (vc_RunsError : PySem.W.typeIn K (.ref C_RunsError) = some (.type "type"))
    (pc_NoRow : PySem.W.nsIn K mainGlobals "NoRow" = some (some (.ref C_NoRow))) (qc_NoRow : PySem.W.excIn K C_NoRow PySem.HandSPX.veTail "ValueError.__new__" = true) (rc_NoRow : PySem.W.keepIn K (.ref C_NoRow) = true) (uc_NoRow : PySem.W.subIn K (.ref C_NoRow) (.type "BaseException") = some true) (vc_NoRow : PySem.W.typeIn K (.ref C_NoRow) = some (.type "type"))
    (pc_NoNumber : PySem.W.nsIn K mainGlobals "NoNumber" = some (some (.ref C_NoNumber))) (qc_NoNumber : PySem.W.excIn K C_NoNumber PySem.HandSPX.veTail "ValueError.__new__" = true) (rc_NoNumber : PySem.W.keepIn K (.ref C_NoNumber) = true) (uc_NoNumber : PySem.W.subIn K (.ref C_NoNumber) (.type "BaseException") = some true) (vc_NoNumber : PySem.W.typeIn K (.ref C_NoNumber) = some (.type "type"))
    (pc_NoRoot : PySem.W.nsIn K mainGlobals "NoRoot" = some (some (.ref C_NoRoot))) (qc_NoRoot : PySem.W.excIn K C_NoRoot PySem.HandSPX.veTail "ValueError.__new__" = true) (rc_NoRoot : PySem.W.keepIn K (.ref C_NoRoot) = true) (uc_NoRoot : PySem.W.subIn K (.ref C_NoRoot) (.type "BaseException") = some true) (vc_NoRoot : PySem.W.typeIn K (.ref C_NoRoot) = some (.type "type"))
    (g_SMALL : PySem.W.nsIn K mainGlobals "SMALL" = some (some (.str "abcdefghijklmnopqrstuvwxyz" tg_SMALL)))
    (g_LETTERS : PySem.W.nsIn K mainGlobals "LETTERS" = some (some (.str "abcdefghijklmnopqrstuvwxyzABCDEFGHIJKLMNOPQRSTUVWXYZ" tg_LETTERS)))
    (g_MOST_TIMES : PySem.W.nsIn K mainGlobals "MOST_TIMES" = some (some (.int 1000 tg_MOST_TIMES)))
    (ia_is_integer : PySem.W.nsIn K mainGlobals "is_integer" = some (some (.ref fa_is_integer))) (la_is_integer : K.lookup fa_is_integer = some ⟨oca_is_integer, oda_is_integer, .func (PySem.W.fnOf "is_integer" "is_integer" (defArgs s_is_integer) (defBody s_is_integer) (defScope s_is_integer) .none kVa_is_integer dca_is_integer pma_is_integer ana_is_integer cda_is_integer cta_is_integer), sla_is_integer⟩) (oa_is_integer : PySem.W.codeIn K cda_is_integer "is_integer" = true) (ka_is_integer : PySem.W.keepIn K (.ref fa_is_integer) = true)
    (ia_is_within : PySem.W.nsIn K mainGlobals "is_within" = some (some (.ref fa_is_within))) (la_is_within : K.lookup fa_is_within = some ⟨oca_is_within, oda_is_within, .func (PySem.W.fnOf "is_within" "is_within" (defArgs s_is_within) (defBody s_is_within) (defScope s_is_within) .none kVa_is_within dca_is_within pma_is_within ana_is_within cda_is_within cta_is_within), sla_is_within⟩) (oa_is_within : PySem.W.codeIn K cda_is_within "is_within" = true) (ka_is_within : PySem.W.keepIn K (.ref fa_is_within) = true)
    (ia_is_string_of : PySem.W.nsIn K mainGlobals "is_string_of" = some (some (.ref fa_is_string_of))) (la_is_string_of : K.lookup fa_is_string_of = some ⟨oca_is_string_of, oda_is_string_of, .func (PySem.W.fnOf "is_string_of" "is_string_of" (defArgs s_is_string_of) (defBody s_is_string_of) (defScope s_is_string_of) .none kVa_is_string_of dca_is_string_of pma_is_string_of ana_is_string_of cda_is_string_of cta_is_string_of), sla_is_string_of⟩) (oa_is_string_of : PySem.W.codeIn K cda_is_string_of "is_string_of" = true) (ka_is_string_of : PySem.W.keepIn K (.ref fa_is_string_of) = true)
    (ia_undoing_of : PySem.W.nsIn K mainGlobals "undoing_of" = some (some (.ref fa_undoing_of))) (la_undoing_of : K.lookup fa_undoing_of = some ⟨oca_undoing_of, oda_undoing_of, .func (PySem.W.fnOf "undoing_of" "undoing_of" (defArgs s_undoing_of) (defBody s_undoing_of) (defScope s_undoing_of) .none kVa_undoing_of dca_undoing_of pma_undoing_of ana_undoing_of cda_undoing_of cta_undoing_of), sla_undoing_of⟩) (oa_undoing_of : PySem.W.codeIn K cda_undoing_of "undoing_of" = true) (ka_undoing_of : PySem.W.keepIn K (.ref fa_undoing_of) = true)
    (ia_is_row : PySem.W.nsIn K mainGlobals "is_row" = some (some (.ref fa_is_row))) (la_is_row : K.lookup fa_is_row = some ⟨oca_is_row, oda_is_row, .func (PySem.W.fnOf "is_row" "is_row" (defArgs s_is_row) (defBody s_is_row) (defScope s_is_row) .none kVa_is_row dca_is_row pma_is_row ana_is_row cda_is_row cta_is_row), sla_is_row⟩) (oa_is_row : PySem.W.codeIn K cda_is_row "is_row" = true) (ka_is_row : PySem.W.keepIn K (.ref fa_is_row) = true)
    (ia_check_any_row : PySem.W.nsIn K mainGlobals "check_any_row" = some (some (.ref fa_check_any_row))) (la_check_any_row : K.lookup fa_check_any_row = some ⟨oca_check_any_row, oda_check_any_row, .func (PySem.W.fnOf "check_any_row" "check_any_row" (defArgs s_check_any_row) (defBody s_check_any_row) (defScope s_check_any_row) .none kVa_check_any_row dca_check_any_row pma_check_any_row ana_check_any_row cda_check_any_row cta_check_any_row), sla_check_any_row⟩) (oa_check_any_row : PySem.W.codeIn K cda_check_any_row "check_any_row" = true) (ka_check_any_row : PySem.W.keepIn K (.ref fa_check_any_row) = true)
    (ia_net_letters : PySem.W.nsIn K mainGlobals "net_letters" = some (some (.ref fa_net_letters))) (la_net_letters : K.lookup fa_net_letters = some ⟨oca_net_letters, oda_net_letters, .func (PySem.W.fnOf "net_letters" "net_letters" (defArgs s_net_letters) (defBody s_net_letters) (defScope s_net_letters) .none kVa_net_letters dca_net_letters pma_net_letters ana_net_letters cda_net_letters cta_net_letters), sla_net_letters⟩) (oa_net_letters : PySem.W.codeIn K cda_net_letters "net_letters" = true) (ka_net_letters : PySem.W.keepIn K (.ref fa_net_letters) = true)
    (ia_turned_about : PySem.W.nsIn K mainGlobals "turned_about" = some (some (.ref fa_turned_about))) (la_turned_about : K.lookup fa_turned_about = some ⟨oca_turned_about, oda_turned_about, .func (PySem.W.fnOf "turned_about" "turned_about" (defArgs s_turned_about) (defBody s_turned_about) (defScope s_turned_about) .none kVa_turned_about dca_turned_about pma_turned_about ana_turned_about cda_turned_about cta_turned_about), sla_turned_about⟩) (oa_turned_about : PySem.W.codeIn K cda_turned_about "turned_about" = true) (ka_turned_about : PySem.W.keepIn K (.ref fa_turned_about) = true)
    (ia_row_key : PySem.W.nsIn K mainGlobals "row_key" = some (some (.ref fa_row_key))) (la_row_key : K.lookup fa_row_key = some ⟨oca_row_key, oda_row_key, .func (PySem.W.fnOf "row_key" "row_key" (defArgs s_row_key) (defBody s_row_key) (defScope s_row_key) .none kVa_row_key dca_row_key pma_row_key ana_row_key cda_row_key cta_row_key), sla_row_key⟩) (oa_row_key : PySem.W.codeIn K cda_row_key "row_key" = true) (ka_row_key : PySem.W.keepIn K (.ref fa_row_key) = true)
    (ia_bent : PySem.W.nsIn K mainGlobals "bent" = some (some (.ref fa_bent))) (la_bent : K.lookup fa_bent = some ⟨oca_bent, oda_bent, .func (PySem.W.fnOf "bent" "bent" (defArgs s_bent) (defBody s_bent) (defScope s_bent) .none kVa_bent dca_bent pma_bent ana_bent cda_bent cta_bent), sla_bent⟩) (oa_bent : PySem.W.codeIn K cda_bent "bent" = true) (ka_bent : PySem.W.keepIn K (.ref fa_bent) = true)
    (ia_net : PySem.W.nsIn K mainGlobals "net" = some (some (.ref fa_net))) (la_net : K.lookup fa_net = some ⟨oca_net, oda_net, .func (PySem.W.fnOf "net" "net" (defArgs s_net) (defBody s_net) (defScope s_net) .none kVa_net dca_net pma_net ana_net cda_net cta_net), sla_net⟩) (oa_net : PySem.W.codeIn K cda_net "net" = true) (ka_net : PySem.W.keepIn K (.ref fa_net) = true)
    (ia_power_letters : PySem.W.nsIn K mainGlobals "power_letters" = some (some (.ref fa_power_letters))) (la_power_letters : K.lookup fa_power_letters = some ⟨oca_power_letters, oda_power_letters, .func (PySem.W.fnOf "power_letters" "power_letters" (defArgs s_power_letters) (defBody s_power_letters) (defScope s_power_letters) .none kVa_power_letters dca_power_letters pma_power_letters ana_power_letters cda_power_letters cta_power_letters), sla_power_letters⟩) (oa_power_letters : PySem.W.codeIn K cda_power_letters "power_letters" = true) (ka_power_letters : PySem.W.keepIn K (.ref fa_power_letters) = true)
    (ia_power : PySem.W.nsIn K mainGlobals "power" = some (some (.ref fa_power))) (la_power : K.lookup fa_power = some ⟨oca_power, oda_power, .func (PySem.W.fnOf "power" "power" (defArgs s_power) (defBody s_power) (defScope s_power) .none kVa_power dca_power pma_power ana_power cda_power cta_power), sla_power⟩) (oa_power : PySem.W.codeIn K cda_power "power" = true) (ka_power : PySem.W.keepIn K (.ref fa_power) = true)
    (ia_earlier : PySem.W.nsIn K mainGlobals "earlier" = some (some (.ref fa_earlier))) (la_earlier : K.lookup fa_earlier = some ⟨oca_earlier, oda_earlier, .func (PySem.W.fnOf "earlier" "earlier" (defArgs s_earlier) (defBody s_earlier) (defScope s_earlier) .none kVa_earlier dca_earlier pma_earlier ana_earlier cda_earlier cta_earlier), sla_earlier⟩) (oa_earlier : PySem.W.codeIn K cda_earlier "earlier" = true) (ka_earlier : PySem.W.keepIn K (.ref fa_earlier) = true)
    (ia_root : PySem.W.nsIn K mainGlobals "root" = some (some (.ref fa_root))) (la_root : K.lookup fa_root = some ⟨oca_root, oda_root, .func (PySem.W.fnOf "root" "root" (defArgs s_root) (defBody s_root) (defScope s_root) .none kVa_root dca_root pma_root ana_root cda_root cta_root), sla_root⟩) (oa_root : PySem.W.codeIn K cda_root "root" = true) (ka_root : PySem.W.keepIn K (.ref fa_root) = true)
    (ia_law_hand : PySem.W.nsIn K mainGlobals "_law_hand" = some (some (.ref fa_law_hand))) (la_law_hand : K.lookup fa_law_hand = some ⟨oca_law_hand, oda_law_hand, .func (PySem.W.fnOf "_law_hand" "_law_hand" (defArgs s_law_hand) (defBody s_law_hand) (defScope s_law_hand) .none kVa_law_hand dca_law_hand pma_law_hand ana_law_hand cda_law_hand cta_law_hand), sla_law_hand⟩) (oa_law_hand : PySem.W.codeIn K cda_law_hand "_law_hand" = true) (ka_law_hand : PySem.W.keepIn K (.ref fa_law_hand) = true)
    (ia_law_draw : PySem.W.nsIn K mainGlobals "_law_draw" = some (some (.ref fa_law_draw))) (la_law_draw : K.lookup fa_law_draw = some ⟨oca_law_draw, oda_law_draw, .func (PySem.W.fnOf "_law_draw" "_law_draw" (defArgs s_law_draw) (defBody s_law_draw) (defScope s_law_draw) .none kVa_law_draw dca_law_draw pma_law_draw ana_law_draw cda_law_draw cta_law_draw), sla_law_draw⟩) (oa_law_draw : PySem.W.codeIn K cda_law_draw "_law_draw" = true) (ka_law_draw : PySem.W.keepIn K (.ref fa_law_draw) = true)
    (ia_law_undoing : PySem.W.nsIn K mainGlobals "_law_undoing" = some (some (.ref fa_law_undoing))) (la_law_undoing : K.lookup fa_law_undoing = some ⟨oca_law_undoing, oda_law_undoing, .func (PySem.W.fnOf "_law_undoing" "_law_undoing" (defArgs s_law_undoing) (defBody s_law_undoing) (defScope s_law_undoing) .none kVa_law_undoing dca_law_undoing pma_law_undoing ana_law_undoing cda_law_undoing cta_law_undoing), sla_law_undoing⟩) (oa_law_undoing : PySem.W.codeIn K cda_law_undoing "_law_undoing" = true) (ka_law_undoing : PySem.W.keepIn K (.ref fa_law_undoing) = true)
    (ia_law_back : PySem.W.nsIn K mainGlobals "_law_back" = some (some (.ref fa_law_back))) (la_law_back : K.lookup fa_law_back = some ⟨oca_law_back, oda_law_back, .func (PySem.W.fnOf "_law_back" "_law_back" (defArgs s_law_back) (defBody s_law_back) (defScope s_law_back) .none kVa_law_back dca_law_back pma_law_back ana_law_back cda_law_back cta_law_back), sla_law_back⟩) (oa_law_back : PySem.W.codeIn K cda_law_back "_law_back" = true) (ka_law_back : PySem.W.keepIn K (.ref fa_law_back) = true)
    (ia_law_net : PySem.W.nsIn K mainGlobals "_law_net" = some (some (.ref fa_law_net))) (la_law_net : K.lookup fa_law_net = some ⟨oca_law_net, oda_law_net, .func (PySem.W.fnOf "_law_net" "_law_net" (defArgs s_law_net) (defBody s_law_net) (defScope s_law_net) .none kVa_law_net dca_law_net pma_law_net ana_law_net cda_law_net cta_law_net), sla_law_net⟩) (oa_law_net : PySem.W.codeIn K cda_law_net "_law_net" = true) (ka_law_net : PySem.W.keepIn K (.ref fa_law_net) = true)
    (ia_law_deeds : PySem.W.nsIn K mainGlobals "_law_deeds" = some (some (.ref fa_law_deeds))) (la_law_deeds : K.lookup fa_law_deeds = some ⟨oca_law_deeds, oda_law_deeds, .func (PySem.W.fnOf "_law_deeds" "_law_deeds" (defArgs s_law_deeds) (defBody s_law_deeds) (defScope s_law_deeds) .none kVa_law_deeds dca_law_deeds pma_law_deeds ana_law_deeds cda_law_deeds cta_law_deeds), sla_law_deeds⟩) (oa_law_deeds : PySem.W.codeIn K cda_law_deeds "_law_deeds" = true) (ka_law_deeds : PySem.W.keepIn K (.ref fa_law_deeds) = true)
    (ia_law_row : PySem.W.nsIn K mainGlobals "_law_row" = some (some (.ref fa_law_row))) (la_law_row : K.lookup fa_law_row = some ⟨oca_law_row, oda_law_row, .func (PySem.W.fnOf "_law_row" "_law_row" (defArgs s_law_row) (defBody s_law_row) (defScope s_law_row) .none kVa_law_row dca_law_row pma_law_row ana_law_row cda_law_row cta_law_row), sla_law_row⟩) (oa_law_row : PySem.W.codeIn K cda_law_row "_law_row" = true) (ka_law_row : PySem.W.keepIn K (.ref fa_law_row) = true)
    (ia_law_root : PySem.W.nsIn K mainGlobals "_law_root" = some (some (.ref fa_law_root))) (la_law_root : K.lookup fa_law_root = some ⟨oca_law_root, oda_law_root, .func (PySem.W.fnOf "_law_root" "_law_root" (defArgs s_law_root) (defBody s_law_root) (defScope s_law_root) .none kVa_law_root dca_law_root pma_law_root ana_law_root cda_law_root cta_law_root), sla_law_root⟩) (oa_law_root : PySem.W.codeIn K cda_law_root "_law_root" = true) (ka_law_root : PySem.W.keepIn K (.ref fa_law_root) = true)
    (ia_law_is_earlier : PySem.W.nsIn K mainGlobals "_law_is_earlier" = some (some (.ref fa_law_is_earlier))) (la_law_is_earlier : K.lookup fa_law_is_earlier = some ⟨oca_law_is_earlier, oda_law_is_earlier, .func (PySem.W.fnOf "_law_is_earlier" "_law_is_earlier" (defArgs s_law_is_earlier) (defBody s_law_is_earlier) (defScope s_law_is_earlier) .none kVa_law_is_earlier dca_law_is_earlier pma_law_is_earlier ana_law_is_earlier cda_law_is_earlier cta_law_is_earlier), sla_law_is_earlier⟩) (oa_law_is_earlier : PySem.W.codeIn K cda_law_is_earlier "_law_is_earlier" = true) (ka_law_is_earlier : PySem.W.keepIn K (.ref fa_law_is_earlier) = true)
    (ia_law_asked : PySem.W.nsIn K mainGlobals "_law_asked" = some (some (.ref fa_law_asked))) (la_law_asked : K.lookup fa_law_asked = some ⟨oca_law_asked, oda_law_asked, .func (PySem.W.fnOf "_law_asked" "_law_asked" (defArgs s_law_asked) (defBody s_law_asked) (defScope s_law_asked) .none kVa_law_asked dca_law_asked pma_law_asked ana_law_asked cda_law_asked cta_law_asked), sla_law_asked⟩) (oa_law_asked : PySem.W.codeIn K cda_law_asked "_law_asked" = true) (ka_law_asked : PySem.W.keepIn K (.ref fa_law_asked) = true)
    (ia_law_roots_right : PySem.W.nsIn K mainGlobals "_law_roots_right" = some (some (.ref fa_law_roots_right))) (la_law_roots_right : K.lookup fa_law_roots_right = some ⟨oca_law_roots_right, oda_law_roots_right, .func (PySem.W.fnOf "_law_roots_right" "_law_roots_right" (defArgs s_law_roots_right) (defBody s_law_roots_right) (defScope s_law_roots_right) .none kVa_law_roots_right dca_law_roots_right pma_law_roots_right ana_law_roots_right cda_law_roots_right cta_law_roots_right), sla_law_roots_right⟩) (oa_law_roots_right : PySem.W.codeIn K cda_law_roots_right "_law_roots_right" = true) (ka_law_roots_right : PySem.W.keepIn K (.ref fa_law_roots_right) = true)
    (ia_law : PySem.W.nsIn K mainGlobals "law" = some (some (.ref fa_law))) (la_law : K.lookup fa_law = some ⟨oca_law, oda_law, .func (PySem.W.fnOf "law" "law" (defArgs s_law) (defBody s_law) (defScope s_law) .none kVa_law dca_law pma_law ana_law cda_law cta_law), sla_law⟩) (oa_law : PySem.W.codeIn K cda_law "law" = true) (ka_law : PySem.W.keepIn K (.ref fa_law) = true)
    (h1 : PySem.W.exmOne K (.ref C_NoRoot) (.ref C_NoRoot) = some true) :
    ∃ fd : FuncData, (∀ (s : Shared) (v : Value), BindsTo s fd ⟨[v], []⟩ [("_law_script", v)]) ∧ ∀ base : Heap, K.In base → base.Ns mainGlobals mg → FnOk l.prog w K mg base (L2.CX l.prog w) 7 fa fd ["_law_script"] (spOf K (sp_law c0)) := by
  have e := hfa.symm.trans (PySem.W.mg_of X G ia_law)
  cases e
  have T : Txt K mg ⟨C_RunsError, C_NoRow, C_NoNumber, C_NoRoot⟩ := {
    z_abs := PySem.W.mg_none_of X G z_abs,
    z_bool := PySem.W.mg_none_of X G z_bool,
    z_int := PySem.W.mg_none_of X G z_int,
    z_isinstance := PySem.W.mg_none_of X G z_isinstance,
    z_len := PySem.W.mg_none_of X G z_len,
    z_range := PySem.W.mg_none_of X G z_range,
    z_str := PySem.W.mg_none_of X G z_str,
    z_tuple := PySem.W.mg_none_of X G z_tuple,
    c_RunsError := ⟨PySem.W.mg_of X G pc_RunsError, qc_RunsError, rc_RunsError, uc_RunsError, vc_RunsError⟩,
    c_NoRow := ⟨PySem.W.mg_of X G pc_NoRow, qc_NoRow, rc_NoRow, uc_NoRow, vc_NoRow⟩,
    c_NoNumber := ⟨PySem.W.mg_of X G pc_NoNumber, qc_NoNumber, rc_NoNumber, uc_NoNumber, vc_NoNumber⟩,
    c_NoRoot := ⟨PySem.W.mg_of X G pc_NoRoot, qc_NoRoot, rc_NoRoot, uc_NoRoot, vc_NoRoot⟩,
    g_SMALL := ⟨_, PySem.W.mg_of X G g_SMALL⟩,
    g_LETTERS := ⟨_, PySem.W.mg_of X G g_LETTERS⟩,
    g_MOST_TIMES := ⟨_, PySem.W.mg_of X G g_MOST_TIMES⟩,
    a_is_integer := at_mk X G ia_is_integer la_is_integer oa_is_integer ka_is_integer (fun _ _ _ _ _ _ us hl => match us, hl with | [_], _ => rfl),
    a_is_within := at_mk X G ia_is_within la_is_within oa_is_within ka_is_within (fun _ _ _ _ _ _ us hl => match us, hl with | [_, _, _], _ => rfl),
    a_is_string_of := at_mk X G ia_is_string_of la_is_string_of oa_is_string_of ka_is_string_of (fun _ _ _ _ _ _ us hl => match us, hl with | [_, _], _ => rfl),
    a_undoing_of := at_mk X G ia_undoing_of la_undoing_of oa_undoing_of ka_undoing_of (fun _ _ _ _ _ _ us hl => match us, hl with | [_], _ => rfl),
    a_is_row := at_mk X G ia_is_row la_is_row oa_is_row ka_is_row (fun _ _ _ _ _ _ us hl => match us, hl with | [_], _ => rfl),
    a_check_any_row := at_mk X G ia_check_any_row la_check_any_row oa_check_any_row ka_check_any_row (fun _ _ _ _ _ _ us hl => match us, hl with | [_], _ => rfl),
    a_net_letters := at_mk X G ia_net_letters la_net_letters oa_net_letters ka_net_letters (fun _ _ _ _ _ _ us hl => match us, hl with | [_], _ => rfl),
    a_turned_about := at_mk X G ia_turned_about la_turned_about oa_turned_about ka_turned_about (fun _ _ _ _ _ _ us hl => match us, hl with | [_], _ => rfl),
    a_row_key := at_mk X G ia_row_key la_row_key oa_row_key ka_row_key (fun _ _ _ _ _ _ us hl => match us, hl with | [_], _ => rfl),
    a_bent := at_mk X G ia_bent la_bent oa_bent ka_bent (fun _ _ _ _ _ _ us hl => match us, hl with | [_], _ => rfl),
    a_net := at_mk X G ia_net la_net oa_net ka_net (fun _ _ _ _ _ _ us hl => match us, hl with | [_], _ => rfl),
    a_power_letters := at_mk X G ia_power_letters la_power_letters oa_power_letters ka_power_letters (fun _ _ _ _ _ _ us hl => match us, hl with | [_, _], _ => rfl),
    a_power := at_mk X G ia_power la_power oa_power ka_power (fun _ _ _ _ _ _ us hl => match us, hl with | [_, _], _ => rfl),
    a_earlier := at_mk X G ia_earlier la_earlier oa_earlier ka_earlier (fun _ _ _ _ _ _ us hl => match us, hl with | [_, _], _ => rfl),
    a_root := at_mk X G ia_root la_root oa_root ka_root (fun _ _ _ _ _ _ us hl => match us, hl with | [_], _ => rfl),
    a_law_hand := at_mk X G ia_law_hand la_law_hand oa_law_hand ka_law_hand (fun _ _ _ _ _ _ us hl => match us, hl with | [_], _ => rfl),
    a_law_draw := at_mk X G ia_law_draw la_law_draw oa_law_draw ka_law_draw (fun _ _ _ _ _ _ us hl => match us, hl with | [_, _], _ => rfl),
    a_law_undoing := at_mk X G ia_law_undoing la_law_undoing oa_law_undoing ka_law_undoing (fun _ _ _ _ _ _ us hl => match us, hl with | [_], _ => rfl),
    a_law_back := at_mk X G ia_law_back la_law_back oa_law_back ka_law_back (fun _ _ _ _ _ _ us hl => match us, hl with | [_], _ => rfl),
    a_law_net := at_mk X G ia_law_net la_law_net oa_law_net ka_law_net (fun _ _ _ _ _ _ us hl => match us, hl with | [_], _ => rfl),
    a_law_deeds := at_mk X G ia_law_deeds la_law_deeds oa_law_deeds ka_law_deeds (fun _ _ _ _ _ _ us hl => match us, hl with | [_, _], _ => rfl),
    a_law_row := at_mk X G ia_law_row la_law_row oa_law_row ka_law_row (fun _ _ _ _ _ _ us hl => match us, hl with | [_, _, _], _ => rfl),
    a_law_root := at_mk X G ia_law_root la_law_root oa_law_root ka_law_root (fun _ _ _ _ _ _ us hl => match us, hl with | [_], _ => rfl),
    a_law_is_earlier := at_mk X G ia_law_is_earlier la_law_is_earlier oa_law_is_earlier ka_law_is_earlier (fun _ _ _ _ _ _ us hl => match us, hl with | [_, _], _ => rfl),
    a_law_asked := at_mk X G ia_law_asked la_law_asked oa_law_asked ka_law_asked (fun _ _ _ _ _ _ us hl => match us, hl with | [_], _ => rfl),
    a_law_roots_right := at_mk X G ia_law_roots_right la_law_roots_right oa_law_roots_right ka_law_roots_right (fun _ _ _ _ _ _ us hl => match us, hl with | [_, _], _ => rfl),
    a_law := at_mk X G ia_law la_law oa_law ka_law (fun _ _ _ _ _ _ us hl => match us, hl with | [_], _ => rfl) }
  have wd : Wd K ⟨C_RunsError, C_NoRow, C_NoNumber, C_NoRoot⟩ := { h1 := h1 }
  exact ⟨_, fun s v => .of_eq rfl, fun base _ _ => ok_law T wd (fun_mk la_law oa_law ka_law)⟩
theorem sp_script (K : PySem.W.Frag) (c : Cs) (H : Hp) (a : Addr) (ns : List Int) (h : SqL K H a (ns.map V.int)) : spOf K (sp_law c) [.ref a] H (fun v _ => v = .bl true) fun _ _ _ => False := by
  have e : fz (fun _ => none) H = H := funext fun _ => if_pos rfl
  refine ⟨fun _ => none, [.kst (ns.map .int)], fun d _ => d = .bl true, fun _ _ => False, ⟨rfl, fun j v d hv hd => ?_⟩, fun a h => absurd rfl h, ⟨ns, rfl, rfl⟩, fun dv args2 v H2 w2 hd _ _ hh _ => ?_, fun _ _ _ _ _ _ h _ _ _ _ => h.elim⟩
  · cases j with
    | succ j => cases hv
    | zero =>
      cases hv
      cases hd
      refine ⟨[], ?_, List.nodup_nil, fun _ h => nomatch h⟩
      rw [e]
      refine .kst h ?_
      clear h
      induction ns with
      | nil => exact .nil
      | cons n ns ih => exact .cons (.int n) ih rfl
  · subst hd
    exact hh.bl
end RB
open PySem PySem.W PyProof.Rows L2
set_option maxRecDepth 100000 in
set_option maxHeartbeats 0 in
theorem PySem.Challenge.cw_runsback_k02_whole_roots_and_earlier_row_holds : PySem.Challenge.rw_runsback_k02_whole_roots_and_earlier_row.Holds := by
  w_on; o_law; k_head; (case hw => w_witness2)
  k_fill
  refine L2.walk_of (l := PySem.Challenge.rw_runsback_k02_whole_roots_and_earlier_row) (n := 63) (k := 7) (x := "_law_script") (CX := fun w => L2.CX (PySem.Challenge.rw_runsback_k02_whole_roots_and_earlier_row).prog w) (sp := fun w => RB.spOf _ (RB.sp_law RB.c0)) rfl (by decide) rfl ⟨rfl, by decide, by decide⟩ (fun w h Y => PySem.W.kIn_of Y) ?F (fun _ H a ns _ _ hS => RB.sp_script _ RB.c0 H a ns hS) (fun w H s e s' ⟨_, _, _, _, _, _, _, _, _, _, _, _, f⟩ => f)
  case F =>
    intro w mg fa h KX G hmg
    refine' RB.all_mk KX G hmg ?z_abs ?z_bool ?z_int ?z_isinstance ?z_len ?z_range ?z_str ?z_tuple ?pc_RunsError ?qc_RunsError ?rc_RunsError ?uc_RunsError ?vc_RunsError ?pc_NoRow ?qc_NoRow ?rc_NoRow ?uc_NoRow ?vc_NoRow ?pc_NoNumber ?qc_NoNumber ?rc_NoNumber ?uc_NoNumber ?vc_NoNumber ?pc_NoRoot ?qc_NoRoot ?rc_NoRoot ?uc_NoRoot ?vc_NoRoot ?g_SMALL ?g_LETTERS ?g_MOST_TIMES ?ia_is_integer ?la_is_integer ?oa_is_integer ?ka_is_integer ?ia_is_within ?la_is_within ?oa_is_within ?ka_is_within ?ia_is_string_of ?la_is_string_of ?oa_is_string_of ?ka_is_string_of ?ia_undoing_of ?la_undoing_of ?oa_undoing_of ?ka_undoing_of ?ia_is_row ?la_is_row ?oa_is_row ?ka_is_row ?ia_check_any_row ?la_check_any_row ?oa_check_any_row ?ka_check_any_row ?ia_net_letters ?la_net_letters ?oa_net_letters ?ka_net_letters ?ia_turned_about ?la_turned_about ?oa_turned_about ?ka_turned_about ?ia_row_key ?la_row_key ?oa_row_key ?ka_row_key ?ia_bent ?la_bent ?oa_bent ?ka_bent ?ia_net ?la_net ?oa_net ?ka_net ?ia_power_letters ?la_power_letters ?oa_power_letters ?ka_power_letters ?ia_power ?la_power ?oa_power ?ka_power ?ia_earlier ?la_earlier ?oa_earlier ?ka_earlier ?ia_root ?la_root ?oa_root ?ka_root ?ia_law_hand ?la_law_hand ?oa_law_hand ?ka_law_hand ?ia_law_draw ?la_law_draw ?oa_law_draw ?ka_law_draw ?ia_law_undoing ?la_law_undoing ?oa_law_undoing ?ka_law_undoing ?ia_law_back ?la_law_back ?oa_law_back ?ka_law_back ?ia_law_net ?la_law_net ?oa_law_net ?ka_law_net ?ia_law_deeds ?la_law_deeds ?oa_law_deeds ?ka_law_deeds ?ia_law_row ?la_law_row ?oa_law_row ?ka_law_row ?ia_law_root ?la_law_root ?oa_law_root ?ka_law_root ?ia_law_is_earlier ?la_law_is_earlier ?oa_law_is_earlier ?ka_law_is_earlier ?ia_law_asked ?la_law_asked ?oa_law_asked ?ka_law_asked ?ia_law_roots_right ?la_law_roots_right ?oa_law_roots_right ?ka_law_roots_right ?ia_law ?la_law ?oa_law ?ka_law ?h1
    (case z_abs => first | k_is | rfl | with_unfolding_all rfl); (case z_bool => first | k_is | rfl | with_unfolding_all rfl); (case z_int => first | k_is | rfl | with_unfolding_all rfl); (case z_isinstance => first | k_is | rfl | with_unfolding_all rfl); (case z_len => first | k_is | rfl | with_unfolding_all rfl); (case z_range => first | k_is | rfl | with_unfolding_all rfl); (case z_str => first | k_is | rfl | with_unfolding_all rfl); (case z_tuple => first | k_is | rfl | with_unfolding_all rfl); (case pc_RunsError => first | k_is | rfl | with_unfolding_all rfl); (case qc_RunsError => first | k_is | rfl | with_unfolding_all rfl); (case rc_RunsError => first | k_is | rfl | with_unfolding_all rfl); (case uc_RunsError => first | k_is | rfl | with_unfolding_all rfl); (case vc_RunsError => first | k_is | rfl | with_unfolding_all rfl); (case pc_NoRow => first | k_is | rfl | with_unfolding_all rfl); (case qc_NoRow => first | k_is | rfl | with_unfolding_all rfl); (case rc_NoRow => first | k_is | rfl | with_unfolding_all rfl); (case uc_NoRow => first | k_is | rfl | with_unfolding_all rfl); (case vc_NoRow => first | k_is | rfl | with_unfolding_all rfl); (case pc_NoNumber => first | k_is | rfl | with_unfolding_all rfl); (case qc_NoNumber => first | k_is | rfl | with_unfolding_all rfl); (case rc_NoNumber => first | k_is | rfl | with_unfolding_all rfl); (case uc_NoNumber => first | k_is | rfl | with_unfolding_all rfl); (case vc_NoNumber => first | k_is | rfl | with_unfolding_all rfl); (case pc_NoRoot => first | k_is | rfl | with_unfolding_all rfl); (case qc_NoRoot => first | k_is | rfl | with_unfolding_all rfl); (case rc_NoRoot => first | k_is | rfl | with_unfolding_all rfl); (case uc_NoRoot => first | k_is | rfl | with_unfolding_all rfl); (case vc_NoRoot => first | k_is | rfl | with_unfolding_all rfl); (case g_SMALL => first | k_is | rfl | with_unfolding_all rfl); (case g_LETTERS => first | k_is | rfl | with_unfolding_all rfl); (case g_MOST_TIMES => first | k_is | rfl | with_unfolding_all rfl); (case ia_is_integer => first | k_is | rfl | with_unfolding_all rfl); (case la_is_integer => first | k_is | rfl | with_unfolding_all rfl); (case oa_is_integer => first | k_is | rfl | with_unfolding_all rfl); (case ka_is_integer => first | k_is | rfl | with_unfolding_all rfl); (case ia_is_within => first | k_is | rfl | with_unfolding_all rfl); (case la_is_within => first | k_is | rfl | with_unfolding_all rfl); (case oa_is_within => first | k_is | rfl | with_unfolding_all rfl); (case ka_is_within => first | k_is | rfl | with_unfolding_all rfl); (case ia_is_string_of => first | k_is | rfl | with_unfolding_all rfl); (case la_is_string_of => first | k_is | rfl | with_unfolding_all rfl); (case oa_is_string_of => first | k_is | rfl | with_unfolding_all rfl); (case ka_is_string_of => first | k_is | rfl | with_unfolding_all rfl); (case ia_undoing_of => first | k_is | rfl | with_unfolding_all rfl); (case la_undoing_of => first | k_is | rfl | with_unfolding_all rfl); (case oa_undoing_of => first | k_is | rfl | with_unfolding_all rfl); (case ka_undoing_of => first | k_is | rfl | with_unfolding_all rfl); (case ia_is_row => first | k_is | rfl | with_unfolding_all rfl); (case la_is_row => first | k_is | rfl | with_unfolding_all rfl); (case oa_is_row => first | k_is | rfl | with_unfolding_all rfl); (case ka_is_row => first | k_is | rfl | with_unfolding_all rfl); (case ia_check_any_row => first | k_is | rfl | with_unfolding_all rfl); (case la_check_any_row => first | k_is | rfl | with_unfolding_all rfl); (case oa_check_any_row => first | k_is | rfl | with_unfolding_all rfl); (case ka_check_any_row => first | k_is | rfl | with_unfolding_all rfl); (case ia_net_letters => first | k_is | rfl | with_unfolding_all rfl); (case la_net_letters => first | k_is | rfl | with_unfolding_all rfl); (case oa_net_letters => first | k_is | rfl | with_unfolding_all rfl); (case ka_net_letters => first | k_is | rfl | with_unfolding_all rfl); (case ia_turned_about => first | k_is | rfl | with_unfolding_all rfl); (case la_turned_about => first | k_is | rfl | with_unfolding_all rfl); (case oa_turned_about => first | k_is | rfl | with_unfolding_all rfl); (case ka_turned_about => first | k_is | rfl | with_unfolding_all rfl); (case ia_row_key => first | k_is | rfl | with_unfolding_all rfl); (case la_row_key => first | k_is | rfl | with_unfolding_all rfl); (case oa_row_key => first | k_is | rfl | with_unfolding_all rfl); (case ka_row_key => first | k_is | rfl | with_unfolding_all rfl); (case ia_bent => first | k_is | rfl | with_unfolding_all rfl); (case la_bent => first | k_is | rfl | with_unfolding_all rfl); (case oa_bent => first | k_is | rfl | with_unfolding_all rfl); (case ka_bent => first | k_is | rfl | with_unfolding_all rfl); (case ia_net => first | k_is | rfl | with_unfolding_all rfl); (case la_net => first | k_is | rfl | with_unfolding_all rfl); (case oa_net => first | k_is | rfl | with_unfolding_all rfl); (case ka_net => first | k_is | rfl | with_unfolding_all rfl); (case ia_power_letters => first | k_is | rfl | with_unfolding_all rfl); (case la_power_letters => first | k_is | rfl | with_unfolding_all rfl); (case oa_power_letters => first | k_is | rfl | with_unfolding_all rfl); (case ka_power_letters => first | k_is | rfl | with_unfolding_all rfl); (case ia_power => first | k_is | rfl | with_unfolding_all rfl); (case la_power => first | k_is | rfl | with_unfolding_all rfl); (case oa_power => first | k_is | rfl | with_unfolding_all rfl); (case ka_power => first | k_is | rfl | with_unfolding_all rfl); (case ia_earlier => first | k_is | rfl | with_unfolding_all rfl); (case la_earlier => first | k_is | rfl | with_unfolding_all rfl); (case oa_earlier => first | k_is | rfl | with_unfolding_all rfl); (case ka_earlier => first | k_is | rfl | with_unfolding_all rfl); (case ia_root => first | k_is | rfl | with_unfolding_all rfl); (case la_root => first | k_is | rfl | with_unfolding_all rfl); (case oa_root => first | k_is | rfl | with_unfolding_all rfl); (case ka_root => first | k_is | rfl | with_unfolding_all rfl); (case ia_law_hand => first | k_is | rfl | with_unfolding_all rfl); (case la_law_hand => first | k_is | rfl | with_unfolding_all rfl); (case oa_law_hand => first | k_is | rfl | with_unfolding_all rfl); (case ka_law_hand => first | k_is | rfl | with_unfolding_all rfl); (case ia_law_draw => first | k_is | rfl | with_unfolding_all rfl); (case la_law_draw => first | k_is | rfl | with_unfolding_all rfl); (case oa_law_draw => first | k_is | rfl | with_unfolding_all rfl); (case ka_law_draw => first | k_is | rfl | with_unfolding_all rfl); (case ia_law_undoing => first | k_is | rfl | with_unfolding_all rfl); (case la_law_undoing => first | k_is | rfl | with_unfolding_all rfl); (case oa_law_undoing => first | k_is | rfl | with_unfolding_all rfl); (case ka_law_undoing => first | k_is | rfl | with_unfolding_all rfl); (case ia_law_back => first | k_is | rfl | with_unfolding_all rfl); (case la_law_back => first | k_is | rfl | with_unfolding_all rfl); (case oa_law_back => first | k_is | rfl | with_unfolding_all rfl); (case ka_law_back => first | k_is | rfl | with_unfolding_all rfl); (case ia_law_net => first | k_is | rfl | with_unfolding_all rfl); (case la_law_net => first | k_is | rfl | with_unfolding_all rfl); (case oa_law_net => first | k_is | rfl | with_unfolding_all rfl); (case ka_law_net => first | k_is | rfl | with_unfolding_all rfl); (case ia_law_deeds => first | k_is | rfl | with_unfolding_all rfl); (case la_law_deeds => first | k_is | rfl | with_unfolding_all rfl); (case oa_law_deeds => first | k_is | rfl | with_unfolding_all rfl); (case ka_law_deeds => first | k_is | rfl | with_unfolding_all rfl); (case ia_law_row => first | k_is | rfl | with_unfolding_all rfl); (case la_law_row => first | k_is | rfl | with_unfolding_all rfl); (case oa_law_row => first | k_is | rfl | with_unfolding_all rfl); (case ka_law_row => first | k_is | rfl | with_unfolding_all rfl); (case ia_law_root => first | k_is | rfl | with_unfolding_all rfl); (case la_law_root => first | k_is | rfl | with_unfolding_all rfl); (case oa_law_root => first | k_is | rfl | with_unfolding_all rfl); (case ka_law_root => first | k_is | rfl | with_unfolding_all rfl); (case ia_law_is_earlier => first | k_is | rfl | with_unfolding_all rfl); (case la_law_is_earlier => first | k_is | rfl | with_unfolding_all rfl); (case oa_law_is_earlier => first | k_is | rfl | with_unfolding_all rfl); (case ka_law_is_earlier => first | k_is | rfl | with_unfolding_all rfl); (case ia_law_asked => first | k_is | rfl | with_unfolding_all rfl); (case la_law_asked => first | k_is | rfl | with_unfolding_all rfl); (case oa_law_asked => first | k_is | rfl | with_unfolding_all rfl); (case ka_law_asked => first | k_is | rfl | with_unfolding_all rfl); (case ia_law_roots_right => first | k_is | rfl | with_unfolding_all rfl); (case la_law_roots_right => first | k_is | rfl | with_unfolding_all rfl); (case oa_law_roots_right => first | k_is | rfl | with_unfolding_all rfl); (case ka_law_roots_right => first | k_is | rfl | with_unfolding_all rfl); (case ia_law => first | k_is | rfl | with_unfolding_all rfl); (case la_law => first | k_is | rfl | with_unfolding_all rfl); (case oa_law => first | k_is | rfl | with_unfolding_all rfl); (case ka_law => first | k_is | rfl | with_unfolding_all rfl); (case h1 => first | k_is | rfl | with_unfolding_all rfl)

