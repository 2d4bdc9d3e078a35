import PyProof.Rows.All
import Wide.All
import OpenK.AllK
import Wide.FinOn
import HandS.ForMost
import HandS.Exc
import HandS.TryOnly
import HandS.ExcOwn
import HandS.WordsExc
import HandS.IsInst
import HandS.Wide
import HandS.EndBits
import HandS.Conv
import PySem.Challenge.RW_roundclerks_k67_whole_turned_ways
set_option Elab.async false
set_option linter.all false
set_option maxRecDepth 100000
set_option maxHeartbeats 4000000
/-! what all laws of this package share: numbers, rows, heaps; no row's own text -/
namespace Rc
open PySem PySem.Spec PyProof.Rows L2

/-! ### powers -/
def CPowW (i j : Int) : Prop := 0 ≤ j ∧ j ≤ 1000 ∧ Builtin.Int.intBits i ≤ 100000
theorem bits_of {i : Int} {n : Nat} (h0 : 0 < n) (h : i.natAbs < 2 ^ n) : Builtin.Int.intBits i ≤ n := by
  have x := PySem.Flt.log2_lt_of h0 h
  unfold Builtin.Int.intBits
  split <;> omega
theorem op_powW {X : Cx} : OpR X (binaryOp .Pow) (rI CPowW fun i j => .int (i ^ j.toNat)) := opI fun i j _ _ _ _ _ hc q => by
  refine pow_int hc.1 ?_ q
  have h1 := hc.2.1
  have h2 : (Builtin.Int.intBits i : Int) ≤ 100000 := Int.ofNat_le.mpr hc.2.2
  have h3 : (0 : Int) ≤ (Builtin.Int.intBits i : Int) := Int.natCast_nonneg _
  have h4 : (Builtin.Int.intBits i : Int) * j ≤ 100000 * 1000 := Int.le_trans (Int.mul_le_mul_of_nonneg_left h1 h3) (Int.mul_le_mul_of_nonneg_right h2 (by omega))
  omega
/-- a written power of written numbers -/
theorem pe_powc {X : Cx} {a b v : Int} {i j : Nat} {p1 p2 pos : Pos} (h : (0 ≤ b ∧ b ≤ 1000 ∧ -(2 ^ 64) < a ∧ a < 2 ^ 64) := by decide) (hv : a ^ b.toNat = v := by decide) :
    PE X (.BinOp (.Constant (.int a) i p1) .Pow (.Constant (.int b) j p2) pos) (tC (.int v)) := by
  have e : PE X (.BinOp (.Constant (.int a) i p1) .Pow (.Constant (.int b) j p2) pos) (tOp (rI CPowW fun i j => .int (i ^ j.toNat)) (tC (.int a)) (tC (.int b))) := pe_op op_powW pe_int pe_int
  refine ⟨fun pins s σ H Q I q => e.run pins s σ H Q I ⟨a, b, rfl, rfl, ⟨h.1, h.2.1, Nat.le_trans (bits_of (n := 64) (by omega) (by omega)) (by omega)⟩, ?_⟩⟩
  show Q (.int (a ^ b.toNat)) H
  rw [hv]
  exact q

/-! ### pairs of lists -/
theorem pd_get {α β : Type} {F : α → β → Prop} : ∀ {l : List α} {m : List β} {i : Nat} {x : α}, Paired F l m → l[i]? = some x → ∃ y, m[i]? = some y ∧ F x y
  | _, _, _, _, .nil, e => by simp at e
  | _, _, 0, _, .cons r _, e => by simp at e; subst e; exact ⟨_, rfl, r⟩
  | _, _, i + 1, x, .cons _ t, e => by
    obtain ⟨u, h1, h2⟩ := pd_get (i := i) (x := x) t (by simpa using e)
    exact ⟨u, by simpa using h1, h2⟩
theorem pd_len {α β : Type} {F : α → β → Prop} {l : List α} {m : List β} (h : Paired F l m) : l.length = m.length := Paired.length h
theorem pd_imp {α β : Type} {F G : α → β → Prop} : ∀ {l : List α} {m : List β}, Paired F l m → (∀ a b, F a b → G a b) → Paired G l m
  | _, _, .nil, _ => .nil
  | _, _, .cons r t, f => .cons (f _ _ r) (pd_imp t f)
theorem pd_app {α β : Type} {F : α → β → Prop} : ∀ {l l' : List α} {m m' : List β}, Paired F l m → Paired F l' m' → Paired F (l ++ l') (m ++ m')
  | _, _, _, _, .nil, s => s
  | _, _, _, _, .cons r t, s => .cons r (pd_app t s)
theorem pd_take {α β : Type} {F : α → β → Prop} : ∀ {l : List α} {m : List β} (n : Nat), Paired F l m → Paired F (l.take n) (m.take n)
  | _, _, 0, _ => .nil
  | _, _, _ + 1, .nil => .nil
  | _, _, n + 1, .cons r t => .cons r (pd_take n t)
theorem pd_drop {α β : Type} {F : α → β → Prop} : ∀ {l : List α} {m : List β} (n : Nat), Paired F l m → Paired F (l.drop n) (m.drop n)
  | _, _, 0, r => r
  | _, _, _ + 1, .nil => .nil
  | _, _, n + 1, .cons _ t => pd_drop n t

/-! ### clerks and rows, in numbers -/
abbrev Cl := Int × Int
def ClOk (c : Cl) : Prop := 1 ≤ c.1 ∧ c.1 ≤ 1000000000000000 ∧ 0 ≤ c.2 ∧ c.2 ≤ c.1 - 1
def CsOk (cs : List Cl) : Prop := 1 ≤ cs.length ∧ cs.length ≤ 8 ∧ ∀ c ∈ cs, ClOk c
def mk (c : Cl) (x : Int) : Int := (x + c.2) / c.1 * c.1
def run : List Cl → Int → Int
  | [], x => x
  | c :: cs, x => run cs (mk c x)
def it (cs : List Cl) : Nat → Int → Int
  | 0, x => x
  | n + 1, x => it cs n (run cs x)
theorem run_app (a b : List Cl) (x : Int) : run (a ++ b) x = run b (run a x) := by
  induction a generalizing x with
  | nil => rfl
  | cons c r ih => exact ih _
theorem run_one (c : Cl) (x : Int) : run [c] x = mk c x := rfl
theorem it_succ (cs : List Cl) (n : Nat) (x : Int) : it cs (n + 1) x = run cs (it cs n x) := by
  induction n generalizing x with
  | zero => rfl
  | succ n ih => exact ih (run cs x)
theorem it_add (cs : List Cl) (m n : Nat) (x : Int) : it cs (m + n) x = it cs m (it cs n x) := by
  induction n generalizing x with
  | zero => rfl
  | succ n ih => exact ih (run cs x)
theorem it_stay {cs : List Cl} {x : Int} (h : run cs x = x) (n : Nat) : it cs n x = x := by
  induction n with
  | zero => rfl
  | succ n ih => rw [it_succ, ih, h]
theorem run_take {cs : List Cl} {i : Nat} {c : Cl} (h : cs[i]? = some c) (x : Int) : run (cs.take (i + 1)) x = mk c (run (cs.take i) x) := by
  rw [List.take_add_one, h, run_app]
  rfl
theorem mk_eq (c : Cl) (x : Int) : x + c.2 - (x + c.2) % c.1 = mk c x := by
  have h := Int.mul_ediv_add_emod (x + c.2) c.1
  have h2 : (x + c.2) / c.1 * c.1 = c.1 * ((x + c.2) / c.1) := Int.mul_comm _ _
  unfold mk
  rw [h2]
  omega
theorem mk_bd {c : Cl} (h : ClOk c) (x : Int) : x - 1000000000000000 ≤ mk c x ∧ mk c x ≤ x + 1000000000000000 := by
  obtain ⟨h1, h2, h3, h4⟩ := h
  have e := mk_eq c x
  have a := Int.emod_nonneg (x + c.2) (show c.1 ≠ 0 by omega)
  have b := Int.emod_lt_of_pos (x + c.2) (show 0 < c.1 by omega)
  omega
theorem run_bd : ∀ {cs : List Cl}, (∀ c ∈ cs, ClOk c) → ∀ x, x - cs.length * 1000000000000000 ≤ run cs x ∧ run cs x ≤ x + cs.length * 1000000000000000
  | [], _, x => by simp [run]
  | c :: cs, h, x => by
    have a := mk_bd (h c List.mem_cons_self) x
    have b := run_bd (fun d hd => h d (List.mem_cons_of_mem _ hd)) (mk c x)
    show x - ((cs.length + 1 : Nat) : Int) * 1000000000000000 ≤ run cs (mk c x) ∧ run cs (mk c x) ≤ x + ((cs.length + 1 : Nat) : Int) * 1000000000000000
    omega
theorem run_bd8 {cs : List Cl} (h : CsOk cs) (x : Int) : x - 8000000000000000 ≤ run cs x ∧ run cs x ≤ x + 8000000000000000 := by
  have b := run_bd h.2.2 x
  have l := h.2.1
  omega
theorem it_bd {cs : List Cl} (h : CsOk cs) (n : Nat) (x : Int) : x - n * 8000000000000000 ≤ it cs n x ∧ it cs n x ≤ x + n * 8000000000000000 := by
  induction n with
  | zero => simp [it]
  | succ n ih =>
    rw [it_succ]
    have b := run_bd8 h (it cs n x)
    omega

/-! ### heaps -/
/-- what was tracked, but at S, is as it was -/
def Fr (S : Addr → Prop) (H H' : Hp) : Prop := ∀ a o, ¬ S a → H a = some o → H' a = some o
theorem Fr.refl {S : Addr → Prop} (H : Hp) : Fr S H H := fun _ _ _ h => h
theorem Fr.trans {S : Addr → Prop} {H H1 H2 : Hp} (a : Fr S H H1) (b : Fr S H1 H2) : Fr S H H2 := fun c o n h => b c o n (a c o n h)
theorem Fr.of {S : Addr → Prop} {H H' : Hp} (h : Same H H') : Fr S H H' := fun a o _ e => h a o e
theorem same_new {H : Hp} {p : Addr} {o : HO} (h : H p = none) : Same H (upd H p o) := fun b x e => by
  rw [upd_ne (ne_of_none e h)]
  exact e
theorem fr_new {S : Addr → Prop} {H : Hp} {p : Addr} {o : HO} (h : H p = none) : Fr S H (upd H p o) := .of (same_new h)
/-- an object that was not there ahead may be changed -/
theorem same_mut {H H' : Hp} {p : Addr} {o : HO} (e : Same H H') (h : H p = none) : Same H (upd H' p o) := fun a u ha => by
  rw [upd_ne (ne_of_none ha h)]
  exact e a u ha
theorem fr_mut {S : Addr → Prop} {H H' : Hp} {p : Addr} {o : HO} (e : Fr S H H') (h : H p = none) : Fr S H (upd H' p o) := fun a u n ha => by
  rw [upd_ne (ne_of_none ha h)]
  exact e a u n ha
theorem same_back {H H' : Hp} {p : Addr} (e : Same H H') (h : H' p = none) : H p = none := Same.free e h
theorem sq {K : PySem.W.Frag} {H : Hp} {a : Addr} {xs : List V} (h : H a = some (.lst xs)) : SqL K H a xs := .inl (.inl h)
theorem sqt {K : PySem.W.Frag} {H : Hp} {a : Addr} {xs : List V} (h : H a = some (.tup xs)) : SqT K H a xs := .inl (.inl h)

theorem Fr.none {S : Addr → Prop} {H H' : Hp} {p : Addr} (f : Fr S H H') (n : ¬ S p) (h : H' p = none) : H p = none := by
  cases e : H p with
  | none => rfl
  | some o =>
    rw [f p o n e] at h
    cases h

/-! ### rows on the heap -/
def tupOf (c : Cl) : List V := [.int c.1, .int c.2]
def TupAt (S : Addr → Prop) (H : Hp) (v : V) (c : Cl) : Prop := ∃ t, v = .ref t ∧ H t = some (.tup (tupOf c)) ∧ ¬ S t
def Row (S : Addr → Prop) (H : Hp) (a : Addr) (cs : List Cl) : Prop := ∃ xs, H a = some (.lst xs) ∧ ¬ S a ∧ Paired (TupAt S H) xs cs
abbrev S0 : Addr → Prop := fun _ => False
theorem TupAt.fr {S : Addr → Prop} {H H' : Hp} {v : V} {c : Cl} (h : TupAt S H v c) (f : Fr S H H') : TupAt S H' v c := by
  obtain ⟨t, e, h1, h2⟩ := h
  exact ⟨t, e, f t _ h2 h1, h2⟩
theorem Row.fr {S : Addr → Prop} {H H' : Hp} {a : Addr} {cs : List Cl} (h : Row S H a cs) (f : Fr S H H') : Row S H' a cs := by
  obtain ⟨xs, h1, h2, h3⟩ := h
  exact ⟨xs, f a _ h2 h1, h2, pd_imp h3 fun _ _ z => z.fr f⟩
theorem Row.same {S : Addr → Prop} {H H' : Hp} {a : Addr} {cs : List Cl} (h : Row S H a cs) (f : Same H H') : Row S H' a cs := h.fr (.of f)
theorem Row.s0 {S : Addr → Prop} {H : Hp} {a : Addr} {cs : List Cl} (h : Row S H a cs) : Row S0 H a cs := by
  obtain ⟨xs, h1, h2, h3⟩ := h
  exact ⟨xs, h1, fun z => z, pd_imp h3 fun _ _ ⟨t, e, a, _⟩ => ⟨t, e, a, fun z => z⟩⟩
/-- a new row, in a heap whose S stood ahead -/
theorem small {n : Nat} (h : n ≤ 1000000) : n < sizeLine := Nat.lt_of_le_of_lt h (by decide)
theorem small' {n : Nat} (h : n ≤ 1000000) : n ≤ sizeLine := Nat.le_of_lt (small h)
def AmOk (x : Int) : Prop := -1000000000000000000000000000000 ≤ x ∧ x ≤ 1000000000000000000000000000000
theorem cut_tail (xs : List V) : cutV xs (some 1) none = xs.drop 1 := by
  unfold cutV
  rw [show HT.sIx xs.length 0 (some 1) = min 1 xs.length from HT.sIx_nat xs.length 0 1, HT.sIx_none]
  cases xs with
  | nil => rfl
  | cons x r =>
    rw [show min 1 (x :: r).length = 1 by rw [List.length_cons]; omega]
    exact List.take_of_length_le (by rw [List.length_drop]; exact Nat.le_refl _)
theorem cut_head (xs : List V) : cutV xs none (some 1) = xs.take 1 := by
  unfold cutV
  rw [show HT.sIx xs.length xs.length (some 1) = min 1 xs.length from HT.sIx_nat xs.length xs.length 1, HT.sIx_none]
  cases xs with
  | nil => rfl
  | cons x r =>
    rw [show min 1 (x :: r).length = 1 by rw [List.length_cons]; omega]
    rfl
def turn (cs : List Cl) : List Cl := cs.drop 1 ++ cs.take 1

/-! ### a word between a statement and the rest -/
def tCut (t u : TS) : TS := fun D σ H => ∃ M : L2.St → Hp → Prop, t { D with nx := M } σ H ∧ ∀ σ1 H1, M σ1 H1 → u D σ1 H1
theorem pss_cut {X : Cx} {st : Stmt} {sts : List Stmt} {t u : TS} (a : PS X st t) (b : PSs X sts u) : PSs X (st :: sts) (tCut t u) :=
  ⟨fun pins s σ H D I ⟨M, hm, hu⟩ => wpAny_execs_cons (thn (a.run pins s σ H { D with nx := M } I hm) fun fl s1 => match fl with
    | .next => fun ⟨σ1, H1, I1, z⟩ => b.run pins s1 σ1 H1 D I1 (hu σ1 H1 z)
    | .ret _ => fun z => z
    | .brk => fun z => z
    | .cont => fun z => z)⟩

/-! ### items -/
theorem atI_lt {xs : List V} {r : Int} (h0 : 0 ≤ r) (h1 : r < xs.length) : ∃ v, xs[r.toNat]? = some v ∧ v ∈ xs ∧ atI xs r = some v := by
  have h3 : r.toNat < xs.length := by omega
  refine ⟨xs[r.toNat], List.getElem?_eq_getElem h3, List.getElem_mem h3, ?_⟩
  have e : r = (r.toNat : Int) := by omega
  have k := atI_nat (j := r.toNat) (List.getElem?_eq_getElem h3)
  rw [← e] at k
  exact k
theorem atI_mod {xs : List V} (h : 0 < xs.length) (k : Int) : ∃ v, v ∈ xs ∧ atI xs (k % (xs.length : Int)) = some v := by
  obtain ⟨v, _, h1, h2⟩ := atI_lt (xs := xs) (Int.emod_nonneg k (show (xs.length : Int) ≠ 0 by omega)) (Int.emod_lt_of_pos k (show 0 < (xs.length : Int) by omega))
  exact ⟨v, h1, h2⟩
/-! ### a law's deck -/
structure Dk where
  d : Addr
  p : Addr
  qs : List Addr
def Dk.S (D : Dk) : Addr → Prop := fun a => a = D.d ∨ a = D.p ∨ a ∈ D.qs
structure DkOk (D : Dk) (n : Nat) (H : Hp) : Prop where
  d : ∃ k : Int, 0 ≤ k ∧ H D.d = some (.lst [.ref D.p, .int k])
  p : H D.p = some (.lst (D.qs.map V.ref))
  l : 1 ≤ D.qs.length ∧ D.qs.length ≤ 63
  q : ∀ q ∈ D.qs, ∃ a b c : Int, H q = some (.lst [.int a, .int b, .int c]) ∧ 0 ≤ c ∧ c ≤ 10000 + n
theorem DkOk.mono {D : Dk} {n m : Nat} {H : Hp} (h : DkOk D n H) (l : n ≤ m) : DkOk D m H :=
  ⟨h.d, h.p, h.l, fun q hq => let ⟨a, b, c, e, c0, c1⟩ := h.q q hq; ⟨a, b, c, e, c0, by omega⟩⟩
theorem DkOk.same {D : Dk} {n : Nat} {H H' : Hp} (h : DkOk D n H) (f : Same H H') : DkOk D n H' :=
  ⟨let ⟨k, k0, e⟩ := h.d; ⟨k, k0, f _ _ e⟩, f _ _ h.p, h.l, fun q hq => let ⟨a, b, c, e, r⟩ := h.q q hq; ⟨a, b, c, f _ _ e, r⟩⟩
theorem DkOk.new {D : Dk} {n : Nat} {H : Hp} {p : Addr} (h : DkOk D n H) (hp : H p = none) : ¬ D.S p := by
  rintro (rfl | rfl | hq)
  · obtain ⟨_, _, e⟩ := h.d
    rw [hp] at e
    cases e
  · rw [h.p] at hp
    cases hp
  · obtain ⟨_, _, _, e, _⟩ := h.q _ hq
    rw [hp] at e
    cases e
theorem TupAt.put {S : Addr → Prop} {H : Hp} {v : V} {c : Cl} {p : Addr} {ys : List V} {o : HO} (h : TupAt S H v c) (hp : H p = some (.lst ys)) : TupAt S (upd H p o) v c := by
  obtain ⟨t, e, ht, n⟩ := h
  refine ⟨t, e, ?_, n⟩
  rw [upd_ne (ne_of ht hp (by intro z; cases z))]
  exact ht
/-- a team that a law grows in the list at p -/
structure Grow (D : Dk) (H0 : Hp) (n : Nat) (H : Hp) (p : Addr) (cs : List Cl) : Prop where
  fr : Fr D.S H0 H
  ok : DkOk D n H
  np : H0 p = none
  ns : ¬ D.S p
  ls : ∃ xs, H p = some (.lst xs) ∧ Paired (TupAt D.S H) xs cs
theorem Grow.go {D : Dk} {H0 H H' : Hp} {n m : Nat} {p : Addr} {cs : List Cl} (g : Grow D H0 n H p cs) (f : Fr D.S H H') (ok : DkOk D m H') : Grow D H0 m H' p cs :=
  ⟨g.fr.trans f, ok, g.np, g.ns, let ⟨xs, e, h⟩ := g.ls; ⟨xs, f _ _ g.ns e, pd_imp h fun _ _ z => z.fr f⟩⟩
theorem Grow.same {D : Dk} {H0 H H' : Hp} {n : Nat} {p : Addr} {cs : List Cl} (g : Grow D H0 n H p cs) (f : Same H H') : Grow D H0 n H' p cs := g.go (.of f) (g.ok.same f)
theorem DkOk.put {D : Dk} {n : Nat} {H : Hp} {p : Addr} {o : HO} (h : DkOk D n H) (hp : ¬ D.S p) : DkOk D n (upd H p o) := by
  have e : ∀ x, D.S x → upd H p o x = H x := fun x hx => upd_ne fun z => hp (z ▸ hx)
  refine ⟨?_, ?_, h.l, fun q hq => ?_⟩
  · rw [e _ (.inl rfl)]
    exact h.d
  · rw [e _ (.inr (.inl rfl))]
    exact h.p
  · rw [e _ (.inr (.inr hq))]
    exact h.q q hq
/-- one clerk more -/
theorem Grow.more {D : Dk} {H0 H : Hp} {n : Nat} {p t : Addr} {cs : List Cl} {xs : List V} (g : Grow D H0 n H p cs) (e : H p = some (.lst xs)) {c l : Int} (ht : H t = some (.tup [.int c, .int l])) (nt : ¬ D.S t) :
    Grow D H0 n (upd H p (.lst (xs ++ [.ref t]))) p (cs ++ [(c, l)]) := by
  obtain ⟨ys, e2, hp⟩ := g.ls
  rw [e] at e2
  cases e2
  refine ⟨fr_mut g.fr g.np, g.ok.put g.ns, g.np, g.ns, _, upd_same, ?_⟩
  refine pd_imp (F := TupAt D.S H) (pd_app hp (.cons ⟨t, rfl, ht, nt⟩ .nil)) fun _ _ z => z.put e
def wholes : List Int := [1, 6, 12, 30, 36, 60, 64, 210]
theorem wholes_le {z : Int} (h : z ∈ wholes) : 1 ≤ z ∧ z ≤ 210 := by
  simp only [wholes, List.mem_cons, List.not_mem_nil, or_false] at h
  omega

/-! ### turned rows -/
theorem turn_it (c : Cl) (cs : List Cl) (k : Nat) (x : Int) : it (turn (c :: cs)) k (mk c x) = mk c (it (c :: cs) k x) := by
  have e : turn (c :: cs) = cs ++ [c] := rfl
  rw [e]
  induction k generalizing x with
  | zero => rfl
  | succ k ih =>
    show it (cs ++ [c]) k (run (cs ++ [c]) (mk c x)) = mk c (it (c :: cs) k (run (c :: cs) x))
    rw [run_app]
    exact ih (run cs (mk c x))
theorem turn_ways {c : Cl} {cs : List Cl} {x : Int} {n k : Nat} (hn : run (c :: cs) (it (c :: cs) n x) = it (c :: cs) n x) (mn : ∀ m, m < n → run (c :: cs) (it (c :: cs) m x) ≠ it (c :: cs) m x)
    (hk : run (turn (c :: cs)) (it (turn (c :: cs)) k (mk c x)) = it (turn (c :: cs)) k (mk c x)) (nk : ∀ m, m < k → run (turn (c :: cs)) (it (turn (c :: cs)) m (mk c x)) ≠ it (turn (c :: cs)) m (mk c x)) :
    it (turn (c :: cs)) k (mk c x) = mk c (it (c :: cs) n x) ∧ (k = n ∨ k + 1 = n) := by
  have a : k ≤ n := by
    refine Nat.le_of_not_lt fun hlt => nk n hlt ?_
    rw [← it_succ, turn_it, turn_it, it_succ, hn]
  have b : n ≤ k + 1 := by
    refine Nat.le_of_not_lt fun hlt => mn (k + 1) hlt ?_
    rw [← it_succ, turn_it, turn_it] at hk
    have e : ∀ y, run (c :: cs) y = run cs (mk c y) := fun _ => rfl
    rw [it_succ, e (run (c :: cs) (it (c :: cs) k x)), ← it_succ, hk, it_succ]
    rfl
  refine ⟨?_, by omega⟩
  by_cases h : k = n
  · rw [h, turn_it]
  · have h2 : n = k + 1 := by omega
    rw [h2, ← turn_it, it_succ, hk]
theorem turn_ok {cs : List Cl} (h : CsOk cs) : CsOk (turn cs) := by
  obtain ⟨h1, h2, h3⟩ := h
  refine ⟨?_, ?_, fun c hc => ?_⟩
  · unfold turn
    rw [List.length_append, List.length_drop, List.length_take]
    omega
  · unfold turn
    rw [List.length_append, List.length_drop, List.length_take]
    omega
  · rcases List.mem_append.mp hc with h | h
    · exact h3 c (List.mem_of_mem_drop h)
    · exact h3 c (List.mem_of_mem_take h)
theorem turn_len (cs : List Cl) : (turn cs).length = cs.length := by
  unfold turn
  rw [List.length_append, List.length_drop, List.length_take]
  omega
/-- an own error is one of its own class -/
theorem exm_is {K : PySem.W.Frag} {C : Addr} (b : PySem.W.subIn K (.ref C) (.type "BaseException") = some true) (i : PySem.W.isClsIn K C = true) (t : PySem.W.typeIn K (.ref C) = some (.type "type")) (s : PySem.W.subIn K (.ref C) (.ref C) = some true) :
    PySem.W.exmOne K (.ref C) (.ref C) = some true := by
  unfold PySem.W.exmOne PySem.W.kitCls
  unfold PySem.W.isClsIn at i
  simp [b, i, t, s]

/-! ### rows as data -/
def clD (c : Cl) : PyData := .tuple [.int c.1, .int c.2]
def rowD (cs : List Cl) : PyData := .list (cs.map clD)
theorem clD_lay (c : Cl) : (clD c).canLay0 = true := by simp [clD, PyData.canLay0, PyData.canLayAll0]
theorem clD_depth (c : Cl) : (clD c).depth ≤ 2 := by simp [clD, PyData.depth, PyData.depthAll]
theorem clsD_lay : ∀ cs : List Cl, PyData.canLayAll0 (cs.map clD) = true
  | [] => by simp [PyData.canLayAll0]
  | c :: cs => by rw [List.map_cons, PyData.canLayAll0, clD_lay, clsD_lay cs]; rfl
theorem clsD_depth : ∀ cs : List Cl, PyData.depthAll (cs.map clD) ≤ 2
  | [] => by simp [PyData.depthAll]
  | c :: cs => by
    have h1 := clD_depth c
    have h2 := clsD_depth cs
    rw [List.map_cons, PyData.depthAll]
    omega
theorem rowD_shaped (cs : List Cl) : SeqAt.shaped (rowD cs) = true := by
  have h1 := clsD_depth cs
  have h2 : (rowD cs).depth ≤ 64 := by
    unfold rowD
    rw [PyData.depth]
    omega
  unfold SeqAt.shaped
  rw [decide_eq_true h2, Bool.and_true]
  unfold rowD
  rw [PyData.canLay0]
  exact clsD_lay cs
theorem clD_shaped (c : Cl) : SeqAt.shaped (clD c) = true := by
  have h1 := clD_depth c
  unfold SeqAt.shaped
  rw [decide_eq_true (show (clD c).depth ≤ 64 by omega), Bool.and_true]
  exact clD_lay c
theorem TupAt.dp {K : PySem.W.Frag} {S : Addr → Prop} {H : Hp} {v : V} {c : Cl} (h : TupAt S H v c) : Dp K H v (clD c) := by
  obtain ⟨t, rfl, ht, _⟩ := h
  exact .tup (sqt ht) (.cons (.int _) (.cons (.int _) .nil))
theorem tups_dp {K : PySem.W.Frag} {S : Addr → Prop} {H : Hp} : ∀ {xs : List V} {cs : List Cl}, Paired (TupAt S H) xs cs → DpAll K H xs (cs.map clD)
  | _, _, .nil => .nil
  | _, _, .cons r t => .cons r.dp (tups_dp t)
theorem Row.dp {K : PySem.W.Frag} {S : Addr → Prop} {H : Hp} {a : Addr} {cs : List Cl} (h : Row S H a cs) : Dp K H (.ref a) (rowD cs) := by
  obtain ⟨xs, ha, _, hp⟩ := h
  exact .lst (sq ha) (tups_dp hp)

/-! ### a row turned as often as wished -/
def rot (i : Nat) (cs : List Cl) : List Cl := cs.drop i ++ cs.take i
theorem rot_next {cs : List Cl} {i : Nat} {c : Cl} (h : cs[i]? = some c) : rot i cs = c :: (cs.drop (i + 1) ++ cs.take i) ∧ turn (rot i cs) = rot (i + 1) cs := by
  have e : cs.drop i = c :: cs.drop (i + 1) := by
    obtain ⟨h1, h2⟩ := List.getElem?_eq_some_iff.mp h
    rw [← h2]
    exact List.drop_eq_getElem_cons h1
  refine ⟨by unfold rot; rw [e]; rfl, ?_⟩
  unfold rot
  rw [e, List.take_add_one, h]
  show cs.drop (i + 1) ++ cs.take i ++ [c] = cs.drop (i + 1) ++ (cs.take i ++ [c])
  rw [List.append_assoc]
theorem rot_ok {cs : List Cl} (h : CsOk cs) (i : Nat) : CsOk (rot i cs) := by
  obtain ⟨h1, h2, h3⟩ := h
  have l : (rot i cs).length = cs.length := by
    unfold rot
    rw [List.length_append, List.length_drop, List.length_take]
    omega
  refine ⟨by omega, by omega, fun c hc => ?_⟩
  rcases List.mem_append.mp hc with h | h
  · exact h3 c (List.mem_of_mem_drop h)
  · exact h3 c (List.mem_of_mem_take h)
theorem rot_stay {cs : List Cl} {x : Int} (h : run cs x = x) (i : Nat) : run (rot i cs) (run (cs.take i) x) = run (cs.take i) x := by
  unfold rot
  rw [run_app, ← run_app (cs.take i), List.take_append_drop, h]
theorem take_bd {cs : List Cl} (h : CsOk cs) (i : Nat) (x : Int) : x - 8000000000000000 ≤ run (cs.take i) x ∧ run (cs.take i) x ≤ x + 8000000000000000 := by
  have b := run_bd (cs := cs.take i) (fun c hc => h.2.2 c (List.mem_of_mem_take hc)) x
  have l : (cs.take i).length ≤ cs.length := List.length_take_le' ..
  have l8 := h.2.1
  omega
end Rc

namespace Rc
open PySem PySem.Spec PyProof.Rows L2
/-! ## the text, by places -/
def topS (i : Nat) : Stmt := PySem.Challenge.pw_roundclerks_k67_whole_turned_ways.main.body.getD i (.Pass ⟨0, 0, 0, 0⟩)
abbrev s_is_whole : Stmt := topS 10
abbrev N_is_whole : List Str := ["thing", "least", "most"]
abbrev P_is_whole : List Str := ["thing", "least", "most"]
theorem sc_is_whole : FnScope N_is_whole P_is_whole (defScope s_is_whole) := ⟨rfl, rfl, rfl, by decide +kernel, rfl, by decide +kernel, by decide +kernel⟩
abbrev s_need_amount : Stmt := topS 11
abbrev N_need_amount : List Str := ["amount"]
abbrev P_need_amount : List Str := ["amount"]
theorem sc_need_amount : FnScope N_need_amount P_need_amount (defScope s_need_amount) := ⟨rfl, rfl, rfl, by decide +kernel, rfl, by decide +kernel, by decide +kernel⟩
abbrev s_is_clerk : Stmt := topS 12
abbrev N_is_clerk : List Str := ["thing", "coin", "lenience"]
abbrev P_is_clerk : List Str := ["thing"]
theorem sc_is_clerk : FnScope N_is_clerk P_is_clerk (defScope s_is_clerk) := ⟨rfl, rfl, rfl, by decide +kernel, rfl, by decide +kernel, by decide +kernel⟩
abbrev s_need_clerk : Stmt := topS 13
abbrev N_need_clerk : List Str := ["clerk"]
abbrev P_need_clerk : List Str := ["clerk"]
theorem sc_need_clerk : FnScope N_need_clerk P_need_clerk (defScope s_need_clerk) := ⟨rfl, rfl, rfl, by decide +kernel, rfl, by decide +kernel, by decide +kernel⟩
abbrev s_made_by : Stmt := topS 14
abbrev N_made_by : List Str := ["clerk", "amount", "coin", "lenience"]
abbrev P_made_by : List Str := ["clerk", "amount"]
theorem sc_made_by : FnScope N_made_by P_made_by (defScope s_made_by) := ⟨rfl, rfl, rfl, by decide +kernel, rfl, by decide +kernel, by decide +kernel⟩
abbrev s_makes : Stmt := topS 15
abbrev N_makes : List Str := ["clerk", "amount"]
abbrev P_makes : List Str := ["clerk", "amount"]
theorem sc_makes : FnScope N_makes P_makes (defScope s_makes) := ⟨rfl, rfl, rfl, by decide +kernel, rfl, by decide +kernel, by decide +kernel⟩
abbrev s_is_row : Stmt := topS 18
abbrev N_is_row : List Str := ["thing", "one"]
abbrev P_is_row : List Str := ["thing"]
theorem sc_is_row : FnScope N_is_row P_is_row (defScope s_is_row) := ⟨rfl, rfl, rfl, by decide +kernel, rfl, by decide +kernel, by decide +kernel⟩
abbrev s_need_row : Stmt := topS 19
abbrev N_need_row : List Str := ["row"]
abbrev P_need_row : List Str := ["row"]
theorem sc_need_row : FnScope N_need_row P_need_row (defScope s_need_row) := ⟨rfl, rfl, rfl, by decide +kernel, rfl, by decide +kernel, by decide +kernel⟩
abbrev s_made_through : Stmt := topS 20
abbrev N_made_through : List Str := ["row", "amount", "found", "clerk"]
abbrev P_made_through : List Str := ["row", "amount"]
theorem sc_made_through : FnScope N_made_through P_made_through (defScope s_made_through) := ⟨rfl, rfl, rfl, by decide +kernel, rfl, by decide +kernel, by decide +kernel⟩
abbrev s_made_in_round : Stmt := topS 23
abbrev N_made_in_round : List Str := ["row", "amount"]
abbrev P_made_in_round : List Str := ["row", "amount"]
theorem sc_made_in_round : FnScope N_made_in_round P_made_in_round (defScope s_made_in_round) := ⟨rfl, rfl, rfl, by decide +kernel, rfl, by decide +kernel, by decide +kernel⟩
abbrev s_does_stay : Stmt := topS 24
abbrev N_does_stay : List Str := ["row", "amount"]
abbrev P_does_stay : List Str := ["row", "amount"]
theorem sc_does_stay : FnScope N_does_stay P_does_stay (defScope s_does_stay) := ⟨rfl, rfl, rfl, by decide +kernel, rfl, by decide +kernel, by decide +kernel⟩
abbrev s_settles : Stmt := topS 25
abbrev N_settles : List Str := ["row", "amount", "here", "rounds", "later"]
abbrev P_settles : List Str := ["row", "amount"]
theorem sc_settles : FnScope N_settles P_settles (defScope s_settles) := ⟨rfl, rfl, rfl, by decide +kernel, rfl, by decide +kernel, by decide +kernel⟩
abbrev s_turned : Stmt := topS 26
abbrev N_turned : List Str := ["row"]
abbrev P_turned : List Str := ["row"]
theorem sc_turned : FnScope N_turned P_turned (defScope s_turned) := ⟨rfl, rfl, rfl, by decide +kernel, rfl, by decide +kernel, by decide +kernel⟩
abbrev s_stays_turned : Stmt := topS 27
abbrev N_stays_turned : List Str := ["row", "amount"]
abbrev P_stays_turned : List Str := ["row", "amount"]
theorem sc_stays_turned : FnScope N_stays_turned P_stays_turned (defScope s_stays_turned) := ⟨rfl, rfl, rfl, by decide +kernel, rfl, by decide +kernel, by decide +kernel⟩
abbrev s__law_deck : Stmt := topS 29
abbrev N__law_deck : List Str := ["_law_script", "_law_pools", "_law_k", "_law_cell"]
abbrev P__law_deck : List Str := ["_law_script"]
theorem sc__law_deck : FnScope N__law_deck P__law_deck (defScope s__law_deck) := ⟨rfl, rfl, rfl, by decide +kernel, rfl, by decide +kernel, by decide +kernel⟩
abbrev s__law_draw : Stmt := topS 30
abbrev N__law_draw : List Str := ["_law_deck_here", "_law_many", "_law_pool", "_law_found", "_law_mixed"]
abbrev P__law_draw : List Str := ["_law_deck_here", "_law_many"]
theorem sc__law_draw : FnScope N__law_draw P__law_draw (defScope s__law_draw) := ⟨rfl, rfl, rfl, by decide +kernel, rfl, by decide +kernel, by decide +kernel⟩
abbrev s__law_lenience : Stmt := topS 31
abbrev N__law_lenience : List Str := ["_law_deck_here", "_law_coin", "_law_some"]
abbrev P__law_lenience : List Str := ["_law_deck_here", "_law_coin"]
theorem sc__law_lenience : FnScope N__law_lenience P__law_lenience (defScope s__law_lenience) := ⟨rfl, rfl, rfl, by decide +kernel, rfl, by decide +kernel, by decide +kernel⟩
abbrev s__law_near_team : Stmt := topS 32
abbrev N__law_near_team : List Str := ["_law_deck_here", "_law_most", "_law_whole", "_law_coin", "_law_coins", "_law_found", "_law_k"]
abbrev P__law_near_team : List Str := ["_law_deck_here", "_law_most"]
theorem sc__law_near_team : FnScope N__law_near_team P__law_near_team (defScope s__law_near_team) := ⟨rfl, rfl, rfl, by decide +kernel, rfl, by decide +kernel, by decide +kernel⟩
abbrev s__law_far_team : Stmt := topS 33
abbrev N__law_far_team : List Str := ["_law_deck_here", "_law_most", "_law_some", "_law_base", "_law_found", "_law_k", "_law_coin"]
abbrev P__law_far_team : List Str := ["_law_deck_here", "_law_most"]
theorem sc__law_far_team : FnScope N__law_far_team P__law_far_team (defScope s__law_far_team) := ⟨rfl, rfl, rfl, by decide +kernel, rfl, by decide +kernel, by decide +kernel⟩
abbrev s__law_round : Stmt := topS 34
abbrev N__law_round : List Str := ["_law_team", "_law_x", "_law_coin", "_law_lenience_here"]
abbrev P__law_round : List Str := ["_law_team", "_law_x"]
theorem sc__law_round : FnScope N__law_round P__law_round (defScope s__law_round) := ⟨rfl, rfl, rfl, by decide +kernel, rfl, by decide +kernel, by decide +kernel⟩
abbrev s__law_ways_right : Stmt := topS 35
abbrev N__law_ways_right : List Str := ["_law_team", "_law_x", "_law_rounds", "_law_there", "_law_fewer", "_law_other"]
abbrev P__law_ways_right : List Str := ["_law_team", "_law_x"]
theorem sc__law_ways_right : FnScope N__law_ways_right P__law_ways_right (defScope s__law_ways_right) := ⟨rfl, rfl, rfl, by decide +kernel, rfl, by decide +kernel, by decide +kernel⟩
abbrev s__law_round_right : Stmt := topS 36
abbrev N__law_round_right : List Str := ["_law_team", "_law_there", "_law_here", "_law_row_here", "_law_turn"]
abbrev P__law_round_right : List Str := ["_law_team", "_law_there"]
theorem sc__law_round_right : FnScope N__law_round_right P__law_round_right (defScope s__law_round_right) := ⟨rfl, rfl, rfl, by decide +kernel, rfl, by decide +kernel, by decide +kernel⟩
abbrev s_law : Stmt := topS 37
abbrev N_law : List Str := ["_law_script", "_law_deck_here", "_law_turn", "_law_team", "_law_k", "_law_x", "_law_often"]
abbrev P_law : List Str := ["_law_script"]
theorem sc_law : FnScope N_law P_law (defScope s_law) := ⟨rfl, rfl, rfl, by decide +kernel, rfl, by decide +kernel, by decide +kernel⟩
/-- what the top has written -/
structure Tx (K : PySem.W.Frag) (mg : Str → Option Value) where
  z_all : mg "all" = none
  z_bool : mg "bool" = none
  z_int : mg "int" = none
  z_isinstance : mg "isinstance" = none
  z_len : mg "len" = none
  z_list : mg "list" = none
  z_max : mg "max" = none
  z_min : mg "min" = none
  z_range : mg "range" = none
  z_tuple : mg "tuple" = none
  t_MOST_AMOUNT : Tok
  m_MOST_AMOUNT : mg "MOST_AMOUNT" = some (.int 1000000000000000000000000000000 t_MOST_AMOUNT)
  t_MOST_COIN : Tok
  m_MOST_COIN : mg "MOST_COIN" = some (.int 1000000000000000 t_MOST_COIN)
  t_MOST_CLERKS : Tok
  m_MOST_CLERKS : mg "MOST_CLERKS" = some (.int 8 t_MOST_CLERKS)
  t_MOST_ROUNDS : Tok
  m_MOST_ROUNDS : mg "MOST_ROUNDS" = some (.int 20000 t_MOST_ROUNDS)
  c_TooFar : Addr
  g_TooFar : mg "TooFar" = some (.ref c_TooFar)
  x_TooFar : PySem.W.excIn K c_TooFar [.type "ValueError", .type "Exception", .type "BaseException", .type "object"] "ValueError.__new__" = true
  kc_TooFar : PySem.W.keepIn K (.ref c_TooFar) = true
  be_TooFar : PySem.W.subIn K (.ref c_TooFar) (.type "BaseException") = some true
  ty_TooFar : PySem.W.typeIn K (.ref c_TooFar) = some (.type "type")
  ic_TooFar : PySem.W.isClsIn K c_TooFar = true
  su_TooFar : PySem.W.subIn K (.ref c_TooFar) (.ref c_TooFar) = some true
  f_is_whole : Addr
  fd_is_whole : FuncData
  F_is_whole : Fun K "is_whole" "is_whole" s_is_whole f_is_whole fd_is_whole
  g_is_whole : mg "is_whole" = some (.ref f_is_whole)
  b_is_whole : Binds K fd_is_whole P_is_whole []
  f_need_amount : Addr
  fd_need_amount : FuncData
  F_need_amount : Fun K "need_amount" "need_amount" s_need_amount f_need_amount fd_need_amount
  g_need_amount : mg "need_amount" = some (.ref f_need_amount)
  b_need_amount : Binds K fd_need_amount P_need_amount []
  f_is_clerk : Addr
  fd_is_clerk : FuncData
  F_is_clerk : Fun K "is_clerk" "is_clerk" s_is_clerk f_is_clerk fd_is_clerk
  g_is_clerk : mg "is_clerk" = some (.ref f_is_clerk)
  b_is_clerk : Binds K fd_is_clerk P_is_clerk []
  f_need_clerk : Addr
  fd_need_clerk : FuncData
  F_need_clerk : Fun K "need_clerk" "need_clerk" s_need_clerk f_need_clerk fd_need_clerk
  g_need_clerk : mg "need_clerk" = some (.ref f_need_clerk)
  b_need_clerk : Binds K fd_need_clerk P_need_clerk []
  f_made_by : Addr
  fd_made_by : FuncData
  F_made_by : Fun K "made_by" "made_by" s_made_by f_made_by fd_made_by
  g_made_by : mg "made_by" = some (.ref f_made_by)
  b_made_by : Binds K fd_made_by P_made_by []
  f_makes : Addr
  fd_makes : FuncData
  F_makes : Fun K "makes" "makes" s_makes f_makes fd_makes
  g_makes : mg "makes" = some (.ref f_makes)
  b_makes : Binds K fd_makes P_makes []
  f_is_row : Addr
  fd_is_row : FuncData
  F_is_row : Fun K "is_row" "is_row" s_is_row f_is_row fd_is_row
  g_is_row : mg "is_row" = some (.ref f_is_row)
  b_is_row : Binds K fd_is_row P_is_row []
  f_need_row : Addr
  fd_need_row : FuncData
  F_need_row : Fun K "need_row" "need_row" s_need_row f_need_row fd_need_row
  g_need_row : mg "need_row" = some (.ref f_need_row)
  b_need_row : Binds K fd_need_row P_need_row []
  f_made_through : Addr
  fd_made_through : FuncData
  F_made_through : Fun K "made_through" "made_through" s_made_through f_made_through fd_made_through
  g_made_through : mg "made_through" = some (.ref f_made_through)
  b_made_through : Binds K fd_made_through P_made_through []
  f_made_in_round : Addr
  fd_made_in_round : FuncData
  F_made_in_round : Fun K "made_in_round" "made_in_round" s_made_in_round f_made_in_round fd_made_in_round
  g_made_in_round : mg "made_in_round" = some (.ref f_made_in_round)
  b_made_in_round : Binds K fd_made_in_round P_made_in_round []
  f_does_stay : Addr
  fd_does_stay : FuncData
  F_does_stay : Fun K "does_stay" "does_stay" s_does_stay f_does_stay fd_does_stay
  g_does_stay : mg "does_stay" = some (.ref f_does_stay)
  b_does_stay : Binds K fd_does_stay P_does_stay []
  f_settles : Addr
  fd_settles : FuncData
  F_settles : Fun K "settles" "settles" s_settles f_settles fd_settles
  g_settles : mg "settles" = some (.ref f_settles)
  b_settles : Binds K fd_settles P_settles []
  f_turned : Addr
  fd_turned : FuncData
  F_turned : Fun K "turned" "turned" s_turned f_turned fd_turned
  g_turned : mg "turned" = some (.ref f_turned)
  b_turned : Binds K fd_turned P_turned []
  f_stays_turned : Addr
  fd_stays_turned : FuncData
  F_stays_turned : Fun K "stays_turned" "stays_turned" s_stays_turned f_stays_turned fd_stays_turned
  g_stays_turned : mg "stays_turned" = some (.ref f_stays_turned)
  b_stays_turned : Binds K fd_stays_turned P_stays_turned []
  f__law_deck : Addr
  fd__law_deck : FuncData
  F__law_deck : Fun K "_law_deck" "_law_deck" s__law_deck f__law_deck fd__law_deck
  g__law_deck : mg "_law_deck" = some (.ref f__law_deck)
  b__law_deck : Binds K fd__law_deck P__law_deck []
  f__law_draw : Addr
  fd__law_draw : FuncData
  F__law_draw : Fun K "_law_draw" "_law_draw" s__law_draw f__law_draw fd__law_draw
  g__law_draw : mg "_law_draw" = some (.ref f__law_draw)
  b__law_draw : Binds K fd__law_draw P__law_draw []
  f__law_lenience : Addr
  fd__law_lenience : FuncData
  F__law_lenience : Fun K "_law_lenience" "_law_lenience" s__law_lenience f__law_lenience fd__law_lenience
  g__law_lenience : mg "_law_lenience" = some (.ref f__law_lenience)
  b__law_lenience : Binds K fd__law_lenience P__law_lenience []
  f__law_near_team : Addr
  fd__law_near_team : FuncData
  F__law_near_team : Fun K "_law_near_team" "_law_near_team" s__law_near_team f__law_near_team fd__law_near_team
  g__law_near_team : mg "_law_near_team" = some (.ref f__law_near_team)
  b__law_near_team : Binds K fd__law_near_team P__law_near_team []
  f__law_far_team : Addr
  fd__law_far_team : FuncData
  F__law_far_team : Fun K "_law_far_team" "_law_far_team" s__law_far_team f__law_far_team fd__law_far_team
  g__law_far_team : mg "_law_far_team" = some (.ref f__law_far_team)
  b__law_far_team : Binds K fd__law_far_team P__law_far_team []
  f__law_round : Addr
  fd__law_round : FuncData
  F__law_round : Fun K "_law_round" "_law_round" s__law_round f__law_round fd__law_round
  g__law_round : mg "_law_round" = some (.ref f__law_round)
  b__law_round : Binds K fd__law_round P__law_round []
  f__law_ways_right : Addr
  fd__law_ways_right : FuncData
  F__law_ways_right : Fun K "_law_ways_right" "_law_ways_right" s__law_ways_right f__law_ways_right fd__law_ways_right
  g__law_ways_right : mg "_law_ways_right" = some (.ref f__law_ways_right)
  b__law_ways_right : Binds K fd__law_ways_right P__law_ways_right []
  f__law_round_right : Addr
  fd__law_round_right : FuncData
  F__law_round_right : Fun K "_law_round_right" "_law_round_right" s__law_round_right f__law_round_right fd__law_round_right
  g__law_round_right : mg "_law_round_right" = some (.ref f__law_round_right)
  b__law_round_right : Binds K fd__law_round_right P__law_round_right []
  f_law : Addr
  fd_law : FuncData
  F_law : Fun K "law" "law" s_law f_law fd_law
  g_law : mg "law" = some (.ref f_law)
  b_law : Binds K fd_law P_law []
end Rc

namespace Rc
open PySem PySem.Spec PyProof.Rows L2
section
variable {P : Program} {w : World} {K : PySem.W.Frag} {mg : Str → Option Value} {base : Heap}
def sp_is_whole : Sp := fun vs H Q _ => ∃ x a b : Int, vs = [.int x, .int a, .int b] ∧ Q (.bl (decide (a ≤ x) && decide (x ≤ b))) H
theorem ok_is_whole (T : Tx K mg) : FnOk P w K mg base CX0 1 T.f_is_whole T.fd_is_whole P_is_whole sp_is_whole := by
  refine T.F_is_whole.ok sc_is_whole (fun vs H Q E h => ?_) (fun cdv A outer s H vs Q E hr h => ?_)
  · obtain ⟨x, a, b, rfl, q⟩ := h
    rfl
  · obtain ⟨x, a, b, rfl, q⟩ := h
    refine ⟨_, (pss_one (ps_ret (pe_and (pe_callB call_isi (by rfl) T.z_isinstance (by decide +kernel) (pa_cons (pv 0) (pa_cons (pe_bltn (v := .ty "int") (u := .type "int") (by rfl) T.z_int (by decide +kernel) (by exact rfl)) pa_nil))) (pe_and (pe_not (pe_callB call_isi (by rfl) T.z_isinstance (by decide +kernel) (pa_cons (pv 0) (pa_cons (pe_bltn (v := .ty "bool") (u := .type "bool") (by rfl) T.z_bool (by decide +kernel) (by exact rfl)) pa_nil)))) (pe_one (pe_chain op_le op_le (pv 1) (pv 0) (pv 2))))))), ?_⟩
    refine ⟨_, rfl, _, _, _, _, true, rfl, .ty _, .base (.int _), kit_ty (by decide +kernel), true, rfl, iteT ?_⟩
    refine ⟨_, rfl, _, _, _, _, false, rfl, .ty _, .base (.int _), kit_ty (by decide +kernel), _, rfl, true, rfl, iteT ?_⟩
    refine ⟨_, rfl, _, rfl, _, _, rfl, rfl, _, rfl, ite2 (fun h1 => ?_) (fun h1 => ?_)⟩
    · rw [h1] at q
      exact ⟨_, rfl, _, _, rfl, rfl, q⟩
    · rw [Bool.not_eq_true] at h1
      rw [h1] at q
      exact q
end
end Rc

namespace Rc
open PySem PySem.Spec PyProof.Rows L2
section
variable {P : Program} {w : World} {K : PySem.W.Frag} {mg : Str → Option Value} {base : Heap}
/-- an amount that is one: nothing is raised -/
def sp_need_amount : Sp := fun vs H Q _ => ∃ x : Int, vs = [.int x] ∧ -1000000000000000000000000000000 ≤ x ∧ x ≤ 1000000000000000000000000000000 ∧ Q .non H
theorem ok_need_amount (T : Tx K mg) : FnOk P w K mg base CX0 2 T.f_need_amount T.fd_need_amount P_need_amount sp_need_amount := by
  have G_is_whole := ok_is_whole (P := P) (w := w) (base := base) T
  refine T.F_need_amount.ok sc_need_amount (fun vs H Q E h => ?_) (fun cdv A outer s H vs Q E hr h => ?_)
  · obtain ⟨x, rfl, h1, h2, q⟩ := h
    rfl
  · obtain ⟨x, rfl, h1, h2, q⟩ := h
    refine ⟨_, (pss_one (ps_if (pt_not (pt_val (pe_call G_is_whole (hr.mono (by decide)) rfl T.g_is_whole T.F_is_whole.kp T.b_is_whole .nil pass0 (pa_cons (pv 0) (pa_cons (pe_un un_neg (pe_glob (v := .int 1000000000000000000000000000000) rfl T.m_MOST_AMOUNT ⟨_, rfl⟩)) (pa_cons (pe_glob (v := .int 1000000000000000000000000000000) rfl T.m_MOST_AMOUNT ⟨_, rfl⟩) pa_nil)))))) (pss_one ps_never) pss_nil)), ?_⟩
    refine ⟨_, rfl, _, rfl, x, _, _, rfl, true, ?_, ?_⟩
    · show V.bl (decide (-1000000000000000000000000000000 ≤ x) && decide (x ≤ 1000000000000000000000000000000)) = .bl true
      rw [decide_eq_true h1, decide_eq_true h2]
      rfl
    · exact iteF q
end
end Rc

namespace Rc
open PySem PySem.Spec PyProof.Rows L2
section
variable {P : Program} {w : World} {K : PySem.W.Frag} {mg : Str → Option Value} {base : Heap}
/-- what is a clerk is one -/
def sp_is_clerk : Sp := fun vs H Q _ => ∃ (t : Addr) (c : Cl), vs = [.ref t] ∧ H t = some (.tup (tupOf c)) ∧ ClOk c ∧ Q (.bl true) H
theorem ok_is_clerk (T : Tx K mg) : FnOk P w K mg base CX0 2 T.f_is_clerk T.fd_is_clerk P_is_clerk sp_is_clerk := by
  have G_is_whole := ok_is_whole (P := P) (w := w) (base := base) T
  refine T.F_is_clerk.ok sc_is_clerk (fun vs H Q E h => ?_) (fun cdv A outer s H vs Q E hr h => ?_)
  · obtain ⟨t, ⟨c, l⟩, rfl, ht, ⟨k1, k2, k3, k4⟩, q⟩ := h
    rfl
  · obtain ⟨t, ⟨c, l⟩, rfl, ht, ⟨k1, k2, k3, k4⟩, q⟩ := h
    refine ⟨_, (pss_cons (ps_if (PW.pt (pw_or (pt_not (pt_val (pe_callB call_isi (by rfl) T.z_isinstance (by decide +kernel) (pa_cons (pv 0) (pa_cons (pe_bltn (v := .ty "tuple") (u := .type "tuple") (by rfl) T.z_tuple (by decide +kernel) (by exact rfl)) pa_nil))))) (pw_or1 (pt_cmpR op_ne (pe_callB call_len_seq (by rfl) T.z_len PySem.boot_len (pa_cons (pv 0) pa_nil)) pe_int (nomark _))))) (pss_one (ps_ret pe_bl)) pss_nil)
    (pss_cons (ps_asg (pv 0) (pg_tup rfl (pgs_cons (pg_name (i := 1) sc_is_clerk.nd rfl (.inl rfl)) (pgs_cons (pg_name (i := 2) sc_is_clerk.nd rfl (.inl rfl)) pgs_nil))))
    (pss_one (ps_ret (pe_and (pe_call G_is_whole (hr.mono (by decide)) rfl T.g_is_whole T.F_is_whole.kp T.b_is_whole .nil pass0 (pa_cons (pv 1) (pa_cons pe_int (pa_cons (pe_glob (v := .int 1000000000000000) rfl T.m_MOST_COIN ⟨_, rfl⟩) pa_nil)))) (pe_one (pe_call G_is_whole (hr.mono (by decide)) rfl T.g_is_whole T.F_is_whole.kp T.b_is_whole .nil pass0 (pa_cons (pv 2) (pa_cons pe_int (pa_cons (pe_op op_sub (pv 1) pe_int) pa_nil)))))))))), ?_⟩
    refine ⟨_, rfl, _, _, _, _, true, rfl, .ty _, .base (.tup ht), kit_ty (by decide +kernel), true, rfl, iteF ?_⟩
    refine ⟨_, rfl, t, _, rfl, .inr (sqt ht), rfl, _, rfl, iteF ?_⟩
    refine ⟨_, rfl, t, _, rfl, sqt ht, rfl, .int c, [.int l], rfl, .int l, [], rfl, rfl, ?_⟩
    refine ⟨_, rfl, c, _, _, rfl, true, ?_, iteT ?_⟩
    · show V.bl (decide (1 ≤ c) && decide (c ≤ 1000000000000000)) = .bl true
      rw [decide_eq_true k1, decide_eq_true k2]
      rfl
    refine ⟨_, rfl, _, rfl, _, _, rfl, rfl, l, _, _, rfl, ?_⟩
    show Q (.bl (decide (0 ≤ l) && decide (l ≤ c - 1))) H
    rw [decide_eq_true k3, decide_eq_true k4]
    exact q
end
end Rc

namespace Rc
open PySem PySem.Spec PyProof.Rows L2
section
variable {P : Program} {w : World} {K : PySem.W.Frag} {mg : Str → Option Value} {base : Heap}
def sp_need_clerk : Sp := fun vs H Q _ => ∃ (t : Addr) (c : Cl), vs = [.ref t] ∧ H t = some (.tup (tupOf c)) ∧ ClOk c ∧ Q .non H
theorem ok_need_clerk (T : Tx K mg) : FnOk P w K mg base CX0 3 T.f_need_clerk T.fd_need_clerk P_need_clerk sp_need_clerk := by
  have G_is_clerk := ok_is_clerk (P := P) (w := w) (base := base) T
  refine T.F_need_clerk.ok sc_need_clerk (fun vs H Q E h => ?_) (fun cdv A outer s H vs Q E hr h => ?_)
  · obtain ⟨t, c, rfl, ht, hc, q⟩ := h
    rfl
  · obtain ⟨t, c, rfl, ht, hc, q⟩ := h
    refine ⟨_, (pss_one (ps_if (pt_not (pt_val (pe_call G_is_clerk (hr.mono (by decide)) rfl T.g_is_clerk T.F_is_clerk.kp T.b_is_clerk .nil pass0 (pa_cons (pv 0) pa_nil)))) (pss_one ps_never) pss_nil)), ?_⟩
    exact ⟨_, rfl, t, c, rfl, ht, hc, true, rfl, iteF q⟩
end
end Rc

namespace Rc
open PySem PySem.Spec PyProof.Rows L2
section
variable {P : Program} {w : World} {K : PySem.W.Frag} {mg : Str → Option Value} {base : Heap}
def sp_made_by : Sp := fun vs H Q _ => ∃ (t : Addr) (c : Cl) (x : Int), vs = [.ref t, .int x] ∧ H t = some (.tup (tupOf c)) ∧ ClOk c ∧ Q (.int (mk c x)) H
theorem ok_made_by (T : Tx K mg) : FnOk P w K mg base CX0 1 T.f_made_by T.fd_made_by P_made_by sp_made_by := by
  refine T.F_made_by.ok sc_made_by (fun vs H Q E h => ?_) (fun cdv A outer s H vs Q E hr h => ?_)
  · obtain ⟨t, ⟨c, l⟩, x, rfl, ht, ⟨k1, k2, k3, k4⟩, q⟩ := h
    rfl
  · obtain ⟨t, ⟨c, l⟩, x, rfl, ht, ⟨k1, k2, k3, k4⟩, q⟩ := h
    refine ⟨_, (pss_cons (ps_asg (pv 0) (pg_tup rfl (pgs_cons (pg_name (i := 2) sc_made_by.nd rfl (.inl rfl)) (pgs_cons (pg_name (i := 3) sc_made_by.nd rfl (.inl rfl)) pgs_nil))))
    (pss_one (ps_ret (pe_op op_mul (pe_op op_fdivW (pe_op op_add (pv 1) (pv 3)) (pv 2)) (pv 2))))), ?_⟩
    refine ⟨_, rfl, t, _, rfl, sqt ht, rfl, .int c, [.int l], rfl, .int l, [], rfl, rfl, ?_⟩
    refine ⟨_, rfl, _, rfl, _, _, rfl, rfl, _, rfl, _, _, rfl, rfl, wide_div (b := 60) ?_ ?_ (by omega) (by omega), _, rfl, _, _, rfl, rfl, .inr ?_, q⟩
    · show (0 : Int) < c
      omega
    · show c.natAbs < 2 ^ 60
      have k2' : c ≤ 1000000000000000 := k2
      have k1' : 1 ≤ c := k1
      omega
    · show -(2 ^ 64) < c ∧ c < 2 ^ 64
      have k2' : c ≤ 1000000000000000 := k2
      have k1' : 1 ≤ c := k1
      omega
end
end Rc

namespace Rc
open PySem PySem.Spec PyProof.Rows L2
section
variable {P : Program} {w : World} {K : PySem.W.Frag} {mg : Str → Option Value} {base : Heap}
def sp_makes : Sp := fun vs H Q _ => ∃ (t : Addr) (c : Cl) (x : Int), vs = [.ref t, .int x] ∧ H t = some (.tup (tupOf c)) ∧ ClOk c ∧ (-1000000000000000000000000000000 ≤ x ∧ x ≤ 1000000000000000000000000000000) ∧ Q (.int (mk c x)) H
theorem ok_makes (T : Tx K mg) : FnOk P w K mg base CX0 4 T.f_makes T.fd_makes P_makes sp_makes := by
  have G_need_clerk := ok_need_clerk (P := P) (w := w) (base := base) T
  have G_need_amount := ok_need_amount (P := P) (w := w) (base := base) T
  have G_made_by := ok_made_by (P := P) (w := w) (base := base) T
  refine T.F_makes.ok sc_makes (fun vs H Q E h => ?_) (fun cdv A outer s H vs Q E hr h => ?_)
  · obtain ⟨t, c, x, rfl, ht, hc, hx, q⟩ := h
    rfl
  · obtain ⟨t, c, x, rfl, ht, hc, hx, q⟩ := h
    refine ⟨_, (pss_cons (ps_expr (pe_call G_need_clerk (hr.mono (by decide)) rfl T.g_need_clerk T.F_need_clerk.kp T.b_need_clerk .nil pass0 (pa_cons (pv 0) pa_nil)))
    (pss_cons (ps_expr (pe_call G_need_amount (hr.mono (by decide)) rfl T.g_need_amount T.F_need_amount.kp T.b_need_amount .nil pass0 (pa_cons (pv 1) pa_nil)))
    (pss_one (ps_ret (pe_call G_made_by (hr.mono (by decide)) rfl T.g_made_by T.F_made_by.kp T.b_made_by .nil pass0 (pa_cons (pv 0) (pa_cons (pv 1) pa_nil))))))), ?_⟩
    exact ⟨_, rfl, t, c, rfl, ht, hc, _, rfl, x, rfl, hx.1, hx.2, _, rfl, _, rfl, t, c, x, rfl, ht, hc, q⟩
end
end Rc

namespace Rc
open PySem PySem.Spec PyProof.Rows L2
section
variable {P : Program} {w : World} {K : PySem.W.Frag} {mg : Str → Option Value} {base : Heap}
def sp_is_row : Sp := fun vs H Q _ => ∃ (a : Addr) (cs : List Cl), vs = [.ref a] ∧ Row S0 H a cs ∧ CsOk cs ∧ ∀ H', Same H H' → Q (.bl true) H'
theorem ok_is_row (T : Tx K mg) : FnOk P w K mg base CX0 3 T.f_is_row T.fd_is_row P_is_row sp_is_row := by
  have G_is_clerk := ok_is_clerk (P := P) (w := w) (base := base) T
  refine T.F_is_row.ok sc_is_row (fun vs H Q E h => ?_) (fun cdv A outer s H vs Q E hr h => ?_)
  · obtain ⟨a, cs, rfl, ⟨xs, ha, _, hp⟩, ⟨l1, l8, hok⟩, q⟩ := h
    rfl
  · obtain ⟨a, cs, rfl, ⟨xs, ha, _, hp⟩, ⟨l1, l8, hok⟩, q⟩ := h
    refine ⟨_, (pss_one (ps_ret (pe_and (pe_callB call_isi (by rfl) T.z_isinstance (by decide +kernel) (pa_cons (pv 0) (pa_cons (pe_bltn (v := .ty "list") (u := .type "list") (by rfl) T.z_list (by decide +kernel) (by exact rfl)) pa_nil))) (pe_and (pe_chain op_le op_le pe_int (pe_callB call_len_seq (by rfl) T.z_len PySem.boot_len (pa_cons (pv 0) pa_nil)) (pe_glob (v := .int 8) rfl T.m_MOST_CLERKS ⟨_, rfl⟩)) (pe_one (pe_callB (cr_all rfl) (by rfl) T.z_all (by decide +kernel) (pa_cons (pe_lc (own := [("one", 1)]) rfl sc_is_row.nd (pi_list (pv 0)) (blkOk_by (own := [("one", 1)]) (N := N_is_row) (sc := defScope s_is_row) (by decide +kernel)) (fun _ _ _ _ _ => (pg_name (i := 1) sc_is_row.nd rfl (by first | exact .inl rfl | exact .inr rfl))) (fun _ _ _ _ _ => pts_nil) (fun _ _ _ _ _ => (pe_call G_is_clerk (hr.mono (by decide)) rfl T.g_is_clerk T.F_is_clerk.kp T.b_is_clerk .nil pass0 (pa_cons (pv 1) pa_nil)))) pa_nil))))))), ?_⟩
    have hl := pd_len hp
    refine ⟨_, rfl, _, _, _, _, true, rfl, .ty _, .base (.lst ha), kit_ty (by decide +kernel), true, rfl, iteT ?_⟩
    refine ⟨_, rfl, a, _, rfl, .inl (sq ha), _, _, rfl, rfl, true, ?_, iteT ?_⟩
    · show V.bl (decide ((1 : Int) ≤ (xs.length : Int))) = .bl true
      rw [decide_eq_true (by omega)]
    refine ⟨_, _, rfl, rfl, true, ?_, iteT ?_⟩
    · show V.bl (decide ((xs.length : Int) ≤ 8)) = .bl true
      rw [decide_eq_true (by omega)]
    refine ⟨.ref a, rfl, a, rfl, ⟨_, sq ha⟩, fun D hD => lc_list (K := K) (a := a) (xs := xs) (fun i H' => Same H H' ∧ H' D = some (.lst (List.replicate i (.bl true)))) ⟨same_new hD, upd_same⟩ (fun i H' _ ⟨s1, _⟩ => sq (s1 _ _ ha)) (fun i x H' hi ⟨s1, hd⟩ => ?_) (fun H' ⟨s1, hd⟩ => ?_)⟩
    · obtain ⟨c, hc, t, rfl, ht, _⟩ := pd_get hp hi
      have hi2 := (List.getElem?_eq_some_iff.mp hi).1
      refine ⟨rfl, _, rfl, t, c, rfl, s1 _ _ ht, hok c (List.mem_of_getElem? hc), _, hd, ?_, same_mut s1 hD, ?_⟩
      · rw [List.length_replicate]
        exact small (by omega)
      · rw [upd_same, List.replicate_succ']
    · refine ⟨D, List.replicate xs.length true, rfl, ?_, ?_⟩
      · rw [List.map_replicate]
        exact sq hd
      · have e : (List.replicate xs.length true).all id = true := by simp
        rw [e]
        exact q H' s1
end
end Rc

namespace Rc
open PySem PySem.Spec PyProof.Rows L2
section
variable {P : Program} {w : World} {K : PySem.W.Frag} {mg : Str → Option Value} {base : Heap}
def sp_need_row : Sp := fun vs H Q _ => ∃ (a : Addr) (cs : List Cl), vs = [.ref a] ∧ Row S0 H a cs ∧ CsOk cs ∧ ∀ H', Same H H' → Q .non H'
theorem ok_need_row (T : Tx K mg) : FnOk P w K mg base CX0 4 T.f_need_row T.fd_need_row P_need_row sp_need_row := by
  have G_is_row := ok_is_row (P := P) (w := w) (base := base) T
  refine T.F_need_row.ok sc_need_row (fun vs H Q E h => ?_) (fun cdv A outer s H vs Q E hr h => ?_)
  · obtain ⟨a, cs, rfl, hR, hok, q⟩ := h
    rfl
  · obtain ⟨a, cs, rfl, hR, hok, q⟩ := h
    refine ⟨_, (pss_one (ps_if (pt_not (pt_val (pe_call G_is_row (hr.mono (by decide)) rfl T.g_is_row T.F_is_row.kp T.b_is_row .nil pass0 (pa_cons (pv 0) pa_nil)))) (pss_one ps_never) pss_nil)), ?_⟩
    exact ⟨_, rfl, a, cs, rfl, hR, hok, fun H' s1 => ⟨true, rfl, iteF (q H' s1)⟩⟩
end
end Rc

namespace Rc
open PySem PySem.Spec PyProof.Rows L2
section
variable {P : Program} {w : World} {K : PySem.W.Frag} {mg : Str → Option Value} {base : Heap}
/-- a new list, whose last thing is what the row makes -/
def sp_made_through : Sp := fun vs H Q _ => ∃ (a : Addr) (cs : List Cl) (x : Int), vs = [.ref a, .int x] ∧ Row S0 H a cs ∧ CsOk cs ∧
  ∀ (p : Addr) (ys : List V) (H' : Hp), Same H H' → H p = none → H' p = some (.lst (ys ++ [.int (run cs x)])) → Q (.ref p) H'
theorem ok_made_through (T : Tx K mg) : FnOk P w K mg base CX0 2 T.f_made_through T.fd_made_through P_made_through sp_made_through := by
  have G_made_by := ok_made_by (P := P) (w := w) (base := base) T
  refine T.F_made_through.ok sc_made_through (fun vs H Q E h => ?_) (fun cdv A outer s H vs Q E hr h => ?_)
  · obtain ⟨a, cs, x, rfl, ⟨xs, ha, _, hp⟩, ⟨l1, l8, hok⟩, q⟩ := h
    rfl
  · obtain ⟨a, cs, x, rfl, ⟨xs, ha, _, hp⟩, ⟨l1, l8, hok⟩, q⟩ := h
    refine ⟨_, (pss_cons (ps_set (i := 2) sc_made_through.nd rfl (.inl rfl) (pe_lst (pa_cons (pv 1) pa_nil)))
    (pss_cons (ps_for PassesOwn.never rfl (pi_list (pv 0)) (pg_name (i := 3) sc_made_through.nd rfl (.inl rfl)) (pss_one (ps_expr (pe_bm PySem.F.plainAttrs_list PySem.F.slot_list_append PySem.F.type_list_append mt_append (pv 2) (pa_cons (pe_call G_made_by (hr.mono (by decide)) rfl T.g_made_by T.F_made_by.kp T.b_made_by .nil pass0 (pa_cons (pv 3) (pa_cons (pe_ix ix_list (pv 2) (pe_un un_neg pe_int) (fun _ _ => rfl)) pa_nil))) pa_nil)))))
    (pss_one (ps_ret (pv 2))))), ?_⟩
    have hl := pd_len hp
    refine ⟨_, rfl, small' (by show 1 ≤ 1000000; omega), fun p np => ?_⟩
    refine ⟨_, rfl, a, rfl, ⟨_, sq (same_new np _ _ ha)⟩, for_list (K := K) (a := a) (xs := xs) (fun i σ H' => ∃ (ys : List V) (v : Option V), σ = [some (.ref a), some (.int x), some (.ref p), v] ∧ Same H H' ∧ ys.length = i ∧ H' p = some (.lst (ys ++ [.int (run (cs.take i) x)])))
      ⟨[], none, rfl, same_new np, rfl, upd_same⟩ (fun i σ H' _ ⟨_, _, _, s1, _⟩ => sq (s1 _ _ ha)) (fun i v σ H' hi hP => ?_) (fun σ H' hP => ?_)⟩
    · obtain ⟨ys, w0, rfl, s1, ly, hpp⟩ := hP
      obtain ⟨c, hc, t, rfl, ht, _⟩ := pd_get hp hi
      have hi2 := (List.getElem?_eq_some_iff.mp hi).1
      refine ⟨_, rfl, .inl ⟨rfl, _, sq hpp⟩, _, rfl, _, rfl, _, rfl, p, _, _, _, rfl, rfl, sq hpp, atI_last _ _, t, c, _, rfl, s1 _ _ ht, hok c (List.mem_of_getElem? hc), p, _, _, rfl, rfl, hpp, ?_, ?_⟩
      · rw [List.length_append]
        exact small (by show ys.length + 1 ≤ 1000000; omega)
      · refine ⟨ys ++ [.int (run (cs.take i) x)], _, rfl, same_mut s1 np, ?_, ?_⟩
        · rw [List.length_append, ly]
          rfl
        · rw [upd_same, run_take hc]
    · obtain ⟨ys, w0, rfl, s1, ly, hpp⟩ := hP
      have e : cs.take xs.length = cs := List.take_of_length_le (by omega)
      rw [e] at hpp
      exact ⟨_, rfl, q p ys H' s1 np hpp⟩
end
end Rc

namespace Rc
open PySem PySem.Spec PyProof.Rows L2
section
variable {P : Program} {w : World} {K : PySem.W.Frag} {mg : Str → Option Value} {base : Heap}
def sp_made_in_round : Sp := fun vs H Q _ => ∃ (a : Addr) (cs : List Cl) (x : Int), vs = [.ref a, .int x] ∧ Row S0 H a cs ∧ CsOk cs ∧ ∀ H', Same H H' → Q (.int (run cs x)) H'
theorem ok_made_in_round (T : Tx K mg) : FnOk P w K mg base CX0 3 T.f_made_in_round T.fd_made_in_round P_made_in_round sp_made_in_round := by
  have G_made_through := ok_made_through (P := P) (w := w) (base := base) T
  refine T.F_made_in_round.ok sc_made_in_round (fun vs H Q E h => ?_) (fun cdv A outer s H vs Q E hr h => ?_)
  · obtain ⟨a, cs, x, rfl, hR, hok, q⟩ := h
    rfl
  · obtain ⟨a, cs, x, rfl, hR, hok, q⟩ := h
    refine ⟨_, (pss_one (ps_ret (pe_ix ix_list (pe_call G_made_through (hr.mono (by decide)) rfl T.g_made_through T.F_made_through.kp T.b_made_through .nil pass0 (pa_cons (pv 0) (pa_cons (pv 1) pa_nil))) (pe_un un_neg pe_int) (fun _ _ => rfl)))), ?_⟩
    refine ⟨_, rfl, _, rfl, a, cs, x, rfl, hR, hok, fun p ys H' s1 np hp => ?_⟩
    exact ⟨_, rfl, p, _, _, _, rfl, rfl, sq hp, atI_last _ _, q H' s1⟩
end
end Rc

namespace Rc
open PySem PySem.Spec PyProof.Rows L2
section
variable {P : Program} {w : World} {K : PySem.W.Frag} {mg : Str → Option Value} {base : Heap}
def sp_does_stay : Sp := fun vs H Q _ => ∃ (a : Addr) (cs : List Cl) (x : Int), vs = [.ref a, .int x] ∧ Row S0 H a cs ∧ CsOk cs ∧ AmOk x ∧ ∀ H', Same H H' → Q (.bl (decide (run cs x = x))) H'
theorem ok_does_stay (T : Tx K mg) : FnOk P w K mg base CX0 5 T.f_does_stay T.fd_does_stay P_does_stay sp_does_stay := by
  have G_need_row := ok_need_row (P := P) (w := w) (base := base) T
  have G_need_amount := ok_need_amount (P := P) (w := w) (base := base) T
  have G_made_in_round := ok_made_in_round (P := P) (w := w) (base := base) T
  refine T.F_does_stay.ok sc_does_stay (fun vs H Q E h => ?_) (fun cdv A outer s H vs Q E hr h => ?_)
  · obtain ⟨a, cs, x, rfl, hR, hok, hx, q⟩ := h
    rfl
  · obtain ⟨a, cs, x, rfl, hR, hok, hx, q⟩ := h
    refine ⟨_, (pss_cons (ps_expr (pe_call G_need_row (hr.mono (by decide)) rfl T.g_need_row T.F_need_row.kp T.b_need_row .nil pass0 (pa_cons (pv 0) pa_nil)))
    (pss_cons (ps_expr (pe_call G_need_amount (hr.mono (by decide)) rfl T.g_need_amount T.F_need_amount.kp T.b_need_amount .nil pass0 (pa_cons (pv 1) pa_nil)))
    (pss_one (ps_ret (pe_cmpR op_eq (pe_call G_made_in_round (hr.mono (by decide)) rfl T.g_made_in_round T.F_made_in_round.kp T.b_made_in_round .nil pass0 (pa_cons (pv 0) (pa_cons (pv 1) pa_nil))) (pv 1) (nomark _)))))), ?_⟩
    refine ⟨_, rfl, a, cs, rfl, hR, hok, fun H1 s1 => ?_⟩
    refine ⟨_, rfl, x, rfl, hx.1, hx.2, ?_⟩
    refine ⟨_, rfl, _, rfl, a, cs, x, rfl, hR.same s1, hok, fun H2 s2 => ?_⟩
    refine ⟨_, rfl, rfl, ?_⟩
    have e : decide (V.int (run cs x) = V.int x) = decide (run cs x = x) := by
      rw [decide_eq_decide]
      exact ⟨fun z => V.int.inj z, fun z => by rw [z]⟩
    rw [e]
    exact q H2 (s1.trans s2)
end
end Rc

namespace Rc
open PySem PySem.Spec PyProof.Rows L2
section
variable {P : Program} {w : World} {K : PySem.W.Frag} {mg : Str → Option Value} {base : Heap}
/-- settles: the least number of rounds, and what it is then; TooFar (of the class at C) where it is above twenty thousand -/
def sp_settles (CTooFar : Addr) : Sp := fun vs H Q E => ∃ (a : Addr) (cs : List Cl) (x : Int), vs = [.ref a, .int x] ∧ Row S0 H a cs ∧ CsOk cs ∧ AmOk x ∧
  (∀ n : Nat, n ≤ 20000 → run cs (it cs n x) = it cs n x → (∀ m, m < n → run cs (it cs m x) ≠ it cs m x) → ∀ (p : Addr) (H' : Hp), Same H H' → H p = none → H' p = some (.tup [.int n, .int (it cs n x)]) → Q (.ref p) H') ∧
  ((∀ m, m ≤ 20000 → run cs (it cs m x) ≠ it cs m x) → ∀ H', Same H H' → E (.ref CTooFar) none H')
theorem ok_settles (T : Tx K mg) : FnOk P w K mg base (L2.CX P w) 5 T.f_settles T.fd_settles P_settles (sp_settles T.c_TooFar) := by
  have G_need_row := ok_need_row (P := P) (w := w) (base := base) T
  have G_need_amount := ok_need_amount (P := P) (w := w) (base := base) T
  have G_made_in_round := ok_made_in_round (P := P) (w := w) (base := base) T
  refine T.F_settles.okX sc_settles (fun vs H Q E h => ?_) (fun cdv A outer s H vs Q E hr h => ?_)
  · obtain ⟨a, cs, x, rfl, hR, hok, hx, q, qE⟩ := h
    rfl
  · obtain ⟨a, cs, x, rfl, hR, hok, hx, q, qE⟩ := h
    refine ⟨_, (pss_cons (ps_expr (pe_call G_need_row (hr.mono (by decide)) rfl T.g_need_row T.F_need_row.kp T.b_need_row .nil pass0 (pa_cons (pv 0) pa_nil)))
    (pss_cons (ps_expr (pe_call G_need_amount (hr.mono (by decide)) rfl T.g_need_amount T.F_need_amount.kp T.b_need_amount .nil pass0 (pa_cons (pv 1) pa_nil)))
    (pss_cons (ps_set (i := 2) sc_settles.nd rfl (.inl rfl) (pv 1))
    (pss_cons (ps_for (passes_of rfl) rfl (pi_range1 (by rfl) T.z_range (pa_cons (pe_op op_add (pe_glob (v := .int 20000) rfl T.m_MOST_ROUNDS ⟨_, rfl⟩) pe_int) pa_nil)) (pg_name (i := 3) sc_settles.nd rfl (.inl rfl)) (pss_cons (ps_set (i := 4) sc_settles.nd rfl (.inl rfl) (pe_call G_made_in_round (hr.mono (by decide)) rfl T.g_made_in_round T.F_made_in_round.kp T.b_made_in_round .nil pass0 (pa_cons (pv 0) (pa_cons (pv 2) pa_nil))))
    (pss_cons (ps_if (pt_cmpR op_eq (pv 4) (pv 2) (nomark _)) (pss_one (ps_ret (pe_tup (pa_cons (pv 3) (pa_cons (pv 2) pa_nil))))) pss_nil)
    (pss_one (ps_set (i := 2) sc_settles.nd rfl (.inl rfl) (pv 4))))))
    (pss_one (ps_raise rfl (takes_of rfl rfl rfl rfl) (pmk_own PySem.F.excBase_ValueError T.x_TooFar T.g_TooFar T.kc_TooFar (raises_own T.be_TooFar T.ty_TooFar) rfl))))))), ?_⟩
    refine ⟨_, rfl, a, cs, rfl, hR, hok, fun H1 s1 => ?_⟩
    refine ⟨_, rfl, x, rfl, hx.1, hx.2, _, rfl, ?_⟩
    refine ⟨_, _, rfl, rfl, (20001 : Int), rfl, by decide, by decide, for_range (lo := 0) (n := 20001) (fun i σ H' => ∃ (v w : Option V), σ = [some (.ref a), some (.int x), some (.int (it cs i x)), v, w] ∧ Same H H' ∧ ∀ m, m < i → run cs (it cs m x) ≠ it cs m x)
      ⟨none, none, rfl, s1, fun m hm => absurd hm (Nat.not_lt_zero m)⟩ (fun i σ H' hi hP => ?_) (fun σ H' hP => ?_)⟩
    · obtain ⟨v, w', rfl, s2, hm⟩ := hP
      refine ⟨_, rfl, _, rfl, a, cs, _, rfl, hR.same s2, hok, fun H2 s3 => ?_⟩
      refine ⟨_, rfl, _, rfl, rfl, _, rfl, ite2 (fun e => ?_) (fun e => ?_)⟩
      · have e1 : run cs (it cs i x) = it cs i x := V.int.inj (of_decide_eq_true e)
        refine ⟨_, rfl, _, rfl, small' (by show 2 ≤ 1000000; omega), fun p np => ?_⟩
        have e0 : (0 : Int) + (i : Int) = (i : Int) := by omega
        rw [e0]
        have s4 := s2.trans s3
        exact q i (by omega) e1 hm p _ (s4.trans (same_new np)) (same_back s4 np) upd_same
      · have e1 : run cs (it cs i x) ≠ it cs i x := fun z => e (decide_eq_true (by rw [z]))
        refine ⟨_, rfl, some (.int (0 + (i : Int))), some (.int (run cs (it cs i x))), ?_, s2.trans s3, fun m hm2 => ?_⟩
        · rw [it_succ]
          rfl
        · by_cases hmi : m = i
          · rw [hmi]
            exact e1
          · exact hm m (by omega)
    · obtain ⟨v, w', rfl, s2, hm⟩ := hP
      exact qE (fun m hm2 => hm m (by omega)) H' s2
end
end Rc

namespace Rc
open PySem PySem.Spec PyProof.Rows L2
section
variable {P : Program} {w : World} {K : PySem.W.Frag} {mg : Str → Option Value} {base : Heap}
def sp_turned : Sp := fun vs H Q _ => ∃ (a : Addr) (cs : List Cl), vs = [.ref a] ∧ Row S0 H a cs ∧ CsOk cs ∧ ∀ (p : Addr) (H' : Hp), Same H H' → H p = none → Row S0 H' p (turn cs) → Q (.ref p) H'
theorem ok_turned (T : Tx K mg) : FnOk P w K mg base CX0 5 T.f_turned T.fd_turned P_turned sp_turned := by
  have G_need_row := ok_need_row (P := P) (w := w) (base := base) T
  refine T.F_turned.ok sc_turned (fun vs H Q E h => ?_) (fun cdv A outer s H vs Q E hr h => ?_)
  · obtain ⟨a, cs, rfl, hR, hok, q⟩ := h
    rfl
  · obtain ⟨a, cs, rfl, hR, hok, q⟩ := h
    refine ⟨_, (pss_cons (ps_expr (pe_call G_need_row (hr.mono (by decide)) rfl T.g_need_row T.F_need_row.kp T.b_need_row .nil pass0 (pa_cons (pv 0) pa_nil)))
    (pss_one (ps_ret (pe_op op_cat (pe_slice sl_list (pv 0) (po_some pe_int) po_none) (pe_slice sl_list (pv 0) po_none (po_some pe_int)))))), ?_⟩
    refine ⟨_, rfl, a, cs, rfl, hR, hok, fun H1 s1 => ?_⟩
    obtain ⟨xs, ha, _, hp⟩ := hR
    have hl := pd_len hp
    have l8 := hok.2.1
    refine ⟨_, rfl, _, rfl, a, xs, rfl, sq (s1 _ _ ha), fun b nb => ?_⟩
    have s2 := s1.trans (same_new (o := .lst (cutV xs (some 1) none)) nb)
    refine ⟨_, rfl, _, rfl, a, xs, rfl, sq (s2 _ _ ha), fun c nc => ?_⟩
    have s3 := s2.trans (same_new (o := .lst (cutV xs none (some 1))) nc)
    refine ⟨b, c, _, _, rfl, rfl, (same_new nc) _ _ upd_same, upd_same, ?_, fun p np => ?_⟩
    · have k1 := cutV_length xs (some 1) none
      have k2 := cutV_length xs none (some 1)
      exact small' (by omega)
    · have s4 := s3.trans (same_new (o := .lst (cutV xs (some 1) none ++ cutV xs none (some 1))) np)
      refine q p _ s4 (same_back s3 np) ⟨_, upd_same, fun z => z, ?_⟩
      rw [cut_tail, cut_head]
      refine pd_imp (pd_app (pd_drop 1 hp) (pd_take 1 hp)) fun v c' ⟨t, e, ht, n⟩ => ⟨t, e, ?_, n⟩
      rw [cut_tail, cut_head] at s4
      exact s4 _ _ ht
end
end Rc

namespace Rc
open PySem PySem.Spec PyProof.Rows L2
section
variable {P : Program} {w : World} {K : PySem.W.Frag} {mg : Str → Option Value} {base : Heap}
def sp_stays_turned : Sp := fun vs H Q _ => ∃ (a : Addr) (c : Cl) (cs : List Cl) (x : Int), vs = [.ref a, .int x] ∧ Row S0 H a (c :: cs) ∧ CsOk (c :: cs) ∧ AmOk x ∧ run (c :: cs) x = x ∧ ∀ H', Same H H' → Q (.int (mk c x)) H'
theorem ok_stays_turned (T : Tx K mg) : FnOk P w K mg base CX0 5 T.f_stays_turned T.fd_stays_turned P_stays_turned sp_stays_turned := by
  have G_need_row := ok_need_row (P := P) (w := w) (base := base) T
  have G_need_amount := ok_need_amount (P := P) (w := w) (base := base) T
  have G_made_by := ok_made_by (P := P) (w := w) (base := base) T
  have G_made_in_round := ok_made_in_round (P := P) (w := w) (base := base) T
  refine T.F_stays_turned.ok sc_stays_turned (fun vs H Q E h => ?_) (fun cdv A outer s H vs Q E hr h => ?_)
  · obtain ⟨a, c, cs, x, rfl, hR, hok, hx, hs, q⟩ := h
    rfl
  · obtain ⟨a, c, cs, x, rfl, hR, hok, hx, hs, q⟩ := h
    refine ⟨_, (pss_cons (ps_expr (pe_call G_need_row (hr.mono (by decide)) rfl T.g_need_row T.F_need_row.kp T.b_need_row .nil pass0 (pa_cons (pv 0) pa_nil)))
    (pss_cons (ps_expr (pe_call G_need_amount (hr.mono (by decide)) rfl T.g_need_amount T.F_need_amount.kp T.b_need_amount .nil pass0 (pa_cons (pv 1) pa_nil)))
    (pss_cons (ps_if (pt_cmpR op_ne (pe_call G_made_in_round (hr.mono (by decide)) rfl T.g_made_in_round T.F_made_in_round.kp T.b_made_in_round .nil pass0 (pa_cons (pv 0) (pa_cons (pv 1) pa_nil))) (pv 1) (nomark _)) (pss_one ps_never) pss_nil)
    (pss_one (ps_ret (pe_call G_made_by (hr.mono (by decide)) rfl T.g_made_by T.F_made_by.kp T.b_made_by .nil pass0 (pa_cons (pe_ix ix_list (pv 0) pe_int (fun _ _ => rfl)) (pa_cons (pv 1) pa_nil)))))))), ?_⟩
    refine ⟨_, rfl, a, _, rfl, hR, hok, fun H1 s1 => ?_⟩
    refine ⟨_, rfl, x, rfl, hx.1, hx.2, ?_⟩
    refine ⟨_, rfl, _, rfl, a, _, x, rfl, hR.same s1, hok, fun H2 s2 => ?_⟩
    refine ⟨_, rfl, rfl, _, rfl, ?_⟩
    rw [hs, decide_eq_true rfl]
    refine iteF ?_
    obtain ⟨xs, ha, _, hp⟩ := (hR.same s1).same s2
    cases hp with
    | cons r hp =>
      obtain ⟨t, rfl, ht, _⟩ := r
      exact ⟨_, rfl, _, _, _, _, rfl, rfl, sq ha, atI_nat (j := 0) rfl, _, rfl, t, c, x, rfl, ht, hok.2.2 c List.mem_cons_self, q H2 (s1.trans s2)⟩
end
end Rc

namespace Rc
open PySem PySem.Spec PyProof.Rows L2
section
variable {P : Program} {w : World} {K : PySem.W.Frag} {mg : Str → Option Value} {base : Heap}
/-- a new deck -/
def sp__law_deck (K : PySem.W.Frag) : Sp := fun vs H Q _ => ∃ (a : Addr) (ns : List Int), vs = [.ref a] ∧ SqL K H a (ns.map V.int) ∧ ns.length ≤ 63 ∧ ∀ (D : Dk) (H' : Hp), Same H H' → DkOk D 0 H' → Q (.ref D.d) H'
theorem ok__law_deck (T : Tx K mg) : FnOk P w K mg base CX0 1 T.f__law_deck T.fd__law_deck P__law_deck (sp__law_deck K) := by
  refine T.F__law_deck.ok sc__law_deck (fun vs H Q E h => ?_) (fun cdv A outer s H vs Q E hr h => ?_)
  · obtain ⟨a, ns, rfl, hS, hlen, q⟩ := h
    rfl
  · obtain ⟨a, ns, rfl, hS, hlen, q⟩ := h
    refine ⟨_, (pss_cons (ps_set (i := 1) sc__law_deck.nd rfl (.inl rfl) (pe_lst pa_nil))
    (pss_cons (ps_for PassesOwn.never rfl (pi_range1 (by rfl) T.z_range (pa_cons (pe_callB (call_max2 rfl) (by rfl) T.z_max (by decide +kernel) (pa_cons pe_int (pa_cons (pe_callB (call_min2 rfl) (by rfl) T.z_min (by decide +kernel) (pa_cons pe_int (pa_cons (pe_callB call_len_seq (by rfl) T.z_len PySem.boot_len (pa_cons (pv 0) pa_nil)) pa_nil))) pa_nil))) pa_nil)) (pg_name (i := 2) sc__law_deck.nd rfl (.inl rfl)) (pss_cons (ps_set (i := 3) sc__law_deck.nd rfl (.inl rfl) pe_int)
    (pss_cut (ps_if (pt_cmpR op_lt (pv 2) (pe_callB call_len_seq (by rfl) T.z_len PySem.boot_len (pa_cons (pv 0) pa_nil)) (nomark _)) (pss_one (ps_set (i := 3) sc__law_deck.nd rfl (.inl rfl) (pe_ix ix_list (pv 0) (pv 2) (fun _ _ => rfl)))) pss_nil)
    (pss_one (ps_expr (pe_bm PySem.F.plainAttrs_list PySem.F.slot_list_append PySem.F.type_list_append mt_append (pv 1) (pa_cons (pe_lst (pa_cons (pv 3) (pa_cons (pe_callTy call_int1 (by rfl) T.z_int (by decide +kernel) (pa_cons (pe_cmpR op_ge (pv 3) (pe_powc (v := 1000000000000000000)) (nomark _)) pa_nil)) (pa_cons (pe_op op_mul pe_int (pv 2)) pa_nil)))) pa_nil)))))))
    (pss_one (ps_ret (pe_lst (pa_cons (pv 1) (pa_cons pe_int pa_nil))))))), ?_⟩
    refine ⟨small' (by show 0 ≤ 1000000; omega), fun p np => ?_⟩
    have s1 : Same H (upd H p (.lst [])) := same_new np
    have hS1 := s1.seq hS
    refine ⟨_, rfl, a, _, rfl, .inl hS1, ?_⟩
    rw [List.length_map]
    refine ⟨63, (ns.length : Int), rfl, ?_⟩
    have e1 : (if (ns.length : Int) < 63 then (ns.length : Int) else 63) = (ns.length : Int) := by
      by_cases z : (ns.length : Int) < 63
      · rw [if_pos z]
      · rw [if_neg z]
        omega
    rw [e1]
    refine ⟨1, (ns.length : Int), rfl, ?_⟩
    obtain ⟨M, eM, M1, M2⟩ : ∃ M : Nat, (if (ns.length : Int) > 1 then (ns.length : Int) else 1) = (M : Int) ∧ 1 ≤ M ∧ M ≤ 63 := by
      by_cases z : (ns.length : Int) > 1
      · exact ⟨ns.length, by rw [if_pos z], by omega, by omega⟩
      · exact ⟨1, by rw [if_neg z]; rfl, by omega, by omega⟩
    rw [eM]
    refine ⟨_, rfl, by omega, by omega, ?_⟩
    have eT : ((M : Int)).toNat = M := by omega
    rw [eT]
    refine for_range (lo := 0) (n := M) (fun i σ H' => ∃ (v w : Option V) (qs : List Addr), σ = [some (.ref a), some (.ref p), v, w] ∧ Same H H' ∧ qs.length = i ∧ H' p = some (.lst (qs.map V.ref)) ∧ ∀ q ∈ qs, ∃ a b c : Int, H' q = some (.lst [.int a, .int b, .int c]) ∧ 0 ≤ c ∧ c ≤ 10000)
      ⟨none, none, [], rfl, s1, rfl, upd_same, fun q hq => (nomatch hq)⟩ (fun i σ H' hi hP => ?_) (fun σ H' hP => ?_)
    · obtain ⟨v, w', qs, rfl, s2, lq, hp, hq⟩ := hP
      have e0 : (0 : Int) + (i : Int) = (i : Int) := by omega
      rw [e0]
      refine ⟨fun σ' H1 => ∃ z : Int, σ' = [some (.ref a), some (.ref p), some (.int i), some (.int z)] ∧ H1 = H', ?_, ?_⟩
      · have hS2 := s2.seq hS
        refine ⟨_, rfl, _, rfl, a, _, rfl, .inl hS2, ?_⟩
        rw [List.length_map]
        refine ⟨_, _, rfl, rfl, _, rfl, ite2 (fun e => ?_) (fun e => ?_)⟩
        · have hin : (i : Int) < ns.length := of_decide_eq_true e
          have g : (ns.map V.int)[i]? = some (.int ns[i]) := by
            rw [List.getElem?_map, List.getElem?_eq_getElem (by omega)]
            rfl
          exact ⟨_, rfl, _, rfl, a, _, _, _, rfl, rfl, hS2, atI_nat g, ns[i], rfl, rfl⟩
        · exact ⟨0, rfl, rfl⟩
      · rintro σ' H1 ⟨z, rfl, rfl⟩
        refine ⟨_, rfl, .inl ⟨rfl, _, sq hp⟩, _, rfl, ?_⟩
        refine ⟨_, rfl, _, _, rfl, rfl, .inr ⟨_, rfl, ?_⟩⟩
        obtain ⟨b, eb⟩ : ∃ b : Int, (if decide ((1000000000000000000 : Int) ≤ z) = true then (1 : Int) else 0) = b := ⟨_, rfl⟩
        rw [eb]
        refine ⟨_, rfl, _, _, rfl, rfl, .inl (by decide), small' (by show 3 ≤ 1000000; omega), fun r nr => ?_⟩
        have s3 : Same H1 (upd H1 r (.lst [.int z, .int b, .int (41 * (i : Int))])) := same_new nr
        have npr : p ≠ r := ne_of_none hp nr
        refine ⟨p, _, _, rfl, rfl, s3 _ _ hp, ?_, ?_⟩
        · rw [List.length_map]
          exact small (by omega)
        · refine ⟨some (.int i), some (.int z), qs ++ [r], rfl, same_mut (s2.trans s3) np, ?_, ?_, ?_⟩
          · rw [List.length_append, lq]
            rfl
          · rw [upd_same, List.map_append]
            rfl
          · intro q hqm
            rcases List.mem_append.mp hqm with hq1 | hq1
            · obtain ⟨x, y, c, e, c0, c1⟩ := hq q hq1
              have nq : q ≠ p := by
                intro z2
                rw [z2, hp] at e
                have e' := HO.lst.inj (Option.some.inj e)
                cases qs with
                | nil => cases hq1
                | cons u us => cases e'
              refine ⟨x, y, c, ?_, c0, c1⟩
              rw [upd_ne nq]
              exact s3 _ _ e
            · have e : q = r := by simpa using hq1
              subst e
              refine ⟨z, b, 41 * (i : Int), ?_, by omega, by omega⟩
              rw [upd_ne npr.symm]
              exact upd_same
    · obtain ⟨v, w', qs, rfl, s2, lq, hp, hq⟩ := hP
      refine ⟨_, rfl, small' (by show 2 ≤ 1000000; omega), fun r nr => ?_⟩
      have s3 : Same H' (upd H' r (.lst [.ref p, .int 0])) := same_new nr
      refine q ⟨r, p, qs⟩ _ (s2.trans s3) ⟨⟨0, by omega, upd_same⟩, s3 _ _ hp, by show 1 ≤ qs.length ∧ qs.length ≤ 63; omega, fun q hqm => ?_⟩
      obtain ⟨x, y, c, e, c0, c1⟩ := hq q hqm
      exact ⟨x, y, c, s3 _ _ e, c0, by omega⟩
end
end Rc

namespace Rc
open PySem PySem.Spec PyProof.Rows L2
section
variable {P : Program} {w : World} {K : PySem.W.Frag} {mg : Str → Option Value} {base : Heap}
theorem draw_bits {x : Int} (h0 : 0 ≤ x) (h1 : x < 340282366920938463463374607431768211456) : CPowW x 3 :=
  ⟨by omega, by omega, Nat.le_trans (bits_of (n := 128) (by omega) (by omega)) (by omega)⟩
/-- some number below many -/
def sp__law_draw : Sp := fun vs H Q _ => ∃ (D : Dk) (n : Nat) (m : Int), vs = [.ref D.d, .int m] ∧ DkOk D n H ∧ n ≤ 1000000 ∧ 1 ≤ m ∧ m ≤ 10000000000000000000000000000000000000000 ∧
  ∀ (r : Int) (H' : Hp), 0 ≤ r → r < m → Fr D.S H H' → DkOk D (n + 1) H' → Q (.int r) H'
theorem ok__law_draw (T : Tx K mg) : FnOk P w K mg base CX0 1 T.f__law_draw T.fd__law_draw P__law_draw sp__law_draw := by
  refine T.F__law_draw.ok sc__law_draw (fun vs H Q E h => ?_) (fun cdv A outer s H vs Q E hr h => ?_)
  · obtain ⟨D, n, m, rfl, hD, hn, m1, m2, q⟩ := h
    rfl
  · obtain ⟨D, n, m, rfl, hD, hn, m1, m2, q⟩ := h
    refine ⟨_, (pss_cons (ps_set (i := 2) sc__law_draw.nd rfl (.inl rfl) (pe_ix ix_list (pe_ix ix_list (pv 0) pe_int (fun _ _ => rfl)) (pe_op op_mod (pe_ix ix_list (pv 0) pe_int (fun _ _ => rfl)) (pe_callB call_len_seq (by rfl) T.z_len PySem.boot_len (pa_cons (pe_ix ix_list (pv 0) pe_int (fun _ _ => rfl)) pa_nil))) (fun _ _ => rfl)))
    (pss_cons (ps_asg (pe_op op_add (pe_ix ix_list (pv 0) pe_int (fun _ _ => rfl)) pe_int) (pg_sub (pv 0) pe_int set_list))
    (pss_cut (ps_if (PW.pt (pw_and (pt_cmpR op_eq (pe_ix ix_list (pv 2) pe_int (fun _ _ => rfl)) pe_int (nomark _)) (pw_and1 (pt_cmpR op_gt (pe_ix ix_list (pv 2) pe_int (fun _ _ => rfl)) pe_int (nomark _))))) (pss_cons (ps_set (i := 3) sc__law_draw.nd rfl (.inl rfl) (pe_op op_mod (pe_ix ix_list (pv 2) pe_int (fun _ _ => rfl)) (pv 1)))
    (pss_cons (ps_asg (pe_op op_fdivW (pe_ix ix_list (pv 2) pe_int (fun _ _ => rfl)) (pv 1)) (pg_sub (pv 2) pe_int set_list))
    (pss_one (ps_ret (pv 3))))) pss_nil)
    (pss_cons (ps_asg (pe_op op_add (pe_ix ix_list (pv 2) pe_int (fun _ _ => rfl)) pe_int) (pg_sub (pv 2) pe_int set_list))
    (pss_cons (ps_set (i := 4) sc__law_draw.nd rfl (.inl rfl) (pe_op op_add (pe_op op_mod (pe_ix ix_list (pv 2) pe_int (fun _ _ => rfl)) pe_int) (pe_op op_mul pe_int (pe_ix ix_list (pv 2) pe_int (fun _ _ => rfl)))))
    (pss_cons (ps_set (i := 4) sc__law_draw.nd rfl (.inl rfl) (pe_op op_mod (pe_op op_powW (pv 4) pe_int) pe_int))
    (pss_cons (ps_set (i := 4) sc__law_draw.nd rfl (.inl rfl) (pe_op op_mod (pe_op op_powW (pe_op op_add (pv 4) (pe_op op_mul pe_int (pe_ix ix_list (pv 2) pe_int (fun _ _ => rfl)))) pe_int) pe_int))
    (pss_one (ps_ret (pe_op op_mod (pe_op op_fdivW (pv 4) pe_int) (pv 1))))))))))), ?_⟩
    obtain ⟨k, k0, hd⟩ := hD.d
    have hp := hD.p
    have hl := hD.l
    have ll : (D.qs.map V.ref).length = D.qs.length := List.length_map ..
    obtain ⟨v, hv, hat⟩ := atI_mod (xs := D.qs.map V.ref) (by omega) k
    obtain ⟨r, hr2, rfl⟩ := List.mem_map.mp hv
    obtain ⟨a, b, c, hq, c0, c1⟩ := hD.q r hr2
    have ndp : D.p ≠ D.d := fun z => by
      rw [z, hd] at hp
      have e := HO.lst.inj (Option.some.inj hp)
      cases h1 : D.qs with
      | nil => rw [h1] at e; cases e
      | cons u us =>
        rw [h1] at e
        cases us with
        | nil => cases e
        | cons x y => cases e
    have nqd : ∀ x ∈ D.qs, x ≠ D.d := fun x hx z => by
      obtain ⟨_, _, _, e, _⟩ := hD.q x hx
      rw [z, hd] at e
      cases e
    have nqp : ∀ x ∈ D.qs, x ≠ D.p := fun x hx z => by
      obtain ⟨_, _, _, e, _⟩ := hD.q x hx
      rw [z, hp] at e
      have e := HO.lst.inj (Option.some.inj e)
      cases h1 : D.qs with
      | nil => rw [h1] at e; cases e
      | cons u us => rw [h1] at e; cases e
    -- any heap reached by changing the counter and the pool
    have fin : ∀ (k' a' b' c' : Int) (H' : Hp), 0 ≤ k' → 0 ≤ c' → c' ≤ 10000 + ((n + 1 : Nat) : Int) → H' D.d = some (.lst [.ref D.p, .int k']) → H' r = some (.lst [.int a', .int b', .int c']) → (∀ x, x ≠ D.d → x ≠ r → H' x = H x) →
        Fr D.S H H' ∧ DkOk D (n + 1) H' := by
      intro k' a' b' c' H' k0' c0' c1' e1 e2 e3
      refine ⟨fun x o nx ex => ?_, ⟨⟨k', k0', e1⟩, ?_, hl, fun x hx => ?_⟩⟩
      · rw [e3 x (fun z => nx (.inl z)) (fun z => nx (.inr (.inr (z ▸ hr2))))]
        exact ex
      · rw [e3 _ ndp (nqp r hr2).symm]
        exact hp
      · by_cases hxr : x = r
        · subst hxr
          exact ⟨a', b', c', e2, c0', c1'⟩
        · obtain ⟨a1, b1, cc, e, d0, d1⟩ := hD.q x hx
          refine ⟨a1, b1, cc, ?_, d0, by omega⟩
          rw [e3 x (nqd x hx) hxr]
          exact e
    have nrd : r ≠ D.d := nqd r hr2
    -- pool = deck[0][deck[1] % len(deck[0])]
    refine ⟨_, rfl, D.d, _, 0, _, rfl, rfl, sq hd, atI_nat (j := 0) rfl, _, rfl, D.d, _, 1, _, rfl, rfl, sq hd, atI_nat (j := 1) rfl, _, rfl, D.d, _, 0, _, rfl, rfl, sq hd, atI_nat (j := 0) rfl, ?_⟩
    refine ⟨D.p, _, rfl, .inl (sq hp), k, _, rfl, rfl, ?_, D.p, _, _, .ref r, rfl, rfl, sq hp, hat, ?_⟩
    · show (0 : Int) < ((D.qs.map V.ref).length : Int)
      omega
    -- deck[1] = deck[1] + 1
    refine ⟨_, rfl, D.d, _, 1, _, rfl, rfl, sq hd, atI_nat (j := 1) rfl, k, 1, rfl, rfl, _, rfl, D.d, _, 1, 1, rfl, rfl, hd, rfl, ?_⟩
    have hq1 : upd H D.d (.lst [.ref D.p, .int (k + 1)]) r = some (.lst [.int a, .int b, .int c]) := by
      rw [upd_ne nrd]
      exact hq
    have hd1 : upd H D.d (.lst [.ref D.p, .int (k + 1)]) D.d = some (.lst [.ref D.p, .int (k + 1)]) := upd_same
    have rest : ∀ x, x ≠ D.d → upd H D.d (.lst [.ref D.p, .int (k + 1)]) x = H x := fun x hx => upd_ne hx
    show tSeq _ _ _ _ (upd H D.d (.lst [.ref D.p, .int (k + 1)]))
    generalize upd H D.d (.lst [.ref D.p, .int (k + 1)]) = H1 at hq1 hd1 rest ⊢
    -- the digits
    refine ⟨fun σ' H' => σ' = [some (.ref D.d), some (.int m), some (.ref r), none, none] ∧ H' = H1, ?_, ?_⟩
    · refine ⟨_, rfl, r, _, 0 + 1, _, rfl, rfl, sq hq1, atI_nat (j := 1) rfl, rfl, _, rfl, ?_⟩
      refine ite2 (fun e => ?_) (fun e => iteF ⟨rfl, rfl⟩)
      refine ⟨_, rfl, r, _, 0, _, rfl, rfl, sq hq1, atI_nat (j := 0) rfl, a, 0, rfl, rfl, _, rfl, ite2 (fun e2 => ?_) (fun e2 => ⟨rfl, rfl⟩)⟩
      refine ⟨_, rfl, r, _, 0, _, rfl, rfl, sq hq1, atI_nat (j := 0) rfl, _, rfl, a, m, rfl, rfl, by omega, ?_⟩
      refine ⟨_, rfl, r, _, 0, _, rfl, rfl, sq hq1, atI_nat (j := 0) rfl, _, rfl, a, m, rfl, rfl, wide_div (b := 140) (by omega) (by omega) (by omega) (by omega), ?_⟩
      refine ⟨_, rfl, r, _, 0, 0, rfl, rfl, hq1, rfl, _, rfl, ?_⟩
      obtain ⟨f1, f2⟩ := fin (k + 1) (a / m) b c (upd H1 r (.lst [.int (a / m), .int b, .int c])) (by omega) c0 (by omega) (by rw [upd_ne nrd.symm]; exact hd1) upd_same (fun x x1 x2 => by rw [upd_ne x2]; exact rest x x1)
      exact q _ _ (Int.emod_nonneg _ (by omega)) (Int.emod_lt_of_pos _ (by omega)) f1 f2
    · rintro σ' H' ⟨rfl, rfl⟩
      -- pool[2] = pool[2] + 1
      refine ⟨_, rfl, r, _, 2, _, rfl, rfl, sq hq1, atI_nat (j := 2) rfl, c, 1, rfl, rfl, _, rfl, r, _, 2, 2, rfl, rfl, hq1, rfl, ?_⟩
      obtain ⟨f1, f2⟩ := fin (k + 1) a b (c + 1) (upd H' r (.lst [.int a, .int b, .int (c + 1)])) (by omega) (by omega) (by omega) (by rw [upd_ne nrd.symm]; exact hd1) upd_same (fun x x1 x2 => by rw [upd_ne x2]; exact rest x x1)
      have hq2 : upd H' r (.lst [.int a, .int b, .int (c + 1)]) r = some (.lst [.int a, .int b, .int (c + 1)]) := upd_same
      show tSeq _ _ _ _ (upd H' r (.lst [.int a, .int b, .int (c + 1)]))
      generalize upd H' r (.lst [.int a, .int b, .int (c + 1)]) = H2 at hq2 f1 f2 ⊢
      have n0 := Int.emod_nonneg a (show (162259276829213363391578010288127 : Int) ≠ 0 by omega)
      have n1 := Int.emod_lt_of_pos a (show (0 : Int) < 162259276829213363391578010288127 by omega)
      -- mixed
      refine ⟨_, rfl, r, _, 0, _, rfl, rfl, sq hq2, atI_nat (j := 0) rfl, a, _, rfl, rfl, (by show (0 : Int) < 162259276829213363391578010288127; omega), ?_⟩
      refine ⟨_, rfl, r, _, 2, _, rfl, rfl, sq hq2, atI_nat (j := 2) rfl, _, _, rfl, rfl, .inl (by decide), _, _, rfl, rfl, ?_⟩
      obtain ⟨u, eu⟩ : ∃ u : Int, a % 162259276829213363391578010288127 + 1299709 * (c + 1) = u := ⟨_, rfl⟩
      dsimp only
      rw [eu]
      refine ⟨_, rfl, u, 3, rfl, rfl, draw_bits (by omega) (by omega), _, _, rfl, rfl, (by show (0 : Int) < 618970019642690137449562111; omega), ?_⟩
      have n2 := Int.emod_nonneg (u ^ (3 : Int).toNat) (show (618970019642690137449562111 : Int) ≠ 0 by omega)
      have n3 := Int.emod_lt_of_pos (u ^ (3 : Int).toNat) (show (0 : Int) < 618970019642690137449562111 by omega)
      obtain ⟨u2, eu2⟩ : ∃ u2 : Int, u ^ (3 : Int).toNat % 618970019642690137449562111 = u2 := ⟨_, rfl⟩
      rw [eu2] at n2 n3
      dsimp only
      rw [eu2]
      refine ⟨_, rfl, _, rfl, r, _, 2, _, rfl, rfl, sq hq2, atI_nat (j := 2) rfl, _, _, rfl, rfl, .inl (by decide), _, _, rfl, rfl, ?_⟩
      obtain ⟨u3, eu3⟩ : ∃ u3 : Int, u2 + 15485863 * (c + 1) = u3 := ⟨_, rfl⟩
      dsimp only
      rw [eu3]
      refine ⟨u3, 3, rfl, rfl, draw_bits (by omega) (by omega), _, _, rfl, rfl, (by show (0 : Int) < 162259276829213363391578010288127; omega), ?_⟩
      refine ⟨_, rfl, _, _, rfl, rfl, wide_div (b := 30) (by omega) (by omega) (by omega) (by omega), _, rfl, _, m, rfl, rfl, by omega, ?_⟩
      exact q _ _ (Int.emod_nonneg _ (by omega)) (Int.emod_lt_of_pos _ (by omega)) f1 f2
end
end Rc

namespace Rc
open PySem PySem.Spec PyProof.Rows L2
section
variable {P : Program} {w : World} {K : PySem.W.Frag} {mg : Str → Option Value} {base : Heap}
/-- some lenience of the coin -/
def sp__law_lenience : Sp := fun vs H Q _ => ∃ (D : Dk) (n : Nat) (c : Int), vs = [.ref D.d, .int c] ∧ DkOk D n H ∧ n ≤ 900000 ∧ 1 ≤ c ∧ c ≤ 1000000000000000 ∧
  ∀ (r : Int) (H' : Hp), 0 ≤ r → r ≤ c - 1 → Fr D.S H H' → DkOk D (n + 2) H' → Q (.int r) H'
theorem ok__law_lenience (T : Tx K mg) : FnOk P w K mg base CX0 2 T.f__law_lenience T.fd__law_lenience P__law_lenience sp__law_lenience := by
  have G__law_draw := ok__law_draw (P := P) (w := w) (base := base) T
  refine T.F__law_lenience.ok sc__law_lenience (fun vs H Q E h => ?_) (fun cdv A outer s H vs Q E hr h => ?_)
  · obtain ⟨D, n, c, rfl, hD, hn, c1, c2, q⟩ := h
    rfl
  · obtain ⟨D, n, c, rfl, hD, hn, c1, c2, q⟩ := h
    refine ⟨_, (pss_cons (ps_set (i := 2) sc__law_lenience.nd rfl (.inl rfl) (pe_lst (pa_cons pe_int (pa_cons (pe_op op_sub (pv 1) pe_int) (pa_cons (pe_op op_fdivW (pv 1) pe_int) (pa_cons (pe_callB (call_min2 rfl) (by rfl) T.z_min (by decide +kernel) (pa_cons pe_int (pa_cons (pe_op op_sub (pv 1) pe_int) pa_nil))) (pa_cons (pe_callB (call_max2 rfl) (by rfl) T.z_max (by decide +kernel) (pa_cons pe_int (pa_cons (pe_op op_sub (pv 1) pe_int) pa_nil))) (pa_cons (pe_call G__law_draw (hr.mono (by decide)) rfl T.g__law_draw T.F__law_draw.kp T.b__law_draw .nil pass0 (pa_cons (pv 0) (pa_cons (pv 1) pa_nil))) pa_nil))))))))
    (pss_one (ps_ret (pe_ix ix_list (pv 2) (pe_call G__law_draw (hr.mono (by decide)) rfl T.g__law_draw T.F__law_draw.kp T.b__law_draw .nil pass0 (pa_cons (pv 0) (pa_cons pe_int pa_nil))) (fun _ _ => rfl))))), ?_⟩
    refine ⟨_, rfl, _, _, rfl, rfl, _, rfl, _, _, rfl, rfl, wide_div (b := 4) (by omega) (by omega) (by omega) (by omega), _, rfl, _, _, rfl, rfl, _, _, rfl, ?_⟩
    obtain ⟨v1, e1, b1⟩ : ∃ v1 : Int, (if c - 1 < 1 then c - 1 else 1) = v1 ∧ 0 ≤ v1 ∧ v1 ≤ c - 1 := by
      by_cases z : c - 1 < 1
      · exact ⟨_, if_pos z, by omega⟩
      · exact ⟨_, if_neg z, by omega⟩
    rw [e1]
    refine ⟨_, rfl, _, _, rfl, rfl, _, _, rfl, ?_⟩
    obtain ⟨v2, e2, b2⟩ : ∃ v2 : Int, (if c - 2 > 0 then c - 2 else 0) = v2 ∧ 0 ≤ v2 ∧ v2 ≤ c - 1 := by
      by_cases z : c - 2 > 0
      · exact ⟨_, if_pos z, by omega⟩
      · exact ⟨_, if_neg z, by omega⟩
    rw [e2]
    refine ⟨_, rfl, _, rfl, D, n, c, rfl, hD, by omega, c1, by omega, fun v3 H1 l3 u3 f1 hD1 => ?_⟩
    refine ⟨small' (by show 6 ≤ 1000000; omega), fun p np => ?_⟩
    have hD2 := hD1.same (same_new (o := .lst [.int 0, .int (c - 1), .int (c / 2), .int v1, .int v2, .int v3]) np)
    refine ⟨_, rfl, _, rfl, D, n + 1, 6, rfl, hD2, by omega, by omega, by omega, fun r H2 r0 r1 f2 hD3 => ?_⟩
    have hp : H2 p = some (.lst [.int 0, .int (c - 1), .int (c / 2), .int v1, .int v2, .int v3]) := f2 _ _ (hD1.new np) upd_same
    obtain ⟨v, _, hv, hat⟩ := atI_lt (xs := [.int 0, .int (c - 1), .int (c / 2), .int v1, .int v2, .int v3]) r0 r1
    refine ⟨p, _, r, v, rfl, rfl, sq hp, hat, ?_⟩
    have fr : Fr D.S H H2 := (f1.trans (fr_new np)).trans f2
    have h2 : 0 ≤ c / 2 ∧ c / 2 ≤ c - 1 := by omega
    simp only [List.mem_cons, List.not_mem_nil, or_false] at hv
    rcases hv with rfl | rfl | rfl | rfl | rfl | rfl
    · exact q _ _ (by omega) (by omega) fr hD3
    · exact q _ _ (by omega) (by omega) fr hD3
    · exact q _ _ h2.1 h2.2 fr hD3
    · exact q _ _ b1.1 b1.2 fr hD3
    · exact q _ _ b2.1 b2.2 fr hD3
    · exact q _ _ (by omega) (by omega) fr hD3
end
end Rc

namespace Rc
open PySem PySem.Spec PyProof.Rows L2
section
variable {P : Program} {w : World} {K : PySem.W.Frag} {mg : Str → Option Value} {base : Heap}
/-- a new row of clerks whose coins go into one of a few numbers, and that number -/
def sp__law_near_team : Sp := fun vs H Q _ => ∃ (D : Dk) (n : Nat) (most : Int), vs = [.ref D.d, .int most] ∧ DkOk D n H ∧ n ≤ 800000 ∧ 1 ≤ most ∧ most ≤ 8 ∧
  ∀ (b a : Addr) (cs : List Cl) (z : Int) (H' : Hp), Fr D.S H H' → DkOk D (n + 50) H' → H' b = some (.lst [.ref a, .int z]) → ¬ D.S b → Row D.S H' a cs → CsOk cs → z ∈ wholes → (∀ c ∈ cs, z % c.1 = 0) → Q (.ref b) H'
theorem ok__law_near_team (T : Tx K mg) : FnOk P w K mg base CX0 3 T.f__law_near_team T.fd__law_near_team P__law_near_team sp__law_near_team := by
  have G__law_draw := ok__law_draw (P := P) (w := w) (base := base) T
  have G__law_lenience := ok__law_lenience (P := P) (w := w) (base := base) T
  refine T.F__law_near_team.ok sc__law_near_team (fun vs H Q E h => ?_) (fun cdv A outer s H vs Q E hr h => ?_)
  · obtain ⟨D, n, most, rfl, hD, hn, t1, t2, q⟩ := h
    rfl
  · obtain ⟨D, n, most, rfl, hD, hn, t1, t2, q⟩ := h
    refine ⟨_, (pss_cons (ps_set (i := 2) sc__law_near_team.nd rfl (.inr rfl) (pe_ix ix_list (pe_lst (pa_cons pe_int (pa_cons pe_int (pa_cons pe_int (pa_cons pe_int (pa_cons pe_int (pa_cons pe_int (pa_cons pe_int (pa_cons pe_int pa_nil))))))))) (pe_call G__law_draw (hr.mono (by decide)) rfl T.g__law_draw T.F__law_draw.kp T.b__law_draw .nil pass0 (pa_cons (pv 0) (pa_cons pe_int pa_nil))) (fun _ _ => rfl)))
    (pss_cons (ps_setLc (i := 4) (own := [("_law_coin", 3)]) rfl sc__law_near_team.nd rfl rfl (sw_true rfl rfl rfl (by decide +kernel)) (pi_range2 (by rfl) T.z_range (pa_cons pe_int (pa_cons (pe_op op_add (pv 2) pe_int) pa_nil))) (blkOk_by (own := [("_law_coin", 3)]) (N := N__law_near_team) (sc := defScope s__law_near_team) (by decide +kernel)) (fun _ _ _ _ _ => (pg_name (i := 3) sc__law_near_team.nd rfl (by first | exact .inl rfl | exact .inr rfl))) (fun _ _ _ _ _ => (pts_one (pt_cmpR op_eq (pe_op op_mod (pv 2) (pv 3)) pe_int (nomark _)))) (fun _ _ _ _ _ => (pv 3)))
    (pss_cons (ps_set (i := 5) sc__law_near_team.nd rfl (.inl rfl) (pe_lst pa_nil))
    (pss_cons (ps_for PassesOwn.never rfl (pi_range1 (by rfl) T.z_range (pa_cons (pe_op op_add pe_int (pe_call G__law_draw (hr.mono (by decide)) rfl T.g__law_draw T.F__law_draw.kp T.b__law_draw .nil pass0 (pa_cons (pv 0) (pa_cons (pv 1) pa_nil)))) pa_nil)) (pg_name (i := 6) sc__law_near_team.nd rfl (.inl rfl)) (pss_cons (ps_set (i := 3) sc__law_near_team.nd rfl (.inl rfl) (pe_ix ix_list (pv 4) (pe_call G__law_draw (hr.mono (by decide)) rfl T.g__law_draw T.F__law_draw.kp T.b__law_draw .nil pass0 (pa_cons (pv 0) (pa_cons (pe_callB call_len_seq (by rfl) T.z_len PySem.boot_len (pa_cons (pv 4) pa_nil)) pa_nil))) (fun _ _ => rfl)))
    (pss_one (ps_expr (pe_bm PySem.F.plainAttrs_list PySem.F.slot_list_append PySem.F.type_list_append mt_append (pv 5) (pa_cons (pe_tup (pa_cons (pv 3) (pa_cons (pe_call G__law_lenience (hr.mono (by decide)) rfl T.g__law_lenience T.F__law_lenience.kp T.b__law_lenience .nil pass0 (pa_cons (pv 0) (pa_cons (pv 3) pa_nil))) pa_nil))) pa_nil))))))
    (pss_one (ps_ret (pe_lst (pa_cons (pv 5) (pa_cons (pv 2) pa_nil))))))))), ?_⟩
    -- whole
    refine ⟨small' (by show 8 ≤ 1000000; omega), fun p np => ?_⟩
    have hD1 := hD.same (same_new (o := .lst (wholes.map V.int)) np)
    refine ⟨_, rfl, D, n, 8, rfl, hD1, by omega, by omega, by omega, fun r H1 r0 r1 f1 hD2 => ?_⟩
    have hp : H1 p = some (.lst (wholes.map V.int)) := f1 _ _ (hD.new np) upd_same
    obtain ⟨v, _, hv, hat⟩ := atI_lt (xs := wholes.map V.int) r0 r1
    obtain ⟨z, hz, rfl⟩ := List.mem_map.mp hv
    obtain ⟨z1, z2⟩ := wholes_le hz
    refine ⟨p, _, r, _, rfl, rfl, sq hp, hat, ?_⟩
    have fr1 : Fr D.S H H1 := (fr_new np).trans f1
    -- coins
    refine ⟨_, rfl, _, _, rfl, rfl, 1, z + 1, rfl, ⟨by omega, by omega, by omega, by omega⟩, fun C nC => ?_⟩
    refine lc_range (lo := 1) (n := (z + 1 - 1).toNat) (fun i H' => Same H1 H' ∧ ∃ ds : List Int, H' C = some (.lst (ds.map V.int)) ∧ (∀ d ∈ ds, 1 ≤ d ∧ d ≤ 210 ∧ z % d = 0) ∧ ds.length ≤ i ∧ (0 < i → ds ≠ []))
      ⟨same_new nC, [], upd_same, fun d hd => (nomatch hd), Nat.le_refl _, fun h => absurd h (by omega)⟩ (fun i H' hi ⟨s1, ds, e, hd, hl, hne⟩ => ?_) (fun H' ⟨s1, ds, e, hd, hl, hne⟩ => ?_)
    · refine ⟨rfl, ?_⟩
      refine ⟨_, rfl, _, rfl, z, 1 + (i : Int), rfl, rfl, by show (0 : Int) < 1 + (i : Int); omega, rfl, _, rfl, ?_⟩
      refine ite2 (fun hc => ?_) (fun hc => ?_)
      · have hc' : z % (1 + (i : Int)) = 0 := V.int.inj (of_decide_eq_true hc)
        refine ⟨_, rfl, _, e, ?_, same_mut s1 nC, ds ++ [1 + (i : Int)], ?_, fun d hdm => ?_, ?_, fun _ => by simp⟩
        · rw [List.length_map]
          exact small (by omega)
        · rw [upd_same, List.map_append]
          rfl
        · rcases List.mem_append.mp hdm with h | h
          · exact hd d h
          · have h' : d = 1 + (i : Int) := by simpa using h
            subst h'
            exact ⟨by omega, by omega, hc'⟩
        · rw [List.length_append]
          show ds.length + 1 ≤ i + 1
          omega
      · refine ⟨s1, ds, e, hd, by omega, fun _ => ?_⟩
        by_cases h0 : i = 0
        · subst h0
          exact absurd (decide_eq_true (congrArg V.int (show z % (1 + ((0 : Nat) : Int)) = 0 from Int.emod_one z))) hc
        · exact hne (by omega)
    -- found = [], the loop
    refine ⟨small' (by show 0 ≤ 1000000; omega), fun F nF => ?_⟩
    have s2 := s1.trans (same_new (o := .lst []) nF)
    have hD3 := hD2.same s2
    have nFS := (hD2.same s1).new nF
    have nCS := hD2.new nC
    have g0 : Grow D H (n + 1) (upd H' F (.lst [])) F [] := ⟨fr1.trans (.of s2), hD3, (fr1.trans (.of s1)).none nFS nF, nFS, [], upd_same, .nil⟩
    have hC : upd H' F (.lst []) C = some (.lst (ds.map V.int)) := (same_new nF) _ _ e
    have hdn : ds ≠ [] := hne (by omega)
    have hdl : 1 ≤ ds.length := by
      cases ds with
      | nil => exact absurd rfl hdn
      | cons x r => simp
    refine ⟨_, rfl, _, rfl, D, n + 1, most, rfl, hD3, by omega, by omega, by omega, fun r2 H2 r20 r21 f2 hD4 => ?_⟩
    refine ⟨_, _, rfl, rfl, _, rfl, by omega, by omega, ?_⟩
    refine for_range (lo := 0) (n := (1 + r2).toNat) (fun i σ H3 => ∃ (v w : Option V) (cs : List Cl), σ = [some (.ref D.d), some (.int most), some (.int z), v, some (.ref C), some (.ref F), w] ∧ Grow D H (n + 2 + 3 * i) H3 F cs ∧ H3 C = some (.lst (ds.map V.int)) ∧ cs.length = i ∧ ∀ c ∈ cs, ClOk c ∧ z % c.1 = 0)
      ⟨none, none, [], rfl, g0.go f2 hD4, f2 _ _ nCS hC, rfl, fun c hc => (nomatch hc)⟩ (fun i σ H3 hi hP => ?_) (fun σ H3 hP => ?_)
    · obtain ⟨v, w', cs, rfl, g, hC3, hcl, hcs⟩ := hP
      refine ⟨_, rfl, _, rfl, _, rfl, C, _, rfl, .inl (sq hC3), D, _, _, rfl, g.ok, by omega, ?_, ?_, fun r3 H4 r30 r31 f3 hD5 => ?_⟩
      · rw [List.length_map]
        omega
      · rw [List.length_map]
        omega
      have hC4 := f3 _ _ nCS hC3
      obtain ⟨v3, _, hv3, hat3⟩ := atI_lt (xs := ds.map V.int) r30 r31
      obtain ⟨d, hdm, rfl⟩ := List.mem_map.mp hv3
      obtain ⟨d1, d2, d3⟩ := hd d hdm
      refine ⟨C, _, r3, _, rfl, rfl, sq hC4, hat3, ?_⟩
      have g2 := g.go f3 hD5
      obtain ⟨xs, hx, hxs⟩ := g2.ls
      refine ⟨_, rfl, .inl ⟨rfl, _, sq hx⟩, _, rfl, _, rfl, _, rfl, D, _, d, rfl, g2.ok, by omega, d1, by omega, fun l H5 l0 l1 f4 hD6 => ?_⟩
      have g3 := g2.go f4 hD6
      refine ⟨small' (by show 2 ≤ 1000000; omega), fun t nt => ?_⟩
      have s5 : Same H5 (upd H5 t (.tup [.int d, .int l])) := same_new nt
      have g4 := g3.same s5
      have hx5 := s5 _ _ (f4 _ _ g.ns hx)
      have g5 := g4.more hx5 (t := t) (c := d) (l := l) upd_same (hD6.new nt)
      refine ⟨F, _, _, rfl, rfl, hx5, ?_, _, _, _, rfl, ⟨g5.fr, g5.ok.mono (by omega), g5.np, g5.ns, g5.ls⟩, ?_, ?_, fun c hc => ?_⟩
      · have := pd_len hxs
        exact small (by omega)
      · rw [upd_ne (show C ≠ F from fun z0 => by
          rw [z0] at nC
          have : (upd H' F (.lst [])) F = some (.lst (ds.map V.int)) := z0 ▸ hC
          rw [upd_same] at this
          cases ds with
          | nil => exact hdn rfl
          | cons x r => cases this)]
        exact s5 _ _ (f4 _ _ nCS hC4)
      · rw [List.length_append, hcl]
        rfl
      · rcases List.mem_append.mp hc with h | h
        · exact hcs c h
        · have h' : c = (d, l) := by simpa using h
          subst h'
          exact ⟨⟨d1, by show d ≤ 1000000000000000; omega, l0, l1⟩, d3⟩
    · obtain ⟨v, w', cs, rfl, g, hC3, hcl, hcs⟩ := hP
      refine ⟨_, rfl, _, rfl, small' (by show 2 ≤ 1000000; omega), fun b nb => ?_⟩
      have s6 : Same H3 (upd H3 b (.lst [.ref F, .int z])) := same_new nb
      have g6 := g.same s6
      refine q b F cs z _ g6.fr (g6.ok.mono (by omega)) upd_same (g.ok.new nb) ?_ ⟨by omega, by omega, fun c hc => (hcs c hc).1⟩ hz fun c hc => (hcs c hc).2
      obtain ⟨xs, hx, hxs⟩ := g6.ls
      exact ⟨xs, hx, g.ns, hxs⟩
end
end Rc

namespace Rc
open PySem PySem.Spec PyProof.Rows L2
section
variable {P : Program} {w : World} {K : PySem.W.Frag} {mg : Str → Option Value} {base : Heap}
/-- a new row of clerks of any coins -/
def sp__law_far_team : Sp := fun vs H Q _ => ∃ (D : Dk) (n : Nat) (most : Int), vs = [.ref D.d, .int most] ∧ DkOk D n H ∧ n ≤ 800000 ∧ 1 ≤ most ∧ most ≤ 8 ∧
  ∀ (a : Addr) (cs : List Cl) (H' : Hp), Fr D.S H H' → DkOk D (n + 60) H' → Row D.S H' a cs → CsOk cs → Q (.ref a) H'
theorem ok__law_far_team (T : Tx K mg) : FnOk P w K mg base CX0 3 T.f__law_far_team T.fd__law_far_team P__law_far_team sp__law_far_team := by
  have G__law_draw := ok__law_draw (P := P) (w := w) (base := base) T
  have G__law_lenience := ok__law_lenience (P := P) (w := w) (base := base) T
  refine T.F__law_far_team.ok sc__law_far_team (fun vs H Q E h => ?_) (fun cdv A outer s H vs Q E hr h => ?_)
  · obtain ⟨D, n, most, rfl, hD, hn, t1, t2, q⟩ := h
    rfl
  · obtain ⟨D, n, most, rfl, hD, hn, t1, t2, q⟩ := h
    refine ⟨_, (pss_cons (ps_set (i := 2) sc__law_far_team.nd rfl (.inl rfl) (pe_lst (pa_cons (pe_op op_add pe_int (pe_call G__law_draw (hr.mono (by decide)) rfl T.g__law_draw T.F__law_draw.kp T.b__law_draw .nil pass0 (pa_cons (pv 0) (pa_cons pe_int pa_nil)))) (pa_cons (pe_op op_add pe_int (pe_call G__law_draw (hr.mono (by decide)) rfl T.g__law_draw T.F__law_draw.kp T.b__law_draw .nil pass0 (pa_cons (pv 0) (pa_cons (pe_powc (v := 1000000)) pa_nil)))) (pa_cons (pe_op op_add (pe_op op_sub (pe_powc (v := 1000000000000000)) pe_int) (pe_call G__law_draw (hr.mono (by decide)) rfl T.g__law_draw T.F__law_draw.kp T.b__law_draw .nil pass0 (pa_cons (pv 0) (pa_cons pe_int pa_nil)))) pa_nil)))))
    (pss_cons (ps_set (i := 3) sc__law_far_team.nd rfl (.inl rfl) (pe_ix ix_list (pv 2) (pe_call G__law_draw (hr.mono (by decide)) rfl T.g__law_draw T.F__law_draw.kp T.b__law_draw .nil pass0 (pa_cons (pv 0) (pa_cons pe_int pa_nil))) (fun _ _ => rfl)))
    (pss_cons (ps_set (i := 4) sc__law_far_team.nd rfl (.inl rfl) (pe_lst pa_nil))
    (pss_cons (ps_for PassesOwn.never rfl (pi_range1 (by rfl) T.z_range (pa_cons (pe_op op_add pe_int (pe_call G__law_draw (hr.mono (by decide)) rfl T.g__law_draw T.F__law_draw.kp T.b__law_draw .nil pass0 (pa_cons (pv 0) (pa_cons (pv 1) pa_nil)))) pa_nil)) (pg_name (i := 5) sc__law_far_team.nd rfl (.inl rfl)) (pss_cons (ps_set (i := 6) sc__law_far_team.nd rfl (.inl rfl) (pe_ix ix_list (pe_lst (pa_cons (pv 3) (pa_cons (pe_op op_add (pv 3) (pe_call G__law_draw (hr.mono (by decide)) rfl T.g__law_draw T.F__law_draw.kp T.b__law_draw .nil pass0 (pa_cons (pv 0) (pa_cons pe_int pa_nil)))) (pa_cons (pe_op op_add pe_int (pe_call G__law_draw (hr.mono (by decide)) rfl T.g__law_draw T.F__law_draw.kp T.b__law_draw .nil pass0 (pa_cons (pv 0) (pa_cons (pe_powc (v := 1000000000000000)) pa_nil)))) pa_nil)))) (pe_call G__law_draw (hr.mono (by decide)) rfl T.g__law_draw T.F__law_draw.kp T.b__law_draw .nil pass0 (pa_cons (pv 0) (pa_cons pe_int pa_nil))) (fun _ _ => rfl)))
    (pss_one (ps_expr (pe_bm PySem.F.plainAttrs_list PySem.F.slot_list_append PySem.F.type_list_append mt_append (pv 4) (pa_cons (pe_tup (pa_cons (pv 6) (pa_cons (pe_call G__law_lenience (hr.mono (by decide)) rfl T.g__law_lenience T.F__law_lenience.kp T.b__law_lenience .nil pass0 (pa_cons (pv 0) (pa_cons (pv 6) pa_nil))) pa_nil))) pa_nil))))))
    (pss_one (ps_ret (pv 4))))))), ?_⟩
    refine ⟨_, rfl, D, n, 20, rfl, hD, by omega, by omega, by omega, fun r1 H1 r10 r11 f1 hD1 => ⟨_, _, rfl, rfl, ?_⟩⟩
    refine ⟨_, rfl, D, n + 1, 1000000, rfl, hD1, by omega, by omega, by omega, fun r2 H2 r20 r21 f2 hD2 => ⟨_, _, rfl, rfl, ?_⟩⟩
    refine ⟨_, _, rfl, rfl, _, rfl, D, n + 2, 20, rfl, hD2, by omega, by omega, by omega, fun r3 H3 r30 r31 f3 hD3 => ⟨_, _, rfl, rfl, ?_⟩⟩
    refine ⟨small' (by show 3 ≤ 1000000; omega), fun p np => ?_⟩
    have hD4 := hD3.same (same_new (o := .lst [.int (1 + r1), .int (1 + r2), .int (1000000000000000 - 30 + r3)]) np)
    refine ⟨_, rfl, _, rfl, D, n + 3, 3, rfl, hD4, by omega, by omega, by omega, fun r H5 r0 r1' f5 hD5 => ?_⟩
    have hp : H5 p = some (.lst [.int (1 + r1), .int (1 + r2), .int (1000000000000000 - 30 + r3)]) := f5 _ _ (hD3.new np) upd_same
    obtain ⟨v, _, hv, hat⟩ := atI_lt (xs := [.int (1 + r1), .int (1 + r2), .int (1000000000000000 - 30 + r3)]) r0 r1'
    obtain ⟨B, rfl, B1, B2⟩ : ∃ B : Int, v = .int B ∧ 1 ≤ B ∧ B ≤ 999999999999990 := by
      simp only [List.mem_cons, List.not_mem_nil, or_false] at hv
      rcases hv with rfl | rfl | rfl
      · exact ⟨_, rfl, by omega, by omega⟩
      · exact ⟨_, rfl, by omega, by omega⟩
      · exact ⟨_, rfl, by omega, by omega⟩
    refine ⟨p, _, r, _, rfl, rfl, sq hp, hat, ?_⟩
    have fr1 : Fr D.S H H5 := (((f1.trans f2).trans f3).trans (fr_new np)).trans f5
    -- found = [], the loop
    refine ⟨small' (by show 0 ≤ 1000000; omega), fun F nF => ?_⟩
    have s2 : Same H5 (upd H5 F (.lst [])) := same_new nF
    have hD6 := hD5.same s2
    have nFS := hD5.new nF
    have g0 : Grow D H (n + 4) (upd H5 F (.lst [])) F [] := ⟨fr1.trans (.of s2), hD6, fr1.none nFS nF, nFS, [], upd_same, .nil⟩
    refine ⟨_, rfl, _, rfl, D, n + 4, most, rfl, hD6, by omega, by omega, by omega, fun r2 H2 r20 r21 f2 hD4 => ?_⟩
    refine ⟨_, _, rfl, rfl, _, rfl, by omega, by omega, ?_⟩
    refine for_range (lo := 0) (n := (1 + r2).toNat) (fun i σ H3 => ∃ (v w : Option V) (cs : List Cl), σ = [some (.ref D.d), some (.int most), some (.ref p), some (.int B), some (.ref F), v, w] ∧ Grow D H (n + 5 + 5 * i) H3 F cs ∧ cs.length = i ∧ ∀ c ∈ cs, ClOk c)
      ⟨none, none, [], rfl, g0.go f2 hD4, rfl, fun c hc => (nomatch hc)⟩ (fun i σ H3 hi hP => ?_) (fun σ H3 hP => ?_)
    · obtain ⟨v, w', cs, rfl, g, hcl, hcs⟩ := hP
      refine ⟨_, rfl, _, rfl, _, rfl, D, _, 10, rfl, g.ok, by omega, by omega, by omega, fun x1 G1 x10 x11 k1 kD1 => ⟨_, _, rfl, rfl, ?_⟩⟩
      refine ⟨_, rfl, D, _, 1000000000000000, rfl, kD1, by omega, by omega, by omega, fun x2 G2 x20 x21 k2 kD2 => ⟨_, _, rfl, rfl, ?_⟩⟩
      refine ⟨small' (by show 3 ≤ 1000000; omega), fun u nu => ?_⟩
      have kD3 := kD2.same (same_new (o := .lst [.int B, .int (B + x1), .int (1 + x2)]) nu)
      refine ⟨_, rfl, D, _, 3, rfl, kD3, by omega, by omega, by omega, fun x3 G3 x30 x31 k3 kD4 => ?_⟩
      have hu : G3 u = some (.lst [.int B, .int (B + x1), .int (1 + x2)]) := k3 _ _ (kD2.new nu) upd_same
      obtain ⟨v, _, hv, hat⟩ := atI_lt (xs := [.int B, .int (B + x1), .int (1 + x2)]) x30 x31
      obtain ⟨d, rfl, d1, d2⟩ : ∃ d : Int, v = .int d ∧ 1 ≤ d ∧ d ≤ 1000000000000000 := by
        simp only [List.mem_cons, List.not_mem_nil, or_false] at hv
        rcases hv with rfl | rfl | rfl
        · exact ⟨_, rfl, by omega, by omega⟩
        · exact ⟨_, rfl, by omega, by omega⟩
        · exact ⟨_, rfl, by omega, by omega⟩
      refine ⟨u, _, x3, _, rfl, rfl, sq hu, hat, ?_⟩
      have g2 := g.go (((k1.trans k2).trans (fr_new nu)).trans k3) kD4
      obtain ⟨xs, hx, hxs⟩ := g2.ls
      refine ⟨_, rfl, .inl ⟨rfl, _, sq hx⟩, _, rfl, _, rfl, _, rfl, D, _, d, rfl, g2.ok, by omega, d1, by omega, fun l H5 l0 l1 f4 hD6 => ?_⟩
      have g3 := g2.go f4 hD6
      refine ⟨small' (by show 2 ≤ 1000000; omega), fun t nt => ?_⟩
      have s5 : Same H5 (upd H5 t (.tup [.int d, .int l])) := same_new nt
      have g4 := g3.same s5
      have hx5 := s5 _ _ (f4 _ _ g.ns hx)
      have g5 := g4.more hx5 (t := t) (c := d) (l := l) upd_same (hD6.new nt)
      refine ⟨F, _, _, rfl, rfl, hx5, ?_, _, _, _, rfl, ⟨g5.fr, g5.ok.mono (by omega), g5.np, g5.ns, g5.ls⟩, ?_, fun c hc => ?_⟩
      · have := pd_len hxs
        exact small (by omega)
      · rw [List.length_append, hcl]
        rfl
      · rcases List.mem_append.mp hc with h | h
        · exact hcs c h
        · have h' : c = (d, l) := by simpa using h
          subst h'
          exact ⟨d1, d2, l0, l1⟩
    · obtain ⟨v, w', cs, rfl, g, hcl, hcs⟩ := hP
      obtain ⟨xs, hx, hxs⟩ := g.ls
      exact ⟨_, rfl, q F cs H3 g.fr (g.ok.mono (by omega)) ⟨xs, hx, g.ns, hxs⟩ ⟨by omega, by omega, hcs⟩⟩
end
end Rc

namespace Rc
open PySem PySem.Spec PyProof.Rows L2
section
variable {P : Program} {w : World} {K : PySem.W.Frag} {mg : Str → Option Value} {base : Heap}
/-- what a round makes -/
def sp__law_round : Sp := fun vs H Q _ => ∃ (a : Addr) (cs : List Cl) (x : Int), vs = [.ref a, .int x] ∧ Row S0 H a cs ∧ CsOk cs ∧ Q (.int (run cs x)) H
theorem ok__law_round (T : Tx K mg) : FnOk P w K mg base CX0 1 T.f__law_round T.fd__law_round P__law_round sp__law_round := by
  refine T.F__law_round.ok sc__law_round (fun vs H Q E h => ?_) (fun cdv A outer s H vs Q E hr h => ?_)
  · obtain ⟨a, cs, x, rfl, ⟨xs, ha, _, hp⟩, ⟨l1, l8, hok⟩, q⟩ := h
    rfl
  · obtain ⟨a, cs, x, rfl, ⟨xs, ha, _, hp⟩, ⟨l1, l8, hok⟩, q⟩ := h
    refine ⟨_, (pss_cons (ps_for PassesOwn.never rfl (pi_list (pv 0)) (pg_tup rfl (pgs_cons (pg_name (i := 2) sc__law_round.nd rfl (.inl rfl)) (pgs_cons (pg_name (i := 3) sc__law_round.nd rfl (.inl rfl)) pgs_nil))) (pss_one (ps_set (i := 1) sc__law_round.nd rfl (.inl rfl) (pe_op op_sub (pe_op op_add (pv 1) (pv 3)) (pe_op op_mod (pe_op op_add (pv 1) (pv 3)) (pv 2))))))
    (pss_one (ps_ret (pv 1)))), ?_⟩
    have hl := pd_len hp
    refine ⟨_, rfl, a, rfl, ⟨_, sq ha⟩, for_list (K := K) (a := a) (xs := xs) (fun i σ H' => ∃ (v w : Option V), σ = [some (.ref a), some (.int (run (cs.take i) x)), v, w] ∧ H' = H)
      ⟨none, none, rfl, rfl⟩ (fun i σ H' _ ⟨_, _, _, e⟩ => by rw [e]; exact sq ha) (fun i v σ H' hi hP => ?_) (fun σ H' hP => ?_)⟩
    · obtain ⟨v1, w1, rfl, rfl⟩ := hP
      obtain ⟨⟨d, l⟩, hc, t, rfl, ht, _⟩ := pd_get hp hi
      have k := hok _ (List.mem_of_getElem? hc)
      refine ⟨t, _, rfl, sqt ht, rfl, .int d, [.int l], rfl, .int l, [], rfl, rfl, ?_⟩
      refine ⟨_, rfl, _, rfl, _, _, rfl, rfl, _, rfl, _, rfl, _, _, rfl, rfl, _, rfl, _, d, rfl, rfl, ?_, _, _, rfl, rfl, some (.int d), some (.int l), ?_, rfl⟩
      · have := k.1
        show (0 : Int) < d
        omega
      · rw [run_take hc, ← mk_eq]
        rfl
    · obtain ⟨v1, w1, rfl, rfl⟩ := hP
      have e : cs.take xs.length = cs := List.take_of_length_le (by omega)
      rw [e]
      exact ⟨_, rfl, q⟩
end
end Rc

namespace Rc
open PySem PySem.Spec PyProof.Rows L2
section
variable {P : Program} {w : World} {K : PySem.W.Frag} {mg : Str → Option Value} {base : Heap}
def sp__law_ways_right : Sp := fun vs H Q _ => ∃ (a : Addr) (cs : List Cl) (x : Int), vs = [.ref a, .int x] ∧ Row S0 H a cs ∧ CsOk cs ∧ -200000000000000000000000000000 ≤ x ∧ x ≤ 200000000000000000000000000000 ∧ ∀ H', Same H H' → Q (.bl true) H'
theorem ok__law_ways_right (T : Tx K mg) : FnOk P w K mg base CX0 6 T.f__law_ways_right T.fd__law_ways_right P__law_ways_right sp__law_ways_right := by
  have G_settles := ok_settles (P := P) (w := w) (base := base) T
  have G_turned := ok_turned (P := P) (w := w) (base := base) T
  have G_makes := ok_makes (P := P) (w := w) (base := base) T
  refine T.F__law_ways_right.ok sc__law_ways_right (fun vs H Q E h => ?_) (fun cdv A outer s H vs Q E hr h => ?_)
  · obtain ⟨a, cs, x, rfl, hR, hok, x0, x1, q⟩ := h
    rfl
  · obtain ⟨a, cs, x, rfl, hR, hok, x0, x1, q⟩ := h
    refine ⟨_, (pss_cons (ps_try_only (tb := fun W => tSeq (tAsg (tCallS (sp_settles T.c_TooFar) (WE W) (tCons (tVar 0) (tCons (tVar 1) tNil))) (gTup K 2 (gCons (gName 2) (gCons (gName 3) gNil)))) (tAsg (tCallS (sp_settles T.c_TooFar) (WE W) (tCons (tCall sp_turned [] E0 (tCons (tVar 0) tNil)) (tCons (tCall sp_makes [] E0 (tCons (tOp (rIxL K) (tVar 0) (tC (.int 0))) (tCons (tVar 1) tNil))) tNil))) (gTup K 2 (gCons (gName 4) (gCons (gName 5) gNil))))) (Wout := fun _ _ _ _ => False) rfl rfl ⟨rfl, by decide, .inl T.g_TooFar⟩ takes0 (fun W pn xe tk _ => by exact (pss_cons (ps_asg (pe_callS G_settles (hr.mono (by decide)) rfl T.g_settles T.F_settles.kp T.b_settles (fun σ => passAt tk σ) (pa_cons (pv 0) (pa_cons (pv 1) pa_nil))) (pg_tup rfl (pgs_cons (pg_name (i := 2) sc__law_ways_right.nd rfl (.inl rfl)) (pgs_cons (pg_name (i := 3) sc__law_ways_right.nd rfl (.inl rfl)) pgs_nil))))
    (pss_one (ps_asg (pe_callS G_settles (hr.mono (by decide)) rfl T.g_settles T.F_settles.kp T.b_settles (fun σ => passAt tk σ) (pa_cons (pe_call G_turned (hr.mono (by decide)) rfl T.g_turned T.F_turned.kp T.b_turned .nil pass0 (pa_cons (pv 0) pa_nil)) (pa_cons (pe_call G_makes (hr.mono (by decide)) rfl T.g_makes T.F_makes.kp T.b_makes .nil pass0 (pa_cons (pe_ix ix_list (pv 0) pe_int (fun _ _ => rfl)) (pa_cons (pv 1) pa_nil))) pa_nil))) (pg_tup rfl (pgs_cons (pg_name (i := 4) sc__law_ways_right.nd rfl (.inl rfl)) (pgs_cons (pg_name (i := 5) sc__law_ways_right.nd rfl (.inl rfl)) pgs_nil))))))) (fun a oe cls d pn _ _ => by exact (pss_one (ps_ret pe_bl))))
    (pss_one (ps_ret (pe_and (pe_cmpR op_eq (pv 5) (pe_call G_makes (hr.mono (by decide)) rfl T.g_makes T.F_makes.kp T.b_makes .nil pass0 (pa_cons (pe_ix ix_list (pv 0) pe_int (fun _ _ => rfl)) (pa_cons (pv 3) pa_nil))) (nomark _)) (pe_one (pe_cmpR op_in_seq (pv 4) (pe_tup (pa_cons (pv 2) (pa_cons (pe_op op_sub (pv 2) pe_int) pa_nil))) (by rfl))))))), ?_⟩
    obtain ⟨c, cs, rfl⟩ : ∃ c r, cs = c :: r := by
      cases cs with
      | nil => exact absurd hok.1 (by decide)
      | cons c r => exact ⟨c, r, rfl⟩
    have eE := exm_is T.be_TooFar T.ic_TooFar T.ty_TooFar T.su_TooFar
    have hxA : AmOk x := ⟨by omega, by omega⟩
    have hc := hok.2.2 c List.mem_cons_self
    refine ⟨_, rfl, _, rfl, a, _, x, rfl, hR, hok, hxA, fun n hn hs hm p H1 s1 _ hp => ?_, fun _ H1 s1 => ⟨true, eE, fun _ b _ => q H1 s1, fun z => Bool.noConfusion z⟩⟩
    refine ⟨p, _, rfl, sqt hp, rfl, .int n, [.int (it (c :: cs) n x)], rfl, .int (it (c :: cs) n x), [], rfl, rfl, ?_⟩
    have hR1 := hR.same s1
    refine ⟨_, rfl, a, _, rfl, hR1, hok, fun t H2 s2 _ hT => ?_⟩
    have hR2 := hR1.same s2
    obtain ⟨xs, ha, _, hps⟩ := id hR2
    cases hps with
    | cons r hps =>
      obtain ⟨u, rfl, hu, _⟩ := r
      refine ⟨_, rfl, _, _, _, _, rfl, rfl, sq ha, atI_nat (j := 0) rfl, _, rfl, u, c, x, rfl, hu, hc, hxA, ?_⟩
      have bm := mk_bd hc x
      refine ⟨t, _, mk c x, rfl, hT, turn_ok hok, ⟨by omega, by omega⟩, fun k hk ks km p2 H3 s3 _ hp2 => ?_, fun _ H3 s3 => ⟨true, eE, fun _ b _ => q H3 ((s1.trans s2).trans s3), fun z => Bool.noConfusion z⟩⟩
      refine ⟨p2, _, rfl, sqt hp2, rfl, .int k, [.int (it (turn (c :: cs)) k (mk c x))], rfl, .int (it (turn (c :: cs)) k (mk c x)), [], rfl, rfl, ?_⟩
      have b2 := it_bd hok n x
      have hAt : AmOk (it (c :: cs) n x) := ⟨by omega, by omega⟩
      refine ⟨_, rfl, _, rfl, _, _, _, _, rfl, rfl, sq (s3 _ _ ha), atI_nat (j := 0) rfl, _, rfl, u, c, _, rfl, s3 _ _ hu, hc, hAt, rfl, ?_⟩
      obtain ⟨w1, w2⟩ := turn_ways hs hm ks km
      rw [w1, decide_eq_true rfl]
      refine ⟨true, rfl, iteT ?_⟩
      refine ⟨_, rfl, _, rfl, _, rfl, _, _, rfl, rfl, small' (by show 2 ≤ 1000000; omega), fun y ny => ?_⟩
      refine ⟨y, _, rfl, .inr (sqt upd_same), rfl, rfl, ?_⟩
      have e : inV (.int (k : Int)) [.int (n : Int), .int ((n : Int) - 1)] = true := by
        show (((n : Int) == (k : Int)) || (((n : Int) - 1 == (k : Int)) || false)) = true
        rcases w2 with h | h
        · rw [h, beq_self_eq_true]
          rfl
        · have h2 : (n : Int) - 1 = (k : Int) := by omega
          rw [h2, beq_self_eq_true, Bool.true_or, Bool.or_true]
      show Q (.bl (inV (.int (k : Int)) [.int (n : Int), .int ((n : Int) - 1)])) _
      rw [e]
      exact q _ (((s1.trans s2).trans s3).trans (same_new ny))
end
end Rc

namespace Rc
open PySem PySem.Spec PyProof.Rows L2
section
variable {P : Program} {w : World} {K : PySem.W.Frag} {mg : Str → Option Value} {base : Heap}
def sp__law_round_right : Sp := fun vs H Q _ => ∃ (a : Addr) (cs : List Cl) (x : Int), vs = [.ref a, .int x] ∧ Row S0 H a cs ∧ CsOk cs ∧ -200000000000000000000000000000 ≤ x ∧ x ≤ 200000000000000000000000000000 ∧ run cs x = x ∧ ∀ H', Same H H' → Q (.bl true) H'
theorem ok__law_round_right (T : Tx K mg) : FnOk P w K mg base CX0 6 T.f__law_round_right T.fd__law_round_right P__law_round_right sp__law_round_right := by
  have G_stays_turned := ok_stays_turned (P := P) (w := w) (base := base) T
  have G_turned := ok_turned (P := P) (w := w) (base := base) T
  have G_does_stay := ok_does_stay (P := P) (w := w) (base := base) T
  refine T.F__law_round_right.ok sc__law_round_right (fun vs H Q E h => ?_) (fun cdv A outer s H vs Q E hr h => ?_)
  · obtain ⟨a, cs, x, rfl, hR, hok, x0, x1, hs, q⟩ := h
    rfl
  · obtain ⟨a, cs, x, rfl, hR, hok, x0, x1, hs, q⟩ := h
    refine ⟨_, (pss_cons (ps_par (i := 2) (j := 3) rfl sc__law_round_right.nd rfl rfl (by decide) rfl rfl (pa_cons (pv 1) (pa_cons (pv 0) pa_nil)) (by rfl))
    (pss_cons (ps_for PassesOwn.never rfl (pi_range1 (by rfl) T.z_range (pa_cons (pe_callB call_len_seq (by rfl) T.z_len PySem.boot_len (pa_cons (pv 0) pa_nil)) pa_nil)) (pg_name (i := 4) sc__law_round_right.nd rfl (.inl rfl)) (pss_cons (ps_if (pt_not (pt_val (pe_call G_does_stay (hr.mono (by decide)) rfl T.g_does_stay T.F_does_stay.kp T.b_does_stay .nil pass0 (pa_cons (pv 3) (pa_cons (pv 2) pa_nil))))) (pss_one (ps_ret pe_bl)) pss_nil)
    (pss_cons (ps_set (i := 2) sc__law_round_right.nd rfl (.inl rfl) (pe_call G_stays_turned (hr.mono (by decide)) rfl T.g_stays_turned T.F_stays_turned.kp T.b_stays_turned .nil pass0 (pa_cons (pv 3) (pa_cons (pv 2) pa_nil))))
    (pss_one (ps_set (i := 3) sc__law_round_right.nd rfl (.inl rfl) (pe_call G_turned (hr.mono (by decide)) rfl T.g_turned T.F_turned.kp T.b_turned .nil pass0 (pa_cons (pv 3) pa_nil)))))))
    (pss_one (ps_ret (pe_and (pe_cmpR op_eq (pv 2) (pv 1) (nomark _)) (pe_one (pe_cmpR (op_eqD hr.units) (pv 3) (pv 0) (nomark _)))))))), ?_⟩
    obtain ⟨xs, ha, _, hp⟩ := id hR
    have hl := pd_len hp
    have l8 := hok.2.1
    refine ⟨_, rfl, _, rfl, _, _, rfl, ?_⟩
    refine ⟨_, rfl, a, _, rfl, .inl (sq ha), _, rfl, by omega, by omega, ?_⟩
    have eT : ((xs.length : Nat) : Int).toNat = cs.length := by omega
    rw [eT]
    refine for_range (lo := 0) (n := cs.length) (fun i σ H' => ∃ (r : Addr) (v : Option V), σ = [some (.ref a), some (.int x), some (.int (run (cs.take i) x)), some (.ref r), v] ∧ Same H H' ∧ Row S0 H' r (rot i cs))
      ⟨a, none, rfl, Same.refl H, by unfold rot; rw [List.take_zero, List.drop_zero, List.append_nil]; exact hR⟩ (fun i σ H' hi hP => ?_) (fun σ H' hP => ?_)
    · obtain ⟨r, v, rfl, s1, hr1⟩ := hP
      obtain ⟨c, hc⟩ : ∃ c, cs[i]? = some c := ⟨_, List.getElem?_eq_getElem hi⟩
      obtain ⟨e1, e2⟩ := rot_next hc
      have st := rot_stay hs i
      have ok1 := rot_ok hok i
      have bd := take_bd hok i x
      have am : AmOk (run (cs.take i) x) := ⟨by omega, by omega⟩
      refine ⟨_, rfl, _, rfl, r, _, _, rfl, hr1, ok1, am, fun H1 s2 => ?_⟩
      rw [st, decide_eq_true rfl]
      refine ⟨true, rfl, iteF ?_⟩
      have hr2 := hr1.same s2
      rw [e1] at hr2 ok1 st
      refine ⟨_, rfl, _, rfl, r, c, _, _, rfl, hr2, ok1, am, st, fun H2 s3 => ?_⟩
      have hr3 := hr2.same s3
      refine ⟨_, rfl, r, _, rfl, hr3, ok1, fun t H3 s4 _ ht => ?_⟩
      rw [← e1, e2] at ht
      refine ⟨t, some (.int (0 + (i : Int))), ?_, ((s1.trans s2).trans s3).trans s4, ht⟩
      rw [run_take hc]
      rfl
    · obtain ⟨r, v, rfl, s1, hr1⟩ := hP
      have e1 : cs.take cs.length = cs := List.take_length
      have e2 : rot cs.length cs = cs := by
        unfold rot
        rw [List.drop_length, List.take_length]
        rfl
      rw [e2] at hr1
      rw [e1, hs]
      refine ⟨_, rfl, _, rfl, rfl, ?_⟩
      rw [decide_eq_true rfl]
      refine ⟨true, rfl, iteT ?_⟩
      refine ⟨_, rfl, _, rfl, rowD cs, rowD cs, hr1.dp, (hR.same s1).dp, rowD_shaped cs, rowD_shaped cs, ?_⟩
      rw [SeqAt.eqv_refl _ (SeqAt.canLay_of_shaped (rowD_shaped cs))]
      exact q H' s1
end
end Rc

namespace Rc
open PySem PySem.Spec PyProof.Rows L2
section
variable {P : Program} {w : World} {K : PySem.W.Frag} {mg : Str → Option Value} {base : Heap}
/-- the teams that a turn goes through -/
structure Tms (D : Dk) (n : Nat) (H : Hp) (L : Addr) (xs : List V) : Prop where
  ok : DkOk D n H
  l : H L = some (.lst xs)
  nl : ¬ D.S L
  t : ∀ x ∈ xs, ∃ t cs, x = .ref t ∧ Row D.S H t cs ∧ CsOk cs
theorem Tms.go {D : Dk} {n m : Nat} {H H' : Hp} {L : Addr} {xs : List V} (h : Tms D n H L xs) (f : Fr D.S H H') (ok : DkOk D m H') : Tms D m H' L xs :=
  ⟨ok, f _ _ h.nl h.l, h.nl, fun x hx => let ⟨t, cs, e, r, k⟩ := h.t x hx; ⟨t, cs, e, r.fr f, k⟩⟩
theorem Tms.same {D : Dk} {n : Nat} {H H' : Hp} {L : Addr} {xs : List V} (h : Tms D n H L xs) (f : Same H H') : Tms D n H' L xs := h.go (.of f) (h.ok.same f)
def sp_law (K : PySem.W.Frag) : Sp := fun vs H Q _ => ∃ (a : Addr) (ns : List Int), vs = [.ref a] ∧ SqL K H a (ns.map V.int) ∧ ns.length ≤ 63 ∧ ∀ H', Q (.bl true) H'
theorem ok_law (T : Tx K mg) : FnOk P w K mg base CX0 7 T.f_law T.fd_law P_law (sp_law K) := by
  have G__law_deck := ok__law_deck (P := P) (w := w) (base := base) T
  have G__law_far_team := ok__law_far_team (P := P) (w := w) (base := base) T
  have G__law_near_team := ok__law_near_team (P := P) (w := w) (base := base) T
  have G__law_draw := ok__law_draw (P := P) (w := w) (base := base) T
  have G__law_ways_right := ok__law_ways_right (P := P) (w := w) (base := base) T
  have G__law_round := ok__law_round (P := P) (w := w) (base := base) T
  have G__law_round_right := ok__law_round_right (P := P) (w := w) (base := base) T
  refine T.F_law.ok sc_law (fun vs H Q E h => ?_) (fun cdv A outer s H vs Q E hr h => ?_)
  · obtain ⟨a, ns, rfl, hS, hlen, q⟩ := h
    rfl
  · obtain ⟨a, ns, rfl, hS, hlen, q⟩ := h
    refine ⟨_, (pss_cons (ps_set (i := 1) sc_law.nd rfl (.inl rfl) (pe_call G__law_deck (hr.mono (by decide)) rfl T.g__law_deck T.F__law_deck.kp T.b__law_deck .nil pass0 (pa_cons (pv 0) pa_nil)))
    (pss_cons (ps_for PassesOwn.never rfl (pi_range1 (by rfl) T.z_range (pa_cons pe_int pa_nil)) (pg_name (i := 2) sc_law.nd rfl (.inl rfl)) (pss_one (ps_for PassesOwn.never rfl (pi_list (pe_lst (pa_cons (pe_ix ix_list (pe_call G__law_near_team (hr.mono (by decide)) rfl T.g__law_near_team T.F__law_near_team.kp T.b__law_near_team .nil pass0 (pa_cons (pv 1) (pa_cons pe_int pa_nil))) pe_int (fun _ _ => rfl)) (pa_cons (pe_call G__law_far_team (hr.mono (by decide)) rfl T.g__law_far_team T.F__law_far_team.kp T.b__law_far_team .nil pass0 (pa_cons (pv 1) (pa_cons pe_int pa_nil))) pa_nil)))) (pg_name (i := 3) sc_law.nd rfl (.inl rfl)) (pss_one (ps_for PassesOwn.never rfl (pi_range1 (by rfl) T.z_range (pa_cons pe_int pa_nil)) (pg_name (i := 4) sc_law.nd rfl (.inl rfl)) (pss_cons (ps_set (i := 5) sc_law.nd rfl (.inl rfl) (pe_op op_mul (pe_call G__law_draw (hr.mono (by decide)) rfl T.g__law_draw T.F__law_draw.kp T.b__law_draw .nil pass0 (pa_cons (pv 1) (pa_cons (pe_powc (v := 100000000000000000000000000000)) pa_nil))) (pe_ix ix_list (pe_lst (pa_cons pe_int (pa_cons (pe_un un_neg pe_int) pa_nil))) (pe_call G__law_draw (hr.mono (by decide)) rfl T.g__law_draw T.F__law_draw.kp T.b__law_draw .nil pass0 (pa_cons (pv 1) (pa_cons pe_int pa_nil))) (fun _ _ => rfl))))
    (pss_cons (ps_set (i := 5) sc_law.nd rfl (.inl rfl) (pe_ix ix_list (pe_lst (pa_cons (pv 5) (pa_cons (pe_op op_sub (pe_call G__law_draw (hr.mono (by decide)) rfl T.g__law_draw T.F__law_draw.kp T.b__law_draw .nil pass0 (pa_cons (pv 1) (pa_cons pe_int pa_nil))) pe_int) pa_nil))) (pe_call G__law_draw (hr.mono (by decide)) rfl T.g__law_draw T.F__law_draw.kp T.b__law_draw .nil pass0 (pa_cons (pv 1) (pa_cons pe_int pa_nil))) (fun _ _ => rfl)))
    (pss_cons (ps_if (pt_not (pt_val (pe_call G__law_ways_right (hr.mono (by decide)) rfl T.g__law_ways_right T.F__law_ways_right.kp T.b__law_ways_right .nil pass0 (pa_cons (pv 3) (pa_cons (pv 5) pa_nil))))) (pss_one (ps_ret pe_bl)) pss_nil)
    (pss_cons (ps_for PassesOwn.never rfl (pi_range1 (by rfl) T.z_range (pa_cons pe_int pa_nil)) (pg_name (i := 6) sc_law.nd rfl (.inl rfl)) (pss_one (ps_set (i := 5) sc_law.nd rfl (.inl rfl) (pe_call G__law_round (hr.mono (by decide)) rfl T.g__law_round T.F__law_round.kp T.b__law_round .nil pass0 (pa_cons (pv 3) (pa_cons (pv 5) pa_nil))))))
    (pss_one (ps_if (PW.pt (pw_and (pt_cmpR op_eq (pe_call G__law_round (hr.mono (by decide)) rfl T.g__law_round T.F__law_round.kp T.b__law_round .nil pass0 (pa_cons (pv 3) (pa_cons (pv 5) pa_nil))) (pv 5) (nomark _)) (pw_and1 (pt_not (pt_val (pe_call G__law_round_right (hr.mono (by decide)) rfl T.g__law_round_right T.F__law_round_right.kp T.b__law_round_right .nil pass0 (pa_cons (pv 3) (pa_cons (pv 5) pa_nil)))))))) (pss_one (ps_ret pe_bl)) pss_nil)))))))))))
    (pss_one (ps_ret pe_bl)))), ?_⟩
    refine ⟨_, rfl, a, ns, rfl, hS, hlen, fun D H0 s0 hD => ?_⟩
    refine ⟨8, rfl, by decide, by decide, for_range (lo := 0) (n := 8) (fun i σ H' => ∃ v2 v3 v4 v5 v6 : Option V, σ = [some (.ref a), some (.ref D.d), v2, v3, v4, v5, v6] ∧ DkOk D (200 * i) H')
      ⟨none, none, none, none, none, rfl, hD⟩ (fun i σ H1 hi hP => ?_) (fun σ H1 hP => q H1)⟩
    obtain ⟨v2, v3, v4, v5, v6, rfl, hD1⟩ := hP
    -- the two teams
    refine ⟨_, rfl, D, _, 8, rfl, hD1, by omega, by omega, by omega, fun b t1 cs1 z H2 f2 hD2 hb nb hr1 ok1 _ _ => ?_⟩
    refine ⟨b, _, 0, _, rfl, rfl, sq hb, atI_nat (j := 0) rfl, ?_⟩
    refine ⟨_, rfl, D, _, 8, rfl, hD2, by omega, by omega, by omega, fun t2 cs2 H3 f3 hD3 hr2 ok2 => ?_⟩
    refine ⟨small' (by show 2 ≤ 1000000; omega), fun L nL => ?_⟩
    have sL : Same H3 (upd H3 L (.lst [.ref t1, .ref t2])) := same_new nL
    have tm : Tms D (200 * i + 110) (upd H3 L (.lst [.ref t1, .ref t2])) L [.ref t1, .ref t2] := ⟨(hD3.same sL).mono (by omega), upd_same, hD3.new nL, fun x hx => by
      rcases List.mem_cons.mp hx with rfl | hx
      · exact ⟨t1, cs1, rfl, (hr1.fr f3).same sL, ok1⟩
      · have e : x = .ref t2 := by simpa using hx
        subst e
        exact ⟨t2, cs2, rfl, hr2.same sL, ok2⟩⟩
    refine ⟨L, rfl, ⟨_, sq upd_same⟩, for_list (K := K) (a := L) (xs := [.ref t1, .ref t2]) (fun j σ H' => ∃ v2 v3 v4 v5 v6 : Option V, σ = [some (.ref a), some (.ref D.d), v2, v3, v4, v5, v6] ∧ Tms D (200 * i + 110 + 30 * j) H' L [.ref t1, .ref t2])
      ⟨_, _, _, _, _, rfl, tm⟩ (fun j σ H' _ ⟨_, _, _, _, _, _, h⟩ => sq h.l) (fun j x σ H4 hj hP => ?_) (fun σ H4 hP => ?_)⟩
    rotate_left
    · obtain ⟨w2, w3, w4, w5, w6, rfl, h⟩ := hP
      exact ⟨_, _, _, _, _, rfl, h.ok.mono (by show 200 * i + 110 + 30 * 2 ≤ 200 * (i + 1); omega)⟩
    obtain ⟨w2, w3, w4, w5, w6, rfl, tm4⟩ := hP
    have hj2 : j < 2 := (List.getElem?_eq_some_iff.mp hj).1
    obtain ⟨t, cs, rfl, _, hok⟩ := tm4.t x (List.mem_of_getElem? hj)
    -- three amounts
    refine ⟨3, rfl, by decide, by decide, for_range (lo := 0) (n := 3) (fun k σ H' => ∃ v2 v4 v5 v6 : Option V, σ = [some (.ref a), some (.ref D.d), v2, some (.ref t), v4, v5, v6] ∧ Tms D (200 * i + 110 + 30 * j + 4 * k) H' L [.ref t1, .ref t2] ∧ Row D.S H' t cs)
      ⟨_, _, _, _, rfl, tm4, by
        obtain ⟨t', cs', e, r, _⟩ := tm4.t _ (List.mem_of_getElem? hj)
        cases e
        exact (by assumption)⟩ (fun k σ H5 hk hP => ?_) (fun σ H5 hP => ?_)⟩
    rotate_left
    · obtain ⟨u2, u4, u5, u6, rfl, h, _⟩ := hP
      exact ⟨_, _, _, _, _, rfl, h.go (Fr.refl _) (h.ok.mono (by show 200 * i + 110 + 30 * j + 4 * 3 ≤ 200 * i + 110 + 30 * (j + 1); omega))⟩
    obtain ⟨u2, u4, u5, u6, rfl, tm5, hr5⟩ := hP
    -- x
    refine ⟨_, rfl, D, _, 100000000000000000000000000000, rfl, tm5.ok, by omega, by omega, by omega, fun r1 G1 r10 r11 k1 kD1 => ?_⟩
    refine ⟨_, rfl, small' (by show 2 ≤ 1000000; omega), fun p np => ?_⟩
    have kD2 := kD1.same (same_new (o := .lst [.int 1, .int (-1)]) np)
    refine ⟨_, rfl, D, _, 2, rfl, kD2, by omega, by omega, by omega, fun r2 G2 r20 r21 k2 kD3 => ?_⟩
    have hp : G2 p = some (.lst [.int 1, .int (-1)]) := k2 _ _ (kD1.new np) upd_same
    obtain ⟨v, _, hv, hat⟩ := atI_lt (xs := [.int 1, .int (-1)]) r20 r21
    obtain ⟨e, rfl, ee⟩ : ∃ e : Int, v = .int e ∧ (e = 1 ∨ e = -1) := by
      simp only [List.mem_cons, List.not_mem_nil, or_false] at hv
      rcases hv with rfl | rfl
      · exact ⟨_, rfl, .inl rfl⟩
      · exact ⟨_, rfl, .inr rfl⟩
    obtain ⟨x0, hx0, b0, b1⟩ : ∃ x0 : Int, r1 * e = x0 ∧ -100000000000000000000000000000 ≤ x0 ∧ x0 ≤ 100000000000000000000000000000 := by
      rcases ee with rfl | rfl
      · exact ⟨_, rfl, by omega, by omega⟩
      · exact ⟨_, rfl, by omega, by omega⟩
    refine ⟨p, _, r2, _, rfl, rfl, sq hp, hat, r1, e, rfl, rfl, .inr (by omega), ?_⟩
    dsimp only
    rw [hx0]
    have fr2 := (k1.trans (fr_new np)).trans k2
    -- x again
    refine ⟨_, rfl, _, rfl, D, _, 500, rfl, kD3, by omega, by omega, by omega, fun r3 G3 r30 r31 k3 kD4 => ⟨_, _, rfl, rfl, ?_⟩⟩
    refine ⟨small' (by show 2 ≤ 1000000; omega), fun p2 np2 => ?_⟩
    have kD5 := kD4.same (same_new (o := .lst [.int x0, .int (r3 - 250)]) np2)
    refine ⟨_, rfl, D, _, 2, rfl, kD5, by omega, by omega, by omega, fun r4 G4 r40 r41 k4 kD6 => ?_⟩
    have hp2 : G4 p2 = some (.lst [.int x0, .int (r3 - 250)]) := k4 _ _ (kD4.new np2) upd_same
    obtain ⟨v, _, hv, hat2⟩ := atI_lt (xs := [.int x0, .int (r3 - 250)]) r40 r41
    obtain ⟨y, rfl, y0, y1⟩ : ∃ y : Int, v = .int y ∧ -100000000000000000000000000000 ≤ y ∧ y ≤ 100000000000000000000000000000 := by
      simp only [List.mem_cons, List.not_mem_nil, or_false] at hv
      rcases hv with rfl | rfl
      · exact ⟨_, rfl, b0, b1⟩
      · exact ⟨_, rfl, by omega, by omega⟩
    refine ⟨p2, _, r4, _, rfl, rfl, sq hp2, hat2, ?_⟩
    have fr4 := ((fr2.trans k3).trans (fr_new np2)).trans k4
    have tm6 := tm5.go fr4 kD6
    have hr6 := hr5.fr fr4
    -- the ways
    refine ⟨_, rfl, _, rfl, t, cs, y, rfl, hr6.s0, hok, by omega, by omega, fun G5 s5 => ⟨true, rfl, iteF ?_⟩⟩
    have tm7 := tm6.same s5
    have hr7 := hr6.same s5
    -- forty rounds
    refine ⟨40, rfl, by decide, by decide, for_range (lo := 0) (n := 40) (fun l σ H' => ∃ v2 v4 v6 : Option V, σ = [some (.ref a), some (.ref D.d), v2, some (.ref t), v4, some (.int (it cs l y)), v6] ∧ H' = G5)
      ⟨_, _, _, rfl, rfl⟩ (fun l σ H' _ hP => ?_) (fun σ H' hP => ?_)⟩
    · obtain ⟨z2, z4, z6, rfl, rfl⟩ := hP
      refine ⟨_, rfl, _, rfl, t, cs, _, rfl, hr7.s0, hok, z2, z4, some (.int (0 + (l : Int))), ?_, rfl⟩
      rw [it_succ]
      rfl
    · obtain ⟨z2, z4, z6, rfl, rfl⟩ := hP
      have bd := it_bd hok 40 y
      refine ⟨_, rfl, _, rfl, t, cs, _, rfl, hr7.s0, hok, _, rfl, rfl, _, rfl, ite2 (fun e1 => ?_) (fun _ => ?_)⟩
      · have e2 : run cs (it cs 40 y) = it cs 40 y := V.int.inj (of_decide_eq_true e1)
        refine ⟨_, rfl, _, rfl, t, cs, _, rfl, hr7.s0, hok, by omega, by omega, e2, fun G6 s6 => ⟨true, rfl, iteF ?_⟩⟩
        exact ⟨_, _, _, _, rfl, (tm7.same s6).go (Fr.refl _) ((tm7.same s6).ok.mono (by omega)), hr7.same s6⟩
      · exact ⟨_, _, _, _, rfl, tm7.go (Fr.refl _) (tm7.ok.mono (by omega)), hr7⟩
end
end Rc

namespace Rc
open PySem PySem.Spec PyProof.Rows L2
/-- a law row's end, with the numbers that the top reckons and the bits of the script -/
theorem walk_ofX {l : PySem.W.OpenLaw} {n k : Nat} {q : Program} {loose : List Str} {XP : (Str → Option Value) → Heap → Prop}
    {YP : World → Heap → Prop} {d : DefRec} {K : Params → PySem.W.Frag} {CX : World → CXT} {sp : World → Sp} {x : Str}
    (h1 : l.most = some n) (h2 : n ≤ sizeLine) (h3 : d.params.defaults = []) (h4 : Room k callerA) (h5 : ∀ (w : World) (h : Heap), YP w h → (K w.params).In h)
    (F : ∀ (w : World) (mg : Str → Option Value) (fa : Addr) (h : Heap), XP mg h → (K w.params).In h → h.Ns mainGlobals mg → mg d.name = some (.ref fa) → ∃ fd : FuncData,
      (∀ (s : Shared) (u : Value), BindsTo s fd ⟨[u], []⟩ [(x, u)]) ∧ ∀ base : Heap, (K w.params).In base → base.Ns mainGlobals mg → FnOk l.prog w (K w.params) mg base (CX w) k fa fd [x] (sp w))
    (S : ∀ (w : World) (H : Hp) (a : Addr) (ns : List Int), ns.length ≤ n → (∀ z ∈ ns, Builtin.Int.intBits z ≤ 1048576) → SqL (K w.params) H a (ns.map V.int) → sp w [.ref a] H (fun v _ => v = .bl true) fun _ _ _ => False)
    (C : ∀ (w : World) (H : Hp) (s : Shared) (e : Value) (s' : Shared), CX w [] H s (fun _ _ _ => False) e s' → False) : PySem.W.WalkO q loose XP YP l.row.toRowW d [] (fun f vs => PySem.call f vs) :=
  Att.attach_callB h1 h3 fun w _ s₁ mg mb fa o pm cd doc a vs ns G Y ho hd hcd hmg hobj hi hl hb hg =>
    let ⟨fd, b, f⟩ := F w mg fa _ G.X (h5 w _ Y) G.T.g hmg
    law_call (h5 w _ Y) G.T.g G.T.b G.T.builtins G.T.nolimit hg hobj hi (Nat.le_trans hl h2) h4 f b (fun H _ hS => S w H a ns hl hb hS) fun H e s' => C w H s₁ e s'
theorem int_of {h : Heap} {v : Value} {n : Int} (r : PySem.W.ReadsLit h v (.int n) []) : ∃ t, v = .int n t := by
  cases r
  exact ⟨_, rfl⟩
theorem all_mk {P : Program} {w : World} {K : PySem.W.Frag} {h : Heap} {mg : Str → Option Value} {fa : Addr} (X : K.In h) (G : h.Ns mainGlobals mg) (hfa : mg "law" = some (.ref fa))
    {t_MOST_CLERKS : Tok}
    {t_MOST_ROUNDS : Tok}
    {c_TooFar : Addr}
    {f_is_whole : Addr} {od_is_whole an_is_whole : Option Addr} {sl_is_whole : Array (Option Value)} {oc_is_whole kV_is_whole dc_is_whole pm_is_whole cd_is_whole ct_is_whole : Value}
    {f_need_amount : Addr} {od_need_amount an_need_amount : Option Addr} {sl_need_amount : Array (Option Value)} {oc_need_amount kV_need_amount dc_need_amount pm_need_amount cd_need_amount ct_need_amount : Value}
    {f_is_clerk : Addr} {od_is_clerk an_is_clerk : Option Addr} {sl_is_clerk : Array (Option Value)} {oc_is_clerk kV_is_clerk dc_is_clerk pm_is_clerk cd_is_clerk ct_is_clerk : Value}
    {f_need_clerk : Addr} {od_need_clerk an_need_clerk : Option Addr} {sl_need_clerk : Array (Option Value)} {oc_need_clerk kV_need_clerk dc_need_clerk pm_need_clerk cd_need_clerk ct_need_clerk : Value}
    {f_made_by : Addr} {od_made_by an_made_by : Option Addr} {sl_made_by : Array (Option Value)} {oc_made_by kV_made_by dc_made_by pm_made_by cd_made_by ct_made_by : Value}
    {f_makes : Addr} {od_makes an_makes : Option Addr} {sl_makes : Array (Option Value)} {oc_makes kV_makes dc_makes pm_makes cd_makes ct_makes : Value}
    {f_is_row : Addr} {od_is_row an_is_row : Option Addr} {sl_is_row : Array (Option Value)} {oc_is_row kV_is_row dc_is_row pm_is_row cd_is_row ct_is_row : Value}
    {f_need_row : Addr} {od_need_row an_need_row : Option Addr} {sl_need_row : Array (Option Value)} {oc_need_row kV_need_row dc_need_row pm_need_row cd_need_row ct_need_row : Value}
    {f_made_through : Addr} {od_made_through an_made_through : Option Addr} {sl_made_through : Array (Option Value)} {oc_made_through kV_made_through dc_made_through pm_made_through cd_made_through ct_made_through : Value}
    {f_made_in_round : Addr} {od_made_in_round an_made_in_round : Option Addr} {sl_made_in_round : Array (Option Value)} {oc_made_in_round kV_made_in_round dc_made_in_round pm_made_in_round cd_made_in_round ct_made_in_round : Value}
    {f_does_stay : Addr} {od_does_stay an_does_stay : Option Addr} {sl_does_stay : Array (Option Value)} {oc_does_stay kV_does_stay dc_does_stay pm_does_stay cd_does_stay ct_does_stay : Value}
    {f_settles : Addr} {od_settles an_settles : Option Addr} {sl_settles : Array (Option Value)} {oc_settles kV_settles dc_settles pm_settles cd_settles ct_settles : Value}
    {f_turned : Addr} {od_turned an_turned : Option Addr} {sl_turned : Array (Option Value)} {oc_turned kV_turned dc_turned pm_turned cd_turned ct_turned : Value}
    {f_stays_turned : Addr} {od_stays_turned an_stays_turned : Option Addr} {sl_stays_turned : Array (Option Value)} {oc_stays_turned kV_stays_turned dc_stays_turned pm_stays_turned cd_stays_turned ct_stays_turned : Value}
    {f__law_deck : Addr} {od__law_deck an__law_deck : Option Addr} {sl__law_deck : Array (Option Value)} {oc__law_deck kV__law_deck dc__law_deck pm__law_deck cd__law_deck ct__law_deck : Value}
    {f__law_draw : Addr} {od__law_draw an__law_draw : Option Addr} {sl__law_draw : Array (Option Value)} {oc__law_draw kV__law_draw dc__law_draw pm__law_draw cd__law_draw ct__law_draw : Value}
    {f__law_lenience : Addr} {od__law_lenience an__law_lenience : Option Addr} {sl__law_lenience : Array (Option Value)} {oc__law_lenience kV__law_lenience dc__law_lenience pm__law_lenience cd__law_lenience ct__law_lenience : Value}
    {f__law_near_team : Addr} {od__law_near_team an__law_near_team : Option Addr} {sl__law_near_team : Array (Option Value)} {oc__law_near_team kV__law_near_team dc__law_near_team pm__law_near_team cd__law_near_team ct__law_near_team : Value}
    {f__law_far_team : Addr} {od__law_far_team an__law_far_team : Option Addr} {sl__law_far_team : Array (Option Value)} {oc__law_far_team kV__law_far_team dc__law_far_team pm__law_far_team cd__law_far_team ct__law_far_team : Value}
    {f__law_round : Addr} {od__law_round an__law_round : Option Addr} {sl__law_round : Array (Option Value)} {oc__law_round kV__law_round dc__law_round pm__law_round cd__law_round ct__law_round : Value}
    {f__law_ways_right : Addr} {od__law_ways_right an__law_ways_right : Option Addr} {sl__law_ways_right : Array (Option Value)} {oc__law_ways_right kV__law_ways_right dc__law_ways_right pm__law_ways_right cd__law_ways_right ct__law_ways_right : Value}
    {f__law_round_right : Addr} {od__law_round_right an__law_round_right : Option Addr} {sl__law_round_right : Array (Option Value)} {oc__law_round_right kV__law_round_right dc__law_round_right pm__law_round_right cd__law_round_right ct__law_round_right : Value}
    {f_law : Addr} {od_law an_law : Option Addr} {sl_law : Array (Option Value)} {oc_law kV_law dc_law pm_law cd_law ct_law : Value}
    (z_all : PySem.W.nsIn K mainGlobals "all" = some none)
    (z_bool : PySem.W.nsIn K mainGlobals "bool" = some none)
    (z_int : PySem.W.nsIn K mainGlobals "int" = some none)
    (z_isinstance : PySem.W.nsIn K mainGlobals "isinstance" = some none)
    (z_len : PySem.W.nsIn K mainGlobals "len" = some none)
    (z_list : PySem.W.nsIn K mainGlobals "list" = some none)
    (z_max : PySem.W.nsIn K mainGlobals "max" = some none)
    (z_min : PySem.W.nsIn K mainGlobals "min" = some none)
    (z_range : PySem.W.nsIn K mainGlobals "range" = some none)
    (z_tuple : PySem.W.nsIn K mainGlobals "tuple" = some none)
    (m_MOST_AMOUNT : ∃ t, mg "MOST_AMOUNT" = some (.int 1000000000000000000000000000000 t))
    (m_MOST_COIN : ∃ t, mg "MOST_COIN" = some (.int 1000000000000000 t))
    (m_MOST_CLERKS : PySem.W.nsIn K mainGlobals "MOST_CLERKS" = some (some (.int 8 t_MOST_CLERKS)))
    (m_MOST_ROUNDS : PySem.W.nsIn K mainGlobals "MOST_ROUNDS" = some (some (.int 20000 t_MOST_ROUNDS)))
    (g_TooFar : PySem.W.nsIn K mainGlobals "TooFar" = some (some (.ref c_TooFar)))
    (x_TooFar : PySem.W.excIn K c_TooFar [.type "ValueError", .type "Exception", .type "BaseException", .type "object"] "ValueError.__new__" = true)
    (kc_TooFar : PySem.W.keepIn K (.ref c_TooFar) = true)
    (be_TooFar : PySem.W.subIn K (.ref c_TooFar) (.type "BaseException") = some true)
    (ty_TooFar : PySem.W.typeIn K (.ref c_TooFar) = some (.type "type"))
    (ic_TooFar : PySem.W.isClsIn K c_TooFar = true)
    (su_TooFar : PySem.W.subIn K (.ref c_TooFar) (.ref c_TooFar) = some true)
    (a_is_whole : PySem.W.nsIn K mainGlobals "is_whole" = some (some (.ref f_is_whole)))
    (l_is_whole : K.lookup f_is_whole = some ⟨oc_is_whole, od_is_whole, .func (PySem.W.fnOf "is_whole" "is_whole" (defArgs s_is_whole) (defBody s_is_whole) (defScope s_is_whole) .none kV_is_whole dc_is_whole pm_is_whole an_is_whole cd_is_whole ct_is_whole), sl_is_whole⟩)
    (c_is_whole : PySem.W.codeIn K cd_is_whole "is_whole" = true)
    (k_is_whole : PySem.W.keepIn K (.ref f_is_whole) = true)
    (a_need_amount : PySem.W.nsIn K mainGlobals "need_amount" = some (some (.ref f_need_amount)))
    (l_need_amount : K.lookup f_need_amount = some ⟨oc_need_amount, od_need_amount, .func (PySem.W.fnOf "need_amount" "need_amount" (defArgs s_need_amount) (defBody s_need_amount) (defScope s_need_amount) .none kV_need_amount dc_need_amount pm_need_amount an_need_amount cd_need_amount ct_need_amount), sl_need_amount⟩)
    (c_need_amount : PySem.W.codeIn K cd_need_amount "need_amount" = true)
    (k_need_amount : PySem.W.keepIn K (.ref f_need_amount) = true)
    (a_is_clerk : PySem.W.nsIn K mainGlobals "is_clerk" = some (some (.ref f_is_clerk)))
    (l_is_clerk : K.lookup f_is_clerk = some ⟨oc_is_clerk, od_is_clerk, .func (PySem.W.fnOf "is_clerk" "is_clerk" (defArgs s_is_clerk) (defBody s_is_clerk) (defScope s_is_clerk) .none kV_is_clerk dc_is_clerk pm_is_clerk an_is_clerk cd_is_clerk ct_is_clerk), sl_is_clerk⟩)
    (c_is_clerk : PySem.W.codeIn K cd_is_clerk "is_clerk" = true)
    (k_is_clerk : PySem.W.keepIn K (.ref f_is_clerk) = true)
    (a_need_clerk : PySem.W.nsIn K mainGlobals "need_clerk" = some (some (.ref f_need_clerk)))
    (l_need_clerk : K.lookup f_need_clerk = some ⟨oc_need_clerk, od_need_clerk, .func (PySem.W.fnOf "need_clerk" "need_clerk" (defArgs s_need_clerk) (defBody s_need_clerk) (defScope s_need_clerk) .none kV_need_clerk dc_need_clerk pm_need_clerk an_need_clerk cd_need_clerk ct_need_clerk), sl_need_clerk⟩)
    (c_need_clerk : PySem.W.codeIn K cd_need_clerk "need_clerk" = true)
    (k_need_clerk : PySem.W.keepIn K (.ref f_need_clerk) = true)
    (a_made_by : PySem.W.nsIn K mainGlobals "made_by" = some (some (.ref f_made_by)))
    (l_made_by : K.lookup f_made_by = some ⟨oc_made_by, od_made_by, .func (PySem.W.fnOf "made_by" "made_by" (defArgs s_made_by) (defBody s_made_by) (defScope s_made_by) .none kV_made_by dc_made_by pm_made_by an_made_by cd_made_by ct_made_by), sl_made_by⟩)
    (c_made_by : PySem.W.codeIn K cd_made_by "made_by" = true)
    (k_made_by : PySem.W.keepIn K (.ref f_made_by) = true)
    (a_makes : PySem.W.nsIn K mainGlobals "makes" = some (some (.ref f_makes)))
    (l_makes : K.lookup f_makes = some ⟨oc_makes, od_makes, .func (PySem.W.fnOf "makes" "makes" (defArgs s_makes) (defBody s_makes) (defScope s_makes) .none kV_makes dc_makes pm_makes an_makes cd_makes ct_makes), sl_makes⟩)
    (c_makes : PySem.W.codeIn K cd_makes "makes" = true)
    (k_makes : PySem.W.keepIn K (.ref f_makes) = true)
    (a_is_row : PySem.W.nsIn K mainGlobals "is_row" = some (some (.ref f_is_row)))
    (l_is_row : K.lookup f_is_row = some ⟨oc_is_row, od_is_row, .func (PySem.W.fnOf "is_row" "is_row" (defArgs s_is_row) (defBody s_is_row) (defScope s_is_row) .none kV_is_row dc_is_row pm_is_row an_is_row cd_is_row ct_is_row), sl_is_row⟩)
    (c_is_row : PySem.W.codeIn K cd_is_row "is_row" = true)
    (k_is_row : PySem.W.keepIn K (.ref f_is_row) = true)
    (a_need_row : PySem.W.nsIn K mainGlobals "need_row" = some (some (.ref f_need_row)))
    (l_need_row : K.lookup f_need_row = some ⟨oc_need_row, od_need_row, .func (PySem.W.fnOf "need_row" "need_row" (defArgs s_need_row) (defBody s_need_row) (defScope s_need_row) .none kV_need_row dc_need_row pm_need_row an_need_row cd_need_row ct_need_row), sl_need_row⟩)
    (c_need_row : PySem.W.codeIn K cd_need_row "need_row" = true)
    (k_need_row : PySem.W.keepIn K (.ref f_need_row) = true)
    (a_made_through : PySem.W.nsIn K mainGlobals "made_through" = some (some (.ref f_made_through)))
    (l_made_through : K.lookup f_made_through = some ⟨oc_made_through, od_made_through, .func (PySem.W.fnOf "made_through" "made_through" (defArgs s_made_through) (defBody s_made_through) (defScope s_made_through) .none kV_made_through dc_made_through pm_made_through an_made_through cd_made_through ct_made_through), sl_made_through⟩)
    (c_made_through : PySem.W.codeIn K cd_made_through "made_through" = true)
    (k_made_through : PySem.W.keepIn K (.ref f_made_through) = true)
    (a_made_in_round : PySem.W.nsIn K mainGlobals "made_in_round" = some (some (.ref f_made_in_round)))
    (l_made_in_round : K.lookup f_made_in_round = some ⟨oc_made_in_round, od_made_in_round, .func (PySem.W.fnOf "made_in_round" "made_in_round" (defArgs s_made_in_round) (defBody s_made_in_round) (defScope s_made_in_round) .none kV_made_in_round dc_made_in_round pm_made_in_round an_made_in_round cd_made_in_round ct_made_in_round), sl_made_in_round⟩)
    (c_made_in_round : PySem.W.codeIn K cd_made_in_round "made_in_round" = true)
    (k_made_in_round : PySem.W.keepIn K (.ref f_made_in_round) = true)
    (a_does_stay : PySem.W.nsIn K mainGlobals "does_stay" = some (some (.ref f_does_stay)))
    (l_does_stay : K.lookup f_does_stay = some ⟨oc_does_stay, od_does_stay, .func (PySem.W.fnOf "does_stay" "does_stay" (defArgs s_does_stay) (defBody s_does_stay) (defScope s_does_stay) .none kV_does_stay dc_does_stay pm_does_stay an_does_stay cd_does_stay ct_does_stay), sl_does_stay⟩)
    (c_does_stay : PySem.W.codeIn K cd_does_stay "does_stay" = true)
    (k_does_stay : PySem.W.keepIn K (.ref f_does_stay) = true)
    (a_settles : PySem.W.nsIn K mainGlobals "settles" = some (some (.ref f_settles)))
    (l_settles : K.lookup f_settles = some ⟨oc_settles, od_settles, .func (PySem.W.fnOf "settles" "settles" (defArgs s_settles) (defBody s_settles) (defScope s_settles) .none kV_settles dc_settles pm_settles an_settles cd_settles ct_settles), sl_settles⟩)
    (c_settles : PySem.W.codeIn K cd_settles "settles" = true)
    (k_settles : PySem.W.keepIn K (.ref f_settles) = true)
    (a_turned : PySem.W.nsIn K mainGlobals "turned" = some (some (.ref f_turned)))
    (l_turned : K.lookup f_turned = some ⟨oc_turned, od_turned, .func (PySem.W.fnOf "turned" "turned" (defArgs s_turned) (defBody s_turned) (defScope s_turned) .none kV_turned dc_turned pm_turned an_turned cd_turned ct_turned), sl_turned⟩)
    (c_turned : PySem.W.codeIn K cd_turned "turned" = true)
    (k_turned : PySem.W.keepIn K (.ref f_turned) = true)
    (a_stays_turned : PySem.W.nsIn K mainGlobals "stays_turned" = some (some (.ref f_stays_turned)))
    (l_stays_turned : K.lookup f_stays_turned = some ⟨oc_stays_turned, od_stays_turned, .func (PySem.W.fnOf "stays_turned" "stays_turned" (defArgs s_stays_turned) (defBody s_stays_turned) (defScope s_stays_turned) .none kV_stays_turned dc_stays_turned pm_stays_turned an_stays_turned cd_stays_turned ct_stays_turned), sl_stays_turned⟩)
    (c_stays_turned : PySem.W.codeIn K cd_stays_turned "stays_turned" = true)
    (k_stays_turned : PySem.W.keepIn K (.ref f_stays_turned) = true)
    (a__law_deck : PySem.W.nsIn K mainGlobals "_law_deck" = some (some (.ref f__law_deck)))
    (l__law_deck : K.lookup f__law_deck = some ⟨oc__law_deck, od__law_deck, .func (PySem.W.fnOf "_law_deck" "_law_deck" (defArgs s__law_deck) (defBody s__law_deck) (defScope s__law_deck) .none kV__law_deck dc__law_deck pm__law_deck an__law_deck cd__law_deck ct__law_deck), sl__law_deck⟩)
    (c__law_deck : PySem.W.codeIn K cd__law_deck "_law_deck" = true)
    (k__law_deck : PySem.W.keepIn K (.ref f__law_deck) = true)
    (a__law_draw : PySem.W.nsIn K mainGlobals "_law_draw" = some (some (.ref f__law_draw)))
    (l__law_draw : K.lookup f__law_draw = some ⟨oc__law_draw, od__law_draw, .func (PySem.W.fnOf "_law_draw" "_law_draw" (defArgs s__law_draw) (defBody s__law_draw) (defScope s__law_draw) .none kV__law_draw dc__law_draw pm__law_draw an__law_draw cd__law_draw ct__law_draw), sl__law_draw⟩)
    (c__law_draw : PySem.W.codeIn K cd__law_draw "_law_draw" = true)
    (k__law_draw : PySem.W.keepIn K (.ref f__law_draw) = true)
    (a__law_lenience : PySem.W.nsIn K mainGlobals "_law_lenience" = some (some (.ref f__law_lenience)))
    (l__law_lenience : K.lookup f__law_lenience = some ⟨oc__law_lenience, od__law_lenience, .func (PySem.W.fnOf "_law_lenience" "_law_lenience" (defArgs s__law_lenience) (defBody s__law_lenience) (defScope s__law_lenience) .none kV__law_lenience dc__law_lenience pm__law_lenience an__law_lenience cd__law_lenience ct__law_lenience), sl__law_lenience⟩)
    (c__law_lenience : PySem.W.codeIn K cd__law_lenience "_law_lenience" = true)
    (k__law_lenience : PySem.W.keepIn K (.ref f__law_lenience) = true)
    (a__law_near_team : PySem.W.nsIn K mainGlobals "_law_near_team" = some (some (.ref f__law_near_team)))
    (l__law_near_team : K.lookup f__law_near_team = some ⟨oc__law_near_team, od__law_near_team, .func (PySem.W.fnOf "_law_near_team" "_law_near_team" (defArgs s__law_near_team) (defBody s__law_near_team) (defScope s__law_near_team) .none kV__law_near_team dc__law_near_team pm__law_near_team an__law_near_team cd__law_near_team ct__law_near_team), sl__law_near_team⟩)
    (c__law_near_team : PySem.W.codeIn K cd__law_near_team "_law_near_team" = true)
    (k__law_near_team : PySem.W.keepIn K (.ref f__law_near_team) = true)
    (a__law_far_team : PySem.W.nsIn K mainGlobals "_law_far_team" = some (some (.ref f__law_far_team)))
    (l__law_far_team : K.lookup f__law_far_team = some ⟨oc__law_far_team, od__law_far_team, .func (PySem.W.fnOf "_law_far_team" "_law_far_team" (defArgs s__law_far_team) (defBody s__law_far_team) (defScope s__law_far_team) .none kV__law_far_team dc__law_far_team pm__law_far_team an__law_far_team cd__law_far_team ct__law_far_team), sl__law_far_team⟩)
    (c__law_far_team : PySem.W.codeIn K cd__law_far_team "_law_far_team" = true)
    (k__law_far_team : PySem.W.keepIn K (.ref f__law_far_team) = true)
    (a__law_round : PySem.W.nsIn K mainGlobals "_law_round" = some (some (.ref f__law_round)))
    (l__law_round : K.lookup f__law_round = some ⟨oc__law_round, od__law_round, .func (PySem.W.fnOf "_law_round" "_law_round" (defArgs s__law_round) (defBody s__law_round) (defScope s__law_round) .none kV__law_round dc__law_round pm__law_round an__law_round cd__law_round ct__law_round), sl__law_round⟩)
    (c__law_round : PySem.W.codeIn K cd__law_round "_law_round" = true)
    (k__law_round : PySem.W.keepIn K (.ref f__law_round) = true)
    (a__law_ways_right : PySem.W.nsIn K mainGlobals "_law_ways_right" = some (some (.ref f__law_ways_right)))
    (l__law_ways_right : K.lookup f__law_ways_right = some ⟨oc__law_ways_right, od__law_ways_right, .func (PySem.W.fnOf "_law_ways_right" "_law_ways_right" (defArgs s__law_ways_right) (defBody s__law_ways_right) (defScope s__law_ways_right) .none kV__law_ways_right dc__law_ways_right pm__law_ways_right an__law_ways_right cd__law_ways_right ct__law_ways_right), sl__law_ways_right⟩)
    (c__law_ways_right : PySem.W.codeIn K cd__law_ways_right "_law_ways_right" = true)
    (k__law_ways_right : PySem.W.keepIn K (.ref f__law_ways_right) = true)
    (a__law_round_right : PySem.W.nsIn K mainGlobals "_law_round_right" = some (some (.ref f__law_round_right)))
    (l__law_round_right : K.lookup f__law_round_right = some ⟨oc__law_round_right, od__law_round_right, .func (PySem.W.fnOf "_law_round_right" "_law_round_right" (defArgs s__law_round_right) (defBody s__law_round_right) (defScope s__law_round_right) .none kV__law_round_right dc__law_round_right pm__law_round_right an__law_round_right cd__law_round_right ct__law_round_right), sl__law_round_right⟩)
    (c__law_round_right : PySem.W.codeIn K cd__law_round_right "_law_round_right" = true)
    (k__law_round_right : PySem.W.keepIn K (.ref f__law_round_right) = true)
    (a_law : PySem.W.nsIn K mainGlobals "law" = some (some (.ref f_law)))
    (l_law : K.lookup f_law = some ⟨oc_law, od_law, .func (PySem.W.fnOf "law" "law" (defArgs s_law) (defBody s_law) (defScope s_law) .none kV_law dc_law pm_law an_law cd_law ct_law), sl_law⟩)
    (c_law : PySem.W.codeIn K cd_law "law" = true)
    (k_law : PySem.W.keepIn K (.ref f_law) = true)
    : ∃ fd : FuncData, (∀ (s : Shared) (v : Value), BindsTo s fd ⟨[v], []⟩ [("_law_script", v)]) ∧ ∀ base : Heap, K.In base → base.Ns mainGlobals mg → FnOk P w K mg base CX0 7 fa fd ["_law_script"] (sp_law K) := by
  have e := hfa.symm.trans (PySem.W.mg_of X G a_law)
  cases e
  have F_is_whole := fun_mk (st := s_is_whole) l_is_whole c_is_whole k_is_whole
  have F_need_amount := fun_mk (st := s_need_amount) l_need_amount c_need_amount k_need_amount
  have F_is_clerk := fun_mk (st := s_is_clerk) l_is_clerk c_is_clerk k_is_clerk
  have F_need_clerk := fun_mk (st := s_need_clerk) l_need_clerk c_need_clerk k_need_clerk
  have F_made_by := fun_mk (st := s_made_by) l_made_by c_made_by k_made_by
  have F_makes := fun_mk (st := s_makes) l_makes c_makes k_makes
  have F_is_row := fun_mk (st := s_is_row) l_is_row c_is_row k_is_row
  have F_need_row := fun_mk (st := s_need_row) l_need_row c_need_row k_need_row
  have F_made_through := fun_mk (st := s_made_through) l_made_through c_made_through k_made_through
  have F_made_in_round := fun_mk (st := s_made_in_round) l_made_in_round c_made_in_round k_made_in_round
  have F_does_stay := fun_mk (st := s_does_stay) l_does_stay c_does_stay k_does_stay
  have F_settles := fun_mk (st := s_settles) l_settles c_settles k_settles
  have F_turned := fun_mk (st := s_turned) l_turned c_turned k_turned
  have F_stays_turned := fun_mk (st := s_stays_turned) l_stays_turned c_stays_turned k_stays_turned
  have F__law_deck := fun_mk (st := s__law_deck) l__law_deck c__law_deck k__law_deck
  have F__law_draw := fun_mk (st := s__law_draw) l__law_draw c__law_draw k__law_draw
  have F__law_lenience := fun_mk (st := s__law_lenience) l__law_lenience c__law_lenience k__law_lenience
  have F__law_near_team := fun_mk (st := s__law_near_team) l__law_near_team c__law_near_team k__law_near_team
  have F__law_far_team := fun_mk (st := s__law_far_team) l__law_far_team c__law_far_team k__law_far_team
  have F__law_round := fun_mk (st := s__law_round) l__law_round c__law_round k__law_round
  have F__law_ways_right := fun_mk (st := s__law_ways_right) l__law_ways_right c__law_ways_right k__law_ways_right
  have F__law_round_right := fun_mk (st := s__law_round_right) l__law_round_right c__law_round_right k__law_round_right
  have F_law := fun_mk (st := s_law) l_law c_law k_law
  obtain ⟨t_MOST_AMOUNT, n_MOST_AMOUNT⟩ := m_MOST_AMOUNT
  obtain ⟨t_MOST_COIN, n_MOST_COIN⟩ := m_MOST_COIN
  let T : Tx K mg := {
    z_all := PySem.W.mg_none_of X G z_all,
    z_bool := PySem.W.mg_none_of X G z_bool,
    z_int := PySem.W.mg_none_of X G z_int,
    z_isinstance := PySem.W.mg_none_of X G z_isinstance,
    z_len := PySem.W.mg_none_of X G z_len,
    z_list := PySem.W.mg_none_of X G z_list,
    z_max := PySem.W.mg_none_of X G z_max,
    z_min := PySem.W.mg_none_of X G z_min,
    z_range := PySem.W.mg_none_of X G z_range,
    z_tuple := PySem.W.mg_none_of X G z_tuple,
    t_MOST_AMOUNT := t_MOST_AMOUNT,
    m_MOST_AMOUNT := n_MOST_AMOUNT,
    t_MOST_COIN := t_MOST_COIN,
    m_MOST_COIN := n_MOST_COIN,
    t_MOST_CLERKS := _,
    m_MOST_CLERKS := PySem.W.mg_of X G m_MOST_CLERKS,
    t_MOST_ROUNDS := _,
    m_MOST_ROUNDS := PySem.W.mg_of X G m_MOST_ROUNDS,
    c_TooFar := c_TooFar,
    g_TooFar := PySem.W.mg_of X G g_TooFar,
    x_TooFar := x_TooFar,
    kc_TooFar := kc_TooFar,
    be_TooFar := be_TooFar,
    ty_TooFar := ty_TooFar,
    ic_TooFar := ic_TooFar,
    su_TooFar := su_TooFar,
    f_is_whole := _,
    fd_is_whole := _,
    F_is_whole := F_is_whole,
    g_is_whole := PySem.W.mg_of X G a_is_whole,
    b_is_whole := F_is_whole.binds (ps := P_is_whole) fun _ _ _ _ _ _ us hl => match us, hl with | [_, _, _], _ => rfl,
    f_need_amount := _,
    fd_need_amount := _,
    F_need_amount := F_need_amount,
    g_need_amount := PySem.W.mg_of X G a_need_amount,
    b_need_amount := F_need_amount.binds (ps := P_need_amount) fun _ _ _ _ _ _ us hl => match us, hl with | [_], _ => rfl,
    f_is_clerk := _,
    fd_is_clerk := _,
    F_is_clerk := F_is_clerk,
    g_is_clerk := PySem.W.mg_of X G a_is_clerk,
    b_is_clerk := F_is_clerk.binds (ps := P_is_clerk) fun _ _ _ _ _ _ us hl => match us, hl with | [_], _ => rfl,
    f_need_clerk := _,
    fd_need_clerk := _,
    F_need_clerk := F_need_clerk,
    g_need_clerk := PySem.W.mg_of X G a_need_clerk,
    b_need_clerk := F_need_clerk.binds (ps := P_need_clerk) fun _ _ _ _ _ _ us hl => match us, hl with | [_], _ => rfl,
    f_made_by := _,
    fd_made_by := _,
    F_made_by := F_made_by,
    g_made_by := PySem.W.mg_of X G a_made_by,
    b_made_by := F_made_by.binds (ps := P_made_by) fun _ _ _ _ _ _ us hl => match us, hl with | [_, _], _ => rfl,
    f_makes := _,
    fd_makes := _,
    F_makes := F_makes,
    g_makes := PySem.W.mg_of X G a_makes,
    b_makes := F_makes.binds (ps := P_makes) fun _ _ _ _ _ _ us hl => match us, hl with | [_, _], _ => rfl,
    f_is_row := _,
    fd_is_row := _,
    F_is_row := F_is_row,
    g_is_row := PySem.W.mg_of X G a_is_row,
    b_is_row := F_is_row.binds (ps := P_is_row) fun _ _ _ _ _ _ us hl => match us, hl with | [_], _ => rfl,
    f_need_row := _,
    fd_need_row := _,
    F_need_row := F_need_row,
    g_need_row := PySem.W.mg_of X G a_need_row,
    b_need_row := F_need_row.binds (ps := P_need_row) fun _ _ _ _ _ _ us hl => match us, hl with | [_], _ => rfl,
    f_made_through := _,
    fd_made_through := _,
    F_made_through := F_made_through,
    g_made_through := PySem.W.mg_of X G a_made_through,
    b_made_through := F_made_through.binds (ps := P_made_through) fun _ _ _ _ _ _ us hl => match us, hl with | [_, _], _ => rfl,
    f_made_in_round := _,
    fd_made_in_round := _,
    F_made_in_round := F_made_in_round,
    g_made_in_round := PySem.W.mg_of X G a_made_in_round,
    b_made_in_round := F_made_in_round.binds (ps := P_made_in_round) fun _ _ _ _ _ _ us hl => match us, hl with | [_, _], _ => rfl,
    f_does_stay := _,
    fd_does_stay := _,
    F_does_stay := F_does_stay,
    g_does_stay := PySem.W.mg_of X G a_does_stay,
    b_does_stay := F_does_stay.binds (ps := P_does_stay) fun _ _ _ _ _ _ us hl => match us, hl with | [_, _], _ => rfl,
    f_settles := _,
    fd_settles := _,
    F_settles := F_settles,
    g_settles := PySem.W.mg_of X G a_settles,
    b_settles := F_settles.binds (ps := P_settles) fun _ _ _ _ _ _ us hl => match us, hl with | [_, _], _ => rfl,
    f_turned := _,
    fd_turned := _,
    F_turned := F_turned,
    g_turned := PySem.W.mg_of X G a_turned,
    b_turned := F_turned.binds (ps := P_turned) fun _ _ _ _ _ _ us hl => match us, hl with | [_], _ => rfl,
    f_stays_turned := _,
    fd_stays_turned := _,
    F_stays_turned := F_stays_turned,
    g_stays_turned := PySem.W.mg_of X G a_stays_turned,
    b_stays_turned := F_stays_turned.binds (ps := P_stays_turned) fun _ _ _ _ _ _ us hl => match us, hl with | [_, _], _ => rfl,
    f__law_deck := _,
    fd__law_deck := _,
    F__law_deck := F__law_deck,
    g__law_deck := PySem.W.mg_of X G a__law_deck,
    b__law_deck := F__law_deck.binds (ps := P__law_deck) fun _ _ _ _ _ _ us hl => match us, hl with | [_], _ => rfl,
    f__law_draw := _,
    fd__law_draw := _,
    F__law_draw := F__law_draw,
    g__law_draw := PySem.W.mg_of X G a__law_draw,
    b__law_draw := F__law_draw.binds (ps := P__law_draw) fun _ _ _ _ _ _ us hl => match us, hl with | [_, _], _ => rfl,
    f__law_lenience := _,
    fd__law_lenience := _,
    F__law_lenience := F__law_lenience,
    g__law_lenience := PySem.W.mg_of X G a__law_lenience,
    b__law_lenience := F__law_lenience.binds (ps := P__law_lenience) fun _ _ _ _ _ _ us hl => match us, hl with | [_, _], _ => rfl,
    f__law_near_team := _,
    fd__law_near_team := _,
    F__law_near_team := F__law_near_team,
    g__law_near_team := PySem.W.mg_of X G a__law_near_team,
    b__law_near_team := F__law_near_team.binds (ps := P__law_near_team) fun _ _ _ _ _ _ us hl => match us, hl with | [_, _], _ => rfl,
    f__law_far_team := _,
    fd__law_far_team := _,
    F__law_far_team := F__law_far_team,
    g__law_far_team := PySem.W.mg_of X G a__law_far_team,
    b__law_far_team := F__law_far_team.binds (ps := P__law_far_team) fun _ _ _ _ _ _ us hl => match us, hl with | [_, _], _ => rfl,
    f__law_round := _,
    fd__law_round := _,
    F__law_round := F__law_round,
    g__law_round := PySem.W.mg_of X G a__law_round,
    b__law_round := F__law_round.binds (ps := P__law_round) fun _ _ _ _ _ _ us hl => match us, hl with | [_, _], _ => rfl,
    f__law_ways_right := _,
    fd__law_ways_right := _,
    F__law_ways_right := F__law_ways_right,
    g__law_ways_right := PySem.W.mg_of X G a__law_ways_right,
    b__law_ways_right := F__law_ways_right.binds (ps := P__law_ways_right) fun _ _ _ _ _ _ us hl => match us, hl with | [_, _], _ => rfl,
    f__law_round_right := _,
    fd__law_round_right := _,
    F__law_round_right := F__law_round_right,
    g__law_round_right := PySem.W.mg_of X G a__law_round_right,
    b__law_round_right := F__law_round_right.binds (ps := P__law_round_right) fun _ _ _ _ _ _ us hl => match us, hl with | [_, _], _ => rfl,
    f_law := _,
    fd_law := _,
    F_law := F_law,
    g_law := PySem.W.mg_of X G a_law,
    b_law := F_law.binds (ps := P_law) fun _ _ _ _ _ _ us hl => match us, hl with | [_], _ => rfl
  }
  exact ⟨PySem.W.fnOf "law" "law" (defArgs s_law) (defBody s_law) (defScope s_law) .none kV_law dc_law pm_law an_law cd_law ct_law, fun s v => .of_eq rfl, fun base _ _ => ok_law T⟩
end Rc
open PySem PySem.W PyProof.Rows
set_option maxHeartbeats 0 in
theorem PySem.Challenge.cw_roundclerks_k67_whole_turned_ways_holds : PySem.Challenge.rw_roundclerks_k67_whole_turned_ways.Holds := by
  w_on; o_law; k_head; (case hw => w_witness2)
  k_fill
  refine Rc.walk_ofX (l := PySem.Challenge.rw_roundclerks_k67_whole_turned_ways) (n := 63) (k := 7) (x := "_law_script") (CX := fun _ => L2.CX0) (sp := fun w => Rc.sp_law _) rfl (by decide) rfl ⟨rfl, by decide, by decide⟩ (fun w h Y => PySem.W.kIn_of Y) ?F (fun _ _ a ns hl hb hS => ⟨a, ns, rfl, hS, hl, fun _ => rfl⟩) (fun _ _ _ _ _ h => h)
  case F =>
    intro w mg fa h hX KX G hmg
    refine' Rc.all_mk KX G hmg ?z_all ?z_bool ?z_int ?z_isinstance ?z_len ?z_list ?z_max ?z_min ?z_range ?z_tuple ?m_MOST_AMOUNT ?m_MOST_COIN ?m_MOST_CLERKS ?m_MOST_ROUNDS ?g_TooFar ?x_TooFar ?kc_TooFar ?be_TooFar ?ty_TooFar ?ic_TooFar ?su_TooFar ?a_is_whole ?l_is_whole ?c_is_whole ?k_is_whole ?a_need_amount ?l_need_amount ?c_need_amount ?k_need_amount ?a_is_clerk ?l_is_clerk ?c_is_clerk ?k_is_clerk ?a_need_clerk ?l_need_clerk ?c_need_clerk ?k_need_clerk ?a_made_by ?l_made_by ?c_made_by ?k_made_by ?a_makes ?l_makes ?c_makes ?k_makes ?a_is_row ?l_is_row ?c_is_row ?k_is_row ?a_need_row ?l_need_row ?c_need_row ?k_need_row ?a_made_through ?l_made_through ?c_made_through ?k_made_through ?a_made_in_round ?l_made_in_round ?c_made_in_round ?k_made_in_round ?a_does_stay ?l_does_stay ?c_does_stay ?k_does_stay ?a_settles ?l_settles ?c_settles ?k_settles ?a_turned ?l_turned ?c_turned ?k_turned ?a_stays_turned ?l_stays_turned ?c_stays_turned ?k_stays_turned ?a__law_deck ?l__law_deck ?c__law_deck ?k__law_deck ?a__law_draw ?l__law_draw ?c__law_draw ?k__law_draw ?a__law_lenience ?l__law_lenience ?c__law_lenience ?k__law_lenience ?a__law_near_team ?l__law_near_team ?c__law_near_team ?k__law_near_team ?a__law_far_team ?l__law_far_team ?c__law_far_team ?k__law_far_team ?a__law_round ?l__law_round ?c__law_round ?k__law_round ?a__law_ways_right ?l__law_ways_right ?c__law_ways_right ?k__law_ways_right ?a__law_round_right ?l__law_round_right ?c__law_round_right ?k__law_round_right ?a_law ?l_law ?c_law ?k_law
    (case z_all => k_is)
    (case z_bool => k_is)
    (case z_int => k_is)
    (case z_isinstance => k_is)
    (case z_len => k_is)
    (case z_list => k_is)
    (case z_max => k_is)
    (case z_min => k_is)
    (case z_range => k_is)
    (case z_tuple => k_is)
    (case m_MOST_AMOUNT => obtain ⟨v, e1, e2⟩ := hX.2.val ("MOST_AMOUNT", .int 1000000000000000000000000000000) (by repeat (first | exact List.Mem.head _ | apply List.Mem.tail)); obtain ⟨t, e3⟩ := Rc.int_of e2; exact ⟨t, by rw [← e3]; exact e1⟩)
    (case m_MOST_COIN => obtain ⟨v, e1, e2⟩ := hX.2.val ("MOST_COIN", .int 1000000000000000) (by repeat (first | exact List.Mem.head _ | apply List.Mem.tail)); obtain ⟨t, e3⟩ := Rc.int_of e2; exact ⟨t, by rw [← e3]; exact e1⟩)
    (case m_MOST_CLERKS => k_is)
    (case m_MOST_ROUNDS => k_is)
    (case g_TooFar => k_is)
    (case x_TooFar => k_exc)
    (case kc_TooFar => k_is)
    (case be_TooFar => k_is)
    (case ty_TooFar => k_is)
    (case ic_TooFar => k_is)
    (case su_TooFar => first | rfl | k_is)
    (case a_is_whole => k_is)
    (case l_is_whole => k_is)
    (case c_is_whole => k_is)
    (case k_is_whole => k_is)
    (case a_need_amount => k_is)
    (case l_need_amount => k_is)
    (case c_need_amount => k_is)
    (case k_need_amount => k_is)
    (case a_is_clerk => k_is)
    (case l_is_clerk => k_is)
    (case c_is_clerk => k_is)
    (case k_is_clerk => k_is)
    (case a_need_clerk => k_is)
    (case l_need_clerk => k_is)
    (case c_need_clerk => k_is)
    (case k_need_clerk => k_is)
    (case a_made_by => k_is)
    (case l_made_by => k_is)
    (case c_made_by => k_is)
    (case k_made_by => k_is)
    (case a_makes => k_is)
    (case l_makes => k_is)
    (case c_makes => k_is)
    (case k_makes => k_is)
    (case a_is_row => k_is)
    (case l_is_row => k_is)
    (case c_is_row => k_is)
    (case k_is_row => k_is)
    (case a_need_row => k_is)
    (case l_need_row => k_is)
    (case c_need_row => k_is)
    (case k_need_row => k_is)
    (case a_made_through => k_is)
    (case l_made_through => k_is)
    (case c_made_through => k_is)
    (case k_made_through => k_is)
    (case a_made_in_round => k_is)
    (case l_made_in_round => k_is)
    (case c_made_in_round => k_is)
    (case k_made_in_round => k_is)
    (case a_does_stay => k_is)
    (case l_does_stay => k_is)
    (case c_does_stay => k_is)
    (case k_does_stay => k_is)
    (case a_settles => k_is)
    (case l_settles => k_is)
    (case c_settles => k_is)
    (case k_settles => k_is)
    (case a_turned => k_is)
    (case l_turned => k_is)
    (case c_turned => k_is)
    (case k_turned => k_is)
    (case a_stays_turned => k_is)
    (case l_stays_turned => k_is)
    (case c_stays_turned => k_is)
    (case k_stays_turned => k_is)
    (case a__law_deck => k_is)
    (case l__law_deck => k_is)
    (case c__law_deck => k_is)
    (case k__law_deck => k_is)
    (case a__law_draw => k_is)
    (case l__law_draw => k_is)
    (case c__law_draw => k_is)
    (case k__law_draw => k_is)
    (case a__law_lenience => k_is)
    (case l__law_lenience => k_is)
    (case c__law_lenience => k_is)
    (case k__law_lenience => k_is)
    (case a__law_near_team => k_is)
    (case l__law_near_team => k_is)
    (case c__law_near_team => k_is)
    (case k__law_near_team => k_is)
    (case a__law_far_team => k_is)
    (case l__law_far_team => k_is)
    (case c__law_far_team => k_is)
    (case k__law_far_team => k_is)
    (case a__law_round => k_is)
    (case l__law_round => k_is)
    (case c__law_round => k_is)
    (case k__law_round => k_is)
    (case a__law_ways_right => k_is)
    (case l__law_ways_right => k_is)
    (case c__law_ways_right => k_is)
    (case k__law_ways_right => k_is)
    (case a__law_round_right => k_is)
    (case l__law_round_right => k_is)
    (case c__law_round_right => k_is)
    (case k__law_round_right => k_is)
    (case a_law => k_is)
    (case l_law => k_is)
    (case c_law => k_is)
    (case k_law => k_is)
