import PyProof.Rows.All
import Wide.All
import OpenK.AllK
import Wide.FinOn
import HandS.ForMost
import HandS.TupMul
import HandS.GenList
import HandS.IsInst
import HandS.TupAny
import HandS.Wide
import HandS.Conv
import HandS.EndBits
import PyProof.ReprRoads
import HandS.Style
import HandS.Walk
import PySem.Challenge.RW_weandthey_k28_whole_programs_written_oth
set_option Elab.async false
set_option linter.all false
set_option maxRecDepth 100000
set_option maxHeartbeats 8000000
/-! K28M: the plain law: programs, their trees, and what writing them otherwise does to these. -/
namespace K28
open PySem
inductive Ex where
  | num (i : Int) | nm (x : Str) | plus (a b : Ex) | minus (a b : Ex) | times (k : Int) (e : Ex)
inductive Ts where
  | less (a b : Ex) | rest (e : Ex) (m r : Int) | no (t : Ts)
inductive Sm where
  | set (x : Str) (e : Ex) | pay (e : Ex) | stop
  | ite (t : Ts) (y n : List Sm) | ch (w : Bool) (a b : List Sm) | rep (k : Nat) (b : List Sm)
abbrev Nu := Str → Int
def put (nu : Nu) (x : Str) (v : Int) : Nu := fun y => if y = x then v else nu y
def ev (nu : Nu) : Ex → Int
  | .num i => i
  | .nm x => nu x
  | .plus a b => ev nu a + ev nu b
  | .minus a b => ev nu a - ev nu b
  | .times k e => k * ev nu e
def tv (nu : Nu) : Ts → Bool
  | .less a b => decide (ev nu a < ev nu b)
  | .rest e m r => decide (ev nu e % m = r)
  | .no t => !tv nu t
inductive Tr where
  | leaf (z : Int) | node (w : Bool) (a b : Tr)
abbrev Kn := Nu → Int → Tr
def itr (f : Kn → Kn) : Nat → Kn → Kn
  | 0, k => k
  | n + 1, k => f (itr f n k)
mutual
def trS : Sm → Kn → Kn
  | .set x e, k => fun nu z => k (put nu x (ev nu e)) z
  | .pay e, k => fun nu z => k nu (z + ev nu e)
  | .stop, _ => fun _ z => .leaf z
  | .ite t y n, k => fun nu z => if tv nu t then trB y k nu z else trB n k nu z
  | .ch w a b, k => fun nu z => .node w (trB a k nu z) (trB b k nu z)
  | .rep m b, k => itr (trB b) m k
def trB : List Sm → Kn → Kn
  | [], k => k
  | s :: r, k => trS s (trB r k)
end
def nu0 (n : Int) : Nu := fun x => if x = "n" then n else 0
def tree (p : List Sm) (n : Int) : Tr := trB p (fun _ z => .leaf z) (nu0 n) 0
theorem trB_append (k : Kn) : ∀ a b : List Sm, trB (a ++ b) k = trB a (trB b k)
  | [], b => by rw [List.nil_append, trB]
  | s :: r, b => by rw [List.cons_append, trB, trB, trB_append k r b]
/-! ### what is well formed -/
def ExOk (P : Str → Prop) : Nat → Ex → Prop
  | 0, _ => False
  | _ + 1, .num i => -99 ≤ i ∧ i ≤ 99
  | _ + 1, .nm x => P x
  | d + 1, .plus a b => ExOk P d a ∧ ExOk P d b
  | d + 1, .minus a b => ExOk P d a ∧ ExOk P d b
  | d + 1, .times k e => (-9 ≤ k ∧ k ≤ 9) ∧ ExOk P d e
def TsOk (P : Str → Prop) : Nat → Ts → Prop
  | _, .less a b => ExOk P 3 a ∧ ExOk P 3 b
  | _, .rest e m r => ExOk P 3 e ∧ 2 ≤ m ∧ m ≤ 6 ∧ 0 ≤ r ∧ r < m
  | 0, .no _ => False
  | d + 1, .no t => TsOk P d t
def SmOk (P : Str → Prop) : Nat → Sm → Prop
  | _, .set x e => P x ∧ ExOk P 3 e
  | _, .pay e => ExOk P 3 e
  | _, .stop => True
  | d + 1, .ite t y n => TsOk P 2 t ∧ (∀ s ∈ y, SmOk P d s) ∧ (∀ s ∈ n, SmOk P d s)
  | d + 1, .ch _ a b => (∀ s ∈ a, SmOk P d s) ∧ (∀ s ∈ b, SmOk P d s)
  | d + 1, .rep k b => (1 ≤ k ∧ k ≤ 8) ∧ (∀ s ∈ b, SmOk P d s)
  | 0, .ite _ _ _ => False
  | 0, .ch _ _ _ => False
  | 0, .rep _ _ => False
abbrev BlOk (P : Str → Prop) (d : Nat) (b : List Sm) : Prop := ∀ s ∈ b, SmOk P d s
theorem ExOk.mono {P Q : Str → Prop} (h : ∀ x, P x → Q x) : ∀ {d e : Nat} {x : Ex}, d ≤ e → ExOk P d x → ExOk Q e x
  | 0, _, _, _, q => q.elim
  | d + 1, 0, _, hd, _ => absurd hd (by omega)
  | d + 1, e + 1, .num i, _, q => q
  | d + 1, e + 1, .nm x, _, q => h _ q
  | d + 1, e + 1, .plus a b, hd, q => ⟨ExOk.mono h (by omega) q.1, ExOk.mono h (by omega) q.2⟩
  | d + 1, e + 1, .minus a b, hd, q => ⟨ExOk.mono h (by omega) q.1, ExOk.mono h (by omega) q.2⟩
  | d + 1, e + 1, .times k a, hd, q => ⟨q.1, ExOk.mono h (by omega) q.2⟩
theorem TsOk.mono {P Q : Str → Prop} (h : ∀ x, P x → Q x) : ∀ {d e : Nat} {x : Ts}, d ≤ e → TsOk P d x → TsOk Q e x
  | d, e, .less a b, _, q => by
    cases d <;> cases e <;> exact ⟨ExOk.mono h (Nat.le_refl _) q.1, ExOk.mono h (Nat.le_refl _) q.2⟩
  | d, e, .rest a m r, _, q => by
    cases d <;> cases e <;> exact ⟨ExOk.mono h (Nat.le_refl _) q.1, q.2⟩
  | 0, _, .no _, _, q => q.elim
  | d + 1, 0, .no _, hd, _ => absurd hd (by omega)
  | d + 1, e + 1, .no t, hd, q => TsOk.mono (x := t) h (by omega) q
theorem SmOk.mono {P Q : Str → Prop} (h : ∀ x, P x → Q x) : ∀ {d e : Nat} {x : Sm}, d ≤ e → SmOk P d x → SmOk Q e x
  | d, e, .set x a, _, q => by
    cases d <;> cases e <;> exact ⟨h _ q.1, ExOk.mono h (Nat.le_refl _) q.2⟩
  | d, e, .pay a, _, q => by
    cases d <;> cases e <;> exact ExOk.mono h (Nat.le_refl _) q
  | d, e, .stop, _, q => by cases e <;> trivial
  | 0, _, .ite _ _ _, _, q => q.elim
  | 0, _, .ch _ _ _, _, q => q.elim
  | 0, _, .rep _ _, _, q => q.elim
  | d + 1, 0, .ite _ _ _, hd, _ => absurd hd (by omega)
  | d + 1, 0, .ch _ _ _, hd, _ => absurd hd (by omega)
  | d + 1, 0, .rep _ _, hd, _ => absurd hd (by omega)
  | d + 1, e + 1, .ite t y n, hd, q => ⟨TsOk.mono h (Nat.le_refl _) q.1, fun s hs => SmOk.mono h (by omega) (q.2.1 s hs), fun s hs => SmOk.mono h (by omega) (q.2.2 s hs)⟩
  | d + 1, e + 1, .ch w a b, hd, q => ⟨fun s hs => SmOk.mono h (by omega) (q.1 s hs), fun s hs => SmOk.mono h (by omega) (q.2 s hs)⟩
  | d + 1, e + 1, .rep k b, hd, q => ⟨q.1, fun s hs => SmOk.mono h (by omega) (q.2 s hs)⟩
/-! ### written otherwise -/
def oE : Ex → Ex
  | .num i => .num i
  | .nm x => .nm x
  | .times k e => .times k (oE e)
  | .plus a b => .plus (oE b) (oE a)
  | .minus a b => match oE b with
    | .num i => .plus (oE a) (.num (0 - i))
    | .times k e => .plus (oE a) (.times (0 - k) e)
    | f => .minus (oE a) f
theorem ev_oE (nu : Nu) : ∀ e : Ex, ev nu (oE e) = ev nu e
  | .num i => rfl
  | .nm x => rfl
  | .times k e => by rw [oE, ev, ev, ev_oE nu e]
  | .plus a b => by rw [oE, ev, ev, ev_oE nu a, ev_oE nu b]; omega
  | .minus a b => by
    have ha := ev_oE nu a
    have hb := ev_oE nu b
    rw [oE, ev]
    cases h : oE b with
    | num i => rw [h] at hb; simp only [ev] at hb ⊢; omega
    | nm x => rw [h] at hb; simp only [ev] at hb ⊢; omega
    | plus c d => rw [h] at hb; simp only [ev] at hb ⊢; omega
    | minus c d => rw [h] at hb; simp only [ev] at hb ⊢; omega
    | times k e =>
      rw [h] at hb
      simp only [ev] at hb ⊢
      have hz : (0 - k) * ev nu e = -(k * ev nu e) := by rw [Int.zero_sub, Int.neg_mul]
      omega
theorem ok_oE {P : Str → Prop} : ∀ {d : Nat} {e : Ex}, ExOk P d e → ExOk P d (oE e)
  | 0, _, q => q.elim
  | d + 1, .num i, q => q
  | d + 1, .nm x, q => q
  | d + 1, .times k e, q => ⟨q.1, ok_oE q.2⟩
  | d + 1, .plus a b, q => ⟨ok_oE q.2, ok_oE q.1⟩
  | d + 1, .minus a b, q => by
    have ha := ok_oE q.1
    have hb := ok_oE q.2
    rw [oE]
    cases h : oE b with
    | num i =>
      rw [h] at hb
      cases d with
      | zero => exact hb.elim
      | succ d => exact ⟨ha, by have := hb.2; omega, by have := hb.1; omega⟩
    | nm x => rw [h] at hb; exact ⟨ha, hb⟩
    | plus c e => rw [h] at hb; exact ⟨ha, hb⟩
    | minus c e => rw [h] at hb; exact ⟨ha, hb⟩
    | times k e =>
      rw [h] at hb
      cases d with
      | zero => exact hb.elim
      | succ d => exact ⟨ha, ⟨by have := hb.1; omega, by have := hb.1; omega⟩, hb.2⟩
def oT : Ts → Ts
  | .no t => t
  | .rest e m r => if m = 2 then .rest (oE e) 2 (1 - r) else .no (.rest (oE e) m r)
  | .less a b => .no (.less (oE a) (oE b))
theorem tv_oT {P : Str → Prop} {d : Nat} (nu : Nu) {t : Ts} (h : TsOk P d t) : tv nu (oT t) = !tv nu t := by
  cases t with
  | no t => rw [oT, tv]; simp
  | less a b => rw [oT, tv, tv, tv, ev_oE, ev_oE]
  | rest e m r =>
    rw [oT]
    split
    · rename_i hm
      subst hm
      have h' : ExOk P 3 e ∧ (2 : Int) ≤ 2 ∧ (2 : Int) ≤ 6 ∧ 0 ≤ r ∧ r < 2 := by cases d <;> exact h
      rw [tv, tv, ev_oE]
      have hr := h'.2.2.2
      have h0 : ev nu e % 2 = 0 ∨ ev nu e % 2 = 1 := by omega
      rcases h0 with h0 | h0 <;> (rw [h0]; by_cases hz : r = 0)
      · subst hz; decide
      · have : r = 1 := by omega
        subst this; decide
      · subst hz; decide
      · have : r = 1 := by omega
        subst this; decide
    · rw [tv, tv, tv, ev_oE]
theorem ok_oT {P : Str → Prop} {t : Ts} (h : TsOk P 2 t) : TsOk P 2 (oT t) := by
  cases t with
  | no t => exact TsOk.mono (fun _ q => q) (by omega : 1 ≤ 2) h
  | less a b => exact ⟨ok_oE h.1, ok_oE h.2⟩
  | rest e m r =>
    obtain ⟨h1, h2, h3, h4, h5⟩ := (show ExOk P 3 e ∧ 2 ≤ m ∧ m ≤ 6 ∧ 0 ≤ r ∧ r < m from h)
    rw [oT]
    split
    · exact ⟨ok_oE h1, by omega, by omega, by omega, by omega⟩
    · exact ⟨ok_oE h1, h2, h3, h4, h5⟩
def oP : Ex → List Sm
  | .plus a b => [.pay (oE a), .pay (oE b)]
  | e => [.pay (oE e)]
mutual
def oS (l : Bool) : Sm → List Sm
  | .ite t y n => [.ite (oT t) (oB l n) (oB l y)]
  | .rep k b => if l then (List.replicate k (oB l b)).flatten else [.rep k (oB l b)]
  | .ch w a b => [.ch w (oB l a) (oB l b)]
  | .pay e => oP e
  | .set x e => [.set x (oE e)]
  | .stop => [.stop]
def oB (l : Bool) : List Sm → List Sm
  | [] => []
  | s :: r => oS l s ++ oB l r
end
theorem trB_one (s : Sm) (k : Kn) : trB [s] k = trS s k := by rw [trB, trB]
theorem trB_oP (e : Ex) (k : Kn) : trB (oP e) k = trS (.pay e) k := by
  have one : ∀ f : Ex, (∀ nu, ev nu f = ev nu e) → trB [.pay f] k = trS (.pay e) k := fun f h => by
    rw [trB_one, trS, trS]
    funext nu z
    rw [h]
  cases e with
  | plus a b =>
    simp only [oP, trB, trS]
    funext nu z
    rw [ev_oE, ev_oE, ev, Int.add_assoc]
  | num i => exact one _ fun nu => ev_oE nu _
  | nm x => exact one _ fun nu => ev_oE nu _
  | minus a b => exact one _ fun nu => ev_oE nu _
  | times q a => exact one _ fun nu => ev_oE nu _
theorem trB_repl (b : List Sm) (k : Kn) : ∀ n : Nat, trB (List.replicate n b).flatten k = itr (trB b) n k
  | 0 => by rw [List.replicate_zero, List.flatten_nil, trB, itr]
  | n + 1 => by rw [List.replicate_succ, List.flatten_cons, trB_append, trB_repl b k n, itr]
theorem itr_congr {f g : Kn → Kn} (h : ∀ k, f k = g k) : ∀ (n : Nat) (k : Kn), itr f n k = itr g n k
  | 0, _ => rfl
  | n + 1, k => by rw [itr, itr, itr_congr h n k, h]
theorem trB_cons_congr {P : Str → Prop} {d : Nat} {l : Bool} (h : ∀ s, SmOk P d s → ∀ k, trB (oS l s) k = trS s k) : ∀ (b : List Sm), BlOk P d b → ∀ k, trB (oB l b) k = trB b k
  | [], _, k => by rw [oB]
  | s :: r, hb, k => by
    rw [oB, trB_append, trB_cons_congr h r (fun x hx => hb x (List.mem_cons_of_mem _ hx)) k, trB, h s (hb s List.mem_cons_self)]
theorem trS_oS {P : Str → Prop} (l : Bool) : ∀ (d : Nat) (s : Sm), SmOk P d s → ∀ k, trB (oS l s) k = trS s k
  | d, .set x e, _, k => by
    rw [oS, trB_one, trS, trS]
    funext nu z
    rw [ev_oE]
  | d, .pay e, _, k => by rw [oS, trB_oP]
  | d, .stop, _, k => by rw [oS, trB_one]
  | 0, .ite _ _ _, q, _ => q.elim
  | 0, .ch _ _ _, q, _ => q.elim
  | 0, .rep _ _, q, _ => q.elim
  | d + 1, .ite t y n, q, k => by
    rw [oS, trB_one, trS, trS]
    funext nu z
    rw [tv_oT nu q.1, trB_cons_congr (trS_oS l d) y q.2.1, trB_cons_congr (trS_oS l d) n q.2.2]
    cases tv nu t <;> rfl
  | d + 1, .ch w a b, q, k => by
    rw [oS, trB_one, trS, trS, trB_cons_congr (trS_oS l d) a q.1, trB_cons_congr (trS_oS l d) b q.2]
  | d + 1, .rep m b, q, k => by
    have e := trB_cons_congr (trS_oS l d) b q.2
    rw [oS, trS]
    split
    · rw [trB_repl, itr_congr e]
    · rw [trB_one, trS, itr_congr e]
theorem trB_oB {P : Str → Prop} {l : Bool} {d : Nat} {b : List Sm} (h : BlOk P d b) (k : Kn) : trB (oB l b) k = trB b k := trB_cons_congr (trS_oS l d) b h k
theorem tree_oB {P : Str → Prop} {l : Bool} {d : Nat} {b : List Sm} (h : BlOk P d b) (n : Int) : tree (oB l b) n = tree b n := by rw [tree, tree, trB_oB h]
theorem ok_oP {P : Str → Prop} {d : Nat} {e : Ex} (h : ExOk P 3 e) : BlOk P d (oP e) := by
  have one : ∀ f : Ex, ExOk P 3 f → BlOk P d [Sm.pay f] := fun f hf s hs => by
    rw [List.mem_singleton] at hs
    subst hs
    cases d <;> exact hf
  cases e with
  | plus a b =>
    have ha : ExOk P 3 a := ExOk.mono (fun _ q => q) (by omega : 2 ≤ 3) h.1
    have hb : ExOk P 3 b := ExOk.mono (fun _ q => q) (by omega : 2 ≤ 3) h.2
    intro s hs
    rw [oP] at hs
    rcases List.mem_cons.mp hs with rfl | hs
    · cases d <;> exact ok_oE ha
    · exact one _ (ok_oE hb) s hs
  | num i => exact one _ (ok_oE h)
  | nm x => exact one _ (ok_oE h)
  | minus a b => exact one _ (ok_oE h)
  | times q a => exact one _ (ok_oE h)
theorem ok_oB_of {P : Str → Prop} {l : Bool} {d : Nat} (h : ∀ s, SmOk P d s → BlOk P d (oS l s)) : ∀ b : List Sm, BlOk P d b → BlOk P d (oB l b)
  | [], _ => by rw [oB]; exact fun s hs => nomatch hs
  | s :: r, hb => by
    rw [oB]
    intro x hx
    rcases List.mem_append.mp hx with hx | hx
    · exact h s (hb s List.mem_cons_self) x hx
    · exact ok_oB_of h r (fun y hy => hb y (List.mem_cons_of_mem _ hy)) x hx
theorem ok_oS {P : Str → Prop} (l : Bool) : ∀ (d : Nat) (s : Sm), SmOk P d s → BlOk P d (oS l s)
  | d, .set x e, q => by
    rw [oS]
    intro s hs
    rw [List.mem_singleton] at hs
    subst hs
    cases d <;> exact ⟨q.1, ok_oE q.2⟩
  | d, .pay e, q => by
    rw [oS]
    exact ok_oP (by cases d <;> exact q)
  | d, .stop, _ => by
    rw [oS]
    intro s hs
    rw [List.mem_singleton] at hs
    subst hs
    cases d <;> trivial
  | 0, .ite _ _ _, q => q.elim
  | 0, .ch _ _ _, q => q.elim
  | 0, .rep _ _, q => q.elim
  | d + 1, .ite t y n, q => by
    rw [oS]
    intro s hs
    rw [List.mem_singleton] at hs
    subst hs
    exact ⟨ok_oT q.1, ok_oB_of (ok_oS l d) n q.2.2, ok_oB_of (ok_oS l d) y q.2.1⟩
  | d + 1, .ch w a b, q => by
    rw [oS]
    intro s hs
    rw [List.mem_singleton] at hs
    subst hs
    exact ⟨ok_oB_of (ok_oS l d) a q.1, ok_oB_of (ok_oS l d) b q.2⟩
  | d + 1, .rep m b, q => by
    have e := ok_oB_of (ok_oS l d) b q.2
    rw [oS]
    split
    · intro s hs
      obtain ⟨x, hx, hs⟩ := List.mem_flatten.mp hs
      rw [(List.mem_replicate.mp hx).2] at hs
      exact SmOk.mono (fun _ q => q) (Nat.le_succ d) (e s hs)
    · intro s hs
      rw [List.mem_singleton] at hs
      subst hs
      exact ⟨q.1, e⟩
theorem ok_oB {P : Str → Prop} {l : Bool} {d : Nat} {b : List Sm} (h : BlOk P d b) : BlOk P d (oB l b) := ok_oB_of (ok_oS l d) b h
/-! ### a name that the block does not say -/
theorem ev_agree {P : Str → Prop} {nu mu : Nu} (h : ∀ x, P x → nu x = mu x) : ∀ {d : Nat} {e : Ex}, ExOk P d e → ev nu e = ev mu e
  | 0, _, q => q.elim
  | d + 1, .num i, q => rfl
  | d + 1, .nm x, q => h x q
  | d + 1, .plus a b, q => by rw [ev, ev, ev_agree h q.1, ev_agree h q.2]
  | d + 1, .minus a b, q => by rw [ev, ev, ev_agree h q.1, ev_agree h q.2]
  | d + 1, .times k a, q => by rw [ev, ev, ev_agree h q.2]
theorem tv_agree {P : Str → Prop} {nu mu : Nu} (h : ∀ x, P x → nu x = mu x) : ∀ {d : Nat} {t : Ts}, TsOk P d t → tv nu t = tv mu t
  | d, .less a b, q => by
    have q' : ExOk P 3 a ∧ ExOk P 3 b := by cases d <;> exact q
    rw [tv, tv, ev_agree h q'.1, ev_agree h q'.2]
  | d, .rest a m r, q => by
    have q' : ExOk P 3 a := by cases d <;> exact q.1
    rw [tv, tv, ev_agree h q']
  | 0, .no _, q => q.elim
  | d + 1, .no t, q => by rw [tv, tv, tv_agree (t := t) h q]
/-- both continuations answer alike at names that agree -/
def Alike (P : Str → Prop) (k m : Kn) : Prop := ∀ nu mu z, (∀ x, P x → nu x = mu x) → k nu z = m mu z
theorem trB_alike_of {P : Str → Prop} {d : Nat} (h : ∀ s, SmOk P d s → ∀ k m, Alike P k m → Alike P (trS s k) (trS s m)) : ∀ (b : List Sm), BlOk P d b → ∀ k m, Alike P k m → Alike P (trB b k) (trB b m)
  | [], _, k, m, q => by rw [trB, trB]; exact q
  | s :: r, hb, k, m, q => by
    rw [trB, trB]
    exact h s (hb s List.mem_cons_self) _ _ (trB_alike_of h r (fun x hx => hb x (List.mem_cons_of_mem _ hx)) k m q)
theorem itr_alike {P : Str → Prop} {f : Kn → Kn} (h : ∀ k m, Alike P k m → Alike P (f k) (f m)) : ∀ (n : Nat) (k m : Kn), Alike P k m → Alike P (itr f n k) (itr f n m)
  | 0, _, _, q => q
  | n + 1, k, m, q => by rw [itr, itr]; exact h _ _ (itr_alike h n k m q)
theorem trS_alike {P : Str → Prop} : ∀ (d : Nat) (s : Sm), SmOk P d s → ∀ k m, Alike P k m → Alike P (trS s k) (trS s m)
  | d, .set x e, q, k, m, a => by
    have q' : ExOk P 3 e := by cases d <;> exact q.2
    intro nu mu z h
    simp only [trS]
    rw [ev_agree h q']
    refine a _ _ _ fun y hy => ?_
    unfold put
    rw [h y hy]
  | d, .pay e, q, k, m, a => by
    have q' : ExOk P 3 e := by cases d <;> exact q
    intro nu mu z h
    simp only [trS]
    rw [ev_agree h q']
    exact a _ _ _ h
  | d, .stop, _, k, m, a => by
    intro nu mu z h
    simp only [trS]
  | 0, .ite _ _ _, q, _, _, _ => q.elim
  | 0, .ch _ _ _, q, _, _, _ => q.elim
  | 0, .rep _ _, q, _, _, _ => q.elim
  | d + 1, .ite t y n, q, k, m, a => by
    intro nu mu z h
    simp only [trS]
    rw [tv_agree h q.1]
    rw [trB_alike_of (trS_alike d) y q.2.1 k m a nu mu z h, trB_alike_of (trS_alike d) n q.2.2 k m a nu mu z h]
  | d + 1, .ch w b c, q, k, m, a => by
    intro nu mu z h
    simp only [trS]
    rw [trB_alike_of (trS_alike d) b q.1 k m a nu mu z h, trB_alike_of (trS_alike d) c q.2 k m a nu mu z h]
  | d + 1, .rep n b, q, k, m, a => by
    rw [trS, trS]
    exact itr_alike (trB_alike_of (trS_alike d) b q.2) n k m a
theorem trB_alike {P : Str → Prop} {d : Nat} {b : List Sm} (h : BlOk P d b) {k m : Kn} (q : Alike P k m) : Alike P (trB b k) (trB b m) := trB_alike_of (trS_alike d) b h k m q
/-! ### a statement put in -/
def spare : Str := "spare1"
inductive More : Sm → Prop
  | a : More (.set spare (.nm "n"))
  | b : More (.rep 3 [])
  | c : More (.rep 1 [.set spare (.num 1)])
  | d : More (.pay (.num 0))
  | e : More (.pay (.nm spare))
  | f : More (.ite (.less (.num 1) (.num 0)) [.stop] [])
  | g : More (.ite (.no (.rest (.num 1) 2 0)) [] [.ch false [] [.pay (.num 1)]])
/-- names agree but for spare; of the first one spare is 0 -/
theorem more_same {P : Str → Prop} {s : Sm} (hs : More s) (hP : ¬ P spare) {k m : Kn} (hk : Alike P k m) {nu mu : Nu} (h : ∀ x, P x → nu x = mu x) (h0 : nu spare = 0) (z : Int) : trS s k nu z = m mu z := by
  have hset : ∀ v, (∀ x, P x → put nu spare v x = mu x) := fun v x hx => by
    unfold put
    rw [if_neg (fun e : x = spare => hP (e ▸ hx)), h x hx]
  cases hs with
  | a => rw [trS]; exact hk _ _ _ (hset _)
  | b => simp only [trS, itr, trB]; exact hk _ _ _ h
  | c => simp only [trS, itr, trB]; exact hk _ _ _ (hset _)
  | d => simp only [trS, ev, Int.add_zero]; exact hk _ _ _ h
  | e => simp only [trS, ev, h0, Int.add_zero]; exact hk _ _ _ h
  | f =>
    have e : tv nu (.less (.num 1) (.num 0)) = false := rfl
    simp only [trS]
    rw [e, if_neg Bool.false_ne_true, trB]
    exact hk _ _ _ h
  | g =>
    have e : tv nu (.no (.rest (.num 1) 2 0)) = true := rfl
    simp only [trS]
    rw [e, if_pos rfl, trB]
    exact hk _ _ _ h
/-- what keeps spare at 0: a block that does not say it -/
def Zero (P : Str → Prop) (k m : Kn) : Prop := ∀ nu mu z, (∀ x, P x → nu x = mu x) → nu spare = 0 → k nu z = m mu z
theorem trB_zero_of {P : Str → Prop} {d : Nat} (h : ∀ s, SmOk P d s → ∀ k m, Zero P k m → Zero P (trS s k) (trS s m)) : ∀ (b : List Sm), BlOk P d b → ∀ k m, Zero P k m → Zero P (trB b k) (trB b m)
  | [], _, k, m, q => by rw [trB, trB]; exact q
  | s :: r, hb, k, m, q => by
    rw [trB, trB]
    exact h s (hb s List.mem_cons_self) _ _ (trB_zero_of h r (fun x hx => hb x (List.mem_cons_of_mem _ hx)) k m q)
theorem itr_zero {P : Str → Prop} {f : Kn → Kn} (h : ∀ k m, Zero P k m → Zero P (f k) (f m)) : ∀ (n : Nat) (k m : Kn), Zero P k m → Zero P (itr f n k) (itr f n m)
  | 0, _, _, q => q
  | n + 1, k, m, q => by rw [itr, itr]; exact h _ _ (itr_zero h n k m q)
theorem trS_zero {P : Str → Prop} (hP : ¬ P spare) : ∀ (d : Nat) (s : Sm), SmOk P d s → ∀ k m, Zero P k m → Zero P (trS s k) (trS s m)
  | d, .set x e, q, k, m, a => by
    have q' : P x ∧ ExOk P 3 e := by cases d <;> exact q
    intro nu mu z h h0
    simp only [trS]
    rw [ev_agree h q'.2]
    refine a _ _ _ (fun y hy => ?_) ?_
    · unfold put
      rw [h y hy]
    · unfold put
      rw [if_neg (fun e : spare = x => hP (e ▸ q'.1)), h0]
  | d, .pay e, q, k, m, a => by
    have q' : ExOk P 3 e := by cases d <;> exact q
    intro nu mu z h h0
    simp only [trS]
    rw [ev_agree h q']
    exact a _ _ _ h h0
  | d, .stop, _, k, m, a => by
    intro nu mu z h h0
    simp only [trS]
  | 0, .ite _ _ _, q, _, _, _ => q.elim
  | 0, .ch _ _ _, q, _, _, _ => q.elim
  | 0, .rep _ _, q, _, _, _ => q.elim
  | d + 1, .ite t y n, q, k, m, a => by
    intro nu mu z h h0
    simp only [trS]
    rw [tv_agree h q.1]
    rw [trB_zero_of (trS_zero hP d) y q.2.1 k m a nu mu z h h0, trB_zero_of (trS_zero hP d) n q.2.2 k m a nu mu z h h0]
  | d + 1, .ch w b c, q, k, m, a => by
    intro nu mu z h h0
    simp only [trS]
    rw [trB_zero_of (trS_zero hP d) b q.1 k m a nu mu z h h0, trB_zero_of (trS_zero hP d) c q.2 k m a nu mu z h h0]
  | d + 1, .rep n b, q, k, m, a => by
    rw [trS, trS]
    exact itr_zero (trB_zero_of (trS_zero hP d) b q.2) n k m a
theorem spare_n : ¬ (spare = ("n" : Str)) := by decide
/-- the program with a statement put in that changes nothing -/
def withMore (p : List Sm) (j i : Nat) (s : Sm) : List Sm := List.replicate j (.set "n" (.nm "n")) ++ p.take i ++ [s] ++ p.drop i
theorem put_self (nu : Nu) (x : Str) : put nu x (nu x) = nu := by
  funext y
  unfold put
  split
  · rename_i e; rw [e]
  · rfl
theorem tree_withMore {P : Str → Prop} {d : Nat} {p : List Sm} (hp : BlOk P d p) (hP : ¬ P spare) (j i : Nat) {s : Sm} (hs : More s) (n : Int) : tree (withMore p j i s) n = tree p n := by
  have h1 : ∀ (m : Nat) (k : Kn), trB (List.replicate m (Sm.set "n" (.nm "n"))) k = k := by
    intro m k
    induction m with
    | zero => rw [List.replicate_zero, trB]
    | succ m ih =>
      rw [List.replicate_succ, trB, ih, trS]
      funext nu z
      rw [ev, put_self]
  unfold tree withMore
  rw [trB_append, trB_append, trB_append, h1, trB_one]
  have e : trB p (fun _ z => Tr.leaf z) = trB (p.take i) (trB (p.drop i) (fun _ z => Tr.leaf z)) := by rw [← trB_append, List.take_append_drop]
  rw [e]
  have al : Alike P (trB (p.drop i) (fun _ z => Tr.leaf z)) (trB (p.drop i) (fun _ z => Tr.leaf z)) := trB_alike (fun s hs => hp s (List.mem_of_mem_drop hs)) (fun _ _ _ _ => rfl)
  have ze : Zero P (trS s (trB (p.drop i) (fun _ z => Tr.leaf z))) (trB (p.drop i) (fun _ z => Tr.leaf z)) := fun nu mu z h h0 => more_same hs hP al h h0 z
  refine trB_zero_of (trS_zero hP d) (p.take i) (fun s hs => hp s (List.mem_of_mem_take hs)) _ _ ze _ _ _ (fun _ _ => rfl) ?_
  unfold nu0
  rw [if_neg spare_n]
theorem more_ok {P : Str → Prop} (hn : P "n") (hs : P spare) {s : Sm} (h : More s) : SmOk P 2 s := by
  cases h with
  | a => exact ⟨hs, hn⟩
  | b => exact ⟨⟨by decide, by decide⟩, fun _ h => nomatch h⟩
  | c =>
    refine ⟨⟨by decide, by decide⟩, fun s h => ?_⟩
    rw [List.mem_singleton] at h
    subst h
    exact ⟨hs, by decide, by decide⟩
  | d => exact ⟨by decide, by decide⟩
  | e => exact hs
  | f =>
    refine ⟨⟨⟨by decide, by decide⟩, ⟨by decide, by decide⟩⟩, fun s h => ?_, fun _ h => nomatch h⟩
    rw [List.mem_singleton] at h
    subst h
    trivial
  | g =>
    refine ⟨⟨⟨by decide, by decide⟩, by decide, by decide, by decide, by decide⟩, fun _ h => (nomatch h), fun s h => ?_⟩
    rw [List.mem_singleton] at h
    subst h
    refine ⟨fun _ h => (nomatch h), fun s h => ?_⟩
    rw [List.mem_singleton] at h
    subst h
    exact ⟨by decide, by decide⟩
theorem withMore_ok {P : Str → Prop} {p : List Sm} {d : Nat} (hd : 2 ≤ d) (hp : BlOk P d p) (hn : P "n") (hsp : P spare) {j i : Nat} {s : Sm} (h : More s) : BlOk P d (withMore p j i s) := by
  intro x hx
  unfold withMore at hx
  rcases List.mem_append.mp hx with hx | hx
  · rcases List.mem_append.mp hx with hx | hx
    · rcases List.mem_append.mp hx with hx | hx
      · rw [(List.mem_replicate.mp hx).2]
        cases d with
        | zero => exact ⟨hn, hn⟩
        | succ d => exact ⟨hn, hn⟩
      · exact hp x (List.mem_of_mem_take hx)
    · rw [List.mem_singleton] at hx
      subst hx
      exact SmOk.mono (fun _ q => q) hd (more_ok hn hsp h)
  · exact hp x (List.mem_of_mem_drop hx)
/-! ### all choices exchanged -/
mutual
def xS : Sm → Sm
  | .ch w a b => .ch w (xB b) (xB a)
  | .ite t y n => .ite t (xB y) (xB n)
  | .rep k b => .rep k (xB b)
  | .set x e => .set x e
  | .pay e => .pay e
  | .stop => .stop
def xB : List Sm → List Sm
  | [] => []
  | s :: r => xS s :: xB r
end
def Tr.flip : Tr → Tr
  | .leaf z => .leaf z
  | .node w a b => .node w b.flip a.flip
def kf (k : Kn) : Kn := fun nu z => (k nu z).flip
theorem trB_xB_of {P : Str → Prop} {d : Nat} (h : ∀ s, SmOk P d s → ∀ k, trS (xS s) (kf k) = kf (trS s k)) : ∀ (b : List Sm), BlOk P d b → ∀ k, trB (xB b) (kf k) = kf (trB b k)
  | [], _, k => by rw [xB, trB, trB]
  | s :: r, hb, k => by
    rw [xB, trB, trB, trB_xB_of h r (fun x hx => hb x (List.mem_cons_of_mem _ hx)) k, h s (hb s List.mem_cons_self)]
theorem itr_flip {f g : Kn → Kn} (h : ∀ k, f (kf k) = kf (g k)) : ∀ (n : Nat) (k : Kn), itr f n (kf k) = kf (itr g n k)
  | 0, _ => rfl
  | n + 1, k => by rw [itr, itr, itr_flip h n k, h]
theorem trS_xS {P : Str → Prop} : ∀ (d : Nat) (s : Sm), SmOk P d s → ∀ k, trS (xS s) (kf k) = kf (trS s k)
  | d, .set x e, _, k => by rw [xS, trS, trS]; rfl
  | d, .pay e, _, k => by rw [xS, trS, trS]; rfl
  | d, .stop, _, k => by rw [xS, trS, trS]; rfl
  | 0, .ite _ _ _, q, _ => q.elim
  | 0, .ch _ _ _, q, _ => q.elim
  | 0, .rep _ _, q, _ => q.elim
  | d + 1, .ite t y n, q, k => by
    rw [xS, trS, trB_xB_of (trS_xS d) y q.2.1, trB_xB_of (trS_xS d) n q.2.2]
    funext nu z
    simp only [kf, trS]
    cases tv nu t <;> rfl
  | d + 1, .ch w a b, q, k => by
    rw [xS, trS, trS, trB_xB_of (trS_xS d) a q.1, trB_xB_of (trS_xS d) b q.2]
    rfl
  | d + 1, .rep m b, q, k => by
    rw [xS, trS, trS, itr_flip (trB_xB_of (trS_xS d) b q.2)]
theorem tree_xB {P : Str → Prop} {d : Nat} {b : List Sm} (h : BlOk P d b) (n : Int) : tree (xB b) n = (tree b n).flip := by
  have e := trB_xB_of (trS_xS d) b h (fun _ z => .leaf z)
  have e2 : kf (fun _ z => Tr.leaf z) = fun _ z => Tr.leaf z := rfl
  rw [e2] at e
  unfold tree
  rw [e]
  rfl
theorem ok_xB_of {P : Str → Prop} {d : Nat} (h : ∀ s, SmOk P d s → SmOk P d (xS s)) : ∀ b : List Sm, BlOk P d b → BlOk P d (xB b)
  | [], _ => by rw [xB]; exact fun s hs => nomatch hs
  | s :: r, hb => by
    rw [xB]
    intro x hx
    rcases List.mem_cons.mp hx with rfl | hx
    · exact h s (hb s List.mem_cons_self)
    · exact ok_xB_of h r (fun y hy => hb y (List.mem_cons_of_mem _ hy)) x hx
theorem ok_xS {P : Str → Prop} : ∀ (d : Nat) (s : Sm), SmOk P d s → SmOk P d (xS s)
  | d, .set x e, q => by rw [xS]; exact q
  | d, .pay e, q => by rw [xS]; exact q
  | d, .stop, q => by rw [xS]; exact q
  | 0, .ite _ _ _, q => q.elim
  | 0, .ch _ _ _, q => q.elim
  | 0, .rep _ _, q => q.elim
  | d + 1, .ite t y n, q => by rw [xS]; exact ⟨q.1, ok_xB_of (ok_xS d) y q.2.1, ok_xB_of (ok_xS d) n q.2.2⟩
  | d + 1, .ch w a b, q => by rw [xS]; exact ⟨ok_xB_of (ok_xS d) b q.2, ok_xB_of (ok_xS d) a q.1⟩
  | d + 1, .rep m b, q => by rw [xS]; exact ⟨q.1, ok_xB_of (ok_xS d) b q.2⟩
theorem ok_xB {P : Str → Prop} {d : Nat} {b : List Sm} (h : BlOk P d b) : BlOk P d (xB b) := ok_xB_of (ok_xS d) b h
end K28
/-! K28N: runs, their order, bounds, the data that programs are. -/
namespace K28
open PySem
abbrev Row := Int × List Int × List Bool
def rows : Tr → List Int → List Bool → List Row
  | .leaf z, ts, hs => [(z, ts, hs)]
  | .node w a b, ts, hs => rows a (ts ++ [0]) (hs ++ [w]) ++ rows b (ts ++ [1]) (hs ++ [w])
/-- the run with the turns as asked -/
def fol : Tr → List Int → List Int → List Bool → Row
  | .leaf z, _, ts, hs => (z, ts, hs)
  | .node w a b, as, ts, hs => if as.headD 0 = 0 then fol a as.tail (ts ++ [as.headD 0]) (hs ++ [w]) else fol b as.tail (ts ++ [as.headD 0]) (hs ++ [w])
theorem fol_0 (w : Bool) (a b : Tr) (as ts : List Int) (hs : List Bool) : fol (.node w a b) (0 :: as) ts hs = fol a as (ts ++ [0]) (hs ++ [w]) := by simp [fol]
theorem fol_1 (w : Bool) (a b : Tr) (as ts : List Int) (hs : List Bool) : fol (.node w a b) (1 :: as) ts hs = fol b as (ts ++ [1]) (hs ++ [w]) := by simp [fol]
def bits (ts : List Int) : Prop := ∀ t ∈ ts, t = 0 ∨ t = 1
theorem bits_nil : bits [] := fun _ h => nomatch h
theorem bits_tail {ts : List Int} (h : bits ts) : bits ts.tail := fun t ht => h t (List.mem_of_mem_tail ht)
theorem bits_head {ts : List Int} (h : bits ts) : ts.headD 0 = 0 ∨ ts.headD 0 = 1 := by
  cases ts with
  | nil => exact .inl rfl
  | cons t r => exact h t List.mem_cons_self
theorem bits_app {a b : List Int} (ha : bits a) (hb : bits b) : bits (a ++ b) := fun t ht => (List.mem_append.mp ht).elim (ha t) (hb t)
theorem bits_one {t : Int} (h : t = 0 ∨ t = 1) : bits [t] := fun x hx => by rw [List.mem_singleton.mp hx]; exact h
/-- the turns of a run from here on -/
def path : Tr → List Int → List Int
  | .leaf _, _ => []
  | .node _ a b, as => as.headD 0 :: (if as.headD 0 = 0 then path a as.tail else path b as.tail)
theorem path_0 (w : Bool) (a b : Tr) (as : List Int) : path (.node w a b) (0 :: as) = 0 :: path a as := by simp [path]
theorem path_1 (w : Bool) (a b : Tr) (as : List Int) : path (.node w a b) (1 :: as) = 1 :: path b as := by simp [path]
theorem fol_turns : ∀ (t : Tr) (as ts : List Int) (hs : List Bool), (fol t as ts hs).2.1 = ts ++ path t as
  | .leaf z, as, ts, hs => by rw [fol, path, List.append_nil]
  | .node w a b, as, ts, hs => by
    rw [fol, path]
    split
    · rw [fol_turns a, List.append_assoc]; rfl
    · rw [fol_turns b, List.append_assoc]; rfl
theorem bits_path : ∀ (t : Tr) (as : List Int), bits as → bits (path t as)
  | .leaf z, as, h => by rw [path]; exact bits_nil
  | .node w a b, as, h => by
    rw [path]
    intro x hx
    rcases List.mem_cons.mp hx with rfl | hx
    · exact bits_head h
    · split at hx
      · exact bits_path a _ (bits_tail h) x hx
      · exact bits_path b _ (bits_tail h) x hx
/-- the turns with which the next run begins -/
def nxt : List Int → Option (List Int)
  | [] => none
  | t :: q => match nxt q with
    | some r => some (t :: r)
    | none => if t = 0 then some [1] else none
theorem bits_nxt : ∀ {q r : List Int}, bits q → nxt q = some r → bits r
  | [], r, _, h => by cases h
  | t :: q, r, hb, h => by
    rw [nxt] at h
    cases e : nxt q with
    | some r' =>
      rw [e] at h
      cases h
      intro x hx
      rcases List.mem_cons.mp hx with rfl | hx
      · exact hb _ List.mem_cons_self
      · exact bits_nxt (fun y hy => hb y (List.mem_cons_of_mem _ hy)) e x hx
    | none =>
      rw [e] at h
      simp only at h
      split at h
      · cases h
        exact bits_one (.inr rfl)
      · cases h
def fromT : Tr → List Int → List Int → List Bool → List Row
  | .leaf z, _, ts, hs => [(z, ts, hs)]
  | .node w a b, [], ts, hs => rows (.node w a b) ts hs
  | .node w a b, t :: p, ts, hs => if t = 0 then fromT a p (ts ++ [0]) (hs ++ [w]) ++ rows b (ts ++ [1]) (hs ++ [w]) else fromT b p (ts ++ [1]) (hs ++ [w])
theorem fromT_nil (t : Tr) (ts : List Int) (hs : List Bool) : fromT t [] ts hs = rows t ts hs := by
  cases t with
  | leaf z => rw [fromT, rows]
  | node w a b => rw [fromT]
def after (t : Tr) (o : Option (List Int)) (ts : List Int) (hs : List Bool) : List Row := match o with
  | none => []
  | some p => fromT t p ts hs
theorem fromT_step : ∀ (t : Tr) (p ts : List Int) (hs : List Bool), bits p → fromT t p ts hs = fol t p ts hs :: after t (nxt (path t p)) ts hs
  | .leaf z, p, ts, hs, _ => by rw [fromT, fol, path, nxt, after]
  | .node w a b, [], ts, hs, h => by
    have ih := fromT_step a [] (ts ++ [0]) (hs ++ [w]) bits_nil
    rw [fromT_nil] at ih
    rw [fromT, rows, ih, fol, path]
    simp only [List.headD_nil, List.tail_nil, if_true, List.cons_append, List.cons.injEq, true_and]
    rw [nxt]
    cases e : nxt (path a []) with
    | none => simp only [if_true, after, List.nil_append]; rw [fromT, if_neg (by decide), fromT_nil]
    | some q => simp only [after]; rw [fromT, if_pos rfl]
  | .node w a b, t :: p, ts, hs, h => by
    have hp : bits p := fun x hx => h x (List.mem_cons_of_mem _ hx)
    rcases h t List.mem_cons_self with rfl | rfl
    · rw [fol_0, path_0, fromT, if_pos rfl, fromT_step a p _ _ hp, List.cons_append, nxt]
      simp only [List.cons.injEq, true_and]
      cases e : nxt (path a p) with
      | none => simp only [if_true, after, List.nil_append]; rw [fromT, if_neg (by decide), fromT_nil]
      | some q => simp only [after]; rw [fromT, if_pos rfl]
    · rw [fol_1, path_1, fromT, if_neg (by decide), fromT_step b p _ _ hp, nxt]
      simp only [List.cons.injEq, true_and]
      cases e : nxt (path b p) with
      | none => simp [after]
      | some q => simp only [after]; rw [fromT, if_neg (by decide)]
/-- a run with the contrary turns of a whole run -/
def con (ts : List Int) : List Int := ts.map fun t => 1 - t
theorem fol_con : ∀ (t : Tr) (ts us : List Int) (hs : List Bool) (r : Row), r ∈ rows t ts hs → ∃ q g, r = (r.1, ts ++ q, g) ∧ bits q ∧ fol t.flip (con q) us hs = (r.1, us ++ con q, g)
  | .leaf z, ts, us, hs, r, h => by
    rw [rows] at h
    rw [List.mem_singleton.mp h]
    exact ⟨[], hs, by rw [List.append_nil], bits_nil, by rw [Tr.flip, fol, con, List.map_nil, List.append_nil]⟩
  | .node w a b, ts, us, hs, r, h => by
    rw [rows] at h
    rcases List.mem_append.mp h with h | h
    · obtain ⟨q, g, e, hb, hf⟩ := fol_con a (ts ++ [0]) (us ++ [1]) (hs ++ [w]) r h
      refine ⟨0 :: q, g, by rw [e, List.append_assoc]; rfl, bits_app (bits_one (.inl rfl)) hb, ?_⟩
      have e1 : con (0 :: q) = 1 :: con q := rfl
      rw [Tr.flip, e1, fol_1, hf, List.append_assoc]
      rfl
    · obtain ⟨q, g, e, hb, hf⟩ := fol_con b (ts ++ [1]) (us ++ [0]) (hs ++ [w]) r h
      refine ⟨1 :: q, g, by rw [e, List.append_assoc]; rfl, bits_app (bits_one (.inr rfl)) hb, ?_⟩
      have e1 : con (1 :: q) = 0 :: con q := rfl
      rw [Tr.flip, e1, fol_0, hf, List.append_assoc]
      rfl
/-! ### a run as it goes on -/
structure Co where
  nu : Nu
  z : Int
  ts : List Int
  hs : List Bool
  st : Bool
def turn (A : List Int) (c : Co) : Int := A.getD c.ts.length 0
def Co.chose (A : List Int) (w : Bool) (c : Co) : Co := { c with ts := c.ts ++ [turn A c], hs := c.hs ++ [w] }
def rpt (f : Co → Co) : Nat → Co → Co
  | 0, c => c
  | n + 1, c => rpt f n (f c)
mutual
def goS (A : List Int) : Sm → Co → Co
  | .set x e, c => { c with nu := put c.nu x (ev c.nu e) }
  | .pay e, c => { c with z := c.z + ev c.nu e }
  | .stop, c => { c with st := true }
  | .ite t y n, c => if tv c.nu t then goB A y c else goB A n c
  | .ch w a b, c => if turn A c = 0 then goB A a (c.chose A w) else goB A b (c.chose A w)
  | .rep m b, c => rpt (goB A b) m c
def goB (A : List Int) : List Sm → Co → Co
  | [], c => c
  | s :: r, c => goB A r (if c.st then c else goS A s c)
end
theorem goB_stopped (A : List Int) : ∀ (b : List Sm) (c : Co), c.st = true → goB A b c = c
  | [], c, _ => by rw [goB]
  | s :: r, c, h => by rw [goB, if_pos h, goB_stopped A r c h]
theorem rpt_stopped (A : List Int) (b : List Sm) : ∀ (n : Nat) (c : Co), c.st = true → rpt (goB A b) n c = c
  | 0, _, _ => rfl
  | n + 1, c, h => by rw [rpt, goB_stopped A b c h, rpt_stopped A b n c h]
def Co.row (c : Co) : Row := (c.z, c.ts, c.hs)
def start (n : Int) : Co := ⟨nu0 n, 0, [], [], false⟩
/-- what follows at c -/
def folC (A : List Int) (k : Kn) (c : Co) : Row := if c.st then c.row else fol (k c.nu c.z) (A.drop c.ts.length) c.ts c.hs
theorem folC_go {A : List Int} {k : Kn} {c : Co} (h : c.st = false) : folC A k c = fol (k c.nu c.z) (A.drop c.ts.length) c.ts c.hs := by
  unfold folC; rw [h, if_neg Bool.false_ne_true]
theorem folC_st {A : List Int} {k : Kn} {c : Co} (h : c.st = true) : folC A k c = c.row := by
  unfold folC; rw [h, if_pos rfl]
theorem folB_of {P : Str → Prop} {A : List Int} {d : Nat} (h : ∀ s, SmOk P d s → ∀ k c, c.st = false → folC A (trS s k) c = folC A k (goS A s c)) : ∀ (b : List Sm), BlOk P d b → ∀ k c, folC A (trB b k) c = folC A k (goB A b c)
  | [], _, k, c => by rw [trB, goB]
  | s :: r, hb, k, c => by
    cases hc : c.st with
    | true => rw [goB_stopped A _ c hc, folC_st hc, folC_st hc]
    | false =>
      rw [trB, h s (hb s List.mem_cons_self) _ c hc, goB, hc, if_neg Bool.false_ne_true]
      exact folB_of h r (fun x hx => hb x (List.mem_cons_of_mem _ hx)) k _
theorem folR {A : List Int} {f : Kn → Kn} {g : Co → Co} (h : ∀ k c, folC A (f k) c = folC A k (g c)) : ∀ (n : Nat) (k : Kn) (c : Co), folC A (itr f n k) c = folC A k (rpt g n c)
  | 0, _, _ => rfl
  | n + 1, k, c => by rw [itr, h, folR h n k, rpt]
theorem drop_head (A : List Int) (n : Nat) : (A.drop n).headD 0 = A.getD n 0 := by
  rw [List.headD_eq_head?_getD, List.head?_drop, List.getD_eq_getElem?_getD]
theorem folS {P : Str → Prop} (A : List Int) : ∀ (d : Nat) (s : Sm), SmOk P d s → ∀ k c, c.st = false → folC A (trS s k) c = folC A k (goS A s c)
  | d, .set x e, _, k, c, hc => by
    rw [goS, folC_go hc]
    exact (folC_go (c := { c with nu := put c.nu x (ev c.nu e) }) hc).symm
  | d, .pay e, _, k, c, hc => by
    rw [goS, folC_go hc]
    exact (folC_go (c := { c with z := c.z + ev c.nu e }) hc).symm
  | d, .stop, _, k, c, hc => by
    rw [goS, folC_go hc]
    rw [folC_st (c := { c with st := true }) rfl, trS, fol]
    rfl
  | 0, .ite _ _ _, q, _, _, _ => q.elim
  | 0, .ch _ _ _, q, _, _, _ => q.elim
  | 0, .rep _ _, q, _, _, _ => q.elim
  | d + 1, .ite t y n, q, k, c, hc => by
    rw [goS, folC_go hc, trS]
    cases e : tv c.nu t with
    | true =>
      rw [if_pos rfl, ← folB_of (folS A d) y q.2.1, folC_go hc]
      simp only [e, if_true]
    | false =>
      rw [if_neg Bool.false_ne_true, ← folB_of (folS A d) n q.2.2, folC_go hc]
      simp only [e, if_false, Bool.false_eq_true]
  | d + 1, .ch w a b, q, k, c, hc => by
    rw [goS, folC_go hc, trS, fol, drop_head]
    have hc' : (c.chose A w).st = false := hc
    have ht : A.getD c.ts.length 0 = turn A c := rfl
    have e1 : (A.drop c.ts.length).tail = A.drop (c.chose A w).ts.length := by
      rw [List.tail_drop]
      congr 1
      show _ = (c.ts ++ [turn A c]).length
      rw [List.length_append, List.length_singleton]
    rw [ht, e1]
    split
    · rw [← folB_of (folS A d) a q.1, folC_go hc']
      rfl
    · rw [← folB_of (folS A d) b q.2, folC_go hc']
      rfl
  | d + 1, .rep m b, q, k, c, hc => by
    rw [goS, trS]
    exact folR (fun k c => folB_of (folS A d) b q.2 k c) m k c
/-- a run is the way through the tree -/
theorem run_row {P : Str → Prop} {d : Nat} {p : List Sm} (h : BlOk P d p) (A : List Int) (n : Int) : (goB A p (start n)).row = fol (tree p n) A [] [] := by
  have e := folB_of (folS A d) p h (fun _ z => .leaf z) (start n)
  rw [folC_go rfl] at e
  have e2 : ∀ c : Co, folC A (fun _ z => .leaf z) c = c.row := fun c => by
    cases hc : c.st with
    | true => rw [folC_st hc]
    | false => rw [folC_go hc, fol]; rfl
  rw [e2] at e
  exact e.symm
/-! ### sizes -/
mutual
def wS : Sm → Nat
  | .set _ _ => 1
  | .pay _ => 1
  | .stop => 1
  | .ite _ y n => 1 + wB y + wB n
  | .ch _ a b => 1 + wB a + wB b
  | .rep k b => 1 + k * wB b
def wB : List Sm → Nat
  | [] => 0
  | s :: r => wS s + wB r
end
mutual
def cS : Sm → Nat
  | .set _ _ => 0
  | .pay _ => 0
  | .stop => 0
  | .ite _ y n => cB y + cB n
  | .ch _ a b => 1 + cB a + cB b
  | .rep k b => k * cB b
def cB : List Sm → Nat
  | [] => 0
  | s :: r => cS s + cB r
end
theorem wB_append : ∀ a b : List Sm, wB (a ++ b) = wB a + wB b
  | [], b => by rw [List.nil_append, wB, Nat.zero_add]
  | s :: r, b => by rw [List.cons_append, wB, wB, wB_append r b, Nat.add_assoc]
theorem cB_append : ∀ a b : List Sm, cB (a ++ b) = cB a + cB b
  | [], b => by rw [List.nil_append, cB, Nat.zero_add]
  | s :: r, b => by rw [List.cons_append, cB, cB, cB_append r b, Nat.add_assoc]
theorem wS_pos (s : Sm) : 1 ≤ wS s := by cases s <;> rw [wS] <;> omega
theorem len_wB : ∀ b : List Sm, b.length ≤ wB b
  | [] => Nat.le_refl _
  | s :: r => by rw [wB, List.length_cons]; have := wS_pos s; have := len_wB r; omega
theorem wB_mem : ∀ {b : List Sm} {s : Sm}, s ∈ b → wS s ≤ wB b
  | x :: r, s, h => by
    rw [wB]
    rcases List.mem_cons.mp h with rfl | h
    · omega
    · have := wB_mem h; omega
theorem wB_repl (b : List Sm) : ∀ k : Nat, wB (List.replicate k b).flatten = k * wB b
  | 0 => by rw [List.replicate_zero, List.flatten_nil, wB, Nat.zero_mul]
  | k + 1 => by rw [List.replicate_succ, List.flatten_cons, wB_append, wB_repl b k, Nat.succ_mul, Nat.add_comm]
theorem wB_oP (e : Ex) : wB (oP e) ≤ 2 := by cases e <;> simp [oP, wB, wS]
theorem wB_oB_of {P : Str → Prop} {d : Nat} {l : Bool} (h : ∀ s, SmOk P d s → wB (oS l s) ≤ 2 * wS s) : ∀ b : List Sm, BlOk P d b → wB (oB l b) ≤ 2 * wB b
  | [], _ => by rw [oB, wB]; omega
  | s :: r, hb => by
    rw [oB, wB_append, wB]
    have h1 := h s (hb s List.mem_cons_self)
    have h2 := wB_oB_of h r fun x hx => hb x (List.mem_cons_of_mem _ hx)
    omega
theorem wS_oS {P : Str → Prop} (l : Bool) : ∀ (d : Nat) (s : Sm), SmOk P d s → wB (oS l s) ≤ 2 * wS s
  | d, .set x e, _ => by simp [oS, wB, wS]
  | d, .pay e, _ => by rw [oS, wS]; exact wB_oP e
  | d, .stop, _ => by simp [oS, wB, wS]
  | 0, .ite _ _ _, q => q.elim
  | 0, .ch _ _ _, q => q.elim
  | 0, .rep _ _, q => q.elim
  | d + 1, .ite t y n, q => by
    have h1 := wB_oB_of (wS_oS l d) y q.2.1
    have h2 := wB_oB_of (wS_oS l d) n q.2.2
    simp only [oS, wB, wS]
    omega
  | d + 1, .ch w a b, q => by
    have h1 := wB_oB_of (wS_oS l d) a q.1
    have h2 := wB_oB_of (wS_oS l d) b q.2
    simp only [oS, wB, wS]
    omega
  | d + 1, .rep k b, q => by
    have h1 := wB_oB_of (wS_oS l d) b q.2
    have h2 : k * wB (oB l b) ≤ 2 * (k * wB b) := by
      have := Nat.mul_le_mul_left k h1
      rw [Nat.mul_left_comm] at this
      exact this
    rw [oS]
    split
    · rw [wB_repl, wS]; omega
    · simp only [wB, wS]; omega
theorem wB_oB {P : Str → Prop} {d : Nat} {l : Bool} {b : List Sm} (h : BlOk P d b) : wB (oB l b) ≤ 2 * wB b := wB_oB_of (wS_oS l d) b h
theorem wS_xB_of {P : Str → Prop} {d : Nat} (h : ∀ s, SmOk P d s → wS (xS s) = wS s) : ∀ b : List Sm, BlOk P d b → wB (xB b) = wB b
  | [], _ => by rw [xB]
  | s :: r, hb => by rw [xB, wB, wB, h s (hb s List.mem_cons_self), wS_xB_of h r fun x hx => hb x (List.mem_cons_of_mem _ hx)]
theorem wS_xS {P : Str → Prop} : ∀ (d : Nat) (s : Sm), SmOk P d s → wS (xS s) = wS s
  | d, .set x e, _ => by rw [xS]
  | d, .pay e, _ => by rw [xS]
  | d, .stop, _ => by rw [xS]
  | 0, .ite _ _ _, q => q.elim
  | 0, .ch _ _ _, q => q.elim
  | 0, .rep _ _, q => q.elim
  | d + 1, .ite t y n, q => by rw [xS, wS, wS, wS_xB_of (wS_xS d) y q.2.1, wS_xB_of (wS_xS d) n q.2.2]
  | d + 1, .ch w a b, q => by
    rw [xS, wS, wS, wS_xB_of (wS_xS d) a q.1, wS_xB_of (wS_xS d) b q.2]; omega
  | d + 1, .rep k b, q => by rw [xS, wS, wS, wS_xB_of (wS_xS d) b q.2]
theorem wB_xB {P : Str → Prop} {d : Nat} {b : List Sm} (h : BlOk P d b) : wB (xB b) = wB b := wS_xB_of (wS_xS d) b h
theorem more_w {s : Sm} (h : More s) : wS s ≤ 3 := by cases h <;> simp [wS, wB]
theorem withMore_w {p : List Sm} {j i : Nat} {s : Sm} (h : More s) : wB (withMore p j i s) ≤ wB p + j + 3 := by
  unfold withMore
  have h1 : wB (p.take i) + wB (p.drop i) = wB p := by rw [← wB_append, List.take_append_drop]
  have h2 : wB (List.replicate j (Sm.set "n" (.nm "n"))) = j := by
    induction j with
    | zero => rfl
    | succ j ih => rw [List.replicate_succ, wB, ih, wS, Nat.add_comm]
  have h3 := more_w h
  rw [wB_append, wB_append, wB_append, wB, wB, h2]
  omega
/-! ### bounds of a run: the sizes of its lists -/
theorem go_len_of {P : Str → Prop} {A : List Int} {d : Nat} (h : ∀ s, SmOk P d s → ∀ c, (goS A s c).ts.length ≤ c.ts.length + wS s) : ∀ (b : List Sm), BlOk P d b → ∀ c, (goB A b c).ts.length ≤ c.ts.length + wB b
  | [], _, c => by rw [goB]; omega
  | s :: r, hb, c => by
    rw [goB, wB]
    have h1 := go_len_of h r (fun x hx => hb x (List.mem_cons_of_mem _ hx)) (if c.st then c else goS A s c)
    have h2 := h s (hb s List.mem_cons_self) c
    split at h1
    · rename_i q; rw [if_pos q]; omega
    · rename_i q; rw [if_neg q]; omega
theorem rpt_len {g : Co → Co} {w : Nat} (h : ∀ c, (g c).ts.length ≤ c.ts.length + w) : ∀ (n : Nat) (c : Co), (rpt g n c).ts.length ≤ c.ts.length + n * w
  | 0, c => by rw [rpt]; omega
  | n + 1, c => by
    rw [rpt, Nat.succ_mul]
    have h1 := rpt_len h n (g c)
    have h2 := h c
    omega
theorem goS_len {P : Str → Prop} {A : List Int} : ∀ (d : Nat) (s : Sm), SmOk P d s → ∀ c, (goS A s c).ts.length ≤ c.ts.length + wS s
  | d, .set x e, _, c => by rw [goS]; exact Nat.le_add_right _ _
  | d, .pay e, _, c => by rw [goS]; exact Nat.le_add_right _ _
  | d, .stop, _, c => by rw [goS]; exact Nat.le_add_right _ _
  | 0, .ite _ _ _, q, _ => q.elim
  | 0, .ch _ _ _, q, _ => q.elim
  | 0, .rep _ _, q, _ => q.elim
  | d + 1, .ite t y n, q, c => by
    have h1 := go_len_of (goS_len (A := A) d) y q.2.1 c
    have h2 := go_len_of (goS_len (A := A) d) n q.2.2 c
    rw [goS, wS]
    split <;> omega
  | d + 1, .ch w a b, q, c => by
    have h1 := go_len_of (goS_len (A := A) d) a q.1 (c.chose A w)
    have h2 := go_len_of (goS_len (A := A) d) b q.2 (c.chose A w)
    have h3 : (c.chose A w).ts.length = c.ts.length + 1 := by
      show (c.ts ++ [turn A c]).length = _
      rw [List.length_append, List.length_singleton]
    rw [goS, wS]
    split <;> omega
  | d + 1, .rep m b, q, c => by
    have h1 := rpt_len (go_len_of (goS_len (A := A) d) b q.2) m c
    rw [goS, wS]
    omega
theorem goB_len {P : Str → Prop} {A : List Int} {d : Nat} {b : List Sm} (h : BlOk P d b) (c : Co) : (goB A b c).ts.length ≤ c.ts.length + wB b := go_len_of (goS_len d) b h c
theorem goB_hs_of {P : Str → Prop} {A : List Int} {d : Nat} (h : ∀ s, SmOk P d s → ∀ c : Co, c.hs.length = c.ts.length → (goS A s c).hs.length = (goS A s c).ts.length) : ∀ (b : List Sm), BlOk P d b → ∀ c : Co, c.hs.length = c.ts.length → (goB A b c).hs.length = (goB A b c).ts.length
  | [], _, c, e => by rw [goB]; exact e
  | s :: r, hb, c, e => by
    rw [goB]
    refine goB_hs_of h r (fun x hx => hb x (List.mem_cons_of_mem _ hx)) _ ?_
    split
    · exact e
    · exact h s (hb s List.mem_cons_self) c e
/-! ### the tree: how many runs, how deep, how great the totals -/
def leaves : Tr → Nat
  | .leaf _ => 1
  | .node _ a b => leaves a + leaves b
theorem rows_len : ∀ (t : Tr) (ts : List Int) (hs : List Bool), (rows t ts hs).length = leaves t
  | .leaf z, ts, hs => rfl
  | .node w a b, ts, hs => by rw [rows, List.length_append, rows_len a, rows_len b, leaves]
def deep : Tr → Nat
  | .leaf _ => 0
  | .node _ a b => 1 + max (deep a) (deep b)
theorem leaves_le : ∀ t : Tr, leaves t ≤ 2 ^ deep t
  | .leaf _ => by rw [leaves, deep]; decide
  | .node w a b => by
    have h1 := leaves_le a
    have h2 := leaves_le b
    rw [leaves, deep, Nat.add_comm 1, Nat.pow_succ]
    have h3 : 2 ^ deep a ≤ 2 ^ max (deep a) (deep b) := Nat.pow_le_pow_right (by decide) (Nat.le_max_left _ _)
    have h4 : 2 ^ deep b ≤ 2 ^ max (deep a) (deep b) := Nat.pow_le_pow_right (by decide) (Nat.le_max_right _ _)
    omega
def AllL (Q : Int → Prop) : Tr → Prop
  | .leaf z => Q z
  | .node _ a b => AllL Q a ∧ AllL Q b
/-- every run: its total as Q says, at most D choices -/
theorem rows_all {Q : Int → Prop} : ∀ (t : Tr) (ts : List Int) (hs : List Bool), AllL Q t → ∀ r ∈ rows t ts hs, Q r.1 ∧ r.2.1.length ≤ ts.length + deep t ∧ r.2.2.length ≤ hs.length + deep t ∧ (∃ q, r.2.1 = ts ++ q ∧ bits q)
  | .leaf z, ts, hs, h, r, hr => by
    rw [rows] at hr
    rw [List.mem_singleton.mp hr]
    exact ⟨h, Nat.le_add_right _ _, Nat.le_add_right _ _, [], by rw [List.append_nil], bits_nil⟩
  | .node w a b, ts, hs, h, r, hr => by
    rw [rows] at hr
    rw [deep]
    rcases List.mem_append.mp hr with hr | hr
    · obtain ⟨h1, h2, h3, q, e, hq⟩ := rows_all a _ _ h.1 r hr
      rw [List.length_append, List.length_singleton] at h2 h3
      have := Nat.le_max_left (deep a) (deep b)
      exact ⟨h1, by omega, by omega, 0 :: q, by rw [e, List.append_assoc]; rfl, bits_app (bits_one (.inl rfl)) hq⟩
    · obtain ⟨h1, h2, h3, q, e, hq⟩ := rows_all b _ _ h.2 r hr
      rw [List.length_append, List.length_singleton] at h2 h3
      have := Nat.le_max_right (deep a) (deep b)
      exact ⟨h1, by omega, by omega, 1 :: q, by rw [e, List.append_assoc]; rfl, bits_app (bits_one (.inr rfl)) hq⟩
theorem deep_of {P : Str → Prop} {d : Nat} (h : ∀ s, SmOk P d s → ∀ k D, (∀ nu z, deep (k nu z) ≤ D) → ∀ nu z, deep (trS s k nu z) ≤ D + cS s) : ∀ (b : List Sm), BlOk P d b → ∀ k D, (∀ nu z, deep (k nu z) ≤ D) → ∀ nu z, deep (trB b k nu z) ≤ D + cB b
  | [], _, k, D, q, nu, z => by rw [trB, cB]; exact q nu z
  | s :: r, hb, k, D, q, nu, z => by
    rw [trB, cB]
    have h1 := h s (hb s List.mem_cons_self) _ _ (deep_of h r (fun x hx => hb x (List.mem_cons_of_mem _ hx)) k D q) nu z
    omega
theorem itr_deep {f : Kn → Kn} {w : Nat} (h : ∀ k D, (∀ nu z, deep (k nu z) ≤ D) → ∀ nu z, deep (f k nu z) ≤ D + w) : ∀ (n : Nat) (k : Kn) (D : Nat), (∀ nu z, deep (k nu z) ≤ D) → ∀ nu z, deep (itr f n k nu z) ≤ D + n * w
  | 0, k, D, q, nu, z => by rw [itr, Nat.zero_mul]; exact q nu z
  | n + 1, k, D, q, nu, z => by
    rw [itr, Nat.succ_mul]
    have h1 := h _ _ (itr_deep h n k D q) nu z
    omega
theorem deep_S {P : Str → Prop} : ∀ (d : Nat) (s : Sm), SmOk P d s → ∀ k D, (∀ nu z, deep (k nu z) ≤ D) → ∀ nu z, deep (trS s k nu z) ≤ D + cS s
  | d, .set x e, _, k, D, q, nu, z => by rw [trS]; exact q _ _
  | d, .pay e, _, k, D, q, nu, z => by rw [trS]; exact q _ _
  | d, .stop, _, k, D, q, nu, z => by rw [trS, deep]; exact Nat.zero_le _
  | 0, .ite _ _ _, q, _, _, _, _, _ => q.elim
  | 0, .ch _ _ _, q, _, _, _, _, _ => q.elim
  | 0, .rep _ _, q, _, _, _, _, _ => q.elim
  | d + 1, .ite t y n, ok, k, D, q, nu, z => by
    have h1 := deep_of (deep_S d) y ok.2.1 k D q nu z
    have h2 := deep_of (deep_S d) n ok.2.2 k D q nu z
    rw [trS, cS]
    simp only
    split <;> omega
  | d + 1, .ch w a b, ok, k, D, q, nu, z => by
    have h1 := deep_of (deep_S d) a ok.1 k D q nu z
    have h2 := deep_of (deep_S d) b ok.2 k D q nu z
    rw [trS, cS, deep]
    omega
  | d + 1, .rep m b, ok, k, D, q, nu, z => by
    rw [trS, cS]
    exact itr_deep (deep_of (deep_S d) b ok.2) m k D q nu z
theorem tree_deep {P : Str → Prop} {d : Nat} {p : List Sm} (h : BlOk P d p) (n : Int) : deep (tree p n) ≤ cB p := by
  have := deep_of (deep_S d) p h (fun _ z => .leaf z) 0 (fun _ _ => Nat.le_refl _) (nu0 n) 0
  unfold tree
  omega
/-- bounds behind n statements -/
def M0 : Nat := 10 ^ 60
def top (n : Nat) : Nat := 81 ^ n * M0
structure Bo (n : Nat) (nu : Nu) (z : Int) : Prop where
  nu : ∀ x, (nu x).natAbs ≤ top n
  z : z.natAbs ≤ n * top n
theorem top_le {n m : Nat} (h : n ≤ m) : top n ≤ top m := Nat.mul_le_mul_right _ (Nat.pow_le_pow_right (by decide) h)
theorem Bo.mono {n m : Nat} {nu : Nu} {z : Int} (b : Bo n nu z) (h : n ≤ m) : Bo m nu z :=
  ⟨fun x => Nat.le_trans (b.nu x) (top_le h), Nat.le_trans b.z (Nat.mul_le_mul h (top_le h))⟩
theorem ev_le {P : Str → Prop} {nu : Nu} {M : Nat} (h : ∀ x, (nu x).natAbs ≤ M) (hM : 99 ≤ M) : ∀ {d : Nat} {e : Ex}, ExOk P (d + 1) e → (ev nu e).natAbs ≤ 9 ^ d * M
  | d, .num i, q => by
    have q' : -99 ≤ i ∧ i ≤ 99 := q
    have h1 : 1 ≤ 9 ^ d := Nat.pow_pos (by decide)
    have h2 : 1 * M ≤ 9 ^ d * M := Nat.mul_le_mul_right _ h1
    rw [ev]
    omega
  | d, .nm x, q => by
    have h1 : 1 ≤ 9 ^ d := Nat.pow_pos (by decide)
    have h2 : 1 * M ≤ 9 ^ d * M := Nat.mul_le_mul_right _ h1
    rw [ev]
    have := h x
    omega
  | 0, .plus a b, q => q.1.elim
  | 0, .minus a b, q => q.1.elim
  | 0, .times k a, q => q.2.elim
  | d + 1, .plus a b, q => by
    have h1 := ev_le h hM q.1
    have h2 := ev_le h hM q.2
    rw [ev, Nat.pow_succ, Nat.mul_right_comm]
    have := Int.natAbs_add_le (ev nu a) (ev nu b)
    omega
  | d + 1, .minus a b, q => by
    have h1 := ev_le h hM q.1
    have h2 := ev_le h hM q.2
    rw [ev, Nat.pow_succ, Nat.mul_right_comm]
    have := Int.natAbs_sub_le (ev nu a) (ev nu b)
    omega
  | d + 1, .times k a, q => by
    have h1 := ev_le h hM q.2
    have hk : k.natAbs ≤ 9 := by have := q.1; omega
    rw [ev, Int.natAbs_mul, Nat.pow_succ, Nat.mul_right_comm, Nat.mul_comm _ 9]
    exact Nat.mul_le_mul hk h1
theorem top_ge (n : Nat) : 99 ≤ top n := by
  have h1 : 1 ≤ 81 ^ n := Nat.pow_pos (by decide)
  have h2 : 1 * M0 ≤ top n := Nat.mul_le_mul_right _ h1
  have h3 : 99 ≤ M0 := by decide
  omega
theorem ev_top {P : Str → Prop} {n : Nat} {nu : Nu} {z : Int} (b : Bo n nu z) {e : Ex} (q : ExOk P 3 e) : (ev nu e).natAbs ≤ top (n + 1) := by
  have h := ev_le (d := 2) b.nu (top_ge n) q
  unfold top at h ⊢
  rw [Nat.pow_succ, Nat.mul_right_comm, Nat.mul_comm _ 81]
  exact h
/-- totals behind at most N statements -/
def Fits (N : Nat) (z : Int) : Prop := z.natAbs ≤ N * top N
theorem all_of {P : Str → Prop} {N d : Nat} (h : ∀ s, SmOk P d s → ∀ k n, n + wS s ≤ N → (∀ nu z, Bo (n + wS s) nu z → AllL (Fits N) (k nu z)) → ∀ nu z, Bo n nu z → AllL (Fits N) (trS s k nu z)) :
    ∀ (b : List Sm), BlOk P d b → ∀ k n, n + wB b ≤ N → (∀ nu z, Bo (n + wB b) nu z → AllL (Fits N) (k nu z)) → ∀ nu z, Bo n nu z → AllL (Fits N) (trB b k nu z)
  | [], _, k, n, hn, q, nu, z, bo => by rw [trB]; exact q nu z (bo.mono (Nat.le_add_right _ _))
  | s :: r, hb, k, n, hn, q, nu, z, bo => by
    rw [wB] at hn q
    rw [trB]
    refine h s (hb s List.mem_cons_self) _ n (by omega) (fun nu' z' bo' => ?_) nu z bo
    exact all_of h r (fun x hx => hb x (List.mem_cons_of_mem _ hx)) k (n + wS s) (by omega) (fun nu2 z2 b2 => q nu2 z2 (by rw [← Nat.add_assoc]; exact b2)) nu' z' bo'
theorem itr_all {N w : Nat} {f : Kn → Kn} (h : ∀ k n, n + w ≤ N → (∀ nu z, Bo (n + w) nu z → AllL (Fits N) (k nu z)) → ∀ nu z, Bo n nu z → AllL (Fits N) (f k nu z)) :
    ∀ (m : Nat) (k : Kn) (n : Nat), n + m * w ≤ N → (∀ nu z, Bo (n + m * w) nu z → AllL (Fits N) (k nu z)) → ∀ nu z, Bo n nu z → AllL (Fits N) (itr f m k nu z)
  | 0, k, n, hn, q, nu, z, bo => by rw [itr]; exact q nu z (bo.mono (Nat.le_add_right _ _))
  | m + 1, k, n, hn, q, nu, z, bo => by
    rw [Nat.succ_mul] at hn q
    rw [itr]
    refine h _ n (by omega) (fun nu' z' bo' => ?_) nu z bo
    exact itr_all h m k (n + w) (by omega) (fun nu2 z2 b2 => q nu2 z2 (b2.mono (by omega))) nu' z' bo'
theorem all_S {P : Str → Prop} {N : Nat} : ∀ (d : Nat) (s : Sm), SmOk P d s → ∀ k n, n + wS s ≤ N → (∀ nu z, Bo (n + wS s) nu z → AllL (Fits N) (k nu z)) → ∀ nu z, Bo n nu z → AllL (Fits N) (trS s k nu z)
  | d, .set x e, ok, k, n, hn, q, nu, z, bo => by
    have ok' : ExOk P 3 e := by cases d <;> exact ok.2
    rw [trS]
    refine q _ _ ⟨fun y => ?_, (bo.mono (Nat.le_add_right _ _)).z⟩
    unfold put
    split
    · exact ev_top bo ok'
    · exact (bo.mono (Nat.le_add_right _ _)).nu y
  | d, .pay e, ok, k, n, hn, q, nu, z, bo => by
    have ok' : ExOk P 3 e := by cases d <;> exact ok
    rw [trS]
    refine q _ _ ⟨(bo.mono (Nat.le_add_right _ _)).nu, ?_⟩
    have h1 := ev_top bo ok'
    have h2 := bo.z
    have h3 := Int.natAbs_add_le z (ev nu e)
    have h4 : n * top n ≤ n * top (n + 1) := Nat.mul_le_mul_left _ (top_le (Nat.le_succ n))
    show (z + ev nu e).natAbs ≤ (n + 1) * top (n + 1)
    rw [Nat.succ_mul]
    omega
  | d, .stop, ok, k, n, hn, q, nu, z, bo => by
    rw [trS]
    exact (bo.mono (Nat.le_trans (Nat.le_add_right _ _) hn)).z
  | 0, .ite _ _ _, ok, _, _, _, _, _, _, _ => ok.elim
  | 0, .ch _ _ _, ok, _, _, _, _, _, _, _ => ok.elim
  | 0, .rep _ _, ok, _, _, _, _, _, _, _ => ok.elim
  | d + 1, .ite t y m, ok, k, n, hn, q, nu, z, bo => by
    rw [wS] at hn q
    have h1 := all_of (all_S d) y ok.2.1 k n (by omega) (fun nu' z' b' => q nu' z' (b'.mono (by omega))) nu z bo
    have h2 := all_of (all_S d) m ok.2.2 k n (by omega) (fun nu' z' b' => q nu' z' (b'.mono (by omega))) nu z bo
    rw [trS]
    simp only
    split
    · exact h1
    · exact h2
  | d + 1, .ch w a b, ok, k, n, hn, q, nu, z, bo => by
    rw [wS] at hn q
    have h1 := all_of (all_S d) a ok.1 k n (by omega) (fun nu' z' b' => q nu' z' (b'.mono (by omega))) nu z bo
    have h2 := all_of (all_S d) b ok.2 k n (by omega) (fun nu' z' b' => q nu' z' (b'.mono (by omega))) nu z bo
    rw [trS]
    exact ⟨h1, h2⟩
  | d + 1, .rep m b, ok, k, n, hn, q, nu, z, bo => by
    rw [wS] at hn q
    rw [trS]
    exact itr_all (all_of (all_S d) b ok.2) m k n (by omega) (fun nu' z' b' => q nu' z' (b'.mono (by omega))) nu z bo
theorem tree_all {P : Str → Prop} {N d : Nat} {p : List Sm} (h : BlOk P d p) (hw : wB p ≤ N) {n : Int} (hn : n.natAbs ≤ M0) : AllL (Fits N) (tree p n) := by
  refine all_of (all_S d) p h (fun _ z => .leaf z) 0 (by omega) (fun nu z b => ?_) (nu0 n) 0 ⟨fun x => ?_, Nat.zero_le _⟩
  · have := (b.mono (m := N) (by omega)).z
    exact this
  · have e : top 0 = M0 := by rw [top, Nat.pow_zero, Nat.one_mul]
    rw [e]
    unfold nu0
    split
    · exact hn
    · exact Nat.zero_le _
theorem fits_lt {z : Int} (h : Fits 30 z) : z.natAbs < 2 ^ 1900 := Nat.lt_of_le_of_lt h (by decide +kernel)
end K28
/-! K28E: programs as data in the heap; what changes and what stays. -/
namespace K28
open PySem L2
/-! ### heaps -/
def Imm : HO → Prop
  | .tup _ => True
  | .frz _ _ => True
  | _ => False
def Gw (H H' : Hp) : Prop := ∀ b o, H b = some o → Imm o → H' b = some o
/-- all but M is as it was, what can't change is as it was everywhere -/
structure Ch (M : List Addr) (H H' : Hp) : Prop where
  out : ∀ b o, H b = some o → b ∉ M → H' b = some o
  imm : Gw H H'
  free : ∀ b, H' b = none → H b = none
theorem Ch.refl (M : List Addr) (H : Hp) : Ch M H H := ⟨fun _ _ h _ => h, fun _ _ h _ => h, fun _ h => h⟩
theorem Ch.trans {M : List Addr} {H H1 H2 : Hp} (a : Ch M H H1) (b : Ch M H1 H2) : Ch M H H2 :=
  ⟨fun c o h n => b.out c o (a.out c o h n) n, fun c o h i => b.imm c o (a.imm c o h i) i, fun c h => a.free c (b.free c h)⟩
theorem Ch.mono {M N : List Addr} {H H' : Hp} (a : Ch M H H') (h : ∀ b ∈ M, b ∈ N) : Ch N H H' :=
  ⟨fun c o q n => a.out c o q fun z => n (h c z), a.imm, a.free⟩
theorem Ch.nil {M : List Addr} {H H' : Hp} (a : Ch [] H H') : Ch M H H' := a.mono fun _ h => nomatch h
theorem Ch.new {M : List Addr} {H : Hp} {p : Addr} (h : H p = none) (o : HO) : Ch M H (upd H p o) :=
  ⟨fun b u q _ => by rw [upd_ne (ne_of_none q h)]; exact q, fun b u q _ => by rw [upd_ne (ne_of_none q h)]; exact q, fun b q => by
    by_cases e : b = p
    · rw [e]; exact h
    · rw [upd_ne e] at q; exact q⟩
theorem Ch.put {M : List Addr} {H : Hp} {p : Addr} {u : HO} (h : H p = some u) (hu : ¬ Imm u) (hm : p ∈ M) (o : HO) : Ch M H (upd H p o) :=
  ⟨fun b v q n => by
      have e : b ≠ p := fun e => n (e ▸ hm)
      rw [upd_ne e]; exact q,
    fun b v q i => by
      have e : b ≠ p := fun e => by
        rw [e, h] at q
        cases q
        exact hu i
      rw [upd_ne e]; exact q,
    fun b q => by
      by_cases e : b = p
      · rw [e, upd_same] at q; cases q
      · rw [upd_ne e] at q; exact q⟩
/-- a young object is changed -/
theorem Ch.young {M : List Addr} {H0 H : Hp} {p : Addr} (c : Ch M H0 H) (h : H0 p = none) {u : HO} (hp : H p = some u) (o : HO) : Ch M H0 (upd H p o) :=
  ⟨fun b v q n => by
      have e : b ≠ p := ne_of_none q h
      rw [upd_ne e]; exact c.out b v q n,
    fun b v q i => by
      have e : b ≠ p := ne_of_none q h
      rw [upd_ne e]; exact c.imm b v q i,
    fun b q => by
      by_cases e : b = p
      · rw [e]; exact h
      · rw [upd_ne e] at q; exact c.free b q⟩
theorem Ch.add {M : List Addr} {H0 H : Hp} {p : Addr} (c : Ch M H0 H) (h : H p = none) (o : HO) : Ch M H0 (upd H p o) := c.trans (Ch.new h o)
theorem Ch.same {H H' : Hp} (c : Ch [] H H') : Same H H' := fun b o h => c.out b o h (fun z => nomatch z)
theorem Ch.of_same {H H' : Hp} (s : Same H H') : Ch [] H H' := ⟨fun b o h _ => s b o h, fun b o h _ => s b o h, fun b h => s.free h⟩
theorem Gw.rd {H H' : Hp} (g : Gw H H') {a : Addr} {xs : List V} (h : Rd H a (.tup xs)) : Rd H' a (.tup xs) := by
  rcases h with h | ⟨o, h⟩
  · exact .inl (g _ _ h trivial)
  · exact .inr ⟨o, g _ _ h trivial⟩
theorem Gw.sqt {K : PySem.W.Frag} {H H' : Hp} (g : Gw H H') {a : Addr} {xs : List V} (h : SqT K H a xs) : SqT K H' a xs := by
  rcases h with h | h
  · exact .inl (g.rd h)
  · exact .inr h
theorem Ch.sqt {K : PySem.W.Frag} {M : List Addr} {H H' : Hp} (g : Ch M H H') {a : Addr} {xs : List V} (h : SqT K H a xs) : SqT K H' a xs := g.imm.sqt h
theorem Ch.sql {K : PySem.W.Frag} {M : List Addr} {H H' : Hp} (g : Ch M H H') {a : Addr} {xs : List V} (h : SqL K H a xs) (n : a ∉ M) : SqL K H' a xs := by
  rcases h with (h | ⟨o, h⟩) | h
  · exact .inl (.inl (g.out _ _ h n))
  · exact .inl (.inr ⟨o, g.imm _ _ h trivial⟩)
  · exact .inr h
theorem sqt_new {K : PySem.W.Frag} {H : Hp} {p : Addr} {xs : List V} : SqT K (upd H p (.tup xs)) p xs := SqT.of upd_same
/-! ### data made of tuples alone -/
mutual
def flatT : PyData → Bool
  | .list _ => false
  | .dict _ => false
  | .tuple xs => flatTs xs
  | .none => true
  | .bool _ => true
  | .int _ => true
  | .str _ => true
def flatTs : List PyData → Bool
  | [] => true
  | x :: r => flatT x && flatTs r
end
mutual
theorem Dp.gw {K : PySem.W.Frag} {H H' : Hp} (g : Gw H H') : ∀ (d : PyData) (v : V), flatT d = true → Dp K H v d → Dp K H' v d
  | .none, _, _, h => by cases h; exact .non
  | .bool b, _, _, h => by cases h; exact .bl b
  | .int i, _, _, h => by cases h; exact .int i
  | .str x, _, _, h => by cases h; exact .str x
  | .list ds, _, f, _ => by rw [flatT] at f; cases f
  | .dict _, _, f, _ => by rw [flatT] at f; cases f
  | .tuple ds, _, f, h => by
    cases h with
    | tup hs ha =>
      rw [flatT] at f
      exact .tup (g.sqt hs) (DpAll.gw g ds _ f ha)
theorem DpAll.gw {K : PySem.W.Frag} {H H' : Hp} (g : Gw H H') : ∀ (ds : List PyData) (vs : List V), flatTs ds = true → DpAll K H vs ds → DpAll K H' vs ds
  | [], _, _, h => by cases h; exact .nil
  | d :: ds, _, f, h => by
    cases h with
    | cons h1 h2 =>
      rw [flatTs, Bool.and_eq_true] at f
      exact .cons (Dp.gw g d _ f.1 h1) (DpAll.gw g ds _ f.2 h2)
end
section
variable {K : PySem.W.Frag} {H : Hp}
theorem dp_int {v : V} {i : Int} (h : Dp K H v (.int i)) : v = .int i := by cases h; rfl
theorem dp_str {v : V} {x : Str} (h : Dp K H v (.str x)) : v = .str x := by cases h; rfl
theorem dp_tup {v : V} {ds : List PyData} (h : Dp K H v (.tuple ds)) : ∃ a xs, v = .ref a ∧ SqT K H a xs ∧ DpAll K H xs ds := by
  cases h with
  | tup hs ha => exact ⟨_, _, rfl, hs, ha⟩
theorem dpa_cons {xs : List V} {d : PyData} {ds : List PyData} (h : DpAll K H xs (d :: ds)) : ∃ v vs, xs = v :: vs ∧ Dp K H v d ∧ DpAll K H vs ds := by
  cases h with
  | cons h1 h2 => exact ⟨_, _, rfl, h1, h2⟩
theorem dpa_nil {xs : List V} (h : DpAll K H xs []) : xs = [] := by cases h; rfl
theorem dp_tup1 {v : V} {d1 : PyData} (h : Dp K H v (.tuple [d1])) : ∃ a x, v = .ref a ∧ SqT K H a [x] ∧ Dp K H x d1 := by
  obtain ⟨a, xs, rfl, hs, h⟩ := dp_tup h
  obtain ⟨x, _, rfl, h1, h⟩ := dpa_cons h
  obtain rfl := dpa_nil h
  exact ⟨a, x, rfl, hs, h1⟩
theorem dp_tup2 {v : V} {d1 d2 : PyData} (h : Dp K H v (.tuple [d1, d2])) : ∃ a x y, v = .ref a ∧ SqT K H a [x, y] ∧ Dp K H x d1 ∧ Dp K H y d2 := by
  obtain ⟨a, xs, rfl, hs, h⟩ := dp_tup h
  obtain ⟨x, _, rfl, h1, h⟩ := dpa_cons h
  obtain ⟨y, _, rfl, h2, h⟩ := dpa_cons h
  obtain rfl := dpa_nil h
  exact ⟨a, x, y, rfl, hs, h1, h2⟩
theorem dp_tup3 {v : V} {d1 d2 d3 : PyData} (h : Dp K H v (.tuple [d1, d2, d3])) : ∃ a x y z, v = .ref a ∧ SqT K H a [x, y, z] ∧ Dp K H x d1 ∧ Dp K H y d2 ∧ Dp K H z d3 := by
  obtain ⟨a, xs, rfl, hs, h⟩ := dp_tup h
  obtain ⟨x, _, rfl, h1, h⟩ := dpa_cons h
  obtain ⟨y, _, rfl, h2, h⟩ := dpa_cons h
  obtain ⟨z, _, rfl, h3, h⟩ := dpa_cons h
  obtain rfl := dpa_nil h
  exact ⟨a, x, y, z, rfl, hs, h1, h2, h3⟩
theorem dp_tup4 {v : V} {d1 d2 d3 d4 : PyData} (h : Dp K H v (.tuple [d1, d2, d3, d4])) : ∃ a x y z w, v = .ref a ∧ SqT K H a [x, y, z, w] ∧ Dp K H x d1 ∧ Dp K H y d2 ∧ Dp K H z d3 ∧ Dp K H w d4 := by
  obtain ⟨a, xs, rfl, hs, h⟩ := dp_tup h
  obtain ⟨x, _, rfl, h1, h⟩ := dpa_cons h
  obtain ⟨y, _, rfl, h2, h⟩ := dpa_cons h
  obtain ⟨z, _, rfl, h3, h⟩ := dpa_cons h
  obtain ⟨w, _, rfl, h4, h⟩ := dpa_cons h
  obtain rfl := dpa_nil h
  exact ⟨a, x, y, z, w, rfl, hs, h1, h2, h3, h4⟩
/-- a new tuple of data -/
theorem dp_new {p : Addr} {xs : List V} {ds : List PyData} (hp : H p = none) (f : flatTs ds = true) (h : DpAll K H xs ds) : Dp K (upd H p (.tup xs)) (.ref p) (.tuple ds) :=
  .tup sqt_new (DpAll.gw (Ch.new (M := []) hp _).imm ds xs f h)
theorem dpa_1 {x : V} {d : PyData} (h : Dp K H x d) : DpAll K H [x] [d] := .cons h .nil
theorem dpa_2 {x y : V} {d e : PyData} (h : Dp K H x d) (h2 : Dp K H y e) : DpAll K H [x, y] [d, e] := .cons h (dpa_1 h2)
theorem dpa_3 {x y z : V} {d e f : PyData} (h : Dp K H x d) (h2 : Dp K H y e) (h3 : Dp K H z f) : DpAll K H [x, y, z] [d, e, f] := .cons h (dpa_2 h2 h3)
theorem dpa_4 {x y z w : V} {d e f g : PyData} (h : Dp K H x d) (h2 : Dp K H y e) (h3 : Dp K H z f) (h4 : Dp K H w g) : DpAll K H [x, y, z, w] [d, e, f, g] := .cons h (dpa_3 h2 h3 h4)
theorem dpa_app : ∀ {xs ys : List V} {ds es : List PyData}, DpAll K H xs ds → DpAll K H ys es → DpAll K H (xs ++ ys) (ds ++ es)
  | _, _, _, _, .nil, h => h
  | _, _, _, _, .cons a b, h => .cons a (dpa_app b h)
theorem dpa_len : ∀ {xs : List V} {ds : List PyData}, DpAll K H xs ds → xs.length = ds.length
  | _, _, .nil => rfl
  | _, _, .cons _ b => by rw [List.length_cons, List.length_cons, dpa_len b]
theorem dpa_get : ∀ {xs : List V} {ds : List PyData} {i : Nat} {v : V}, DpAll K H xs ds → xs[i]? = some v → ∃ d, ds[i]? = some d ∧ Dp K H v d
  | _, _, _, _, .nil, e => by simp at e
  | _, _, 0, _, .cons a _, e => by simp at e; subst e; exact ⟨_, rfl, a⟩
  | _, _, i + 1, _, .cons _ b, e => by
    obtain ⟨d, e', h⟩ := dpa_get (i := i) b (by simpa using e)
    exact ⟨d, by simpa using e', h⟩
theorem dpa_take : ∀ {xs : List V} {ds : List PyData} (n : Nat), DpAll K H xs ds → DpAll K H (xs.take n) (ds.take n)
  | _, _, 0, _ => .nil
  | _, _, n + 1, .nil => .nil
  | _, _, n + 1, .cons a b => .cons a (dpa_take n b)
theorem dpa_drop : ∀ {xs : List V} {ds : List PyData} (n : Nat), DpAll K H xs ds → DpAll K H (xs.drop n) (ds.drop n)
  | _, _, 0, h => h
  | _, _, n + 1, .nil => .nil
  | _, _, n + 1, .cons _ b => dpa_drop n b
end
theorem flatTs_app : ∀ {a b : List PyData}, flatTs a = true → flatTs b = true → flatTs (a ++ b) = true
  | [], b, _, h => h
  | x :: r, b, h, h2 => by
    rw [flatTs, Bool.and_eq_true] at h
    rw [List.cons_append, flatTs, h.1, flatTs_app h.2 h2]
    rfl
theorem flatTs_mem : ∀ {a : List PyData}, (∀ x ∈ a, flatT x = true) → flatTs a = true
  | [], _ => rfl
  | x :: r, h => by rw [flatTs, h x List.mem_cons_self, flatTs_mem fun y hy => h y (List.mem_cons_of_mem _ hy)]; rfl
/-! ### programs as data -/
def eE : Ex → PyData
  | .num i => .int i
  | .nm x => .str x
  | .plus a b => .tuple [.str "plus", eE a, eE b]
  | .minus a b => .tuple [.str "minus", eE a, eE b]
  | .times k a => .tuple [.str "times", .int k, eE a]
def eT : Ts → PyData
  | .less a b => .tuple [.str "less", eE a, eE b]
  | .rest a m r => .tuple [.str "rest", eE a, .int m, .int r]
  | .no t => .tuple [.str "not", eT t]
def hand (w : Bool) : Str := if w then "we" else "they"
mutual
def eS : Sm → PyData
  | .set x a => .tuple [.str "set", .str x, eE a]
  | .pay a => .tuple [.str "pay", eE a]
  | .stop => .tuple [.str "stop"]
  | .ite t y n => .tuple [.str "if", eT t, .tuple (eB y), .tuple (eB n)]
  | .ch w a b => .tuple [.str (hand w), .tuple (eB a), .tuple (eB b)]
  | .rep k b => .tuple [.str "repeat", .int k, .tuple (eB b)]
def eB : List Sm → List PyData
  | [] => []
  | s :: r => eS s :: eB r
end
theorem eB_map : ∀ b : List Sm, eB b = b.map eS
  | [] => by rw [eB]; rfl
  | s :: r => by rw [eB, eB_map r]; rfl
theorem eB_app (a b : List Sm) : eB (a ++ b) = eB a ++ eB b := by rw [eB_map, eB_map, eB_map, List.map_append]
theorem eB_len (a : List Sm) : (eB a).length = a.length := by rw [eB_map, List.length_map]
theorem eB_take (a : List Sm) (n : Nat) : (eB a).take n = eB (a.take n) := by rw [eB_map, eB_map, List.map_take]
theorem eB_drop (a : List Sm) (n : Nat) : (eB a).drop n = eB (a.drop n) := by rw [eB_map, eB_map, List.map_drop]
theorem eB_get {a : List Sm} {i : Nat} {d : PyData} (h : (eB a)[i]? = some d) : ∃ s, a[i]? = some s ∧ d = eS s := by
  rw [eB_map, List.getElem?_map] at h
  cases e : a[i]? with
  | none => rw [e] at h; cases h
  | some s => rw [e] at h; cases h; exact ⟨s, rfl, rfl⟩
theorem flat_eE : ∀ e : Ex, flatT (eE e) = true
  | .num i => by simp [eE, flatT]
  | .nm x => by simp [eE, flatT]
  | .plus a b => by simp [eE, flatT, flatTs, flat_eE a, flat_eE b]
  | .minus a b => by simp [eE, flatT, flatTs, flat_eE a, flat_eE b]
  | .times k a => by simp [eE, flatT, flatTs, flat_eE a]
theorem flat_eT : ∀ e : Ts, flatT (eT e) = true
  | .less a b => by simp [eT, flatT, flatTs, flat_eE a, flat_eE b]
  | .rest a m r => by simp [eT, flatT, flatTs, flat_eE a]
  | .no t => by simp [eT, flatT, flatTs, flat_eT t]
mutual
theorem flat_eS : ∀ e : Sm, flatT (eS e) = true
  | .set x a => by simp [eS, flatT, flatTs, flat_eE a]
  | .pay a => by simp [eS, flatT, flatTs, flat_eE a]
  | .stop => by simp [eS, flatT, flatTs]
  | .ite t y n => by simp [eS, flatT, flatTs, flat_eT t, flat_eB y, flat_eB n]
  | .ch w a b => by simp [eS, flatT, flatTs, flat_eB a, flat_eB b]
  | .rep k b => by simp [eS, flatT, flatTs, flat_eB b]
theorem flat_eB : ∀ e : List Sm, flatTs (eB e) = true
  | [] => by simp [eB, flatTs]
  | s :: r => by simp [eB, flatTs, flat_eS s, flat_eB r]
end
theorem flat_P (b : List Sm) : flatT (.tuple (eB b)) = true := by rw [flatT]; exact flat_eB b
/-- what stays of a program's data -/
theorem Ch.dE {K : PySem.W.Frag} {M : List Addr} {H H' : Hp} (c : Ch M H H') {v : V} {e : Ex} (h : Dp K H v (eE e)) : Dp K H' v (eE e) := Dp.gw c.imm _ _ (flat_eE e) h
theorem Ch.dT {K : PySem.W.Frag} {M : List Addr} {H H' : Hp} (c : Ch M H H') {v : V} {e : Ts} (h : Dp K H v (eT e)) : Dp K H' v (eT e) := Dp.gw c.imm _ _ (flat_eT e) h
theorem Ch.dS {K : PySem.W.Frag} {M : List Addr} {H H' : Hp} (c : Ch M H H') {v : V} {e : Sm} (h : Dp K H v (eS e)) : Dp K H' v (eS e) := Dp.gw c.imm _ _ (flat_eS e) h
theorem Ch.dB {K : PySem.W.Frag} {M : List Addr} {H H' : Hp} (c : Ch M H H') {v : V} {e : List Sm} (h : Dp K H v (.tuple (eB e))) : Dp K H' v (.tuple (eB e)) := Dp.gw c.imm _ _ (flat_P e) h
theorem Ch.dA {K : PySem.W.Frag} {M : List Addr} {H H' : Hp} (c : Ch M H H') {vs : List V} {e : List Sm} (h : DpAll K H vs (eB e)) : DpAll K H' vs (eB e) := DpAll.gw c.imm _ _ (flat_eB e) h
/-! ### shapes -/
def NmOk (x : Str) : Prop := 1 ≤ x.cps.size ∧ x.cps.size ≤ 8 ∧ PyData.strOk x = true
abbrev Pn : Str → Prop := NmOk
theorem canT : ∀ {ds : List PyData}, (PyData.tuple ds).canLay0 = PyData.canLayAll0 ds := by
  intro ds
  rw [PyData.canLay0]
theorem can_eE {P : Str → Prop} (hP : ∀ x, P x → PyData.strOk x = true) : ∀ {d : Nat} {e : Ex}, ExOk P d e → (eE e).canLay0 = true ∧ (eE e).depth ≤ d
  | 0, _, q => q.elim
  | d + 1, .num i, q => ⟨by simp [eE, PyData.canLay0], by simp [eE, PyData.depth]⟩
  | d + 1, .nm x, q => ⟨by rw [eE, PyData.canLay0]; exact hP x q, by simp [eE, PyData.depth]⟩
  | d + 1, .plus a b, q => by
    have ha := can_eE hP q.1
    have hb := can_eE hP q.2
    refine ⟨?_, ?_⟩
    · rw [eE, canT, PyData.canLayAll0, PyData.canLayAll0, PyData.canLayAll0, PyData.canLayAll0, ha.1, hb.1, PyData.canLay0]; decide +kernel
    · simp only [eE, PyData.depth, PyData.depthAll]; omega
  | d + 1, .minus a b, q => by
    have ha := can_eE hP q.1
    have hb := can_eE hP q.2
    refine ⟨?_, ?_⟩
    · rw [eE, canT, PyData.canLayAll0, PyData.canLayAll0, PyData.canLayAll0, PyData.canLayAll0, ha.1, hb.1, PyData.canLay0]; decide +kernel
    · simp only [eE, PyData.depth, PyData.depthAll]; omega
  | d + 1, .times k a, q => by
    have ha := can_eE hP q.2
    refine ⟨?_, ?_⟩
    · rw [eE, canT, PyData.canLayAll0, PyData.canLayAll0, PyData.canLayAll0, PyData.canLayAll0, ha.1, PyData.canLay0, PyData.canLay0]; decide +kernel
    · simp only [eE, PyData.depth, PyData.depthAll]; omega
theorem can_eT {P : Str → Prop} (hP : ∀ x, P x → PyData.strOk x = true) : ∀ {d : Nat} {e : Ts}, TsOk P d e → (eT e).canLay0 = true ∧ (eT e).depth ≤ d + 4
  | d, .less a b, q => by
    have q' : ExOk P 3 a ∧ ExOk P 3 b := by cases d <;> exact q
    have ha := can_eE hP q'.1
    have hb := can_eE hP q'.2
    refine ⟨?_, ?_⟩
    · rw [eT, canT, PyData.canLayAll0, PyData.canLayAll0, PyData.canLayAll0, PyData.canLayAll0, ha.1, hb.1, PyData.canLay0]; decide +kernel
    · simp only [eT, PyData.depth, PyData.depthAll]; omega
  | d, .rest a m r, q => by
    have q' : ExOk P 3 a := by cases d <;> exact q.1
    have ha := can_eE hP q'
    refine ⟨?_, ?_⟩
    · rw [eT, canT, PyData.canLayAll0, PyData.canLayAll0, PyData.canLayAll0, PyData.canLayAll0, PyData.canLayAll0, ha.1, PyData.canLay0, PyData.canLay0, PyData.canLay0]; decide +kernel
    · simp only [eT, PyData.depth, PyData.depthAll]; omega
  | 0, .no _, q => q.elim
  | d + 1, .no t, q => by
    have ha := can_eT (e := t) hP q
    refine ⟨?_, ?_⟩
    · rw [eT, canT, PyData.canLayAll0, PyData.canLayAll0, PyData.canLayAll0, ha.1, PyData.canLay0]; decide +kernel
    · simp only [eT, PyData.depth, PyData.depthAll]; omega
theorem can_all {D : Nat} : ∀ {ds : List PyData}, (∀ x ∈ ds, x.canLay0 = true ∧ x.depth ≤ D) → PyData.canLayAll0 ds = true ∧ PyData.depthAll ds ≤ D
  | [], _ => ⟨by rw [PyData.canLayAll0], by rw [PyData.depthAll]; exact Nat.zero_le _⟩
  | x :: r, h => by
    have h1 := h x List.mem_cons_self
    have h2 := can_all fun y hy => h y (List.mem_cons_of_mem _ hy)
    refine ⟨by rw [PyData.canLayAll0, h1.1, h2.1]; rfl, ?_⟩
    rw [PyData.depthAll]
    omega
theorem hand_ok (w : Bool) : PyData.strOk (hand w) = true := by cases w <;> decide +kernel
theorem can_eB {P : Str → Prop} {D d : Nat} (h : ∀ s, SmOk P d s → (eS s).canLay0 = true ∧ (eS s).depth ≤ D) {b : List Sm} (hb : BlOk P d b) : PyData.canLayAll0 (eB b) = true ∧ PyData.depthAll (eB b) ≤ D := by
  refine can_all fun x hx => ?_
  rw [eB_map] at hx
  obtain ⟨s, hs, rfl⟩ := List.mem_map.mp hx
  exact h s (hb s hs)
theorem can_eS {P : Str → Prop} (hP : ∀ x, P x → PyData.strOk x = true) : ∀ (d : Nat) (s : Sm), SmOk P d s → (eS s).canLay0 = true ∧ (eS s).depth ≤ 2 * d + 7
  | d, .set x e, q => by
    have q' : P x ∧ ExOk P 3 e := by cases d <;> exact q
    have ha := can_eE hP q'.2
    refine ⟨?_, ?_⟩
    · rw [eS, canT, PyData.canLayAll0, PyData.canLayAll0, PyData.canLayAll0, PyData.canLayAll0, ha.1, PyData.canLay0, PyData.canLay0, hP x q'.1]; decide +kernel
    · simp only [eS, PyData.depth, PyData.depthAll]; omega
  | d, .pay e, q => by
    have q' : ExOk P 3 e := by cases d <;> exact q
    have ha := can_eE hP q'
    refine ⟨?_, ?_⟩
    · rw [eS, canT, PyData.canLayAll0, PyData.canLayAll0, PyData.canLayAll0, ha.1, PyData.canLay0]; decide +kernel
    · simp only [eS, PyData.depth, PyData.depthAll]; omega
  | d, .stop, q => by
    refine ⟨?_, ?_⟩
    · rw [eS, canT, PyData.canLayAll0, PyData.canLayAll0, PyData.canLay0]; decide +kernel
    · simp only [eS, PyData.depth, PyData.depthAll]; omega
  | 0, .ite _ _ _, q => q.elim
  | 0, .ch _ _ _, q => q.elim
  | 0, .rep _ _, q => q.elim
  | d + 1, .ite t y n, q => by
    have ht := can_eT hP q.1
    have hy := can_eB (can_eS hP d) q.2.1
    have hn := can_eB (can_eS hP d) q.2.2
    refine ⟨?_, ?_⟩
    · rw [eS, canT, PyData.canLayAll0, PyData.canLayAll0, PyData.canLayAll0, PyData.canLayAll0, PyData.canLayAll0, ht.1, canT, canT, hy.1, hn.1, PyData.canLay0]; decide +kernel
    · simp only [eS, PyData.depth, PyData.depthAll]; omega
  | d + 1, .ch w a b, q => by
    have hy := can_eB (can_eS hP d) q.1
    have hn := can_eB (can_eS hP d) q.2
    refine ⟨?_, ?_⟩
    · rw [eS, canT, PyData.canLayAll0, PyData.canLayAll0, PyData.canLayAll0, PyData.canLayAll0, canT, canT, hy.1, hn.1, PyData.canLay0, hand_ok]; decide +kernel
    · simp only [eS, PyData.depth, PyData.depthAll]; omega
  | d + 1, .rep k b, q => by
    have hy := can_eB (can_eS hP d) q.2
    refine ⟨?_, ?_⟩
    · rw [eS, canT, PyData.canLayAll0, PyData.canLayAll0, PyData.canLayAll0, PyData.canLayAll0, canT, hy.1, PyData.canLay0, PyData.canLay0]; decide +kernel
    · simp only [eS, PyData.depth, PyData.depthAll]; omega
theorem shaped_mk {d : PyData} (h1 : d.canLay0 = true) (h2 : d.depth ≤ 64) : SeqAt.shaped d = true := by
  unfold SeqAt.shaped
  rw [h1, decide_eq_true h2]
  rfl
theorem shaped_nilT : SeqAt.shaped (.tuple []) = true := shaped_mk (by rw [canT, PyData.canLayAll0]) (by simp [PyData.depth, PyData.depthAll])
theorem shaped_nilL : SeqAt.shaped (.list []) = true := shaped_mk (by rw [PyData.canLay0, PyData.canLayAll0]) (by simp [PyData.depth, PyData.depthAll])
theorem shaped_S {P : Str → Prop} (hP : ∀ x, P x → PyData.strOk x = true) {d : Nat} {s : Sm} (h : SmOk P d s) (hd : d ≤ 20) : SeqAt.shaped (eS s) = true := by
  have := can_eS hP d s h
  exact shaped_mk this.1 (by omega)
theorem shaped_T {P : Str → Prop} (hP : ∀ x, P x → PyData.strOk x = true) {d : Nat} {t : Ts} (h : TsOk P d t) (hd : d ≤ 20) : SeqAt.shaped (eT t) = true := by
  have := can_eT hP h
  exact shaped_mk this.1 (by omega)
theorem eqv_T (t : Ts) : PyData.eqv (eT t) (.tuple []) = false := by cases t <;> simp [eT, PyData.eqv, PyData.eqvAll]
theorem eqv_S (t : Sm) : PyData.eqv (eS t) (.tuple []) = false := by cases t <;> simp [eS, PyData.eqv, PyData.eqvAll]
theorem eqv_nil : PyData.eqv (.tuple []) (.tuple []) = true := by simp [PyData.eqv, PyData.eqvAll]
end K28
/-! K28R: rules that the layer lacks: repr of data, a tuple times any small number. -/
namespace K28
open PySem PySem.Spec PyProof.Rows L2
/-! ### repr of data -/
theorem repr_data {X : Cx} (hg : X.A.guards = some []) (hu : X.A.units + 40 < cLine) : CallR X (.builtin "repr") (fun xs H Q => ∃ (a : Addr) (d : PyData), xs = [.ref a] ∧ Dp X.K H (.ref a) d ∧ d.showable = true ∧ d.hasDict = false ∧ d.depth ≤ 30 ∧ d.shown.length ≤ sizeLine ∧ Q (.str d.shown) H) := by
  intro pins s sg H xs us Q I r h
  obtain ⟨a, d, rfl, hd, h1, h2, h3, h4, q⟩ := h
  obtain ⟨u, rfl, ru⟩ := vals1 r
  cases ru
  obtain ⟨as, rd⟩ := Dp.reads I d _ _ hd rfl
  refine repr_of_reads' rd h1 (fun z => by rw [h2] at z; cases z) hg (by omega) (fun _ _ e => e) (fun h' u tk hk => ?_) h4
  exact ⟨.str d.shown, H, I.kept (t' := tk) hk, ⟨_, rfl⟩, q⟩
/-! ### a tuple times a number -/
theorem mul_self (l : Addr) (items : Array Value) (n : Nat) (dd : Option Addr) (sl : Array (Option Value)) (x : Int) (u : Tok) (b0 : (decide (x < -(2 ^ 63)) || decide (x ≥ 2 ^ 63)) = false) (b1 : (items.isEmpty || x == 1) = true) :
    Meets (Builtin.«tuple.__mul__» ⟨[.ref l, .int x u], []⟩) (fun _ R s => s.heap.get? l = some { cls := .type "tuple", dict := dd, data := .seq items n, slots := sl } ∧ R (.ok (.ret (Value.ref l))) s) :=
  .of_wp fun prog w A R s h => by
    obtain ⟨sh, sg, sd, st, so⟩ := s
    obtain ⟨hl, h⟩ := h
    have f1 := AutoSeq1.idx_int
    wp_walk using wpAny_loadPart' hl
    repeat (first
      | (refine wpAny_ite_false (decide_eq_false (by rw [b0]; exact Bool.false_ne_true)) ?_; wp_walk using wpAny_loadPart' hl)
      | (refine wpAny_ite_true (decide_eq_true (by rw [b1])) ?_; wp_walk using wpAny_loadPart' hl))
    exact ⟨_, rfl, h⟩
theorem mul_none (l : Addr) (items : Array Value) (n : Nat) (dd : Option Addr) (sl : Array (Option Value)) (x : Int) (u : Tok) (b0 : (decide (x < -(2 ^ 63)) || decide (x ≥ 2 ^ 63)) = false) (b1 : (items.isEmpty || x == 1) = false) (b2 : (decide (x ≤ 0) || items.isEmpty) = true) :
    Meets (Builtin.«tuple.__mul__» ⟨[.ref l, .int x u], []⟩) (fun _ R s => s.heap.get? l = some { cls := .type "tuple", dict := dd, data := .seq items n, slots := sl } ∧
      R (.ok (.ret (Value.ref s.heap.objs.size))) { s with heap := s.heap.push { cls := Value.type "tuple", data := Data.seq #[] }, toks := s.toks }) :=
  .of_wp fun prog w A R s h => by
    obtain ⟨sh, sg, sd, st, so⟩ := s
    obtain ⟨hl, h⟩ := h
    have f1 := AutoSeq1.idx_int
    wp_walk using wpAny_loadPart' hl
    repeat (first
      | (refine wpAny_ite_false (decide_eq_false (by rw [b0]; exact Bool.false_ne_true)) ?_; wp_walk using wpAny_loadPart' hl)
      | (refine wpAny_ite_false (decide_eq_false (by rw [b1]; exact Bool.false_ne_true)) ?_; wp_walk using wpAny_loadPart' hl)
      | (refine wpAny_ite_true (decide_eq_true (by rw [b2])) ?_; wp_walk using wpAny_loadPart' hl))
    exact ⟨_, rfl, h⟩
def rMulT (K : PySem.W.Frag) : R2 := fun x y H Q => ∃ l k xs, x = .ref l ∧ y = .int k ∧ SqT K H l xs ∧ 0 ≤ k ∧ k ≤ 1000 ∧ xs.length ≤ 1000 ∧ ∀ p H', SqT K H' p (List.replicate k.toNat xs).flatten → Ch [] H H' → Q (.ref p) H'
theorem flat_nil : ∀ k : Nat, (List.replicate k ([] : List V)).flatten = []
  | 0 => rfl
  | k + 1 => by rw [List.replicate_succ, List.flatten_cons, flat_nil k]; rfl
theorem op_mulT {X : Cx} : OpR X (binaryOp .Mult) (rMulT X.K) := by
  intro pins s sg H x y v u Q I rx ry h
  obtain ⟨l, k, xs, rfl, rfl, hT, h0, h1, hz, q⟩ := h
  by_cases hbig : xs ≠ [] ∧ 2 ≤ k
  · exact op_repT pins s sg H _ _ v u Q I rx ry ⟨l, k, xs, rfl, rfl, hT, hbig.1, hbig.2, h1, hz, fun p hp => q p _ sqt_new (Ch.new hp _)⟩
  cases rx
  obtain ⟨t, rfl⟩ := ry
  obtain ⟨its, r, ⟨⟨cls, dd, data, sl⟩, ho, hc, n, hd⟩, hs⟩ := I.tuple hT
  simp only at hc hd
  subst hc hd
  have hle : its.length = xs.length := r.length.symm
  have b0 : (decide (k < -(2 ^ 63)) || decide (k ≥ 2 ^ 63)) = false := by
    rw [decide_eq_false (by omega), decide_eq_false (by omega)] <;> rfl
  by_cases hk : xs = [] ∨ k = 1
  · have b1 : (its.toArray.isEmpty || k == 1) = true := by
      rcases hk with hk | hk
      · have e : its = [] := List.eq_nil_of_length_eq_zero (by rw [hle, hk]; rfl)
        rw [e]; rfl
      · rw [hk]; simp
    have same : (List.replicate k.toNat xs).flatten = xs := by
      rcases hk with hk | hk
      · rw [hk]; exact flat_nil _
      · rw [hk]
        show (List.replicate 1 xs).flatten = xs
        rw [List.replicate_one, List.flatten_cons, List.flatten_nil, List.append_nil]
    refine wpAny_binaryOp_repeat_ref (T := "tuple") (U := "int") (by decide) ⟨_, ho, rfl⟩ (fun s' => typeIs_int s' k t) noFill_tuple_mul F.fills_int_mul F.slot_int_rmul repeat_tuple F.slot_int_index.lookup
      (call_meets F.slot_int_rmul (typeIs_int s k t) F.entry_int_rmul (F.args_int_rmul_2 _ _) (int_rmul_tuple k t l its.toArray n dd sl)
        ⟨ho, rfl, ⟨_, ho, rfl⟩, call_meets F.slot_tuple_mul ⟨_, ho, rfl⟩ F.entry_tuple_mul (F.args_tuple_mul_2 _ _) (mul_self l its.toArray n dd sl k t b0 b1) ⟨ho, ?_⟩⟩)
    exact ⟨.ref l, H, I, rfl, q l H (by rw [same]; exact hT) (Ch.refl _ _)⟩
  · have hx : xs ≠ [] := fun e => hk (.inl e)
    have hk0 : k = 0 := by
      have h2 : ¬ 2 ≤ k := fun e => hbig ⟨hx, e⟩
      have h3 : k ≠ 1 := fun e => hk (.inr e)
      omega
    subst hk0
    have hi : its.toArray.isEmpty = false := by
      cases its with
      | nil => exact absurd (List.eq_nil_of_length_eq_zero (by rw [← hle]; rfl)) hx
      | cons a b => rfl
    have b1 : (its.toArray.isEmpty || (0 : Int) == 1) = false := by rw [hi]; rfl
    refine wpAny_binaryOp_repeat_ref (T := "tuple") (U := "int") (by decide) ⟨_, ho, rfl⟩ (fun s' => typeIs_int s' 0 t) noFill_tuple_mul F.fills_int_mul F.slot_int_rmul repeat_tuple F.slot_int_index.lookup
      (call_meets F.slot_int_rmul (typeIs_int s 0 t) F.entry_int_rmul (F.args_int_rmul_2 _ _) (int_rmul_tuple 0 t l its.toArray n dd sl)
        ⟨ho, rfl, ⟨_, ho, rfl⟩, call_meets F.slot_tuple_mul ⟨_, ho, rfl⟩ F.entry_tuple_mul (F.args_tuple_mul_2 _ _) (mul_none l its.toArray n dd sl 0 t b0 b1 rfl) ⟨ho, ?_⟩⟩)
    have hf := I.hok.fresh (Nat.le_refl s.heap.objs.size)
    refine ⟨.ref s.heap.objs.size, _, I.laid (t' := s.toks) (o := .tup []) (fun b ob q => Heap.get?_push_of_some _ q) (Nat.le_refl _) ?_, rfl, q _ _ sqt_new (Ch.new hf _)⟩
    exact ⟨Nat.zero_le _, [], .nil, IsTup.new _ _⟩
end K28
/-! K28G: a for in a generator's body (the layer has while alone). -/
namespace K28
open PySem PySem.Spec PyProof.Rows L2 GenW
section
variable {M : Model} {A : Around} {R : GenEnd} {Y : Protocol} {n : Nat} {s0 : Shared} {c : Code} {fs : List Frame} {s : Shared} {env : Env} {K : Flow → Sem PySem.Fin} {J : Value → Sem PySem.Fin} {gd : Bool → Bool} {lv : List Value → List Value}
theorem seg_for {target iter : Expr} {body : List Stmt} {pos : Pos} (hs : ∀ x, foldedSetIterable iter env x = pure x)
    (h : wpAny M (A.over c fs) (eval iter env) (fun x s1 => wpAny M (A.over c fs) (pyIter x) (fun it s2 => ∀ p, Seg M A R Y n s0 (.forLoop target it body [] env) (M.den (.forLoop target it body [] env))
        (.ret (fun r => ((match r with | .ok f => (.pure f : Sem Flow) | .error e => .raise e).onRaise (cameBack env)).wrap K J gd lv) none (gd false) (lv []) c p [] :: fs) s2)
      (fun x s' => Seg M A R Y n s0 c (J x) fs s') s1) (fun x s' => Seg M A R Y n s0 c (J x) fs s') s) :
    Seg M A R Y n s0 c ((exec (.For target iter body [] pos) env).wrap K J gd lv) fs s := by
  rw [exec_For]
  refine seg_bind_wrap (wpAny_standAt (seg_bind_wrap (wpAny_mono h (fun x s1 h1 => ?_) fun _ _ z => z)))
  refine seg_bind_wrap (wpAny_of_eq (hs x) (seg_bind_wrap (wpAny_standAt ?_)))
  refine seg_bind_wrap (wpAny_holding (wpAny_mono h1 (fun it s2 h2 => ?_) fun _ _ z => z))
  exact seg_call h2
end
/-- an exception within a turn -/
def exT (env : Env) (x : Value) : Sem PySem.Fin := (do noteFrame x env; theTreesLotGoes x : Sem Unit).wrap (fun _ => .raise x) .raise id id
section
variable {prog : Program} {w : World} {A : Around} {R : GenEnd} {Y : Protocol} {n : Nat} {s0 : Shared} {fs : List Frame} {s : Shared} {env : Env}
theorem seg_forLoop {target : Expr} {it : Value} {body : List Stmt}
    (h : wpAny (model prog w) (A.over (.forLoop target it body [] env) fs) (pyNext it) (fun r s' => match r with
        | none => Seg (model prog w) A R Y n s0 (.block [] env) ((model prog w).den (.block [] env)) fs s'
        | some v => wpAny (model prog w) (A.over (.forLoop target it body [] env) fs) (letOwnedTupleGo target it v) (fun _ s1 =>
            wpAny (model prog w) (A.over (.forLoop target it body [] env) fs) (assign target env v) (fun _ s2 =>
              Seg (model prog w) A R Y n s0 (.forLoop target it body [] env) ((execs body env).wrap (fun f => match f with
                | .next | .cont => .pure (.again (.forLoop target it body [] env))
                | .brk => .pure (.done .next)
                | .ret v => .pure (.done (.ret v))) (exT env) id id) fs s2)
              (fun x s' => Seg (model prog w) A R Y n s0 (.forLoop target it body [] env) (exT env x) fs s') s1)
            (fun x s' => Seg (model prog w) A R Y n s0 (.forLoop target it body [] env) (exT env x) fs s') s')
      (fun x s' => Seg (model prog w) A R Y n s0 (.forLoop target it body [] env) (exT env x) fs s') s) :
    Seg (model prog w) A R Y n s0 (.forLoop target it body [] env) ((model prog w).den (.forLoop target it body [] env)) fs s := by
  have ex : ∀ x : Value, ((do noteFrame x env; theTreesLotGoes x : Sem Unit).bind fun _ => (.raise x : Sem PySem.Fin)) = exT env x := fun x => by rw [Sem.bind_eq_wrap]; rfl
  show Seg _ A R Y n s0 _ ((forTurn target it body [] env).onRaise (fun x => do noteFrame x env; theTreesLotGoes x)) fs s
  rw [Sem.onRaise_eq_wrap]
  unfold forTurn
  refine seg_bind_wrap (wpAny_standAt (seg_bind_wrap (wpAny_onRaise (wpAny_mono h (fun r s1 h1 => ?_) fun x s1 h1 => wpAny_standAt ?_))))
  · cases r with
    | none => exact seg_again rfl h1
    | some v =>
      refine seg_bind_wrap (wpAny_mono h1 (fun _ s2 h2 => ?_) fun x s2 h2 => ?_)
      · refine seg_bind_wrap (wpAny_mono h2 (fun _ s3 h3 => ?_) fun x s3 h3 => ?_)
        · rw [Sem.bind_eq_wrap', Sem.wrap_wrap]
          refine Eq.mp (congrArg (fun t => Seg (model prog w) A R Y n s0 (.forLoop target it body [] env) t fs s3) ?_) h3
          exact Sem.wrap_congr (execs body env) id id (fun f => by cases f <;> rfl) (fun e => (ex e).symm)
        · rw [ex]; exact h3
      · rw [ex]; exact h2
  · rw [ex]; exact h1
end
/-- the reading of a for in a generator -/
def tGFor (wi : TI) (g : TG) (tb : TGn) : TGn := fun D ys sg H => wi sg H fun I H1 => ∃ W : Nat → Nat → List V → L2.St → Hp → Prop, (∃ m, W 0 m ys sg H1) ∧ ∀ i m ys sg H, W i m ys sg H →
  (I.stop i H ∧ D.nx ys sg H) ∨ (I.go i H ∧ ∃ N : List V → L2.St → Hp → Prop, (∀ ys' sg' H', N ys' sg' H' → ∃ m', m' < m ∧ W (i + 1) m' ys' sg' H') ∧
    ∀ x H', I.yld i H x H' → g x sg H' fun sg2 H2 => tb { D with nx := N, ct := N, bk := D.nx } ys sg2 H2)
theorem fp_acc {X : Cx} {S : Addr} {o o' : Obj} {ip : List (Addr × Obj)} {H : Hp} {b : Addr} (h : FpOk X ((S, o) :: ip) H b) : FpOk X ((S, o') :: ip) H b := by
  obtain ⟨h1, h2, h3, h4, h5, h6⟩ := h
  refine ⟨h1, h2, h3, h4, h5, fun p hp => ?_⟩
  rcases List.mem_append.mp hp with hp | hp
  · exact h6 p (List.mem_append_left _ hp)
  · rcases List.mem_cons.mp hp with rfl | hp
    · exact h6 (S, o) (List.mem_append_right _ List.mem_cons_self)
    · exact h6 p (List.mem_append_right _ (List.mem_cons_of_mem _ hp))
theorem gs_for {X : Cx} {tg iter : Expr} {body : List Stmt} {pos : Pos} {wi : TI} {g : TG} {tb : TGn} (hp : PassesOwn (model X.prog X.w) X.A X.env X.xe) (hc : X.calm = true) (hi : PI X tg iter wi) (hg : PG X tg g) (hb : GSs X body tb)
    (hs : ∀ x, foldedSetIterable iter X.env x = pure x := by intro _; rfl) : GS X (.For tg iter body [] pos) (tGFor wi g tb) := by
  refine ⟨fun A S ip R n ys s0 c fs K J gd lv s sg H D gc hn k hI ht => ?_⟩
  obtain ⟨acc0, cc0, r0, I0⟩ := hI
  refine seg_for hs ?_
  rw [gc.over]
  refine wpAny_mono (hi.run _ s sg H _ I0 ht) (fun v s1 h1 => wpAny_mono h1 (fun itv s2 h2 p => ?_) fun x s' hx => k.exc n s0 x s' hx) fun x s' hx => k.exc n s0 x s' hx
  obtain ⟨it, fp, tn, Jt, H2, e, I2, T, st2, f2, W, ⟨m0, w0⟩, turn⟩ := h2
  subst e
  have stat : ∀ {H' : Hp} {acc : Array Value} {cc : Nat}, (∀ b ∈ fp, H' b = none) → ∀ b ∈ fp, FpOk X ((S, lstObj acc cc) :: ip) H' b := fun hz b hb => fp_acc (o := lstObj acc0 cc0) ⟨hz b hb, (f2 b hb).2⟩
  have gl := fun (kk : Result → Sem PySem.Fin) => gc_loop (k := kk) (c' := .forLoop tg (.ref it) body [] X.env) (l := lv []) (kp := []) (p := p) gc rfl rfl
  have loop : ∀ (m n : Nat) (ys : List V) (s0 s : Shared) (i : Nat) (sg : L2.St) (H : Hp), n + ys.length = sizeLine → W i m ys sg H → GI X S ip ys sg H s → tn i s.heap → (∀ b ∈ fp, H b = none) →
      Seg (model X.prog X.w) A R (GY X S) n s0 (.forLoop tg (.ref it) body [] X.env) ((model X.prog X.w).den (.forLoop tg (.ref it) body [] X.env))
        (.ret (fun r => ((match r with | .ok f => (.pure f : Sem Flow) | .error e => .raise e).onRaise (cameBack X.env)).wrap K J gd lv) none (gd false) (lv []) c p [] :: fs) s := by
    intro m
    induction m using Nat.strongRecOn with
    | ind m ih =>
      intro n ys s0 s i sg H hn w hI st3 fr3
      have ee : ∀ (n : Nat) (s0 : Shared) (x : Value) (s' : Shared), X.xe x s' → Seg (model X.prog X.w) A R (GY X S) n s0 (.forLoop tg (.ref it) body [] X.env) (exT X.env x)
          (.ret (fun r => ((match r with | .ok f => (.pure f : Sem Flow) | .error e => .raise e).onRaise (cameBack X.env)).wrap K J gd lv) none (gd false) (lv []) c p [] :: fs) s' := fun n s0 x s' hx => by
        refine seg_wrap ?_
        rw [(gl _).over]
        refine wpAny_bind (wpAny_mono (hp x s' hx) (fun _ s2 hcb => wpAny_theTreesLotGoes ?_) fun y s2 hcb => ?_)
        · exact seg_leaf (.error x) (seg_cameBack gc k hcb)
        · exact seg_leaf (.error y) (seg_cameBack gc k hcb)
      obtain ⟨acc, cc, r, I⟩ := hI
      refine seg_forLoop ?_
      rw [(gl _).over]
      rcases turn i m ys sg H w with ⟨stop, qn⟩ | ⟨go, N, hN, step⟩
      · refine wpAny_mono (T.done X rfl rfl rfl hc i _ s sg H X.xe I (stat fr3) st3 stop) (fun r3 s3 h3 => ?_) fun x s' hx => ee n s0 x s' hx
        obtain ⟨rfl, I3⟩ := h3
        show Seg (model X.prog X.w) A R (GY X S) n s0 (.block [] X.env) ((do return Fin.done (← (execs [] X.env).onRaise (fun x => do noteFrame x X.env; theTreesLotGoes x)) : Sem PySem.Fin)) _ s3
        exact seg_leaf (.ok .next) (k.ok n ys s0 s3 .next hn ⟨sg, H, ⟨acc, cc, r, I3⟩, qn⟩)
      · refine wpAny_mono (T.item X rfl rfl rfl hc i _ s sg H X.xe I (stat fr3) st3 go) (fun r3 s3 h3 => ?_) fun x s' hx => ee n s0 x s' hx
        obtain ⟨u, rfl, h4⟩ := h3
        refine wpAny_mono h4 (fun _ s4 h5 => ?_) fun x s' hx => ee n s0 x s' hx
        obtain ⟨x, H5, I5, r5, y5, st5, fr5⟩ := h5
        have I6 := I5.pinned (stat fr5) (T.obj _ _ st5)
        refine wpAny_mono (hg.run _ s4 sg H5 x u _ I6 r5 (step x H5 y5)) (fun _ s5 h6 => ?_) fun x s' hx => ee n s0 x s' hx
        obtain ⟨sg6, H6, I7, q6⟩ := h6
        have hipS : ∀ q ∈ ip ++ pinsAt fp s4.heap, q.1 ≠ S := fun q hq => by
          rcases List.mem_append.mp hq with hq | hq
          · exact gc.ip q hq
          · have z := (stat (acc := acc) (cc := cc) fr5 q.1 (of_pinsAt hq).1).2.2.2.2.2 (S, lstObj acc cc) (List.mem_append_right _ List.mem_cons_self)
            exact fun e => z e.symm
        have again : ∀ {n' : Nat} {ys' : List V} {s0' s7 : Shared} {sg7 : L2.St} {H7 : Hp}, n' + ys'.length = sizeLine → GI X S (ip ++ pinsAt fp s4.heap) ys' sg7 H7 s7 → N ys' sg7 H7 →
            Seg (model X.prog X.w) A R (GY X S) n' s0' (.forLoop tg (.ref it) body [] X.env) (.pure (.again (.forLoop tg (.ref it) body [] X.env))) (.ret (fun r => ((match r with | .ok f => (.pure f : Sem Flow) | .error e => .raise e).onRaise (cameBack X.env)).wrap K J gd lv) none (gd false) (lv []) c p [] :: fs) s7 := by
          intro n' ys' s0' s7 sg7 H7 hn' hI7 n7
          obtain ⟨acc7, cc7, r7, I8⟩ := hI7
          obtain ⟨m', hm, w7⟩ := hN ys' sg7 H7 n7
          have pinned : ∀ b ∈ fp, ∀ o, s4.heap.get? b = some o → s7.heap.get? b = some o ∧ H7 b = none := fun b hb o e => by
            have z := I8.pin (b, o) (List.mem_append_right _ (List.mem_cons_of_mem _ (List.mem_append_right _ (mem_pinsAt hb e))))
            exact ⟨z.1, z.2.1⟩
          have I9 : Inv X ((S, lstObj acc7 cc7) :: ip) sg7 H7 s7 := Inv.unpinned (pins := (S, lstObj acc7 cc7) :: ip) (pl := pinsAt fp s4.heap) I8
          refine seg_again rfl (ih m' hm n' ys' s0' s7 (i + 1) sg7 H7 hn' w7 ⟨acc7, cc7, r7, I9⟩ (T.keep _ _ _ st5 fun b hb o e => (pinned b hb o e).1) fun b hb => ?_)
          obtain ⟨o, e, _⟩ := T.obj _ _ st5 b hb
          exact (pinned b hb o e).2
        have back : ∀ {ys' : List V} {sg7 : L2.St} {H7 : Hp} {s7 : Shared}, GI X S (ip ++ pinsAt fp s4.heap) ys' sg7 H7 s7 → GI X S ip ys' sg7 H7 s7 := by
          intro ys' sg7 H7 s7 hI7
          obtain ⟨acc7, cc7, r7, I8⟩ := hI7
          exact ⟨acc7, cc7, r7, Inv.unpinned (pins := (S, lstObj acc7 cc7) :: ip) (pl := pinsAt fp s4.heap) I8⟩
        refine hb.run A S (ip ++ pinsAt fp s4.heap) R n ys s0 _ _ _ _ id id s5 sg6 H6 { D with nx := N, ct := N, bk := D.nx } { gl _ with ip := hipS } hn ⟨fun n' ys' s0' s7 f hn' hs => ?_, fun n' s0' x s7 hx => ee n' s0' x s7 hx⟩ ⟨acc, cc, r, I7⟩ q6
        cases f with
        | next =>
          obtain ⟨sg7, H7, hI7, n7⟩ := hs
          exact again hn' hI7 n7
        | cont =>
          obtain ⟨sg7, H7, hI7, n7⟩ := hs
          exact again hn' hI7 n7
        | brk =>
          obtain ⟨sg7, H7, hI7, q7⟩ := hs
          exact seg_leaf (.ok .next) (k.ok n' ys' s0' s7 .next hn' ⟨sg7, H7, back hI7, q7⟩)
        | ret v =>
          obtain ⟨v7, sg7, H7, hI7, r7, q7⟩ := hs
          exact seg_leaf (.ok (.ret v)) (k.ok n' ys' s0' s7 (.ret v) hn' ⟨v7, sg7, H7, back hI7, r7, q7⟩)
  exact loop m0 n ys s0 s2 0 sg H2 hn w0 ⟨acc0, cc0, r0, I2⟩ st2 fun b hb => (f2 b hb).1
end K28
/-! K28X: the end of the row where the law's own frame knows that no guard runs (repr asks it). -/
namespace K28
open PySem PySem.Spec PyProof.Rows L2
/-- a def is run at one call: its body's reading at this very call -/
theorem run_at {CX : CXT} {P : Program} {w : World} {K : PySem.W.Frag} {mg : Str → Option Value} {base : Heap} {k : Nat} {x qual : Str} {st : Stmt} {f : Addr} {fd : FuncData} {N ps : List Str} (F : Fun K x qual st f fd) (S : FnScope N ps (defScope st))
    {A : Around} {outer : List Env} {s : Shared} {H : Hp} {args : Args} {us : List Value} {vs : List V} {Q : VK} {E : XK} (hr : Room (k + 1) A) (e0 : Env0 P w K mg base A outer s H) (hb : BindsTo s fd args (ps.zip us)) (rv : Vals vs us) (hl : vs.length = ps.length)
    (body : ∀ cdv : Value, Room k (A.deeper (envOfC qual (defScope st) s.heap.objs.size f cdv)) → ∃ t, PSs (cxOf CX P w K mg base N qual (defScope st) f cdv A outer s H E) (defBody st) t ∧ t { nx := fun _ H' => Q .non H', rt := Q } (L2.start N vs) H) :
    codeAny (model P w) A (.call (.ref f) args) (CR CX outer P w H s Q E) s := by
  obtain ⟨oc, od, kV, doc, pm, an, cdv, ct, osl, rfl, lk, hcd⟩ := F.ex
  have old : ∀ b o, base.get? b = some o → s.heap.get? b = some o := fun b o e => (e0.bs b o e).1
  have kin : K.In s.heap := e0.mod.kin.keeps old
  have kinds : ∀ y ∈ ps.zip us, (defScope st).names.lookup y.1 = some .local ∨ ((defScope st).names.lookup y.1 = some .cell ∧ ((cellsFrom (s.heap.objs.size + 1) (defScope st).names []).lookup y.1).isSome = true) := by
    rintro ⟨n, v⟩ hy
    rcases S.par n (List.of_mem_zip hy).1 with q | q
    · exact .inl q
    · exact .inr ⟨q, PySem.W.cellsFrom_some _ _ _ (.inl q)⟩
  refine codeAny_call_function hr.depth (kin _ _ lk) rfl S.co S.gen rfl (PySem.W.codeRec_of kin hcd) (hb _ _ _ _ ?_)
  refine wpAny_newFunctionEnv_cells S.kind kinds fun env he s1 x => ?_
  subst he
  refine ⟨(e0.mod.nolimit.keeps old).keeps x.toInCall.keep, codeAny_func ?_⟩
  obtain ⟨t, ht, hq⟩ := body cdv (hr.deeper _)
  have I := inv_start (CX := CX) (E := E) S hr.hd e0 hl rv x
  refine wpAny_mono (ht.run [] s1 (L2.start N vs) H _ I hq) (fun fl s' hs => ?_) fun e s' hs => hs
  cases fl with
  | ret u =>
    obtain ⟨v, _, H', J, r, q⟩ := hs
    exact ⟨v, H', J.os, J.bare, J.base, J.hok, r, q⟩
  | next =>
    obtain ⟨_, H', J, q⟩ := hs
    exact ⟨V.non, H', J.os, J.bare, J.base, J.hok, rfl, q⟩
  | brk =>
    obtain ⟨_, _, _, q⟩ := hs
    exact False.elim q
  | cont =>
    obtain ⟨_, _, _, q⟩ := hs
    exact False.elim q
/-- what the law's call wants at the caller, over the heap without the script -/
def Asks (P : Program) (w : World) (K : PySem.W.Frag) (mg : Str → Option Value) (fa a : Addr) (ns : List Int) (s1 : Shared) : Prop :=
  ∀ (base : Heap) (H : Hp), K.In base → base.Ns mainGlobals mg → SqL K H a (ns.map V.int) → Env0 P w K mg base callerA [] s1 H →
    codeAny (model P w) callerA (.call (.ref fa) ⟨[.ref a], []⟩) (CR CX0 [] P w H s1 (fun v _ => v = .bl true) E0) s1
theorem law_at {P : Program} {w : World} {K : PySem.W.Frag} {mg mb : Str → Option Value} {fa a : Addr} {s1 : Shared} {vs : List Value} {ns : List Int} (kx : K.In s1.heap) (hns : s1.heap.Ns mainGlobals mg) (hb : s1.heap.Ns builtinsNs mb) (hbb : ∀ x : Str, x ≠ "__name__" → mb x = bootBuiltins x)
    (hlim : s1.heap.NoLimit) (hg : s1.gens = #[]) (ha : s1.heap.get? a = some { cls := .type "list", data := .seq vs.toArray }) (hi : IntsAre vs ns) (hl : ns.length ≤ sizeLine) (F : Asks P w K mg fa a ns s1) :
    codeAny (model P w) callerA (.call (.ref fa) ⟨[.ref a], []⟩) (fun r s' => r = .ok (.ret (.bool true)) ∧ OldK s1.heap s'.heap ∧ s'.os = s1.os ∧ AllBare s'.gens) s1 := by
  have rv := vals_ints hi
  have core : ∀ H : Hp, Only H → SqL K H a (ns.map V.int) → HOk P w H s1.heap → (∀ b, H b ≠ none → b = a ∧ K.lookup a = none) →
      codeAny (model P w) callerA (.call (.ref fa) ⟨[.ref a], []⟩) (fun r s' => r = .ok (.ret (.bool true)) ∧ OldK s1.heap s'.heap ∧ s'.os = s1.os ∧ AllBare s'.gens) s1 := by
    intro H only hS hok hA
    have hid : ∀ {b : Addr} {o : Obj}, s1.heap.get? b = some o → b ≠ a ∨ H a = none → (hidT s1.heap H).get? b = some o := fun {b o} e z => hidT_get e (by
      cases q : H b with
      | none => rfl
      | some u =>
        have hb' := (hA b (by rw [q]; simp)).1
        rcases z with z | z
        · exact absurd hb' z
        · rw [hb', z] at q; cases q)
    have nd : ∀ {b : Addr} {o : Obj} {es : Array DictEntry} {ep : Nat}, s1.heap.get? b = some o → o.data = .dict es ep → b ≠ a := fun {b o es ep} e d z => by
      rw [z, ha] at e
      cases e
      have d' : Data.seq vs.toArray _ = Data.dict es ep := d
      cases d'
    have nsK : ∀ {b : Addr} {m : Str → Option Value}, s1.heap.Ns b m → (hidT s1.heap H).Ns b m := fun {b m} ⟨o, es, ep, e, d, r⟩ => ⟨o, es, ep, hid e (.inl (nd e d)), d, r⟩
    have kb : K.In (hidT s1.heap H) := fun b o e => hid (kx b o e) (by
      by_cases z : b = a
      · refine .inr ?_
        cases q : H a with
        | none => rfl
        | some u =>
          have := (hA a (by rw [q]; simp)).2
          rw [← z, e] at this
          cases this
      · exact .inl z)
    have mo : Mod K mg (hidT s1.heap H) := ⟨kb, nsK hns, ⟨mb, nsK hb, hbb⟩, let ⟨mc, h1, h2⟩ := hlim; ⟨mc, nsK h1, h2⟩⟩
    have e0 : Env0 P w K mg (hidT s1.heap H) callerA [] s1 H := ⟨rfl, mo, fun b o e => of_hidT e, Nat.le_of_eq (hidT_size _ _), trivial, fun b z => absurd (show b ∈ ([] : List Addr) from z) (by simp), hok, .of_eq hg⟩
    refine codeAny_mono (F _ H kb (nsK hns) hS e0) fun r s' h => ?_
    cases r with
    | error e => exact False.elim h
    | ok fl =>
      cases fl with
      | next => exact False.elim h
      | brk => exact False.elim h
      | cont => exact False.elim h
      | ret u =>
        obtain ⟨v, H', os, bare, un, hok', r', q⟩ := h
        have q' : v = .bl true := q
        subst q'
        obtain rfl : u = Value.bool true := r'
        refine ⟨rfl, OldK.of_keep fun b o e => ?_, os, bare⟩
        rcases only b with z | ⟨ob, xs, z⟩
        · exact un.keep b o e z (fun y => absurd (show b ∈ ([] : List Addr) from y) (by simp)) (by simp)
        · obtain ⟨e1, _⟩ := hok b _ z
          obtain ⟨e2, _⟩ := hok' b _ (un.frzs b ob _ z)
          rw [e] at e1
          cases e1
          exact e2
  cases hk : K.lookup a with
  | some o =>
    have e := kx a o hk
    rw [ha] at e
    cases e
    refine core (fun _ => none) (fun _ => .inl rfl) (.inr ⟨_, vs.toArray, _, hk, rfl, rfl, rfl, by rw [List.size_toArray, hi.length]; exact hl, by simpa using rv⟩) (fun b u z => ?_) fun b z => absurd rfl z
    have z' : (none : Option HO) = some u := z
    cases z'
  | none =>
    have at_ : ∀ b, (if b = a then some (HO.frz { cls := .type "list", data := .seq vs.toArray } (.lst (ns.map V.int))) else none) ≠ none → b = a := fun b z => by
      by_cases y : b = a
      · exact y
      · rw [if_neg y] at z; exact absurd rfl z
    refine core (fun b => if b = a then some (.frz { cls := .type "list", data := .seq vs.toArray } (.lst (ns.map V.int))) else none) (fun b => ?_) (.inl (.inr ⟨{ cls := .type "list", data := .seq vs.toArray }, if_pos rfl⟩)) (fun b u z => ?_) fun b z => ⟨at_ b z, hk⟩
    · by_cases y : b = a
      · exact .inr ⟨_, _, if_pos y⟩
      · exact .inl (if_neg y)
    · have y := at_ b (fun y0 => absurd (y0.symm.trans z) (fun q => nomatch q))
      have z' := (if_pos y).symm.trans z
      cases z'
      subst y
      exact ⟨ha, by rw [List.length_map]; exact hl, vs, _, rv, ha⟩
theorem walkG {l : PySem.W.OpenLaw} {q : Program} {loose : List Str} {XP : (Str → Option Value) → Heap → Prop} {YP : World → Heap → Prop} {d : DefRec} {K : Params → PySem.W.Frag} (hn : l.most = some 63) (hdf : d.params.defaults = []) (hY : ∀ (w : World) (h : Heap), YP w h → (K w.params).In h)
    (F : ∀ (w : World) (mg : Str → Option Value) (fa a : Addr) (ns : List Int) (s1 : Shared), (K w.params).In s1.heap → s1.heap.Ns mainGlobals mg → mg d.name = some (.ref fa) → ns.length ≤ 63 → (∀ z ∈ ns, Builtin.Int.intBits z ≤ 1048576) → Asks l.prog w (K w.params) mg fa a ns s1) :
    PySem.W.WalkO q loose XP YP l.row.toRowW d [] (fun f vs => PySem.call f vs) := by
  refine Att.attach_callB hn hdf fun w s0 s1 mg mb fa o pm cd doc a vs ns G Y ho hd hcd hmg hobj hints hlen hbits hg => ?_
  have kx := hY w _ Y
  exact law_at kx G.T.g G.T.b G.T.builtins G.T.nolimit hg hobj hints (Nat.le_trans hlen (by decide)) (F w mg fa a ns s1 kx G.T.g hmg hlen hbits)
end K28
/-! K28T: the text by places, what its top leaves, short words. -/
namespace K28
open PySem PySem.Spec PyProof.Rows L2
def tp (i : Nat) : Stmt := PySem.Challenge.pw_weandthey_k28_whole_programs_written_oth.main.body.getD i (.Pass ⟨0, 0, 0, 0⟩)
/-- a def as it stands behind the top -/
structure Dh (K : PySem.W.Frag) (mg : Str → Option Value) (x : Str) (st : Stmt) (ps : List Str) : Prop where
  ex : ∃ (f : Addr) (fd : FuncData), Fun K x x st f fd ∧ mg x = some (.ref f) ∧ Binds K fd ps []
/-- .. with its promise -/
structure Df (P : Program) (w : World) (K : PySem.W.Frag) (mg : Str → Option Value) (base : Heap) (k : Nat) (x : Str) (sp : Sp) : Prop where
  ex : ∃ (f : Addr) (fd : FuncData) (ps : List Str), FnOk P w K mg base CX0 k f fd ps sp ∧ mg x = some (.ref f) ∧ PySem.W.keepIn K (.ref f) = true ∧ Binds K fd ps []
section
variable {P : Program} {w : World} {K : PySem.W.Frag} {mg : Str → Option Value} {base : Heap}
theorem Df.mono {j k : Nat} {x : Str} {sp : Sp} (D : Df P w K mg base j x sp) (h : j ≤ k) : Df P w K mg base k x sp := by
  obtain ⟨f, fd, ps, F, r⟩ := D.ex
  exact ⟨f, fd, ps, F.mono h, r⟩
theorem Df.imp {k : Nat} {x : Str} {sp sp' : Sp} (D : Df P w K mg base k x sp) (h : ∀ vs H Q E, sp' vs H Q E → sp vs H Q E) : Df P w K mg base k x sp' := by
  obtain ⟨f, fd, ps, F, r⟩ := D.ex
  exact ⟨f, fd, ps, F.imp h, r⟩
theorem Dh.ok {x : Str} {st : Stmt} {N ps : List Str} {k : Nat} {sp : Sp} (D : Dh K mg x st ps) (S : FnScope N ps (defScope st)) (len : ∀ vs H Q E, sp vs H Q E → vs.length = ps.length)
    (body : ∀ (f : Addr) (cdv : Value) (A : Around) (outer : List Env) (s : Shared) (H : Hp) (vs : List V) (Q : VK) (E : XK), Room k (A.deeper (envOfC x (defScope st) s.heap.objs.size f cdv)) → sp vs H Q E →
      ∃ t, PSs (cxOf CX0 P w K mg base N x (defScope st) f cdv A outer s H E).nox (defBody st) t ∧ t { nx := fun _ H' => Q .non H', rt := Q } (L2.start N vs) H) : Df P w K mg base (k + 1) x sp := by
  obtain ⟨f, fd, F, hm, b⟩ := D.ex
  exact ⟨f, fd, ps, F.ok S len (body f), hm, F.kp, b⟩
/-- nothing can be asked -/
theorem Dh.none {x : Str} {st : Stmt} {ps : List Str} {k : Nat} {sp : Sp} (D : Dh K mg x st ps) (no : ∀ vs H Q E, ¬ sp vs H Q E) : Df P w K mg base k x sp := by
  obtain ⟨f, fd, F, hm, b⟩ := D.ex
  exact ⟨f, fd, ps, ⟨fun vs H Q E h => absurd h (no vs H Q E), fun A outer s H args us vs Q E _ _ _ _ h => absurd h (no vs H Q E)⟩, hm, F.kp, b⟩
end
section
variable {X : Cx} {k j : Nat} {x : Str} {sp : Sp} {p pos : Pos} {e : Expr} {es : List Expr} {t : TA}
theorem pdf (c : Df X.prog X.w X.K X.mg X.base k x sp) (hr : Room j X.A) (hk : k ≤ j) (hg : Gl X x) (ha : PA X (e :: es) t)
    (hdb : (x == ("__debug__" : Str)) = false := by decide) (he : starEach (e :: es) X.env = (false, eval e X.env) :: starEach es X.env := by rfl) (hpl : (backTo pos (starEach es X.env)).any (·.1) = false := by rfl) :
    PE X (.Call (.Name x p) (e :: es) [] pos) (tCall sp [] E0 t) := by
  obtain ⟨f, fd, ps, F, hm, kp, b⟩ := c.ex
  exact pe_call F (hr.mono hk) hg hm kp b .nil pass0 ha hdb he hpl
theorem pgc {v : V} (hg : Gl X x) (h : ∃ u, X.mg x = some u ∧ RelV v u) (hd : (x == ("__debug__" : Str)) = false := by decide) : PE X (.Name x pos) (tC v) := by
  obtain ⟨u, hm, r⟩ := h
  exact pe_glob hg hm r hd
end
/-! ### tests whose answer is known -/
theorem ifT {p : Prop} [Decidable p] {A B : Prop} (h : p) (a : A) : if decide p = true then A else B := by
  rw [decide_eq_true h]; exact iteT a
theorem ifF {p : Prop} [Decidable p] {A B : Prop} (h : ¬ p) (b : B) : if decide p = true then A else B := by
  rw [decide_eq_false h]; exact iteF b
theorem if2 {p : Prop} [Decidable p] {A B : Prop} (a : p → A) (b : ¬ p → B) : if decide p = true then A else B := by
  by_cases h : p
  · exact ifT h (a h)
  · exact ifF h (b h)
theorem ifB {c : Bool} {A B : Prop} (a : c = true → A) (b : c = false → B) : if c = true then A else B := by
  cases c with
  | true => exact iteT (a rfl)
  | false => exact iteF (b rfl)
theorem dec_int (a b : Int) : decide (V.int a = V.int b) = decide (a = b) := by
  by_cases h : a = b
  · rw [h]; simp
  · rw [decide_eq_false h, decide_eq_false (fun e => h (V.int.inj e))]
theorem dec_str (a b : Str) : decide (V.str a = V.str b) = decide (a = b) := by
  by_cases h : a = b
  · rw [h]; simp
  · rw [decide_eq_false h, decide_eq_false (fun e => h (V.str.inj e))]
/-! ### isinstance -/
section
variable {K : PySem.W.Frag} {H : Hp}
theorem isi {x : V} {t T : String} {b : Bool} {Q : VK} (ty : TyX K H x (.type t)) (h : kitB t T = some b) (q : Q (.bl b) H) : rIsi K [x, .ty T] H Q :=
  ⟨x, .ty T, .type t, .type T, b, rfl, .ty T, ty, kit_ty h, q⟩
theorem tyI (i : Int) : TyX K H (.int i) (.type "int") := .base (.int i)
theorem tyS (x : Str) : TyX K H (.str x) (.type "str") := .base (.str x)
theorem tyT {a : Addr} {xs : List V} (h : SqT K H a xs) : TyX K H (.ref a) (.type "tuple") := by
  rcases h with (h | ⟨o, h⟩) | ⟨o, its, n, h, c, _⟩
  · exact .base (.tup h)
  · exact .fTuple h
  · exact .kTuple h c
theorem kb_is : kitB "int" "str" = some false := by decide +kernel
theorem kb_ii : kitB "int" "int" = some true := by decide +kernel
theorem kb_it : kitB "int" "tuple" = some false := by decide +kernel
theorem kb_ib : kitB "int" "bool" = some false := by decide +kernel
theorem kb_ss : kitB "str" "str" = some true := by decide +kernel
theorem kb_si : kitB "str" "int" = some false := by decide +kernel
theorem kb_st : kitB "str" "tuple" = some false := by decide +kernel
theorem kb_ts : kitB "tuple" "str" = some false := by decide +kernel
theorem kb_ti : kitB "tuple" "int" = some false := by decide +kernel
theorem kb_tt : kitB "tuple" "tuple" = some true := by decide +kernel
theorem at0 {a : V} {r : List V} : atI (a :: r) 0 = some a := atI_nat (j := 0) rfl
theorem at1 {a b : V} {r : List V} : atI (a :: b :: r) 1 = some b := atI_nat (j := 1) rfl
theorem at2 {a b c : V} {r : List V} : atI (a :: b :: c :: r) 2 = some c := atI_nat (j := 2) rfl
theorem at3 {a b c d : V} {r : List V} : atI (a :: b :: c :: d :: r) 3 = some d := atI_nat (j := 3) rfl
end
/-! ### what the top leaves -/
structure Txt (K : PySem.W.Frag) (mg : Str → Option Value) (aC aK : Addr) : Prop where
  z_isinstance : mg "isinstance" = none
  z_len : mg "len" = none
  z_str : mg "str" = none
  z_int : mg "int" = none
  z_bool : mg "bool" = none
  z_tuple : mg "tuple" = none
  z_list : mg "list" = none
  z_sum : mg "sum" = none
  z_abs : mg "abs" = none
  z_max : mg "max" = none
  z_repr : mg "repr" = none
  z_range : mg "range" = none
  g_MAX_NAME : ∃ u, mg "MAX_NAME" = some u ∧ RelV (.int 8) u
  g_MAX_TIMES : ∃ u, mg "MAX_TIMES" = some u ∧ RelV (.int 8) u
  g_MAX_DEEP : ∃ u, mg "MAX_DEEP" = some u ∧ RelV (.int 3) u
  g_MAX_NOTS : ∃ u, mg "MAX_NOTS" = some u ∧ RelV (.int 2) u
  g_MAX_BY : ∃ u, mg "MAX_BY" = some u ∧ RelV (.int 6) u
  g_MAX_PLACES : ∃ u, mg "MAX_PLACES" = some u ∧ RelV (.int 24) u
  g_MAX_WEIGHT : ∃ u, mg "MAX_WEIGHT" = some u ∧ RelV (.int 30) u
  g_MAX_CHOICES : ∃ u, mg "MAX_CHOICES" = some u ∧ RelV (.int 4) u
  g_MAX_RESTS : ∃ u, mg "MAX_RESTS" = some u ∧ RelV (.int 2) u
  g_MAX_COMPARINGS : ∃ u, mg "MAX_COMPARINGS" = some u ∧ RelV (.int 2) u
  g_MAX_NEST : ∃ u, mg "MAX_NEST" = some u ∧ RelV (.int 3) u
  g_LETTERS : ∃ u, mg "LETTERS" = some u ∧ RelV (.str "abcdefghijklmnopqrstuvwxyz") u
  g_SIGNS : ∃ u, mg "SIGNS" = some u ∧ RelV (.str "abcdefghijklmnopqrstuvwxyz0123456789") u
  g_KEPT : ∃ u, mg "KEPT" = some u ∧ RelV (.ref aK) u
  t_KEPT : ∃ zs : List Str, ∀ H, SqT K H aK (zs.map V.str)
  g_CHOICES : ∃ u, mg "CHOICES" = some u ∧ RelV (.ref aC) u
  t_CHOICES : ∀ H, SqT K H aC [.str "we", .str "they"]
  g_MOST_NUMBER : ∃ u, mg "MOST_NUMBER" = some u ∧ RelV (.int 99) u
  g_MOST_FACTOR : ∃ u, mg "MOST_FACTOR" = some u ∧ RelV (.int 9) u
  g_FIRST : ∃ u, mg "FIRST" = some u ∧ RelV (.int 0) u
  g_INPUT : ∃ u, mg "INPUT" = some u ∧ RelV (.str "n") u
end K28
/-! K28V: the values of expressions, the truth of tests. -/
namespace K28
open PySem PySem.Spec PyProof.Rows L2
/-- the names' dict: at most m of them -/
def NmAt (H : Hp) (nd : Addr) (nu : Nu) (m : Nat) : Prop := ∃ kvs : List (Key × V), H nd = some (.dK kvs) ∧ kvs.length ≤ m ∧ ∀ x, (valV kvs (Sum.inr x)).getD (.int 0) = .int (nu x)
def spVal (K : PySem.W.Frag) (d : Nat) : Sp := fun vs H Q _ => ∃ (v : V) (nd : Addr) (nu : Nu) (m : Nat) (e : Ex), vs = [v, .ref nd] ∧ Dp K H v (eE e) ∧ ExOk Pn d e ∧ NmAt H nd nu m ∧ Q (.int (ev nu e)) H
def spTru (K : PySem.W.Frag) (d : Nat) : Sp := fun vs H Q _ => ∃ (v : V) (nd : Addr) (nu : Nu) (m : Nat) (t : Ts), vs = [v, .ref nd] ∧ Dp K H v (eT t) ∧ TsOk Pn d t ∧ NmAt H nd nu m ∧ Q (.bl (tv nu t)) H
section
variable {P : Program} {w : World} {K : PySem.W.Frag} {mg : Str → Option Value} {base : Heap} {aC aK : Addr}
abbrev s_value_of : Stmt := tp 37
theorem sc_value_of : FnScope ["expression", "names", "sort", "first", "second"] ["expression", "names"] (defScope s_value_of) := ⟨rfl, rfl, rfl, by decide +kernel, rfl, by decide +kernel, by decide +kernel⟩
theorem v_value_of {P : Program} {w : World} {K : PySem.W.Frag} {mg : Str → Option Value} {base : Heap} {aC aK : Addr} (D : Dh K mg "value_of" s_value_of ["expression", "names"]) (T : Txt K mg aC aK) : ∀ d, Df P w K mg base d "value_of" (spVal K d)
  | 0 => D.none fun vs H Q E ⟨v, nd, nu, m, e, _, _, ok, _⟩ => ok
  | d + 1 => by
    have c_value_of := v_value_of (P := P) (w := w) (base := base) D T d
    refine D.ok sc_value_of (fun vs H Q E h => ?_) (fun f cdv A outer s H vs Q E hr h => ?_)
    · obtain ⟨v, nd, nu, m, e, rfl, _⟩ := h
      rfl
    obtain ⟨v, nd, nu, m, e, rfl, hd, ok, hn, q⟩ := h
    refine ⟨_, (pss_cons (ps_if (pt_val (pe_callB call_isi (by rfl) T.z_isinstance (by decide +kernel) (pa_cons (pv 0) (pa_cons (pe_bltn (v := .ty "str") (u := .type "str") (by rfl) T.z_str (by decide +kernel) rfl) pa_nil)))) (pss_one (ps_ret (pe_dget2 (hu_of hr) (pv 1) (pv 0) pe_int ⟨rfl, rfl, rfl, rfl⟩))) pss_nil)
      (pss_cons (ps_if (pt_val (pe_callB call_isi (by rfl) T.z_isinstance (by decide +kernel) (pa_cons (pv 0) (pa_cons (pe_bltn (v := .ty "int") (u := .type "int") (by rfl) T.z_int (by decide +kernel) rfl) pa_nil)))) (pss_one (ps_ret (pv 0))) pss_nil)
      (pss_cons (ps_asg (pv 0) (pg_tup (by rfl) (pgs_cons (pg_name (i := 2) sc_value_of.nd rfl (Or.inl rfl)) (pgs_cons (pg_name (i := 3) sc_value_of.nd rfl (Or.inl rfl)) (pgs_cons (pg_name (i := 4) sc_value_of.nd rfl (Or.inl rfl)) pgs_nil)))))
      (pss_cons (ps_if (pt_cmpR op_eq (pv 2) pe_str (nomark _)) (pss_one (ps_ret (pe_op op_mul (pv 3) (pdf c_value_of hr (by first | decide | omega) rfl (pa_cons (pv 4) (pa_cons (pv 1) pa_nil)))))) pss_nil)
      (pss_cons (ps_if (pt_cmpR op_eq (pv 2) pe_str (nomark _)) (pss_one (ps_ret (pe_op op_add (pdf c_value_of hr (by first | decide | omega) rfl (pa_cons (pv 3) (pa_cons (pv 1) pa_nil))) (pdf c_value_of hr (by first | decide | omega) rfl (pa_cons (pv 4) (pa_cons (pv 1) pa_nil)))))) pss_nil)
      (pss_one (ps_ret (pe_op op_sub (pdf c_value_of hr (by first | decide | omega) rfl (pa_cons (pv 3) (pa_cons (pv 1) pa_nil))) (pdf c_value_of hr (by first | decide | omega) rfl (pa_cons (pv 4) (pa_cons (pv 1) pa_nil))))))))))), ?_⟩
    cases e with
    | num i =>
      obtain rfl := dp_int hd
      refine ⟨_, rfl, _, _, _, _, _, rfl, .ty _, tyI i, kit_ty kb_is, _, rfl, iteF ?_⟩
      refine ⟨_, rfl, _, _, _, _, _, rfl, .ty _, tyI i, kit_ty kb_ii, _, rfl, iteT ?_⟩
      exact ⟨_, rfl, q⟩
    | nm x =>
      obtain rfl := dp_str hd
      obtain ⟨kvs, h1, h2, h3⟩ := hn
      refine ⟨_, rfl, _, _, _, _, _, rfl, .ty _, tyS x, kit_ty kb_ss, _, rfl, iteT ?_⟩
      refine ⟨_, rfl, nd, rfl, .inl ⟨_, .inl h1⟩, _, rfl, _, DGet.k (k := Sum.inr x) h1, ?_⟩
      rw [h3 x]
      exact q
    | plus a b =>
      obtain ⟨p, x, y, z, rfl, hs, e1, e2, e3⟩ := dp_tup3 hd
      obtain rfl := dp_str e1
      refine ⟨_, rfl, _, _, _, _, _, rfl, .ty _, tyT hs, kit_ty kb_ts, _, rfl, iteF ?_⟩
      refine ⟨_, rfl, _, _, _, _, _, rfl, .ty _, tyT hs, kit_ty kb_ti, _, rfl, iteF ?_⟩
      refine ⟨_, rfl, p, _, rfl, hs, rfl, _, _, rfl, _, _, rfl, _, _, rfl, rfl, ?_⟩
      refine ⟨_, rfl, rfl, _, rfl, ifF (by decide +kernel) ?_⟩
      refine ⟨_, rfl, rfl, _, rfl, ifT rfl ?_⟩
      refine ⟨_, rfl, _, rfl, y, nd, nu, m, a, rfl, e2, ok.1, hn, ?_⟩
      refine ⟨_, rfl, _, rfl, z, nd, nu, m, b, rfl, e3, ok.2, hn, ?_⟩
      exact ⟨_, _, rfl, rfl, q⟩
    | minus a b =>
      obtain ⟨p, x, y, z, rfl, hs, e1, e2, e3⟩ := dp_tup3 hd
      obtain rfl := dp_str e1
      refine ⟨_, rfl, _, _, _, _, _, rfl, .ty _, tyT hs, kit_ty kb_ts, _, rfl, iteF ?_⟩
      refine ⟨_, rfl, _, _, _, _, _, rfl, .ty _, tyT hs, kit_ty kb_ti, _, rfl, iteF ?_⟩
      refine ⟨_, rfl, p, _, rfl, hs, rfl, _, _, rfl, _, _, rfl, _, _, rfl, rfl, ?_⟩
      refine ⟨_, rfl, rfl, _, rfl, ifF (by decide +kernel) ?_⟩
      refine ⟨_, rfl, rfl, _, rfl, ifF (by decide +kernel) ?_⟩
      refine ⟨_, rfl, _, rfl, y, nd, nu, m, a, rfl, e2, ok.1, hn, ?_⟩
      refine ⟨_, rfl, _, rfl, z, nd, nu, m, b, rfl, e3, ok.2, hn, ?_⟩
      exact ⟨_, _, rfl, rfl, q⟩
    | times k b =>
      obtain ⟨p, x, y, z, rfl, hs, e1, e2, e3⟩ := dp_tup3 hd
      obtain rfl := dp_str e1
      obtain rfl := dp_int e2
      refine ⟨_, rfl, _, _, _, _, _, rfl, .ty _, tyT hs, kit_ty kb_ts, _, rfl, iteF ?_⟩
      refine ⟨_, rfl, _, _, _, _, _, rfl, .ty _, tyT hs, kit_ty kb_ti, _, rfl, iteF ?_⟩
      refine ⟨_, rfl, p, _, rfl, hs, rfl, _, _, rfl, _, _, rfl, _, _, rfl, rfl, ?_⟩
      refine ⟨_, rfl, rfl, _, rfl, ifT rfl ?_⟩
      refine ⟨_, rfl, _, rfl, _, rfl, z, nd, nu, m, b, rfl, e3, ok.2, hn, ?_⟩
      exact ⟨_, _, rfl, rfl, .inl ⟨by have := ok.1; omega, by have := ok.1; omega⟩, q⟩
abbrev s_is_true : Stmt := tp 38
theorem sc_is_true : FnScope ["test", "names"] ["test", "names"] (defScope s_is_true) := ⟨rfl, rfl, rfl, by decide +kernel, rfl, by decide +kernel, by decide +kernel⟩
def spTruB (K : PySem.W.Frag) : Nat → Sp
  | 0 => fun _ _ _ _ => False
  | d + 1 => spTru K d
theorem true_step (D : Dh K mg "is_true" s_is_true ["test", "names"]) (c_value_of : Df P w K mg base 3 "value_of" (spVal K 3)) (d : Nat) (c_is_true : Df P w K mg base (d + 3) "is_true" (spTruB K d)) : Df P w K mg base (d + 4) "is_true" (spTru K d) := by
    refine D.ok sc_is_true (fun vs H Q E h => ?_) (fun f cdv A outer s H vs Q E hr h => ?_)
    · obtain ⟨v, nd, nu, m, e, rfl, _⟩ := h
      rfl
    obtain ⟨v, nd, nu, m, t, rfl, hd, ok, hn, q⟩ := h
    cases t with
    | less a b =>
      have ok' : ExOk Pn 3 a ∧ ExOk Pn 3 b := by cases d <;> exact ok
      obtain ⟨p, x, y, z, rfl, hs, e1, e2, e3⟩ := dp_tup3 hd
      obtain rfl := dp_str e1
      refine ⟨_, (pss_cons (ps_if (pt_cmpR op_eq (pe_ix ix_tup (pv 0) pe_int (fun _ _ => rfl)) pe_str (nomark _)) (pss_one (ps_ret (pe_not (pdf c_is_true hr (by first | decide | omega) rfl (pa_cons (pe_ix ix_tup (pv 0) pe_int (fun _ _ => rfl)) (pa_cons (pv 1) pa_nil)))))) pss_nil)
      (pss_cons (ps_if (pt_cmpR op_eq (pe_ix ix_tup (pv 0) pe_int (fun _ _ => rfl)) pe_str (nomark _)) (pss_one (ps_ret (pe_cmpR op_eq (pe_op op_mod (pdf c_value_of hr (by first | decide | omega) rfl (pa_cons (pe_ix ix_tup (pv 0) pe_int (fun _ _ => rfl)) (pa_cons (pv 1) pa_nil))) (pe_ix ix_tup (pv 0) pe_int (fun _ _ => rfl))) (pe_ix ix_tup (pv 0) pe_int (fun _ _ => rfl)) (nomark _)))) pss_nil)
      (pss_one (ps_ret (pe_cmpR op_lt (pdf c_value_of hr (by first | decide | omega) rfl (pa_cons (pe_ix ix_tup (pv 0) pe_int (fun _ _ => rfl)) (pa_cons (pv 1) pa_nil))) (pdf c_value_of hr (by first | decide | omega) rfl (pa_cons (pe_ix ix_tup (pv 0) pe_int (fun _ _ => rfl)) (pa_cons (pv 1) pa_nil))) (nomark _)))))), ?_⟩
      refine ⟨_, rfl, p, _, _, _, rfl, rfl, hs, at0, rfl, _, rfl, ifF (by decide +kernel) ?_⟩
      refine ⟨_, rfl, p, _, _, _, rfl, rfl, hs, at0, rfl, _, rfl, ifF (by decide +kernel) ?_⟩
      refine ⟨_, rfl, p, _, _, _, rfl, rfl, hs, at1, _, rfl, y, nd, nu, m, a, rfl, e2, ok'.1, hn, ?_⟩
      refine ⟨_, rfl, p, _, _, _, rfl, rfl, hs, at2, _, rfl, z, nd, nu, m, b, rfl, e3, ok'.2, hn, ?_⟩
      exact ⟨_, _, rfl, rfl, q⟩
    | rest a mo r =>
      have ok' : ExOk Pn 3 a ∧ 2 ≤ mo ∧ mo ≤ 6 ∧ 0 ≤ r ∧ r < mo := by cases d <;> exact ok
      obtain ⟨p, x, y, z, u, rfl, hs, e1, e2, e3, e4⟩ := dp_tup4 hd
      obtain rfl := dp_str e1
      obtain rfl := dp_int e3
      obtain rfl := dp_int e4
      refine ⟨_, (pss_cons (ps_if (pt_cmpR op_eq (pe_ix ix_tup (pv 0) pe_int (fun _ _ => rfl)) pe_str (nomark _)) (pss_one (ps_ret (pe_not (pdf c_is_true hr (by first | decide | omega) rfl (pa_cons (pe_ix ix_tup (pv 0) pe_int (fun _ _ => rfl)) (pa_cons (pv 1) pa_nil)))))) pss_nil)
      (pss_cons (ps_if (pt_cmpR op_eq (pe_ix ix_tup (pv 0) pe_int (fun _ _ => rfl)) pe_str (nomark _)) (pss_one (ps_ret (pe_cmpR op_eq (pe_op op_mod (pdf c_value_of hr (by first | decide | omega) rfl (pa_cons (pe_ix ix_tup (pv 0) pe_int (fun _ _ => rfl)) (pa_cons (pv 1) pa_nil))) (pe_ix ix_tup (pv 0) pe_int (fun _ _ => rfl))) (pe_ix ix_tup (pv 0) pe_int (fun _ _ => rfl)) (nomark _)))) pss_nil)
      (pss_one (ps_ret (pe_cmpR op_lt (pdf c_value_of hr (by first | decide | omega) rfl (pa_cons (pe_ix ix_tup (pv 0) pe_int (fun _ _ => rfl)) (pa_cons (pv 1) pa_nil))) (pdf c_value_of hr (by first | decide | omega) rfl (pa_cons (pe_ix ix_tup (pv 0) pe_int (fun _ _ => rfl)) (pa_cons (pv 1) pa_nil))) (nomark _)))))), ?_⟩
      refine ⟨_, rfl, p, _, _, _, rfl, rfl, hs, at0, rfl, _, rfl, ifF (by decide +kernel) ?_⟩
      refine ⟨_, rfl, p, _, _, _, rfl, rfl, hs, at0, rfl, _, rfl, ifT rfl ?_⟩
      refine ⟨_, rfl, p, _, _, _, rfl, rfl, hs, at1, _, rfl, y, nd, nu, m, a, rfl, e2, ok'.1, hn, ?_⟩
      refine ⟨_, rfl, p, _, _, _, rfl, rfl, hs, at2, _, _, rfl, rfl, by omega, _, rfl, p, _, _, _, rfl, rfl, hs, at3, rfl, ?_⟩
      rw [dec_int]
      exact q
    | no t =>
      obtain ⟨p, x, y, rfl, hs, e1, e2⟩ := dp_tup2 hd
      obtain rfl := dp_str e1
      cases d with
      | zero => exact ok.elim
      | succ d =>
        refine ⟨_, (pss_cons (ps_if (pt_cmpR op_eq (pe_ix ix_tup (pv 0) pe_int (fun _ _ => rfl)) pe_str (nomark _)) (pss_one (ps_ret (pe_not (pdf c_is_true hr (by first | decide | omega) rfl (pa_cons (pe_ix ix_tup (pv 0) pe_int (fun _ _ => rfl)) (pa_cons (pv 1) pa_nil)))))) pss_nil)
      (pss_cons (ps_if (pt_cmpR op_eq (pe_ix ix_tup (pv 0) pe_int (fun _ _ => rfl)) pe_str (nomark _)) (pss_one (ps_ret (pe_cmpR op_eq (pe_op op_mod (pdf c_value_of hr (by first | decide | omega) rfl (pa_cons (pe_ix ix_tup (pv 0) pe_int (fun _ _ => rfl)) (pa_cons (pv 1) pa_nil))) (pe_ix ix_tup (pv 0) pe_int (fun _ _ => rfl))) (pe_ix ix_tup (pv 0) pe_int (fun _ _ => rfl)) (nomark _)))) pss_nil)
      (pss_one (ps_ret (pe_cmpR op_lt (pdf c_value_of hr (by first | decide | omega) rfl (pa_cons (pe_ix ix_tup (pv 0) pe_int (fun _ _ => rfl)) (pa_cons (pv 1) pa_nil))) (pdf c_value_of hr (by first | decide | omega) rfl (pa_cons (pe_ix ix_tup (pv 0) pe_int (fun _ _ => rfl)) (pa_cons (pv 1) pa_nil))) (nomark _)))))), ?_⟩
        refine ⟨_, rfl, p, _, _, _, rfl, rfl, hs, at0, rfl, _, rfl, ifT rfl ?_⟩
        refine ⟨_, rfl, p, _, _, _, rfl, rfl, hs, at1, _, rfl, y, nd, nu, m, t, rfl, e2, ok, hn, ?_⟩
        exact ⟨_, rfl, q⟩
theorem v_is_true {P : Program} {w : World} {K : PySem.W.Frag} {mg : Str → Option Value} {base : Heap} (D : Dh K mg "is_true" s_is_true ["test", "names"]) (c_value_of : Df P w K mg base 3 "value_of" (spVal K 3)) : ∀ d, Df P w K mg base (d + 4) "is_true" (spTru K d)
  | 0 => true_step D c_value_of 0 (D.none fun _ _ _ _ h => h)
  | d + 1 => true_step D c_value_of (d + 1) ((v_is_true D c_value_of d).mono (by omega))
end
end K28
/-! K28C: the class Course, method by method: a run. -/
namespace K28
open PySem PySem.Spec PyProof.Rows L2
theorem goB_append (A : List Int) : ∀ (a b : List Sm) (c : Co), goB A (a ++ b) c = goB A b (goB A a c)
  | [], b, c => by rw [List.nil_append, goB]
  | s :: r, b, c => by rw [List.cons_append, goB, goB, goB_append A r b]
theorem goB_one (A : List Int) (s : Sm) (c : Co) : goB A [s] c = if c.st then c else goS A s c := by rw [goB, goB]
theorem take_more {b : List Sm} {i : Nat} {s : Sm} (h : b[i]? = some s) : b.take (i + 1) = b.take i ++ [s] := by
  obtain ⟨hl, e⟩ := List.getElem?_eq_some_iff.mp h
  rw [List.take_succ_eq_append_getElem hl, e]
theorem wB_more {b : List Sm} {i : Nat} {s : Sm} (h : b[i]? = some s) : wB (b.take (i + 1)) = wB (b.take i) + wS s := by
  rw [take_more h, wB_append]
  simp [wB]
theorem goB_more {A : List Int} {b : List Sm} {i : Nat} {s : Sm} (h : b[i]? = some s) (c : Co) : goB A (b.take (i + 1)) c = if (goB A (b.take i) c).st then goB A (b.take i) c else goS A s (goB A (b.take i) c) := by
  rw [take_more h, goB_append, goB_one]
theorem wB_take_le (b : List Sm) (i : Nat) : wB (b.take i) ≤ wB b := by
  have : wB (b.take i) + wB (b.drop i) = wB b := by rw [← wB_append, List.take_append_drop]
  omega
/-! ### the fields -/
theorem lk_hit {k : Str} {v : V} {r : List (Str × V)} : ((k, v) :: r).lookup k = some v := by rw [List.lookup_cons]; simp
theorem lk_skip {k g : Str} {v : V} {r : List (Str × V)} (h : ¬ k = g) : ((g, v) :: r).lookup k = r.lookup k := by
  rw [List.lookup_cons]
  rw [beq_eq_false_iff_ne.mpr h]
theorem pf_hit {k : Str} {v x : V} {r : List (Str × V)} : putF k v ((k, x) :: r) = (k, v) :: r := by rw [putF, if_pos rfl]
theorem pf_skip {k g : Str} {v x : V} {r : List (Str × V)} (h : ¬ g = k) : putF k v ((g, x) :: r) = (g, x) :: putF k v r := by rw [putF, if_neg h]
theorem pf_nil {k : Str} {v : V} : putF k v [] = [(k, v)] := rfl
def cf (nd : Addr) (z : Int) (tl hl al : Addr) (st : Bool) : List (Str × V) := [("names", .ref nd), ("total", .int z), ("turns", .ref tl), ("hands", .ref hl), ("asked", .ref al), ("is_stopped", .bl st)]
section
variable {nd : Addr} {z : Int} {tl hl al : Addr} {st : Bool}
theorem cf_names : (cf nd z tl hl al st).lookup ("names" : Str) = some (.ref nd) := lk_hit
theorem cf_total : (cf nd z tl hl al st).lookup ("total" : Str) = some (.int z) := (lk_skip (by decide +kernel)).trans lk_hit
theorem cf_turns : (cf nd z tl hl al st).lookup ("turns" : Str) = some (.ref tl) := (lk_skip (by decide +kernel)).trans ((lk_skip (by decide +kernel)).trans lk_hit)
theorem cf_hands : (cf nd z tl hl al st).lookup ("hands" : Str) = some (.ref hl) := (lk_skip (by decide +kernel)).trans ((lk_skip (by decide +kernel)).trans ((lk_skip (by decide +kernel)).trans lk_hit))
theorem cf_asked : (cf nd z tl hl al st).lookup ("asked" : Str) = some (.ref al) := (lk_skip (by decide +kernel)).trans ((lk_skip (by decide +kernel)).trans ((lk_skip (by decide +kernel)).trans ((lk_skip (by decide +kernel)).trans lk_hit)))
theorem cf_stopped : (cf nd z tl hl al st).lookup ("is_stopped" : Str) = some (.bl st) := (lk_skip (by decide +kernel)).trans ((lk_skip (by decide +kernel)).trans ((lk_skip (by decide +kernel)).trans ((lk_skip (by decide +kernel)).trans ((lk_skip (by decide +kernel)).trans lk_hit))))
theorem cf_no {m : Str} (h1 : ¬ m = "names") (h2 : ¬ m = "total") (h3 : ¬ m = "turns") (h4 : ¬ m = "hands") (h5 : ¬ m = "asked") (h6 : ¬ m = "is_stopped") : (cf nd z tl hl al st).lookup m = none := by
  unfold cf
  rw [lk_skip h1, lk_skip h2, lk_skip h3, lk_skip h4, lk_skip h5, lk_skip h6]
  rfl
theorem no_choice : (cf nd z tl hl al st).lookup ("choice" : Str) = none := cf_no (by decide +kernel) (by decide +kernel) (by decide +kernel) (by decide +kernel) (by decide +kernel) (by decide +kernel)
theorem no_parts : (cf nd z tl hl al st).lookup ("parts" : Str) = none := cf_no (by decide +kernel) (by decide +kernel) (by decide +kernel) (by decide +kernel) (by decide +kernel) (by decide +kernel)
theorem no_do : (cf nd z tl hl al st).lookup ("do" : Str) = none := cf_no (by decide +kernel) (by decide +kernel) (by decide +kernel) (by decide +kernel) (by decide +kernel) (by decide +kernel)
theorem no_go : (cf nd z tl hl al st).lookup ("go" : Str) = none := cf_no (by decide +kernel) (by decide +kernel) (by decide +kernel) (by decide +kernel) (by decide +kernel) (by decide +kernel)
theorem put_total (y : Int) : putF "total" (.int y) (cf nd z tl hl al st) = cf nd y tl hl al st := by
  unfold cf
  rw [pf_skip (by decide +kernel), pf_hit]
theorem put_stopped (y : Bool) : putF "is_stopped" (.bl y) (cf nd z tl hl al st) = cf nd z tl hl al y := by
  unfold cf
  rw [pf_skip (by decide +kernel), pf_skip (by decide +kernel), pf_skip (by decide +kernel), pf_skip (by decide +kernel), pf_skip (by decide +kernel), pf_hit]
theorem cf_len : (cf nd z tl hl al st).length < 1000 := by show 6 < 1000; decide
end
theorem put_all {nd : Addr} {z : Int} {tl hl al : Addr} {st : Bool} : putF "is_stopped" (.bl st) (putF "asked" (.ref al) (putF "hands" (.ref hl) (putF "turns" (.ref tl) (putF "total" (.int z) (putF "names" (.ref nd) []))))) = cf nd z tl hl al st := by
  unfold cf
  repeat (first | rw [pf_nil] | rw [pf_skip (by decide +kernel)])
structure TxC (K : PySem.W.Frag) (C : Addr) : Prop where
  cl : Cls K C
  nN : NoAttr K C "names"
  nT : NoAttr K C "total"
  nU : NoAttr K C "turns"
  nH : NoAttr K C "hands"
  nA : NoAttr K C "asked"
  nS : NoAttr K C "is_stopped"
/-- a Course stands at a -/
structure CAt (K : PySem.W.Frag) (C : Addr) (H : Hp) (a dx nd tl hl al : Addr) (A : List Int) (m : Nat) (c : Co) : Prop where
  ins : H a = some (.ins C dx (cf nd c.z tl hl al c.st))
  nm : NmAt H nd c.nu m
  ts : H tl = some (.lst (c.ts.map V.int))
  hs : H hl = some (.lst (c.hs.map fun w => V.str (hand w)))
  ne : tl ≠ hl
  ask : SqT K H al (A.map V.int)
  lt : c.ts.length ≤ m
  lh : c.hs.length ≤ m
theorem NmAt.mono {H : Hp} {nd : Addr} {nu : Nu} {m n : Nat} (h : NmAt H nd nu m) (le : m ≤ n) : NmAt H nd nu n := by
  obtain ⟨kvs, h1, h2, h3⟩ := h
  exact ⟨kvs, h1, Nat.le_trans h2 le, h3⟩
theorem CAt.mono {K : PySem.W.Frag} {C : Addr} {H : Hp} {a dx nd tl hl al : Addr} {A : List Int} {m n : Nat} {c : Co} (h : CAt K C H a dx nd tl hl al A m c) (le : m ≤ n) : CAt K C H a dx nd tl hl al A n c :=
  ⟨h.ins, h.nm.mono le, h.ts, h.hs, h.ne, h.ask, Nat.le_trans h.lt le, Nat.le_trans h.lh le⟩
/-- a method with its promise -/
structure Dm (P : Program) (w : World) (K : PySem.W.Frag) (mg : Str → Option Value) (base : Heap) (C : Addr) (k : Nat) (m : Str) (sp : Sp) : Prop where
  ex : ∃ (f : Addr) (fd : FuncData) (ps : List Str), FnOk P w K mg base CX0 k f fd ps sp ∧ Meth K C m f ∧ Binds K fd ps [] ∧ Cls K C
structure Dq (K : PySem.W.Frag) (C : Addr) (m qual : Str) (st : Stmt) (ps : List Str) : Prop where
  ex : ∃ (f : Addr) (fd : FuncData), Fun K m qual st f fd ∧ Meth K C m f ∧ Binds K fd ps [] ∧ Cls K C
section
variable {P : Program} {w : World} {K : PySem.W.Frag} {mg : Str → Option Value} {base : Heap} {C : Addr}
theorem Dm.mono {j k : Nat} {x : Str} {sp : Sp} (D : Dm P w K mg base C j x sp) (h : j ≤ k) : Dm P w K mg base C k x sp := by
  obtain ⟨f, fd, ps, F, r⟩ := D.ex
  exact ⟨f, fd, ps, F.mono h, r⟩
theorem Dq.ok {m qual : Str} {st : Stmt} {N ps : List Str} {k : Nat} {sp : Sp} (D : Dq K C m qual st ps) (S : FnScope N ps (defScope st)) (len : ∀ vs H Q E, sp vs H Q E → vs.length = ps.length)
    (body : ∀ (f : Addr) (cdv : Value) (A : Around) (outer : List Env) (s : Shared) (H : Hp) (vs : List V) (Q : VK) (E : XK), Room k (A.deeper (envOfC qual (defScope st) s.heap.objs.size f cdv)) → sp vs H Q E →
      ∃ t, PSs (cxOf CX0 P w K mg base N qual (defScope st) f cdv A outer s H E).nox (defBody st) t ∧ t { nx := fun _ H' => Q .non H', rt := Q } (L2.start N vs) H) : Dm P w K mg base C (k + 1) m sp := by
  obtain ⟨f, fd, F, hm, b, c⟩ := D.ex
  exact ⟨f, fd, ps, F.ok S len (body f), hm, b, c⟩
theorem Dq.none {m qual : Str} {st : Stmt} {ps : List Str} {k : Nat} {sp : Sp} (D : Dq K C m qual st ps) (no : ∀ vs H Q E, ¬ sp vs H Q E) : Dm P w K mg base C k m sp := by
  obtain ⟨f, fd, F, hm, b, c⟩ := D.ex
  exact ⟨f, fd, ps, ⟨fun vs H Q E h => absurd h (no vs H Q E), fun A outer s H args us vs Q E _ _ _ _ h => absurd h (no vs H Q E)⟩, hm, b, c⟩
end
theorem pmt {X : Cx} {C : Addr} {k j : Nat} {m : Str} {sp : Sp} {pos apos : Pos} {e o : Expr} {es : List Expr} {ta : TE} {t : TA} {pl : Sem Bool} (c : Dm X.prog X.w X.K X.mg X.base C k m sp) (hr : Room j X.A) (hk : k ≤ j) (ho : PE X o ta) (ha : PA X (e :: es) t)
    (hst : starEach (e :: es) X.env = (false, eval e X.env) :: starEach es X.env := by rfl) (hpl : (backTo pos (starEach es X.env)).any (·.1) = false := by rfl)
    (ht : eval (.Call (.Attribute o m apos) (e :: es) [] pos) X.env = (do
        let ov ← eval o X.env
        standAt apos.atName
        let (f, first) ← holding [ov] (getMethod ov m pl)
        callWith pos f first (backTo pos (starEach (e :: es) X.env)) (backToKw pos (keywordEach [] X.env))) := by rfl) :
    PE X (.Call (.Attribute o m apos) (e :: es) [] pos) (tMeth C m sp [] E0 ta t) := by
  obtain ⟨f, fd, ps, F, hm, b, cl⟩ := c.ex
  exact pe_meth (pl := pl) ho cl hm F (hr.mono hk) b .nil pass0 ha hst hpl ht
/-! ### choice -/
def spCho (K : PySem.W.Frag) (C : Addr) : Sp := fun vs H Q _ => ∃ (a dx nd tl hl al : Addr) (A : List Int) (m : Nat) (c : Co) (w : Bool), vs = [.ref a, .str (hand w)] ∧ CAt K C H a dx nd tl hl al A m c ∧ m ≤ 20000 ∧
  ∀ H', Ch [a, nd, tl, hl] H H' → CAt K C H' a dx nd tl hl al A (m + 1) (c.chose A w) → Q (.int (turn A c)) H'
section
variable {P : Program} {w : World} {K : PySem.W.Frag} {mg : Str → Option Value} {base : Heap} {aC aK C : Addr}
theorem sz {n : Nat} (h : n ≤ 100000) : n < sizeLine := Nat.lt_of_le_of_lt h (by decide)
theorem szl {n : Nat} (h : n ≤ 100000) : n ≤ sizeLine := Nat.le_of_lt (sz h)
abbrev s_m_choice : Stmt := inClass (tp 39) 1
theorem sc_m_choice : FnScope ["self", "hand", "many", "found"] ["self", "hand"] (defScope s_m_choice) := ⟨rfl, rfl, rfl, by decide +kernel, rfl, by decide +kernel, by decide +kernel⟩
theorem v_choice (D : Dq K C "choice" "Course.choice" s_m_choice ["self", "hand"]) (T : Txt K mg aC aK) (X : TxC K C) : Dm P w K mg base C 1 "choice" (spCho K C) := by
  refine D.ok sc_m_choice (fun vs H Q E h => ?_) (fun f cdv Ar outer s H vs Q E hr h => ?_)
  · obtain ⟨a, dx, nd, tl, hl, al, A, m, c, w, rfl, _⟩ := h
    rfl
  obtain ⟨a, dx, nd, tl, hl, al, A, m, c, w, rfl, I, hm, q⟩ := h
  obtain ⟨kvs, k1, k2, k3⟩ := I.nm
  have n1 : a ≠ tl := ne_of I.ins I.ts (by intro z; cases z)
  have n2 : a ≠ hl := ne_of I.ins I.hs (by intro z; cases z)
  have n3 : nd ≠ tl := ne_of k1 I.ts (by intro z; cases z)
  have n4 : nd ≠ hl := ne_of k1 I.hs (by intro z; cases z)
  refine ⟨_, (pss_cons (ps_set (i := 2) sc_m_choice.nd rfl (Or.inl rfl) (pe_callB call_len_seq (by rfl) T.z_len (by decide +kernel) (pa_cons (pe_fld (pv 0) rfl) pa_nil)))
      (pss_cons (ps_set (i := 3) sc_m_choice.nd rfl (Or.inl rfl) (pe_ifExp (pt_cmpR op_lt (pv 2) (pe_callB call_len_seq (by rfl) T.z_len (by decide +kernel) (pa_cons (pe_fld (pv 0) rfl) pa_nil)) (nomark _)) (pe_ix ix_tup (pe_fld (pv 0) rfl) (pv 2) (fun _ _ => rfl)) (pgc rfl T.g_FIRST)))
      (pss_cons (ps_expr (pe_bm PySem.F.plainAttrs_list PySem.F.slot_list_append PySem.F.type_list_append mt_append (pe_fld (pv 0) rfl) (pa_cons (pv 3) pa_nil)))
      (pss_cons (ps_expr (pe_bm PySem.F.plainAttrs_list PySem.F.slot_list_append PySem.F.type_list_append mt_append (pe_fld (pv 0) rfl) (pa_cons (pv 1) pa_nil)))
      (pss_one (ps_ret (pv 3))))))), ?_⟩
  refine ⟨_, rfl, a, C, dx, _, _, rfl, I.ins, X.cl, X.nU, cf_turns, tl, _, rfl, .inl (SqL.of I.ts), ?_⟩
  rw [List.length_map]
  refine ⟨_, rfl, _, rfl, a, C, dx, _, _, rfl, I.ins, X.cl, X.nA, cf_asked, al, _, rfl, .inr I.ask, _, _, rfl, rfl, _, rfl, ?_⟩
  rw [List.length_map]
  -- behind the choice
  have rest : ∀ t, t = turn A c → ∀ D2 : Prop, (∀ H', H' = upd (upd H tl (.lst (c.ts.map V.int ++ [.int t]))) hl (.lst ((c.hs.map fun w => V.str (hand w)) ++ [.str (hand w)])) → Q (.int t) H') := by
    intro t ht D2 H' hH
    subst hH
    subst ht
    have c1 : Ch [a, nd, tl, hl] H (upd H tl (.lst (c.ts.map V.int ++ [.int (turn A c)]))) := Ch.put I.ts (fun z => z) (by simp) _
    have hh : (upd H tl (.lst (c.ts.map V.int ++ [.int (turn A c)]))) hl = some (.lst (c.hs.map fun w => V.str (hand w))) := by rw [upd_ne I.ne.symm]; exact I.hs
    have c2 : Ch [a, nd, tl, hl] H _ := c1.trans (Ch.put hh (fun z => z) (by simp) (.lst ((c.hs.map fun w => V.str (hand w)) ++ [.str (hand w)])))
    refine q _ c2 ⟨?_, ⟨kvs, ?_, Nat.le_succ_of_le k2, k3⟩, ?_, ?_, I.ne, c2.sqt I.ask, ?_, ?_⟩
    · rw [upd_ne n2, upd_ne n1]; exact I.ins
    · rw [upd_ne n4, upd_ne n3]; exact k1
    · rw [upd_ne I.ne, upd_same]
      show some (HO.lst (c.ts.map V.int ++ [V.int (turn A c)])) = some (.lst ((c.ts ++ [turn A c]).map V.int))
      rw [List.map_append]; rfl
    · rw [upd_same]
      show _ = some (HO.lst ((c.hs ++ [w]).map fun w => V.str (hand w)))
      rw [List.map_append]; rfl
    · show (c.ts ++ [turn A c]).length ≤ m + 1
      have := I.lt
      rw [List.length_append, List.length_singleton]; omega
    · show (c.hs ++ [w]).length ≤ m + 1
      have := I.lh
      rw [List.length_append, List.length_singleton]; omega
  have l1 : (c.ts.map V.int).length < sizeLine := by rw [List.length_map]; exact sz (by have := I.lt; omega)
  have l2 : (c.hs.map fun w => V.str (hand w)).length < sizeLine := by rw [List.length_map]; exact sz (by have := I.lh; omega)
  refine if2 (fun hlt => ?_) (fun hge => ?_)
  · have hlt' : c.ts.length < A.length := by omega
    have e1 : (A.map V.int)[c.ts.length]? = some (.int (turn A c)) := by
      rw [List.getElem?_map, List.getElem?_eq_getElem hlt']
      show some (V.int _) = some (V.int (A.getD c.ts.length 0))
      rw [List.getD_eq_getElem?_getD, List.getElem?_eq_getElem hlt']
      rfl
    refine ⟨_, rfl, a, C, dx, _, _, rfl, I.ins, X.cl, X.nA, cf_asked, _, rfl, al, _, _, _, rfl, rfl, I.ask, atI_nat e1, ?_⟩
    refine ⟨_, rfl, a, C, dx, _, _, rfl, I.ins, X.cl, X.nU, cf_turns, .inl ⟨rfl, _, SqL.of I.ts⟩, _, rfl, tl, _, _, rfl, rfl, I.ts, l1, ?_⟩
    refine ⟨_, rfl, a, C, dx, _, _, rfl, (by rw [upd_ne n1]; exact I.ins), X.cl, X.nH, cf_hands, .inl ⟨rfl, _, SqL.of (by rw [upd_ne I.ne.symm]; exact I.hs)⟩, _, rfl, hl, _, _, rfl, rfl, (by rw [upd_ne I.ne.symm]; exact I.hs), l2, ?_⟩
    exact ⟨_, rfl, rest _ rfl True _ rfl⟩
  · have e1 : turn A c = 0 := by
      unfold turn
      rw [List.getD_eq_getElem?_getD, List.getElem?_eq_none (by omega)]
      rfl
    refine ⟨_, rfl, a, C, dx, _, _, rfl, I.ins, X.cl, X.nU, cf_turns, .inl ⟨rfl, _, SqL.of I.ts⟩, _, rfl, tl, _, _, rfl, rfl, I.ts, l1, ?_⟩
    refine ⟨_, rfl, a, C, dx, _, _, rfl, (by rw [upd_ne n1]; exact I.ins), X.cl, X.nH, cf_hands, .inl ⟨rfl, _, SqL.of (by rw [upd_ne I.ne.symm]; exact I.hs)⟩, _, rfl, hl, _, _, rfl, rfl, (by rw [upd_ne I.ne.symm]; exact I.hs), l2, ?_⟩
    have r := rest 0 e1.symm True _ rfl
    rw [← e1] at r ⊢
    exact ⟨_, rfl, by rw [e1] at r ⊢; exact r⟩
end
end K28
/-! K28D: parts, do, go, a whole run. -/
namespace K28
open PySem PySem.Spec PyProof.Rows L2
/-- what is left to be done of a statement: blocks, one behind another -/
def spPar (K : PySem.W.Frag) (C : Addr) : Sp := fun vs H Q _ => ∃ (a dx nd tl hl al : Addr) (A : List Int) (m : Nat) (c : Co) (v : V) (d : Nat) (s : Sm), vs = [.ref a, v] ∧ CAt K C H a dx nd tl hl al A m c ∧ m ≤ 20000 ∧ bits A ∧
  Dp K H v (eS s) ∧ SmOk Pn (d + 1) s ∧ (∀ x e, s ≠ .set x e) ∧ (∀ e, s ≠ .pay e) ∧ s ≠ .stop ∧
  ∀ H' (p : Addr) (vs : List V) (bs : List (List Sm)) (c1 : Co), Ch [a, nd, tl, hl] H H' → H p = none → CAt K C H' a dx nd tl hl al A (m + 1) c1 → H' p = some (.lst vs) → DpAll K H' vs (bs.map fun b => .tuple (eB b)) →
    (∀ b ∈ bs, BlOk Pn d b) → goS A s c = bs.foldl (fun c b => goB A b c) c1 → (bs.map wB).sum + 1 ≤ wS s → Q (.ref p) H'
theorem rpt_fold (f : Co → Co) (A : List Int) (b : List Sm) : ∀ (n : Nat) (c : Co), rpt (goB A b) n c = (List.replicate n b).foldl (fun c b => goB A b c) c
  | 0, c => rfl
  | n + 1, c => by rw [rpt, List.replicate_succ, List.foldl_cons, rpt_fold f A b n]
theorem sum_repl (b : List Sm) : ∀ n : Nat, ((List.replicate n b).map wB).sum = n * wB b
  | 0 => by simp
  | n + 1 => by rw [List.replicate_succ, List.map_cons, List.sum_cons, sum_repl b n, Nat.succ_mul, Nat.add_comm]
theorem dpa_repl {K : PySem.W.Frag} {H : Hp} {v : V} {d : PyData} (h : Dp K H v d) : ∀ n : Nat, DpAll K H (List.replicate n v) (List.replicate n d)
  | 0 => .nil
  | n + 1 => by rw [List.replicate_succ, List.replicate_succ]; exact .cons h (dpa_repl h n)
theorem flat_ones (v : V) : ∀ n : Nat, (List.replicate n [v]).flatten = List.replicate n v
  | 0 => rfl
  | n + 1 => by rw [List.replicate_succ, List.flatten_cons, flat_ones v n, List.replicate_succ]; rfl
theorem turn_bit {A : List Int} {c : Co} (h : bits A) : turn A c = 0 ∨ turn A c = 1 := by
  unfold turn
  rw [List.getD_eq_getElem?_getD]
  cases e : A[c.ts.length]? with
  | none => exact .inl rfl
  | some t => exact h t (List.mem_of_getElem? e)
theorem in_hand (w : Bool) : inV (.str (hand w)) [.str "we", .str "they"] = true := by cases w <;> decide +kernel
theorem in_not (x : Str) (h1 : ¬ x = "we") (h2 : ¬ x = "they") : inV (.str x) [.str "we", .str "they"] = false := by
  unfold inV
  simp [List.any, eqV, Ne.symm h1, Ne.symm h2]
section
variable {P : Program} {w : World} {K : PySem.W.Frag} {mg : Str → Option Value} {base : Heap} {aC aK C : Addr}
abbrev s_m_parts : Stmt := inClass (tp 39) 2
theorem sc_m_parts : FnScope ["self", "statement"] ["self", "statement"] (defScope s_m_parts) := ⟨rfl, rfl, rfl, by decide +kernel, rfl, by decide +kernel, by decide +kernel⟩
theorem v_parts (D : Dq K C "parts" "Course.parts" s_m_parts ["self", "statement"]) (T : Txt K mg aC aK) (X : TxC K C) (c_choice : Dm P w K mg base C 1 "choice" (spCho K C)) (c_is_true : Df P w K mg base 6 "is_true" (spTru K 2)) : Dm P w K mg base C 7 "parts" (spPar K C) := by
  refine D.ok sc_m_parts (fun vs H Q E h => ?_) (fun f cdv Ar outer s H vs Q E hr h => ?_)
  · obtain ⟨a, dx, nd, tl, hl, al, A, m, c, v, d, s, rfl, _⟩ := h
    rfl
  obtain ⟨a, dx, nd, tl, hl, al, A, m, c, v, d, st, rfl, I, hm, hA, hd, ok, n1, n2, n3, q⟩ := h
  refine ⟨_, (pss_cons (ps_if (pt_cmpR op_in_seq (pe_ix ix_tup (pv 1) pe_int (fun _ _ => rfl)) (pgc rfl T.g_CHOICES) rfl) (pss_one (ps_ret (pe_lst (pa_cons (pe_ix ix_tup (pv 1) (pe_op op_add pe_int (pmt c_choice hr (by first | decide | omega) (pv 0) (pa_cons (pe_ix ix_tup (pv 1) pe_int (fun _ _ => rfl)) pa_nil))) (fun _ _ => rfl)) pa_nil)))) pss_nil)
      (pss_cons (ps_if (pt_cmpR op_eq (pe_ix ix_tup (pv 1) pe_int (fun _ _ => rfl)) pe_str (nomark _)) (pss_one (ps_ret (pe_lst (pa_cons (pe_ifExp (pt_val (pdf c_is_true hr (by first | decide | omega) rfl (pa_cons (pe_ix ix_tup (pv 1) pe_int (fun _ _ => rfl)) (pa_cons (pe_fld (pv 0) rfl) pa_nil)))) (pe_ix ix_tup (pv 1) pe_int (fun _ _ => rfl)) (pe_ix ix_tup (pv 1) pe_int (fun _ _ => rfl))) pa_nil)))) pss_nil)
      (pss_one (ps_ret (pe_op op_rep (pe_lst (pa_cons (pe_ix ix_tup (pv 1) pe_int (fun _ _ => rfl)) pa_nil)) (pe_ix ix_tup (pv 1) pe_int (fun _ _ => rfl))))))), ?_⟩
  cases st with
  | set x e => exact absurd rfl (n1 x e)
  | pay e => exact absurd rfl (n2 e)
  | stop => exact absurd rfl n3
  | ite t y n =>
    obtain ⟨p, x0, x1, x2, x3, rfl, hs, e0, e1, e2, e3⟩ := dp_tup4 hd
    obtain rfl := dp_str e0
    refine ⟨_, rfl, p, _, _, _, rfl, rfl, hs, at0, aC, _, rfl, .inr (T.t_CHOICES _), rfl, rfl, _, rfl, ?_⟩
    rw [if_neg Bool.false_ne_true, in_not "if" (by decide +kernel) (by decide +kernel)]
    refine iteF ?_
    refine ⟨_, rfl, p, _, _, _, rfl, rfl, hs, at0, rfl, _, rfl, ifT rfl ?_⟩
    refine ⟨_, rfl, p, _, _, _, rfl, rfl, hs, at1, _, rfl, a, C, dx, _, _, rfl, I.ins, X.cl, X.nN, cf_names, x1, nd, c.nu, m, t, rfl, e1, ok.1, I.nm, _, rfl, ?_⟩
    have fin : ∀ (x : V) (b : List Sm), Dp K H x (.tuple (eB b)) → BlOk Pn d b → goS A (.ite t y n) c = goB A b c → wB b + 1 ≤ wS (.ite t y n) → ∀ r, H r = none → Q (.ref r) (upd H r (.lst [x])) := by
      intro x b hx hb hg hw r hr
      have c1 : Ch [a, nd, tl, hl] H (upd H r (.lst [x])) := Ch.new hr _
      have nr : ∀ {b : Addr} {o : HO}, H b = some o → b ≠ r := fun e => ne_of_none e hr
      obtain ⟨kvs, k1, k2, k3⟩ := I.nm
      refine q _ r [x] [b] c c1 hr ⟨?_, ⟨kvs, ?_, Nat.le_succ_of_le k2, k3⟩, ?_, ?_, I.ne, c1.sqt I.ask, Nat.le_succ_of_le I.lt, Nat.le_succ_of_le I.lh⟩ upd_same (dpa_1 (c1.dB hx)) ?_ ?_ ?_
      · rw [upd_ne (nr I.ins)]; exact I.ins
      · rw [upd_ne (nr k1)]; exact k1
      · rw [upd_ne (nr I.ts)]; exact I.ts
      · rw [upd_ne (nr I.hs)]; exact I.hs
      · intro z hz
        rw [List.mem_singleton.mp hz]; exact hb
      · rw [hg]; rfl
      · simp only [List.map_cons, List.map_nil, List.sum_cons, List.sum_nil]; omega
    refine ifB (fun ht => ?_) (fun ht => ?_)
    · refine ⟨_, rfl, p, _, _, _, rfl, rfl, hs, at2, szl (by simp), fun r hr => ?_⟩
      exact fin x2 y e2 ok.2.1 (by rw [goS, if_pos ht]) (by rw [wS]; omega) r hr
    · refine ⟨_, rfl, p, _, _, _, rfl, rfl, hs, at3, szl (by simp), fun r hr => ?_⟩
      exact fin x3 n e3 ok.2.2 (by rw [goS, if_neg (by rw [ht]; exact Bool.false_ne_true)]) (by rw [wS]; omega) r hr
  | ch g x y =>
    obtain ⟨p, x0, x1, x2, rfl, hs, e0, e1, e2⟩ := dp_tup3 hd
    obtain rfl := dp_str e0
    refine ⟨_, rfl, p, _, _, _, rfl, rfl, hs, at0, aC, _, rfl, .inr (T.t_CHOICES _), rfl, rfl, _, rfl, ?_⟩
    rw [if_neg Bool.false_ne_true, in_hand g]
    refine iteT ?_
    have no : (cf nd c.z tl hl al c.st).lookup ("choice" : Str) = none := no_choice
    refine ⟨_, rfl, _, rfl, a, dx, _, rfl, I.ins, no, _, rfl, p, _, _, _, rfl, rfl, hs, at0, a, dx, nd, tl, hl, al, A, m, c, g, rfl, I, hm, fun H1 c1 I1 => ?_⟩
    have hs1 := c1.sqt hs
    have ins1 := I1
    have fin : ∀ (x' : V) (b : List Sm), Dp K H x' (.tuple (eB b)) → BlOk Pn d b → goS A (.ch g x y) c = goB A b (c.chose A g) → wB b + 1 ≤ wS (.ch g x y) → ∀ r, H1 r = none → Q (.ref r) (upd H1 r (.lst [x'])) := by
      intro x' b hx hb hg hw r hr
      have c2 : Ch [a, nd, tl, hl] H1 (upd H1 r (.lst [x'])) := Ch.new hr _
      have nr : ∀ {b : Addr} {o : HO}, H1 b = some o → b ≠ r := fun e => ne_of_none e hr
      obtain ⟨kvs, k1, k2, k3⟩ := I1.nm
      refine q _ r [x'] [b] (c.chose A g) (c1.trans c2) (c1.free _ hr) ⟨?_, ⟨kvs, ?_, k2, k3⟩, ?_, ?_, I1.ne, c2.sqt I1.ask, I1.lt, I1.lh⟩ upd_same (dpa_1 (c2.dB (c1.dB hx))) ?_ ?_ ?_
      · rw [upd_ne (nr I1.ins)]; exact I1.ins
      · rw [upd_ne (nr k1)]; exact k1
      · rw [upd_ne (nr I1.ts)]; exact I1.ts
      · rw [upd_ne (nr I1.hs)]; exact I1.hs
      · intro z hz
        rw [List.mem_singleton.mp hz]; exact hb
      · rw [hg]; rfl
      · simp only [List.map_cons, List.map_nil, List.sum_cons, List.sum_nil]; omega
    rcases turn_bit (c := c) hA with ht | ht
    · rw [ht]
      refine ⟨_, _, rfl, rfl, p, _, _, _, rfl, rfl, hs1, at1, szl (by simp), fun r hr => ?_⟩
      exact fin x1 x e1 ok.1 (by rw [goS, if_pos ht]) (by rw [wS]; omega) r hr
    · rw [ht]
      refine ⟨_, _, rfl, rfl, p, _, _, _, rfl, rfl, hs1, at2, szl (by simp), fun r hr => ?_⟩
      exact fin x2 y e2 ok.2 (by rw [goS, if_neg (by rw [ht]; decide)]) (by rw [wS]; omega) r hr
  | rep k b =>
    obtain ⟨p, x0, x1, x2, rfl, hs, e0, e1, e2⟩ := dp_tup3 hd
    obtain rfl := dp_str e0
    obtain rfl := dp_int e1
    have hk := ok.1
    refine ⟨_, rfl, p, _, _, _, rfl, rfl, hs, at0, aC, _, rfl, .inr (T.t_CHOICES _), rfl, rfl, _, rfl, ?_⟩
    rw [if_neg Bool.false_ne_true, in_not "repeat" (by decide +kernel) (by decide +kernel)]
    refine iteF ?_
    refine ⟨_, rfl, p, _, _, _, rfl, rfl, hs, at0, rfl, _, rfl, ifF (by decide +kernel) ?_⟩
    refine ⟨_, rfl, p, _, _, _, rfl, rfl, hs, at2, szl (by simp), fun r hr => ?_⟩
    have c1 : Ch [a, nd, tl, hl] H (upd H r (.lst [x2])) := Ch.new hr _
    refine ⟨_, rfl, p, _, _, _, rfl, rfl, c1.sqt hs, at1, r, _, _, rfl, rfl, upd_same, by omega, by omega, szl (by simp; omega), fun t ht => ?_⟩
    have c2 : Ch [a, nd, tl, hl] H _ := c1.add ht (.lst (List.replicate (k : Int).toNat [x2]).flatten)
    have nr : ∀ {b : Addr} {o : HO}, H b = some o → b ≠ r := fun e => ne_of_none e hr
    have nt : ∀ {b : Addr} {o : HO}, H b = some o → b ≠ t := fun e => ne_of_none e (c1.free _ ht)
    obtain ⟨kvs, k1, k2, k3⟩ := I.nm
    refine q _ t _ (List.replicate k b) c c2 (c1.free _ ht) ⟨?_, ⟨kvs, ?_, Nat.le_succ_of_le k2, k3⟩, ?_, ?_, I.ne, c2.sqt I.ask, Nat.le_succ_of_le I.lt, Nat.le_succ_of_le I.lh⟩ upd_same ?_ ?_ ?_ ?_
    · rw [upd_ne (nt I.ins), upd_ne (nr I.ins)]; exact I.ins
    · rw [upd_ne (nt k1), upd_ne (nr k1)]; exact k1
    · rw [upd_ne (nt I.ts), upd_ne (nr I.ts)]; exact I.ts
    · rw [upd_ne (nt I.hs), upd_ne (nr I.hs)]; exact I.hs
    · rw [List.map_replicate]
      have e : (List.replicate (k : Int).toNat [x2]).flatten = List.replicate k x2 := by rw [flat_ones, Int.toNat_natCast]
      exact Eq.mp (congrArg (fun z => DpAll K (upd (upd H r (HO.lst [x2])) t (HO.lst (List.replicate (k : Int).toNat [x2]).flatten)) z (List.replicate k (PyData.tuple (eB b)))) e.symm) (dpa_repl (c2.dB e2) k)
    · intro z hz
      rw [(List.mem_replicate.mp hz).2]; exact ok.2
    · rw [goS, rpt_fold id]
    · rw [sum_repl, wS]; omega
end
end K28
/-! K28H: do, go. -/
namespace K28
open PySem PySem.Spec PyProof.Rows L2
def spDo (K : PySem.W.Frag) (C : Addr) (d : Nat) : Sp := fun vs H Q _ => ∃ (a dx nd tl hl al : Addr) (A : List Int) (m : Nat) (c : Co) (v : V) (s : Sm), vs = [.ref a, v] ∧ CAt K C H a dx nd tl hl al A m c ∧ m + wS s ≤ 20000 ∧ bits A ∧
  Dp K H v (eS s) ∧ SmOk Pn d s ∧ ∀ H', Ch [a, nd, tl, hl] H H' → CAt K C H' a dx nd tl hl al A (m + wS s) (goS A s c) → Q .non H'
def spGo (K : PySem.W.Frag) (C : Addr) (d : Nat) : Sp := fun vs H Q _ => ∃ (a dx nd tl hl al : Addr) (A : List Int) (m : Nat) (c : Co) (v : V) (b : List Sm), vs = [.ref a, v] ∧ CAt K C H a dx nd tl hl al A m c ∧ m + wB b ≤ 20000 ∧ bits A ∧
  Dp K H v (.tuple (eB b)) ∧ BlOk Pn d b ∧ ∀ H', Ch [a, nd, tl, hl] H H' → CAt K C H' a dx nd tl hl al A (m + wB b) (goB A b c) → Q .non H'
def spGoB (K : PySem.W.Frag) (C : Addr) : Nat → Sp
  | 0 => fun _ _ _ _ => False
  | d + 1 => spGo K C d
theorem nm_put {H H' : Hp} {nd : Addr} {nu : Nu} {m : Nat} {kvs : List (Key × V)} {x : Str} {i : Int} (k2 : kvs.length ≤ m) (k3 : ∀ x, (valV kvs (Sum.inr x)).getD (.int 0) = .int (nu x)) (h : H' nd = some (.dK (putK kvs (Sum.inr x) (.int i)))) : NmAt H' nd (put nu x i) (m + 1) := by
  refine ⟨_, h, ?_, fun y => ?_⟩
  · have := length_putK kvs (Sum.inr x) (.int i)
    omega
  · rw [valV_put]
    unfold put
    by_cases e : y = x
    · subst e
      rw [if_pos rfl, if_pos rfl]
      rfl
    · have e' : ¬ (Sum.inr y : Key) = Sum.inr x := fun z => e (Sum.inr.inj z)
      rw [if_neg e, if_neg e']
      exact k3 y
theorem sum_take (bs : List (List Sm)) {i : Nat} {b : List Sm} (h : bs[i]? = some b) : ((bs.take (i + 1)).map wB).sum = ((bs.take i).map wB).sum + wB b := by
  obtain ⟨hl, e⟩ := List.getElem?_eq_some_iff.mp h
  rw [List.take_succ_eq_append_getElem hl, e, List.map_append, List.sum_append]
  simp
theorem sum_take_le (bs : List (List Sm)) (i : Nat) : ((bs.take i).map wB).sum ≤ (bs.map wB).sum := by
  have : (bs.map wB).sum = ((bs.take i).map wB).sum + ((bs.drop i).map wB).sum := by rw [← List.sum_append, ← List.map_append, List.take_append_drop]
  omega
theorem fold_more {A : List Int} {bs : List (List Sm)} {i : Nat} {b : List Sm} (h : bs[i]? = some b) (c : Co) : (bs.take (i + 1)).foldl (fun c b => goB A b c) c = goB A b ((bs.take i).foldl (fun c b => goB A b c) c) := by
  obtain ⟨hl, e⟩ := List.getElem?_eq_some_iff.mp h
  rw [List.take_succ_eq_append_getElem hl, e, List.foldl_append]
  rfl
/-- the blocks of a statement, one behind another -/
theorem do_loop {K : PySem.W.Frag} {C : Addr} {H : Hp} {Q : VK} {a dx nd tl hl al : Addr} {A : List Int} {m : Nat} {c : Co} {v : V} {d : Nat} {st : Sm} (I : CAt K C H a dx nd tl hl al A m c) (hm : m + wS st ≤ 20000) (hA : bits A) (hd : Dp K H v (eS st)) (ok : SmOk Pn d st)
    (q : ∀ H', Ch [a, nd, tl, hl] H H' → CAt K C H' a dx nd tl hl al A (m + wS st) (goS A st c) → Q .non H') (n1 : ∀ x e, st ≠ .set x e) (n2 : ∀ e, st ≠ .pay e) (n3 : st ≠ .stop) :
    tFor (iList K (tMeth C "parts" (spPar K C) [] E0 (tVar 0) (tCons (tVar 1) tNil))) (gName 2) (tDrop (tMeth C "go" (spGoB K C d) [] E0 (tVar 0) (tCons (tVar 2) tNil))) { nx := fun _ H' => Q V.non H', rt := Q } [some (.ref a), some v, none] H := by
  cases d with
  | zero => cases st <;> first | exact (n1 _ _ rfl).elim | exact (n2 _ rfl).elim | exact (n3 rfl).elim | exact ok.elim
  | succ d =>
    refine ⟨_, rfl, a, dx, _, rfl, I.ins, no_parts, _, rfl, a, dx, nd, tl, hl, al, A, m, c, v, d, st, rfl, I, by omega, hA, hd, ok, n1, n2, n3, fun H1 p vs bs c1 g1 np I1 e1 h1 okb ev1 w1 => ?_⟩
    have lenv : vs.length = bs.length := by rw [dpa_len h1, List.length_map]
    refine ⟨p, rfl, ⟨_, SqL.of e1⟩, for_list (K := K) (a := p) (xs := vs) (fun i sg H' => Ch [a, nd, tl, hl] H H' ∧ Ch [a, nd, tl, hl] H1 H' ∧ (∃ o, sg = [some (.ref a), some v, o]) ∧ CAt K C H' a dx nd tl hl al A (m + 1 + ((bs.take i).map wB).sum) ((bs.take i).foldl (fun c b => goB A b c) c1))
      ⟨g1, Ch.refl _ _, ⟨_, rfl⟩, I1.mono (by omega)⟩ (fun i sg H' _ h => ?_) ?_ ?_⟩
    · have np' : p ∉ [a, nd, tl, hl] := by
        intro z
        obtain ⟨kvs, k1, _⟩ := I.nm
        simp only [List.mem_cons, List.not_mem_nil, or_false] at z
        rcases z with z | z | z | z
        · rw [z, I.ins] at np; cases np
        · rw [z, k1] at np; cases np
        · rw [z, I.ts] at np; cases np
        · rw [z, I.hs] at np; cases np
      exact h.2.1.sql (SqL.of e1) np'
    · rintro i x sg H' hx ⟨c2, c3, ⟨o, rfl⟩, I2⟩
      obtain ⟨e, he, hdx⟩ := dpa_get h1 hx
      rw [List.getElem?_map] at he
      cases hb : bs[i]? with
      | none => rw [hb] at he; cases he
      | some b =>
        rw [hb] at he
        cases he
        have hsum := sum_take bs hb
        have hle := sum_take_le bs (i + 1)
        refine ⟨_, rfl, a, dx, _, rfl, I2.ins, no_go, _, rfl, a, dx, nd, tl, hl, al, A, _, _, x, b, rfl, I2, by omega, hA, c3.dB hdx, okb b (List.mem_of_getElem? hb), fun H3 c4 I3 => ?_⟩
        refine ⟨c2.trans c4, c3.trans c4, ⟨_, rfl⟩, ?_⟩
        rw [fold_more hb]
        exact I3.mono (by omega)
    · rintro sg H' ⟨c2, _, _, I2⟩
      refine q H' c2 ?_
      rw [lenv, List.take_length] at I2
      rw [ev1]
      exact I2.mono (by omega)
section
variable {P : Program} {w : World} {K : PySem.W.Frag} {mg : Str → Option Value} {base : Heap} {aC aK C : Addr}
abbrev s_m_do : Stmt := inClass (tp 39) 3
theorem sc_m_do : FnScope ["self", "statement", "block"] ["self", "statement"] (defScope s_m_do) := ⟨rfl, rfl, rfl, by decide +kernel, rfl, by decide +kernel, by decide +kernel⟩
theorem v_do (D : Dq K C "do" "Course.do" s_m_do ["self", "statement"]) (X : TxC K C) (c_value_of : Df P w K mg base 3 "value_of" (spVal K 3)) (c_parts : Dm P w K mg base C 7 "parts" (spPar K C)) (d : Nat) (c_go : Dm P w K mg base C (7 + 2 * d) "go" (spGoB K C d)) : Dm P w K mg base C (8 + 2 * d) "do" (spDo K C d) := by
  have e8 : 8 + 2 * d = (7 + 2 * d) + 1 := by omega
  rw [e8]
  refine D.ok sc_m_do (fun vs H Q E h => ?_) (fun f cdv Ar outer s H vs Q E hr h => ?_)
  · obtain ⟨a, dx, nd, tl, hl, al, A, m, c, v, s, rfl, _⟩ := h
    rfl
  obtain ⟨a, dx, nd, tl, hl, al, A, m, c, v, st, rfl, I, hm, hA, hd, ok, q⟩ := h
  have hlen : m ≤ 20000 := by omega
  refine ⟨_, (pss_one (ps_if (pt_cmpR op_eq (pe_ix ix_tup (pv 1) pe_int (fun _ _ => rfl)) pe_str (nomark _)) (pss_one (ps_dput (hu_of hr) (pe_fld (pv 0) rfl) (pe_ix ix_tup (pv 1) pe_int (fun _ _ => rfl)) (pdf c_value_of hr (by first | decide | omega) rfl (pa_cons (pe_ix ix_tup (pv 1) pe_int (fun _ _ => rfl)) (pa_cons (pe_fld (pv 0) rfl) pa_nil))) rfl)) (pss_one (ps_if (pt_cmpR op_eq (pe_ix ix_tup (pv 1) pe_int (fun _ _ => rfl)) pe_str (nomark _)) (pss_one (ps_fldaug (pv 0) (pdf c_value_of hr (by first | decide | omega) rfl (pa_cons (pe_ix ix_tup (pv 1) pe_int (fun _ _ => rfl)) (pa_cons (pe_fld (pv 0) rfl) pa_nil))) in_add)) (pss_one (ps_if (pt_cmpR op_eq (pe_ix ix_tup (pv 1) pe_int (fun _ _ => rfl)) pe_str (nomark _)) (pss_one (ps_fld (pv 0) pe_bl rfl)) (pss_one (ps_for PassesOwn.never rfl (pi_list (pmt c_parts hr (by first | decide | omega) (pv 0) (pa_cons (pv 1) pa_nil))) (pg_name (i := 2) sc_m_do.nd rfl (Or.inl rfl)) (pss_one (ps_expr (pmt c_go hr (by first | decide | omega) (pv 0) (pa_cons (pv 2) pa_nil)))))))))))), ?_⟩
  obtain ⟨kvs, k1, k2, k3⟩ := I.nm
  have i1 : nd ≠ a := ne_of k1 I.ins (by intro z; cases z)
  have i2 : tl ≠ a := ne_of I.ts I.ins (by intro z; cases z)
  have i3 : hl ≠ a := ne_of I.hs I.ins (by intro z; cases z)
  have i4 : tl ≠ nd := ne_of I.ts k1 (by intro z; cases z)
  have i5 : hl ≠ nd := ne_of I.hs k1 (by intro z; cases z)
  cases st with
  | set x e =>
    have ok' : Pn x ∧ ExOk Pn 3 e := by cases d <;> exact ok
    obtain ⟨p, x0, x1, x2, rfl, hs, e0, e1, e2⟩ := dp_tup3 hd
    obtain rfl := dp_str e0
    obtain rfl := dp_str e1
    refine ⟨_, rfl, p, _, _, _, rfl, rfl, hs, at0, rfl, _, rfl, ifT rfl ?_⟩
    refine ⟨_, rfl, p, _, _, _, rfl, rfl, hs, at2, _, rfl, a, C, dx, _, _, rfl, I.ins, X.cl, X.nN, cf_names, x2, nd, c.nu, m, e, rfl, e2, ok'.2, I.nm, ?_⟩
    refine ⟨_, rfl, a, C, dx, _, _, rfl, I.ins, X.cl, X.nN, cf_names, _, rfl, p, _, _, _, rfl, rfl, hs, at1, nd, _, rfl, DPut.k (k := Sum.inr x) k1 (sz (by omega)), ?_⟩
    have c1 : Ch [a, nd, tl, hl] H (upd H nd (.dK (putK kvs (Sum.inr x) (.int (ev c.nu e))))) := Ch.put k1 (fun z => z) (by simp) _
    refine q _ c1 ⟨?_, nm_put (H := H) k2 k3 upd_same, ?_, ?_, I.ne, c1.sqt I.ask, Nat.le_succ_of_le I.lt, Nat.le_succ_of_le I.lh⟩
    · rw [upd_ne i1.symm]; exact I.ins
    · rw [upd_ne i4]; exact I.ts
    · rw [upd_ne i5]; exact I.hs
  | pay e =>
    have ok' : ExOk Pn 3 e := by cases d <;> exact ok
    obtain ⟨p, x0, x1, rfl, hs, e0, e1⟩ := dp_tup2 hd
    obtain rfl := dp_str e0
    refine ⟨_, rfl, p, _, _, _, rfl, rfl, hs, at0, rfl, _, rfl, ifF (by decide +kernel) ?_⟩
    refine ⟨_, rfl, p, _, _, _, rfl, rfl, hs, at0, rfl, _, rfl, ifT rfl ?_⟩
    refine ⟨_, rfl, a, C, dx, _, _, rfl, I.ins, X.cl, X.nT, cf_total, ?_⟩
    refine ⟨_, rfl, p, _, _, _, rfl, rfl, hs, at1, _, rfl, a, C, dx, _, _, rfl, I.ins, X.cl, X.nN, cf_names, x1, nd, c.nu, m, e, rfl, e1, ok', I.nm, ?_⟩
    refine ⟨_, _, rfl, rfl, dx, _, I.ins, cf_len, ?_⟩
    rw [put_total]
    have c1 : Ch [a, nd, tl, hl] H (upd H a (.ins C dx (cf nd (c.z + ev c.nu e) tl hl al c.st))) := Ch.put I.ins (fun z => z) (by simp) _
    refine q _ c1 ⟨upd_same, ⟨kvs, ?_, Nat.le_succ_of_le k2, k3⟩, ?_, ?_, I.ne, c1.sqt I.ask, Nat.le_succ_of_le I.lt, Nat.le_succ_of_le I.lh⟩
    · rw [upd_ne i1]; exact k1
    · rw [upd_ne i2]; exact I.ts
    · rw [upd_ne i3]; exact I.hs
  | stop =>
    obtain ⟨p, x0, rfl, hs, e0⟩ := dp_tup1 hd
    obtain rfl := dp_str e0
    refine ⟨_, rfl, p, _, _, _, rfl, rfl, hs, at0, rfl, _, rfl, ifF (by decide +kernel) ?_⟩
    refine ⟨_, rfl, p, _, _, _, rfl, rfl, hs, at0, rfl, _, rfl, ifF (by decide +kernel) ?_⟩
    refine ⟨_, rfl, p, _, _, _, rfl, rfl, hs, at0, rfl, _, rfl, ifT rfl ?_⟩
    refine ⟨_, rfl, a, C, dx, _, rfl, I.ins, X.cl, X.nS, cf_len, ?_⟩
    rw [put_stopped]
    have c1 : Ch [a, nd, tl, hl] H (upd H a (.ins C dx (cf nd c.z tl hl al true))) := Ch.put I.ins (fun z => z) (by simp) _
    refine q _ c1 ⟨upd_same, ⟨kvs, ?_, Nat.le_succ_of_le k2, k3⟩, ?_, ?_, I.ne, c1.sqt I.ask, Nat.le_succ_of_le I.lt, Nat.le_succ_of_le I.lh⟩
    · rw [upd_ne i1]; exact k1
    · rw [upd_ne i2]; exact I.ts
    · rw [upd_ne i3]; exact I.hs
  | ite t y n =>
    obtain ⟨p, x0, x1, x2, x3, rfl, hs, e0, _⟩ := dp_tup4 hd
    obtain rfl := dp_str e0
    refine ⟨_, rfl, p, _, _, _, rfl, rfl, hs, at0, rfl, _, rfl, ifF (by decide +kernel) ?_⟩
    refine ⟨_, rfl, p, _, _, _, rfl, rfl, hs, at0, rfl, _, rfl, ifF (by decide +kernel) ?_⟩
    refine ⟨_, rfl, p, _, _, _, rfl, rfl, hs, at0, rfl, _, rfl, ifF (by decide +kernel) ?_⟩
    exact do_loop I hm hA hd ok q (by intro _ _ z; cases z) (by intro _ z; cases z) (by intro z; cases z)
  | ch g y n =>
    obtain ⟨p, x0, x1, x2, rfl, hs, e0, _⟩ := dp_tup3 hd
    obtain rfl := dp_str e0
    refine ⟨_, rfl, p, _, _, _, rfl, rfl, hs, at0, rfl, _, rfl, ifF (by cases g <;> decide +kernel) ?_⟩
    refine ⟨_, rfl, p, _, _, _, rfl, rfl, hs, at0, rfl, _, rfl, ifF (by cases g <;> decide +kernel) ?_⟩
    refine ⟨_, rfl, p, _, _, _, rfl, rfl, hs, at0, rfl, _, rfl, ifF (by cases g <;> decide +kernel) ?_⟩
    exact do_loop I hm hA hd ok q (by intro _ _ z; cases z) (by intro _ z; cases z) (by intro z; cases z)
  | rep k b =>
    obtain ⟨p, x0, x1, x2, rfl, hs, e0, _⟩ := dp_tup3 hd
    obtain rfl := dp_str e0
    refine ⟨_, rfl, p, _, _, _, rfl, rfl, hs, at0, rfl, _, rfl, ifF (by decide +kernel) ?_⟩
    refine ⟨_, rfl, p, _, _, _, rfl, rfl, hs, at0, rfl, _, rfl, ifF (by decide +kernel) ?_⟩
    refine ⟨_, rfl, p, _, _, _, rfl, rfl, hs, at0, rfl, _, rfl, ifF (by decide +kernel) ?_⟩
    exact do_loop I hm hA hd ok q (by intro _ _ z; cases z) (by intro _ z; cases z) (by intro z; cases z)
abbrev s_m_go : Stmt := inClass (tp 39) 4
theorem sc_m_go : FnScope ["self", "block", "statement"] ["self", "block"] (defScope s_m_go) := ⟨rfl, rfl, rfl, by decide +kernel, rfl, by decide +kernel, by decide +kernel⟩
theorem v_go (D : Dq K C "go" "Course.go" s_m_go ["self", "block"]) (X : TxC K C) (d : Nat) (c_do : Dm P w K mg base C (8 + 2 * d) "do" (spDo K C d)) : Dm P w K mg base C (9 + 2 * d) "go" (spGo K C d) := by
  have e9 : 9 + 2 * d = (8 + 2 * d) + 1 := by omega
  rw [e9]
  refine D.ok sc_m_go (fun vs H Q E h => ?_) (fun f cdv Ar outer s H vs Q E hr h => ?_)
  · obtain ⟨a, dx, nd, tl, hl, al, A, m, c, v, s, rfl, _⟩ := h
    rfl
  obtain ⟨a, dx, nd, tl, hl, al, A, m, c, v, b, rfl, I, hm, hA, hd, ok, q⟩ := h
  refine ⟨_, (pss_one (ps_for PassesOwn.never rfl (pi_tup (pv 1)) (pg_name (i := 2) sc_m_go.nd rfl (Or.inl rfl)) (pss_one (ps_if (pt_not (pt_val (pe_fld (pv 0) rfl))) (pss_one (ps_expr (pmt c_do hr (by first | decide | omega) (pv 0) (pa_cons (pv 2) pa_nil)))) pss_nil)))), ?_⟩
  obtain ⟨p, xs, rfl, hs, hxs⟩ := dp_tup hd
  have hlen : xs.length = b.length := by rw [dpa_len hxs, eB_len]
  refine ⟨_, rfl, p, rfl, ⟨_, hs⟩, for_tup (K := K) (a := p) (xs := xs) (fun i sg H' => Ch [a, nd, tl, hl] H H' ∧ (∃ o, sg = [some (.ref a), some (.ref p), o]) ∧ CAt K C H' a dx nd tl hl al A (m + wB (b.take i)) (goB A (b.take i) c))
    ⟨Ch.refl _ _, ⟨_, rfl⟩, by rw [List.take_zero, goB]; exact I.mono (by omega)⟩ (fun i sg H' _ h => h.1.sqt hs) ?_ ?_⟩
  · rintro i x sg H' hx ⟨c2, ⟨o, rfl⟩, I2⟩
    obtain ⟨e, he, hdx⟩ := dpa_get hxs hx
    obtain ⟨s, hb, rfl⟩ := eB_get he
    have hw := wB_more hb
    have hle := wB_take_le b (i + 1)
    refine ⟨_, rfl, a, C, dx, _, _, rfl, I2.ins, X.cl, X.nS, cf_stopped, _, rfl, ?_⟩
    have hg := goB_more (A := A) hb c
    cases hst : (goB A (b.take i) c).st with
    | true =>
      rw [hst, if_pos rfl] at hg
      refine iteF ?_
      refine ⟨c2, ⟨_, rfl⟩, ?_⟩
      rw [hg]
      exact I2.mono (by omega)
    | false =>
      rw [hst, if_neg Bool.false_ne_true] at hg
      refine iteT ?_
      refine ⟨_, rfl, a, dx, _, rfl, I2.ins, no_do, _, rfl, a, dx, nd, tl, hl, al, A, _, _, x, s, rfl, I2, by omega, hA, c2.dS hdx, ok s (List.mem_of_getElem? hb), fun H3 c4 I3 => ?_⟩
      refine ⟨c2.trans c4, ⟨_, rfl⟩, ?_⟩
      rw [hg]
      exact I3.mono (by omega)
  · rintro sg H' ⟨c2, _, I2⟩
    rw [hlen, List.take_length] at I2
    exact q H' c2 I2
theorem v_all {P : Program} {w : World} {K : PySem.W.Frag} {mg : Str → Option Value} {base : Heap} {C : Addr} (DD : Dq K C "do" "Course.do" s_m_do ["self", "statement"]) (DG : Dq K C "go" "Course.go" s_m_go ["self", "block"]) (X : TxC K C) (c_value_of : Df P w K mg base 3 "value_of" (spVal K 3)) (c_parts : Dm P w K mg base C 7 "parts" (spPar K C)) :
    ∀ d, Dm P w K mg base C (9 + 2 * d) "go" (spGo K C d)
  | 0 => v_go DG X 0 (v_do DD X c_value_of c_parts 0 (DG.none fun _ _ _ _ h => h))
  | d + 1 => v_go DG X (d + 1) (v_do DD X c_value_of c_parts (d + 1) ((v_all DD DG X c_value_of c_parts d).mono (by omega)))
end
end K28
/-! K28I: a run; all runs. -/
namespace K28
open PySem PySem.Spec PyProof.Rows L2
theorem Ch.into {M N : List Addr} {H0 H1 H2 : Hp} (a : Ch M H0 H1) (b : Ch N H1 H2) (y : ∀ x ∈ N, H0 x = none) : Ch M H0 H2 :=
  ⟨fun c o h n => b.out c o (a.out c o h n) (fun z => by rw [y c z] at h; cases h), fun c o h i => b.imm c o (a.imm c o h i) i, fun c h => a.free c (b.free c h)⟩
theorem catA {K : PySem.W.Frag} {H : Hp} {a b : Addr} {xs ys : List V} {Q : VK} (ha : SqT K H a xs) (hb : SqT K H b ys) (hz : xs.length + ys.length ≤ sizeLine) (q : ∀ p H', SqT K H' p (xs ++ ys) → Ch [] H H' → Q (.ref p) H') : rCatA K (.ref a) (.ref b) H Q := by
  refine ⟨a, b, xs, ys, rfl, rfl, ha, hb, hz, fun e => ?_, fun _ e => ?_, fun _ _ p hp => q p _ sqt_new (Ch.new hp _)⟩
  · subst e; exact q b H hb (Ch.refl _ _)
  · subst e; exact q a H (by rw [List.append_nil]; exact ha) (Ch.refl _ _)
theorem slA {K : PySem.W.Frag} {H : Hp} {a : Addr} {xs : List V} {lo hi : Option Int} {Q : VK} (ha : SqT K H a xs) (q : ∀ p H', SqT K H' p (cutV xs lo hi) → Ch [] H H' → Q (.ref p) H') : rSlA K (.ref a) lo hi H Q := by
  refine ⟨a, xs, rfl, ha, fun ⟨e1, e2⟩ => q a H ?_ (Ch.refl _ _), fun _ p hp => q p _ sqt_new (Ch.new hp _)⟩
  unfold cutV
  rw [e1, e2, List.drop_zero, Nat.sub_zero, List.take_length]
  exact ha
theorem cut_to {xs : List V} {k : Nat} : cutV xs none (some (k : Int)) = xs.take k := by
  unfold cutV
  rw [HT.sIx_none, HT.sIx_nat, List.drop_zero, Nat.sub_zero]
  rcases Nat.le_total k xs.length with h | h
  · rw [Nat.min_eq_left h]
  · rw [Nat.min_eq_right h, List.take_length, List.take_of_length_le h]
theorem cut_from {xs : List V} {k : Nat} : cutV xs (some (k : Int)) none = xs.drop k := by
  unfold cutV
  rw [HT.sIx_none, HT.sIx_nat]
  rcases Nat.le_total k xs.length with h | h
  · rw [Nat.min_eq_left h, ← List.length_drop, List.take_length]
  · rw [Nat.min_eq_right h, List.drop_length, List.drop_of_length_le h]
    simp
/-- C(..) -/
structure Dk (P : Program) (w : World) (K : PySem.W.Frag) (mg : Str → Option Value) (base : Heap) (C : Addr) (k : Nat) (x : Str) (sp : Sp) : Prop where
  ex : ∃ (f : Addr) (fd : FuncData) (ps : List Str), Mk K C f ∧ FnOk P w K mg base CX0 k f fd ps sp ∧ mg x = some (.ref C) ∧ Binds K fd ps []
theorem pmk {X : Cx} {C : Addr} {k j : Nat} {x : Str} {sp : Sp} {p pos : Pos} {e : Expr} {es : List Expr} {t : TA} (c : Dk X.prog X.w X.K X.mg X.base C k x sp) (hr : Room j X.A) (hk : k + 1 ≤ j) (hg : Gl X x) (ha : PA X (e :: es) t)
    (hdb : (x == ("__debug__" : Str)) = false := by decide) (he : starEach (e :: es) X.env = (false, eval e X.env) :: starEach es X.env := by rfl) (hpl : (backTo pos (starEach es X.env)).any (·.1) = false := by rfl) :
    PE X (.Call (.Name x p) (e :: es) [] pos) (tMake C sp [] E0 t) := by
  obtain ⟨f, fd, ps, M, F, hm, b⟩ := c.ex
  exact pe_make M F (hr.mono hk) hg hm b .nil pass0 ha hdb he hpl
structure Di (K : PySem.W.Frag) (mg : Str → Option Value) (C : Addr) (x qual : Str) (st : Stmt) (ps : List Str) : Prop where
  ex : ∃ (f : Addr) (fd : FuncData), Fun K "__init__" qual st f fd ∧ Mk K C f ∧ mg x = some (.ref C) ∧ Binds K fd ps []
def spInit (K : PySem.W.Frag) (C : Addr) : Sp := fun vs H Q _ => ∃ (a dx al : Addr) (n : Int) (A : List Int), vs = [.ref a, .int n, .ref al] ∧ H a = some (.ins C dx []) ∧ SqT K H al (A.map V.int) ∧
  ∀ H' nd tl hl, Ch [a] H H' → H nd = none → H tl = none → H hl = none → CAt K C H' a dx nd tl hl al A 1 (start n) → Q .non H'
/-- a row of runs as data -/
def eR (r : Row) : PyData := .tuple [.int r.1, .tuple (r.2.1.map .int), .tuple (r.2.2.map fun w => .str (hand w))]
def spRun (K : PySem.W.Frag) (d : Nat) : Sp := fun vs H Q _ => ∃ (v : V) (al : Addr) (n : Int) (A : List Int) (p : List Sm), vs = [v, .int n, .ref al] ∧ Dp K H v (.tuple (eB p)) ∧ BlOk Pn d p ∧ wB p ≤ 10000 ∧ SqT K H al (A.map V.int) ∧ bits A ∧
  ∀ H' r, Ch [] H H' → Dp K H' (.ref r) (eR (fol (tree p n) A [] [])) → Q (.ref r) H'
theorem dpa_ints {K : PySem.W.Frag} {H : Hp} : ∀ ns : List Int, DpAll K H (ns.map V.int) (ns.map .int)
  | [] => .nil
  | n :: r => .cons (.int n) (dpa_ints r)
theorem dpa_hands {K : PySem.W.Frag} {H : Hp} : ∀ ws : List Bool, DpAll K H (ws.map fun w => V.str (hand w)) (ws.map fun w => .str (hand w))
  | [] => .nil
  | w :: r => .cons (.str _) (dpa_hands r)
theorem flat_ints : ∀ ns : List Int, flatTs (ns.map PyData.int) = true
  | [] => rfl
  | n :: r => by rw [List.map_cons, flatTs, flatT, flat_ints r]; rfl
theorem flat_hands : ∀ ws : List Bool, flatTs (ws.map fun w => PyData.str (hand w)) = true
  | [] => rfl
  | n :: r => by rw [List.map_cons, flatTs, flatT, flat_hands r]; rfl
theorem flat_R (r : Row) : flatT (eR r) = true := by simp [eR, flatT, flatTs, flat_ints, flat_hands]
theorem Ch.dR {K : PySem.W.Frag} {M : List Addr} {H H' : Hp} (c : Ch M H H') {v : V} {r : Row} (h : Dp K H v (eR r)) : Dp K H' v (eR r) := Dp.gw c.imm _ _ (flat_R r) h
section
variable {P : Program} {w : World} {K : PySem.W.Frag} {mg : Str → Option Value} {base : Heap} {aC aK C : Addr}
abbrev s_m_init : Stmt := inClass (tp 39) 0
theorem sc_m_init : FnScope ["self", "number", "asked"] ["self", "number", "asked"] (defScope s_m_init) := ⟨rfl, rfl, rfl, by decide +kernel, rfl, by decide +kernel, by decide +kernel⟩
theorem v_init (D : Di K mg C "Course" "Course.__init__" s_m_init ["self", "number", "asked"]) (T : Txt K mg aC aK) (X : TxC K C) : Dk P w K mg base C 1 "Course" (spInit K C) := by
  obtain ⟨f, fd, F, M, hm, b⟩ := D.ex
  refine ⟨f, fd, _, M, F.ok sc_m_init (fun vs H Q E h => ?_) (fun cdv Ar outer s H vs Q E hr h => ?_), hm, b⟩
  · obtain ⟨a, dx, al, n, A, rfl, _⟩ := h
    rfl
  obtain ⟨a, dx, al, n, A, rfl, hi, hA, q⟩ := h
  refine ⟨_, (pss_cons (ps_fld (pv 0) (pe_disp (pps_cons (pgc rfl T.g_INPUT) (pv 1) pps_nil) (by rfl) (by rfl) (fun z => by cases z) (by decide)) rfl)
      (pss_cons (ps_fld (pv 0) pe_int rfl)
      (pss_cons (ps_fld (pv 0) (pe_lst pa_nil) rfl)
      (pss_cons (ps_fld (pv 0) (pe_lst pa_nil) rfl)
      (pss_cons (ps_fld (pv 0) (pv 2) rfl)
      (pss_one (ps_fld (pv 0) pe_bl rfl))))))), ?_⟩
  intro nd hnd
  refine ⟨_, rfl, upd_same, [(Sum.inr "n", .int n)], rfl, by show 1 ≤ 15; decide, ?_⟩
  have na : a ≠ nd := ne_of_none hi hnd
  refine ⟨_, rfl, a, C, dx, _, rfl, (by rw [upd_ne na, upd_ne na]; exact hi), X.cl, X.nN, (by show 0 < 1000; decide), ?_⟩
  refine ⟨_, rfl, a, C, dx, _, rfl, upd_same, X.cl, X.nT, (by show 1 < 1000; decide), ?_⟩
  refine ⟨Nat.zero_le _, fun tl htl => ?_⟩
  have ta : a ≠ tl := fun e => by rw [e, upd_same] at htl; cases htl
  refine ⟨_, rfl, a, C, dx, _, rfl, (by rw [upd_ne ta]; exact upd_same), X.cl, X.nU, (by show 2 < 1000; decide), ?_⟩
  refine ⟨Nat.zero_le _, fun hl hhl => ?_⟩
  have ha : a ≠ hl := fun e => by rw [e, upd_same] at hhl; cases hhl
  refine ⟨_, rfl, a, C, dx, _, rfl, (by rw [upd_ne ha]; exact upd_same), X.cl, X.nH, (by show 3 < 1000; decide), ?_⟩
  refine ⟨_, rfl, _, rfl, a, C, dx, _, rfl, upd_same, X.cl, X.nA, (by show 4 < 1000; decide), ?_⟩
  refine ⟨_, rfl, a, C, dx, _, rfl, upd_same, X.cl, X.nS, (by show 5 < 1000; decide), ?_⟩
  have hna : nd ≠ tl := fun e => by
    rw [← e, upd_ne na.symm, upd_ne na.symm, upd_same] at htl
    cases htl
  have hnh : nd ≠ hl := fun e => by
    rw [← e, upd_ne na.symm, upd_ne hna, upd_ne na.symm, upd_ne na.symm, upd_same] at hhl
    cases hhl
  have hth : tl ≠ hl := fun e => by
    rw [← e, upd_ne ta.symm, upd_same] at hhl
    cases hhl
  have htl0 : H tl = none := by
    rw [upd_ne ta.symm, upd_ne ta.symm, upd_ne hna.symm, upd_ne hna.symm] at htl
    exact htl
  have hhl0 : H hl = none := by
    rw [upd_ne ha.symm, upd_ne hth.symm, upd_ne ha.symm, upd_ne ha.symm, upd_ne hnh.symm, upd_ne hnh.symm] at hhl
    exact hhl
  have imm : ∀ {C dx : Addr} {fs : List (Str × V)}, ¬ Imm (.ins C dx fs) := fun z => z
  have c0 : Ch [a] H (upd (upd H nd (.dK [])) nd (.dK (mergeK [] [(Sum.inr "n", .int n)]))) := ((Ch.refl [a] H).add hnd _).young hnd upd_same _
  have i0 : (upd (upd H nd (.dK [])) nd (.dK (mergeK [] [(Sum.inr "n", .int n)]))) a = some (.ins C dx []) := by rw [upd_ne na, upd_ne na]; exact hi
  have c1 := (c0.trans (Ch.put i0 imm (by simp) (.ins C dx (putF "names" (.ref nd) [])))).trans (Ch.put upd_same imm (by simp) (.ins C dx (putF "total" (.int 0) (putF "names" (.ref nd) []))))
  have c2 := (c1.add htl (.lst [])).trans (Ch.put (p := a) (by rw [upd_ne ta]; exact upd_same) imm (by simp) (.ins C dx (putF "turns" (.ref tl) (putF "total" (.int 0) (putF "names" (.ref nd) [])))))
  have c3 := (c2.add hhl (.lst [])).trans (Ch.put (p := a) (by rw [upd_ne ha]; exact upd_same) imm (by simp) (.ins C dx (putF "hands" (.ref hl) (putF "turns" (.ref tl) (putF "total" (.int 0) (putF "names" (.ref nd) []))))))
  have c4 := (c3.trans (Ch.put upd_same imm (by simp) (.ins C dx (putF "asked" (.ref al) (putF "hands" (.ref hl) (putF "turns" (.ref tl) (putF "total" (.int 0) (putF "names" (.ref nd) [])))))))).trans (Ch.put upd_same imm (by simp) (.ins C dx (putF "is_stopped" (.bl false) (putF "asked" (.ref al) (putF "hands" (.ref hl) (putF "turns" (.ref tl) (putF "total" (.int 0) (putF "names" (.ref nd) []))))))))
  refine q _ nd tl hl c4 hnd htl0 hhl0 ⟨?_, ⟨[(Sum.inr "n", .int n)], ?_, by show 1 ≤ 1; decide, fun x => ?_⟩, ?_, ?_, hth, c4.sqt hA, Nat.zero_le _, Nat.zero_le _⟩
  · rw [upd_same, put_all]
    rfl
  · rw [upd_ne na.symm, upd_ne na.symm, upd_ne na.symm, upd_ne hnh, upd_ne na.symm, upd_ne hna, upd_ne na.symm, upd_ne na.symm, upd_same]
    rfl
  · show _ = V.int (nu0 n x)
    unfold nu0
    by_cases e : x = "n"
    · rw [if_pos e, e, valV_pos rfl]
      rfl
    · rw [if_neg e, valV_neg (fun z => e (Sum.inr.inj z).symm)]
      rfl
  · rw [upd_ne ta.symm, upd_ne ta.symm, upd_ne ta.symm, upd_ne hth, upd_ne ta.symm, upd_same]
    rfl
  · rw [upd_ne ha.symm, upd_ne ha.symm, upd_ne ha.symm, upd_same]
    rfl
abbrev s_run : Stmt := tp 40
theorem sc_run : FnScope ["program", "number", "turns", "course"] ["program", "number", "turns"] (defScope s_run) := ⟨rfl, rfl, rfl, by decide +kernel, rfl, by decide +kernel, by decide +kernel⟩
theorem v_run (D : Dh K mg "run" s_run ["program", "number", "turns"]) (T : Txt K mg aC aK) (X : TxC K C) (c_init : Dk P w K mg base C 1 "Course" (spInit K C)) (d : Nat) (c_go : Dm P w K mg base C (9 + 2 * d) "go" (spGo K C d)) : Df P w K mg base (10 + 2 * d) "run" (spRun K d) := by
  have e10 : 10 + 2 * d = (9 + 2 * d) + 1 := by omega
  rw [e10]
  refine D.ok sc_run (fun vs H Q E h => ?_) (fun f cdv Ar outer s H vs Q E hr h => ?_)
  · obtain ⟨v, al, n, A, p, rfl, _⟩ := h
    rfl
  obtain ⟨v, al, n, A, p, rfl, hd, ok, hw, hA, hb, q⟩ := h
  refine ⟨_, (pss_cons (ps_set (i := 3) sc_run.nd rfl (Or.inl rfl) (pmk c_init hr (by first | decide | omega) rfl (pa_cons (pv 1) (pa_cons (pv 2) pa_nil))))
      (pss_cons (ps_expr (pmt c_go hr (by first | decide | omega) (pv 3) (pa_cons (pv 0) pa_nil)))
      (pss_one (ps_ret (pe_tup (pa_cons (pe_fld (pv 3) rfl) (pa_cons (pe_callTy call_tuple_of (by rfl) T.z_tuple (by decide +kernel) (pa_cons (pe_fld (pv 3) rfl) pa_nil)) (pa_cons (pe_callTy call_tuple_of (by rfl) T.z_tuple (by decide +kernel) (pa_cons (pe_fld (pv 3) rfl) pa_nil)) pa_nil)))))))), ?_⟩
  refine ⟨_, rfl, _, rfl, fun a dx h1 h2 hne => ?_⟩
  have s0 : Ch [] H (upd (upd H dx (.own a)) a (.ins C dx [])) := (Ch.new h2 _).add (by rw [upd_ne hne.symm]; exact h1) _
  refine ⟨a, dx, al, n, A, rfl, upd_same, s0.sqt hA, fun H1 nd tl hl c1 n1 n2 n3 I1 => ⟨rfl, ?_⟩⟩
  have s1 : Ch [] H H1 := s0.into c1 (by intro x hx; rw [List.mem_singleton.mp hx]; exact h1)
  refine ⟨_, rfl, a, dx, _, rfl, I1.ins, no_go, _, rfl, a, dx, nd, tl, hl, al, A, 1, start n, v, p, rfl, I1, by omega, hb, s1.dB hd, ok, fun H2 c2 I2 => ?_⟩
  have s2 : Ch [] H H2 := s1.into c2 (by
    intro x hx
    simp only [List.mem_cons, List.not_mem_nil, or_false] at hx
    rcases hx with rfl | rfl | rfl | rfl
    · exact h1
    · exact s0.free _ n1
    · exact s0.free _ n2
    · exact s0.free _ n3)
  have e := run_row ok A n
  refine ⟨_, rfl, a, C, dx, _, _, rfl, I2.ins, X.cl, X.nT, cf_total, ?_⟩
  refine ⟨_, rfl, a, C, dx, _, _, rfl, I2.ins, X.cl, X.nU, cf_turns, tl, _, rfl, .inl ⟨SqL.of I2.ts, fun r1 hr1 => ?_⟩⟩
  have c3 : Ch [] H2 (upd H2 r1 (.tup ((goB A p (start n)).ts.map V.int))) := Ch.new hr1 _
  have nr : ∀ {b : Addr} {o : HO}, H2 b = some o → b ≠ r1 := fun e => ne_of_none e hr1
  refine ⟨_, rfl, a, C, dx, _, _, rfl, (by rw [upd_ne (nr I2.ins)]; exact I2.ins), X.cl, X.nH, cf_hands, hl, _, rfl, .inl ⟨SqL.of (by rw [upd_ne (nr I2.hs)]; exact I2.hs), fun r2 hr2 => ?_⟩⟩
  have c4 := c3.add hr2 (.tup ((goB A p (start n)).hs.map fun w => V.str (hand w)))
  refine ⟨szl (by simp), fun r hr3 => ?_⟩
  have c5 := c4.add hr3 (.tup [.int (goB A p (start n)).z, .ref r1, .ref r2])
  refine q _ r (s2.trans c5) ?_
  rw [← e]
  have d1 : Dp K (upd H2 r1 (.tup ((goB A p (start n)).ts.map V.int))) (.ref r1) (.tuple ((goB A p (start n)).ts.map .int)) := .tup sqt_new (dpa_ints _)
  have d2 : Dp K (upd (upd H2 r1 (.tup ((goB A p (start n)).ts.map V.int))) r2 (.tup ((goB A p (start n)).hs.map fun w => V.str (hand w)))) (.ref r2) (.tuple ((goB A p (start n)).hs.map fun w => .str (hand w))) := .tup sqt_new (dpa_hands _)
  have f1 : flatT (.tuple ((goB A p (start n)).ts.map .int)) = true := by rw [flatT]; exact flat_ints _
  have f2 : flatT (.tuple ((goB A p (start n)).hs.map fun w => .str (hand w))) = true := by rw [flatT]; exact flat_hands _
  exact dp_new hr3 (by have := flat_R (goB A p (start n)).row; rw [eR, flatT] at this; exact this) (dpa_3 (.int _) (Dp.gw (Ch.new (M := []) hr2 _).imm _ _ f1 d1) d2)
end
end K28
/-! K28J: all runs in order. -/
namespace K28
open PySem PySem.Spec PyProof.Rows L2
theorem nxt_ones : ∀ {q : List Int}, (∀ t ∈ q, t = 1) → nxt q = none
  | [], _ => rfl
  | t :: q, h => by
    rw [nxt, nxt_ones fun x hx => h x (List.mem_cons_of_mem _ hx)]
    have : t = 1 := h t List.mem_cons_self
    subst this
    rfl
theorem nxt_app {q : List Int} (h : ∀ t ∈ q, t = 1) : ∀ a : List Int, nxt (a ++ 0 :: q) = some (a ++ [1])
  | [] => by
    rw [List.nil_append, nxt, nxt_ones h]
    rfl
  | t :: a => by rw [List.cons_append, nxt, nxt_app h a]; rfl
theorem nxt_at {ts : List Int} {k : Nat} (hk : k < ts.length) (h0 : ts[k]? = some 0) (h1 : ∀ t ∈ ts.drop (k + 1), t = 1) : nxt ts = some (ts.take k ++ [1]) := by
  have e : ts = ts.take k ++ 0 :: ts.drop (k + 1) := by
    have e2 : ts[k] = 0 := by
      rw [List.getElem?_eq_getElem hk] at h0
      exact Option.some.inj h0
    rw [← e2, ← List.drop_eq_getElem_cons hk, List.take_append_drop]
  have q := nxt_app h1 (ts.take k)
  rw [← e] at q
  exact q
/-- the turns that are left to be begun with, in a list -/
def LeftAt (K : PySem.W.Frag) (H : Hp) (p : Addr) : Option (List Int) → Prop
  | none => H p = some (.lst [])
  | some r => ∃ q, H p = some (.lst [.ref q]) ∧ SqT K H q (r.map V.int)
def spNxt (K : PySem.W.Frag) : Sp := fun vs H Q _ => ∃ (a : Addr) (ts : List Int), vs = [.ref a] ∧ SqT K H a (ts.map V.int) ∧ bits ts ∧ ts.length ≤ 10000 ∧ ∀ H' p, Ch [] H H' → H p = none → LeftAt K H' p (nxt ts) → Q (.ref p) H'
theorem path_len : ∀ (t : Tr) (as : List Int), (path t as).length ≤ deep t
  | .leaf z, as => by rw [path]; exact Nat.zero_le _
  | .node w a b, as => by
    have h1 := path_len a as.tail
    have h2 := path_len b as.tail
    have h3 := Nat.le_max_left (deep a) (deep b)
    have h4 := Nat.le_max_right (deep a) (deep b)
    rw [path, List.length_cons, deep]
    split <;> omega
def spRuns (K : PySem.W.Frag) (d : Nat) : Sp := fun vs H Q _ => ∃ (v : V) (n : Int) (p : List Sm), vs = [v, .int n] ∧ Dp K H v (.tuple (eB p)) ∧ BlOk Pn d p ∧ wB p ≤ 10000 ∧ deep (tree p n) ≤ 10 ∧
  ∀ H' r xs, Ch [] H H' → H r = none → H' r = some (.lst xs) → DpAll K H' xs ((rows (tree p n) [] []).map eR) → Q (.ref r) H'
def spEach (K : PySem.W.Frag) (d : Nat) : SpG := fun vs H Q _ => ∃ (v : V) (n : Int) (p : List Sm), vs = [v, .int n] ∧ Dp K H v (.tuple (eB p)) ∧ BlOk Pn d p ∧ wB p ≤ 10000 ∧ deep (tree p n) ≤ 10 ∧
  ∀ H' xs, Ch [] H H' → DpAll K H' xs ((rows (tree p n) [] []).map eR) → Q xs H'
theorem flat_Rs (F : List Row) : flatTs (F.map eR) = true := flatTs_mem fun x hx => by
  obtain ⟨r, _, rfl⟩ := List.mem_map.mp hx
  exact flat_R r
theorem Ch.dRs {K : PySem.W.Frag} {M : List Addr} {H H' : Hp} (c : Ch M H H') {vs : List V} {F : List Row} (h : DpAll K H vs (F.map eR)) : DpAll K H' vs (F.map eR) := DpAll.gw c.imm _ _ (flat_Rs F) h
theorem dpa_uniq {K : PySem.W.Frag} {H : Hp} : ∀ {ns : List Int} {ys : List V}, DpAll K H ys (ns.map .int) → ys = ns.map V.int
  | [], _, h => dpa_nil h
  | n :: r, _, h => by
    obtain ⟨v, vs, rfl, h1, h2⟩ := dpa_cons h
    obtain rfl := dp_int h1
    rw [dpa_uniq h2]
    rfl
theorem shaped_left (ts : List Int) : SeqAt.shaped (.list [.tuple (ts.map .int)]) = true := by
  have h := can_all (D := 0) (ds := ts.map PyData.int) fun x hx => by
    obtain ⟨i, _, rfl⟩ := List.mem_map.mp hx
    exact ⟨by rw [PyData.canLay0], by rw [PyData.depth]; exact Nat.le_refl _⟩
  refine shaped_mk ?_ ?_
  · rw [PyData.canLay0, PyData.canLayAll0, PyData.canLayAll0, canT, h.1]; rfl
  · simp only [PyData.depth, PyData.depthAll]; omega
section
variable {P : Program} {w : World} {K : PySem.W.Frag} {mg : Str → Option Value} {base : Heap} {aC aK C : Addr}
abbrev s_next_turns : Stmt := tp 41
theorem sc_next_turns : FnScope ["turns", "at"] ["turns"] (defScope s_next_turns) := ⟨rfl, rfl, rfl, by decide +kernel, rfl, by decide +kernel, by decide +kernel⟩
theorem v_next (D : Dh K mg "next_turns" s_next_turns ["turns"]) (T : Txt K mg aC aK) : Df P w K mg base 1 "next_turns" (spNxt K) := by
  refine D.ok sc_next_turns (fun vs H Q E h => ?_) (fun f cdv Ar outer s H vs Q E hr h => ?_)
  · obtain ⟨a, ts, rfl, _⟩ := h
    rfl
  obtain ⟨a, ts, rfl, hs, hb, hl, q⟩ := h
  refine ⟨_, (pss_cons (ps_set (i := 1) sc_next_turns.nd rfl (Or.inl rfl) (pe_op op_sub (pe_callB call_len_seq (by rfl) T.z_len (by decide +kernel) (pa_cons (pv 0) pa_nil)) pe_int))
      (pss_cons (ps_while PassesOwn.never (PW.pt (pw_and (pt_cmpR op_ge (pv 1) pe_int (nomark _)) (pw_and1 (pt_cmpR op_eq (pe_ix ix_tup (pv 0) (pv 1) (fun _ _ => rfl)) pe_int (nomark _))))) (pss_one (ps_aug (i := 1) sc_next_turns.nd rfl (Or.inl rfl) pe_int ip_sub)))
      (pss_one (ps_ret (pe_ifExp (pt_cmpR op_ge (pv 1) pe_int (nomark _)) (pe_lst (pa_cons (pe_op op_catA (pe_slice sl_tupA (pv 0) po_none (po_some (pv 1))) (pe_tup (pa_cons pe_int pa_nil))) pa_nil)) (pe_lst pa_nil)))))), ?_⟩
  have lm : (ts.map V.int).length = ts.length := List.length_map _
  refine ⟨_, rfl, a, _, rfl, .inr hs, _, _, rfl, rfl, ?_⟩
  refine ⟨fun m sg H' => H' = H ∧ sg = [some (.ref a), some (.int ((m : Int) - 1))] ∧ m ≤ ts.length ∧ ∀ t ∈ ts.drop m, t = 1, ⟨ts.length, rfl, by rw [lm]; rfl, Nat.le_refl _, fun t ht => by rw [List.drop_length] at ht; cases ht⟩, ?_⟩
  rintro m sg H' ⟨rfl, rfl, hm, h1⟩
  refine ⟨_, rfl, _, _, rfl, rfl, _, rfl, if2 (fun h0 => ?_) (fun h0 => ?_)⟩
  · obtain ⟨k, rfl⟩ : ∃ k, m = k + 1 := ⟨m - 1, by omega⟩
    have ek : (((k + 1 : Nat) : Int) - 1) = ((k : Nat) : Int) := by omega
    rw [ek]
    have hk : k < ts.length := by omega
    have e1 : (ts.map V.int)[k]? = some (.int ts[k]) := by rw [List.getElem?_map, List.getElem?_eq_getElem hk]; rfl
    refine ⟨_, rfl, _, rfl, a, _, _, _, rfl, rfl, hs, atI_nat e1, rfl, _, rfl, if2 (fun h2 => ?_) (fun h2 => ?_)⟩
    · have h2' : ts[k] = 1 := V.int.inj h2
      refine ⟨fun sg' H'' => H'' = H' ∧ sg' = [some (.ref a), some (.int ((k : Int) - 1))], fun sg' H'' ⟨e, e2⟩ => ⟨k, Nat.lt_succ_self _, e, e2, by omega, fun t ht => ?_⟩, ?_⟩
      · rw [List.drop_eq_getElem_cons hk] at ht
        rcases List.mem_cons.mp ht with rfl | ht
        · exact h2'
        · exact h1 t ht
      · exact ⟨_, rfl, _, _, rfl, rfl, rfl, rfl⟩
    · have h2' : ts[k] = 0 := by
        rcases hb ts[k] (List.getElem_mem hk) with z | z
        · exact z
        · exact absurd (by rw [z]) h2
      have en : nxt ts = some (ts.take k ++ [1]) := nxt_at hk (by rw [List.getElem?_eq_getElem hk, h2']) h1
      refine ⟨_, rfl, _, _, rfl, rfl, _, rfl, ifT (by omega) ?_⟩
      refine ⟨_, rfl, _, rfl, _, rfl, ?_⟩
      refine slA hs (fun p1 H1 hp1 c1 => ?_)
      rw [cut_to] at hp1
      refine ⟨szl (by simp), fun p2 hp2 => ?_⟩
      have c2 : Ch [] H1 (upd H1 p2 (.tup [.int 1])) := Ch.new hp2 _
      refine catA (c2.sqt hp1) sqt_new (szl (by simp; omega)) (fun p3 H3 hp3 c3 => ?_)
      refine ⟨szl (by simp), fun p4 hp4 => ?_⟩
      have c4 : Ch [] H3 (upd H3 p4 (.lst [.ref p3])) := Ch.new hp4 _
      refine q _ p4 (((c1.trans c2).trans c3).trans c4) (((c1.trans c2).trans c3).free _ hp4) ?_
      rw [en]
      refine ⟨p3, upd_same, ?_⟩
      have e5 : (ts.take k ++ [1]).map V.int = (ts.map V.int).take k ++ [.int 1] := by rw [List.map_append, List.map_take]; rfl
      rw [e5]
      exact c4.sqt hp3
  · have hm0 : m = 0 := by omega
    subst hm0
    refine iteF ?_
    have en : nxt ts = none := nxt_ones (by rw [List.drop_zero] at h1; exact h1)
    refine ⟨_, rfl, _, _, rfl, rfl, _, rfl, ifF (by omega) ?_⟩
    refine ⟨Nat.zero_le _, fun p4 hp4 => ?_⟩
    refine q _ p4 (Ch.new hp4 _) hp4 ?_
    rw [en]
    exact upd_same
abbrev s_runs_on : Stmt := tp 42
theorem sc_runs_on : FnScope ["program", "number", "left", "found", "row"] ["program", "number"] (defScope s_runs_on) := ⟨rfl, rfl, rfl, by decide +kernel, rfl, by decide +kernel, by decide +kernel⟩
theorem v_runs_on (D : Dh K mg "runs_on" s_runs_on ["program", "number"]) (c_next_turns : Df P w K mg base 1 "next_turns" (spNxt K)) (d : Nat) (c_run : Df P w K mg base (10 + 2 * d) "run" (spRun K d)) : Df P w K mg base (11 + 2 * d) "runs_on" (spRuns K d) := by
  have e11 : 11 + 2 * d = (10 + 2 * d) + 1 := by omega
  rw [e11]
  refine D.ok sc_runs_on (fun vs H Q E h => ?_) (fun f cdv Ar outer s H vs Q E hr h => ?_)
  · obtain ⟨v, n, p, rfl, _⟩ := h
    rfl
  obtain ⟨v, n, p, rfl, hd, ok, hw, hD, q⟩ := h
  refine ⟨_, (pss_cons (ps_par (i := 2) (j := 3) rfl sc_runs_on.nd rfl rfl (by decide) rfl rfl (pa_cons (pe_lst (pa_cons (pe_tup pa_nil) pa_nil)) (pa_cons (pe_lst pa_nil) pa_nil)) (by rfl))
      (pss_cons (ps_while PassesOwn.never (pt_cmpR (op_neD hr.units) (pv 2) (pe_lst pa_nil) (nomark _)) (pss_cons (ps_set (i := 4) sc_runs_on.nd rfl (Or.inl rfl) (pdf c_run hr (by first | decide | omega) rfl (pa_cons (pv 0) (pa_cons (pv 1) (pa_cons (pe_ix ix_list (pv 2) pe_int (fun _ _ => rfl)) pa_nil)))))
      (pss_cons (ps_expr (pe_bm PySem.F.plainAttrs_list PySem.F.slot_list_append PySem.F.type_list_append mt_append (pv 3) (pa_cons (pv 4) pa_nil)))
      (pss_one (ps_set (i := 2) sc_runs_on.nd rfl (Or.inl rfl) (pdf c_next_turns hr (by first | decide | omega) rfl (pa_cons (pe_ix ix_tup (pv 4) pe_int (fun _ _ => rfl)) pa_nil)))))))
      (pss_one (ps_ret (pv 3))))), ?_⟩
  refine ⟨Nat.zero_le _, fun t0 ht0 => ⟨szl (by simp), fun l0 hl0 => ⟨Nat.zero_le _, fun fd hfd => ⟨_, _, rfl, ?_⟩⟩⟩⟩
  have c1 : Ch [] H (upd H t0 (.tup [])) := Ch.new ht0 _
  have c2 := c1.add hl0 (.lst [.ref t0])
  have c3 := c2.add hfd (.lst [])
  have hfd0 : H fd = none := c2.free _ hfd
  have nlf : l0 ≠ fd := fun e => by rw [← e, upd_same] at hfd; cases hfd
  have ntl : t0 ≠ l0 := fun e => by rw [← e, upd_same] at hl0; cases hl0
  have ntf : t0 ≠ fd := fun e => by rw [← e, upd_ne ntl, upd_same] at hfd; cases hfd
  refine ⟨fun m sg H' => ∃ (l : Addr) (o : Option (List Int)) (F : List Row) (xs : List V) (r : Option V), sg = [some v, some (.int n), some (.ref l), some (.ref fd), r] ∧ Ch [] H H' ∧ l ≠ fd ∧ H' fd = some (.lst xs) ∧ DpAll K H' xs (F.map eR) ∧ LeftAt K H' l o ∧
      (∀ a, o = some a → bits a) ∧ F ++ after (tree p n) o [] [] = rows (tree p n) [] [] ∧ m = (after (tree p n) o [] []).length,
    ⟨_, l0, some [], [], [], none, rfl, c3, nlf, upd_same, .nil, ⟨t0, by rw [upd_ne nlf]; exact upd_same, .inl (.inl (by rw [upd_ne ntf, upd_ne ntl]; exact upd_same))⟩, fun a e => by cases e; exact bits_nil, by rw [after, fromT_nil]; rfl, rfl⟩, ?_⟩
  rintro m sg H' ⟨l, o, F, xs, r, rfl, g1, nl, hf, hF, hL, hb, hrow, rfl⟩
  have tot : F.length ≤ 2000 := by
    have h1 := congrArg List.length hrow
    rw [List.length_append, rows_len] at h1
    have h2 := leaves_le (tree p n)
    have h3 : 2 ^ deep (tree p n) ≤ 2 ^ 10 := Nat.pow_le_pow_right (by decide) hD
    have h4 : (2 : Nat) ^ 10 = 1024 := by decide
    omega
  have lx : xs.length = F.length := by rw [dpa_len hF, List.length_map]
  refine ⟨_, rfl, Nat.zero_le _, fun e0 he0 => ?_⟩
  have c4 : Ch [] H' (upd H' e0 (.lst [])) := Ch.new he0 _
  have nr : ∀ {b : Addr} {u : HO}, H' b = some u → b ≠ e0 := fun e => ne_of_none e he0
  cases o with
  | none =>
    have hL' : H' l = some (.lst []) := hL
    refine ⟨.list [], .list [], .lst (SqL.of (by rw [upd_ne (nr hL')]; exact hL')) .nil, .lst (SqL.of upd_same) .nil, shaped_nilL, shaped_nilL, _, rfl, ?_⟩
    have ev : PyData.eqv (.list []) (.list []) = true := by simp [PyData.eqv, PyData.eqvAll]
    rw [ev]
    refine iteF ?_
    have hrow' : F = rows (tree p n) [] [] := by rw [← hrow, after, List.append_nil]
    refine ⟨_, rfl, ?_⟩
    refine q _ fd xs (g1.trans c4) hfd0 (by rw [upd_ne (nr hf)]; exact hf) ?_
    rw [← hrow']
    exact c4.dRs hF
  | some as =>
    obtain ⟨ta, hl, hta⟩ := hL
    have ev : PyData.eqv (.list [.tuple (as.map .int)]) (.list []) = false := by simp [PyData.eqv, PyData.eqvAll]
    refine ⟨.list [.tuple (as.map .int)], .list [], .lst (SqL.of (by rw [upd_ne (nr hl)]; exact hl)) (dpa_1 (.tup (c4.sqt hta) (dpa_ints _))), .lst (SqL.of upd_same) .nil, shaped_left as, shaped_nilL, _, rfl, ?_⟩
    rw [ev]
    refine iteT ?_
    have hb' : bits as := hb as rfl
    have step := fromT_step (tree p n) as [] [] hb'
    refine ⟨fun sg' H'' => ∃ (l : Addr) (o : Option (List Int)) (F : List Row) (xs : List V) (r : Option V), sg' = [some v, some (.int n), some (.ref l), some (.ref fd), r] ∧ Ch [] H H'' ∧ l ≠ fd ∧ H'' fd = some (.lst xs) ∧ DpAll K H'' xs (F.map eR) ∧ LeftAt K H'' l o ∧
      (∀ a, o = some a → bits a) ∧ F ++ after (tree p n) o [] [] = rows (tree p n) [] [] ∧ (after (tree p n) o [] []).length < (after (tree p n) (some as) [] []).length,
      fun sg' H'' ⟨l, o, F, xs, r, h1, h2, h3, h4, h5, h6, h7, h8, h9⟩ => ⟨_, h9, l, o, F, xs, r, h1, h2, h3, h4, h5, h6, h7, h8, rfl⟩, ?_⟩
    have hl2 : (upd H' e0 (.lst [])) l = some (.lst [.ref ta]) := by rw [upd_ne (nr hl)]; exact hl
    refine ⟨_, rfl, _, rfl, _, rfl, l, _, _, _, rfl, rfl, SqL.of hl2, at0, v, ta, n, as, p, rfl, (g1.trans c4).dB hd, ok, hw, c4.sqt hta, hb', fun H3 r3 c5 hr3 => ?_⟩
    have c6 := c4.trans c5
    have hf3 : H3 fd = some (.lst xs) := c6.out _ _ hf (by simp)
    refine ⟨_, rfl, .inl ⟨rfl, _, SqL.of hf3⟩, _, rfl, fd, _, _, rfl, rfl, hf3, sz (by omega), ?_⟩
    have c7 : Ch [fd] H3 (upd H3 fd (.lst (xs ++ [.ref r3]))) := Ch.put hf3 (fun z => z) (by simp) _
    have c8 : Ch [] H (upd H3 fd (.lst (xs ++ [.ref r3]))) := ((g1.trans c6).into c7 (by intro x hx; rw [List.mem_singleton.mp hx]; exact hfd0))
    obtain ⟨a1, x1, x2, x3, ea, hs, e1, e2, e3⟩ := dp_tup3 hr3
    cases ea
    obtain ⟨a2, ys, rfl, hs2, hys⟩ := dp_tup e2
    have et : (fol (tree p n) as [] []).2.1 = path (tree p n) as := by rw [fol_turns]; rfl
    have eys : ys = (path (tree p n) as).map V.int := by
      rw [et] at hys
      exact dpa_uniq hys
    subst eys
    have hpl := path_len (tree p n) as
    refine ⟨_, rfl, r3, _, _, _, rfl, rfl, c7.sqt hs, at1, a2, path (tree p n) as, rfl, c7.sqt hs2, bits_path _ _ hb', by omega, fun H5 l5 c9 nl5 hL5 => ?_⟩
    have nl5' : l5 ≠ fd := fun e => by rw [e, upd_same] at nl5; cases nl5
    refine ⟨l5, nxt (path (tree p n) as), F ++ [fol (tree p n) as [] []], xs ++ [.ref r3], _, rfl, c8.trans c9, nl5', c9.out _ _ upd_same (by simp), ?_, hL5, fun a e => bits_nxt (bits_path _ _ hb') e, ?_, ?_⟩
    · rw [List.map_append]
      exact dpa_app (c9.dRs (c7.dRs (c6.dRs hF))) (dpa_1 (c9.dR (c7.dR hr3)))
    · rw [← hrow]
      show _ = F ++ fromT (tree p n) as [] []
      rw [step, List.append_assoc]
      rfl
    · show _ < (fromT (tree p n) as [] []).length
      rw [step, List.length_cons]
      exact Nat.lt_succ_self _
end
end K28
/-! K28L: each_run, a generator. -/
namespace K28
open PySem PySem.Spec PyProof.Rows L2 GenW
/-- a generator def with its promise -/
structure Dg (P : Program) (w : World) (K : PySem.W.Frag) (mg : Str → Option Value) (base : Heap) (k : Nat) (x : Str) (sp : SpG) : Prop where
  ex : ∃ (f : Addr) (fd : FuncData) (ps : List Str), GFn P w K mg base k f fd ps sp ∧ mg x = some (.ref f) ∧ PySem.W.keepIn K (.ref f) = true ∧ Binds K fd ps []
theorem plist {X : Cx} {k : Nat} {x : Str} {sp : SpG} {p p2 pos pos2 : Pos} {e : Expr} {es : List Expr} {t : TA} (c : Dg X.prog X.w X.K X.mg X.base k x sp) (hr : Room (k + 3) X.A) (hl : Gl X "list") (hz : X.mg "list" = none) (hg : Gl X x) (ha : PA X (e :: es) t)
    (hdb : (x == ("__debug__" : Str)) = false := by decide) (he : starEach (e :: es) X.env = (false, eval e X.env) :: starEach es X.env := by rfl) (hpl : (backTo pos2 (starEach es X.env)).any (·.1) = false := by rfl)
    (he2 : starEach [.Call (.Name x p2) (e :: es) [] pos2] X.env = (false, eval (.Call (.Name x p2) (e :: es) [] pos2) X.env) :: starEach [] X.env := by rfl) :
    PE X (.Call (.Name "list" p) [.Call (.Name x p2) (e :: es) [] pos2] [] pos) (tListG (tCallG sp [] E0 t)) := by
  obtain ⟨f, fd, ps, F, hm, kp, b⟩ := c.ex
  refine pe_listG (pgen_call (E := E0) F (hr.mono (by omega)) hg hm kp b .nil ha hdb he hpl) (fun pins s H s1 e s' I h => ?_) (fun cls d H h => False.elim h) hr hl hz (by decide +kernel) (by decide) (by decide) he2
  obtain ⟨a, B, H', cls, d, _, _, _, _, _, _, _, z⟩ := h
  exact False.elim z
section
variable {P : Program} {w : World} {K : PySem.W.Frag} {mg : Str → Option Value} {base : Heap} {aC aK C : Addr}
abbrev s_each_run : Stmt := tp 43
theorem sc_each_run : GScope ["program", "number", "row"] ["program", "number"] (defScope s_each_run) := ⟨rfl, rfl, rfl, by decide +kernel, rfl, by decide +kernel, by decide +kernel⟩
theorem v_each_run (D : Dh K mg "each_run" s_each_run ["program", "number"]) (d : Nat) (c_runs_on : Df P w K mg base (11 + 2 * d) "runs_on" (spRuns K d)) : Dg P w K mg base (12 + 2 * d) "each_run" (spEach K d) := by
  obtain ⟨f, fd, F, hm, b⟩ := D.ex
  have kp := F.kp
  obtain ⟨oc, od, kV, doc, pm, an, cdv, ct, osl, rfl, lk, hcd⟩ := F.ex
  refine ⟨f, _, ["program", "number"], ?_, hm, kp, b⟩
  have e12 : 12 + 2 * d = (11 + 2 * d) + 1 := by omega
  rw [e12]
  refine gfn_of lk hcd sc_each_run (fun vs H Q E h => ?_) fun Ar outer s H vs Q E pn hr h => ?_
  · obtain ⟨v, n, p, rfl, _⟩ := h
    rfl
  obtain ⟨v, n, p, rfl, hd, ok, hw, hD, q⟩ := h
  refine ⟨_, gss_cons (gs_for owns_gcx rfl (pi_list (pdf c_runs_on hr (by omega) rfl (pa_cons (pv 0) (pa_cons (pv 1) pa_nil)))) (pg_name (i := 2) sc_each_run.nd rfl (Or.inl rfl)) (gss_cons (gs_yield (pv 2)) gss_nil)) gss_nil, ?_⟩
  refine ⟨_, rfl, _, rfl, v, n, p, rfl, hd, ok, hw, hD, fun H1 r xs c1 hr0 hx hxs => ?_⟩
  have lx : xs.length ≤ 2000 := by
    rw [dpa_len hxs, List.length_map, rows_len]
    have h2 := leaves_le (tree p n)
    have h3 : 2 ^ deep (tree p n) ≤ 2 ^ 10 := Nat.pow_le_pow_right (by decide) hD
    have h4 : (2 : Nat) ^ 10 = 1024 := by decide
    omega
  refine ⟨r, rfl, ⟨_, SqL.of hx⟩, fun i m ys sg H' => H' = H1 ∧ ys = xs.take i ∧ m + i = xs.length ∧ ∃ o, sg = [some v, some (.int n), o], ⟨xs.length, rfl, rfl, by omega, _, rfl⟩, ?_⟩
  rintro i m ys sg H' ⟨rfl, rfl, hm, o, rfl⟩
  by_cases hi : i < xs.length
  · refine .inr ⟨⟨xs, xs[i], SqL.of hx, List.getElem?_eq_getElem hi⟩, fun ys' sg' H'' => H'' = H' ∧ ys' = xs.take (i + 1) ∧ ∃ o, sg' = [some v, some (.int n), o], fun ys' sg' H'' ⟨e1, e2, e3⟩ => ⟨m - 1, by omega, e1, e2, by omega, e3⟩, fun x H'' y => ?_⟩
    obtain ⟨rfl, y⟩ := y
    have ex := y xs (SqL.of hx)
    refine ⟨sz (by rw [List.length_take]; omega), _, rfl, rfl, ?_, _, rfl⟩
    rw [List.getElem?_eq_getElem hi] at ex
    cases ex
    rw [List.take_succ_eq_append_getElem hi]
  · refine .inl ⟨⟨xs, SqL.of hx, by omega⟩, ?_⟩
    rw [List.take_of_length_le (by omega)]
    exact q H' xs c1 hxs
end
end K28
/-! K28Q: what program_error asks of one statement: it answers something, whatever it is. -/
namespace K28
open PySem PySem.Spec PyProof.Rows L2
/-- some truth value comes back, new things may have been made -/
def Some (Q : VK) (H : Hp) : Prop := ∀ (b : Bool) (H' : Hp), Ch [] H H' → Q (.bl b) H'
theorem Some.at {Q : VK} {H H' : Hp} (s : Some Q H) (c : Ch [] H H') (b : Bool) : Q (.bl b) H' := s b H' c
theorem Some.le {Q : VK} {H H' : Hp} (s : Some Q H) (c : Ch [] H H') : Some Q H' := fun b H2 c2 => s b H2 (c.trans c2)
/-- an int or a text -/
inductive Atom : V → Prop
  | int (i : Int) : Atom (.int i)
  | str (x : Str) (h : NmOk x) : Atom (.str x)
def spWh (K : PySem.W.Frag) : Sp := fun vs H Q _ => ∃ (v : V) (a b : Int), vs = [v, .int a, .int b] ∧ Atom v ∧ ∀ c, Q (.bl c) H
def spNm (K : PySem.W.Frag) : Sp := fun vs H Q _ => ∃ (v : V), vs = [v] ∧ Atom v ∧ Some Q H
def spIsE (K : PySem.W.Frag) (l : Nat) : Sp := fun vs H Q _ => ∃ (v : V) (e : Ex) (d : Nat), vs = [v, .int (l : Int)] ∧ Dp K H v (eE e) ∧ ExOk Pn d e ∧ Some Q H
def spIsEB (K : PySem.W.Frag) : Nat → Sp
  | 0 => fun _ _ _ _ => False
  | l + 1 => spIsE K l
def spIsR (K : PySem.W.Frag) : Sp := fun vs H Q _ => ∃ (v : V) (e : Ex) (m r : Int) (d : Nat), vs = [v] ∧ Dp K H v (eT (.rest e m r)) ∧ ExOk Pn d e ∧ Some Q H
def spIsT (K : PySem.W.Frag) (l : Nat) : Sp := fun vs H Q _ => ∃ (v : V) (t : Ts) (d : Nat), vs = [v, .int (l : Int)] ∧ Dp K H v (eT t) ∧ TsOk Pn d t ∧ Some Q H
def spIsTB (K : PySem.W.Frag) : Nat → Sp
  | 0 => fun _ _ _ _ => False
  | l + 1 => spIsT K l
def spAre (K : PySem.W.Frag) : Sp := fun vs H Q _ => ∃ (a : Addr) (xs : List V), vs = [.ref a] ∧ SqT K H a xs ∧ xs.length ≤ 10 ∧ (∀ x ∈ xs, ∃ p ys, x = .ref p ∧ SqT K H p ys) ∧ Some Q H
def spIsS (K : PySem.W.Frag) (d : Nat) : Sp := fun vs H Q _ => ∃ (v : V) (s : Sm), vs = [v] ∧ Dp K H v (eS s) ∧ SmOk Pn d s ∧ d ≤ 20 ∧ Some Q H
theorem dpa_signs {K : PySem.W.Frag} {H : Hp} : ∀ zs : List Str, DpAll K H (zs.map V.str) (zs.map .str)
  | [] => .nil
  | n :: r => .cons (.str n) (dpa_signs r)
theorem shaped_strs {zs : List Str} (h : ∀ z ∈ zs, PyData.strOk z = true) : SeqAt.shaped (.list (zs.map .str)) = true := by
  have h := can_all (D := 0) (ds := zs.map PyData.str) fun x hx => by
    obtain ⟨i, hi, rfl⟩ := List.mem_map.mp hx
    exact ⟨by rw [PyData.canLay0]; exact h i hi, by rw [PyData.depth]; exact Nat.le_refl _⟩
  refine shaped_mk ?_ ?_
  · rw [PyData.canLay0, h.1]
  · simp only [PyData.depth]; omega
theorem sign_ok {x : Str} (h : PyData.strOk x = true) {i c : Nat} (e : x.cps[i]? = some c) : PyData.strOk ⟨#[c]⟩ = true := by
  unfold PyData.strOk at h ⊢
  rw [Array.all_eq_true] at h
  obtain ⟨hi, e'⟩ := Array.getElem?_eq_some_iff.mp e
  have := h i hi
  rw [e'] at this
  simpa using this
theorem all_flat_strs : ∀ zs : List Str, (zs.map V.str).all flatV = true
  | [] => rfl
  | z :: r => by rw [List.map_cons, List.all_cons, all_flat_strs r]; rfl
section
variable {P : Program} {w : World} {K : PySem.W.Frag} {mg : Str → Option Value} {base : Heap} {aC aK C : Addr}
abbrev s_is_whole : Stmt := tp 18
theorem sc_is_whole : FnScope ["value", "least", "most"] ["value", "least", "most"] (defScope s_is_whole) := ⟨rfl, rfl, rfl, by decide +kernel, rfl, by decide +kernel, by decide +kernel⟩
theorem v_is_whole (D : Dh K mg "is_whole" s_is_whole ["value", "least", "most"]) (T : Txt K mg aC aK) : Df P w K mg base 1 "is_whole" (spWh K) := by
  refine D.ok sc_is_whole (fun vs H Q E h => ?_) (fun f cdv Ar outer s H vs Q E hr h => ?_)
  · obtain ⟨v, a, b, rfl, _⟩ := h
    rfl
  obtain ⟨v, a, b, rfl, ha, q⟩ := h
  refine ⟨_, (pss_one (ps_ret (pe_and (pe_callB call_isi (by rfl) T.z_isinstance (by decide +kernel) (pa_cons (pv 0) (pa_cons (pe_bltn (v := .ty "int") (u := .type "int") (by rfl) T.z_int (by decide +kernel) rfl) pa_nil))) (pe_and (pe_not (pe_callB call_isi (by rfl) T.z_isinstance (by decide +kernel) (pa_cons (pv 0) (pa_cons (pe_bltn (v := .ty "bool") (u := .type "bool") (by rfl) T.z_bool (by decide +kernel) rfl) pa_nil)))) (pe_one (pe_chain op_le op_le (pv 1) (pv 0) (pv 2))))))), ?_⟩
  cases ha with
  | int i =>
    refine ⟨_, rfl, _, _, _, _, _, rfl, .ty _, tyI i, kit_ty kb_ii, _, rfl, iteT ?_⟩
    refine ⟨_, rfl, _, _, _, _, _, rfl, .ty _, tyI i, kit_ty kb_ib, _, rfl, _, rfl, iteT ?_⟩
    refine ⟨_, rfl, _, rfl, _, _, rfl, rfl, _, rfl, if2 (fun _ => ?_) (fun _ => ?_)⟩
    · exact ⟨_, rfl, _, _, rfl, rfl, q _⟩
    · exact q _
  | str x =>
    refine ⟨_, rfl, _, _, _, _, _, rfl, .ty _, tyS x, kit_ty kb_si, _, rfl, iteF ?_⟩
    exact q _
abbrev s_is_name : Stmt := tp 19
theorem sc_is_name : FnScope ["value", "sign"] ["value"] (defScope s_is_name) := ⟨rfl, rfl, rfl, by decide +kernel, rfl, by decide +kernel, by decide +kernel⟩
theorem v_is_name (D : Dh K mg "is_name" s_is_name ["value"]) (T : Txt K mg aC aK) : Df P w K mg base 1 "is_name" (spNm K) := by
  refine D.ok sc_is_name (fun vs H Q E h => ?_) (fun f cdv Ar outer s H vs Q E hr h => ?_)
  · obtain ⟨v, rfl, _⟩ := h
    rfl
  obtain ⟨v, rfl, ha, q⟩ := h
  refine ⟨_, (pss_cons (ps_if (PW.pt (pw_or (pt_not (pt_val (pe_callB call_isi (by rfl) T.z_isinstance (by decide +kernel) (pa_cons (pv 0) (pa_cons (pe_bltn (v := .ty "str") (u := .type "str") (by rfl) T.z_str (by decide +kernel) rfl) pa_nil))))) (pw_or (pt_not (pt_chain op_le op_le pe_int (pe_callB call_len_str (by rfl) T.z_len (by decide +kernel) (pa_cons (pv 0) pa_nil)) (pgc rfl T.g_MAX_NAME))) (pw_or1 (pt_cmpR op_notIn_sign (pe_ix ix_str (pv 0) pe_int (fun _ _ => rfl)) (pgc rfl T.g_LETTERS) rfl))))) (pss_one (ps_ret pe_bl)) pss_nil)
      (pss_one (ps_ret (pe_and (pe_cmpR (op_eqD hr.units) (pe_lc (own := [("sign", 1)]) (g := gName 1)  rfl sc_is_name.nd (pi_str (pv 0)) (blkOk_by (own := [("sign", 1)]) (N := ["value", "sign"]) (sc := defScope s_is_name) (by decide +kernel)) (fun _ _ _ _ _ => pg_name (i := 1) sc_is_name.nd rfl (Or.inl rfl)) (fun _ _ _ _ _ => (pts_one (pt_cmpR op_notIn_sign (pv 1) (pgc rfl T.g_SIGNS) rfl))) (fun _ _ _ _ _ => (pv 1))) (pe_lst pa_nil) (nomark _)) (pe_one (pe_cmpR op_notIn_seq (pv 0) (pgc rfl T.g_KEPT) rfl)))))), ?_⟩
  cases ha with
  | int i =>
    refine ⟨_, rfl, _, _, _, _, _, rfl, .ty _, tyI i, kit_ty kb_is, _, rfl, iteT ?_⟩
    exact q.at (Ch.refl _ _) _
  | str x hx =>
    obtain ⟨h1, h8, hok⟩ := hx
    have hlen : x.length = x.cps.size := rfl
    obtain ⟨zs, hK⟩ := T.t_KEPT
    refine ⟨_, rfl, _, _, _, _, _, rfl, .ty _, tyS x, kit_ty kb_ss, _, rfl, iteF ?_⟩
    refine ⟨_, rfl, x, rfl, szl (by omega), _, _, rfl, rfl, _, rfl, ifT (by rw [hlen]; omega) ?_⟩
    refine ⟨_, _, rfl, rfl, _, rfl, ?_⟩
    have hle : decide ((x.length : Int) ≤ 8) = true := decide_eq_true (by rw [hlen]; omega)
    rw [hle]
    refine iteF ?_
    obtain ⟨c, hc⟩ : ∃ c, x.cps.toList[0]? = some c := ⟨_, List.getElem?_eq_getElem (by simp; omega)⟩
    refine ⟨_, rfl, _, _, c, rfl, rfl, szl (by omega), atI_nat (j := 0) hc, c, _, rfl, rfl, _, rfl, ifB (fun _ => ?_) (fun _ => ?_)⟩
    · exact q.at (Ch.refl _ _) _
    · refine ⟨_, rfl, x, rfl, fun L hL => ?_⟩
      refine lc_it walk_str (fun i H' => Ch [] H H' ∧ ∃ ys : List Str, H' L = some (.lst (ys.map V.str)) ∧ ys.length ≤ i ∧ ∀ y ∈ ys, PyData.strOk y = true) ⟨Ch.new hL _, [], upd_same, Nat.le_refl _, fun _ h => (nomatch h)⟩ (fun _ _ _ _ => trivial) ?_ ?_
      · rintro i y H1 H2 hi ⟨c1, ys, hys, hl, hyo⟩ ⟨rfl, c, hc, rfl⟩
        refine ⟨rfl, _, rfl, c, _, rfl, rfl, _, rfl, ifB (fun _ => ?_) (fun _ => ?_)⟩
        · refine ⟨_, rfl, _, hys, sz (by rw [List.length_map]; omega), c1.young hL hys _, ys ++ [⟨#[c]⟩], ?_, by rw [List.length_append, List.length_singleton]; omega, fun z hz => ?_⟩
          · rw [upd_same, List.map_append]; rfl
          · rcases List.mem_append.mp hz with hz | hz
            · exact hyo z hz
            · rw [List.mem_singleton.mp hz]
              exact sign_ok hok hc
        · exact ⟨c1, ys, hys, by omega, hyo⟩
      · rintro H1 ⟨c1, ys, hys, hl, hyo⟩
        refine ⟨Nat.zero_le _, fun e0 he0 => ?_⟩
        have c2 : Ch [] H1 (upd H1 e0 (.lst [])) := Ch.new he0 _
        refine ⟨.list (ys.map .str), .list [], .lst (SqL.of (by rw [upd_ne (ne_of_none hys he0)]; exact hys)) (dpa_signs _), .lst (SqL.of upd_same) .nil, shaped_strs hyo, shaped_nilL, _, rfl, ifB (fun _ => ?_) (fun _ => ?_)⟩
        · refine ⟨_, rfl, aK, _, rfl, .inr (hK _), rfl, all_flat_strs zs, ?_⟩
          exact q.at (c1.trans c2) _
        · exact q.at (c1.trans c2) _
end
end K28
/-! K28S: is_expression .. is_statement. -/
namespace K28
open PySem PySem.Spec PyProof.Rows L2
theorem pred_int (l : Nat) : (((l + 1 : Nat) : Int) - 1) = (l : Int) := by omega
theorem pred_eq (z : V) (l : Nat) : [z, V.int (((l + 1 : Nat) : Int) - 1)] = [z, V.int (l : Int)] := by rw [pred_int]
section
variable {P : Program} {w : World} {K : PySem.W.Frag} {mg : Str → Option Value} {base : Heap} {aC aK C : Addr}
abbrev s_is_expression : Stmt := tp 20
theorem sc_is_expression : FnScope ["value", "left"] ["value", "left"] (defScope s_is_expression) := ⟨rfl, rfl, rfl, by decide +kernel, rfl, by decide +kernel, by decide +kernel⟩
theorem ise_step (D : Dh K mg "is_expression" s_is_expression ["value", "left"]) (T : Txt K mg aC aK) (c_is_whole : Df P w K mg base 1 "is_whole" (spWh K)) (c_is_name : Df P w K mg base 1 "is_name" (spNm K)) (l : Nat) (c_is_expression : Df P w K mg base (l + 1) "is_expression" (spIsEB K l)) : Df P w K mg base (l + 2) "is_expression" (spIsE K l) := by
  refine D.ok sc_is_expression (fun vs H Q E h => ?_) (fun f cdv Ar outer s H vs Q E hr h => ?_)
  · obtain ⟨v, e, d, rfl, _⟩ := h
    rfl
  obtain ⟨v, e, d, rfl, hd, ok, q⟩ := h
  refine ⟨_, (pss_cons (ps_if (pt_cmpR op_eq (pv 1) pe_int (nomark _)) (pss_one (ps_ret pe_bl)) pss_nil)
      (pss_cons (ps_if (pt_not (pt_val (pe_callB call_isi (by rfl) T.z_isinstance (by decide +kernel) (pa_cons (pv 0) (pa_cons (pe_bltn (v := .ty "tuple") (u := .type "tuple") (by rfl) T.z_tuple (by decide +kernel) rfl) pa_nil))))) (pss_one (ps_ret (pe_or (pdf c_is_name hr (by first | decide | omega) rfl (pa_cons (pv 0) pa_nil)) (pe_one (pdf c_is_whole hr (by first | decide | omega) rfl (pa_cons (pv 0) (pa_cons (pe_op op_sub pe_int (pgc rfl T.g_MOST_NUMBER)) (pa_cons (pgc rfl T.g_MOST_NUMBER) pa_nil)))))))) pss_nil)
      (pss_cons (ps_if (PW.pt (pw_or (pt_cmpR op_ne (pe_callB call_len_seq (by rfl) T.z_len (by decide +kernel) (pa_cons (pv 0) pa_nil)) pe_int (nomark _)) (pw_or (pt_not (pt_val (pe_callB call_isi (by rfl) T.z_isinstance (by decide +kernel) (pa_cons (pe_ix ix_tup (pv 0) pe_int (fun _ _ => rfl)) (pa_cons (pe_bltn (v := .ty "str") (u := .type "str") (by rfl) T.z_str (by decide +kernel) rfl) pa_nil))))) (pw_or1 (pt_not (pt_val (pdf c_is_expression hr (by first | decide | omega) rfl (pa_cons (pe_ix ix_tup (pv 0) pe_int (fun _ _ => rfl)) (pa_cons (pe_op op_sub (pv 1) pe_int) pa_nil))))))))) (pss_one (ps_ret pe_bl)) pss_nil)
      (pss_cons (ps_if (pt_cmpR op_eq (pe_ix ix_tup (pv 0) pe_int (fun _ _ => rfl)) pe_str (nomark _)) (pss_one (ps_ret (pdf c_is_whole hr (by first | decide | omega) rfl (pa_cons (pe_ix ix_tup (pv 0) pe_int (fun _ _ => rfl)) (pa_cons (pe_op op_sub pe_int (pgc rfl T.g_MOST_FACTOR)) (pa_cons (pgc rfl T.g_MOST_FACTOR) pa_nil)))))) pss_nil)
      (pss_one (ps_ret (pe_and (pe_cmpR op_in_seq (pe_ix ix_tup (pv 0) pe_int (fun _ _ => rfl)) (pe_tup (pa_cons pe_str (pa_cons pe_str pa_nil))) rfl) (pe_one (pdf c_is_expression hr (by first | decide | omega) rfl (pa_cons (pe_ix ix_tup (pv 0) pe_int (fun _ _ => rfl)) (pa_cons (pe_op op_sub (pv 1) pe_int) pa_nil))))))))))), ?_⟩
  cases l with
  | zero => exact ⟨_, rfl, rfl, _, rfl, ifT rfl (q.at (Ch.refl _ _) _)⟩
  | succ l =>
  refine ⟨_, rfl, rfl, _, rfl, ifF (fun z => by have z' := V.int.inj z; omega) ?_⟩
  cases d with
  | zero => exact ok.elim
  | succ d =>
  cases e with
  | num i =>
    obtain rfl := dp_int hd
    refine ⟨_, rfl, _, _, _, _, _, rfl, .ty _, tyI i, kit_ty kb_it, _, rfl, iteT ?_⟩
    refine ⟨_, rfl, _, rfl, .int i, fun b H1 c1 => ⟨_, rfl, ifB (fun _ => q.at c1 _) (fun _ => ?_)⟩⟩
    exact ⟨_, rfl, _, _, rfl, rfl, _, _, _, rfl, .int i, fun c => q.at c1 _⟩
  | nm x =>
    obtain rfl := dp_str hd
    refine ⟨_, rfl, _, _, _, _, _, rfl, .ty _, tyS x, kit_ty kb_st, _, rfl, iteT ?_⟩
    refine ⟨_, rfl, _, rfl, .str x ok, fun b H1 c1 => ⟨_, rfl, ifB (fun _ => q.at c1 _) (fun _ => ?_)⟩⟩
    exact ⟨_, rfl, _, _, rfl, rfl, _, _, _, rfl, .str x ok, fun c => q.at c1 _⟩
  | plus a b =>
    obtain ⟨p, x0, y, z, rfl, hs, e1, e2, e3⟩ := dp_tup3 hd
    obtain rfl := dp_str e1
    refine ⟨_, rfl, _, _, _, _, _, rfl, .ty _, tyT hs, kit_ty kb_tt, _, rfl, iteF ?_⟩
    refine ⟨_, rfl, p, _, rfl, .inr hs, rfl, _, rfl, ?_⟩
    refine iteF ?_
    refine ⟨_, rfl, p, _, _, _, rfl, rfl, hs, at0, _, _, _, _, _, rfl, .ty _, tyS _, kit_ty kb_ss, _, rfl, iteF ?_⟩
    refine ⟨_, rfl, p, _, _, _, rfl, rfl, hs, at2, _, rfl, _, _, rfl, rfl, z, b, d, pred_eq _ _, e3, ok.2, fun b1 H1 c1 => ⟨_, rfl, ?_⟩⟩
    have hs1 := c1.sqt hs
    cases b1 with
    | false => exact iteT (q.at c1 _)
    | true =>
    refine iteF ?_
    refine ⟨_, rfl, p, _, _, _, rfl, rfl, hs1, at0, rfl, _, rfl, ifF (by decide +kernel) ?_⟩
    refine ⟨_, rfl, p, _, _, _, rfl, rfl, hs1, at0, szl (by simp), fun t ht => ?_⟩
    have c2 : Ch [] H1 (upd H1 t (.tup [.str "plus", .str "minus"])) := Ch.new ht _
    refine ⟨t, _, rfl, .inr sqt_new, rfl, rfl, _, rfl, ?_⟩
    refine ifB (fun _ => ?_) (fun _ => q.at (c1.trans c2) _)
    exact ⟨_, rfl, p, _, _, _, rfl, rfl, c2.sqt hs1, at1, _, rfl, _, _, rfl, rfl, y, a, d, pred_eq _ _, (c1.trans c2).dE e2, ok.1, q.le (c1.trans c2)⟩
  | minus a b =>
    obtain ⟨p, x0, y, z, rfl, hs, e1, e2, e3⟩ := dp_tup3 hd
    obtain rfl := dp_str e1
    refine ⟨_, rfl, _, _, _, _, _, rfl, .ty _, tyT hs, kit_ty kb_tt, _, rfl, iteF ?_⟩
    refine ⟨_, rfl, p, _, rfl, .inr hs, rfl, _, rfl, ?_⟩
    refine iteF ?_
    refine ⟨_, rfl, p, _, _, _, rfl, rfl, hs, at0, _, _, _, _, _, rfl, .ty _, tyS _, kit_ty kb_ss, _, rfl, iteF ?_⟩
    refine ⟨_, rfl, p, _, _, _, rfl, rfl, hs, at2, _, rfl, _, _, rfl, rfl, z, b, d, pred_eq _ _, e3, ok.2, fun b1 H1 c1 => ⟨_, rfl, ?_⟩⟩
    have hs1 := c1.sqt hs
    cases b1 with
    | false => exact iteT (q.at c1 _)
    | true =>
    refine iteF ?_
    refine ⟨_, rfl, p, _, _, _, rfl, rfl, hs1, at0, rfl, _, rfl, ifF (by decide +kernel) ?_⟩
    refine ⟨_, rfl, p, _, _, _, rfl, rfl, hs1, at0, szl (by simp), fun t ht => ?_⟩
    have c2 : Ch [] H1 (upd H1 t (.tup [.str "plus", .str "minus"])) := Ch.new ht _
    refine ⟨t, _, rfl, .inr sqt_new, rfl, rfl, _, rfl, ?_⟩
    refine ifB (fun _ => ?_) (fun _ => q.at (c1.trans c2) _)
    exact ⟨_, rfl, p, _, _, _, rfl, rfl, c2.sqt hs1, at1, _, rfl, _, _, rfl, rfl, y, a, d, pred_eq _ _, (c1.trans c2).dE e2, ok.1, q.le (c1.trans c2)⟩
  | times k b =>
    obtain ⟨p, x0, y, z, rfl, hs, e1, e2, e3⟩ := dp_tup3 hd
    obtain rfl := dp_str e1
    obtain rfl := dp_int e2
    refine ⟨_, rfl, _, _, _, _, _, rfl, .ty _, tyT hs, kit_ty kb_tt, _, rfl, iteF ?_⟩
    refine ⟨_, rfl, p, _, rfl, .inr hs, rfl, _, rfl, ?_⟩
    refine iteF ?_
    refine ⟨_, rfl, p, _, _, _, rfl, rfl, hs, at0, _, _, _, _, _, rfl, .ty _, tyS _, kit_ty kb_ss, _, rfl, iteF ?_⟩
    refine ⟨_, rfl, p, _, _, _, rfl, rfl, hs, at2, _, rfl, _, _, rfl, rfl, z, b, d, pred_eq _ _, e3, ok.2, fun b1 H1 c1 => ⟨_, rfl, ?_⟩⟩
    have hs1 := c1.sqt hs
    cases b1 with
    | false => exact iteT (q.at c1 _)
    | true =>
    refine iteF ?_
    refine ⟨_, rfl, p, _, _, _, rfl, rfl, hs1, at0, rfl, _, rfl, ifT rfl ?_⟩
    exact ⟨_, rfl, p, _, _, _, rfl, rfl, hs1, at1, _, _, rfl, rfl, _, _, _, rfl, .int _, fun c => q.at c1 _⟩
theorem v_is_expression {P : Program} {w : World} {K : PySem.W.Frag} {mg : Str → Option Value} {base : Heap} {aC aK : Addr} (D : Dh K mg "is_expression" s_is_expression ["value", "left"]) (T : Txt K mg aC aK) (c_is_whole : Df P w K mg base 1 "is_whole" (spWh K)) (c_is_name : Df P w K mg base 1 "is_name" (spNm K)) : ∀ l, Df P w K mg base (l + 2) "is_expression" (spIsE K l)
  | 0 => ise_step D T c_is_whole c_is_name 0 (D.none fun _ _ _ _ h => h)
  | l + 1 => ise_step D T c_is_whole c_is_name (l + 1) (v_is_expression D T c_is_whole c_is_name l)
abbrev s_is_rest : Stmt := tp 21
theorem sc_is_rest : FnScope ["value"] ["value"] (defScope s_is_rest) := ⟨rfl, rfl, rfl, by decide +kernel, rfl, by decide +kernel, by decide +kernel⟩
theorem v_is_rest (D : Dh K mg "is_rest" s_is_rest ["value"]) (T : Txt K mg aC aK) (c_is_whole : Df P w K mg base 1 "is_whole" (spWh K)) (c_is_expression : Df P w K mg base 5 "is_expression" (spIsE K 3)) : Df P w K mg base 6 "is_rest" (spIsR K) := by
  refine D.ok sc_is_rest (fun vs H Q E h => ?_) (fun f cdv Ar outer s H vs Q E hr h => ?_)
  · obtain ⟨v, e, m, r, d, rfl, _⟩ := h
    rfl
  obtain ⟨v, e, m, r, d, rfl, hd, ok, q⟩ := h
  refine ⟨_, (pss_cons (ps_if (PW.pt (pw_or (pt_cmpR op_ne (pe_callB call_len_seq (by rfl) T.z_len (by decide +kernel) (pa_cons (pv 0) pa_nil)) pe_int (nomark _)) (pw_or (pt_not (pt_val (pdf c_is_expression hr (by first | decide | omega) rfl (pa_cons (pe_ix ix_tup (pv 0) pe_int (fun _ _ => rfl)) (pa_cons (pgc rfl T.g_MAX_DEEP) pa_nil))))) (pw_or1 (pt_not (pt_val (pdf c_is_whole hr (by first | decide | omega) rfl (pa_cons (pe_ix ix_tup (pv 0) pe_int (fun _ _ => rfl)) (pa_cons pe_int (pa_cons (pgc rfl T.g_MAX_BY) pa_nil)))))))))) (pss_one (ps_ret pe_bl)) pss_nil)
      (pss_one (ps_ret (pdf c_is_whole hr (by first | decide | omega) rfl (pa_cons (pe_ix ix_tup (pv 0) pe_int (fun _ _ => rfl)) (pa_cons pe_int (pa_cons (pe_op op_sub (pe_ix ix_tup (pv 0) pe_int (fun _ _ => rfl)) pe_int) pa_nil))))))), ?_⟩
  obtain ⟨p, x0, y, z, u, rfl, hs, e1, e2, e3, e4⟩ := dp_tup4 hd
  obtain rfl := dp_int e3
  obtain rfl := dp_int e4
  refine ⟨_, rfl, p, _, rfl, .inr hs, rfl, _, rfl, iteF ?_⟩
  refine ⟨_, rfl, p, _, _, _, rfl, rfl, hs, at1, y, e, d, rfl, e2, ok, fun b1 H1 c1 => ⟨_, rfl, ?_⟩⟩
  have hs1 := c1.sqt hs
  cases b1 with
  | false => exact iteT (iteT (q.at c1 _))
  | true =>
  refine iteF ?_
  refine ⟨_, rfl, p, _, _, _, rfl, rfl, hs1, at2, _, _, _, rfl, .int _, fun c => ⟨_, rfl, ?_⟩⟩
  refine ifB (fun _ => q.at c1 _) (fun _ => ?_)
  exact ⟨_, rfl, p, _, _, _, rfl, rfl, hs1, at3, _, rfl, p, _, _, _, rfl, rfl, hs1, at2, _, _, rfl, rfl, _, _, _, rfl, .int _, fun c => q.at c1 _⟩
end
end K28
/-! K28U: is_test, are_blocks, is_statement. -/
namespace K28
open PySem PySem.Spec PyProof.Rows L2
section
variable {P : Program} {w : World} {K : PySem.W.Frag} {mg : Str → Option Value} {base : Heap} {aC aK C : Addr}
abbrev s_is_test : Stmt := tp 22
theorem sc_is_test : FnScope ["value", "nots"] ["value", "nots"] (defScope s_is_test) := ⟨rfl, rfl, rfl, by decide +kernel, rfl, by decide +kernel, by decide +kernel⟩
theorem ist_step (D : Dh K mg "is_test" s_is_test ["value", "nots"]) (T : Txt K mg aC aK) (c_is_expression : Df P w K mg base 5 "is_expression" (spIsE K 3)) (c_is_rest : Df P w K mg base 6 "is_rest" (spIsR K)) (l : Nat) (c_is_test : Df P w K mg base (l + 6) "is_test" (spIsTB K l)) : Df P w K mg base (l + 7) "is_test" (spIsT K l) := by
  refine D.ok sc_is_test (fun vs H Q E h => ?_) (fun f cdv Ar outer s H vs Q E hr h => ?_)
  · obtain ⟨v, t, d, rfl, _⟩ := h
    rfl
  obtain ⟨v, t, d, rfl, hd, ok, q⟩ := h
  refine ⟨_, (pss_cons (ps_if (PW.pt (pw_or (pt_not (pt_val (pe_callB call_isi (by rfl) T.z_isinstance (by decide +kernel) (pa_cons (pv 0) (pa_cons (pe_bltn (v := .ty "tuple") (u := .type "tuple") (by rfl) T.z_tuple (by decide +kernel) rfl) pa_nil))))) (pw_or (pt_cmpR op_eq (pe_callB call_len_seq (by rfl) T.z_len (by decide +kernel) (pa_cons (pv 0) pa_nil)) pe_int (nomark _)) (pw_or1 (pt_not (pt_val (pe_callB call_isi (by rfl) T.z_isinstance (by decide +kernel) (pa_cons (pe_ix ix_tup (pv 0) pe_int (fun _ _ => rfl)) (pa_cons (pe_bltn (v := .ty "str") (u := .type "str") (by rfl) T.z_str (by decide +kernel) rfl) pa_nil))))))))) (pss_one (ps_ret pe_bl)) pss_nil)
      (pss_cons (ps_if (pt_cmpR op_eq (pe_ix ix_tup (pv 0) pe_int (fun _ _ => rfl)) pe_str (nomark _)) (pss_one (ps_ret (pe_and (pe_cmpR op_eq (pe_callB call_len_seq (by rfl) T.z_len (by decide +kernel) (pa_cons (pv 0) pa_nil)) pe_int (nomark _)) (pe_and (pdf c_is_expression hr (by first | decide | omega) rfl (pa_cons (pe_ix ix_tup (pv 0) pe_int (fun _ _ => rfl)) (pa_cons (pgc rfl T.g_MAX_DEEP) pa_nil))) (pe_one (pdf c_is_expression hr (by first | decide | omega) rfl (pa_cons (pe_ix ix_tup (pv 0) pe_int (fun _ _ => rfl)) (pa_cons (pgc rfl T.g_MAX_DEEP) pa_nil)))))))) pss_nil)
      (pss_cons (ps_if (pt_cmpR op_eq (pe_ix ix_tup (pv 0) pe_int (fun _ _ => rfl)) pe_str (nomark _)) (pss_one (ps_ret (pdf c_is_rest hr (by first | decide | omega) rfl (pa_cons (pv 0) pa_nil)))) pss_nil)
      (pss_one (ps_ret (pe_and (pe_cmpR op_eq (pe_ix ix_tup (pv 0) pe_int (fun _ _ => rfl)) pe_str (nomark _)) (pe_and (pe_cmpR op_eq (pe_callB call_len_seq (by rfl) T.z_len (by decide +kernel) (pa_cons (pv 0) pa_nil)) pe_int (nomark _)) (pe_and (pe_cmpR op_gt (pv 1) pe_int (nomark _)) (pe_one (pdf c_is_test hr (by first | decide | omega) rfl (pa_cons (pe_ix ix_tup (pv 0) pe_int (fun _ _ => rfl)) (pa_cons (pe_op op_sub (pv 1) pe_int) pa_nil)))))))))))), ?_⟩
  cases t with
  | less a b =>
    have ok' : ExOk Pn 3 a ∧ ExOk Pn 3 b := by cases d <;> exact ok
    obtain ⟨p, x0, y, z, rfl, hs, e1, e2, e3⟩ := dp_tup3 hd
    obtain rfl := dp_str e1
    refine ⟨_, rfl, _, _, _, _, _, rfl, .ty _, tyT hs, kit_ty kb_tt, _, rfl, iteF ?_⟩
    refine ⟨_, rfl, p, _, rfl, .inr hs, rfl, _, rfl, iteF ?_⟩
    refine ⟨_, rfl, p, _, _, _, rfl, rfl, hs, at0, _, _, _, _, _, rfl, .ty _, tyS _, kit_ty kb_ss, _, rfl, iteF ?_⟩
    refine ⟨_, rfl, p, _, _, _, rfl, rfl, hs, at0, rfl, _, rfl, ifT rfl ?_⟩
    refine ⟨_, rfl, p, _, rfl, .inr hs, rfl, _, rfl, ifT rfl ?_⟩
    refine ⟨_, rfl, p, _, _, _, rfl, rfl, hs, at1, y, a, 3, rfl, e2, ok'.1, fun b1 H1 c1 => ⟨_, rfl, ifB (fun _ => ?_) (fun _ => q.at c1 _)⟩⟩
    exact ⟨_, rfl, p, _, _, _, rfl, rfl, c1.sqt hs, at2, z, b, 3, rfl, c1.dE e3, ok'.2, q.le c1⟩
  | rest a m r =>
    have ok' : ExOk Pn 3 a := by cases d <;> exact ok.1
    obtain ⟨p, x0, y, z, u, rfl, hs, e1, e2, e3, e4⟩ := dp_tup4 hd
    obtain rfl := dp_str e1
    refine ⟨_, rfl, _, _, _, _, _, rfl, .ty _, tyT hs, kit_ty kb_tt, _, rfl, iteF ?_⟩
    refine ⟨_, rfl, p, _, rfl, .inr hs, rfl, _, rfl, iteF ?_⟩
    refine ⟨_, rfl, p, _, _, _, rfl, rfl, hs, at0, _, _, _, _, _, rfl, .ty _, tyS _, kit_ty kb_ss, _, rfl, iteF ?_⟩
    refine ⟨_, rfl, p, _, _, _, rfl, rfl, hs, at0, rfl, _, rfl, ifF (by decide +kernel) ?_⟩
    refine ⟨_, rfl, p, _, _, _, rfl, rfl, hs, at0, rfl, _, rfl, ifT rfl ?_⟩
    exact ⟨_, rfl, _, a, m, r, 3, rfl, hd, ok', q⟩
  | no t =>
    obtain ⟨p, x0, y, rfl, hs, e1, e2⟩ := dp_tup2 hd
    obtain rfl := dp_str e1
    refine ⟨_, rfl, _, _, _, _, _, rfl, .ty _, tyT hs, kit_ty kb_tt, _, rfl, iteF ?_⟩
    refine ⟨_, rfl, p, _, rfl, .inr hs, rfl, _, rfl, iteF ?_⟩
    refine ⟨_, rfl, p, _, _, _, rfl, rfl, hs, at0, _, _, _, _, _, rfl, .ty _, tyS _, kit_ty kb_ss, _, rfl, iteF ?_⟩
    refine ⟨_, rfl, p, _, _, _, rfl, rfl, hs, at0, rfl, _, rfl, ifF (by decide +kernel) ?_⟩
    refine ⟨_, rfl, p, _, _, _, rfl, rfl, hs, at0, rfl, _, rfl, ifF (by decide +kernel) ?_⟩
    refine ⟨_, rfl, p, _, _, _, rfl, rfl, hs, at0, rfl, _, rfl, ifT rfl ?_⟩
    refine ⟨_, rfl, p, _, rfl, .inr hs, rfl, _, rfl, ifT rfl ?_⟩
    cases l with
    | zero => exact ⟨_, rfl, _, _, rfl, rfl, _, rfl, ifF (by decide) (q.at (Ch.refl _ _) _)⟩
    | succ l =>
      cases d with
      | zero => exact ok.elim
      | succ d =>
        refine ⟨_, rfl, _, _, rfl, rfl, _, rfl, ifT (by omega) ?_⟩
        exact ⟨_, rfl, p, _, _, _, rfl, rfl, hs, at1, _, rfl, _, _, rfl, rfl, y, t, d, pred_eq _ _, e2, ok, q⟩
theorem v_is_test {P : Program} {w : World} {K : PySem.W.Frag} {mg : Str → Option Value} {base : Heap} {aC aK : Addr} (D : Dh K mg "is_test" s_is_test ["value", "nots"]) (T : Txt K mg aC aK) (c_is_expression : Df P w K mg base 5 "is_expression" (spIsE K 3)) (c_is_rest : Df P w K mg base 6 "is_rest" (spIsR K)) : ∀ l, Df P w K mg base (l + 7) "is_test" (spIsT K l)
  | 0 => ist_step D T c_is_expression c_is_rest 0 (D.none fun _ _ _ _ h => h)
  | l + 1 => ist_step D T c_is_expression c_is_rest (l + 1) (v_is_test D T c_is_expression c_is_rest l)
abbrev s_are_blocks : Stmt := tp 23
theorem sc_are_blocks : FnScope ["values", "value"] ["values"] (defScope s_are_blocks) := ⟨rfl, rfl, rfl, by decide +kernel, rfl, by decide +kernel, by decide +kernel⟩
theorem v_are_blocks (D : Dh K mg "are_blocks" s_are_blocks ["values"]) (T : Txt K mg aC aK) : Df P w K mg base 1 "are_blocks" (spAre K) := by
  refine D.ok sc_are_blocks (fun vs H Q E h => ?_) (fun f cdv Ar outer s H vs Q E hr h => ?_)
  · obtain ⟨a, xs, rfl, _⟩ := h
    rfl
  obtain ⟨a, xs, rfl, hs, hl, hx, q⟩ := h
  refine ⟨_, (pss_one (ps_ret (pe_cmpR (op_eqD hr.units) (pe_lc (own := [("value", 1)]) (g := gName 1)  rfl sc_are_blocks.nd (pi_tup (pv 0)) (blkOk_by (own := [("value", 1)]) (N := ["values", "value"]) (sc := defScope s_are_blocks) (by decide +kernel)) (fun _ _ _ _ _ => pg_name (i := 1) sc_are_blocks.nd rfl (Or.inl rfl)) (fun _ _ _ _ _ => (pts_one (pt_not (pt_val (pe_callB (call_isi : CallR _ (.builtin "isinstance") (rIsi K)) (by rfl) T.z_isinstance (by decide +kernel) (pa_cons (pv 1) (pa_cons (pe_bltn (v := .ty "tuple") (u := .type "tuple") (by rfl) T.z_tuple (by decide +kernel) rfl) pa_nil))))))) (fun _ _ _ _ _ => (pv 1))) (pe_lst pa_nil) (nomark _)))), ?_⟩
  refine ⟨_, rfl, a, rfl, ⟨_, hs⟩, fun L hL => ?_⟩
  refine lc_tup (K := K) (a := a) (xs := xs) (fun i H' => Ch [] H H' ∧ H' L = some (.lst [])) ⟨Ch.new hL _, upd_same⟩ (fun i H' _ h => h.1.sqt hs) ?_ ?_
  · rintro i x H1 hi ⟨c1, h1⟩
    obtain ⟨p, ys, rfl, hp⟩ := hx x (List.mem_of_getElem? hi)
    refine ⟨rfl, _, rfl, _, _, _, _, _, rfl, .ty _, tyT (c1.sqt hp), kit_ty kb_tt, _, rfl, iteF ?_⟩
    exact ⟨c1, h1⟩
  · rintro H1 ⟨c1, h1⟩
    refine ⟨Nat.zero_le _, fun e0 he0 => ?_⟩
    have c2 : Ch [] H1 (upd H1 e0 (.lst [])) := Ch.new he0 _
    refine ⟨.list [], .list [], .lst (SqL.of (by rw [upd_ne (ne_of_none h1 he0)]; exact h1)) .nil, .lst (SqL.of upd_same) .nil, shaped_nilL, shaped_nilL, ?_⟩
    exact q.at (c1.trans c2) _
abbrev s_is_statement : Stmt := tp 24
theorem sc_is_statement : FnScope ["value"] ["value"] (defScope s_is_statement) := ⟨rfl, rfl, rfl, by decide +kernel, rfl, by decide +kernel, by decide +kernel⟩
theorem v_is_statement (D : Dh K mg "is_statement" s_is_statement ["value"]) (T : Txt K mg aC aK) (c_is_name : Df P w K mg base 1 "is_name" (spNm K)) (c_is_whole : Df P w K mg base 1 "is_whole" (spWh K)) (c_is_expression : Df P w K mg base 5 "is_expression" (spIsE K 3)) (c_is_test : Df P w K mg base 9 "is_test" (spIsT K 2)) (c_are_blocks : Df P w K mg base 1 "are_blocks" (spAre K)) (d : Nat) : Df P w K mg base 10 "is_statement" (spIsS K d) := by
  refine D.ok sc_is_statement (fun vs H Q E h => ?_) (fun f cdv Ar outer s H vs Q E hr h => ?_)
  · obtain ⟨v, t, rfl, _⟩ := h
    rfl
  obtain ⟨v, t, rfl, hd, ok, hd20, q⟩ := h
  refine ⟨_, (pss_cons (ps_if (PW.pt (pw_or (pt_not (pt_val (pe_callB call_isi (by rfl) T.z_isinstance (by decide +kernel) (pa_cons (pv 0) (pa_cons (pe_bltn (v := .ty "tuple") (u := .type "tuple") (by rfl) T.z_tuple (by decide +kernel) rfl) pa_nil))))) (pw_or (pt_cmpR op_eq (pe_callB call_len_seq (by rfl) T.z_len (by decide +kernel) (pa_cons (pv 0) pa_nil)) pe_int (nomark _)) (pw_or1 (pt_not (pt_val (pe_callB call_isi (by rfl) T.z_isinstance (by decide +kernel) (pa_cons (pe_ix ix_tup (pv 0) pe_int (fun _ _ => rfl)) (pa_cons (pe_bltn (v := .ty "str") (u := .type "str") (by rfl) T.z_str (by decide +kernel) rfl) pa_nil))))))))) (pss_one (ps_ret pe_bl)) pss_nil)
      (pss_cons (ps_if (pt_cmpR op_eq (pe_ix ix_tup (pv 0) pe_int (fun _ _ => rfl)) pe_str (nomark _)) (pss_one (ps_ret (pe_and (pe_cmpR op_eq (pe_callB call_len_seq (by rfl) T.z_len (by decide +kernel) (pa_cons (pv 0) pa_nil)) pe_int (nomark _)) (pe_and (pdf c_is_name hr (by first | decide | omega) rfl (pa_cons (pe_ix ix_tup (pv 0) pe_int (fun _ _ => rfl)) pa_nil)) (pe_one (pdf c_is_expression hr (by first | decide | omega) rfl (pa_cons (pe_ix ix_tup (pv 0) pe_int (fun _ _ => rfl)) (pa_cons (pgc rfl T.g_MAX_DEEP) pa_nil)))))))) pss_nil)
      (pss_cons (ps_if (pt_cmpR op_eq (pe_ix ix_tup (pv 0) pe_int (fun _ _ => rfl)) pe_str (nomark _)) (pss_one (ps_ret (pe_and (pe_cmpR op_eq (pe_callB call_len_seq (by rfl) T.z_len (by decide +kernel) (pa_cons (pv 0) pa_nil)) pe_int (nomark _)) (pe_one (pdf c_is_expression hr (by first | decide | omega) rfl (pa_cons (pe_ix ix_tup (pv 0) pe_int (fun _ _ => rfl)) (pa_cons (pgc rfl T.g_MAX_DEEP) pa_nil))))))) pss_nil)
      (pss_cons (ps_if (pt_cmpR op_eq (pe_ix ix_tup (pv 0) pe_int (fun _ _ => rfl)) pe_str (nomark _)) (pss_one (ps_ret (pe_and (pe_cmpR op_eq (pe_callB call_len_seq (by rfl) T.z_len (by decide +kernel) (pa_cons (pv 0) pa_nil)) pe_int (nomark _)) (pe_and (pdf c_is_test hr (by first | decide | omega) rfl (pa_cons (pe_ix ix_tup (pv 0) pe_int (fun _ _ => rfl)) (pa_cons (pgc rfl T.g_MAX_NOTS) pa_nil))) (pe_one (pdf c_are_blocks hr (by first | decide | omega) rfl (pa_cons (pe_slice sl_tupA (pv 0) (po_some pe_int) po_none) pa_nil))))))) pss_nil)
      (pss_cons (ps_if (pt_cmpR op_in_seq (pe_ix ix_tup (pv 0) pe_int (fun _ _ => rfl)) (pgc rfl T.g_CHOICES) rfl) (pss_one (ps_ret (pe_and (pe_cmpR op_eq (pe_callB call_len_seq (by rfl) T.z_len (by decide +kernel) (pa_cons (pv 0) pa_nil)) pe_int (nomark _)) (pe_one (pdf c_are_blocks hr (by first | decide | omega) rfl (pa_cons (pe_slice sl_tupA (pv 0) (po_some pe_int) po_none) pa_nil)))))) pss_nil)
      (pss_cons (ps_if (pt_cmpR op_eq (pe_ix ix_tup (pv 0) pe_int (fun _ _ => rfl)) pe_str (nomark _)) (pss_one (ps_ret (pe_and (pe_cmpR op_eq (pe_callB call_len_seq (by rfl) T.z_len (by decide +kernel) (pa_cons (pv 0) pa_nil)) pe_int (nomark _)) (pe_and (pdf c_is_whole hr (by first | decide | omega) rfl (pa_cons (pe_ix ix_tup (pv 0) pe_int (fun _ _ => rfl)) (pa_cons pe_int (pa_cons (pgc rfl T.g_MAX_TIMES) pa_nil)))) (pe_one (pdf c_are_blocks hr (by first | decide | omega) rfl (pa_cons (pe_slice sl_tupA (pv 0) (po_some pe_int) po_none) pa_nil))))))) pss_nil)
      (pss_one (ps_ret (pe_cmpR (op_eqD hr.units) (pv 0) (pe_tup (pa_cons pe_str pa_nil)) (nomark _)))))))))), ?_⟩
  cases t with
  | set x e =>
    have ok' : Pn x ∧ ExOk Pn 3 e := by cases d <;> exact ok
    obtain ⟨p, x0, y, z, rfl, hs, e1, e2, e3⟩ := dp_tup3 hd
    obtain rfl := dp_str e1
    obtain rfl := dp_str e2
    refine ⟨_, rfl, _, _, _, _, _, rfl, .ty _, tyT hs, kit_ty kb_tt, _, rfl, iteF ?_⟩
    refine ⟨_, rfl, p, _, rfl, .inr hs, rfl, _, rfl, iteF ?_⟩
    refine ⟨_, rfl, p, _, _, _, rfl, rfl, hs, at0, _, _, _, _, _, rfl, .ty _, tyS _, kit_ty kb_ss, _, rfl, iteF ?_⟩
    refine ⟨_, rfl, p, _, _, _, rfl, rfl, hs, at0, rfl, _, rfl, ifT rfl ?_⟩
    refine ⟨_, rfl, p, _, rfl, .inr hs, rfl, _, rfl, ifT rfl ?_⟩
    refine ⟨_, rfl, p, _, _, _, rfl, rfl, hs, at1, _, rfl, .str x ok'.1, fun b1 H1 c1 => ⟨_, rfl, ifB (fun _ => ?_) (fun _ => q.at c1 _)⟩⟩
    exact ⟨_, rfl, p, _, _, _, rfl, rfl, c1.sqt hs, at2, z, e, 3, rfl, c1.dE e3, ok'.2, q.le c1⟩
  | pay e =>
    have ok' : ExOk Pn 3 e := by cases d <;> exact ok
    obtain ⟨p, x0, y, rfl, hs, e1, e2⟩ := dp_tup2 hd
    obtain rfl := dp_str e1
    refine ⟨_, rfl, _, _, _, _, _, rfl, .ty _, tyT hs, kit_ty kb_tt, _, rfl, iteF ?_⟩
    refine ⟨_, rfl, p, _, rfl, .inr hs, rfl, _, rfl, iteF ?_⟩
    refine ⟨_, rfl, p, _, _, _, rfl, rfl, hs, at0, _, _, _, _, _, rfl, .ty _, tyS _, kit_ty kb_ss, _, rfl, iteF ?_⟩
    refine ⟨_, rfl, p, _, _, _, rfl, rfl, hs, at0, rfl, _, rfl, ifF (by decide +kernel) ?_⟩
    refine ⟨_, rfl, p, _, _, _, rfl, rfl, hs, at0, rfl, _, rfl, ifT rfl ?_⟩
    refine ⟨_, rfl, p, _, rfl, .inr hs, rfl, _, rfl, ifT rfl ?_⟩
    exact ⟨_, rfl, p, _, _, _, rfl, rfl, hs, at1, y, e, 3, rfl, e2, ok', q⟩
  | stop =>
    obtain ⟨p, x0, rfl, hs, e1⟩ := dp_tup1 hd
    obtain rfl := dp_str e1
    refine ⟨_, rfl, _, _, _, _, _, rfl, .ty _, tyT hs, kit_ty kb_tt, _, rfl, iteF ?_⟩
    refine ⟨_, rfl, p, _, rfl, .inr hs, rfl, _, rfl, iteF ?_⟩
    refine ⟨_, rfl, p, _, _, _, rfl, rfl, hs, at0, _, _, _, _, _, rfl, .ty _, tyS _, kit_ty kb_ss, _, rfl, iteF ?_⟩
    refine ⟨_, rfl, p, _, _, _, rfl, rfl, hs, at0, rfl, _, rfl, ifF (by decide +kernel) ?_⟩
    refine ⟨_, rfl, p, _, _, _, rfl, rfl, hs, at0, rfl, _, rfl, ifF (by decide +kernel) ?_⟩
    refine ⟨_, rfl, p, _, _, _, rfl, rfl, hs, at0, rfl, _, rfl, ifF (by decide +kernel) ?_⟩
    refine ⟨_, rfl, p, _, _, _, rfl, rfl, hs, at0, aC, _, rfl, .inr (T.t_CHOICES _), rfl, rfl, _, rfl, ?_⟩
    rw [if_neg Bool.false_ne_true, in_not "stop" (by decide +kernel) (by decide +kernel)]
    refine iteF ?_
    refine ⟨_, rfl, p, _, _, _, rfl, rfl, hs, at0, rfl, _, rfl, ifF (by decide +kernel) ?_⟩
    refine ⟨_, rfl, szl (by simp), fun t ht => ?_⟩
    have c1 : Ch [] H (upd H t (.tup [.str "stop"])) := Ch.new ht _
    have sh : SeqAt.shaped (eS .stop) = true := shaped_S (P := Pn) (fun x h => h.2.2) (d := 0) (s := .stop) trivial (by omega)
    refine ⟨eS .stop, .tuple [.str "stop"], c1.dS hd, dp_new ht rfl (dpa_1 (.str _)), sh, sh, ?_⟩
    exact q.at c1 _
  | ite t y n =>
    cases d with
    | zero => exact ok.elim
    | succ d =>
    obtain ⟨p, x0, x1, x2, x3, rfl, hs, e0, e1, e2, e3⟩ := dp_tup4 hd
    obtain rfl := dp_str e0
    obtain ⟨a2, y2, rfl, h2, _⟩ := dp_tup e2
    obtain ⟨a3, y3, rfl, h3, _⟩ := dp_tup e3
    refine ⟨_, rfl, _, _, _, _, _, rfl, .ty _, tyT hs, kit_ty kb_tt, _, rfl, iteF ?_⟩
    refine ⟨_, rfl, p, _, rfl, .inr hs, rfl, _, rfl, iteF ?_⟩
    refine ⟨_, rfl, p, _, _, _, rfl, rfl, hs, at0, _, _, _, _, _, rfl, .ty _, tyS _, kit_ty kb_ss, _, rfl, iteF ?_⟩
    refine ⟨_, rfl, p, _, _, _, rfl, rfl, hs, at0, rfl, _, rfl, ifF (by decide +kernel) ?_⟩
    refine ⟨_, rfl, p, _, _, _, rfl, rfl, hs, at0, rfl, _, rfl, ifF (by decide +kernel) ?_⟩
    refine ⟨_, rfl, p, _, _, _, rfl, rfl, hs, at0, rfl, _, rfl, ifT rfl ?_⟩
    refine ⟨_, rfl, p, _, rfl, .inr hs, rfl, _, rfl, ifT rfl ?_⟩
    refine ⟨_, rfl, p, _, _, _, rfl, rfl, hs, at1, _, t, 2, rfl, e1, ok.1, fun b1 H1 c1 => ⟨_, rfl, ifB (fun _ => ?_) (fun _ => q.at c1 _)⟩⟩
    refine ⟨_, rfl, _, rfl, ?_⟩
    dsimp only [tNoPart]
    refine slA (c1.sqt hs) (fun r H2 hr2 c2 => ?_)
    have hcut : cutV [V.str "if", x1, .ref a2, .ref a3] (some (2 : Int)) none = [.ref a2, .ref a3] := rfl
    rw [hcut] at hr2
    refine ⟨r, _, rfl, hr2, by simp, fun x hx => ?_, q.le (c1.trans c2)⟩
    simp only [List.mem_cons, List.not_mem_nil, or_false] at hx
    rcases hx with rfl | rfl
    · exact ⟨a2, y2, rfl, (c1.trans c2).sqt h2⟩
    · exact ⟨a3, y3, rfl, (c1.trans c2).sqt h3⟩
  | ch g y n =>
    cases d with
    | zero => exact ok.elim
    | succ d =>
    obtain ⟨p, x0, x1, x2, rfl, hs, e0, e1, e2⟩ := dp_tup3 hd
    obtain rfl := dp_str e0
    obtain ⟨a2, y2, rfl, h2, _⟩ := dp_tup e1
    obtain ⟨a3, y3, rfl, h3, _⟩ := dp_tup e2
    refine ⟨_, rfl, _, _, _, _, _, rfl, .ty _, tyT hs, kit_ty kb_tt, _, rfl, iteF ?_⟩
    refine ⟨_, rfl, p, _, rfl, .inr hs, rfl, _, rfl, iteF ?_⟩
    refine ⟨_, rfl, p, _, _, _, rfl, rfl, hs, at0, _, _, _, _, _, rfl, .ty _, tyS _, kit_ty kb_ss, _, rfl, iteF ?_⟩
    refine ⟨_, rfl, p, _, _, _, rfl, rfl, hs, at0, rfl, _, rfl, ifF (by cases g <;> decide +kernel) ?_⟩
    refine ⟨_, rfl, p, _, _, _, rfl, rfl, hs, at0, rfl, _, rfl, ifF (by cases g <;> decide +kernel) ?_⟩
    refine ⟨_, rfl, p, _, _, _, rfl, rfl, hs, at0, rfl, _, rfl, ifF (by cases g <;> decide +kernel) ?_⟩
    refine ⟨_, rfl, p, _, _, _, rfl, rfl, hs, at0, aC, _, rfl, .inr (T.t_CHOICES _), rfl, rfl, _, rfl, ?_⟩
    rw [if_neg Bool.false_ne_true, in_hand g]
    refine iteT ?_
    refine ⟨_, rfl, p, _, rfl, .inr hs, rfl, _, rfl, ifT rfl ?_⟩
    refine ⟨_, rfl, _, rfl, ?_⟩
    dsimp only [tNoPart]
    refine slA hs (fun r H2 hr2 c2 => ?_)
    have hcut : cutV [V.str (hand g), .ref a2, .ref a3] (some (1 : Int)) none = [.ref a2, .ref a3] := rfl
    rw [hcut] at hr2
    refine ⟨r, _, rfl, hr2, by simp, fun x hx => ?_, q.le c2⟩
    simp only [List.mem_cons, List.not_mem_nil, or_false] at hx
    rcases hx with rfl | rfl
    · exact ⟨a2, y2, rfl, c2.sqt h2⟩
    · exact ⟨a3, y3, rfl, c2.sqt h3⟩
  | rep k b =>
    cases d with
    | zero => exact ok.elim
    | succ d =>
    obtain ⟨p, x0, x1, x2, rfl, hs, e0, e1, e2⟩ := dp_tup3 hd
    obtain rfl := dp_str e0
    obtain rfl := dp_int e1
    obtain ⟨a2, y2, rfl, h2, _⟩ := dp_tup e2
    refine ⟨_, rfl, _, _, _, _, _, rfl, .ty _, tyT hs, kit_ty kb_tt, _, rfl, iteF ?_⟩
    refine ⟨_, rfl, p, _, rfl, .inr hs, rfl, _, rfl, iteF ?_⟩
    refine ⟨_, rfl, p, _, _, _, rfl, rfl, hs, at0, _, _, _, _, _, rfl, .ty _, tyS _, kit_ty kb_ss, _, rfl, iteF ?_⟩
    refine ⟨_, rfl, p, _, _, _, rfl, rfl, hs, at0, rfl, _, rfl, ifF (by decide +kernel) ?_⟩
    refine ⟨_, rfl, p, _, _, _, rfl, rfl, hs, at0, rfl, _, rfl, ifF (by decide +kernel) ?_⟩
    refine ⟨_, rfl, p, _, _, _, rfl, rfl, hs, at0, rfl, _, rfl, ifF (by decide +kernel) ?_⟩
    refine ⟨_, rfl, p, _, _, _, rfl, rfl, hs, at0, aC, _, rfl, .inr (T.t_CHOICES _), rfl, rfl, _, rfl, ?_⟩
    rw [if_neg Bool.false_ne_true, in_not "repeat" (by decide +kernel) (by decide +kernel)]
    refine iteF ?_
    refine ⟨_, rfl, p, _, _, _, rfl, rfl, hs, at0, rfl, _, rfl, ifT rfl ?_⟩
    refine ⟨_, rfl, p, _, rfl, .inr hs, rfl, _, rfl, ifT rfl ?_⟩
    refine ⟨_, rfl, p, _, _, _, rfl, rfl, hs, at1, _, _, _, rfl, .int _, fun b1 => ⟨_, rfl, ifB (fun _ => ?_) (fun _ => q.at (Ch.refl _ _) _)⟩⟩
    refine ⟨_, rfl, _, rfl, ?_⟩
    dsimp only [tNoPart]
    refine slA hs (fun r H2 hr2 c2 => ?_)
    have hcut : cutV [V.str "repeat", .int (k : Int), .ref a2] (some (2 : Int)) none = [.ref a2] := rfl
    rw [hcut] at hr2
    refine ⟨r, _, rfl, hr2, by simp, fun x hx => ?_, q.le c2⟩
    simp only [List.mem_cons, List.not_mem_nil, or_false] at hx
    subst hx
    exact ⟨a2, y2, rfl, c2.sqt h2⟩
end
end K28
/-! K28W: blocks_of, items_within, rows_of, order_error. -/
namespace K28
open PySem PySem.Spec PyProof.Rows L2
def blks : Sm → List (List Sm)
  | .ch _ a b => [a, b]
  | .ite _ y n => [y, n]
  | .rep _ b => [b]
  | _ => []
def kids (s : Sm) : List Sm := (blks s).flatten
theorem blks_ok {P : Str → Prop} {d : Nat} {s : Sm} (h : SmOk P d s) : ∀ b ∈ blks s, ∃ e, d = e + 1 ∧ BlOk P e b := by
  intro b hb
  cases s with
  | set x e => cases hb
  | pay e => cases hb
  | stop => cases hb
  | ite t y n =>
    cases d with
    | zero => exact h.elim
    | succ d =>
      simp only [blks, List.mem_cons, List.not_mem_nil, or_false] at hb
      rcases hb with rfl | rfl
      · exact ⟨d, rfl, h.2.1⟩
      · exact ⟨d, rfl, h.2.2⟩
  | ch g y n =>
    cases d with
    | zero => exact h.elim
    | succ d =>
      simp only [blks, List.mem_cons, List.not_mem_nil, or_false] at hb
      rcases hb with rfl | rfl
      · exact ⟨d, rfl, h.1⟩
      · exact ⟨d, rfl, h.2⟩
  | rep k b =>
    cases d with
    | zero => exact h.elim
    | succ d =>
      simp only [blks, List.mem_cons, List.not_mem_nil, or_false] at hb
      subst hb
      exact ⟨d, rfl, h.2⟩
theorem kids_ok {P : Str → Prop} {d : Nat} {s : Sm} (h : SmOk P d s) : BlOk P d (kids s) := by
  intro x hx
  obtain ⟨b, hb, hx⟩ := List.mem_flatten.mp hx
  obtain ⟨e, rfl, ok⟩ := blks_ok h b hb
  exact SmOk.mono (fun _ q => q) (Nat.le_succ e) (ok x hx)
theorem kids_w {P : Str → Prop} {d : Nat} {s : Sm} (h : SmOk P d s) : wB (kids s) + 1 ≤ wS s := by
  cases s with
  | set x e => simp [kids, blks, wB, wS]
  | pay e => simp [kids, blks, wB, wS]
  | stop => simp [kids, blks, wB, wS]
  | ite t y n => simp [kids, blks, wS, wB_append]; omega
  | ch g y n => simp [kids, blks, wS, wB_append]; omega
  | rep k b =>
    have hk : 1 ≤ k := by
      cases d with
      | zero => exact h.elim
      | succ d => exact h.1.1
    have : 1 * wB b ≤ k * wB b := Nat.mul_le_mul_right _ hk
    simp [kids, blks, wS]
    omega
/-- an item of a stack: a depth and a statement -/
def eI (x : Int × Sm) : PyData := .tuple [.int x.1, eS x.2]
theorem flat_I (x : Int × Sm) : flatT (eI x) = true := by simp [eI, flatT, flatTs, flat_eS]
theorem flat_Is (L : List (Int × Sm)) : flatTs (L.map eI) = true := flatTs_mem fun x hx => by
  obtain ⟨r, _, rfl⟩ := List.mem_map.mp hx
  exact flat_I r
theorem Ch.dI {K : PySem.W.Frag} {M : List Addr} {H H' : Hp} (c : Ch M H H') {v : V} {r : Int × Sm} (h : Dp K H v (eI r)) : Dp K H' v (eI r) := Dp.gw c.imm _ _ (flat_I r) h
theorem Ch.dIs {K : PySem.W.Frag} {M : List Addr} {H H' : Hp} (c : Ch M H H') {vs : List V} {L : List (Int × Sm)} (h : DpAll K H vs (L.map eI)) : DpAll K H' vs (L.map eI) := DpAll.gw c.imm _ _ (flat_Is L) h
theorem Ch.dBs {K : PySem.W.Frag} {M : List Addr} {H H' : Hp} (c : Ch M H H') {vs : List V} {bs : List (List Sm)} (h : DpAll K H vs (bs.map fun b => .tuple (eB b))) : DpAll K H' vs (bs.map fun b => .tuple (eB b)) :=
  DpAll.gw c.imm _ _ (flatTs_mem fun x hx => by
    obtain ⟨r, _, rfl⟩ := List.mem_map.mp hx
    exact flat_P r) h
theorem shaped_Is {d : Nat} {L : List (Int × Sm)} (h : ∀ x ∈ L, SmOk Pn d x.2) (hd : d ≤ 20) : SeqAt.shaped (.list (L.map eI)) = true := by
  have h := can_all (D := 2 * d + 8) (ds := L.map eI) fun x hx => by
    obtain ⟨r, hr, rfl⟩ := List.mem_map.mp hx
    have q := can_eS (P := Pn) (fun x h => h.2.2) d r.2 (h r hr)
    refine ⟨?_, ?_⟩
    · rw [eI, canT, PyData.canLayAll0, PyData.canLayAll0, PyData.canLayAll0, q.1, PyData.canLay0]; rfl
    · simp only [eI, PyData.depth, PyData.depthAll]; omega
  refine shaped_mk ?_ ?_
  · rw [PyData.canLay0, h.1]
  · simp only [PyData.depth]; omega
theorem eqv_list (L : List (Int × Sm)) : PyData.eqv (.list (L.map eI)) (.list []) = decide (L = []) := by
  cases L with
  | nil => simp [PyData.eqv, PyData.eqvAll]
  | cons a r => simp [PyData.eqv, PyData.eqvAll]
theorem dpa_rev {K : PySem.W.Frag} {H : Hp} : ∀ {xs : List V} {ds : List PyData}, DpAll K H xs ds → DpAll K H xs.reverse ds.reverse
  | _, _, .nil => .nil
  | _, _, .cons a b => by
    rw [List.reverse_cons, List.reverse_cons]
    exact dpa_app (dpa_rev b) (dpa_1 a)
def spBks (K : PySem.W.Frag) : Sp := fun vs H Q _ => ∃ (v : V) (s : Sm), vs = [v] ∧ Dp K H v (eS s) ∧ ∀ H' p xs, Ch [] H H' → H p = none → H' p = some (.lst xs) → DpAll K H' xs ((blks s).map fun b => .tuple (eB b)) → Q (.ref p) H'
def spItm (K : PySem.W.Frag) : Sp := fun vs H Q _ => ∃ (v : V) (s : Sm) (z : Int), vs = [v, .int z] ∧ Dp K H v (eS s) ∧ wB (kids s) ≤ 20000 ∧ ∀ H' p xs, Ch [] H H' → H p = none → H' p = some (.lst xs) → DpAll K H' xs (((kids s).map fun x => (z + 1, x)).reverse.map eI) → Q (.ref p) H'
section
variable {P : Program} {w : World} {K : PySem.W.Frag} {mg : Str → Option Value} {base : Heap} {aC aK C : Addr}
abbrev s_blocks_of : Stmt := tp 25
theorem sc_blocks_of : FnScope ["statement"] ["statement"] (defScope s_blocks_of) := ⟨rfl, rfl, rfl, by decide +kernel, rfl, by decide +kernel, by decide +kernel⟩
theorem v_blocks_of (D : Dh K mg "blocks_of" s_blocks_of ["statement"]) (T : Txt K mg aC aK) : Df P w K mg base 1 "blocks_of" (spBks K) := by
  refine D.ok sc_blocks_of (fun vs H Q E h => ?_) (fun f cdv Ar outer s H vs Q E hr h => ?_)
  · obtain ⟨v, t, rfl, _⟩ := h
    rfl
  obtain ⟨v, t, rfl, hd, q⟩ := h
  refine ⟨_, (pss_cons (ps_if (pt_cmpR op_in_seq (pe_ix ix_tup (pv 0) pe_int (fun _ _ => rfl)) (pgc rfl T.g_CHOICES) rfl) (pss_one (ps_ret (pe_lst (pa_cons (pe_ix ix_tup (pv 0) pe_int (fun _ _ => rfl)) (pa_cons (pe_ix ix_tup (pv 0) pe_int (fun _ _ => rfl)) pa_nil))))) pss_nil)
      (pss_cons (ps_if (pt_cmpR op_eq (pe_ix ix_tup (pv 0) pe_int (fun _ _ => rfl)) pe_str (nomark _)) (pss_one (ps_ret (pe_lst (pa_cons (pe_ix ix_tup (pv 0) pe_int (fun _ _ => rfl)) (pa_cons (pe_ix ix_tup (pv 0) pe_int (fun _ _ => rfl)) pa_nil))))) pss_nil)
      (pss_one (ps_ret (pe_ifExp (pt_cmpR op_eq (pe_ix ix_tup (pv 0) pe_int (fun _ _ => rfl)) pe_str (nomark _)) (pe_lst (pa_cons (pe_ix ix_tup (pv 0) pe_int (fun _ _ => rfl)) pa_nil)) (pe_lst pa_nil)))))), ?_⟩
  cases t with
  | set x e =>
    obtain ⟨p, x0, y, z, rfl, hs, e1, _⟩ := dp_tup3 hd
    obtain rfl := dp_str e1
    refine ⟨_, rfl, p, _, _, _, rfl, rfl, hs, at0, aC, _, rfl, .inr (T.t_CHOICES _), rfl, rfl, _, rfl, ?_⟩
    rw [if_neg Bool.false_ne_true, in_not "set" (by decide +kernel) (by decide +kernel)]
    refine iteF ?_
    refine ⟨_, rfl, p, _, _, _, rfl, rfl, hs, at0, rfl, _, rfl, ifF (by decide +kernel) ?_⟩
    refine ⟨_, rfl, p, _, _, _, rfl, rfl, hs, at0, rfl, _, rfl, ifF (by decide +kernel) ?_⟩
    refine ⟨Nat.zero_le _, fun r hr => ?_⟩
    exact q _ r _ (Ch.new hr _) hr upd_same .nil
  | pay e =>
    obtain ⟨p, x0, y, rfl, hs, e1, _⟩ := dp_tup2 hd
    obtain rfl := dp_str e1
    refine ⟨_, rfl, p, _, _, _, rfl, rfl, hs, at0, aC, _, rfl, .inr (T.t_CHOICES _), rfl, rfl, _, rfl, ?_⟩
    rw [if_neg Bool.false_ne_true, in_not "pay" (by decide +kernel) (by decide +kernel)]
    refine iteF ?_
    refine ⟨_, rfl, p, _, _, _, rfl, rfl, hs, at0, rfl, _, rfl, ifF (by decide +kernel) ?_⟩
    refine ⟨_, rfl, p, _, _, _, rfl, rfl, hs, at0, rfl, _, rfl, ifF (by decide +kernel) ?_⟩
    refine ⟨Nat.zero_le _, fun r hr => ?_⟩
    exact q _ r _ (Ch.new hr _) hr upd_same .nil
  | stop =>
    obtain ⟨p, x0, rfl, hs, e1⟩ := dp_tup1 hd
    obtain rfl := dp_str e1
    refine ⟨_, rfl, p, _, _, _, rfl, rfl, hs, at0, aC, _, rfl, .inr (T.t_CHOICES _), rfl, rfl, _, rfl, ?_⟩
    rw [if_neg Bool.false_ne_true, in_not "stop" (by decide +kernel) (by decide +kernel)]
    refine iteF ?_
    refine ⟨_, rfl, p, _, _, _, rfl, rfl, hs, at0, rfl, _, rfl, ifF (by decide +kernel) ?_⟩
    refine ⟨_, rfl, p, _, _, _, rfl, rfl, hs, at0, rfl, _, rfl, ifF (by decide +kernel) ?_⟩
    refine ⟨Nat.zero_le _, fun r hr => ?_⟩
    exact q _ r _ (Ch.new hr _) hr upd_same .nil
  | ite t y n =>
    obtain ⟨p, x0, x1, x2, x3, rfl, hs, e0, e1, e2, e3⟩ := dp_tup4 hd
    obtain rfl := dp_str e0
    refine ⟨_, rfl, p, _, _, _, rfl, rfl, hs, at0, aC, _, rfl, .inr (T.t_CHOICES _), rfl, rfl, _, rfl, ?_⟩
    rw [if_neg Bool.false_ne_true, in_not "if" (by decide +kernel) (by decide +kernel)]
    refine iteF ?_
    refine ⟨_, rfl, p, _, _, _, rfl, rfl, hs, at0, rfl, _, rfl, ifT rfl ?_⟩
    refine ⟨_, rfl, p, _, _, _, rfl, rfl, hs, at2, _, rfl, p, _, _, _, rfl, rfl, hs, at3, szl (by simp), fun r hr => ?_⟩
    have c1 : Ch [] H (upd H r (.lst [x2, x3])) := Ch.new hr _
    exact q _ r _ c1 hr upd_same (dpa_2 (c1.dB e2) (c1.dB e3))
  | ch g y n =>
    obtain ⟨p, x0, x1, x2, rfl, hs, e0, e1, e2⟩ := dp_tup3 hd
    obtain rfl := dp_str e0
    refine ⟨_, rfl, p, _, _, _, rfl, rfl, hs, at0, aC, _, rfl, .inr (T.t_CHOICES _), rfl, rfl, _, rfl, ?_⟩
    rw [if_neg Bool.false_ne_true, in_hand g]
    refine iteT ?_
    refine ⟨_, rfl, p, _, _, _, rfl, rfl, hs, at1, _, rfl, p, _, _, _, rfl, rfl, hs, at2, szl (by simp), fun r hr => ?_⟩
    have c1 : Ch [] H (upd H r (.lst [x1, x2])) := Ch.new hr _
    exact q _ r _ c1 hr upd_same (dpa_2 (c1.dB e1) (c1.dB e2))
  | rep k b =>
    obtain ⟨p, x0, x1, x2, rfl, hs, e0, e1, e2⟩ := dp_tup3 hd
    obtain rfl := dp_str e0
    refine ⟨_, rfl, p, _, _, _, rfl, rfl, hs, at0, aC, _, rfl, .inr (T.t_CHOICES _), rfl, rfl, _, rfl, ?_⟩
    rw [if_neg Bool.false_ne_true, in_not "repeat" (by decide +kernel) (by decide +kernel)]
    refine iteF ?_
    refine ⟨_, rfl, p, _, _, _, rfl, rfl, hs, at0, rfl, _, rfl, ifF (by decide +kernel) ?_⟩
    refine ⟨_, rfl, p, _, _, _, rfl, rfl, hs, at0, rfl, _, rfl, ifT rfl ?_⟩
    refine ⟨_, rfl, p, _, _, _, rfl, rfl, hs, at2, szl (by simp), fun r hr => ?_⟩
    have c1 : Ch [] H (upd H r (.lst [x2])) := Ch.new hr _
    exact q _ r _ c1 hr upd_same (dpa_1 (c1.dB e2))
abbrev s_items_within : Stmt := tp 26
theorem sc_items_within : FnScope ["statement", "depth", "found", "block", "item"] ["statement", "depth"] (defScope s_items_within) := ⟨rfl, rfl, rfl, by decide +kernel, rfl, by decide +kernel, by decide +kernel⟩
theorem v_items_within (D : Dh K mg "items_within" s_items_within ["statement", "depth"]) (c_blocks_of : Df P w K mg base 1 "blocks_of" (spBks K)) : Df P w K mg base 2 "items_within" (spItm K) := by
  refine D.ok sc_items_within (fun vs H Q E h => ?_) (fun f cdv Ar outer s H vs Q E hr h => ?_)
  · obtain ⟨v, t, z, rfl, _⟩ := h
    rfl
  obtain ⟨v, t, z, rfl, hd, hw, q⟩ := h
  refine ⟨_, (pss_cons (ps_set (i := 2) sc_items_within.nd rfl (Or.inl rfl) (pe_lst pa_nil))
      (pss_cons (ps_for PassesOwn.never rfl (pi_list (pdf c_blocks_of hr (by first | decide | omega) rfl (pa_cons (pv 0) pa_nil))) (pg_name (i := 3) sc_items_within.nd rfl (Or.inl rfl)) (pss_one (ps_expr (pe_bm PySem.F.plainAttrs_list PySem.F.slot_list_extend PySem.F.type_list_extend mt_extend (pv 2) (pa_cons (pe_lc (own := [("item", 4)]) (g := gName 4) (tt := tYes) rfl sc_items_within.nd (pi_tup (pv 3)) (blkOk_by (own := [("item", 4)]) (N := ["statement", "depth", "found", "block", "item"]) (sc := defScope s_items_within) (by decide +kernel)) (fun _ _ _ _ _ => pg_name (i := 4) sc_items_within.nd rfl (Or.inl rfl)) (fun _ _ _ _ _ => pts_nil) (fun _ _ _ _ _ => (pe_tup (pa_cons (pe_op op_add (pv 1) pe_int) (pa_cons (pv 4) pa_nil))))) pa_nil)))))
      (pss_one (ps_ret (pe_revL (pv 2)))))), ?_⟩
  refine ⟨Nat.zero_le _, fun fd hfd => ?_⟩
  have c0 : Ch [] H (upd H fd (.lst [])) := Ch.new hfd _
  refine ⟨_, rfl, v, t, rfl, c0.dS hd, fun H1 p bs c1 np e1 hbs => ?_⟩
  have hp0 : p ≠ fd := fun e => by rw [e, upd_same] at np; cases np
  have lb : bs.length = (blks t).length := by rw [dpa_len hbs, List.length_map]
  have step0 : ∀ i, wB ((blks t).take i).flatten ≤ 20000 := fun i => by
    have : wB ((blks t).take i).flatten + wB ((blks t).drop i).flatten = wB (kids t) := by rw [← wB_append, ← List.flatten_append, List.take_append_drop]; rfl
    omega
  refine ⟨p, rfl, ⟨_, SqL.of e1⟩, for_list (K := K) (a := p) (xs := bs) (fun i sg H' => Ch [] H H' ∧ Ch [fd] H1 H' ∧ (∃ o1 o2, sg = [some v, some (.int z), some (.ref fd), o1, o2]) ∧ ∃ ys, H' fd = some (.lst ys) ∧ DpAll K H' ys ((((blks t).take i).flatten.map fun x => (z + 1, x)).map eI))
    ⟨c0.trans c1, Ch.refl _ _, ⟨_, _, rfl⟩, [], c1.out _ _ upd_same (by simp), .nil⟩ (fun i sg H' _ h => h.2.1.sql (SqL.of e1) (by simp [hp0])) ?_ ?_⟩
  · rintro i x sg H' hx ⟨c2, c3, ⟨o1, o2, rfl⟩, ys, hys, hdy⟩
    obtain ⟨e, he, hdx⟩ := dpa_get hbs hx
    rw [List.getElem?_map] at he
    cases hb : (blks t)[i]? with
    | none => rw [hb] at he; cases he
    | some b =>
      rw [hb] at he
      cases he
      have tk : (blks t).take (i + 1) = (blks t).take i ++ [b] := by
        obtain ⟨hl, e⟩ := List.getElem?_eq_some_iff.mp hb
        rw [List.take_succ_eq_append_getElem hl, e]
      have lw := step0 (i + 1)
      rw [tk, List.flatten_append, wB_append] at lw
      have lb1 := len_wB ((blks t).take i).flatten
      have lb2 := len_wB [b].flatten
      have eb : [b].flatten = b := by simp
      rw [eb] at lb2 lw
      have ly : ys.length = ((blks t).take i).flatten.length := by rw [dpa_len hdy, List.length_map, List.length_map]
      obtain ⟨a, xs, rfl, hs, hxs⟩ := dp_tup (c3.dB hdx)
      have lx : xs.length = b.length := by rw [dpa_len hxs, eB_len]
      refine ⟨_, rfl, .inl ⟨rfl, _, SqL.of hys⟩, _, rfl, a, rfl, ⟨_, hs⟩, fun L hL => ?_⟩
      have nL : fd ≠ L := ne_of_none hys hL
      refine lc_tup (K := K) (a := a) (xs := xs) (fun j H2 => Ch [] H' H2 ∧ ∃ zs, H2 L = some (.lst zs) ∧ DpAll K H2 zs (((b.take j).map fun x => (z + 1, x)).map eI)) ⟨Ch.new hL _, [], upd_same, .nil⟩ (fun j H2 _ h => h.1.sqt hs) ?_ ?_
      · rintro j y H2 hj ⟨c4, zs, hzs, hdz⟩
        obtain ⟨e, he, hdy2⟩ := dpa_get hxs hj
        obtain ⟨sm, hsm, rfl⟩ := eB_get he
        refine ⟨rfl, _, rfl, _, _, rfl, rfl, _, rfl, szl (by simp), fun t2 ht2 => ?_⟩
        have c5 : Ch [] H2 (upd H2 t2 (.tup [.int (z + 1), y])) := Ch.new ht2 _
        have hz2 : (upd H2 t2 (.tup [.int (z + 1), y])) L = some (.lst zs) := by rw [upd_ne (ne_of_none hzs ht2)]; exact hzs
        have jl := (List.getElem?_eq_some_iff.mp hsm).1
        have lz : zs.length = (b.take j).length := by rw [dpa_len hdz, List.length_map, List.length_map]
        have c6 := (c4.trans c5).young hL hz2 (.lst (zs ++ [.ref t2]))
        refine ⟨_, hz2, sz (by rw [lz, List.length_take]; omega), c6, _, upd_same, ?_⟩
        have c7 : Ch [L] (upd H2 t2 (.tup [.int (z + 1), y])) (upd (upd H2 t2 (.tup [.int (z + 1), y])) L (.lst (zs ++ [.ref t2]))) := Ch.put hz2 (fun z => z) (by simp) _
        rw [take_more hsm, List.map_append, List.map_append]
        refine dpa_app (c7.dIs (c5.dIs hdz)) (dpa_1 (c7.dI (r := (z + 1, sm)) ?_))
        exact dp_new ht2 (flat_I (z + 1, sm)) (dpa_2 (.int _) (c4.dS hdy2))
      · rintro H2 ⟨c4, zs, hzs, hdz⟩
        rw [lx, List.take_length] at hdz
        have hy2 : H2 fd = some (.lst ys) := c4.out _ _ hys (by simp)
        have lz : zs.length = b.length := by rw [dpa_len hdz, List.length_map, List.length_map]
        have c8 : Ch [fd] H2 (upd H2 fd (.lst (ys ++ zs))) := Ch.put hy2 (fun z => z) (by simp) _
        refine ⟨fd, L, ys, zs, rfl, rfl, hy2, hzs, szl (by omega), (c2.trans c4).young hfd hy2 _, (c3.trans c4.nil).trans c8, ⟨_, _, rfl⟩, _, upd_same, ?_⟩
        rw [tk, List.flatten_append, eb, List.map_append, List.map_append]
        exact dpa_app (c8.dIs (c4.dIs hdy)) (c8.dIs hdz)
  · rintro sg H' ⟨c2, c3, ⟨o1, o2, rfl⟩, ys, hys, hdy⟩
    rw [lb, List.take_length] at hdy
    refine ⟨_, rfl, fd, _, rfl, SqL.of hys, fun r hr => ?_⟩
    refine q _ r _ (c2.add hr _) (c2.free _ hr) upd_same ?_
    have c4 : Ch [] H' (upd H' r (.lst ys.reverse)) := Ch.new hr _
    rw [List.map_reverse]
    exact dpa_rev (c4.dIs hdy)
end
end K28
/-! K28Y: rows_of, order_error. -/
namespace K28
open PySem PySem.Spec PyProof.Rows L2
theorem dpa_snoc {K : PySem.W.Frag} {H : Hp} {d : PyData} : ∀ {ds : List PyData} {xs : List V}, DpAll K H xs (ds ++ [d]) → ∃ ys y, xs = ys ++ [y] ∧ DpAll K H ys ds ∧ Dp K H y d
  | [], xs, h => by
    obtain ⟨v, vs, rfl, h1, h2⟩ := dpa_cons h
    obtain rfl := dpa_nil h2
    exact ⟨[], v, rfl, .nil, h1⟩
  | e :: r, xs, h => by
    obtain ⟨v, vs, rfl, h1, h2⟩ := dpa_cons h
    obtain ⟨ys, y, rfl, h3, h4⟩ := dpa_snoc h2
    exact ⟨v :: ys, y, rfl, .cons h1 h3, h4⟩
theorem wB_rev : ∀ b : List Sm, wB b.reverse = wB b
  | [] => rfl
  | s :: r => by rw [List.reverse_cons, wB_append, wB_rev r, wB, wB, wB]; omega
/-- what a stack weighs -/
def wL (L : List (Int × Sm)) : Nat := wB (L.map Prod.snd)
theorem wL_snoc (L : List (Int × Sm)) (x : Int × Sm) : wL (L ++ [x]) = wL L + wS x.2 := by
  unfold wL
  rw [List.map_append, wB_append]
  simp [wB]
theorem wL_kids (L : List (Int × Sm)) (z : Int) (b : List Sm) : wL (L ++ (b.map fun x => (z, x)).reverse) = wL L + wB b := by
  unfold wL
  rw [List.map_append, wB_append, List.map_reverse, wB_rev, List.map_map]
  congr 1
  congr 1
  exact List.map_id b
theorem wL_len (L : List (Int × Sm)) : L.length ≤ wL L := by
  have := len_wB (L.map Prod.snd)
  rw [List.length_map] at this
  exact this
theorem wL_first (b : List Sm) : wL (b.map fun x => ((0 : Int), x)).reverse = wB b := by
  have := wL_kids [] 0 b
  rw [List.nil_append] at this
  rw [this]
  simp [wL, wB]
theorem snoc_of {α : Type} {L : List α} (h : L ≠ []) : ∃ M x, L = M ++ [x] := ⟨L.dropLast, L.getLast h, (List.dropLast_concat_getLast h).symm⟩
theorem last_at {xs : List V} {y : V} : (xs ++ [y])[(xs ++ [y]).length - 1]? = some y := by simp
def spRws (K : PySem.W.Frag) (d : Nat) : Sp := fun vs H Q _ => ∃ (v : V) (p : List Sm), vs = [v] ∧ Dp K H v (.tuple (eB p)) ∧ BlOk Pn d p ∧ wB p ≤ 10000 ∧ d ≤ 20 ∧ ∀ H' r xs, Ch [] H H' → H' r = some (.lst xs) → xs.length ≤ 20000 → Q (.ref r) H'
def spOrd (K : PySem.W.Frag) (d : Nat) : Sp := fun vs H Q _ => ∃ (v : V) (p : List Sm), vs = [v] ∧ Dp K H v (.tuple (eB p)) ∧ BlOk Pn d p ∧ wB p ≤ 10000 ∧ d ≤ 20 ∧ (∀ H', Ch [] H H' → Q .non H') ∧ ∀ H' r, Ch [] H H' → Q (.ref r) H'
/-- a stack stands at l -/
def Stk (K : PySem.W.Frag) (H : Hp) (l : Addr) (L : List (Int × Sm)) : Prop := ∃ xs, H l = some (.lst xs) ∧ DpAll K H xs (L.map eI)
section
variable {P : Program} {w : World} {K : PySem.W.Frag} {mg : Str → Option Value} {base : Heap} {aC aK C : Addr}
abbrev s_rows_of : Stmt := tp 27
theorem sc_rows_of : FnScope ["program", "left", "found", "item", "depth", "statement"] ["program"] (defScope s_rows_of) := ⟨rfl, rfl, rfl, by decide +kernel, rfl, by decide +kernel, by decide +kernel⟩
theorem v_rows_of (D : Dh K mg "rows_of" s_rows_of ["program"]) (c_items_within : Df P w K mg base 2 "items_within" (spItm K)) (d : Nat) : Df P w K mg base 3 "rows_of" (spRws K d) := by
  refine D.ok sc_rows_of (fun vs H Q E h => ?_) (fun f cdv Ar outer s H vs Q E hr h => ?_)
  · obtain ⟨v, p, rfl, _⟩ := h
    rfl
  obtain ⟨v, p, rfl, hd, ok, hw, h20, q⟩ := h
  refine ⟨_, (pss_cons (ps_par (i := 1) (j := 2) rfl sc_rows_of.nd rfl rfl (by decide) rfl rfl (pa_cons (pe_revL (pe_lc (own := [("item", 3)]) (g := gName 3) (tt := tYes) rfl sc_rows_of.nd (pi_tup (pv 0)) (blkOk_by (own := [("item", 3)]) (N := ["program", "left", "found", "item", "depth", "statement"]) (sc := defScope s_rows_of) (by decide +kernel)) (fun _ _ _ _ _ => pg_name (i := 3) sc_rows_of.nd rfl (Or.inl rfl)) (fun _ _ _ _ _ => pts_nil) (fun _ _ _ _ _ => (pe_tup (pa_cons pe_int (pa_cons (pv 3) pa_nil)))))) (pa_cons (pe_lst pa_nil) pa_nil)) (by rfl))
      (pss_cons (ps_while PassesOwn.never (pt_cmpR (op_neD hr.units) (pv 1) (pe_lst pa_nil) (nomark _)) (pss_cons (ps_asg (pe_bm0 PySem.F.plainAttrs_list PySem.F.slot_list_pop PySem.F.type_list_pop mt_pop (pv 1)) (pg_tup (by rfl) (pgs_cons (pg_name (i := 4) sc_rows_of.nd rfl (Or.inl rfl)) (pgs_cons (pg_name (i := 5) sc_rows_of.nd rfl (Or.inl rfl)) pgs_nil))))
      (pss_cons (ps_expr (pe_bm PySem.F.plainAttrs_list PySem.F.slot_list_append PySem.F.type_list_append mt_append (pv 2) (pa_cons (pe_tup (pa_cons (pv 4) (pa_cons (pv 5) pa_nil))) pa_nil)))
      (pss_one (ps_expr (pe_bm PySem.F.plainAttrs_list PySem.F.slot_list_extend PySem.F.type_list_extend mt_extend (pv 1) (pa_cons (pdf c_items_within hr (by first | decide | omega) rfl (pa_cons (pv 5) (pa_cons (pv 4) pa_nil))) pa_nil)))))))
      (pss_one (ps_ret (pv 2))))), ?_⟩
  obtain ⟨a, xs, rfl, hs, hxs⟩ := dp_tup hd
  have lx : xs.length = p.length := by rw [dpa_len hxs, eB_len]
  have lp := len_wB p
  refine ⟨_, rfl, a, rfl, ⟨_, hs⟩, fun L hL => ?_⟩
  refine lc_tup (K := K) (a := a) (xs := xs) (fun j H2 => Ch [] H H2 ∧ ∃ zs, H2 L = some (.lst zs) ∧ DpAll K H2 zs (((p.take j).map fun x => ((0 : Int), x)).map eI)) ⟨Ch.new hL _, [], upd_same, .nil⟩ (fun j H2 _ h => h.1.sqt hs) ?_ ?_
  · rintro j y H2 hj ⟨c4, zs, hzs, hdz⟩
    obtain ⟨e, he, hdy2⟩ := dpa_get hxs hj
    obtain ⟨sm, hsm, rfl⟩ := eB_get he
    refine ⟨rfl, _, rfl, szl (by simp), fun t2 ht2 => ?_⟩
    have c5 : Ch [] H2 (upd H2 t2 (.tup [.int 0, y])) := Ch.new ht2 _
    have hz2 : (upd H2 t2 (.tup [.int 0, y])) L = some (.lst zs) := by rw [upd_ne (ne_of_none hzs ht2)]; exact hzs
    have jl := (List.getElem?_eq_some_iff.mp hsm).1
    have lz : zs.length = (p.take j).length := by rw [dpa_len hdz, List.length_map, List.length_map]
    have c6 := (c4.trans c5).young hL hz2 (.lst (zs ++ [.ref t2]))
    refine ⟨_, hz2, sz (by rw [lz, List.length_take]; omega), c6, _, upd_same, ?_⟩
    have c7 : Ch [L] (upd H2 t2 (.tup [.int 0, y])) (upd (upd H2 t2 (.tup [.int 0, y])) L (.lst (zs ++ [.ref t2]))) := Ch.put hz2 (fun z => z) (by simp) _
    rw [take_more hsm, List.map_append, List.map_append]
    refine dpa_app (c7.dIs (c5.dIs hdz)) (dpa_1 (c7.dI (r := (0, sm)) ?_))
    exact dp_new ht2 (flat_I (0, sm)) (dpa_2 (.int _) (c4.dS hdy2))
  rintro H2 ⟨c4, zs, hzs, hdz⟩
  rw [lx, List.take_length] at hdz
  refine ⟨L, zs, rfl, SqL.of hzs, fun l hl => ?_⟩
  have c5 : Ch [] H2 (upd H2 l (.lst zs.reverse)) := Ch.new hl _
  refine ⟨Nat.zero_le _, fun fd hfd => ⟨_, _, rfl, ?_⟩⟩
  have c6 := c5.add hfd (.lst [])
  have hl0 : H l = none := c4.free _ hl
  have hfd0 : H fd = none := (c4.trans c5).free _ hfd
  have nlf : l ≠ fd := fun e => by rw [← e, upd_same] at hfd; cases hfd
  refine ⟨fun m sg H' => ∃ (M : List (Int × Sm)) (ys : List V) (o3 o4 o5 : Option V), sg = [some (.ref a), some (.ref l), some (.ref fd), o3, o4, o5] ∧ Ch [] H H' ∧ Stk K H' l M ∧ H' fd = some (.lst ys) ∧ ys.length + wL M ≤ 10000 ∧ (∀ x ∈ M, SmOk Pn d x.2) ∧ m = wL M,
    ⟨_, (p.map fun x => ((0 : Int), x)).reverse, [], _, _, _, rfl, c4.trans c6, ⟨zs.reverse, by rw [upd_ne nlf]; exact upd_same, by rw [List.map_reverse]; exact dpa_rev (c6.dIs hdz)⟩, upd_same, by rw [wL_first]; simpa using hw, ?_, rfl⟩, ?_⟩
  · intro x hx
    obtain ⟨y, hy, rfl⟩ := List.mem_map.mp (List.mem_reverse.mp hx)
    exact ok y hy
  rintro m sg H' ⟨M, ys, o3, o4, o5, rfl, g1, ⟨xs2, hx2, hdx2⟩, hf, hsz, hM, rfl⟩
  refine ⟨_, rfl, Nat.zero_le _, fun e0 he0 => ?_⟩
  have c7 : Ch [] H' (upd H' e0 (.lst [])) := Ch.new he0 _
  have nr : ∀ {b : Addr} {u : HO}, H' b = some u → b ≠ e0 := fun e => ne_of_none e he0
  refine ⟨.list (M.map eI), .list [], .lst (SqL.of (by rw [upd_ne (nr hx2)]; exact hx2)) (c7.dIs hdx2), .lst (SqL.of upd_same) .nil, shaped_Is hM h20, shaped_nilL, _, rfl, ?_⟩
  rw [eqv_list]
  by_cases hem : M = []
  · rw [decide_eq_true hem]
    refine iteF ?_
    refine ⟨_, rfl, q _ fd ys (g1.trans c7) (by rw [upd_ne (nr hf)]; exact hf) (by omega)⟩
  · rw [decide_eq_false hem]
    refine iteT ?_
    obtain ⟨M', ⟨dl, sm⟩, rfl⟩ := snoc_of hem
    rw [List.map_append] at hdx2
    obtain ⟨us, u, rfl, hus, hu⟩ := dpa_snoc hdx2
    obtain ⟨tp2, u0, u1, rfl, hsu, e0', e1⟩ := dp_tup2 hu
    obtain rfl := dp_int e0'
    rw [wL_snoc] at hsz
    change ys.length + (wL M' + wS sm) ≤ 10000 at hsz
    have oks : SmOk Pn d sm := hM (dl, sm) (by simp)
    have kw := kids_w oks
    have okk := kids_ok oks
    refine ⟨fun sg' H'' => ∃ (N : List (Int × Sm)) (ys : List V) (o3 o4 o5 : Option V), sg' = [some (.ref a), some (.ref l), some (.ref fd), o3, o4, o5] ∧ Ch [] H H'' ∧ Stk K H'' l N ∧ H'' fd = some (.lst ys) ∧ ys.length + wL N ≤ 10000 ∧ (∀ x ∈ N, SmOk Pn d x.2) ∧ wL N < wL (M' ++ [(dl, sm)]),
      fun sg' H'' ⟨N, ys, o3, o4, o5, h1, h2, h3, h4, h5, h6, h7⟩ => ⟨_, h7, N, ys, o3, o4, o5, h1, h2, h3, h4, h5, h6, rfl⟩, ?_⟩
    have hx3 : (upd H' e0 (.lst [])) l = some (.lst (us ++ [.ref tp2])) := by rw [upd_ne (nr hx2)]; exact hx2
    refine ⟨_, rfl, .inl ⟨rfl, _, SqL.of hx3⟩, l, _, _, rfl, rfl, hx3, last_at, ?_⟩
    rw [List.dropLast_concat]
    have c8 : Ch [l] (upd H' e0 (.lst [])) (upd (upd H' e0 (.lst [])) l (.lst us)) := Ch.put hx3 (fun z => z) (by simp) _
    have g2 : Ch [] H (upd (upd H' e0 (.lst [])) l (.lst us)) := (g1.trans c7).young hl0 hx3 _
    refine ⟨tp2, _, rfl, c8.sqt (c7.sqt hsu), rfl, _, _, rfl, _, _, rfl, rfl, ?_⟩
    have hf3 : (upd (upd H' e0 (.lst [])) l (.lst us)) fd = some (.lst ys) := by rw [upd_ne nlf.symm, upd_ne (nr hf)]; exact hf
    refine ⟨_, rfl, .inl ⟨rfl, _, SqL.of hf3⟩, _, rfl, _, rfl, szl (by simp), fun t3 ht3 => ?_⟩
    have c9 : Ch [l] (upd (upd H' e0 (.lst [])) l (.lst us)) (upd (upd (upd H' e0 (.lst [])) l (.lst us)) t3 (.tup [.int dl, u1])) := Ch.new ht3 _
    have hf4 : (upd (upd (upd H' e0 (.lst [])) l (.lst us)) t3 (.tup [.int dl, u1])) fd = some (.lst ys) := by rw [upd_ne (ne_of_none hf3 ht3)]; exact hf3
    refine ⟨fd, _, _, rfl, rfl, hf4, sz (by omega), ?_⟩
    have c10 : Ch [fd] (upd (upd (upd H' e0 (.lst [])) l (.lst us)) t3 (.tup [.int dl, u1])) (upd (upd (upd (upd H' e0 (.lst [])) l (.lst us)) t3 (.tup [.int dl, u1])) fd (.lst (ys ++ [.ref t3]))) := Ch.put hf4 (fun z => z) (by simp) _
    have g3 := (g2.add ht3 (.tup [.int dl, u1])).young hfd0 hf4 (.lst (ys ++ [.ref t3]))
    have hl5 : (upd (upd (upd (upd H' e0 (.lst [])) l (.lst us)) t3 (.tup [.int dl, u1])) fd (.lst (ys ++ [.ref t3]))) l = some (.lst us) := by
      rw [upd_ne nlf, upd_ne (ne_of_none (upd_same (H := upd H' e0 (.lst []))) ht3), upd_same]
    refine ⟨_, rfl, .inl ⟨rfl, _, SqL.of hl5⟩, _, rfl, _, rfl, u1, sm, dl, rfl, c10.dS (c9.dS (c8.dS (c7.dS e1))), by omega, fun H6 r6 zs6 c11 _ h6 hd6 => ?_⟩
    have hl6 := c11.out _ _ hl5 (by simp)
    have lus : us.length = M'.length := by rw [dpa_len hus, List.length_map]
    have lM := wL_len M'
    have lzs : zs6.length = (kids sm).length := by rw [dpa_len hd6, List.length_map, List.length_reverse, List.length_map]
    have lk := len_wB (kids sm)
    refine ⟨l, r6, us, zs6, rfl, rfl, hl6, h6, szl (by omega), ?_⟩
    have c12 : Ch [l] H6 (upd H6 l (.lst (us ++ zs6))) := Ch.put hl6 (fun z => z) (by simp) _
    refine ⟨M' ++ ((kids sm).map fun x => (dl + 1, x)).reverse, ys ++ [.ref t3], _, _, _, rfl, (g3.trans c11).young hl0 hl6 _, ⟨_, upd_same, ?_⟩, ?_, ?_, ?_, ?_⟩
    · rw [List.map_append]
      exact dpa_app (c12.dIs (c11.dIs (c10.dIs (c9.dIs (c8.dIs (c7.dIs hus)))))) (c12.dIs hd6)
    · rw [upd_ne nlf.symm]
      exact c11.out _ _ upd_same (by simp)
    · rw [wL_kids, List.length_append, List.length_singleton]
      have e : wS (dl, sm).2 = wS sm := rfl
      omega
    · intro x hx
      rcases List.mem_append.mp hx with hx | hx
      · exact hM x (List.mem_append_left _ hx)
      · obtain ⟨y, hy, rfl⟩ := List.mem_map.mp (List.mem_reverse.mp hx)
        exact okk y hy
    · rw [wL_kids, wL_snoc]
      have e : wS (dl, sm).2 = wS sm := rfl
      omega
end
end K28
/-! K28Z: order_error. -/
namespace K28
open PySem PySem.Spec PyProof.Rows L2
section
variable {P : Program} {w : World} {K : PySem.W.Frag} {mg : Str → Option Value} {base : Heap} {aC aK C : Addr}
abbrev s_order_error : Stmt := tp 28
theorem sc_order_error : FnScope ["value", "left", "place", "item", "depth"] ["value"] (defScope s_order_error) := ⟨rfl, rfl, rfl, by decide +kernel, rfl, by decide +kernel, by decide +kernel⟩
theorem v_order_error (D : Dh K mg "order_error" s_order_error ["value"]) (T : Txt K mg aC aK) (c_items_within : Df P w K mg base 2 "items_within" (spItm K)) (d : Nat) (c_is_statement : Df P w K mg base 10 "is_statement" (spIsS K d)) : Df P w K mg base 11 "order_error" (spOrd K d) := by
  refine D.ok sc_order_error (fun vs H Q E h => ?_) (fun f cdv Ar outer s H vs Q E hr h => ?_)
  · obtain ⟨v, p, rfl, _⟩ := h
    rfl
  obtain ⟨v, p, rfl, hd, ok, hw, h20, q, q2⟩ := h
  refine ⟨_, (pss_cons (ps_par (i := 1) (j := 2) rfl sc_order_error.nd rfl rfl (by decide) rfl rfl (pa_cons (pe_revL (pe_lc (own := [("item", 3)]) (g := gName 3) (tt := tYes) rfl sc_order_error.nd (pi_tup (pv 0)) (blkOk_by (own := [("item", 3)]) (N := ["value", "left", "place", "item", "depth"]) (sc := defScope s_order_error) (by decide +kernel)) (fun _ _ _ _ _ => pg_name (i := 3) sc_order_error.nd rfl (Or.inl rfl)) (fun _ _ _ _ _ => pts_nil) (fun _ _ _ _ _ => (pe_tup (pa_cons pe_int (pa_cons (pv 3) pa_nil)))))) (pa_cons pe_int pa_nil)) (by rfl))
      (pss_cons (ps_while PassesOwn.never (pt_cmpR (op_neD hr.units) (pv 1) (pe_lst pa_nil) (nomark _)) (pss_cons (ps_asg (pe_bm0 PySem.F.plainAttrs_list PySem.F.slot_list_pop PySem.F.type_list_pop mt_pop (pv 1)) (pg_tup (by rfl) (pgs_cons (pg_name (i := 4) sc_order_error.nd rfl (Or.inl rfl)) (pgs_cons (pg_name (i := 3) sc_order_error.nd rfl (Or.inl rfl)) pgs_nil))))
      (pss_cons (ps_if (pt_cmpR op_gt (pv 4) (pgc rfl T.g_MAX_NEST) (nomark _)) (pss_one (ps_ret (pe_tup (pa_cons (pv 2) (pa_cons pe_str pa_nil))))) pss_nil)
      (pss_cons (ps_if (pt_not (pt_val (pdf c_is_statement hr (by first | decide | omega) rfl (pa_cons (pv 3) pa_nil)))) (pss_one (ps_ret (pe_tup (pa_cons (pv 2) (pa_cons pe_str pa_nil))))) pss_nil)
      (pss_cons (ps_expr (pe_bm PySem.F.plainAttrs_list PySem.F.slot_list_extend PySem.F.type_list_extend mt_extend (pv 1) (pa_cons (pdf c_items_within hr (by first | decide | omega) rfl (pa_cons (pv 3) (pa_cons (pv 4) pa_nil))) pa_nil)))
      (pss_one (ps_aug (i := 2) sc_order_error.nd rfl (Or.inl rfl) pe_int ip_add)))))))
      (pss_one (ps_ret pe_non)))), ?_⟩
  obtain ⟨a, xs, rfl, hs, hxs⟩ := dp_tup hd
  have lx : xs.length = p.length := by rw [dpa_len hxs, eB_len]
  have lp := len_wB p
  refine ⟨_, rfl, a, rfl, ⟨_, hs⟩, fun L hL => ?_⟩
  refine lc_tup (K := K) (a := a) (xs := xs) (fun j H2 => Ch [] H H2 ∧ ∃ zs, H2 L = some (.lst zs) ∧ DpAll K H2 zs (((p.take j).map fun x => ((0 : Int), x)).map eI)) ⟨Ch.new hL _, [], upd_same, .nil⟩ (fun j H2 _ h => h.1.sqt hs) ?_ ?_
  · rintro j y H2 hj ⟨c4, zs, hzs, hdz⟩
    obtain ⟨e, he, hdy2⟩ := dpa_get hxs hj
    obtain ⟨sm, hsm, rfl⟩ := eB_get he
    refine ⟨rfl, _, rfl, szl (by simp), fun t2 ht2 => ?_⟩
    have c5 : Ch [] H2 (upd H2 t2 (.tup [.int 0, y])) := Ch.new ht2 _
    have hz2 : (upd H2 t2 (.tup [.int 0, y])) L = some (.lst zs) := by rw [upd_ne (ne_of_none hzs ht2)]; exact hzs
    have jl := (List.getElem?_eq_some_iff.mp hsm).1
    have lz : zs.length = (p.take j).length := by rw [dpa_len hdz, List.length_map, List.length_map]
    have c6 := (c4.trans c5).young hL hz2 (.lst (zs ++ [.ref t2]))
    refine ⟨_, hz2, sz (by rw [lz, List.length_take]; omega), c6, _, upd_same, ?_⟩
    have c7 : Ch [L] (upd H2 t2 (.tup [.int 0, y])) (upd (upd H2 t2 (.tup [.int 0, y])) L (.lst (zs ++ [.ref t2]))) := Ch.put hz2 (fun z => z) (by simp) _
    rw [take_more hsm, List.map_append, List.map_append]
    refine dpa_app (c7.dIs (c5.dIs hdz)) (dpa_1 (c7.dI (r := (0, sm)) ?_))
    exact dp_new ht2 (flat_I (0, sm)) (dpa_2 (.int _) (c4.dS hdy2))
  rintro H2 ⟨c4, zs, hzs, hdz⟩
  rw [lx, List.take_length] at hdz
  refine ⟨L, zs, rfl, SqL.of hzs, fun l hl => ?_⟩
  have c5 : Ch [] H2 (upd H2 l (.lst zs.reverse)) := Ch.new hl _
  refine ⟨_, _, rfl, ?_⟩
  have hl0 : H l = none := c4.free _ hl
  refine ⟨fun m sg H' => ∃ (M : List (Int × Sm)) (z : Int) (o3 o4 : Option V), sg = [some (.ref a), some (.ref l), some (.int z), o3, o4] ∧ Ch [] H H' ∧ Stk K H' l M ∧ wL M ≤ 10000 ∧ (∀ x ∈ M, SmOk Pn d x.2) ∧ m = wL M,
    ⟨_, (p.map fun x => ((0 : Int), x)).reverse, _, _, _, rfl, c4.trans c5, ⟨zs.reverse, upd_same, by rw [List.map_reverse]; exact dpa_rev (c5.dIs hdz)⟩, by rw [wL_first]; exact hw, ?_, rfl⟩, ?_⟩
  · intro x hx
    obtain ⟨y, hy, rfl⟩ := List.mem_map.mp (List.mem_reverse.mp hx)
    exact ok y hy
  rintro m sg H' ⟨M, z, o3, o4, rfl, g1, ⟨xs2, hx2, hdx2⟩, hsz, hM, rfl⟩
  refine ⟨_, rfl, Nat.zero_le _, fun e0 he0 => ?_⟩
  have c7 : Ch [] H' (upd H' e0 (.lst [])) := Ch.new he0 _
  have nr : ∀ {b : Addr} {u : HO}, H' b = some u → b ≠ e0 := fun e => ne_of_none e he0
  refine ⟨.list (M.map eI), .list [], .lst (SqL.of (by rw [upd_ne (nr hx2)]; exact hx2)) (c7.dIs hdx2), .lst (SqL.of upd_same) .nil, shaped_Is hM h20, shaped_nilL, _, rfl, ?_⟩
  rw [eqv_list]
  by_cases hem : M = []
  · rw [decide_eq_true hem]
    refine iteF ?_
    exact q _ (g1.trans c7)
  · rw [decide_eq_false hem]
    refine iteT ?_
    obtain ⟨M', ⟨dl, sm⟩, rfl⟩ := snoc_of hem
    rw [List.map_append] at hdx2
    obtain ⟨us, u, rfl, hus, hu⟩ := dpa_snoc hdx2
    obtain ⟨tp2, u0, u1, rfl, hsu, e0', e1⟩ := dp_tup2 hu
    obtain rfl := dp_int e0'
    rw [wL_snoc] at hsz
    change (wL M' + wS sm) ≤ 10000 at hsz
    have oks : SmOk Pn d sm := hM (dl, sm) (by simp)
    have kw := kids_w oks
    have okk := kids_ok oks
    refine ⟨fun sg' H'' => ∃ (N : List (Int × Sm)) (z : Int) (o3 o4 : Option V), sg' = [some (.ref a), some (.ref l), some (.int z), o3, o4] ∧ Ch [] H H'' ∧ Stk K H'' l N ∧ wL N ≤ 10000 ∧ (∀ x ∈ N, SmOk Pn d x.2) ∧ wL N < wL (M' ++ [(dl, sm)]),
      fun sg' H'' ⟨N, z, o3, o4, h1, h2, h3, h5, h6, h7⟩ => ⟨_, h7, N, z, o3, o4, h1, h2, h3, h5, h6, rfl⟩, ?_⟩
    have hx3 : (upd H' e0 (.lst [])) l = some (.lst (us ++ [.ref tp2])) := by rw [upd_ne (nr hx2)]; exact hx2
    refine ⟨_, rfl, .inl ⟨rfl, _, SqL.of hx3⟩, l, _, _, rfl, rfl, hx3, last_at, ?_⟩
    rw [List.dropLast_concat]
    have c8 : Ch [l] (upd H' e0 (.lst [])) (upd (upd H' e0 (.lst [])) l (.lst us)) := Ch.put hx3 (fun z => z) (by simp) _
    have g2 : Ch [] H (upd (upd H' e0 (.lst [])) l (.lst us)) := (g1.trans c7).young hl0 hx3 _
    refine ⟨tp2, _, rfl, c8.sqt (c7.sqt hsu), rfl, _, _, rfl, _, _, rfl, rfl, ?_⟩
    refine ⟨_, rfl, _, _, rfl, rfl, _, rfl, if2 (fun _ => ?_) (fun _ => ?_)⟩
    · exact ⟨_, rfl, szl (by simp), fun r hr => q2 _ r (g2.add hr _)⟩
    refine ⟨_, rfl, u1, sm, rfl, c8.dS (c7.dS e1), oks, h20, fun bb H5 c9 => ⟨_, rfl, ?_⟩⟩
    have g3 := g2.trans c9
    have hl5 : H5 l = some (.lst us) := c9.out _ _ upd_same (by simp)
    refine ifB (fun _ => ?_) (fun _ => ?_)
    · exact ⟨_, rfl, szl (by simp), fun r hr => q2 _ r (g3.add hr _)⟩
    refine ⟨_, rfl, .inl ⟨rfl, _, SqL.of hl5⟩, _, rfl, _, rfl, u1, sm, dl, rfl, c9.dS (c8.dS (c7.dS e1)), by omega, fun H6 r6 zs6 c11 _ h6 hd6 => ?_⟩
    have hl6 := c11.out _ _ hl5 (by simp)
    have lus : us.length = M'.length := by rw [dpa_len hus, List.length_map]
    have lM := wL_len M'
    have lzs : zs6.length = (kids sm).length := by rw [dpa_len hd6, List.length_map, List.length_reverse, List.length_map]
    have lk := len_wB (kids sm)
    refine ⟨l, r6, us, zs6, rfl, rfl, hl6, h6, szl (by omega), ?_⟩
    have c12 : Ch [l] H6 (upd H6 l (.lst (us ++ zs6))) := Ch.put hl6 (fun z => z) (by simp) _
    refine ⟨_, rfl, _, _, rfl, rfl, ?_⟩
    refine ⟨M' ++ ((kids sm).map fun x => (dl + 1, x)).reverse, _, _, _, rfl, (g3.trans c11).young hl0 hl6 _, ⟨_, upd_same, ?_⟩, ?_, ?_, ?_⟩
    · rw [List.map_append]
      exact dpa_app (c12.dIs (c11.dIs (c9.dIs (c8.dIs (c7.dIs hus))))) (c12.dIs hd6)
    · rw [wL_kids]
      omega
    · intro x hx
      rcases List.mem_append.mp hx with hx | hx
      · exact hM x (List.mem_append_left _ hx)
      · obtain ⟨y, hy, rfl⟩ := List.mem_map.mp (List.mem_reverse.mp hx)
        exact okk y hy
    · rw [wL_kids, wL_snoc]
      have e : wS (dl, sm).2 = wS sm := rfl
      omega
end
end K28
/-! K28AA: bare, own_count, counted, weight, program_error. -/
namespace K28
open PySem PySem.Spec PyProof.Rows L2
def nots : Ts → Nat
  | .no t => nots t + 1
  | _ => 0
def spBare (K : PySem.W.Frag) : Sp := fun vs H Q _ => ∃ (v : V) (t : Ts), vs = [v] ∧ Dp K H v (eT t) ∧ ∀ u s, Dp K H u (eT s) → Q u H
def spOwn (K : PySem.W.Frag) : Sp := fun vs H Q _ => ∃ (v : V) (s : Sm) (x : Str), vs = [v, .str x] ∧ Dp K H v (eS s) ∧ ∀ i, Q (.int i) H
def spCnt (K : PySem.W.Frag) (d : Nat) : Sp := fun vs H Q _ => ∃ (v : V) (b : List Sm) (x : Str), vs = [v, .str x] ∧ Dp K H v (.tuple (eB b)) ∧ BlOk Pn d b ∧ ∀ H' i, Ch [] H H' → Q (.int i) H'
def spCntB (K : PySem.W.Frag) : Nat → Sp
  | 0 => fun _ _ _ _ => False
  | d + 1 => spCnt K d
def spWgt (K : PySem.W.Frag) (d : Nat) : Sp := fun vs H Q _ => ∃ (v : V) (b : List Sm), vs = [v] ∧ Dp K H v (.tuple (eB b)) ∧ BlOk Pn d b ∧ ∀ H' i, Ch [] H H' → Q (.int i) H'
def spErr (K : PySem.W.Frag) (d : Nat) : Sp := fun vs H Q _ => ∃ (v : V) (p : List Sm), vs = [v] ∧ Dp K H v (.tuple (eB p)) ∧ BlOk Pn d p ∧ wB p ≤ 10000 ∧ d ≤ 20 ∧ (∀ H', Ch [] H H' → Q .non H') ∧ ∀ H' r, Ch [] H H' → Q (.ref r) H'
section
variable {P : Program} {w : World} {K : PySem.W.Frag} {mg : Str → Option Value} {base : Heap} {aC aK C : Addr}
abbrev s_bare : Stmt := tp 29
theorem sc_bare : FnScope ["test"] ["test"] (defScope s_bare) := ⟨rfl, rfl, rfl, by decide +kernel, rfl, by decide +kernel, by decide +kernel⟩
theorem v_bare (D : Dh K mg "bare" s_bare ["test"]) : Df P w K mg base 1 "bare" (spBare K) := by
  refine D.ok sc_bare (fun vs H Q E h => ?_) (fun f cdv Ar outer s H vs Q E hr h => ?_)
  · obtain ⟨v, t, rfl, _⟩ := h
    rfl
  obtain ⟨v, t, rfl, hd, q⟩ := h
  refine ⟨_, (pss_cons (ps_while PassesOwn.never (pt_cmpR op_eq (pe_ix ix_tup (pv 0) pe_int (fun _ _ => rfl)) pe_str (nomark _)) (pss_one (ps_set (i := 0) sc_bare.nd rfl (Or.inl rfl) (pe_ix ix_tup (pv 0) pe_int (fun _ _ => rfl)))))
      (pss_one (ps_ret (pv 0)))), ?_⟩
  refine ⟨fun m sg H' => ∃ u s, sg = [some u] ∧ H' = H ∧ Dp K H u (eT s) ∧ m = nots s, ⟨_, v, t, rfl, rfl, hd, rfl⟩, ?_⟩
  rintro m sg H' ⟨u, t, rfl, rfl, hu, rfl⟩
  cases t with
  | less a b =>
    obtain ⟨p, x0, y, z, rfl, hs, e1, e2, e3⟩ := dp_tup3 hu
    obtain rfl := dp_str e1
    refine ⟨_, rfl, p, _, _, _, rfl, rfl, hs, at0, rfl, _, rfl, ifF (by decide +kernel) ?_⟩
    exact ⟨_, rfl, q _ _ hu⟩
  | rest a m r =>
    obtain ⟨p, x0, y, z, u, rfl, hs, e1, e2, e3, e4⟩ := dp_tup4 hu
    obtain rfl := dp_str e1
    refine ⟨_, rfl, p, _, _, _, rfl, rfl, hs, at0, rfl, _, rfl, ifF (by decide +kernel) ?_⟩
    exact ⟨_, rfl, q _ _ hu⟩
  | no t =>
    obtain ⟨p, x0, y, rfl, hs, e1, e2⟩ := dp_tup2 hu
    obtain rfl := dp_str e1
    refine ⟨_, rfl, p, _, _, _, rfl, rfl, hs, at0, rfl, _, rfl, ifT rfl ?_⟩
    refine ⟨fun sg' H'' => sg' = [some y] ∧ H'' = H', fun sg' H'' ⟨h1, h2⟩ => ⟨nots t, Nat.lt_succ_self _, y, t, h1, h2, e2, rfl⟩, ?_⟩
    exact ⟨_, rfl, p, _, _, _, rfl, rfl, hs, at1, rfl, rfl⟩
abbrev s_own_count : Stmt := tp 30
theorem sc_own_count : FnScope ["statement", "sort"] ["statement", "sort"] (defScope s_own_count) := ⟨rfl, rfl, rfl, by decide +kernel, rfl, by decide +kernel, by decide +kernel⟩
theorem v_own_count (D : Dh K mg "own_count" s_own_count ["statement", "sort"]) (T : Txt K mg aC aK) (c_bare : Df P w K mg base 1 "bare" (spBare K)) : Df P w K mg base 2 "own_count" (spOwn K) := by
  refine D.ok sc_own_count (fun vs H Q E h => ?_) (fun f cdv Ar outer s H vs Q E hr h => ?_)
  · obtain ⟨v, t, x, rfl, _⟩ := h
    rfl
  obtain ⟨v, st, x, rfl, hd, q⟩ := h
  refine ⟨_, (pss_cons (ps_if (pt_cmpR op_eq (pv 1) pe_str (nomark _)) (pss_one (ps_ret pe_int)) pss_nil)
      (pss_cons (ps_if (pt_cmpR op_eq (pv 1) pe_str (nomark _)) (pss_one (ps_ret (pe_callTy call_int1 (by rfl) T.z_int (by decide +kernel) (pa_cons (pe_cmpR op_in_seq (pe_ix ix_tup (pv 0) pe_int (fun _ _ => rfl)) (pgc rfl T.g_CHOICES) rfl) pa_nil)))) pss_nil)
      (pss_one (ps_ret (pe_callTy call_int1 (by rfl) T.z_int (by decide +kernel) (pa_cons (pe_and (pe_cmpR op_eq (pe_ix ix_tup (pv 0) pe_int (fun _ _ => rfl)) pe_str (nomark _)) (pe_one (pe_cmpR op_eq (pe_ix ix_tup (pdf c_bare hr (by first | decide | omega) rfl (pa_cons (pe_ix ix_tup (pv 0) pe_int (fun _ _ => rfl)) pa_nil)) pe_int (fun _ _ => rfl)) (pv 1) (nomark _)))) pa_nil)))))), ?_⟩
  refine ⟨_, rfl, rfl, _, rfl, if2 (fun _ => q _) (fun _ => ?_)⟩
  -- the first item of the statement
  obtain ⟨p, z, r, ev, hs, hif⟩ : ∃ p z r, v = .ref p ∧ SqT K H p (.str z :: r) ∧ (z = "if" → ∃ t y n, st = .ite t y n) := by
    cases st with
    | set x e => obtain ⟨p, x0, y, z, e, hs, e1, _⟩ := dp_tup3 hd; obtain rfl := dp_str e1; exact ⟨p, _, _, e, hs, fun z => absurd z (by decide +kernel)⟩
    | pay e => obtain ⟨p, x0, y, e, hs, e1, _⟩ := dp_tup2 hd; obtain rfl := dp_str e1; exact ⟨p, _, _, e, hs, fun z => absurd z (by decide +kernel)⟩
    | stop => obtain ⟨p, x0, e, hs, e1⟩ := dp_tup1 hd; obtain rfl := dp_str e1; exact ⟨p, _, _, e, hs, fun z => absurd z (by decide +kernel)⟩
    | ite t y n => obtain ⟨p, x0, _, _, _, e, hs, e1, _⟩ := dp_tup4 hd; obtain rfl := dp_str e1; exact ⟨p, _, _, e, hs, fun _ => ⟨t, y, n, rfl⟩⟩
    | ch g y n => obtain ⟨p, x0, _, _, e, hs, e1, _⟩ := dp_tup3 hd; obtain rfl := dp_str e1; exact ⟨p, _, _, e, hs, fun z => absurd z (by cases g <;> decide +kernel)⟩
    | rep k b => obtain ⟨p, x0, _, _, e, hs, e1, _⟩ := dp_tup3 hd; obtain rfl := dp_str e1; exact ⟨p, _, _, e, hs, fun z => absurd z (by decide +kernel)⟩
  subst ev
  refine ⟨_, rfl, rfl, _, rfl, if2 (fun _ => ?_) (fun _ => ?_)⟩
  · refine ⟨_, rfl, p, _, _, _, rfl, rfl, hs, at0, aC, _, rfl, .inr (T.t_CHOICES _), rfl, rfl, ?_⟩
    exact .inr ⟨_, rfl, q _⟩
  · refine ⟨_, rfl, p, _, _, _, rfl, rfl, hs, at0, rfl, _, rfl, if2 (fun e => ?_) (fun _ => ?_)⟩
    · obtain ⟨t, y, n, rfl⟩ := hif (V.str.inj e)
      obtain ⟨p2, x0, x1, x2, x3, ep, hs2, e0, e1, e2, e3⟩ := dp_tup4 hd
      cases ep
      refine ⟨_, rfl, p, _, _, _, rfl, rfl, hs2, at1, _, t, rfl, e1, fun u s hu => ?_⟩
      -- the bare test's first item
      obtain ⟨p3, z3, r3, rfl, hs3⟩ : ∃ p z r, u = .ref p ∧ SqT K H p (.str z :: r) := by
        cases s with
        | less a b => obtain ⟨p, x0, y, z, e, hs, e1, _⟩ := dp_tup3 hu; obtain rfl := dp_str e1; exact ⟨p, _, _, e, hs⟩
        | rest a m r => obtain ⟨p, x0, y, z, _, e, hs, e1, _⟩ := dp_tup4 hu; obtain rfl := dp_str e1; exact ⟨p, _, _, e, hs⟩
        | no t => obtain ⟨p, x0, y, e, hs, e1, _⟩ := dp_tup2 hu; obtain rfl := dp_str e1; exact ⟨p, _, _, e, hs⟩
      refine ⟨p3, _, _, _, rfl, rfl, hs3, at0, _, rfl, rfl, ?_⟩
      exact .inr ⟨_, rfl, q _⟩
    · exact .inr ⟨_, rfl, q _⟩
abbrev s_counted : Stmt := tp 31
theorem sc_counted : FnScope ["block", "sort", "found", "statement", "inner", "part"] ["block", "sort"] (defScope s_counted) := ⟨rfl, rfl, rfl, by decide +kernel, rfl, by decide +kernel, by decide +kernel⟩
theorem cnt_step (D : Dh K mg "counted" s_counted ["block", "sort"]) (T : Txt K mg aC aK) (c_blocks_of : Df P w K mg base 1 "blocks_of" (spBks K)) (c_own_count : Df P w K mg base 2 "own_count" (spOwn K)) (d : Nat) (c_counted : Df P w K mg base (d + 2) "counted" (spCntB K d)) : Df P w K mg base (d + 3) "counted" (spCnt K d) := by
  refine D.ok sc_counted (fun vs H Q E h => ?_) (fun f cdv Ar outer s H vs Q E hr h => ?_)
  · obtain ⟨v, t, x, rfl, _⟩ := h
    rfl
  obtain ⟨v, b, x, rfl, hd, ok, q⟩ := h
  refine ⟨_, (pss_cons (ps_set (i := 2) sc_counted.nd rfl (Or.inl rfl) pe_int)
      (pss_cons (ps_for PassesOwn.never rfl (pi_tup (pv 0)) (pg_name (i := 3) sc_counted.nd rfl (Or.inl rfl)) (pss_cons (ps_set (i := 4) sc_counted.nd rfl (Or.inl rfl) (pe_callB (cr_sum rfl) (by rfl) T.z_sum (by decide +kernel) (pa_cons (pe_lc (own := [("part", 5)]) (g := gName 5) (tt := tYes) rfl sc_counted.nd (pi_list (pdf c_blocks_of hr (by first | decide | omega) rfl (pa_cons (pv 3) pa_nil))) (blkOk_by (own := [("part", 5)]) (N := ["block", "sort", "found", "statement", "inner", "part"]) (sc := defScope s_counted) (by decide +kernel)) (fun _ _ _ _ _ => pg_name (i := 5) sc_counted.nd rfl (Or.inl rfl)) (fun _ _ _ _ _ => pts_nil) (fun _ _ _ _ _ => (pdf c_counted hr (by first | decide | omega) rfl (pa_cons (pv 5) (pa_cons (pv 1) pa_nil))))) pa_nil)))
      (pss_one (ps_aug (i := 2) sc_counted.nd rfl (Or.inl rfl) (pe_op op_add (pdf c_own_count hr (by first | decide | omega) rfl (pa_cons (pv 3) (pa_cons (pv 1) pa_nil))) (pe_op op_mul (pv 4) (pe_ifExp (pt_cmpR op_eq (pe_ix ix_tup (pv 3) pe_int (fun _ _ => rfl)) pe_str (nomark _)) (pe_ix ix_tup (pv 3) pe_int (fun _ _ => rfl)) pe_int))) ip_add))))
      (pss_one (ps_ret (pv 2))))), ?_⟩
  obtain ⟨a, xs, rfl, hs, hxs⟩ := dp_tup hd
  refine ⟨_, rfl, a, rfl, ⟨_, hs⟩, for_tup (K := K) (a := a) (xs := xs) (fun i sg H' => Ch [] H H' ∧ ∃ (z : Int) (o1 o2 o3 : Option V), sg = [some (.ref a), some (.str x), some (.int z), o1, o2, o3])
    ⟨Ch.refl _ _, _, _, _, _, rfl⟩ (fun i sg H' _ h => h.1.sqt hs) ?_ ?_⟩
  · rintro i y sg H' hi ⟨c1, z, o1, o2, o3, rfl⟩
    obtain ⟨e, he, hdy⟩ := dpa_get hxs hi
    obtain ⟨sm, hsm, rfl⟩ := eB_get he
    have oks := ok sm (List.mem_of_getElem? hsm)
    refine ⟨_, rfl, y, sm, rfl, c1.dS hdy, fun H2 p2 bs c2 np2 hp2 hbs => ?_⟩
    refine ⟨p2, rfl, ⟨_, SqL.of hp2⟩, fun L hL => ?_⟩
    refine lc_list (K := K) (a := p2) (xs := bs) (fun j H3 => Ch [] H2 H3 ∧ ∃ ns : List Int, H3 L = some (.lst (ns.map V.int)) ∧ ns.length ≤ j) ⟨Ch.new hL _, [], upd_same, Nat.le_refl _⟩ (fun j H3 _ h => h.1.sql (SqL.of hp2) (by simp)) ?_ ?_
    · rintro j u H3 hj ⟨c3, ns, hns, hl⟩
      obtain ⟨e, he, hdu⟩ := dpa_get hbs hj
      rw [List.getElem?_map] at he
      cases hb : (blks sm)[j]? with
      | none => rw [hb] at he; cases he
      | some bb =>
        rw [hb] at he
        cases he
        obtain ⟨d', rfl, okb⟩ := blks_ok oks bb (List.mem_of_getElem? hb)
        refine ⟨rfl, _, rfl, _, rfl, u, bb, x, rfl, c3.dB hdu, okb, fun H4 iz c4 => ?_⟩
        have h4 := c4.out _ _ hns (by simp)
        have jl := (List.getElem?_eq_some_iff.mp hb).1
        have lb : (blks sm).length ≤ 2 := by cases sm <;> simp [blks]
        refine ⟨_, h4, sz (by rw [List.length_map]; omega), (c3.trans c4).young hL h4 _, ns ++ [iz], ?_, by rw [List.length_append, List.length_singleton]; omega⟩
        rw [upd_same, List.map_append]; rfl
    · rintro H3 ⟨c3, ns, hns, hl⟩
      refine ⟨L, ns, rfl, SqL.of hns, ?_⟩
      have c4 := (c1.trans c2).trans c3
      refine ⟨_, rfl, _, rfl, _, rfl, y, sm, x, rfl, c4.dS hdy, fun i0 => ?_⟩
      refine ⟨_, rfl, ?_⟩
      -- inner * (statement[1] if statement[0] == 'repeat' else 1)
      obtain ⟨p, z0, r, ev, hs0, hif⟩ : ∃ p z r, y = .ref p ∧ SqT K H3 p (.str z :: r) ∧ (z = "repeat" → ∃ k r', r = .int (k : Nat) :: r' ∧ k ≤ 8) := by
        have hdy := c4.dS hdy
        cases sm with
        | set x e => obtain ⟨p, x0, y, z, e, hs, e1, _⟩ := dp_tup3 hdy; obtain rfl := dp_str e1; exact ⟨p, _, _, e, hs, fun z => absurd z (by decide +kernel)⟩
        | pay e => obtain ⟨p, x0, y, e, hs, e1, _⟩ := dp_tup2 hdy; obtain rfl := dp_str e1; exact ⟨p, _, _, e, hs, fun z => absurd z (by decide +kernel)⟩
        | stop => obtain ⟨p, x0, e, hs, e1⟩ := dp_tup1 hdy; obtain rfl := dp_str e1; exact ⟨p, _, _, e, hs, fun z => absurd z (by decide +kernel)⟩
        | ite t y n => obtain ⟨p, x0, _, _, _, e, hs, e1, _⟩ := dp_tup4 hdy; obtain rfl := dp_str e1; exact ⟨p, _, _, e, hs, fun z => absurd z (by decide +kernel)⟩
        | ch g y n => obtain ⟨p, x0, _, _, e, hs, e1, _⟩ := dp_tup3 hdy; obtain rfl := dp_str e1; exact ⟨p, _, _, e, hs, fun z => absurd z (by cases g <;> decide +kernel)⟩
        | rep k b =>
          cases d with
          | zero => exact oks.elim
          | succ d =>
            obtain ⟨p, x0, x1, _, e, hs, e1, e2, _⟩ := dp_tup3 hdy
            obtain rfl := dp_str e1
            obtain rfl := dp_int e2
            exact ⟨p, _, _, e, hs, fun _ => ⟨k, _, rfl, oks.1.2⟩⟩
      subst ev
      refine ⟨_, rfl, p, _, _, _, rfl, rfl, hs0, at0, rfl, _, rfl, if2 (fun e => ?_) (fun _ => ?_)⟩
      · obtain ⟨k, r', rfl, hk⟩ := hif (V.str.inj e)
        refine ⟨_, rfl, p, _, _, _, rfl, rfl, hs0, at1, _, _, rfl, rfl, .inr ⟨by omega, by omega⟩, _, _, rfl, rfl, _, _, rfl, rfl, ?_⟩
        exact ⟨c4, _, _, _, _, rfl⟩
      · refine ⟨_, _, rfl, rfl, .inr ⟨by omega, by omega⟩, _, _, rfl, rfl, _, _, rfl, rfl, ?_⟩
        exact ⟨c4, _, _, _, _, rfl⟩
  · rintro sg H' ⟨c1, z, o1, o2, o3, rfl⟩
    exact ⟨_, rfl, q _ _ c1⟩
theorem v_counted {P : Program} {w : World} {K : PySem.W.Frag} {mg : Str → Option Value} {base : Heap} {aC aK : Addr} (D : Dh K mg "counted" s_counted ["block", "sort"]) (T : Txt K mg aC aK) (c_blocks_of : Df P w K mg base 1 "blocks_of" (spBks K)) (c_own_count : Df P w K mg base 2 "own_count" (spOwn K)) : ∀ d, Df P w K mg base (d + 3) "counted" (spCnt K d)
  | 0 => cnt_step D T c_blocks_of c_own_count 0 (D.none fun _ _ _ _ h => h)
  | d + 1 => cnt_step D T c_blocks_of c_own_count (d + 1) (v_counted D T c_blocks_of c_own_count d)
abbrev s_weight : Stmt := tp 32
theorem sc_weight : FnScope ["program"] ["program"] (defScope s_weight) := ⟨rfl, rfl, rfl, by decide +kernel, rfl, by decide +kernel, by decide +kernel⟩
theorem v_weight (D : Dh K mg "weight" s_weight ["program"]) (d : Nat) (c_counted : Df P w K mg base (d + 3) "counted" (spCnt K d)) : Df P w K mg base (d + 4) "weight" (spWgt K d) := by
  refine D.ok sc_weight (fun vs H Q E h => ?_) (fun f cdv Ar outer s H vs Q E hr h => ?_)
  · obtain ⟨v, b, rfl, _⟩ := h
    rfl
  obtain ⟨v, b, rfl, hd, ok, q⟩ := h
  refine ⟨_, (pss_one (ps_ret (pdf c_counted hr (by first | decide | omega) rfl (pa_cons (pv 0) (pa_cons pe_str pa_nil))))), ?_⟩
  exact ⟨_, rfl, v, b, _, rfl, hd, ok, q⟩
abbrev s_program_error : Stmt := tp 33
theorem sc_program_error : FnScope ["value", "found"] ["value"] (defScope s_program_error) := ⟨rfl, rfl, rfl, by decide +kernel, rfl, by decide +kernel, by decide +kernel⟩
theorem v_program_error (D : Dh K mg "program_error" s_program_error ["value"]) (T : Txt K mg aC aK) (c_order_error : Df P w K mg base 11 "order_error" (spOrd K 4)) (c_rows_of : Df P w K mg base 3 "rows_of" (spRws K 4)) (c_weight : Df P w K mg base 8 "weight" (spWgt K 4)) (c_counted : Df P w K mg base 7 "counted" (spCnt K 4)) : Df P w K mg base 12 "program_error" (spErr K 4) := by
  refine D.ok sc_program_error (fun vs H Q E h => ?_) (fun f cdv Ar outer s H vs Q E hr h => ?_)
  · obtain ⟨v, b, rfl, _⟩ := h
    rfl
  obtain ⟨v, p, rfl, hd, ok, hw, h20, q, q2⟩ := h
  refine ⟨_, (pss_cons (ps_if (pt_not (pt_val (pe_callB call_isi (by rfl) T.z_isinstance (by decide +kernel) (pa_cons (pv 0) (pa_cons (pe_bltn (v := .ty "tuple") (u := .type "tuple") (by rfl) T.z_tuple (by decide +kernel) rfl) pa_nil))))) (pss_one (ps_ret (pe_tup (pa_cons pe_non (pa_cons pe_str pa_nil))))) pss_nil)
      (pss_cons (ps_set (i := 1) sc_program_error.nd rfl (Or.inl rfl) (pdf c_order_error hr (by first | decide | omega) rfl (pa_cons (pv 0) pa_nil)))
      (pss_cons (ps_if (pt_cmpR op_notN (pv 1) pe_non (nomark _)) (pss_one (ps_ret (pv 1))) pss_nil)
      (pss_cons (ps_if (pt_cmpR op_gt (pe_callB call_len_seq (by rfl) T.z_len (by decide +kernel) (pa_cons (pdf c_rows_of hr (by first | decide | omega) rfl (pa_cons (pv 0) pa_nil)) pa_nil)) (pgc rfl T.g_MAX_PLACES) (nomark _)) (pss_one (ps_ret (pe_tup (pa_cons pe_non (pa_cons pe_str pa_nil))))) pss_nil)
      (pss_cons (ps_if (pt_cmpR op_gt (pdf c_weight hr (by first | decide | omega) rfl (pa_cons (pv 0) pa_nil)) (pgc rfl T.g_MAX_WEIGHT) (nomark _)) (pss_one (ps_ret (pe_tup (pa_cons pe_non (pa_cons pe_str pa_nil))))) pss_nil)
      (pss_cons (ps_if (pt_cmpR op_gt (pdf c_counted hr (by first | decide | omega) rfl (pa_cons (pv 0) (pa_cons pe_str pa_nil))) (pgc rfl T.g_MAX_CHOICES) (nomark _)) (pss_one (ps_ret (pe_tup (pa_cons pe_non (pa_cons pe_str pa_nil))))) pss_nil)
      (pss_cons (ps_if (pt_cmpR op_gt (pdf c_counted hr (by first | decide | omega) rfl (pa_cons (pv 0) (pa_cons pe_str pa_nil))) (pgc rfl T.g_MAX_RESTS) (nomark _)) (pss_one (ps_ret (pe_tup (pa_cons pe_non (pa_cons pe_str pa_nil))))) pss_nil)
      (pss_one (ps_ret (pe_ifExp (pt_cmpR op_gt (pdf c_counted hr (by first | decide | omega) rfl (pa_cons (pv 0) (pa_cons pe_str pa_nil))) (pgc rfl T.g_MAX_COMPARINGS) (nomark _)) (pe_tup (pa_cons pe_non (pa_cons pe_str pa_nil))) pe_non)))))))))), ?_⟩
  obtain ⟨a, xs, rfl, hs, hxs⟩ := dp_tup hd
  refine ⟨_, rfl, _, _, _, _, _, rfl, .ty _, tyT hs, kit_ty kb_tt, _, rfl, iteF ?_⟩
  refine ⟨_, rfl, _, p, rfl, hd, ok, hw, h20, fun H1 c1 => ?_, fun H1 r c1 => ?_⟩
  · refine ⟨_, rfl, rfl, _, rfl, iteF ?_⟩
    refine ⟨_, rfl, _, p, rfl, c1.dB hd, ok, hw, h20, fun H2 r2 ys c2 h2 hl2 => ?_⟩
    have g2 := c1.trans c2
    have ret : ∀ {H' : Hp} {x y : V}, Ch [] H H' → [x, y].length ≤ sizeLine ∧ ∀ p, H' p = none → Q (.ref p) (upd H' p (.tup [x, y])) := fun g => ⟨szl (by simp), fun r hr => q2 _ r (g.add hr _)⟩
    refine ⟨r2, _, rfl, .inl (SqL.of h2), _, _, rfl, rfl, _, rfl, if2 (fun _ => ret g2) (fun _ => ?_)⟩
    refine ⟨_, rfl, _, p, rfl, g2.dB hd, ok, fun H3 i3 c3 => ?_⟩
    have g3 := g2.trans c3
    refine ⟨_, _, rfl, rfl, _, rfl, if2 (fun _ => ret g3) (fun _ => ?_)⟩
    refine ⟨_, rfl, _, p, _, rfl, g3.dB hd, ok, fun H4 i4 c4 => ?_⟩
    have g4 := g3.trans c4
    refine ⟨_, _, rfl, rfl, _, rfl, if2 (fun _ => ret g4) (fun _ => ?_)⟩
    refine ⟨_, rfl, _, p, _, rfl, g4.dB hd, ok, fun H5 i5 c5 => ?_⟩
    have g5 := g4.trans c5
    refine ⟨_, _, rfl, rfl, _, rfl, if2 (fun _ => ret g5) (fun _ => ?_)⟩
    refine ⟨_, rfl, _, p, _, rfl, g5.dB hd, ok, fun H6 i6 c6 => ?_⟩
    have g6 := g5.trans c6
    exact ⟨_, _, rfl, rfl, _, rfl, if2 (fun _ => ret g6) (fun _ => q _ g6)⟩
  · refine ⟨_, rfl, rfl, _, rfl, iteT ?_⟩
    exact ⟨_, rfl, q2 _ r c1⟩
end
end K28
/-! K28BA: the law's deck and its draws. -/
namespace K28
open PySem PySem.Spec PyProof.Rows L2
structure Deck (B : Nat) (H : Hp) (d c : Addr) : Prop where
  ex : ∃ (n : Nat) (cs : List Int), n ≤ B ∧ H d = some (.lst [.ref c, .int (n : Int)]) ∧ H c = some (.lst (cs.map V.int)) ∧ cs.length ≤ 63 ∧ ∀ z ∈ cs, 0 ≤ z
theorem Deck.dc {B : Nat} {H : Hp} {d c : Addr} (D : Deck B H d c) : d ≠ c := by
  obtain ⟨n, cs, _, h1, h2, _⟩ := D.ex
  refine ne_of h1 h2 fun e => ?_
  have e' := HO.lst.inj e
  cases cs with
  | nil => cases e'
  | cons a r =>
    rw [List.map_cons] at e'
    cases (List.cons.inj e').1
theorem Deck.keep {B : Nat} {H H' : Hp} {d c : Addr} {M : List Addr} (D : Deck B H d c) (g : Ch M H H') (h1 : d ∉ M) (h2 : c ∉ M) : Deck B H' d c := by
  obtain ⟨n, cs, hn, e1, e2, r⟩ := D.ex
  exact ⟨n, cs, hn, g.out _ _ e1 h1, g.out _ _ e2 h2, r⟩
theorem Deck.new {B : Nat} {H H' : Hp} {d c : Addr} (D : Deck B H d c) (g : Ch [] H H') : Deck B H' d c := D.keep g (by simp) (by simp)
theorem Deck.mono {B B' : Nat} {H : Hp} {d c : Addr} (D : Deck B H d c) (h : B ≤ B') : Deck B' H d c := by
  obtain ⟨n, cs, hn, r⟩ := D.ex
  exact ⟨n, cs, Nat.le_trans hn h, r⟩
theorem Deck.no {B : Nat} {H : Hp} {d c p : Addr} (D : Deck B H d c) (h : H p = none) : p ∉ [d, c] := by
  obtain ⟨n, cs, hn, e1, e2, r⟩ := D.ex
  intro z
  simp only [List.mem_cons, List.not_mem_nil, or_false] at z
  rcases z with z | z
  · rw [z, e1] at h; cases h
  · rw [z, e2] at h; cases h
theorem ixn_nat {n j : Nat} (hj : j < n) : ixN n (j : Int) = some j := by
  unfold ixN
  rw [if_pos (by omega), if_pos (by omega)]
  simp
def spDrw : Sp := fun vs H Q _ => ∃ (d c : Addr) (B : Nat) (many : Int), vs = [.ref d, .int many] ∧ 1 ≤ many ∧ many ≤ 1000000000 ∧ Deck B H d c ∧ B < 1099511627776 ∧
  ∀ H' r, Ch [d, c] H H' → Deck (B + 1) H' d c → 0 ≤ r → r < many → Q (.int r) H'
def spOne (K : PySem.W.Frag) : Sp := fun vs H Q _ => (∃ (d c l : Addr) (B : Nat) (xs : List V), vs = [.ref d, .ref l] ∧ Deck B H d c ∧ B < 1099511627776 ∧ SqL K H l xs ∧ l ∉ [d, c] ∧ 1 ≤ xs.length ∧ xs.length ≤ 1000 ∧
    ∀ H' v, Ch [d, c] H H' → Deck (B + 1) H' d c → v ∈ xs → Q v H') ∨
  ∃ (d c : Addr) (z : Str) (B : Nat), vs = [.ref d, .str z] ∧ Deck B H d c ∧ B < 1099511627776 ∧ 1 ≤ z.cps.size ∧ z.cps.size ≤ 1000 ∧
    ∀ H' k, Ch [d, c] H H' → Deck (B + 1) H' d c → k ∈ z.cps.toList → Q (.str ⟨#[k]⟩) H'
def spDck (K : PySem.W.Frag) : Sp := fun vs H Q _ => ∃ (a : Addr) (ns : List Int), vs = [.ref a] ∧ SqL K H a (ns.map V.int) ∧ ns.length ≤ 63 ∧ ∀ H' d c, Ch [] H H' → Deck 0 H' d c → Q (.ref d) H'
section
variable {P : Program} {w : World} {K : PySem.W.Frag} {mg : Str → Option Value} {base : Heap} {aC aK C : Addr}
abbrev s_l_deck : Stmt := tp 45
theorem sc_l_deck : FnScope ["_law_script", "_law_cell"] ["_law_script"] (defScope s_l_deck) := ⟨rfl, rfl, rfl, by decide +kernel, rfl, by decide +kernel, by decide +kernel⟩
theorem v_l_deck (D : Dh K mg "_law_deck" s_l_deck ["_law_script"]) (T : Txt K mg aC aK) : Df P w K mg base 1 "_law_deck" (spDck K) := by
  refine D.ok sc_l_deck (fun vs H Q E h => ?_) (fun f cdv Ar outer s H vs Q E hr h => ?_)
  · obtain ⟨a, ns, rfl, _⟩ := h
    rfl
  obtain ⟨a, ns, rfl, hs, hl, q⟩ := h
  refine ⟨_, (pss_one (ps_ret (pe_lst (pa_cons (pe_lc (own := [("_law_cell", 1)]) (g := gName 1) (tt := tYes) rfl sc_l_deck.nd (pi_list (pe_slice sl_list (pv 0) po_none (po_some pe_int))) (blkOk_by (own := [("_law_cell", 1)]) (N := ["_law_script", "_law_cell"]) (sc := defScope s_l_deck) (by decide +kernel)) (fun _ _ _ _ _ => pg_name (i := 1) sc_l_deck.nd rfl (Or.inl rfl)) (fun _ _ _ _ _ => pts_nil) (fun _ _ _ _ _ => (pe_callB call_abs (by rfl) T.z_abs (by decide +kernel) (pa_cons (pv 1) pa_nil)))) (pa_cons pe_int pa_nil))))), ?_⟩
  refine ⟨_, rfl, _, rfl, a, _, rfl, hs, fun p hp => ?_⟩
  have hcut : cutV (ns.map V.int) none (some (63 : Int)) = ns.map V.int := by
    have : cutV (ns.map V.int) none (some (63 : Int)) = (ns.map V.int).take 63 := cut_to (k := 63)
    rw [this, List.take_of_length_le (by rw [List.length_map]; exact hl)]
  rw [hcut]
  have c1 : Ch [] H (upd H p (.lst (ns.map V.int))) := Ch.new hp _
  refine ⟨p, rfl, ⟨_, SqL.of upd_same⟩, fun L hL => ?_⟩
  have np : p ≠ L := fun e => by rw [← e, upd_same] at hL; cases hL
  refine lc_list (K := K) (a := p) (xs := ns.map V.int) (fun i H' => Ch [] (upd H p (.lst (ns.map V.int))) H' ∧ ∃ cs : List Int, H' L = some (.lst (cs.map V.int)) ∧ cs.length ≤ i ∧ ∀ z ∈ cs, 0 ≤ z) ⟨Ch.new hL _, [], upd_same, Nat.le_refl _, fun _ h => (nomatch h)⟩ (fun i H' _ h => h.1.sql (SqL.of upd_same) (by simp)) ?_ ?_
  · rintro i x H' hx ⟨c2, cs, hcs, hcl, hc0⟩
    rw [List.getElem?_map] at hx
    cases hb : ns[i]? with
    | none => rw [hb] at hx; cases hx
    | some z =>
      rw [hb] at hx
      cases hx
      have hi := (List.getElem?_eq_some_iff.mp hb).1
      refine ⟨rfl, _, rfl, z, rfl, _, hcs, sz (by rw [List.length_map]; omega), c2.young hL hcs _, cs ++ [if z < 0 then -z else z], ?_, by rw [List.length_append, List.length_singleton]; omega, fun y hy => ?_⟩
      · rw [upd_same, List.map_append]; rfl
      · rcases List.mem_append.mp hy with hy | hy
        · exact hc0 y hy
        · rw [List.mem_singleton.mp hy]
          split <;> omega
  · rintro H' ⟨c2, cs, hcs, hcl, hc0⟩
    refine ⟨szl (by simp), fun d hd => ?_⟩
    rw [List.length_map] at hcl
    refine q _ d L ((c1.trans c2).add hd _) ⟨0, cs, Nat.le_refl _, upd_same, ?_, by omega, hc0⟩
    rw [upd_ne (ne_of_none hcs hd)]
    exact hcs
abbrev s_l_draw : Stmt := tp 46
theorem sc_l_draw : FnScope ["_law_deck_here", "_law_many", "_law_cell", "_law_at", "_law_mixed"] ["_law_deck_here", "_law_many"] (defScope s_l_draw) := ⟨rfl, rfl, rfl, by decide +kernel, rfl, by decide +kernel, by decide +kernel⟩
theorem v_l_draw (D : Dh K mg "_law_draw" s_l_draw ["_law_deck_here", "_law_many"]) (T : Txt K mg aC aK) : Df P w K mg base 1 "_law_draw" spDrw := by
  refine D.ok sc_l_draw (fun vs H Q E h => ?_) (fun f cdv Ar outer s H vs Q E hr h => ?_)
  · obtain ⟨d, c, B, many, rfl, _⟩ := h
    rfl
  obtain ⟨d, c, B, many, rfl, hm1, hm2, DK, hB, q⟩ := h
  have ndc := DK.dc
  obtain ⟨n, cs, hn, h1, h2, hl, h0⟩ := DK.ex
  refine ⟨_, (pss_cons (ps_asg (pe_op op_add (pe_ix ix_list (pv 0) pe_int (fun _ _ => rfl)) pe_int) (pg_sub (pv 0) pe_int set_list))
      (pss_cons (ps_asg (pe_tup (pa_cons pe_int (pa_cons (pe_un un_neg pe_int) pa_nil))) (pg_tup (by rfl) (pgs_cons (pg_name (i := 2) sc_l_draw.nd rfl (Or.inl rfl)) (pgs_cons (pg_name (i := 3) sc_l_draw.nd rfl (Or.inl rfl)) pgs_nil))))
      (pss_cons (ps_if (pt_cmpR op_gt (pe_callB call_len_seq (by rfl) T.z_len (by decide +kernel) (pa_cons (pe_ix ix_list (pv 0) pe_int (fun _ _ => rfl)) pa_nil)) pe_int (nomark _)) (pss_cons (ps_set (i := 3) sc_l_draw.nd rfl (Or.inl rfl) (pe_op op_mod (pe_callTy call_int1 (by rfl) T.z_int (by decide +kernel) (pa_cons (pe_ix ix_list (pv 0) pe_int (fun _ _ => rfl)) pa_nil)) (pe_callB call_len_seq (by rfl) T.z_len (by decide +kernel) (pa_cons (pe_ix ix_list (pv 0) pe_int (fun _ _ => rfl)) pa_nil))))
      (pss_one (ps_set (i := 2) sc_l_draw.nd rfl (Or.inl rfl) (pe_ix ix_list (pe_ix ix_list (pv 0) pe_int (fun _ _ => rfl)) (pv 3) (fun _ _ => rfl))))) pss_nil)
      (pss_cons (ps_if (pt_cmpR op_ge (pv 2) (pe_op op_pow pe_int pe_int) (nomark _)) (pss_cons (ps_asg (pe_op op_fdivW (pe_callTy call_int1 (by rfl) T.z_int (by decide +kernel) (pa_cons (pv 2) pa_nil)) (pv 1)) (pg_sub (pe_ix ix_list (pv 0) pe_int (fun _ _ => rfl)) (pv 3) set_list))
      (pss_one (ps_ret (pe_op op_mod (pe_callTy call_int1 (by rfl) T.z_int (by decide +kernel) (pa_cons (pv 2) pa_nil)) (pv 1))))) pss_nil)
      (pss_cons (ps_set (i := 4) sc_l_draw.nd rfl (Or.inl rfl) (pe_op op_add (pe_op op_add (pe_op op_mod (pe_callTy call_int1 (by rfl) T.z_int (by decide +kernel) (pa_cons (pv 2) pa_nil)) pe_int) (pe_op op_mul pe_int (pe_ix ix_list (pv 0) pe_int (fun _ _ => rfl)))) pe_int))
      (pss_one (ps_ret (pe_op op_mod (pe_callTy call_int1 (by rfl) T.z_int (by decide +kernel) (pa_cons (pe_op op_mod (pe_callTy call_int1 (by rfl) T.z_int (by decide +kernel) (pa_cons (pe_op op_pow (pv 4) pe_int) pa_nil)) pe_int) pa_nil)) (pv 1))))))))), ?_⟩
  refine ⟨_, rfl, d, _, _, _, rfl, rfl, SqL.of h1, at1, _, _, rfl, rfl, ?_⟩
  refine ⟨_, rfl, d, _, _, 1, rfl, rfl, h1, rfl, ?_⟩
  refine ⟨_, rfl, szl (by simp), fun p hp => ⟨p, _, rfl, sqt_new, rfl, _, _, rfl, _, _, rfl, rfl, ?_⟩⟩
  have g0 : Ch [d, c] H (upd H d (.lst [.ref c, .int ((n : Int) + 1)])) := Ch.put h1 (fun z => z) (by simp) _
  have k01 : upd H d (.lst [.ref c, .int ((n : Int) + 1)]) d = some (.lst [.ref c, .int ((n : Int) + 1)]) := upd_same
  have k02 : upd H d (.lst [.ref c, .int ((n : Int) + 1)]) c = some (.lst (cs.map V.int)) := by rw [upd_ne ndc.symm]; exact h2
  have g1 : Ch [d, c] H (upd (upd H d (.lst [.ref c, .int ((n : Int) + 1)])) p (.tup [.int 0, .int (-1)])) := g0.add hp _
  have k1 : upd (upd H d (.lst [.ref c, .int ((n : Int) + 1)])) p (.tup [.int 0, .int (-1)]) d = some (.lst [.ref c, .int ((n : Int) + 1)]) := by rw [upd_ne (ne_of_none k01 hp)]; exact k01
  have k2 : upd (upd H d (.lst [.ref c, .int ((n : Int) + 1)])) p (.tup [.int 0, .int (-1)]) c = some (.lst (cs.map V.int)) := by rw [upd_ne (ne_of_none k02 hp)]; exact k02
  have e1 : ((n : Int) + 1) = ((n + 1 : Nat) : Int) := rfl
  have dk1 : Deck (B + 1) (upd (upd H d (.lst [.ref c, .int ((n : Int) + 1)])) p (.tup [.int 0, .int (-1)])) d c := ⟨n + 1, cs, by omega, k1, k2, hl, h0⟩
  -- the mixed end
  have mix : ∀ x : Int, 0 ≤ x → ((x % 2147483563 + 8117 * ((n : Int) + 1) + 3).natAbs < 2 ^ 64) := by
    intro x hx
    have hz1 := Int.emod_lt_of_pos x (by decide : (0 : Int) < 2147483563)
    have hz2 := Int.emod_nonneg x (by decide : (2147483563 : Int) ≠ 0)
    omega
  have fin : ∀ x : Int, 0 ≤ x % many ∧ x % many < many := fun x => ⟨Int.emod_nonneg _ (by omega), Int.emod_lt_of_pos _ (by omega)⟩
  refine ⟨_, rfl, d, _, _, _, rfl, rfl, SqL.of k1, at0, c, _, rfl, .inl (SqL.of k2), _, _, rfl, rfl, _, rfl, if2 (fun hpos => ?_) (fun _ => ?_)⟩
  · rw [List.length_map] at hpos
    refine ⟨_, rfl, d, _, _, _, rfl, rfl, SqL.of k1, at1, .inl ⟨_, rfl, ?_⟩⟩
    refine ⟨_, rfl, d, _, _, _, rfl, rfl, SqL.of k1, at0, c, _, rfl, .inl (SqL.of k2), _, _, rfl, rfl, (by rw [List.length_map]; omega), ?_⟩
    rw [List.length_map]
    obtain ⟨j, hj⟩ : ∃ j : Nat, ((n : Int) + 1) % (cs.length : Int) = (j : Int) := ⟨(((n : Int) + 1) % (cs.length : Int)).toNat, by rw [Int.toNat_of_nonneg (Int.emod_nonneg _ (by omega))]⟩
    have hjl : j < cs.length := by
      have := Int.emod_lt_of_pos ((n : Int) + 1) (by omega : (0 : Int) < (cs.length : Int))
      omega
    have ec : (cs.map V.int)[j]? = some (.int cs[j]) := by rw [List.getElem?_map, List.getElem?_eq_getElem hjl]; rfl
    have hat : atI (cs.map V.int) (((n : Int) + 1) % (cs.length : Int)) = some (.int cs[j]) := by rw [hj]; exact atI_nat ec
    have hix : ixN (cs.map V.int).length (((n : Int) + 1) % (cs.length : Int)) = some j := by rw [hj]; exact ixn_nat (by rw [List.length_map]; exact hjl)
    have hz : 0 ≤ cs[j] := h0 _ (List.getElem_mem hjl)
    refine ⟨_, rfl, d, _, _, _, rfl, rfl, SqL.of k1, at0, _, rfl, c, _, _, _, rfl, rfl, SqL.of k2, hat, ?_⟩
    refine ⟨_, rfl, ⟨_, _, rfl, rfl, ⟨by decide, by decide, by decide⟩, _, _, rfl, rfl, _, rfl, if2 (fun _ => ?_) (fun _ => ?_)⟩⟩
    · refine ⟨_, rfl, .inl ⟨_, rfl, _, rfl, _, _, rfl, rfl, wide_div (b := 40) (by omega) (by omega) (by decide) (by decide), ?_⟩⟩
      refine ⟨_, rfl, d, _, _, _, rfl, rfl, SqL.of k1, at0, _, rfl, c, _, _, _, rfl, rfl, k2, hix, ?_⟩
      refine ⟨_, rfl, .inl ⟨_, rfl, _, rfl, _, _, rfl, rfl, (by omega), ?_⟩⟩
      have g2 := g1.trans (Ch.put k2 (fun z => z) (by simp) (.lst ((cs.map V.int).set j (.int (cs[j] / many)))))
      refine q _ _ g2 ⟨n + 1, cs.set j (cs[j] / many), by omega, ?_, ?_, by rw [List.length_set]; exact hl, fun z hzm => ?_⟩ (fin _).1 (fin _).2
      · rw [upd_ne ndc]; exact k1
      · rw [upd_same, List.map_set]
      · rcases List.mem_or_eq_of_mem_set hzm with hzm | rfl
        · exact h0 z hzm
        · exact Int.ediv_nonneg hz (by omega)
    · refine ⟨_, rfl, .inl ⟨_, rfl, _, _, rfl, rfl, (by show (0 : Int) < 2147483563; decide), ?_⟩⟩
      refine ⟨_, rfl, d, _, _, _, rfl, rfl, SqL.of k1, at1, _, _, rfl, rfl, .inl ⟨by decide, by decide⟩, _, _, rfl, rfl, _, _, rfl, rfl, ?_⟩
      refine ⟨_, rfl, _, _, rfl, rfl, ⟨by decide, by decide, mix _ hz⟩, .inl ⟨_, rfl, _, _, rfl, rfl, (by show (0 : Int) < 2147483629; decide), .inl ⟨_, rfl, _, rfl, _, _, rfl, rfl, (by omega), ?_⟩⟩⟩
      exact q _ _ g1 dk1 (fin _).1 (fin _).2
  · refine ⟨_, rfl, ⟨_, _, rfl, rfl, ⟨by decide, by decide, by decide⟩, _, _, rfl, rfl, _, rfl, ifF (by decide +kernel) ?_⟩⟩
    refine ⟨_, rfl, .inl ⟨_, rfl, _, _, rfl, rfl, (by decide), ?_⟩⟩
    refine ⟨_, rfl, d, _, _, _, rfl, rfl, SqL.of k1, at1, _, _, rfl, rfl, .inl ⟨by decide, by decide⟩, _, _, rfl, rfl, _, _, rfl, rfl, ?_⟩
    refine ⟨_, rfl, _, _, rfl, rfl, ⟨by decide, by decide, mix _ (by decide)⟩, .inl ⟨_, rfl, _, _, rfl, rfl, (by show (0 : Int) < 2147483629; decide), .inl ⟨_, rfl, _, rfl, _, _, rfl, rfl, (by omega), ?_⟩⟩⟩
    exact q _ _ g1 dk1 (fin _).1 (fin _).2
abbrev s_l_one : Stmt := tp 47
theorem sc_l_one : FnScope ["_law_deck_here", "_law_items"] ["_law_deck_here", "_law_items"] (defScope s_l_one) := ⟨rfl, rfl, rfl, by decide +kernel, rfl, by decide +kernel, by decide +kernel⟩
theorem v_l_one (D : Dh K mg "_law_one" s_l_one ["_law_deck_here", "_law_items"]) (T : Txt K mg aC aK) (c_l_draw : Df P w K mg base 1 "_law_draw" spDrw) : Df P w K mg base 2 "_law_one" (spOne K) := by
  refine D.ok sc_l_one (fun vs H Q E h => ?_) (fun f cdv Ar outer s H vs Q E hr h => ?_)
  · rcases h with ⟨d, c, l, B, xs, rfl, _⟩ | ⟨d, c, z, B, rfl, _⟩
    · rfl
    · rfl
  refine ⟨_, (pss_one (ps_ret (pe_ix ix_seq (pv 1) (pdf c_l_draw hr (by first | decide | omega) rfl (pa_cons (pv 0) (pa_cons (pe_callB (call_len_seq.or call_len_str) (by rfl) T.z_len (by decide +kernel) (pa_cons (pv 1) pa_nil)) pa_nil))) (fun _ _ => rfl)))), ?_⟩
  rcases h with ⟨d, c, l, B, xs, rfl, DK, hB, hx, nl, h1, h2, q⟩ | ⟨d, c, z, B, rfl, DK, hB, h1, h2, q⟩
  · refine ⟨_, rfl, _, rfl, _, rfl, .inl ⟨l, _, rfl, .inl hx, ?_⟩⟩
    refine ⟨d, c, B, _, rfl, by omega, by omega, DK, hB, fun H1 r g D1 r0 rm => ?_⟩
    obtain ⟨j, rfl⟩ : ∃ j : Nat, r = (j : Int) := ⟨r.toNat, by omega⟩
    have hj : j < xs.length := by omega
    exact .inl ⟨l, _, _, _, rfl, rfl, g.sql hx nl, atI_nat (List.getElem?_eq_getElem hj), q _ _ g D1 (List.getElem_mem hj)⟩
  · have hlen : z.length = z.cps.size := rfl
    refine ⟨_, rfl, _, rfl, _, rfl, .inr ⟨z, rfl, szl (by omega), ?_⟩⟩
    refine ⟨d, c, B, _, rfl, by omega, by omega, DK, hB, fun H1 r g D1 r0 rm => ?_⟩
    obtain ⟨j, rfl⟩ : ∃ j : Nat, r = (j : Int) := ⟨r.toNat, by omega⟩
    have hj : j < z.cps.toList.length := by simp; omega
    exact .inr (.inr ⟨z, _, _, rfl, rfl, szl (by omega), atI_nat (List.getElem?_eq_getElem hj), q _ _ g D1 (List.getElem_mem hj)⟩)
end
end K28
/-! K28BB: the law's names. -/
namespace K28
open PySem PySem.Spec PyProof.Rows L2
def Pb (x : Str) : Prop := NmOk x ∧ x ≠ spare
structure Nms (H : Hp) (nl : Addr) : Prop where
  ex : ∃ xs : List Str, H nl = some (.lst (xs.map V.str)) ∧ xs.length = 4 ∧ ∀ x ∈ xs, Pb x
theorem Nms.keep {H H' : Hp} {nl : Addr} {M : List Addr} (N : Nms H nl) (g : Ch M H H') (h : nl ∉ M) : Nms H' nl := by
  obtain ⟨xs, e, r⟩ := N.ex
  exact ⟨xs, g.out _ _ e h, r⟩
theorem Nms.no {B : Nat} {H : Hp} {nl d c : Addr} (N : Nms H nl) (D : Deck B H d c) : nl ∉ [d, c] := by
  obtain ⟨xs, e, hl, _⟩ := N.ex
  obtain ⟨n, cs, _, h1, h2, _⟩ := D.ex
  intro z
  obtain ⟨x, r, rfl⟩ : ∃ x r, xs = x :: r := by
    cases xs with
    | nil => simp at hl
    | cons x r => exact ⟨x, r, rfl⟩
  simp only [List.mem_cons, List.not_mem_nil, or_false] at z
  rcases z with rfl | rfl
  · rw [h1] at e
    have e' := HO.lst.inj (Option.some.inj e)
    rw [List.map_cons] at e'
    cases (List.cons.inj e').1
  · rw [h2] at e
    have e' := HO.lst.inj (Option.some.inj e)
    cases cs with
    | nil => cases e'
    | cons a q =>
      rw [List.map_cons, List.map_cons] at e'
      cases (List.cons.inj e').1
theorem Nms.d {B : Nat} {H H' : Hp} {nl d c : Addr} (N : Nms H nl) (D : Deck B H d c) (g : Ch [d, c] H H') : Nms H' nl := N.keep g (N.no D)
def sg (k : Nat) : Str := ⟨#[k]⟩
theorem join_sg : ∀ ks : List Nat, (Txt.join ("" : Str) (ks.map sg)).cps.toList = ks := by
  intro ks
  rw [show Txt.join ("" : Str) (ks.map sg) = Str.join ("" : Str) (ks.map sg) from StrLaws.glued_eq_join _ _]
  have h0 : ("" : Str) = Str.empty := by decide +kernel
  rw [h0]
  induction ks with
  | nil => rfl
  | cons a r ih =>
    cases r with
    | nil => rfl
    | cons b r =>
      have e : Str.join Str.empty ((a :: b :: r).map sg) = sg a ++ Str.empty ++ Str.join Str.empty ((b :: r).map sg) := rfl
      rw [e, Str.cps_append, Array.toList_append, ih]
      rfl
theorem sum_sg : ∀ ks : List Nat, ((ks.map sg).map (·.length)).sum + (ks.map sg).length * 0 = ks.length
  | [] => rfl
  | k :: r => by
    have := sum_sg r
    rw [Nat.mul_zero, Nat.add_zero] at this ⊢
    rw [List.map_cons, List.map_cons, List.sum_cons, this, List.length_cons]
    show 1 + _ = _
    omega
theorem strOk_list {x : Str} (h : ∀ k ∈ x.cps.toList, k < 0x110000) : PyData.strOk x = true := by
  unfold PyData.strOk
  rw [Array.all_eq_true]
  intro i hi
  exact decide_eq_true (h _ (by simp))
theorem nm_make {ks ls : List Nat} {m : Nat} (hl : ks.length + 1 + ls.length ≤ 8) (h1 : ∀ k ∈ ks, k < 0x110000) (h2 : ∀ k ∈ ls, k < 0x110000) (hm : m = 113 ∨ m = 120 ∨ m = 122) :
    Pb (Txt.join ("" : Str) (ks.map sg) ++ sg m ++ Txt.join ("" : Str) (ls.map sg)) := by
  have e : (Txt.join ("" : Str) (ks.map sg) ++ sg m ++ Txt.join ("" : Str) (ls.map sg)).cps.toList = ks ++ m :: ls := by
    rw [Str.cps_append, Str.cps_append, Array.toList_append, Array.toList_append, join_sg, join_sg]
    simp [sg]
  have es : (Txt.join ("" : Str) (ks.map sg) ++ sg m ++ Txt.join ("" : Str) (ls.map sg)).cps.size = ks.length + 1 + ls.length := by
    rw [← Array.length_toList, e, List.length_append, List.length_cons]; omega
  refine ⟨⟨by omega, by omega, strOk_list fun k hk => ?_⟩, fun z => ?_⟩
  · rw [e] at hk
    rcases List.mem_append.mp hk with hk | hk
    · exact h1 k hk
    · rcases List.mem_cons.mp hk with rfl | hk
      · rcases hm with rfl | rfl | rfl <;> decide
      · exact h2 k hk
  · have hmem : m ∈ spare.cps.toList := by
      rw [← z, e]; simp
    have hno : ∀ k ∈ spare.cps.toList, k ≠ 113 ∧ k ≠ 120 ∧ k ≠ 122 := by decide +kernel
    have := hno m hmem
    omega
def words : List Str := ["turns", "items", "total", "plus", "less", "times", "minus", "worth", "hands", "rows", "none", "place"]
theorem NmOk.of {x : Str} (h : (decide (1 ≤ x.cps.size) && decide (x.cps.size ≤ 8) && PyData.strOk x) = true) : NmOk x := by
  rw [Bool.and_eq_true, Bool.and_eq_true] at h
  exact ⟨of_decide_eq_true h.1.1, of_decide_eq_true h.1.2, h.2⟩
theorem words_ok : ∀ x ∈ words, Pb x := by
  have h : words.all (fun x => (decide (1 ≤ x.cps.size) && decide (x.cps.size ≤ 8) && PyData.strOk x) && decide (x ≠ spare)) = true := by decide +kernel
  intro x hx
  have := List.all_eq_true.mp h x hx
  rw [Bool.and_eq_true] at this
  exact ⟨.of this.1, of_decide_eq_true this.2⟩
theorem n_ok : Pb "n" := ⟨.of (by decide +kernel), by decide +kernel⟩
theorem words_cut {r : Int} (h0 : 0 ≤ r) (h1 : r < 10) : ∃ ws : List Str, cutV (words.map V.str) (some r) (some (r + 3)) = ws.map V.str ∧ ws.length = 3 ∧ ∀ w ∈ ws, Pb w := by
  have mem : ∀ k, ∀ w ∈ (words.drop k).take 3, Pb w := fun k w hw => words_ok w (List.mem_of_mem_drop (List.mem_of_mem_take hw))
  rcases (by omega : r = 0 ∨ r = 1 ∨ r = 2 ∨ r = 3 ∨ r = 4 ∨ r = 5 ∨ r = 6 ∨ r = 7 ∨ r = 8 ∨ r = 9) with rfl | rfl | rfl | rfl | rfl | rfl | rfl | rfl | rfl | rfl
  · exact ⟨_, rfl, rfl, mem 0⟩
  · exact ⟨_, rfl, rfl, mem 1⟩
  · exact ⟨_, rfl, rfl, mem 2⟩
  · exact ⟨_, rfl, rfl, mem 3⟩
  · exact ⟨_, rfl, rfl, mem 4⟩
  · exact ⟨_, rfl, rfl, mem 5⟩
  · exact ⟨_, rfl, rfl, mem 6⟩
  · exact ⟨_, rfl, rfl, mem 7⟩
  · exact ⟨_, rfl, rfl, mem 8⟩
  · exact ⟨_, rfl, rfl, mem 9⟩
def spNms : Sp := fun vs H Q _ => ∃ (d c : Addr) (B : Nat), vs = [.ref d] ∧ Deck B H d c ∧ B + 20 < 1099511627776 ∧ ∀ H' nl, Ch [d, c] H H' → Deck (B + 20) H' d c → Nms H' nl → Q (.ref nl) H'
/-- signs drawn one by one -/
def Sgs (H : Hp) (L : Addr) (i : Nat) : Prop := ∃ ks : List Nat, H L = some (.lst ((ks.map sg).map V.str)) ∧ ks.length = i ∧ ∀ k ∈ ks, k < 0x110000
theorem small_signs {z : Str} (h : PyData.strOk z = true) : ∀ k ∈ z.cps.toList, k < 0x110000 := by
  intro k hk
  unfold PyData.strOk at h
  rw [Array.all_eq_true] at h
  obtain ⟨i, hi, e⟩ := List.mem_iff_getElem.mp hk
  have := of_decide_eq_true (h i (by simpa using hi))
  simp only [Array.getElem_toList] at e
  rw [← e]; exact this
section
variable {P : Program} {w : World} {K : PySem.W.Frag} {mg : Str → Option Value} {base : Heap} {aC aK C : Addr}
abbrev s_l_names : Stmt := tp 48
theorem sc_l_names : FnScope ["_law_deck_here", "_law_letters", "_law_signs", "_law_words", "_law_at", "_law_size", "_law_left", "_law_k", "_law_right"] ["_law_deck_here"] (defScope s_l_names) := ⟨rfl, rfl, rfl, by decide +kernel, rfl, by decide +kernel, by decide +kernel⟩
theorem v_l_names (D : Dh K mg "_law_names" s_l_names ["_law_deck_here"]) (T : Txt K mg aC aK) (c_l_draw : Df P w K mg base 1 "_law_draw" spDrw) (c_l_one : Df P w K mg base 2 "_law_one" (spOne K)) : Df P w K mg base 3 "_law_names" spNms := by
  refine D.ok sc_l_names (fun vs H Q E h => ?_) (fun f cdv Ar outer s H vs Q E hr h => ?_)
  · obtain ⟨d, c, B, rfl, _⟩ := h
    rfl
  obtain ⟨d, c, B, rfl, DK, hB, q⟩ := h
  refine ⟨_, (pss_cons (ps_set (i := 1) sc_l_names.nd rfl (Or.inr rfl) pe_str)
      (pss_cons (ps_set (i := 2) sc_l_names.nd rfl (Or.inr rfl) (pe_op op_add_str (pv 1) pe_str))
      (pss_cons (ps_set (i := 3) sc_l_names.nd rfl (Or.inl rfl) (pe_lst (pa_cons pe_str (pa_cons pe_str (pa_cons pe_str (pa_cons pe_str (pa_cons pe_str (pa_cons pe_str (pa_cons pe_str (pa_cons pe_str (pa_cons pe_str (pa_cons pe_str (pa_cons pe_str (pa_cons pe_str pa_nil))))))))))))))
      (pss_cons (ps_par (i := 4) (j := 5) rfl sc_l_names.nd rfl rfl (by decide) rfl rfl (pa_cons (pdf c_l_draw hr (by first | decide | omega) rfl (pa_cons (pv 0) (pa_cons pe_int pa_nil))) (pa_cons (pdf c_l_one hr (by first | decide | omega) rfl (pa_cons (pv 0) (pa_cons (pe_lst (pa_cons pe_int (pa_cons pe_int (pa_cons pe_int (pa_cons pe_int (pa_cons pe_int (pa_cons pe_int (pa_cons pe_int pa_nil)))))))) pa_nil))) pa_nil)) (by rfl))
      (pss_cons (ps_if (pt_cmpR op_lt (pv 4) pe_int (nomark _)) (pss_one (ps_ret (pe_op op_cat (pe_lst (pa_cons pe_str pa_nil)) (pe_slice sl_list (pv 3) (po_some (pv 4)) (po_some (pe_op op_add (pv 4) pe_int)))))) pss_nil)
      (pss_cons (ps_set (i := 6) sc_l_names.nd rfl (Or.inr rfl) (pe_join pe_str (pe_lc (own := [("_law_k", 7)]) (g := gName 7) (tt := tYes) rfl sc_l_names.nd (pi_range1 (by rfl) T.z_range (pa_cons (pv 5) pa_nil)) (blkOk_by (own := [("_law_k", 7)]) (N := ["_law_deck_here", "_law_letters", "_law_signs", "_law_words", "_law_at", "_law_size", "_law_left", "_law_k", "_law_right"]) (sc := defScope s_l_names) (by decide +kernel)) (fun _ _ _ _ _ => pg_name (i := 7) sc_l_names.nd rfl (Or.inl rfl)) (fun _ _ _ _ _ => pts_nil) (fun _ _ _ _ _ => (pdf c_l_one hr (by first | decide | omega) rfl (pa_cons (pv 0) (pa_cons (pv 1) pa_nil)))))))
      (pss_cons (ps_set (i := 8) sc_l_names.nd rfl (Or.inr rfl) (pe_join pe_str (pe_lc (own := [("_law_k", 7)]) (g := gName 7) (tt := tYes) rfl sc_l_names.nd (pi_range1 (by rfl) T.z_range (pa_cons (pdf c_l_draw hr (by first | decide | omega) rfl (pa_cons (pv 0) (pa_cons (pe_op op_sub pe_int (pv 5)) pa_nil))) pa_nil)) (blkOk_by (own := [("_law_k", 7)]) (N := ["_law_deck_here", "_law_letters", "_law_signs", "_law_words", "_law_at", "_law_size", "_law_left", "_law_k", "_law_right"]) (sc := defScope s_l_names) (by decide +kernel)) (fun _ _ _ _ _ => pg_name (i := 7) sc_l_names.nd rfl (Or.inl rfl)) (fun _ _ _ _ _ => pts_nil) (fun _ _ _ _ _ => (pdf c_l_one hr (by first | decide | omega) rfl (pa_cons (pv 0) (pa_cons (pv 2) pa_nil)))))))
      (pss_one (ps_ret (pe_op op_cat (pe_lst (pa_cons pe_str pa_nil)) (pe_lc (own := [("_law_k", 7)]) (g := gName 7) (tt := tYes) rfl sc_l_names.nd (pi_range1 (by rfl) T.z_range (pa_cons pe_int pa_nil)) (blkOk_by (own := [("_law_k", 7)]) (N := ["_law_deck_here", "_law_letters", "_law_signs", "_law_words", "_law_at", "_law_size", "_law_left", "_law_k", "_law_right"]) (sc := defScope s_l_names) (by decide +kernel)) (fun _ _ _ _ _ => pg_name (i := 7) sc_l_names.nd rfl (Or.inl rfl)) (fun _ _ _ _ _ => pts_nil) (fun _ _ _ _ _ => (pe_op op_add_str (pe_op op_add_str (pv 6) (pe_ix ix_str pe_str (pv 7) (fun _ _ => rfl))) (pv 8)))))))))))))), ?_⟩
  refine ⟨_, rfl, _, _, rfl, rfl, szl (by decide +kernel), ?_⟩
  refine ⟨szl (by decide), fun wl hwl => ?_⟩
  have g1 : Ch [d, c] H (upd H wl (.lst (words.map V.str))) := Ch.new hwl _
  have D1 : Deck B (upd H wl (.lst (words.map V.str))) d c := DK.new (Ch.new hwl _)
  refine ⟨_, rfl, d, c, B, 60, rfl, by decide, by decide, D1, by omega, fun H2 r g2 D2 r0 r60 => ?_⟩
  refine ⟨_, rfl, szl (by decide), fun sl hsl => .inl ⟨d, c, sl, B + 1, _, rfl, D2.new (Ch.new hsl _), by omega, SqL.of upd_same, (D2.no hsl), by decide, by decide, fun H3 v g3 D3 hv => ?_⟩⟩
  have hw3 : H3 wl = some (.lst (words.map V.str)) := by
    refine g3.out _ _ ((Ch.new (M := [d, c]) hsl _).out _ _ (g2.out _ _ upd_same ?_) ?_) ?_ <;> exact DK.no hwl
  have g23 := ((g1.trans g2).add hsl (.lst [.int 0, .int 1, .int 2, .int 3, .int 5, .int 6, .int 7])).trans g3
  refine ⟨_, _, rfl, ?_⟩
  refine ⟨_, rfl, _, _, rfl, rfl, _, rfl, if2 (fun h10 => ?_) (fun _ => ?_)⟩
  · obtain ⟨ws, ew, hwl3, hwo⟩ := words_cut r0 h10
    refine ⟨szl (by decide), fun nl hnl => ⟨_, rfl, _, rfl, _, rfl, _, rfl, _, _, rfl, rfl, _, rfl, wl, words.map V.str, rfl, SqL.of (by rw [upd_ne (ne_of_none hw3 hnl)]; exact hw3), fun p hp => ?_⟩⟩
    rw [ew]
    have a1 : Ch [] H3 (upd H3 nl (.lst [.str "n"])) := Ch.new hnl _
    have a2 := a1.add hp (.lst (ws.map V.str))
    have hn2 : upd (upd H3 nl (.lst [.str "n"])) p (.lst (ws.map V.str)) nl = some (.lst [.str "n"]) := by rw [upd_ne (ne_of_none upd_same hp)]; exact upd_same
    refine ⟨nl, p, _, _, rfl, rfl, hn2, upd_same, szl (by rw [List.length_map, hwl3]; decide), fun p2 hp2 => ?_⟩
    have a3 := a2.add hp2 (.lst ([.str "n"] ++ ws.map V.str))
    refine q _ p2 (g23.trans a3.nil) ((D3.new a3).mono (by omega)) ⟨"n" :: ws, ?_, by rw [List.length_cons, hwl3], fun x hx => ?_⟩
    · rw [upd_same]; rfl
    · rcases List.mem_cons.mp hx with rfl | hx
      · exact n_ok
      · exact hwo x hx
  · obtain ⟨k, rfl, hk⟩ : ∃ k : Nat, v = .int (k : Int) ∧ k ≤ 7 := by
      simp only [List.mem_cons, List.not_mem_nil, or_false] at hv
      rcases hv with rfl | rfl | rfl | rfl | rfl | rfl | rfl
      · exact ⟨0, rfl, by decide⟩
      · exact ⟨1, rfl, by decide⟩
      · exact ⟨2, rfl, by decide⟩
      · exact ⟨3, rfl, by decide⟩
      · exact ⟨5, rfl, by decide⟩
      · exact ⟨6, rfl, by decide⟩
      · exact ⟨7, rfl, by decide⟩
    refine ⟨⟨_, rfl⟩, _, rfl, _, rfl, by omega, by omega, fun L hL => ?_⟩
    refine lc_range (fun i H' => Ch [d, c] H3 H' ∧ Deck (B + 2 + i) H' d c ∧ Sgs H' L i) ⟨Ch.new hL _, D3.new (Ch.new hL _), [], upd_same, rfl, fun _ h => (nomatch h)⟩ ?_ ?_
    · rintro i H4 hi ⟨a1, D4, ks, hks, hkl, hko⟩
      refine ⟨rfl, _, rfl, _, rfl, .inr ⟨d, c, _, _, rfl, D4, by omega, by decide +kernel, by decide +kernel, fun H5 m g5 D5 hm => ?_⟩⟩
      have h5 := g5.out _ _ hks (D3.no hL)
      have nL := D3.no hL
      refine ⟨_, h5, sz (by rw [List.length_map, List.length_map]; omega), (a1.trans g5).young hL h5 _, D5.keep (Ch.put (M := [L]) h5 (fun z => z) (by simp) _) ?_ ?_, ks ++ [m], ?_, by rw [List.length_append, hkl, List.length_singleton], fun x hx => ?_⟩
      · intro z; exact nL (by simp only [List.mem_singleton] at z; subst z; simp)
      · intro z; exact nL (by simp only [List.mem_singleton] at z; subst z; simp)
      · rw [upd_same, List.map_append, List.map_append]; rfl
      · rcases List.mem_append.mp hx with hx | hx
        · exact hko x hx
        · rw [List.mem_singleton.mp hx]
          exact small_signs (by decide +kernel) m hm
    · rintro H4 ⟨a1, D4, ks, hks, hkl, hko⟩
      have hkl' : ks.length = k := hkl
      have e00 : ("" : Str).length = 0 := by decide +kernel
      refine ⟨_, L, ks.map sg, rfl, rfl, .inl (SqL.of hks), by rw [e00, sum_sg]; omega, ?_⟩
      refine ⟨⟨_, rfl⟩, _, rfl, _, rfl, _, _, rfl, rfl, d, c, B + 2 + k, _, rfl, by omega, by omega, D4, by omega, fun H5 r2 g5 D5 r20 r21 => ⟨_, rfl, by omega, by omega, fun L2 hL2 => ?_⟩⟩
      refine lc_range (fun i H' => Ch [d, c] H5 H' ∧ Deck (B + 3 + k + i) H' d c ∧ Sgs H' L2 i) ⟨Ch.new hL2 _, (D5.mono (by omega)).new (Ch.new hL2 _), [], upd_same, rfl, fun _ h => (nomatch h)⟩ ?_ ?_
      · rintro i H6 hi ⟨a6, D6, ls, hls, hll, hlo⟩
        refine ⟨rfl, _, rfl, _, rfl, .inr ⟨d, c, _, _, rfl, D6, by omega, by decide +kernel, by decide +kernel, fun H7 m g7 D7 hm => ?_⟩⟩
        have nL := D5.no hL2
        have h7 := g7.out _ _ hls nL
        refine ⟨_, h7, sz (by rw [List.length_map, List.length_map]; omega), (a6.trans g7).young hL2 h7 _, D7.keep (Ch.put (M := [L2]) h7 (fun z => z) (by simp) _) ?_ ?_, ls ++ [m], ?_, by rw [List.length_append, hll, List.length_singleton], fun x hx => ?_⟩
        · intro z; exact nL (by simp only [List.mem_singleton] at z; subst z; simp)
        · intro z; exact nL (by simp only [List.mem_singleton] at z; subst z; simp)
        · rw [upd_same, List.map_append, List.map_append]; rfl
        · rcases List.mem_append.mp hx with hx | hx
          · exact hlo x hx
          · rw [List.mem_singleton.mp hx]
            exact small_signs (by decide +kernel) m hm
      · rintro H6 ⟨a6, D6, ls, hls, hll, hlo⟩
        refine ⟨_, L2, ls.map sg, rfl, rfl, .inl (SqL.of hls), by rw [e00, sum_sg]; omega, ?_⟩
        refine ⟨szl (by decide), fun nl hnl => ⟨_, rfl, by decide, by decide, fun L3 hL3 => ?_⟩⟩
        have b1 : Ch [] H6 (upd H6 nl (.lst [.str "n"])) := Ch.new hnl _
        have len1 : (Txt.join ("" : Str) (ks.map sg)).length = ks.length := by
          show (Txt.join ("" : Str) (ks.map sg)).cps.size = ks.length
          rw [← Array.length_toList, join_sg]
        have len2 : (Txt.join ("" : Str) (ls.map sg)).length = ls.length := by
          show (Txt.join ("" : Str) (ls.map sg)).cps.size = ls.length
          rw [← Array.length_toList, join_sg]
        refine lc_range (fun i H' => Ch [] (upd H6 nl (.lst [.str "n"])) H' ∧ ∃ xs : List Str, H' L3 = some (.lst (xs.map V.str)) ∧ xs.length = i ∧ ∀ x ∈ xs, Pb x) ⟨Ch.new hL3 _, [], upd_same, rfl, fun _ h => (nomatch h)⟩ ?_ ?_
        · rintro i H7 hi ⟨a7, xs, hxs, hxl, hxo⟩
          have hi3 : i < 3 := hi
          obtain ⟨m, hm, hat⟩ : ∃ m, (m = 113 ∨ m = 120 ∨ m = 122) ∧ atI ("qxz" : Str).cps.toList ((0 : Int) + (i : Int)) = some m := by
            have e3 : ("qxz" : Str).cps.toList = [113, 120, 122] := by decide +kernel
            rw [e3]
            rcases (by omega : i = 0 ∨ i = 1 ∨ i = 2) with rfl | rfl | rfl
            · exact ⟨113, .inl rfl, by decide⟩
            · exact ⟨120, .inr (.inl rfl), by decide⟩
            · exact ⟨122, .inr (.inr rfl), by decide⟩
          have lsg : (Txt.join ("" : Str) (ks.map sg) ++ sg m).length = ks.length + 1 := by rw [Str.length_append, len1]; rfl
          refine ⟨rfl, _, rfl, _, rfl, "qxz", _, m, rfl, rfl, szl (by decide +kernel), hat, _, _, rfl, rfl, szl (by rw [len1]; show ks.length + 1 ≤ _; omega), _, rfl, _, _, rfl, rfl, szl (by show (Txt.join ("" : Str) (ks.map sg) ++ sg m).length + _ ≤ _; rw [lsg, len2]; omega), ?_⟩
          refine ⟨_, hxs, sz (by rw [List.length_map]; omega), a7.young hL3 hxs _, xs ++ [Txt.join ("" : Str) (ks.map sg) ++ sg m ++ Txt.join ("" : Str) (ls.map sg)], ?_, by rw [List.length_append, hxl, List.length_singleton], fun x hx => ?_⟩
          · rw [upd_same, List.map_append]; rfl
          · rcases List.mem_append.mp hx with hx | hx
            · exact hxo x hx
            · rw [List.mem_singleton.mp hx]
              exact nm_make (by omega) hko hlo hm
        · rintro H7 ⟨a7, xs, hxs, hxl, hxo⟩
          have hxl' : xs.length = 3 := hxl
          have hn7 : H7 nl = some (.lst [.str "n"]) := a7.out _ _ upd_same (by simp)
          refine ⟨nl, L3, _, _, rfl, rfl, hn7, hxs, szl (by rw [List.length_map, hxl']; decide), fun p2 hp2 => ?_⟩
          have b2 := (b1.trans a7).add hp2 (.lst ([.str "n"] ++ xs.map V.str))
          refine q _ p2 ((((g23.trans a1).trans g5).trans a6).trans b2.nil) ((D6.new b2).mono (by omega)) ⟨"n" :: xs, ?_, by rw [List.length_cons, hxl'], fun x hx => ?_⟩
          · rw [upd_same]; rfl
          · rcases List.mem_cons.mp hx with rfl | hx
            · exact n_ok
            · exact hxo x hx
end
end K28
/-! K28BC: the law's expressions and tests. -/
namespace K28
open PySem PySem.Spec PyProof.Rows L2
theorem tAsg_cut {te : TE} {g : TG} {D : Ends} {σ : L2.St} {H : Hp} (Pv : V → Hp → Prop) (h1 : ∀ Q : VK, (∀ v H', Pv v H' → Q v H') → te σ H Q) (h2 : ∀ v H', Pv v H' → g v σ H' D.nx) : tAsg te g D σ H := h1 _ h2
theorem seq_cut {t u : TS} {D : Ends} {σ : L2.St} {H : Hp} (Pv : L2.St → Hp → Prop) (h1 : ∀ nx, (∀ σ' H', Pv σ' H' → nx σ' H') → t { D with nx := nx } σ H) (h2 : ∀ σ' H', Pv σ' H' → u D σ' H') : tSeq t u D σ H := h1 _ h2
theorem ifS_cut {p : TT} {t u : TS} {D : Ends} {σ : L2.St} {H : Hp} (Y Z : Hp → Prop) (h : ∀ R : Bool → Hp → Prop, (∀ H', Y H' → R true H') → (∀ H', Z H' → R false H') → p σ H R) (ht : ∀ H', Y H' → t D σ H') (hu : ∀ H', Z H' → u D σ H') : tIfS p t u D σ H :=
  h _ (fun H' y => iteT (ht H' y)) (fun H' z => iteF (hu H' z))
theorem Ch.w3 {H H' : Hp} {d c l : Addr} (g : Ch [d, c] H H') : Ch [d, c, l] H H' := g.mono (by simp)
structure St3 (B : Nat) (H : Hp) (d c nl lf : Addr) (a1 a2 : Int) : Prop where
  dk : Deck B H d c
  nm : Nms H nl
  lt : ∃ a0 a3 a4 : Int, H lf = some (.lst [.int a0, .int a1, .int a2, .int a3, .int a4])
  lc : lf ≠ c
section
variable {B B' : Nat} {H H' : Hp} {d c nl lf : Addr} {a1 a2 : Int}
theorem St3.no (S : St3 B H d c nl lf a1 a2) : lf ∉ [d, c] := by
  obtain ⟨a0, a3, a4, h⟩ := S.lt
  obtain ⟨n, cs, _, h1, h2, _⟩ := S.dk.ex
  intro z
  simp only [List.mem_cons, List.not_mem_nil, or_false] at z
  rcases z with z | z
  · rw [z, h1] at h
    have e' := HO.lst.inj (Option.some.inj h)
    cases (List.cons.inj e').1
  · exact S.lc z
theorem St3.nno (S : St3 B H d c nl lf a1 a2) : nl ≠ lf := by
  obtain ⟨a0, a3, a4, h⟩ := S.lt
  obtain ⟨xs, e, hl, _⟩ := S.nm.ex
  refine ne_of e h fun z => ?_
  have e' := HO.lst.inj z
  cases xs with
  | nil => cases e'
  | cons x r =>
    rw [List.map_cons] at e'
    cases (List.cons.inj e').1
theorem St3.dr (S : St3 B H d c nl lf a1 a2) (g : Ch [d, c] H H') (D : Deck B' H' d c) : St3 B' H' d c nl lf a1 a2 := by
  obtain ⟨a0, a3, a4, h⟩ := S.lt
  exact ⟨D, S.nm.d S.dk g, ⟨a0, a3, a4, g.out _ _ h S.no⟩, S.lc⟩
theorem St3.new (S : St3 B H d c nl lf a1 a2) (g : Ch [] H H') : St3 B H' d c nl lf a1 a2 := S.dr g.nil (S.dk.new g)
theorem St3.mono (S : St3 B H d c nl lf a1 a2) (h : B ≤ B') : St3 B' H d c nl lf a1 a2 := ⟨S.dk.mono h, S.nm, S.lt, S.lc⟩
theorem St3.put (S : St3 B H d c nl lf a1 a2) (b0 b1 b2 b3 b4 : Int) : St3 B (upd H lf (.lst [.int b0, .int b1, .int b2, .int b3, .int b4])) d c nl lf b1 b2 ∧ Ch [d, c, lf] H (upd H lf (.lst [.int b0, .int b1, .int b2, .int b3, .int b4])) := by
  obtain ⟨a0, a3, a4, h⟩ := S.lt
  have g : Ch [lf] H (upd H lf (.lst [.int b0, .int b1, .int b2, .int b3, .int b4])) := Ch.put h (fun z => z) (by simp) _
  have n1 := S.no
  have n2 := S.nno
  simp only [List.mem_cons, List.not_mem_nil, or_false, not_or] at n1
  exact ⟨⟨S.dk.keep g (by simp [Ne.symm n1.1]) (by simp [Ne.symm n1.2]), S.nm.keep g (by simp [n2]), ⟨b0, b3, b4, upd_same⟩, S.lc⟩, g.mono (by simp)⟩
end
def spExp (K : PySem.W.Frag) (n cst : Nat) : Sp := fun vs H Q _ => ∃ (d c nl : Addr) (B : Nat) (z : Int), vs = [.ref d, .ref nl, .int z] ∧ z = (n : Int) ∧ Deck B H d c ∧ Nms H nl ∧ B + cst < 1099511627776 ∧
  ∀ H' v e, Ch [d, c] H H' → Deck (B + cst) H' d c → Dp K H' v (eE e) → ExOk Pb n e → Q v H'
def spExpB (K : PySem.W.Frag) : Nat → Sp
  | 0 => fun _ _ _ _ => False
  | n + 1 => spExp K (n + 1) (4 ^ (n + 1))
def eOT : Option Ts → PyData
  | none => .tuple []
  | some t => eT t
theorem flat_OT (o : Option Ts) : flatT (eOT o) = true := by
  cases o with
  | none => rfl
  | some t => exact flat_eT t
theorem Ch.dOT {K : PySem.W.Frag} {M : List Addr} {H H' : Hp} (c : Ch M H H') {v : V} {o : Option Ts} (h : Dp K H v (eOT o)) : Dp K H' v (eOT o) := Dp.gw c.imm _ _ (flat_OT o) h
def spTst (K : PySem.W.Frag) : Sp := fun vs H Q _ => ∃ (d c nl lf : Addr) (B : Nat) (tm a1 a2 : Int), vs = [.ref d, .ref nl, .ref lf, .int tm] ∧ St3 B H d c nl lf a1 a2 ∧ B + 200 < 1099511627776 ∧
  ∀ H' v o, Ch [d, c, lf] H H' → St3 (B + 200) H' d c nl lf a1 a2 → Dp K H' v (eOT o) → (∀ t, o = some t → TsOk Pb 2 t) → Q v H'
section
variable {P : Program} {w : World} {K : PySem.W.Frag} {mg : Str → Option Value} {base : Heap} {aC aK C : Addr}
abbrev s_l_expression : Stmt := tp 49
theorem sc_l_expression : FnScope ["_law_deck_here", "_law_names_here", "_law_deep", "_law_way", "_law_factor", "_law_first"] ["_law_deck_here", "_law_names_here", "_law_deep"] (defScope s_l_expression) := ⟨rfl, rfl, rfl, by decide +kernel, rfl, by decide +kernel, by decide +kernel⟩
theorem exp_step (D : Dh K mg "_law_expression" s_l_expression ["_law_deck_here", "_law_names_here", "_law_deep"]) (T : Txt K mg aC aK) (c_l_draw : Df P w K mg base 1 "_law_draw" spDrw) (c_l_one : Df P w K mg base 2 "_law_one" (spOne K)) (n : Nat) (c_l_expression : Df P w K mg base (n + 2) "_law_expression" (spExpB K n)) :
    Df P w K mg base (n + 3) "_law_expression" (spExp K (n + 1) (4 ^ (n + 1))) := by
  refine D.ok sc_l_expression (fun vs H Q E h => ?_) (fun f cdv Ar outer s H vs Q E hr h => ?_)
  · obtain ⟨d, c, nl, B, z, rfl, _⟩ := h
    rfl
  obtain ⟨d, c, nl, B, z, rfl, rfl, DK, NM, hB, q⟩ := h
  have hp : 1 ≤ 4 ^ n := Nat.one_le_pow _ _ (by decide)
  have hs : 4 ^ (n + 1) = 4 * 4 ^ n := by rw [Nat.pow_succ, Nat.mul_comm]
  rw [hs] at hB q
  refine ⟨_, (pss_cons (ps_set (i := 3) sc_l_expression.nd rfl (Or.inl rfl) (pe_ifExp (pt_cmpR op_gt (pv 2) pe_int (nomark _)) (pdf c_l_draw hr (by first | decide | omega) rfl (pa_cons (pv 0) (pa_cons pe_int pa_nil))) (pdf c_l_draw hr (by first | decide | omega) rfl (pa_cons (pv 0) (pa_cons pe_int pa_nil)))))
      (pss_cons (ps_if (pt_cmpR op_eq (pv 3) pe_int (nomark _)) (pss_one (ps_ret (pdf c_l_one hr (by first | decide | omega) rfl (pa_cons (pv 0) (pa_cons (pe_lst (pa_cons pe_int (pa_cons pe_int (pa_cons pe_int (pa_cons (pe_un un_neg pe_int) (pa_cons pe_int (pa_cons (pe_un un_neg pe_int) (pa_cons pe_int (pa_cons (pe_un un_neg pe_int) (pa_cons (pe_op op_sub (pdf c_l_draw hr (by first | decide | omega) rfl (pa_cons (pv 0) (pa_cons pe_int pa_nil))) pe_int) pa_nil)))))))))) pa_nil))))) pss_nil)
      (pss_cons (ps_if (pt_cmpR op_lt (pv 3) pe_int (nomark _)) (pss_one (ps_ret (pdf c_l_one hr (by first | decide | omega) rfl (pa_cons (pv 0) (pa_cons (pv 1) pa_nil))))) pss_nil)
      (pss_cons (ps_if (pt_cmpR op_eq (pv 3) pe_int (nomark _)) (pss_cons (ps_set (i := 4) sc_l_expression.nd rfl (Or.inl rfl) (pdf c_l_one hr (by first | decide | omega) rfl (pa_cons (pv 0) (pa_cons (pe_lst (pa_cons (pe_un un_neg pe_int) (pa_cons (pe_un un_neg pe_int) (pa_cons (pe_un un_neg pe_int) (pa_cons (pe_un un_neg pe_int) (pa_cons (pe_un un_neg pe_int) (pa_cons pe_int (pa_cons pe_int (pa_cons pe_int (pa_cons pe_int pa_nil)))))))))) pa_nil))))
      (pss_one (ps_ret (pe_tup (pa_cons pe_str (pa_cons (pv 4) (pa_cons (pdf c_l_expression hr (by first | decide | omega) rfl (pa_cons (pv 0) (pa_cons (pv 1) (pa_cons (pe_op op_sub (pv 2) pe_int) pa_nil)))) pa_nil))))))) pss_nil)
      (pss_cons (ps_set (i := 5) sc_l_expression.nd rfl (Or.inl rfl) (pdf c_l_expression hr (by first | decide | omega) rfl (pa_cons (pv 0) (pa_cons (pv 1) (pa_cons (pe_op op_sub (pv 2) pe_int) pa_nil)))))
      (pss_one (ps_ret (pe_tup (pa_cons (pe_ix ix_list (pe_lst (pa_cons pe_str (pa_cons pe_str pa_nil))) (pe_op op_mod (pe_callTy call_int1 (by rfl) T.z_int (by decide +kernel) (pa_cons (pv 3) pa_nil)) pe_int) (fun _ _ => rfl)) (pa_cons (pv 5) (pa_cons (pdf c_l_expression hr (by first | decide | omega) rfl (pa_cons (pv 0) (pa_cons (pv 1) (pa_cons (pe_op op_sub (pv 2) pe_int) pa_nil)))) pa_nil))))))))))), ?_⟩
  refine seq_cut (fun sg H' => ∃ w : Int, sg = [some (.ref d), some (.ref nl), some (.int ((n + 1 : Nat) : Int)), some (.int w), none, none] ∧ 0 ≤ w ∧ w < 7 ∧ (n = 0 → w < 4) ∧ Ch [d, c] H H' ∧ Deck (B + 1) H' d c) (fun nx hnx => ?_) ?_
  · refine ⟨_, rfl, _, _, rfl, rfl, _, rfl, if2 (fun h1 => ?_) (fun h1 => ?_)⟩
    · exact ⟨_, rfl, d, c, B, 7, rfl, by decide, by decide, DK, by omega, fun H1 r g1 D1 r0 r1 => hnx _ _ ⟨r, rfl, r0, r1, fun e => by omega, g1, D1⟩⟩
    · exact ⟨_, rfl, d, c, B, 4, rfl, by decide, by decide, DK, by omega, fun H1 r g1 D1 r0 r1 => hnx _ _ ⟨r, rfl, r0, by omega, fun e => r1, g1, D1⟩⟩
  rintro sg H1 ⟨wy, rfl, w0, w7, w4, g1, D1⟩
  have N1 := NM.d DK g1
  refine ⟨_, rfl, rfl, _, rfl, if2 (fun _ => ?_) (fun hz => ?_)⟩
  · refine ⟨_, rfl, _, rfl, _, rfl, _, rfl, _, rfl, d, c, _, 199, rfl, by decide, by decide, D1, by omega, fun H2 r g2 D2 r0 r1 => ⟨_, _, rfl, rfl, szl (by simp), fun l hl => .inl ⟨d, c, l, _, _, rfl, D2.new (Ch.new hl _), by omega, SqL.of upd_same, D2.no hl, by simp, by simp, fun H3 v g3 D3 hv => ?_⟩⟩⟩
    obtain ⟨i, rfl, hi⟩ : ∃ i : Int, v = .int i ∧ -99 ≤ i ∧ i ≤ 99 := by
      simp only [List.mem_cons, List.not_mem_nil, or_false] at hv
      rcases hv with rfl | rfl | rfl | rfl | rfl | rfl | rfl | rfl | rfl
      · exact ⟨_, rfl, by decide, by decide⟩
      · exact ⟨_, rfl, by decide, by decide⟩
      · exact ⟨_, rfl, by decide, by decide⟩
      · exact ⟨_, rfl, by decide, by decide⟩
      · exact ⟨_, rfl, by decide, by decide⟩
      · exact ⟨_, rfl, by decide, by decide⟩
      · exact ⟨_, rfl, by decide, by decide⟩
      · exact ⟨_, rfl, by decide, by decide⟩
      · exact ⟨_, rfl, by omega, by omega⟩
    exact q _ _ (.num i) (((g1.trans g2).add hl _).trans g3) (D3.mono (by omega)) (.int i) hi
  refine ⟨_, rfl, _, _, rfl, rfl, _, rfl, if2 (fun _ => ?_) (fun h4 => ?_)⟩
  · obtain ⟨xs, hx, hxl, hxo⟩ := N1.ex
    refine ⟨_, rfl, _, rfl, .inl ⟨d, c, nl, _, _, rfl, D1, by omega, SqL.of hx, N1.no D1, by rw [List.length_map]; omega, by rw [List.length_map]; omega, fun H3 v g3 D3 hv => ?_⟩⟩
    obtain ⟨x, hxm, rfl⟩ := List.mem_map.mp hv
    exact q _ _ (.nm x) (g1.trans g3) (D3.mono (by omega)) (.str x) (hxo x hxm)
  cases n with
  | zero => exact absurd (w4 rfl) h4
  | succ n =>
  have hp2 : 1 ≤ 4 ^ n := Nat.one_le_pow _ _ (by decide)
  have hs2 : 4 ^ (n + 1) = 4 * 4 ^ n := by rw [Nat.pow_succ, Nat.mul_comm]
  have ez : (((n + 1 + 1 : Nat) : Int) - 1) = ((n + 1 : Nat) : Int) := by omega
  refine ⟨_, rfl, rfl, _, rfl, if2 (fun _ => ?_) (fun h6 => ?_)⟩
  · refine ⟨_, rfl, _, rfl, _, rfl, _, rfl, _, rfl, _, rfl, szl (by simp), fun l hl => .inl ⟨d, c, l, _, _, rfl, D1.new (Ch.new hl _), by omega, SqL.of upd_same, D1.no hl, by simp, by simp, fun H3 v g3 D3 hv => ?_⟩⟩
    obtain ⟨i, rfl, hi⟩ : ∃ i : Int, v = .int i ∧ -9 ≤ i ∧ i ≤ 9 := by
      simp only [List.mem_cons, List.not_mem_nil, or_false] at hv
      rcases hv with rfl | rfl | rfl | rfl | rfl | rfl | rfl | rfl | rfl
      · exact ⟨_, rfl, by decide, by decide⟩
      · exact ⟨_, rfl, by decide, by decide⟩
      · exact ⟨_, rfl, by decide, by decide⟩
      · exact ⟨_, rfl, by decide, by decide⟩
      · exact ⟨_, rfl, by decide, by decide⟩
      · exact ⟨_, rfl, by decide, by decide⟩
      · exact ⟨_, rfl, by decide, by decide⟩
      · exact ⟨_, rfl, by decide, by decide⟩
      · exact ⟨_, rfl, by decide, by decide⟩
    have g13 := (g1.add hl (.lst [.int (-9), .int (-4), .int (-3), .int (-2), .int (-1), .int 0, .int 2, .int 3, .int 9])).trans g3
    refine ⟨_, rfl, _, rfl, _, rfl, _, rfl, _, _, rfl, rfl, d, c, nl, _, _, rfl, ez, D3, NM.d DK g13, by omega, fun H4 v e g4 D4 hd ok => ⟨szl (by simp), fun p hp => ?_⟩⟩
    refine q _ _ (.times i e) ((g13.trans g4).add hp _) ((D4.new (Ch.new hp _)).mono (by omega)) ?_ ⟨hi, ok⟩
    exact dp_new hp (by rw [flatTs, flatTs, flatTs, flat_eE]; rfl) (dpa_3 (.str _) (.int _) hd)
  · refine ⟨_, rfl, _, rfl, _, rfl, _, _, rfl, rfl, d, c, nl, _, _, rfl, ez, D1, N1, by omega, fun H3 v1 e1 g3 D3 hd1 ok1 => ?_⟩
    have N3 := N1.d D1 g3
    obtain ⟨b, hat⟩ : ∃ b : Bool, atI [V.str "plus", V.str "minus"] (wy % 2) = some (V.str (if b then "plus" else "minus")) := by
      rcases (by omega : wy % 2 = 0 ∨ wy % 2 = 1) with e | e
      · exact ⟨true, by rw [e]; rfl⟩
      · exact ⟨false, by rw [e]; rfl⟩
    refine ⟨szl (by simp), fun l hl => ⟨_, rfl, .inl ⟨_, rfl, _, _, rfl, rfl, (by show (0 : Int) < 2; decide), l, _, _, _, rfl, rfl, SqL.of upd_same, hat, ?_⟩⟩⟩
    have gl : Ch [d, c] H3 (upd H3 l (.lst [V.str "plus", V.str "minus"])) := Ch.new hl _
    refine ⟨_, rfl, _, rfl, _, rfl, _, rfl, _, _, rfl, rfl, d, c, nl, _, _, rfl, ez, D3.new (Ch.new hl _), N3.d D3 gl, by omega, fun H4 v2 e2 g4 D4 hd2 ok2 => ⟨szl (by simp), fun p hp => ?_⟩⟩
    have gall := (((g1.trans g3).trans gl).trans g4).add hp (.tup [.str (if b then "plus" else "minus"), v1, v2])
    have dp : Dp K (upd H4 p (.tup [.str (if b then "plus" else "minus"), v1, v2])) (.ref p) (.tuple [.str (if b then "plus" else "minus"), eE e1, eE e2]) :=
      dp_new hp (by rw [flatTs, flatTs, flatTs, flat_eE, flat_eE]; rfl) (dpa_3 (.str _) ((gl.trans g4).dE hd1) hd2)
    cases b with
    | true => exact q _ _ (.plus e1 e2) gall ((D4.new (Ch.new hp _)).mono (by omega)) dp ⟨ok1, ok2⟩
    | false => exact q _ _ (.minus e1 e2) gall ((D4.new (Ch.new hp _)).mono (by omega)) dp ⟨ok1, ok2⟩
theorem v_l_expression {P : Program} {w : World} {K : PySem.W.Frag} {mg : Str → Option Value} {base : Heap} {aC aK : Addr} (D : Dh K mg "_law_expression" s_l_expression ["_law_deck_here", "_law_names_here", "_law_deep"]) (T : Txt K mg aC aK) (c_l_draw : Df P w K mg base 1 "_law_draw" spDrw) (c_l_one : Df P w K mg base 2 "_law_one" (spOne K)) :
    ∀ n, Df P w K mg base (n + 3) "_law_expression" (spExp K (n + 1) (4 ^ (n + 1)))
  | 0 => exp_step D T c_l_draw c_l_one 0 (D.none fun _ _ _ _ h => h)
  | n + 1 => exp_step D T c_l_draw c_l_one (n + 1) (v_l_expression D T c_l_draw c_l_one n)
theorem lf_only {B : Nat} {H : Hp} {d c nl lf : Addr} {a1 a2 : Int} (S : St3 B H d c nl lf a1 a2) : ∃ a0 a3 a4 : Int, H lf = some (.lst [.int a0, .int a1, .int a2, .int a3, .int a4]) := S.lt
theorem at4 {a b c d e : V} {r : List V} : atI (a :: b :: c :: d :: e :: r) 4 = some e := atI_nat (j := 4) rfl
abbrev s_l_test : Stmt := tp 50
theorem sc_l_test : FnScope ["_law_deck_here", "_law_names_here", "_law_left", "_law_times", "_law_nots", "_law_test_here", "_law_by", "_law_first", "_law_k"] ["_law_deck_here", "_law_names_here", "_law_left", "_law_times"] (defScope s_l_test) := ⟨rfl, rfl, rfl, by decide +kernel, rfl, by decide +kernel, by decide +kernel⟩
theorem v_l_test (D : Dh K mg "_law_test" s_l_test ["_law_deck_here", "_law_names_here", "_law_left", "_law_times"]) (T : Txt K mg aC aK) (c_l_draw : Df P w K mg base 1 "_law_draw" spDrw) (c_l_one : Df P w K mg base 2 "_law_one" (spOne K)) (c_l_expression : Df P w K mg base 5 "_law_expression" (spExp K 3 64)) :
    Df P w K mg base 6 "_law_test" (spTst K) := by
  refine D.ok sc_l_test (fun vs H Q E h => ?_) (fun f cdv Ar outer s H vs Q E hr h => ?_)
  · obtain ⟨d, c, nl, lf, B, tm, a1, a2, rfl, _⟩ := h
    rfl
  obtain ⟨d, c, nl, lf, B, tm, a1, a2, rfl, S, hB, q⟩ := h
  refine ⟨_, (pss_cons (ps_par (i := 4) (j := 5) rfl sc_l_test.nd rfl rfl (by decide) rfl rfl (pa_cons (pe_op op_sub (pdf c_l_draw hr (by first | decide | omega) rfl (pa_cons (pv 0) (pa_cons pe_int pa_nil))) pe_int) (pa_cons (pe_tup pa_nil) pa_nil)) (by rfl))
      (pss_cons (ps_if (PW.pt (pw_and (pt_cmpR op_eq (pdf c_l_draw hr (by first | decide | omega) rfl (pa_cons (pv 0) (pa_cons pe_int pa_nil))) pe_int (nomark _)) (pw_and1 (pt_cmpR op_ge (pe_ix ix_list (pv 2) pe_int (fun _ _ => rfl)) (pv 3) (nomark _))))) (pss_cons (ps_asg (pe_op op_sub (pe_ix ix_list (pv 2) pe_int (fun _ _ => rfl)) (pv 3)) (pg_sub (pv 2) pe_int set_list))
      (pss_cons (ps_set (i := 6) sc_l_test.nd rfl (Or.inl rfl) (pe_op op_add pe_int (pdf c_l_draw hr (by first | decide | omega) rfl (pa_cons (pv 0) (pa_cons pe_int pa_nil)))))
      (pss_one (ps_set (i := 5) sc_l_test.nd rfl (Or.inl rfl) (pe_tup (pa_cons pe_str (pa_cons (pdf c_l_expression hr (by first | decide | omega) rfl (pa_cons (pv 0) (pa_cons (pv 1) (pa_cons pe_int pa_nil)))) (pa_cons (pv 6) (pa_cons (pdf c_l_draw hr (by first | decide | omega) rfl (pa_cons (pv 0) (pa_cons (pv 6) pa_nil))) pa_nil))))))))) (pss_one (ps_if (pt_cmpR op_ge (pe_ix ix_list (pv 2) pe_int (fun _ _ => rfl)) (pv 3) (nomark _)) (pss_cons (ps_asg (pe_op op_sub (pe_ix ix_list (pv 2) pe_int (fun _ _ => rfl)) (pv 3)) (pg_sub (pv 2) pe_int set_list))
      (pss_cons (ps_set (i := 7) sc_l_test.nd rfl (Or.inl rfl) (pdf c_l_expression hr (by first | decide | omega) rfl (pa_cons (pv 0) (pa_cons (pv 1) (pa_cons pe_int pa_nil)))))
      (pss_one (ps_set (i := 5) sc_l_test.nd rfl (Or.inl rfl) (pe_tup (pa_cons pe_str (pa_cons (pv 7) (pa_cons (pdf c_l_one hr (by first | decide | omega) rfl (pa_cons (pv 0) (pa_cons (pe_lst (pa_cons (pe_op op_sub (pdf c_l_draw hr (by first | decide | omega) rfl (pa_cons (pv 0) (pa_cons pe_int pa_nil))) pe_int) (pa_cons (pdf c_l_expression hr (by first | decide | omega) rfl (pa_cons (pv 0) (pa_cons (pv 1) (pa_cons pe_int pa_nil)))) pa_nil))) pa_nil))) pa_nil)))))))) pss_nil)))
      (pss_cons (ps_for PassesOwn.never rfl (pi_range1 (by rfl) T.z_range (pa_cons (pe_ifExp (pt_cmpR (op_neD hr.units) (pv 5) (pe_tup pa_nil) (nomark _)) (pe_callB (call_max2 rfl) (by rfl) T.z_max (by decide +kernel) (pa_cons pe_int (pa_cons (pv 4) pa_nil))) pe_int) pa_nil)) (pg_name (i := 8) sc_l_test.nd rfl (Or.inl rfl)) (pss_one (ps_set (i := 5) sc_l_test.nd rfl (Or.inl rfl) (pe_tup (pa_cons pe_str (pa_cons (pv 5) pa_nil))))))
      (pss_one (ps_ret (pv 5)))))), ?_⟩
  refine ⟨_, rfl, d, c, B, 5, rfl, by decide, by decide, S.dk, by omega, fun H1 r g1 D1 r0 r5 => ⟨_, _, rfl, rfl, szl (by simp), fun t0 ht0 => ⟨_, _, rfl, ?_⟩⟩⟩
  have S1 := (S.dr g1 D1).new (Ch.new (H := H1) ht0 (.tup []))
  have G1 : Ch [d, c, lf] H (upd H1 t0 (.tup [])) := g1.w3.add ht0 _
  have E1 : Dp K (upd H1 t0 (.tup [])) (.ref t0) (eOT none) := dp_new ht0 rfl .nil
  dsimp only
  refine seq_cut (t := tIfS _ _ _) (fun sg H' => ∃ (v : V) (o : Option Ts) (o1 o2 : Option V), sg = [some (.ref d), some (.ref nl), some (.ref lf), some (.int tm), some (.int (r - 2)), some v, o1, o2, none] ∧ Ch [d, c, lf] H H' ∧ St3 (B + 180) H' d c nl lf a1 a2 ∧ Dp K H' v (eOT o) ∧ ∀ t, o = some t → TsOk Pb 0 t) (fun nx hnx => ?_) ?_
  · have fall : ∀ H2, Ch [d, c, lf] H H2 → St3 (B + 2) H2 d c nl lf a1 a2 → Dp K H2 (.ref t0) (eOT none) → nx [some (.ref d), some (.ref nl), some (.ref lf), some (.int tm), some (.int (r - 2)), some (.ref t0), none, none, none] H2 :=
      fun H2 G2 S2 E2 => hnx _ _ ⟨_, none, _, _, rfl, G2, S2.mono (by omega), E2, fun t h => nomatch h⟩
    let Fa : Hp → Prop := fun H2 => Ch [d, c, lf] H H2 ∧ St3 (B + 2) H2 d c nl lf a1 a2 ∧ Dp K H2 (.ref t0) (eOT none)
    refine ifS_cut Fa Fa (fun R hT hF => ?_) (fun H2 ⟨G2, S2, E2⟩ => ?_) (fun H2 ⟨G2, S2, E2⟩ => ?_)
    · refine ⟨_, rfl, d, c, _, 2, rfl, by decide, by decide, S1.dk, by omega, fun H2 r2 g2 D2 _ _ => ?_⟩
      have S2 := S1.dr g2 D2
      obtain ⟨a0, a3, a4, e2⟩ := S2.lt
      have fa : Fa H2 := ⟨G1.trans g2.w3, S2, g2.dOT E1⟩
      refine ⟨rfl, _, rfl, if2 (fun _ => ?_) (fun _ => hF _ fa)⟩
      refine ⟨_, rfl, lf, _, _, _, rfl, rfl, SqL.of e2, at3, _, rfl, _, _, rfl, rfl, _, rfl, ?_⟩
      cases decide (tm ≤ a3) with
      | true => exact hT _ fa
      | false => exact hF _ fa
    · obtain ⟨a0, a3, a4, e2⟩ := S2.lt
      refine ⟨_, rfl, lf, _, _, _, rfl, rfl, SqL.of e2, at3, _, rfl, _, _, rfl, rfl, _, rfl, lf, _, _, 3, rfl, rfl, e2, rfl, ?_⟩
      obtain ⟨S3, g3⟩ := S2.put a0 a1 a2 (a3 - tm) a4
      have G3 := G2.trans g3
      refine ⟨_, rfl, d, c, _, 5, rfl, by decide, by decide, S3.dk, by omega, fun H4 m g4 D4 m0 m5 => ⟨_, _, rfl, rfl, ?_⟩⟩
      have S4 := S3.dr g4 D4
      refine ⟨_, rfl, _, rfl, d, c, nl, _, 3, rfl, rfl, S4.dk, S4.nm, by omega, fun H5 v e g5 D5 hd5 ok5 => ⟨_, rfl, _, rfl, _, rfl, d, c, _, _, rfl, by omega, by omega, D5, by omega, fun H6 y g6 D6 y0 y1 => ⟨szl (by simp), fun p hp => ?_⟩⟩⟩
      have S6 := (S4.dr g5 D5).dr g6 D6
      refine hnx _ _ ⟨_, some (.rest e (2 + m) y), _, _, rfl, ((((G3.trans g4.w3).trans g5.w3).trans g6.w3).add hp _), (S6.mono (by omega)).new (Ch.new hp _), ?_, fun t ht => ?_⟩
      · exact dp_new hp (by rw [flatTs, flatTs, flatTs, flatTs, flat_eE]; rfl) (dpa_4 (.str _) (g6.dE hd5) (.int _) (.int _))
      · cases ht
        exact ⟨ok5, by omega, by omega, y0, y1⟩
    · obtain ⟨a0, a3, a4, e2⟩ := S2.lt
      refine ⟨_, rfl, lf, _, _, _, rfl, rfl, SqL.of e2, at4, _, rfl, _, _, rfl, rfl, _, rfl, if2 (fun _ => ?_) (fun _ => fall H2 G2 S2 E2)⟩
      refine ⟨_, rfl, lf, _, _, _, rfl, rfl, SqL.of e2, at4, _, rfl, _, _, rfl, rfl, _, rfl, lf, _, _, 4, rfl, rfl, e2, rfl, ?_⟩
      obtain ⟨S3, g3⟩ := S2.put a0 a1 a2 a3 (a4 - tm)
      have G3 := G2.trans g3
      refine ⟨_, rfl, _, rfl, d, c, nl, _, 3, rfl, rfl, S3.dk, S3.nm, by omega, fun H5 v e g5 D5 hd5 ok5 => ?_⟩
      have S5 := S3.dr g5 D5
      refine ⟨_, rfl, _, rfl, _, rfl, d, c, _, 41, rfl, by decide, by decide, D5, by omega, fun H6 y g6 D6 y0 y1 => ⟨_, _, rfl, rfl, ?_⟩⟩
      have S6 := S5.dr g6 D6
      refine ⟨_, rfl, _, rfl, d, c, nl, _, 3, rfl, rfl, S6.dk, S6.nm, by omega, fun H7 v2 e2' g7 D7 hd7 ok7 => ⟨szl (by simp), fun l hl => .inl ⟨d, c, l, _, _, rfl, D7.new (Ch.new hl _), by omega, SqL.of upd_same, D7.no hl, by simp, by simp, fun H8 v8 g8 D8 hv => ⟨szl (by simp), fun p hp => ?_⟩⟩⟩⟩
      have S8 := ((S6.dr g7 D7).new (Ch.new hl _)).dr g8 D8
      obtain ⟨e8, hd8, ok8⟩ : ∃ e, Dp K H8 v8 (eE e) ∧ ExOk Pb 3 e := by
        simp only [List.mem_cons, List.not_mem_nil, or_false] at hv
        rcases hv with rfl | rfl
        · exact ⟨.num (y - 20), .int _, by omega, by omega⟩
        · exact ⟨e2', g8.dE ((Ch.new (M := []) hl _).dE hd7), ok7⟩
      have hd5' := g8.dE ((Ch.new (M := []) hl (.lst [.int (y - 20), v2])).dE (g7.dE (g6.dE hd5)))
      refine hnx _ _ ⟨_, some (.less e e8), _, _, rfl, (((((((G3.trans g5.w3).trans g6.w3).trans g7.w3).add hl _).trans g8.w3).add hp _)), (S8.mono (by omega)).new (Ch.new hp _), ?_, fun t ht => ?_⟩
      · exact dp_new hp (by rw [flatTs, flatTs, flatTs, flat_eE, flat_eE]; rfl) (dpa_3 (.str _) hd5' hd8)
      · cases ht
        exact ⟨ok5, ok8⟩
  rintro sg H' ⟨v, o, o1, o2, rfl, G, S', hv, ho⟩
  have S2 : St3 (B + 200) H' d c nl lf a1 a2 := S'.mono (by omega)
  cases o with
  | none =>
    refine ⟨_, rfl, szl (by simp), fun e0 he0 => ?_⟩
    have c0 : Ch [] H' (upd H' e0 (.tup [])) := Ch.new he0 _
    refine ⟨.tuple [], .tuple [], c0.dOT hv, .tup sqt_new .nil, shaped_nilT, shaped_nilT, _, rfl, ?_⟩
    rw [eqv_nil]
    refine iteF ⟨_, rfl, by decide, by decide, ?_⟩
    refine for_range (fun i sg H2 => i = 0 ∧ H2 = upd H' e0 (.tup []) ∧ ∃ o1 o2 o3, sg = [some (.ref d), some (.ref nl), some (.ref lf), some (.int tm), some (.int (r - 2)), some v, o1, o2, o3]) ⟨rfl, rfl, _, _, _, rfl⟩ (fun i sg H2 hi h => absurd hi (Nat.not_lt_zero _)) ?_
    rintro sg H2 ⟨_, rfl, o1, o2, o3, rfl⟩
    exact ⟨_, rfl, q _ _ none (G.trans c0.nil) (S2.new c0) (c0.dOT hv) (fun t h => nomatch h)⟩
  | some t =>
    refine ⟨_, rfl, szl (by simp), fun e0 he0 => ?_⟩
    have c0 : Ch [] H' (upd H' e0 (.tup [])) := Ch.new he0 _
    have tok : TsOk Pn 2 t := TsOk.mono (fun x hx => hx.1) (by decide : 0 ≤ 2) (ho t rfl)
    refine ⟨eT t, .tuple [], c0.dOT hv, .tup sqt_new .nil, shaped_T (P := Pn) (fun x h => h.2.2) tok (by decide), shaped_nilT, _, rfl, ?_⟩
    rw [eqv_T]
    refine iteT ⟨_, rfl, _, _, rfl, _, rfl, ?_, ?_, ?_⟩
    · split <;> omega
    · split <;> omega
    have hn2 : (if (r - 2 : Int) > 0 then r - 2 else 0).toNat ≤ 2 := by split <;> omega
    refine for_range (fun i sg H2 => Ch [] H' H2 ∧ ∃ (v : V) (t : Ts) (o1 o2 o3 : Option V), sg = [some (.ref d), some (.ref nl), some (.ref lf), some (.int tm), some (.int (r - 2)), some v, o1, o2, o3] ∧ Dp K H2 v (eT t) ∧ TsOk Pb i t) ⟨c0, v, t, _, _, _, rfl, c0.dOT (o := some t) hv, ho t rfl⟩ ?_ ?_
    · rintro i sg H2 hi ⟨c2, v, t, o1, o2, o3, rfl, hd, ok⟩
      refine ⟨_, rfl, szl (by simp), fun p hp => ?_⟩
      refine ⟨c2.add hp _, .ref p, .no t, _, _, _, rfl, dp_new hp (by rw [flatTs, flatTs, flatTs, flat_eT]; rfl) (dpa_2 (.str _) hd), ok⟩
    · rintro sg H2 ⟨c2, v, t, o1, o2, o3, rfl, hd, ok⟩
      exact ⟨_, rfl, q _ _ (some t) (G.trans c2.nil) (S2.new c2) hd (fun t' h => by cases h; exact TsOk.mono (fun _ h => h) hn2 ok)⟩
end
end K28
/-! K28BD: the law's rows and blocks. -/
namespace K28
open PySem PySem.Spec PyProof.Rows L2
theorem rdec {R : Bool → Hp → Prop} {H : Hp} {p : Prop} [Decidable p] (a : p → R true H) (b : ¬ p → R false H) : R (decide p) H := by
  by_cases h : p
  · rw [decide_eq_true h]; exact a h
  · rw [decide_eq_false h]; exact b h
def spPln (K : PySem.W.Frag) : Sp := fun vs H Q _ => ∃ (d c nl : Addr) (B : Nat), vs = [.ref d, .ref nl] ∧ Deck B H d c ∧ Nms H nl ∧ B + 100 < 1099511627776 ∧
  ∀ H' v s, Ch [d, c] H H' → Deck (B + 100) H' d c → Dp K H' v (eS s) → (∀ k, SmOk Pb k s) → wS s = 1 → cS s = 0 → Q v H'
def bC : Nat → Nat
  | 0 => 0
  | f + 1 => 1 + 4 * (400 + 2 * bC f)
def rC (f : Nat) : Nat := 400 + 2 * bC f
def eOS : Option Sm → PyData
  | none => .tuple []
  | some s => eS s
def oW : Option Sm → Nat
  | none => 0
  | some s => wS s
def oC : Option Sm → Nat
  | none => 0
  | some s => cS s
theorem flat_OS (o : Option Sm) : flatT (eOS o) = true := by
  cases o with
  | none => rfl
  | some t => exact flat_eS t
theorem Ch.dOS {K : PySem.W.Frag} {M : List Addr} {H H' : Hp} (c : Ch M H H') {v : V} {o : Option Sm} (h : Dp K H v (eOS o)) : Dp K H' v (eOS o) := Dp.gw c.imm _ _ (flat_OS o) h
theorem Ch.dOSs {K : PySem.W.Frag} {M : List Addr} {H H' : Hp} (c : Ch M H H') {vs : List V} {os : List (Option Sm)} (h : DpAll K H vs (os.map eOS)) : DpAll K H' vs (os.map eOS) :=
  DpAll.gw c.imm _ _ (flatTs_mem fun x hx => by
    obtain ⟨r, _, rfl⟩ := List.mem_map.mp hx
    exact flat_OS r) h
def spRow (K : PySem.W.Frag) (f : Nat) : Sp := fun vs H Q _ => ∃ (d c nl lf : Addr) (B t : Nat) (z k a1 a2 : Int), vs = [.ref d, .ref nl, .ref lf, .int z, .int k] ∧ z = (t : Int) ∧ k = 3 - (f : Int) ∧ 1 ≤ t ∧ 0 ≤ a1 ∧ 0 ≤ a2 ∧ St3 B H d c nl lf a1 a2 ∧ B + rC f < 1099511627776 ∧
  ∀ H' v o b1 b2, Ch [d, c, lf] H H' → St3 (B + rC f) H' d c nl lf b1 b2 → 0 ≤ b1 → 0 ≤ b2 → Dp K H' v (eOS o) → (∀ s, o = some s → SmOk Pb (f + 1) s) → ((t * oW o : Nat) : Int) + b1 ≤ a1 → ((t * oC o : Nat) : Int) + b2 ≤ a2 → Q v H'
def spRowB (K : PySem.W.Frag) : Nat → Sp
  | 0 => fun _ _ _ _ => False
  | f + 1 => spRow K f
def spBlk (K : PySem.W.Frag) (f : Nat) : Sp := fun vs H Q _ => ∃ (d c nl lf : Addr) (B t : Nat) (z k a1 a2 : Int), vs = [.ref d, .ref nl, .ref lf, .int z, .int k] ∧ z = (t : Int) ∧ k = 4 - (f : Int) ∧ 1 ≤ t ∧ 0 ≤ a1 ∧ 0 ≤ a2 ∧ St3 B H d c nl lf a1 a2 ∧ B + bC f < 1099511627776 ∧
  ∀ H' v b b1 b2, Ch [d, c, lf] H H' → St3 (B + bC f) H' d c nl lf b1 b2 → 0 ≤ b1 → 0 ≤ b2 → Dp K H' v (.tuple (eB b)) → BlOk Pb f b → ((t * wB b : Nat) : Int) + b1 ≤ a1 → ((t * cB b : Nat) : Int) + b2 ≤ a2 → Q v H'
section
variable {P : Program} {w : World} {K : PySem.W.Frag} {mg : Str → Option Value} {base : Heap} {aC aK C : Addr}
abbrev s_l_plain : Stmt := tp 51
theorem sc_l_plain : FnScope ["_law_deck_here", "_law_names_here", "_law_way", "_law_name"] ["_law_deck_here", "_law_names_here"] (defScope s_l_plain) := ⟨rfl, rfl, rfl, by decide +kernel, rfl, by decide +kernel, by decide +kernel⟩
theorem v_l_plain (D : Dh K mg "_law_plain" s_l_plain ["_law_deck_here", "_law_names_here"]) (c_l_draw : Df P w K mg base 1 "_law_draw" spDrw) (c_l_one : Df P w K mg base 2 "_law_one" (spOne K)) (c_l_expression : Df P w K mg base 5 "_law_expression" (spExp K 3 64)) :
    Df P w K mg base 6 "_law_plain" (spPln K) := by
  refine D.ok sc_l_plain (fun vs H Q E h => ?_) (fun f cdv Ar outer s H vs Q E hr h => ?_)
  · obtain ⟨d, c, nl, B, rfl, _⟩ := h
    rfl
  obtain ⟨d, c, nl, B, rfl, DK, NM, hB, q⟩ := h
  refine ⟨_, (pss_cons (ps_par (i := 2) (j := 3) rfl sc_l_plain.nd rfl rfl (by decide) rfl rfl (pa_cons (pdf c_l_draw hr (by first | decide | omega) rfl (pa_cons (pv 0) (pa_cons pe_int pa_nil))) (pa_cons (pdf c_l_one hr (by first | decide | omega) rfl (pa_cons (pv 0) (pa_cons (pv 1) pa_nil))) pa_nil)) (by rfl))
      (pss_cons (ps_if (pt_cmpR op_lt (pv 2) pe_int (nomark _)) (pss_one (ps_ret (pe_tup (pa_cons pe_str (pa_cons (pv 3) (pa_cons (pdf c_l_expression hr (by first | decide | omega) rfl (pa_cons (pv 0) (pa_cons (pv 1) (pa_cons pe_int pa_nil)))) pa_nil)))))) pss_nil)
      (pss_cons (ps_if (pt_cmpR op_eq (pv 2) pe_int (nomark _)) (pss_one (ps_ret (pe_tup (pa_cons pe_str (pa_cons (pv 3) (pa_cons (pv 3) pa_nil)))))) pss_nil)
      (pss_cons (ps_if (PW.pt (pw_and (pt_cmpR op_eq (pv 2) pe_int (nomark _)) (pw_and1 (pt_cmpR op_eq (pdf c_l_draw hr (by first | decide | omega) rfl (pa_cons (pv 0) (pa_cons pe_int pa_nil))) pe_int (nomark _))))) (pss_one (ps_ret (pe_tup (pa_cons pe_str pa_nil)))) pss_nil)
      (pss_one (ps_ret (pe_tup (pa_cons pe_str (pa_cons (pdf c_l_expression hr (by first | decide | omega) rfl (pa_cons (pv 0) (pa_cons (pv 1) (pa_cons pe_int pa_nil)))) pa_nil))))))))), ?_⟩
  refine ⟨_, rfl, d, c, B, 12, rfl, by decide, by decide, DK, by omega, fun H1 r g1 D1 r0 r12 => ?_⟩
  have N1 := NM.d DK g1
  obtain ⟨xs, hx, hxl, hxo⟩ := N1.ex
  refine ⟨_, rfl, _, rfl, .inl ⟨d, c, nl, _, _, rfl, D1, by omega, SqL.of hx, N1.no D1, by rw [List.length_map]; omega, by rw [List.length_map]; omega, fun H2 v g2 D2 hv => ⟨_, _, rfl, ?_⟩⟩⟩
  have N2 := N1.d D1 g2
  obtain ⟨x, hxm, rfl⟩ := List.mem_map.mp hv
  have px := hxo x hxm
  refine ⟨_, rfl, _, _, rfl, rfl, _, rfl, if2 (fun _ => ?_) (fun _ => ?_)⟩
  · refine ⟨_, rfl, _, rfl, _, rfl, d, c, nl, _, 3, rfl, rfl, D2, N2, by omega, fun H3 v e g3 D3 hd ok => ⟨szl (by simp), fun p hp => ?_⟩⟩
    refine q _ _ (.set x e) (((g1.trans g2).trans g3).add hp _) ((D3.new (Ch.new hp _)).mono (by omega)) (dp_new hp (by rw [flatTs, flatTs, flatTs, flat_eE]; rfl) (dpa_3 (.str _) (.str _) hd)) (fun k => ?_) rfl rfl
    cases k <;> exact ⟨px, ok⟩
  refine ⟨_, rfl, rfl, _, rfl, if2 (fun _ => ?_) (fun _ => ?_)⟩
  · refine ⟨_, rfl, _, rfl, szl (by simp), fun p hp => ?_⟩
    refine q _ _ (.set x (.nm x)) ((g1.trans g2).add hp _) ((D2.new (Ch.new hp _)).mono (by omega)) (dp_new hp (by simp [flatTs, flatT, eE]) (dpa_3 (.str _) (.str _) (.str _))) (fun k => ?_) rfl rfl
    cases k <;> exact ⟨px, px⟩
  dsimp only [tNext]
  refine seq_cut (t := tIfS _ _ _) (fun sg H' => ∃ o1 o2, sg = [some (.ref d), some (.ref nl), o1, o2] ∧ Ch [d, c] H H' ∧ Deck (B + 3) H' d c ∧ Nms H' nl) (fun nx hnx => ?_) ?_
  · let Fa : Hp → Prop := fun H' => Ch [d, c] H H' ∧ Deck (B + 3) H' d c ∧ Nms H' nl
    refine ifS_cut Fa Fa (fun R hT hF => ?_) (fun H' ⟨g, D', N'⟩ => ?_) (fun H' ⟨g, D', N'⟩ => hnx _ _ ⟨_, _, rfl, g, D', N'⟩)
    · refine ⟨_, rfl, rfl, _, rfl, if2 (fun _ => ?_) (fun _ => hF _ ⟨g1.trans g2, D2.mono (by omega), N2⟩)⟩
      refine ⟨_, rfl, d, c, _, 2, rfl, by decide, by decide, D2, by omega, fun H3 r3 g3 D3 _ _ => ⟨rfl, _, rfl, ?_⟩⟩
      have fa : Fa H3 := ⟨(g1.trans g2).trans g3, D3, N2.d D2 g3⟩
      exact rdec (fun _ => hT _ fa) (fun _ => hF _ fa)
    · refine ⟨szl (by simp), fun p hp => ?_⟩
      refine q _ _ .stop (g.add hp _) ((D'.new (Ch.new hp _)).mono (by omega)) (dp_new hp rfl (dpa_1 (.str _))) (fun k => ?_) rfl rfl
      cases k <;> trivial
  rintro sg H' ⟨o1, o2, rfl, g, D', N'⟩
  refine ⟨_, rfl, _, rfl, d, c, nl, _, 3, rfl, rfl, D', N', by omega, fun H3 v e g3 D3 hd ok => ⟨szl (by simp), fun p hp => ?_⟩⟩
  refine q _ _ (.pay e) ((g.trans g3).add hp _) ((D3.new (Ch.new hp _)).mono (by omega)) (dp_new hp (by rw [flatTs, flatTs, flat_eE]; rfl) (dpa_2 (.str _) hd)) (fun k => ?_) rfl rfl
  cases k <;> exact ok
abbrev s_l_row : Stmt := tp 52
theorem sc_l_row : FnScope ["_law_deck_here", "_law_names_here", "_law_left", "_law_times", "_law_depth", "_law_way", "_law_test_here", "_law_yes", "_law_again", "_law_one_here"] ["_law_deck_here", "_law_names_here", "_law_left", "_law_times", "_law_depth"] (defScope s_l_row) := ⟨rfl, rfl, rfl, by decide +kernel, rfl, by decide +kernel, by decide +kernel⟩
theorem row_step (D : Dh K mg "_law_row" s_l_row ["_law_deck_here", "_law_names_here", "_law_left", "_law_times", "_law_depth"]) (c_l_draw : Df P w K mg base 1 "_law_draw" spDrw) (c_l_one : Df P w K mg base 2 "_law_one" (spOne K)) (c_l_test : Df P w K mg base 6 "_law_test" (spTst K)) (c_l_plain : Df P w K mg base 6 "_law_plain" (spPln K)) (n : Nat) (c_l_block : Df P w K mg base (7 + 2 * n) "_law_block" (spBlk K n)) :
    Df P w K mg base (8 + 2 * n) "_law_row" (spRow K n) := by
  have e8 : 8 + 2 * n = (7 + 2 * n) + 1 := by omega
  rw [e8]
  refine D.ok sc_l_row (fun vs H Q E h => ?_) (fun f cdv Ar outer s H vs Q E hr h => ?_)
  · obtain ⟨d, c, nl, lf, B, t, z, k, a1, a2, rfl, _⟩ := h
    rfl
  obtain ⟨d, c, nl, lf, B, t, z, k, a1, a2, rfl, rfl, rfl, ht, p1, p2, S, hB, q⟩ := h
  have rc : rC n = 400 + 2 * bC n := rfl
  refine ⟨_, (pss_cons (ps_if (PW.pt (pw_or (pt_cmpR op_lt (pe_ix ix_list (pv 2) pe_int (fun _ _ => rfl)) pe_int (nomark _)) (pw_or1 (pt_cmpR op_lt (pe_ix ix_list (pv 2) pe_int (fun _ _ => rfl)) (pv 3) (nomark _))))) (pss_one (ps_ret (pe_tup pa_nil))) pss_nil)
      (pss_cons (ps_asg (pe_tup (pa_cons (pe_op op_sub (pe_ix ix_list (pv 2) pe_int (fun _ _ => rfl)) pe_int) (pa_cons (pe_op op_sub (pe_ix ix_list (pv 2) pe_int (fun _ _ => rfl)) (pv 3)) pa_nil))) (pg_tup (by rfl) (pgs_cons (pg_sub (pv 2) pe_int set_list) (pgs_cons (pg_sub (pv 2) pe_int set_list) pgs_nil))))
      (pss_cons (ps_set (i := 5) sc_l_row.nd rfl (Or.inl rfl) (pdf c_l_draw hr (by first | decide | omega) rfl (pa_cons (pv 0) (pa_cons pe_int pa_nil))))
      (pss_cons (ps_set (i := 6) sc_l_row.nd rfl (Or.inl rfl) (pe_ifExp (pt_cmpR op_eq (pv 5) pe_int (nomark _)) (pdf c_l_test hr (by first | decide | omega) rfl (pa_cons (pv 0) (pa_cons (pv 1) (pa_cons (pv 2) (pa_cons (pv 3) pa_nil))))) (pe_tup pa_nil)))
      (pss_cons (ps_if (pt_cmpR (op_neD hr.units) (pv 6) (pe_tup pa_nil) (nomark _)) (pss_cons (ps_set (i := 7) sc_l_row.nd rfl (Or.inl rfl) (pdf c_l_block hr (by first | decide | omega) rfl (pa_cons (pv 0) (pa_cons (pv 1) (pa_cons (pv 2) (pa_cons (pv 3) (pa_cons (pe_op op_add (pv 4) pe_int) pa_nil)))))))
      (pss_one (ps_ret (pe_tup (pa_cons pe_str (pa_cons (pv 6) (pa_cons (pv 7) (pa_cons (pdf c_l_block hr (by first | decide | omega) rfl (pa_cons (pv 0) (pa_cons (pv 1) (pa_cons (pv 2) (pa_cons (pv 3) (pa_cons (pe_op op_add (pv 4) pe_int) pa_nil)))))) pa_nil)))))))) pss_nil)
      (pss_cons (ps_if (pt_cmpR op_eq (pv 5) pe_int (nomark _)) (pss_cons (ps_set (i := 8) sc_l_row.nd rfl (Or.inl rfl) (pdf c_l_one hr (by first | decide | omega) rfl (pa_cons (pv 0) (pa_cons (pe_lst (pa_cons pe_int (pa_cons pe_int (pa_cons pe_int (pa_cons pe_int (pa_cons pe_int (pa_cons pe_int (pa_cons pe_int pa_nil)))))))) pa_nil))))
      (pss_one (ps_ret (pe_tup (pa_cons pe_str (pa_cons (pv 8) (pa_cons (pdf c_l_block hr (by first | decide | omega) rfl (pa_cons (pv 0) (pa_cons (pv 1) (pa_cons (pv 2) (pa_cons (pe_op op_mul (pv 3) (pv 8)) (pa_cons (pe_op op_add (pv 4) pe_int) pa_nil)))))) pa_nil))))))) pss_nil)
      (pss_cons (ps_if (PW.pt (pw_and (pt_cmpR op_lt (pv 5) pe_int (nomark _)) (pw_and1 (pt_cmpR op_ge (pe_ix ix_list (pv 2) pe_int (fun _ _ => rfl)) (pv 3) (nomark _))))) (pss_cons (ps_asg (pe_op op_sub (pe_ix ix_list (pv 2) pe_int (fun _ _ => rfl)) (pv 3)) (pg_sub (pv 2) pe_int set_list))
      (pss_cons (ps_set (i := 9) sc_l_row.nd rfl (Or.inl rfl) (pdf c_l_block hr (by first | decide | omega) rfl (pa_cons (pv 0) (pa_cons (pv 1) (pa_cons (pv 2) (pa_cons (pv 3) (pa_cons (pe_op op_add (pv 4) pe_int) pa_nil)))))))
      (pss_one (ps_ret (pe_tup (pa_cons (pdf c_l_one hr (by first | decide | omega) rfl (pa_cons (pv 0) (pa_cons (pe_lst (pa_cons pe_str (pa_cons pe_str pa_nil))) pa_nil))) (pa_cons (pv 9) (pa_cons (pdf c_l_block hr (by first | decide | omega) rfl (pa_cons (pv 0) (pa_cons (pv 1) (pa_cons (pv 2) (pa_cons (pv 3) (pa_cons (pe_op op_add (pv 4) pe_int) pa_nil)))))) pa_nil)))))))) pss_nil)
      (pss_one (ps_ret (pdf c_l_plain hr (by first | decide | omega) rfl (pa_cons (pv 0) (pa_cons (pv 1) pa_nil)))))))))))), ?_⟩
  obtain ⟨a0, a3, a4, e⟩ := S.lt
  refine seq_cut (fun sg H' => sg = [some (.ref d), some (.ref nl), some (.ref lf), some (.int (t : Int)), some (.int (3 - (n : Int))), none, none, none, none, none] ∧ H' = H ∧ (t : Int) ≤ a1) (fun nx hnx => ?_) ?_
  · refine ifS_cut (fun H' => H' = H) (fun H' => H' = H ∧ (t : Int) ≤ a1) (fun R hT hF => ?_) (fun H' hH => ?_) (fun H' ⟨hH, h1⟩ => hnx _ _ ⟨rfl, hH, h1⟩)
    · refine ⟨_, rfl, lf, _, _, _, rfl, rfl, SqL.of e, at0, _, _, rfl, rfl, _, rfl, if2 (fun _ => hT _ rfl) (fun _ => ?_)⟩
      refine ⟨_, rfl, lf, _, _, _, rfl, rfl, SqL.of e, at1, _, rfl, _, _, rfl, rfl, _, rfl, ?_⟩
      exact rdec (fun _ => hT _ rfl) (fun h => hF _ ⟨rfl, by omega⟩)
    · subst hH
      refine ⟨szl (by simp), fun p hp => ?_⟩
      exact q _ _ none _ _ (Ch.new hp _) ((S.new (Ch.new hp _)).mono (by omega)) p1 p2 (.tup sqt_new .nil) (fun s h => nomatch h) (by simp [oW]) (by simp [oC])
  rintro sg H0 ⟨rfl, rfl, h1⟩
  refine ⟨_, rfl, lf, _, _, _, rfl, rfl, SqL.of e, at0, _, _, rfl, rfl, _, rfl, lf, _, _, _, rfl, rfl, SqL.of e, at1, _, rfl, _, _, rfl, rfl, szl (by simp), fun tp htp => ?_⟩
  have et : upd H0 tp (.tup [.int (a0 - 1), .int (a1 - (t : Int))]) lf = some (.lst [.int a0, .int a1, .int a2, .int a3, .int a4]) := by rw [upd_ne (ne_of_none e htp)]; exact e
  have S1 : St3 B (upd H0 tp (.tup [.int (a0 - 1), .int (a1 - (t : Int))])) d c nl lf a1 a2 := S.new (Ch.new htp _)
  obtain ⟨S2, g2⟩ := S1.put (a0 - 1) a1 a2 a3 a4
  obtain ⟨S3, g3⟩ := S2.put (a0 - 1) (a1 - (t : Int)) a2 a3 a4
  have G3 := ((Ch.new (M := [d, c, lf]) htp (.tup [.int (a0 - 1), .int (a1 - (t : Int))])).trans g2).trans g3
  refine ⟨tp, _, rfl, sqt_new, rfl, _, _, rfl, _, rfl, lf, _, _, 0, rfl, rfl, et, rfl, _, _, rfl, _, rfl, lf, _, _, 1, rfl, rfl, upd_same, rfl, rfl, ?_⟩
  refine ⟨_, rfl, d, c, B, 9, rfl, by decide, by decide, S3.dk, by omega, fun H4 wy g4 D4 w0 w9 => ?_⟩
  have S4 := S3.dr g4 D4
  have G4 := G3.trans g4.w3
  dsimp only
  refine seq_cut (t := tAsg _ _) (fun sg H' => ∃ v o, sg = [some (.ref d), some (.ref nl), some (.ref lf), some (.int (t : Int)), some (.int (3 - (n : Int))), some (.int wy), some v, none, none, none] ∧ Ch [d, c, lf] H0 H' ∧ St3 (B + 201) H' d c nl lf (a1 - (t : Int)) a2 ∧ Dp K H' v (eOT o) ∧ ∀ t, o = some t → TsOk Pb 2 t) (fun nx hnx => ?_) ?_
  · refine tAsg_cut (fun v H' => ∃ o, Ch [d, c, lf] H0 H' ∧ St3 (B + 201) H' d c nl lf (a1 - (t : Int)) a2 ∧ Dp K H' v (eOT o) ∧ ∀ t, o = some t → TsOk Pb 2 t) (fun R hR => ?_) (fun v H' ⟨o, G, S', hd, ho⟩ => hnx _ _ ⟨v, o, rfl, G, S', hd, ho⟩)
    refine ⟨_, rfl, rfl, _, rfl, if2 (fun _ => ?_) (fun _ => ?_)⟩
    · exact ⟨_, rfl, _, rfl, _, rfl, _, rfl, d, c, nl, lf, _, _, _, _, rfl, S4, by omega, fun H5 v o g5 S5 hd ho => hR _ _ ⟨o, G4.trans g5, S5.mono (by omega), hd, ho⟩⟩
    · exact ⟨szl (by simp), fun p hp => hR _ _ ⟨none, G4.add hp _, (S4.new (Ch.new hp _)).mono (by omega), dp_new hp rfl .nil, fun t h => nomatch h⟩⟩
  rintro sg H5 ⟨v, o, rfl, G5, S5, hd5, ho⟩
  refine ⟨_, rfl, szl (by simp), fun e0 he0 => ?_⟩
  have c0 : Ch [] H5 (upd H5 e0 (.tup [])) := Ch.new he0 _
  have S6 := S5.new c0
  have G6 := G5.trans c0.nil
  have hk : (3 - (n : Int)) + 1 = 4 - (n : Int) := by omega
  cases o with
  | some ts =>
    have tok := ho ts rfl
    have hd6 : Dp K (upd H5 e0 (.tup [])) v (eT ts) := c0.dOT (o := some ts) hd5
    refine ⟨eT ts, .tuple [], hd6, .tup sqt_new .nil, shaped_T (P := Pn) (fun x h => h.2.2) (TsOk.mono (fun x hx => hx.1) (Nat.le_refl 2) tok) (by decide), shaped_nilT, _, rfl, ?_⟩
    rw [eqv_T]
    refine iteT ?_
    refine ⟨_, rfl, _, rfl, _, rfl, _, rfl, _, rfl, _, _, rfl, rfl, d, c, nl, lf, _, t, _, _, _, _, rfl, rfl, hk, ht, by omega, p2, S6, by omega, fun H7 v7 y b1 b2 g7 S7 q1 q2 hd7 ok7 w7 x7 => ?_⟩
    refine ⟨_, rfl, _, rfl, _, rfl, _, rfl, _, rfl, _, rfl, _, rfl, _, _, rfl, rfl, d, c, nl, lf, _, t, _, _, _, _, rfl, rfl, hk, ht, q1, q2, S7, by omega, fun H8 v8 m b3 b4 g8 S8 q3 q4 hd8 ok8 w8 x8 => ⟨szl (by simp), fun p hp => ?_⟩⟩
    refine q _ _ (some (.ite ts y m)) b3 b4 (((G6.trans g7).trans g8).add hp _) ((S8.new (Ch.new hp _)).mono (by omega)) q3 q4 (dp_new hp (by simp [flatTs, flatT, flat_eT, flat_eB]) (dpa_4 (.str _) (g8.dT (g7.dT hd6)) (g8.dB hd7) hd8)) (fun s h => ?_) ?_ ?_
    · cases h
      exact ⟨tok, ok7, ok8⟩
    · rw [oW, wS, Nat.mul_add, Nat.mul_add, Nat.mul_one]; omega
    · rw [oC, cS, Nat.mul_add]; omega
  | none =>
    refine ⟨.tuple [], .tuple [], c0.dOT (o := none) hd5, .tup sqt_new .nil, shaped_nilT, shaped_nilT, _, rfl, ?_⟩
    rw [eqv_nil]
    refine iteF ?_
    refine ⟨_, rfl, rfl, _, rfl, if2 (fun _ => ?_) (fun _ => ?_)⟩
    · refine ⟨_, rfl, szl (by simp), fun l hl => .inl ⟨d, c, l, _, _, rfl, S6.dk.new (Ch.new hl _), by omega, SqL.of upd_same, S6.dk.no hl, by simp, by simp, fun H7 v7 g7 D7 hv => ?_⟩⟩
      obtain ⟨k, rfl, hk1, hk8⟩ : ∃ k : Nat, v7 = .int (k : Int) ∧ 1 ≤ k ∧ k ≤ 8 := by
        simp only [List.mem_cons, List.not_mem_nil, or_false] at hv
        rcases hv with rfl | rfl | rfl | rfl | rfl | rfl | rfl
        · exact ⟨1, rfl, by decide, by decide⟩
        · exact ⟨1, rfl, by decide, by decide⟩
        · exact ⟨2, rfl, by decide, by decide⟩
        · exact ⟨2, rfl, by decide, by decide⟩
        · exact ⟨3, rfl, by decide, by decide⟩
        · exact ⟨4, rfl, by decide, by decide⟩
        · exact ⟨8, rfl, by decide, by decide⟩
      have S7 := (S6.new (Ch.new hl _)).dr g7 D7
      have G7 := (G6.add hl (.lst [.int 1, .int 1, .int 2, .int 2, .int 3, .int 4, .int 8])).trans g7.w3
      refine ⟨_, rfl, _, rfl, _, rfl, _, rfl, _, rfl, _, rfl, _, _, rfl, rfl, .inr ⟨by omega, by omega⟩, _, rfl, _, _, rfl, rfl, d, c, nl, lf, _, t * k, _, _, _, _, rfl, by rw [Int.natCast_mul], hk, Nat.mul_pos ht hk1, by omega, p2, S7, by omega, fun H8 v8 b b3 b4 g8 S8 q3 q4 hd8 ok8 w8 x8 => ⟨szl (by simp), fun p hp => ?_⟩⟩
      refine q _ _ (some (.rep k b)) b3 b4 ((G7.trans g8).add hp _) ((S8.new (Ch.new hp _)).mono (by omega)) q3 q4 (dp_new hp (by simp [flatTs, flatT, flat_eB]) (dpa_3 (.str _) (.int _) hd8)) (fun s h => ?_) ?_ ?_
      · cases h
        exact ⟨⟨hk1, hk8⟩, ok8⟩
      · rw [oW, wS, Nat.mul_add, ← Nat.mul_assoc, Nat.mul_one]; omega
      · rw [oC, cS, ← Nat.mul_assoc]; omega
    dsimp only [tNext]
    refine seq_cut (t := tIfS _ _ _) (fun sg H' => ∃ o1 o2 o3 o4 o5, sg = [some (.ref d), some (.ref nl), some (.ref lf), some (.int (t : Int)), some (.int (3 - (n : Int))), o1, o2, o3, o4, o5] ∧ Ch [d, c, lf] H0 H' ∧ St3 (B + 202) H' d c nl lf (a1 - (t : Int)) a2) (fun nx hnx => ?_) ?_
    · obtain ⟨b0, b3, b4, e6⟩ := S6.lt
      refine ifS_cut (fun H' => H' = upd H5 e0 (.tup []) ∧ (t : Int) ≤ a2) (fun H' => H' = upd H5 e0 (.tup [])) (fun R hT hF => ?_) (fun H' ⟨hH, h2⟩ => ?_) (fun H' hH => hnx _ _ ⟨_, _, _, _, _, rfl, hH ▸ G6, hH ▸ S6.mono (by omega)⟩)
      · refine ⟨_, rfl, _, _, rfl, rfl, _, rfl, if2 (fun _ => ?_) (fun _ => hF _ rfl)⟩
        refine ⟨_, rfl, lf, _, _, _, rfl, rfl, SqL.of e6, at2, _, rfl, _, _, rfl, rfl, _, rfl, ?_⟩
        exact rdec (fun h => hT _ ⟨rfl, h⟩) (fun _ => hF _ rfl)
      · subst hH
        refine ⟨_, rfl, lf, _, _, _, rfl, rfl, SqL.of e6, at2, _, rfl, _, _, rfl, rfl, _, rfl, lf, _, _, 2, rfl, rfl, e6, rfl, ?_⟩
        obtain ⟨S7, g7⟩ := S6.put b0 (a1 - (t : Int)) (a2 - (t : Int)) b3 b4
        refine ⟨_, rfl, _, rfl, _, rfl, _, rfl, _, rfl, _, _, rfl, rfl, d, c, nl, lf, _, t, _, _, _, _, rfl, rfl, hk, ht, by omega, by omega, S7, by omega, fun H8 v8 y b1 b2 g8 S8 q1 q2 hd8 ok8 w8 x8 => ?_⟩
        refine ⟨_, rfl, szl (by simp), fun l hl => .inl ⟨d, c, l, _, _, rfl, S8.dk.new (Ch.new hl _), by omega, SqL.of upd_same, S8.dk.no hl, by simp, by simp, fun H9 v9 g9 D9 hv => ?_⟩⟩
        obtain ⟨wh, rfl⟩ : ∃ wh : Bool, v9 = .str (hand wh) := by
          simp only [List.mem_cons, List.not_mem_nil, or_false] at hv
          rcases hv with rfl | rfl
          · exact ⟨true, rfl⟩
          · exact ⟨false, rfl⟩
        have S9 := (S8.new (Ch.new hl _)).dr g9 D9
        have G9 := (((G6.trans g7).trans g8).add hl (.lst [.str "we", .str "they"])).trans g9.w3
        refine ⟨_, rfl, _, rfl, _, rfl, _, rfl, _, rfl, _, rfl, _, _, rfl, rfl, d, c, nl, lf, _, t, _, _, _, _, rfl, rfl, hk, ht, q1, q2, S9, by omega, fun HA vA m b5 b6 gA SA q5 q6 hdA okA wA xA => ⟨szl (by simp), fun p hp => ?_⟩⟩
        refine q _ _ (some (.ch wh y m)) b5 b6 ((G9.trans gA).add hp _) ((SA.new (Ch.new hp _)).mono (by omega)) q5 q6 (dp_new hp (by simp [flatTs, flatT, flat_eB]) (dpa_3 (.str _) (gA.dB (g9.dB ((Ch.new (M := []) hl _).dB hd8))) hdA)) (fun s h => ?_) ?_ ?_
        · cases h
          exact ⟨ok8, okA⟩
        · rw [oW, wS, Nat.mul_add, Nat.mul_add, Nat.mul_one]; omega
        · rw [oC, cS, Nat.mul_add, Nat.mul_add, Nat.mul_one]; omega
    rintro sg H' ⟨o1, o2, o3, o4, o5, rfl, G7, S7⟩
    refine ⟨_, rfl, _, rfl, d, c, nl, _, rfl, S7.dk, S7.nm, by omega, fun H8 v8 s g8 D8 hd8 ok8 w8 x8 => ?_⟩
    refine q _ _ (some s) _ _ (G7.trans g8.w3) ((S7.dr g8 D8).mono (by omega)) (by omega) p2 hd8 (fun s' h => ?_) ?_ ?_
    · cases h
      exact ok8 _
    · rw [oW, w8, Nat.mul_one]; omega
    · rw [oC, x8, Nat.mul_zero]; omega
end
end K28
/-! K28BE: the law's blocks, programs, numbers. -/
namespace K28
open PySem PySem.Spec PyProof.Rows L2
def got (os : List (Option Sm)) : List Sm := os.filterMap id
theorem got_app (a b : List (Option Sm)) : got (a ++ b) = got a ++ got b := List.filterMap_append
theorem got_w (os : List (Option Sm)) (o : Option Sm) : wB (got (os ++ [o])) = wB (got os) + oW o := by
  rw [got_app, wB_append]
  cases o <;> simp [got, wB, oW]
theorem got_c (os : List (Option Sm)) (o : Option Sm) : cB (got (os ++ [o])) = cB (got os) + oC o := by
  rw [got_app, cB_append]
  cases o <;> simp [got, cB, oC]
theorem St3.keep {B : Nat} {H H' : Hp} {d c nl lf : Addr} {a1 a2 : Int} {M : List Addr} (S : St3 B H d c nl lf a1 a2) (g : Ch M H H') (h1 : d ∉ M) (h2 : c ∉ M) (h3 : nl ∉ M) (h4 : lf ∉ M) : St3 B H' d c nl lf a1 a2 := by
  obtain ⟨a0, a3, a4, e⟩ := S.lt
  exact ⟨S.dk.keep g h1 h2, S.nm.keep g h3, ⟨a0, a3, a4, g.out _ _ e h4⟩, S.lc⟩
theorem got_take {os : List (Option Sm)} {j : Nat} {o : Option Sm} (h : os[j]? = some o) : got (os.take (j + 1)) = got (os.take j) ++ (match o with | none => [] | some s => [s]) := by
  obtain ⟨hl, e⟩ := List.getElem?_eq_some_iff.mp h
  rw [List.take_succ_eq_append_getElem hl, e, got_app]
  cases o <;> simp [got]
theorem shaped_OS {d : Nat} {o : Option Sm} (h : ∀ s, o = some s → SmOk Pb d s) (hd : d ≤ 20) : SeqAt.shaped (eOS o) = true := by
  cases o with
  | none => exact shaped_nilT
  | some s => exact shaped_S (P := Pn) (fun x h => h.2.2) (SmOk.mono (fun x hx => hx.1) (Nat.le_refl _) (h s rfl)) hd
section
variable {P : Program} {w : World} {K : PySem.W.Frag} {mg : Str → Option Value} {base : Heap} {aC aK C : Addr}
abbrev s_l_block : Stmt := tp 53
theorem sc_l_block : FnScope ["_law_deck_here", "_law_names_here", "_law_left", "_law_times", "_law_depth", "_law_many", "_law_rows", "_law_k", "_law_row_here"] ["_law_deck_here", "_law_names_here", "_law_left", "_law_times", "_law_depth"] (defScope s_l_block) := ⟨rfl, rfl, rfl, by decide +kernel, rfl, by decide +kernel, by decide +kernel⟩
theorem blk_step (D : Dh K mg "_law_block" s_l_block ["_law_deck_here", "_law_names_here", "_law_left", "_law_times", "_law_depth"]) (T : Txt K mg aC aK) (c_l_draw : Df P w K mg base 1 "_law_draw" spDrw) (n : Nat) (hn : n ≤ 4) (c_l_row : Df P w K mg base (6 + 2 * n) "_law_row" (spRowB K n)) :
    Df P w K mg base (7 + 2 * n) "_law_block" (spBlk K n) := by
  have e8 : 7 + 2 * n = (6 + 2 * n) + 1 := by omega
  rw [e8]
  refine D.ok sc_l_block (fun vs H Q E h => ?_) (fun f cdv Ar outer s H vs Q E hr h => ?_)
  · obtain ⟨d, c, nl, lf, B, t, z, k, a1, a2, rfl, _⟩ := h
    rfl
  obtain ⟨d, c, nl, lf, B, t, z, k, a1, a2, rfl, rfl, rfl, ht, p1, p2, S, hB, q⟩ := h
  refine ⟨_, (pss_cons (ps_if (pt_cmpR op_gt (pv 4) pe_int (nomark _)) (pss_one (ps_ret (pe_tup pa_nil))) pss_nil)
      (pss_cons (ps_par (i := 5) (j := 6) rfl sc_l_block.nd rfl rfl (by decide) rfl rfl (pa_cons (pe_op op_add (pdf c_l_draw hr (by first | decide | omega) rfl (pa_cons (pv 0) (pa_cons pe_int pa_nil))) (pe_callTy call_int1 (by rfl) T.z_int (by decide +kernel) (pa_cons (pe_cmpR op_eq (pv 4) pe_int (nomark _)) pa_nil))) (pa_cons (pe_lst pa_nil) pa_nil)) (by rfl))
      (pss_cons (ps_for PassesOwn.never rfl (pi_range1 (by rfl) T.z_range (pa_cons (pv 5) pa_nil)) (pg_name (i := 7) sc_l_block.nd rfl (Or.inl rfl)) (pss_one (ps_expr (pe_bm PySem.F.plainAttrs_list PySem.F.slot_list_append PySem.F.type_list_append mt_append (pv 6) (pa_cons (pdf c_l_row hr (by first | decide | omega) rfl (pa_cons (pv 0) (pa_cons (pv 1) (pa_cons (pv 2) (pa_cons (pv 3) (pa_cons (pv 4) pa_nil)))))) pa_nil)))))
      (pss_one (ps_ret (pe_callTy call_tuple_of (by rfl) T.z_tuple (by decide +kernel) (pa_cons (pe_lc (own := [("_law_row_here", 8)]) (g := gName 8)  rfl sc_l_block.nd (pi_list (pv 6)) (blkOk_by (own := [("_law_row_here", 8)]) (N := ["_law_deck_here", "_law_names_here", "_law_left", "_law_times", "_law_depth", "_law_many", "_law_rows", "_law_k", "_law_row_here"]) (sc := defScope s_l_block) (by decide +kernel)) (fun _ _ _ _ _ => pg_name (i := 8) sc_l_block.nd rfl (Or.inl rfl)) (fun _ _ _ _ _ => (pts_one (pt_cmpR (op_neD hr.units : OpR _ (compareOp .NotEq) (rNeD K)) (pv 8) (pe_tup pa_nil) (nomark _)))) (fun _ _ _ _ _ => (pv 8))) pa_nil))))))), ?_⟩
  cases n with
  | zero =>
    refine ⟨_, rfl, _, _, rfl, rfl, _, rfl, ifT (by decide) ?_⟩
    refine ⟨szl (by simp), fun p hp => ?_⟩
    exact q _ _ [] _ _ (Ch.new hp _) ((S.new (Ch.new hp _)).mono (by omega)) p1 p2 (by rw [eB]; exact .tup sqt_new .nil) (fun s h => nomatch h) (by simp [wB]) (by simp [cB])
  | succ n =>
  have hb : bC (n + 1) = 1 + 4 * rC n := rfl
  refine ⟨_, rfl, _, _, rfl, rfl, _, rfl, ifF (by omega) ?_⟩
  refine ⟨_, rfl, d, c, B, 4, rfl, by decide, by decide, S.dk, by omega, fun H1 r g1 D1 r0 r4 => ?_⟩
  have S1 := S.dr g1 D1
  refine ⟨_, rfl, rfl, .inr ⟨_, rfl, _, _, rfl, rfl, szl (by simp), fun rl hrl => ⟨_, _, rfl, ?_⟩⟩⟩
  obtain ⟨m, hm, hm4⟩ : ∃ m : Nat, r + (if decide (V.int (4 - ((n + 1 : Nat) : Int)) = V.int 0) = true then 1 else 0) = (m : Int) ∧ m ≤ 4 := by
    refine ⟨(r + (if decide (V.int (4 - ((n + 1 : Nat) : Int)) = V.int 0) = true then 1 else 0)).toNat, ?_, ?_⟩ <;> split <;> omega
  have nrl : rl ∉ [d, c, lf] := by
    obtain ⟨a0, a3, a4, e⟩ := S1.lt
    have := S1.dk.no hrl
    simp only [List.mem_cons, List.not_mem_nil, or_false, not_or] at this ⊢
    refine ⟨this.1, this.2, fun z => ?_⟩
    rw [z, e] at hrl
    cases hrl
  have nnl : nl ≠ rl := by
    obtain ⟨xs, e, _⟩ := S1.nm.ex
    exact ne_of_none e hrl
  have nrl2 := nrl
  simp only [List.mem_cons, List.not_mem_nil, or_false, not_or] at nrl2
  have S2 := S1.new (Ch.new (M := []) hrl (.lst []))
  have G2 : Ch [d, c, lf] H (upd H1 rl (.lst [])) := g1.w3.add hrl _
  have hrc : 3 * rC n ≤ 3 * rC n := Nat.le_refl _
  refine ⟨_, rfl, _, rfl, ?_, ?_, ?_⟩
  · rw [hm]; omega
  · rw [hm]; omega
  have hm5 : (r + (if decide (V.int (4 - ((n + 1 : Nat) : Int)) = V.int 0) = true then 1 else 0)).toNat ≤ 4 := by rw [hm]; omega
  refine for_range (fun i sg H' => ∃ (vs : List V) (os : List (Option Sm)) (b1 b2 : Int) (mv o : Option V), sg = [some (.ref d), some (.ref nl), some (.ref lf), some (.int (t : Int)), some (.int (4 - ((n + 1 : Nat) : Int))), mv, some (.ref rl), o, none] ∧ Ch [d, c, lf] H1 H' ∧ St3 (B + 1 + i * rC n) H' d c nl lf b1 b2 ∧ 0 ≤ b1 ∧ 0 ≤ b2 ∧
      H' rl = some (.lst vs) ∧ vs.length = i ∧ DpAll K H' vs (os.map eOS) ∧ (∀ s, some s ∈ os → SmOk Pb (n + 1) s) ∧ ((t * wB (got os) : Nat) : Int) + b1 ≤ a1 ∧ ((t * cB (got os) : Nat) : Int) + b2 ≤ a2)
    ⟨[], [], a1, a2, _, _, rfl, Ch.new hrl _, S2.mono (by omega), p1, p2, upd_same, rfl, .nil, (fun s h => nomatch h), by simp [got, wB], by simp [got, cB]⟩ ?_ ?_
  · rintro i sg H' hi ⟨vs, os, b1, b2, mv, o, rfl, G, S', q1, q2, hvs, hvl, hdv, hok, hw, hc⟩
    have hi4 : i < 4 := by omega
    have hmul : i * rC n ≤ 3 * rC n := Nat.mul_le_mul_right _ (by omega)
    have hsuc : (i + 1) * rC n = i * rC n + rC n := Nat.succ_mul _ _
    refine ⟨_, rfl, .inl ⟨rfl, _, SqL.of hvs⟩, _, rfl, _, rfl, _, rfl, _, rfl, _, rfl, d, c, nl, lf, _, t, _, _, b1, b2, rfl, rfl, by omega, ht, q1, q2, S', by omega, fun H7 v o7 b3 b4 g7 S7 q3 q4 hd ok w7 x7 => ?_⟩
    have h7 := g7.out _ _ hvs nrl
    have gp : Ch [rl] H7 (upd H7 rl (.lst (vs ++ [v]))) := Ch.put h7 (fun z => z) (by simp) _
    refine ⟨rl, vs, v, rfl, rfl, h7, sz (by omega), vs ++ [v], os ++ [o7], b3, b4, _, _, rfl, (G.trans g7).young hrl h7 _, ?_, q3, q4, upd_same, by rw [List.length_append, hvl, List.length_singleton], ?_, ?_, ?_, ?_⟩
    · rw [hsuc]
      exact (S7.keep gp (by simp [Ne.symm nrl2.1]) (by simp [Ne.symm nrl2.2.1]) (by simp [nnl]) (by simp [Ne.symm nrl2.2.2])).mono (by omega)
    · rw [List.map_append]
      exact dpa_app (gp.dOSs (g7.dOSs hdv)) (dpa_1 (gp.dOS hd))
    · intro s hs
      rcases List.mem_append.mp hs with hs | hs
      · exact hok s hs
      · exact ok s (by rw [List.mem_singleton.mp hs])
    · rw [got_w, Nat.mul_add]; omega
    · rw [got_c, Nat.mul_add]; omega
  · rintro sg H2 ⟨vs, os, b1, b2, mv, o, rfl, G, S', q1, q2, hvs, hvl, hdv, hok, hw, hc⟩
    have hmul : (r + (if decide (V.int (4 - ((n + 1 : Nat) : Int)) = V.int 0) = true then 1 else 0)).toNat * rC n ≤ 4 * rC n := Nat.mul_le_mul_right _ hm5
    have lvo : vs.length = os.length := by rw [dpa_len hdv, List.length_map]
    refine ⟨_, rfl, rl, rfl, ⟨_, SqL.of hvs⟩, fun L hL => ?_⟩
    have nL : rl ≠ L := ne_of_none hvs hL
    refine lc_list (K := K) (a := rl) (xs := vs) (fun j H3 => Ch [] H2 H3 ∧ ∃ ws, H3 L = some (.lst ws) ∧ DpAll K H3 ws (eB (got (os.take j))) ∧ ws.length ≤ j) ⟨Ch.new hL _, [], upd_same, by rw [List.take_zero]; exact .nil, Nat.le_refl _⟩ (fun j H3 _ h => h.1.sql (SqL.of hvs) (by simp)) ?_ ?_
    · rintro j u H3 hj ⟨c3, ws, hws, hdw, hwl⟩
      obtain ⟨e, he, hdu⟩ := dpa_get hdv hj
      rw [List.getElem?_map] at he
      cases ho : os[j]? with
      | none => rw [ho] at he; cases he
      | some oo =>
        rw [ho] at he
        cases he
        have jl := (List.getElem?_eq_some_iff.mp ho).1
        refine ⟨rfl, _, rfl, szl (by simp), fun e0 he0 => ?_⟩
        have c0 : Ch [] H3 (upd H3 e0 (.tup [])) := Ch.new he0 _
        have hw0 : upd H3 e0 (.tup []) L = some (.lst ws) := by rw [upd_ne (ne_of_none hws he0)]; exact hws
        have okk : ∀ s, oo = some s → SmOk Pb (n + 1) s := fun s h => hok s (h ▸ List.mem_of_getElem? ho)
        refine ⟨eOS oo, .tuple [], c0.dOS (c3.dOS hdu), .tup sqt_new .nil, shaped_OS okk (by omega), shaped_nilT, _, rfl, ?_⟩
        cases oo with
        | none =>
          have e5 : PyData.eqv (eOS none) (.tuple []) = true := eqv_nil
          rw [e5]
          refine iteF ⟨c3.trans c0, ws, hw0, ?_, by omega⟩
          rw [got_take ho, List.append_nil]
          exact c0.dA hdw
        | some s =>
          have e5 : PyData.eqv (eOS (some s)) (.tuple []) = false := eqv_S s
          rw [e5]
          refine iteT ⟨_, rfl, ws, hw0, sz (by omega), (c3.trans c0).young hL hw0 _, ws ++ [u], upd_same, ?_, by rw [List.length_append, List.length_singleton]; omega⟩
          have gp : Ch [L] (upd H3 e0 (.tup [])) (upd (upd H3 e0 (.tup [])) L (.lst (ws ++ [u]))) := Ch.put hw0 (fun z => z) (by simp) _
          rw [got_take ho, eB_app]
          exact dpa_app (gp.dA (c0.dA hdw)) (dpa_1 (gp.dS (c0.dS (c3.dS hdu))))
    · rintro H3 ⟨c3, ws, hws, hdw, hwl⟩
      rw [lvo, List.take_length] at hdw
      refine ⟨_, ws, rfl, .inl ⟨SqL.of hws, fun l hl => ?_⟩⟩
      refine q _ _ (got os) b1 b2 ((g1.w3.trans (G.trans c3.nil)).add hl _) (((S'.new c3).new (Ch.new hl _)).mono (by omega)) q1 q2 (dp_new hl (flat_eB _) hdw) (fun s hs => ?_) hw hc
      obtain ⟨o1, ho1, e1⟩ := List.mem_filterMap.mp hs
      exact hok s (by rw [← e1]; exact ho1)
end
end K28
/-! K28BF: the law's programs, numbers. -/
namespace K28
open PySem PySem.Spec PyProof.Rows L2
theorem p0d {K : PySem.W.Frag} {H : Hp} {p : Addr} (h : H p = none) : Dp K (upd H p (.tup [])) (.ref p) (.tuple (eB [])) := by rw [eB]; exact .tup sqt_new .nil
theorem Ch.less {M N : List Addr} {H0 H1 : Hp} (g : Ch N H0 H1) (h : ∀ x ∈ N, x ∈ M ∨ H0 x = none) : Ch M H0 H1 :=
  ⟨fun b o e n => g.out b o e (fun z => (h b z).elim n (fun y => by rw [y] at e; cases e)), g.imm, g.free⟩
def spPrg (K : PySem.W.Frag) : Sp := fun vs H Q _ => ∃ (d c nl : Addr) (B : Nat), vs = [.ref d, .ref nl] ∧ Deck B H d c ∧ Nms H nl ∧ B + 4000000 < 1099511627776 ∧
  ∀ H' v p, Ch [d, c] H H' → Deck (B + 4000000) H' d c → Dp K H' v (.tuple (eB p)) → BlOk Pb 4 p → wB p ≤ 30 → cB p ≤ 4 → Q v H'
def spNum : Sp := fun vs H Q _ => ∃ (d c : Addr) (B : Nat), vs = [.ref d] ∧ Deck B H d c ∧ B + 10 < 1099511627776 ∧
  ∀ H' z, Ch [d, c] H H' → Deck (B + 10) H' d c → z.natAbs ≤ M0 → Q (.int z) H'
section
variable {P : Program} {w : World} {K : PySem.W.Frag} {mg : Str → Option Value} {base : Heap} {aC aK C : Addr}
theorem v_l_block {P : Program} {w : World} {K : PySem.W.Frag} {mg : Str → Option Value} {base : Heap} {aC aK : Addr} (DB : Dh K mg "_law_block" s_l_block ["_law_deck_here", "_law_names_here", "_law_left", "_law_times", "_law_depth"]) (DR : Dh K mg "_law_row" s_l_row ["_law_deck_here", "_law_names_here", "_law_left", "_law_times", "_law_depth"])
    (T : Txt K mg aC aK) (c_l_draw : Df P w K mg base 1 "_law_draw" spDrw) (c_l_one : Df P w K mg base 2 "_law_one" (spOne K)) (c_l_test : Df P w K mg base 6 "_law_test" (spTst K)) (c_l_plain : Df P w K mg base 6 "_law_plain" (spPln K)) :
    ∀ n, n ≤ 4 → Df P w K mg base (7 + 2 * n) "_law_block" (spBlk K n)
  | 0, h => blk_step DB T c_l_draw 0 h (DR.none fun _ _ _ _ h => h)
  | n + 1, h => blk_step DB T c_l_draw (n + 1) h ((row_step DR c_l_draw c_l_one c_l_test c_l_plain n (v_l_block DB DR T c_l_draw c_l_one c_l_test c_l_plain n (by omega))).mono (by omega))
abbrev s_l_program : Stmt := tp 54
theorem sc_l_program : FnScope ["_law_deck_here", "_law_names_here", "_law_left", "_law_program_here", "_law_k"] ["_law_deck_here", "_law_names_here"] (defScope s_l_program) := ⟨rfl, rfl, rfl, by decide +kernel, rfl, by decide +kernel, by decide +kernel⟩
theorem v_l_program (D : Dh K mg "_law_program" s_l_program ["_law_deck_here", "_law_names_here"]) (T : Txt K mg aC aK) (c_l_draw : Df P w K mg base 1 "_law_draw" spDrw) (c_l_expression : Df P w K mg base 4 "_law_expression" (spExp K 2 16)) (c_l_block : Df P w K mg base 15 "_law_block" (spBlk K 4)) : Df P w K mg base 16 "_law_program" (spPrg K) := by
  refine D.ok sc_l_program (fun vs H Q E h => ?_) (fun f cdv Ar outer s H vs Q E hr h => ?_)
  · obtain ⟨d, c, nl, B, rfl, _⟩ := h
    rfl
  obtain ⟨d, c, nl, B, rfl, DK, NM, hB, q⟩ := h
  have hb4 : bC 4 = 936585 := by decide
  refine ⟨_, (pss_cons (ps_par (i := 2) (j := 3) rfl sc_l_program.nd rfl rfl (by decide) rfl rfl (pa_cons (pe_lst (pa_cons pe_int (pa_cons pe_int (pa_cons pe_int (pa_cons pe_int (pa_cons pe_int pa_nil)))))) (pa_cons (pe_tup pa_nil) pa_nil)) (by rfl))
      (pss_cons (ps_for PassesOwn.never rfl (pi_range1 (by rfl) T.z_range (pa_cons (pe_op op_add pe_int (pdf c_l_draw hr (by first | decide | omega) rfl (pa_cons (pv 0) (pa_cons pe_int pa_nil)))) pa_nil)) (pg_name (i := 4) sc_l_program.nd rfl (Or.inl rfl)) (pss_one (ps_set (i := 3) sc_l_program.nd rfl (Or.inl rfl) (pe_op op_catA (pv 3) (pdf c_l_block hr (by first | decide | omega) rfl (pa_cons (pv 0) (pa_cons (pv 1) (pa_cons (pv 2) (pa_cons pe_int (pa_cons pe_int pa_nil))))))))))
      (pss_cons (ps_if (PW.pt (pw_or (pt_cmpR op_lt (pe_ix ix_list (pv 2) pe_int (fun _ _ => rfl)) pe_int (nomark _)) (pw_or (pt_cmpR op_lt (pe_ix ix_list (pv 2) pe_int (fun _ _ => rfl)) pe_int (nomark _)) (pw_or1 (pt_cmpR op_eq (pdf c_l_draw hr (by first | decide | omega) rfl (pa_cons (pv 0) (pa_cons pe_int pa_nil))) pe_int (nomark _)))))) (pss_one (ps_ret (pv 3))) pss_nil)
      (pss_one (ps_ret (pe_op op_catA (pv 3) (pe_tup (pa_cons (pe_tup (pa_cons pe_str (pa_cons (pdf c_l_expression hr (by first | decide | omega) rfl (pa_cons (pv 0) (pa_cons (pv 1) (pa_cons pe_int pa_nil)))) pa_nil))) pa_nil)))))))), ?_⟩
  refine ⟨szl (by simp), fun lf hlf => ⟨szl (by simp), fun p0 hp0 => ⟨_, _, rfl, ?_⟩⟩⟩
  have c1 : Ch [] H (upd H lf (.lst [.int 24, .int 30, .int 4, .int 2, .int 2])) := Ch.new hlf _
  have c2 := c1.add hp0 (.tup [])
  have nlc : lf ≠ c := fun e => DK.no hlf (by simp [e])
  have hlf2 : upd (upd H lf (.lst [.int 24, .int 30, .int 4, .int 2, .int 2])) p0 (.tup []) lf = some (.lst [.int 24, .int 30, .int 4, .int 2, .int 2]) := by rw [upd_ne (ne_of_none upd_same hp0)]; exact upd_same
  have S2 : St3 B (upd (upd H lf (.lst [.int 24, .int 30, .int 4, .int 2, .int 2])) p0 (.tup [])) d c nl lf 30 4 := ⟨DK.new c2, NM.keep c2 (by simp), ⟨24, 2, 2, hlf2⟩, nlc⟩
  refine ⟨_, rfl, d, c, B, 4, rfl, by decide, by decide, S2.dk, by omega, fun H3 r g3 D3 r0 r4 => ⟨_, _, rfl, rfl, _, rfl, by omega, by omega, ?_⟩⟩
  have S3 := S2.dr g3 D3
  have G3 : Ch [d, c, lf] H H3 := c2.nil.trans g3.w3
  have hm4 : ((1 : Int) + r).toNat ≤ 4 := by omega
  refine for_range (fun i sg H' => ∃ (v : V) (p : List Sm) (b1 b2 : Int) (o : Option V), sg = [some (.ref d), some (.ref nl), some (.ref lf), some v, o] ∧ Ch [d, c, lf] H H' ∧ St3 (B + 1 + i * bC 4) H' d c nl lf b1 b2 ∧ 0 ≤ b1 ∧ 0 ≤ b2 ∧ Dp K H' v (.tuple (eB p)) ∧ BlOk Pb 4 p ∧ (wB p : Int) + b1 ≤ 30 ∧ (cB p : Int) + b2 ≤ 4)
    ⟨_, [], 30, 4, _, rfl, G3, S3.mono (by omega), by decide, by decide, g3.dB (p0d hp0), (fun s h => nomatch h), by simp [wB], by simp [cB]⟩ ?_ ?_
  · rintro i sg H' hi ⟨v, p, b1, b2, o, rfl, G, S', q1, q2, hd, ok, hw, hc⟩
    have hmul : i * bC 4 ≤ 3 * bC 4 := Nat.mul_le_mul_right _ (by omega)
    have hsuc : (i + 1) * bC 4 = i * bC 4 + bC 4 := Nat.succ_mul _ _
    refine ⟨_, rfl, _, rfl, _, rfl, _, rfl, d, c, nl, lf, _, 1, _, _, b1, b2, rfl, rfl, by decide, by decide, q1, q2, S', by omega, fun H7 v7 b b3 b4 g7 S7 q3 q4 hd7 ok7 w7 x7 => ?_⟩
    rw [Nat.one_mul] at w7 x7
    obtain ⟨a, xs, rfl, hs, hxs⟩ := dp_tup (g7.dB hd)
    obtain ⟨a', ys, rfl, hs', hys⟩ := dp_tup hd7
    have l1 : xs.length ≤ wB p := by rw [dpa_len hxs, eB_len]; exact len_wB p
    have l2 : ys.length ≤ wB b := by rw [dpa_len hys, eB_len]; exact len_wB b
    refine catA hs hs' (szl (by omega)) (fun p3 H8 hp3 c8 => ?_)
    refine ⟨_, p ++ b, b3, b4, _, rfl, (G.trans g7).trans c8.nil, ?_, q3, q4, ?_, ?_, ?_, ?_⟩
    · rw [hsuc]
      exact (S7.new c8).mono (by omega)
    · rw [eB_app]
      exact .tup hp3 (dpa_app (c8.dA hxs) (c8.dA hys))
    · intro s hs
      rcases List.mem_append.mp hs with hs | hs
      · exact ok s hs
      · exact ok7 s hs
    · rw [wB_append]; omega
    · rw [cB_append]; omega
  rintro sg H' ⟨v, p, b1, b2, o, rfl, G, S', q1, q2, hd, ok, hw, hc⟩
  have hmul : ((1 : Int) + r).toNat * bC 4 ≤ 4 * bC 4 := Nat.mul_le_mul_right _ hm4
  have young : ∀ x ∈ [d, c, lf], x ∈ [d, c] ∨ H x = none := by
    intro x hx
    simp only [List.mem_cons, List.not_mem_nil, or_false] at hx ⊢
    rcases hx with rfl | rfl | rfl
    · exact .inl (.inl rfl)
    · exact .inl (.inr rfl)
    · exact .inr hlf
  have S4 : St3 (B + 3999000) H' d c nl lf b1 b2 := S'.mono (by omega)
  obtain ⟨b0, b3, b4, e4⟩ := S4.lt
  dsimp only
  refine seq_cut (t := tIfS _ _ _) (fun sg H2 => ∃ o, sg = [some (.ref d), some (.ref nl), some (.ref lf), some v, o] ∧ Ch [d, c] H' H2 ∧ Deck (B + 3999001) H2 d c ∧ 1 ≤ b1) (fun nx hnx => ?_) ?_
  · refine ifS_cut (fun H2 => Ch [d, c] H' H2 ∧ Deck (B + 3999001) H2 d c) (fun H2 => Ch [d, c] H' H2 ∧ Deck (B + 3999001) H2 d c ∧ 1 ≤ b1) (fun R hT hF => ?_) (fun H2 ⟨g, D2⟩ => ?_) (fun H2 ⟨g, D2, h1⟩ => hnx _ _ ⟨_, rfl, g, D2, h1⟩)
    · have h0 : R true H' := hT _ ⟨Ch.refl _ _, S4.dk.mono (by omega)⟩
      refine ⟨_, rfl, lf, _, _, _, rfl, rfl, SqL.of e4, at0, _, _, rfl, rfl, _, rfl, if2 (fun _ => h0) (fun _ => ?_)⟩
      refine ⟨_, rfl, lf, _, _, _, rfl, rfl, SqL.of e4, at1, _, _, rfl, rfl, _, rfl, if2 (fun _ => h0) (fun hb1 => ?_)⟩
      refine ⟨_, rfl, d, c, _, 4, rfl, by decide, by decide, S4.dk, by omega, fun H3 r3 g3 D3 _ _ => ⟨rfl, _, rfl, ?_⟩⟩
      exact rdec (fun _ => hT _ ⟨g3, D3⟩) (fun _ => hF _ ⟨g3, D3, by omega⟩)
    · exact ⟨_, rfl, q _ _ p (Ch.less (G.trans g.w3) young) (D2.mono (by omega)) (g.dB hd) ok (by omega) (by omega)⟩
  rintro sg H2 ⟨o, rfl, g, D2, h1⟩
  have N2 := S4.nm.d S4.dk g
  refine ⟨_, rfl, _, rfl, _, rfl, d, c, nl, _, 2, rfl, rfl, D2, N2, by omega, fun H3 v3 e g3 D3 hd3 ok3 => ⟨szl (by simp), fun p1 hp1 => ⟨szl (by simp), fun p2 hp2 => ?_⟩⟩⟩
  have k1 : Ch [] H3 (upd H3 p1 (.tup [.str "pay", v3])) := Ch.new hp1 _
  have k2 := k1.add hp2 (.tup [.ref p1])
  have dpay : Dp K (upd H3 p1 (.tup [.str "pay", v3])) (.ref p1) (eS (.pay e)) := dp_new hp1 (by rw [flatTs, flatTs, flat_eE]; rfl) (dpa_2 (.str _) hd3)
  have dtop : Dp K (upd (upd H3 p1 (.tup [.str "pay", v3])) p2 (.tup [.ref p1])) (.ref p2) (.tuple (eB [.pay e])) := dp_new hp2 (flat_eB _) (by rw [eB, eB]; exact dpa_1 dpay)
  obtain ⟨a, xs, rfl, hs, hxs⟩ := dp_tup (k2.dB (g3.dB (g.dB hd)))
  obtain ⟨a', ys, ey, hs', hys⟩ := dp_tup dtop
  cases ey
  have l1 : xs.length ≤ wB p := by rw [dpa_len hxs, eB_len]; exact len_wB p
  have l2 : ys.length = 1 := by rw [dpa_len hys, eB_len]; rfl
  refine catA hs hs' (szl (by omega)) (fun p3 H8 hp3 c8 => ?_)
  refine q _ _ (p ++ [.pay e]) (Ch.less ((((G.trans g.w3).trans g3.w3).trans k2.nil).trans c8.nil) young) (((D3.new k2).new c8).mono (by omega)) ?_ ?_ ?_ ?_
  · rw [eB_app]
    exact .tup hp3 (dpa_app (c8.dA hxs) (c8.dA hys))
  · intro s hs
    rcases List.mem_append.mp hs with hs | hs
    · exact ok s hs
    · rw [List.mem_singleton.mp hs]
      exact ExOk.mono (fun _ h => h) (by decide : 2 ≤ 3) ok3
  · rw [wB_append]
    have : wB [Sm.pay e] = 1 := rfl
    omega
  · rw [cB_append]
    have : cB [Sm.pay e] = 0 := rfl
    omega
abbrev s_l_number : Stmt := tp 55
theorem sc_l_number : FnScope ["_law_deck_here", "_law_way", "_law_sign"] ["_law_deck_here"] (defScope s_l_number) := ⟨rfl, rfl, rfl, by decide +kernel, rfl, by decide +kernel, by decide +kernel⟩
theorem v_l_number (D : Dh K mg "_law_number" s_l_number ["_law_deck_here"]) (c_l_draw : Df P w K mg base 1 "_law_draw" spDrw) (c_l_one : Df P w K mg base 2 "_law_one" (spOne K)) : Df P w K mg base 3 "_law_number" spNum := by
  refine D.ok sc_l_number (fun vs H Q E h => ?_) (fun f cdv Ar outer s H vs Q E hr h => ?_)
  · obtain ⟨d, c, B, rfl, _⟩ := h
    rfl
  obtain ⟨d, c, B, rfl, DK, hB, q⟩ := h
  refine ⟨_, (pss_cons (ps_par (i := 1) (j := 2) rfl sc_l_number.nd rfl rfl (by decide) rfl rfl (pa_cons (pdf c_l_draw hr (by first | decide | omega) rfl (pa_cons (pv 0) (pa_cons pe_int pa_nil))) (pa_cons (pdf c_l_one hr (by first | decide | omega) rfl (pa_cons (pv 0) (pa_cons (pe_lst (pa_cons pe_int (pa_cons (pe_un un_neg pe_int) pa_nil))) pa_nil))) pa_nil)) (by rfl))
      (pss_cons (ps_if (pt_cmpR op_lt (pv 1) pe_int (nomark _)) (pss_one (ps_ret (pe_op op_mul (pv 2) (pdf c_l_draw hr (by first | decide | omega) rfl (pa_cons (pv 0) (pa_cons pe_int pa_nil)))))) pss_nil)
      (pss_one (ps_ret (pe_op op_mul (pv 2) (pe_op op_add (pe_op op_mul (pe_op op_pow pe_int pe_int) (pdf c_l_draw hr (by first | decide | omega) rfl (pa_cons (pv 0) (pa_cons (pe_op op_pow pe_int pe_int) pa_nil)))) (pdf c_l_draw hr (by first | decide | omega) rfl (pa_cons (pv 0) (pa_cons (pe_op op_pow pe_int pe_int) pa_nil))))))))), ?_⟩
  refine ⟨_, rfl, d, c, B, 5, rfl, by decide, by decide, DK, by omega, fun H1 r g1 D1 r0 r5 => ?_⟩
  refine ⟨_, rfl, _, rfl, szl (by simp), fun l hl => .inl ⟨d, c, l, _, _, rfl, D1.new (Ch.new hl _), by omega, SqL.of upd_same, D1.no hl, by simp, by simp, fun H2 v g2 D2 hv => ⟨_, _, rfl, ?_⟩⟩⟩
  obtain ⟨sn, rfl, hsn⟩ : ∃ sn : Int, v = .int sn ∧ (sn = 1 ∨ sn = -1) := by
    simp only [List.mem_cons, List.not_mem_nil, or_false] at hv
    rcases hv with rfl | rfl
    · exact ⟨_, rfl, .inl rfl⟩
    · exact ⟨_, rfl, .inr rfl⟩
  have G2 := (g1.add hl (.lst [.int 1, .int (-1)])).trans g2
  have hM : M0 = 1000000000000000000000000000000000000000000000000000000000000 := by decide
  refine ⟨_, rfl, _, _, rfl, rfl, _, rfl, if2 (fun _ => ?_) (fun _ => ?_)⟩
  · refine ⟨_, rfl, _, rfl, d, c, _, 40, rfl, by decide, by decide, D2, by omega, fun H3 y g3 D3 y0 y1 => ⟨_, _, rfl, rfl, .inl ⟨by omega, by omega⟩, ?_⟩⟩
    refine q _ _ (G2.trans g3) (D3.mono (by omega)) ?_
    rw [hM]
    rcases hsn with rfl | rfl <;> omega
  · have e50 : (10 : Int) ^ (50 : Int).toNat = 100000000000000000000000000000000000000000000000000 := by decide +kernel
    refine ⟨_, rfl, _, _, rfl, rfl, ⟨by decide, by decide, by decide⟩, _, rfl, _, _, rfl, rfl, ⟨by decide, by decide, by decide⟩, d, c, _, _, rfl, by decide +kernel, by decide +kernel, D2, by omega, fun H3 y g3 D3 y0 y1 => ?_⟩
    have y1' : y < 1000000000 := y1
    refine ⟨_, _, rfl, rfl, .inr ⟨by omega, by omega⟩, _, rfl, _, _, rfl, rfl, ⟨by decide, by decide, by decide⟩, d, c, _, _, rfl, by decide +kernel, by decide +kernel, D3, by omega, fun H4 x g4 D4 x0 x1 => ?_⟩
    have x1' : x < 1000000000 := x1
    refine ⟨_, _, rfl, rfl, _, _, rfl, rfl, .inl ⟨by omega, by omega⟩, ?_⟩
    refine q _ _ ((G2.trans g3).trans g4) (D4.mono (by omega)) ?_
    rw [hM, e50]
    rcases hsn with rfl | rfl <;> omega
end
end K28
/-! K28BG: expressions, tests written otherwise. -/
namespace K28
open PySem PySem.Spec PyProof.Rows L2
def spOth (K : PySem.W.Frag) (n : Nat) : Sp := fun vs H Q _ => ∃ (v : V) (e : Ex), vs = [v] ∧ Dp K H v (eE e) ∧ ExOk Pb n e ∧ ∀ H' u, Ch [] H H' → Dp K H' u (eE (oE e)) → Q u H'
def spOTs (K : PySem.W.Frag) : Sp := fun vs H Q _ => ∃ (v : V) (t : Ts), vs = [v] ∧ Dp K H v (eT t) ∧ TsOk Pb 2 t ∧ ∀ H' u, Ch [] H H' → Dp K H' u (eT (oT t)) → Q u H'
theorem sign_ne {k : Nat} {y : Str} (h : y.cps.size ≠ 1) : ¬ V.str ⟨#[k]⟩ = V.str y := fun e => h (by rw [← V.str.inj e]; rfl)
section
variable {P : Program} {w : World} {K : PySem.W.Frag} {mg : Str → Option Value} {base : Heap} {aC aK C : Addr}
abbrev s_l_other : Stmt := tp 56
theorem sc_l_other : FnScope ["_law_expression_here", "_law_first", "_law_second"] ["_law_expression_here"] (defScope s_l_other) := ⟨rfl, rfl, rfl, by decide +kernel, rfl, by decide +kernel, by decide +kernel⟩
theorem v_l_other {P : Program} {w : World} {K : PySem.W.Frag} {mg : Str → Option Value} {base : Heap} {aC aK : Addr} (D : Dh K mg "_law_other" s_l_other ["_law_expression_here"]) (T : Txt K mg aC aK) : ∀ n, Df P w K mg base n "_law_other" (spOth K n)
  | 0 => D.none fun vs H Q E ⟨v, e, _, _, ok, _⟩ => ok
  | n + 1 => by
    have c_l_other := v_l_other (P := P) (w := w) (base := base) D T n
    refine D.ok sc_l_other (fun vs H Q E h => ?_) (fun f cdv A outer s H vs Q E hr h => ?_)
    · obtain ⟨v, e, rfl, _⟩ := h
      rfl
    obtain ⟨v, e, rfl, hd, ok, q⟩ := h
    refine ⟨_, (pss_cons (ps_if (pt_not (pt_val (pe_callB call_isi (by rfl) T.z_isinstance (by decide +kernel) (pa_cons (pv 0) (pa_cons (pe_bltn (v := .ty "tuple") (u := .type "tuple") (by rfl) T.z_tuple (by decide +kernel) rfl) pa_nil))))) (pss_one (ps_ret (pv 0))) pss_nil)
      (pss_cons (ps_if (pt_cmpR op_eq (pe_ix ix_tup (pv 0) pe_int (fun _ _ => rfl)) pe_str (nomark _)) (pss_one (ps_ret (pe_tup (pa_cons pe_str (pa_cons (pe_ix ix_tup (pv 0) pe_int (fun _ _ => rfl)) (pa_cons (pdf c_l_other hr (by first | decide | omega) rfl (pa_cons (pe_ix ix_tup (pv 0) pe_int (fun _ _ => rfl)) pa_nil)) pa_nil)))))) pss_nil)
      (pss_cons (ps_par (i := 1) (j := 2) rfl sc_l_other.nd rfl rfl (by decide) rfl rfl (pa_cons (pdf c_l_other hr (by first | decide | omega) rfl (pa_cons (pe_ix ix_tup (pv 0) pe_int (fun _ _ => rfl)) pa_nil)) (pa_cons (pdf c_l_other hr (by first | decide | omega) rfl (pa_cons (pe_ix ix_tup (pv 0) pe_int (fun _ _ => rfl)) pa_nil)) pa_nil)) (by rfl))
      (pss_cons (ps_if (PW.pt (pw_and (pt_cmpR op_eq (pe_ix ix_tup (pv 0) pe_int (fun _ _ => rfl)) pe_str (nomark _)) (pw_and1 (pt_val (pe_callB call_isi (by rfl) T.z_isinstance (by decide +kernel) (pa_cons (pv 2) (pa_cons (pe_bltn (v := .ty "int") (u := .type "int") (by rfl) T.z_int (by decide +kernel) rfl) pa_nil))))))) (pss_one (ps_ret (pe_tup (pa_cons pe_str (pa_cons (pv 1) (pa_cons (pe_op op_sub pe_int (pv 2)) pa_nil)))))) pss_nil)
      (pss_cons (ps_if (PW.pt (pw_and (pt_cmpR op_eq (pe_ix ix_tup (pv 0) pe_int (fun _ _ => rfl)) pe_str (nomark _)) (pw_and1 (pt_cmpR op_eq (pe_ix ix_seq (pv 2) pe_int (fun _ _ => rfl)) pe_str (nomark _))))) (pss_one (ps_ret (pe_tup (pa_cons pe_str (pa_cons (pv 1) (pa_cons (pe_tup (pa_cons pe_str (pa_cons (pe_op op_sub pe_int (pe_ix ix_tup (pv 2) pe_int (fun _ _ => rfl))) (pa_cons (pe_ix ix_tup (pv 2) pe_int (fun _ _ => rfl)) pa_nil)))) pa_nil)))))) pss_nil)
      (pss_one (ps_ret (pe_ifExp (pt_cmpR op_eq (pe_ix ix_tup (pv 0) pe_int (fun _ _ => rfl)) pe_str (nomark _)) (pe_tup (pa_cons (pe_ix ix_tup (pv 0) pe_int (fun _ _ => rfl)) (pa_cons (pv 2) (pa_cons (pv 1) pa_nil)))) (pe_tup (pa_cons (pe_ix ix_tup (pv 0) pe_int (fun _ _ => rfl)) (pa_cons (pv 1) (pa_cons (pv 2) pa_nil)))))))))))), ?_⟩
    cases e with
    | num i =>
      obtain rfl := dp_int hd
      refine ⟨_, rfl, _, _, _, _, _, rfl, .ty _, tyI i, kit_ty kb_it, _, rfl, iteT ?_⟩
      exact ⟨_, rfl, q _ _ (Ch.refl _ _) (.int i)⟩
    | nm x =>
      obtain rfl := dp_str hd
      refine ⟨_, rfl, _, _, _, _, _, rfl, .ty _, tyS x, kit_ty kb_st, _, rfl, iteT ?_⟩
      exact ⟨_, rfl, q _ _ (Ch.refl _ _) (.str x)⟩
    | times k b =>
      obtain ⟨p, x, y, z, rfl, hs, e1, e2, e3⟩ := dp_tup3 hd
      obtain rfl := dp_str e1
      obtain rfl := dp_int e2
      refine ⟨_, rfl, _, _, _, _, _, rfl, .ty _, tyT hs, kit_ty kb_tt, _, rfl, iteF ?_⟩
      refine ⟨_, rfl, p, _, _, _, rfl, rfl, hs, at0, rfl, _, rfl, ifT rfl ?_⟩
      refine ⟨_, rfl, p, _, _, _, rfl, rfl, hs, at1, _, rfl, p, _, _, _, rfl, rfl, hs, at2, z, b, rfl, e3, ok.2, fun H1 u1 c1 hd1 => ⟨szl (by simp), fun r hr1 => ?_⟩⟩
      exact q _ _ (c1.add hr1 _) (dp_new hr1 (by simp [flatTs, flatT, flat_eE, flat_eT]) (dpa_3 (.str _) (.int _) hd1))
    | plus a b =>
      obtain ⟨p, x, y, z, rfl, hs, e1, e2, e3⟩ := dp_tup3 hd
      obtain rfl := dp_str e1
      refine ⟨_, rfl, _, _, _, _, _, rfl, .ty _, tyT hs, kit_ty kb_tt, _, rfl, iteF ?_⟩
      refine ⟨_, rfl, p, _, _, _, rfl, rfl, hs, at0, rfl, _, rfl, ifF (by decide +kernel) ?_⟩
      refine ⟨_, rfl, p, _, _, _, rfl, rfl, hs, at1, y, a, rfl, e2, ok.1, fun H1 u1 c1 hd1 => ⟨_, rfl, p, _, _, _, rfl, rfl, c1.sqt hs, at2, z, b, rfl, c1.dE e3, ok.2, fun H2 u2 c2 hd2 => ⟨_, _, rfl, ?_⟩⟩⟩
      have hs2 := (c1.trans c2).sqt hs
      refine ⟨_, rfl, p, _, _, _, rfl, rfl, hs2, at0, rfl, _, rfl, ifF (by decide +kernel) (iteF ?_)⟩
      refine ⟨_, rfl, p, _, _, _, rfl, rfl, hs2, at0, rfl, _, rfl, ifF (by decide +kernel) (iteF ?_)⟩
      refine ⟨_, rfl, p, _, _, _, rfl, rfl, hs2, at0, rfl, _, rfl, ifT rfl ?_⟩
      refine ⟨_, rfl, p, _, _, _, rfl, rfl, hs2, at0, _, rfl, _, rfl, szl (by simp), fun r hr1 => ?_⟩
      exact q _ _ ((c1.trans c2).add hr1 _) (dp_new hr1 (by simp [flatTs, flatT, flat_eE, flat_eT]) (dpa_3 (.str _) hd2 (c2.dE hd1)))
    | minus a b =>
      obtain ⟨p, x, y, z, rfl, hs, e1, e2, e3⟩ := dp_tup3 hd
      obtain rfl := dp_str e1
      refine ⟨_, rfl, _, _, _, _, _, rfl, .ty _, tyT hs, kit_ty kb_tt, _, rfl, iteF ?_⟩
      refine ⟨_, rfl, p, _, _, _, rfl, rfl, hs, at0, rfl, _, rfl, ifF (by decide +kernel) ?_⟩
      refine ⟨_, rfl, p, _, _, _, rfl, rfl, hs, at1, y, a, rfl, e2, ok.1, fun H1 u1 c1 hd1 => ⟨_, rfl, p, _, _, _, rfl, rfl, c1.sqt hs, at2, z, b, rfl, c1.dE e3, ok.2, fun H2 u2 c2 hd2 => ⟨_, _, rfl, ?_⟩⟩⟩
      have hs2 := (c1.trans c2).sqt hs
      have okb := ok_oE ok.2
      refine ⟨_, rfl, p, _, _, _, rfl, rfl, hs2, at0, rfl, _, rfl, ifT rfl ?_⟩
      have last : ∀ f : Ex, oE (.minus a b) = .minus (oE a) f → Dp K H2 u2 (eE f) → ∀ H3, Ch [] H2 H3 → ∀ r, H3 r = none → Q (.ref r) (upd H3 r (.tup [.str "minus", u1, u2])) := by
        intro f e hf H3 c3 r hr1
        refine q _ _ (((c1.trans c2).trans c3).add hr1 _) ?_
        rw [e]
        exact dp_new hr1 (by simp [flatTs, flatT, flat_eE, flat_eT]) (dpa_3 (.str _) (c3.dE (c2.dE hd1)) (c3.dE hf))
      cases hb : oE b with
      | num i =>
        rw [hb] at hd2 okb
        obtain rfl := dp_int hd2
        refine ⟨_, rfl, _, _, _, _, _, rfl, .ty _, tyI i, kit_ty kb_ii, _, rfl, iteT ?_⟩
        refine ⟨_, rfl, _, rfl, _, _, rfl, rfl, szl (by simp), fun r hr1 => ?_⟩
        refine q _ _ ((c1.trans c2).add hr1 _) ?_
        rw [show oE (.minus a b) = .plus (oE a) (.num (0 - i)) from by rw [oE, hb]]
        exact dp_new hr1 (by simp [flatTs, flatT, flat_eE, flat_eT]) (dpa_3 (.str _) (c2.dE hd1) (.int _))
      | nm x =>
        rw [hb] at hd2 okb
        have hx : Pb x := by
          cases n with
          | zero => exact ok.1.elim
          | succ n => exact okb
        have hd2' := hd2
        obtain rfl := dp_str hd2
        refine ⟨_, rfl, _, _, _, _, _, rfl, .ty _, tyS x, kit_ty kb_si, _, rfl, iteF ?_⟩
        obtain ⟨k, hk⟩ : ∃ k, x.cps.toList[0]? = some k := ⟨_, List.getElem?_eq_getElem (by have := hx.1.1; simp; omega)⟩
        refine ⟨_, rfl, p, _, _, _, rfl, rfl, hs2, at0, rfl, _, rfl, ifT rfl ?_⟩
        refine ⟨_, rfl, .inr (.inr ⟨x, _, k, rfl, rfl, szl (by have h8 := hx.1.2.1; show x.cps.size ≤ _; omega), atI_nat (j := 0) hk, rfl, _, rfl, ifF (sign_ne (by decide +kernel)) ?_⟩)⟩
        refine ⟨_, rfl, p, _, _, _, rfl, rfl, hs2, at0, rfl, _, rfl, ifF (by decide +kernel) ?_⟩
        refine ⟨_, rfl, p, _, _, _, rfl, rfl, hs2, at0, _, rfl, _, rfl, szl (by simp), fun r hr1 => ?_⟩
        exact last (.nm x) (by rw [oE, hb]) hd2' H2 (Ch.refl _ _) r hr1
      | plus a' b' =>
        rw [hb] at hd2
        have hd2' := hd2
        obtain ⟨p2, x', y', z', rfl, hs', f1, f2, f3⟩ := dp_tup3 hd2
        obtain rfl := dp_str f1
        refine ⟨_, rfl, _, _, _, _, _, rfl, .ty _, tyT hs', kit_ty kb_ti, _, rfl, iteF ?_⟩
        refine ⟨_, rfl, p, _, _, _, rfl, rfl, hs2, at0, rfl, _, rfl, ifT rfl ?_⟩
        refine ⟨_, rfl, .inr (.inl ⟨p2, _, _, _, rfl, rfl, hs', at0, rfl, _, rfl, ifF (by decide +kernel) ?_⟩)⟩
        refine ⟨_, rfl, p, _, _, _, rfl, rfl, hs2, at0, rfl, _, rfl, ifF (by decide +kernel) ?_⟩
        refine ⟨_, rfl, p, _, _, _, rfl, rfl, hs2, at0, _, rfl, _, rfl, szl (by simp), fun r hr1 => ?_⟩
        exact last (.plus a' b') (by rw [oE, hb]) hd2' H2 (Ch.refl _ _) r hr1
      | minus a' b' =>
        rw [hb] at hd2
        have hd2' := hd2
        obtain ⟨p2, x', y', z', rfl, hs', f1, f2, f3⟩ := dp_tup3 hd2
        obtain rfl := dp_str f1
        refine ⟨_, rfl, _, _, _, _, _, rfl, .ty _, tyT hs', kit_ty kb_ti, _, rfl, iteF ?_⟩
        refine ⟨_, rfl, p, _, _, _, rfl, rfl, hs2, at0, rfl, _, rfl, ifT rfl ?_⟩
        refine ⟨_, rfl, .inr (.inl ⟨p2, _, _, _, rfl, rfl, hs', at0, rfl, _, rfl, ifF (by decide +kernel) ?_⟩)⟩
        refine ⟨_, rfl, p, _, _, _, rfl, rfl, hs2, at0, rfl, _, rfl, ifF (by decide +kernel) ?_⟩
        refine ⟨_, rfl, p, _, _, _, rfl, rfl, hs2, at0, _, rfl, _, rfl, szl (by simp), fun r hr1 => ?_⟩
        exact last (.minus a' b') (by rw [oE, hb]) hd2' H2 (Ch.refl _ _) r hr1
      | times k b' =>
        rw [hb] at hd2
        obtain ⟨p2, x', y', z', rfl, hs', f1, f2, f3⟩ := dp_tup3 hd2
        obtain rfl := dp_str f1
        obtain rfl := dp_int f2
        refine ⟨_, rfl, _, _, _, _, _, rfl, .ty _, tyT hs', kit_ty kb_ti, _, rfl, iteF ?_⟩
        refine ⟨_, rfl, p, _, _, _, rfl, rfl, hs2, at0, rfl, _, rfl, ifT rfl ?_⟩
        refine ⟨_, rfl, .inr (.inl ⟨p2, _, _, _, rfl, rfl, hs', at0, rfl, _, rfl, ifT rfl ?_⟩)⟩
        refine ⟨_, rfl, _, rfl, p2, _, _, _, rfl, rfl, hs', at1, _, _, rfl, rfl, _, rfl, p2, _, _, _, rfl, rfl, hs', at2, szl (by simp), fun r1 hr1 => ⟨szl (by simp), fun r2 hr2 => ?_⟩⟩
        have k1 : Ch [] H2 (upd H2 r1 (.tup [.str "times", .int (0 - k), z'])) := Ch.new hr1 _
        refine q _ _ (((c1.trans c2).trans k1).add hr2 _) ?_
        rw [show oE (.minus a b) = .plus (oE a) (.times (0 - k) b') from by rw [oE, hb]]
        exact dp_new hr2 (by simp [flatTs, flatT, flat_eE, flat_eT]) (dpa_3 (.str _) (k1.dE (c2.dE hd1)) (dp_new hr1 (by simp [flatTs, flatT, flat_eE, flat_eT]) (dpa_3 (.str _) (.int _) f3)))
abbrev s_l_test_other : Stmt := tp 57
theorem sc_l_test_other : FnScope ["_law_test_here"] ["_law_test_here"] (defScope s_l_test_other) := ⟨rfl, rfl, rfl, by decide +kernel, rfl, by decide +kernel, by decide +kernel⟩
theorem v_l_test_other (D : Dh K mg "_law_test_other" s_l_test_other ["_law_test_here"]) (c_l_other : Df P w K mg base 3 "_law_other" (spOth K 3)) : Df P w K mg base 4 "_law_test_other" (spOTs K) := by
  refine D.ok sc_l_test_other (fun vs H Q E h => ?_) (fun f cdv Ar outer s H vs Q E hr h => ?_)
  · obtain ⟨v, t, rfl, _⟩ := h
    rfl
  obtain ⟨v, t, rfl, hd, ok, q⟩ := h
  refine ⟨_, (pss_cons (ps_if (pt_cmpR op_eq (pe_ix ix_tup (pv 0) pe_int (fun _ _ => rfl)) pe_str (nomark _)) (pss_one (ps_ret (pe_ix ix_tup (pv 0) pe_int (fun _ _ => rfl)))) pss_nil)
      (pss_cons (ps_if (PW.pt (pw_and (pt_cmpR op_eq (pe_ix ix_tup (pv 0) pe_int (fun _ _ => rfl)) pe_str (nomark _)) (pw_and1 (pt_cmpR op_eq (pe_ix ix_tup (pv 0) pe_int (fun _ _ => rfl)) pe_int (nomark _))))) (pss_one (ps_ret (pe_tup (pa_cons pe_str (pa_cons (pdf c_l_other hr (by first | decide | omega) rfl (pa_cons (pe_ix ix_tup (pv 0) pe_int (fun _ _ => rfl)) pa_nil)) (pa_cons pe_int (pa_cons (pe_op op_sub pe_int (pe_ix ix_tup (pv 0) pe_int (fun _ _ => rfl))) pa_nil))))))) pss_nil)
      (pss_cons (ps_if (pt_cmpR op_eq (pe_ix ix_tup (pv 0) pe_int (fun _ _ => rfl)) pe_str (nomark _)) (pss_one (ps_ret (pe_tup (pa_cons pe_str (pa_cons (pe_tup (pa_cons pe_str (pa_cons (pdf c_l_other hr (by first | decide | omega) rfl (pa_cons (pe_ix ix_tup (pv 0) pe_int (fun _ _ => rfl)) pa_nil)) (pa_cons (pe_ix ix_tup (pv 0) pe_int (fun _ _ => rfl)) (pa_cons (pe_ix ix_tup (pv 0) pe_int (fun _ _ => rfl)) pa_nil))))) pa_nil))))) pss_nil)
      (pss_one (ps_ret (pe_tup (pa_cons pe_str (pa_cons (pe_tup (pa_cons pe_str (pa_cons (pdf c_l_other hr (by first | decide | omega) rfl (pa_cons (pe_ix ix_tup (pv 0) pe_int (fun _ _ => rfl)) pa_nil)) (pa_cons (pdf c_l_other hr (by first | decide | omega) rfl (pa_cons (pe_ix ix_tup (pv 0) pe_int (fun _ _ => rfl)) pa_nil)) pa_nil)))) pa_nil)))))))), ?_⟩
  cases t with
  | no t =>
    obtain ⟨p, x, y, rfl, hs, e1, e2⟩ := dp_tup2 hd
    obtain rfl := dp_str e1
    refine ⟨_, rfl, p, _, _, _, rfl, rfl, hs, at0, rfl, _, rfl, ifT rfl ?_⟩
    exact ⟨_, rfl, p, _, _, _, rfl, rfl, hs, at1, q _ _ (Ch.refl _ _) e2⟩
  | less a b =>
    obtain ⟨p, x, y, z, rfl, hs, e1, e2, e3⟩ := dp_tup3 hd
    obtain rfl := dp_str e1
    refine ⟨_, rfl, p, _, _, _, rfl, rfl, hs, at0, rfl, _, rfl, ifF (by decide +kernel) ?_⟩
    refine ⟨_, rfl, p, _, _, _, rfl, rfl, hs, at0, rfl, _, rfl, ifF (by decide +kernel) (iteF ?_)⟩
    refine ⟨_, rfl, p, _, _, _, rfl, rfl, hs, at0, rfl, _, rfl, ifF (by decide +kernel) ?_⟩
    refine ⟨_, rfl, p, _, _, _, rfl, rfl, hs, at1, y, a, rfl, e2, ok.1, fun H1 u1 c1 hd1 => ⟨_, rfl, p, _, _, _, rfl, rfl, c1.sqt hs, at2, z, b, rfl, c1.dE e3, ok.2, fun H2 u2 c2 hd2 => ⟨szl (by simp), fun r1 hr1 => ⟨szl (by simp), fun r2 hr2 => ?_⟩⟩⟩⟩
    have k1 : Ch [] H2 (upd H2 r1 (.tup [.str "less", u1, u2])) := Ch.new hr1 _
    exact q _ _ (((c1.trans c2).trans k1).add hr2 _) (dp_new hr2 (by simp [flatTs, flatT, flat_eE, flat_eT]) (dpa_2 (.str _) (dp_new hr1 (by simp [flatTs, flatT, flat_eE, flat_eT]) (dpa_3 (.str _) (c2.dE hd1) hd2))))
  | rest e m r =>
    obtain ⟨o1, o2, o3, o4, o5⟩ := (show ExOk Pb 3 e ∧ 2 ≤ m ∧ m ≤ 6 ∧ 0 ≤ r ∧ r < m from ok)
    obtain ⟨p, x, y, z, u, rfl, hs, e1, e2, e3, e4⟩ := dp_tup4 hd
    obtain rfl := dp_str e1
    obtain rfl := dp_int e3
    obtain rfl := dp_int e4
    refine ⟨_, rfl, p, _, _, _, rfl, rfl, hs, at0, rfl, _, rfl, ifF (by decide +kernel) ?_⟩
    refine ⟨_, rfl, p, _, _, _, rfl, rfl, hs, at0, rfl, _, rfl, ifT rfl ?_⟩
    refine ⟨_, rfl, p, _, _, _, rfl, rfl, hs, at2, rfl, _, rfl, if2 (fun h2 => ?_) (fun h2 => ?_)⟩
    · have hm := V.int.inj h2
      subst hm
      refine ⟨_, rfl, p, _, _, _, rfl, rfl, hs, at1, y, e, rfl, e2, o1, fun H1 u1 c1 hd1 => ⟨_, rfl, p, _, _, _, rfl, rfl, c1.sqt hs, at3, _, _, rfl, rfl, szl (by simp), fun r1 hr1 => ?_⟩⟩
      refine q _ _ (c1.add hr1 _) ?_
      rw [oT, if_pos rfl]
      exact dp_new hr1 (by simp [flatTs, flatT, flat_eE, flat_eT]) (dpa_4 (.str _) hd1 (.int _) (.int _))
    · have hm : ¬ m = 2 := fun e => h2 (by rw [e])
      refine ⟨_, rfl, p, _, _, _, rfl, rfl, hs, at0, rfl, _, rfl, ifT rfl ?_⟩
      refine ⟨_, rfl, p, _, _, _, rfl, rfl, hs, at1, y, e, rfl, e2, o1, fun H1 u1 c1 hd1 => ⟨_, rfl, p, _, _, _, rfl, rfl, c1.sqt hs, at2, _, rfl, p, _, _, _, rfl, rfl, c1.sqt hs, at3, szl (by simp), fun r1 hr1 => ⟨szl (by simp), fun r2 hr2 => ?_⟩⟩⟩
      have k1 : Ch [] H1 (upd H1 r1 (.tup [.str "rest", u1, .int m, .int r])) := Ch.new hr1 _
      refine q _ _ ((c1.trans k1).add hr2 _) ?_
      rw [oT, if_neg hm]
      exact dp_new hr2 (by simp [flatTs, flatT, flat_eE, flat_eT]) (dpa_2 (.str _) (dp_new hr1 (by simp [flatTs, flatT, flat_eE, flat_eT]) (dpa_4 (.str _) hd1 (.int _) (.int _))))
end
end K28
/-! K28BH: rows and blocks written otherwise. -/
namespace K28
open PySem PySem.Spec PyProof.Rows L2
def spROt (K : PySem.W.Frag) (n : Nat) : Sp := fun vs H Q _ => ∃ (v : V) (s : Sm) (l : Bool), vs = [v, .bl l] ∧ Dp K H v (eS s) ∧ SmOk Pb n s ∧ wS s ≤ 100 ∧ ∀ H' u, Ch [] H H' → Dp K H' u (.tuple (eB (oS l s))) → Q u H'
def spBOt (K : PySem.W.Frag) (n : Nat) : Sp := fun vs H Q _ => ∃ (v : V) (b : List Sm) (l : Bool), vs = [v, .bl l] ∧ Dp K H v (.tuple (eB b)) ∧ BlOk Pb n b ∧ wB b ≤ 100 ∧ ∀ H' u, Ch [] H H' → Dp K H' u (.tuple (eB (oB l b))) → Q u H'
def spBOtB (K : PySem.W.Frag) : Nat → Sp
  | 0 => fun _ _ _ _ => False
  | n + 1 => spBOt K n
theorem cut_small {xs : List V} {lo hi : Option Int} {u : V} (h : xs.length ≤ 1000) : (cutV xs lo hi).length + [u].length ≤ sizeLine := szl (by have := cutV_length xs lo hi; simp only [List.length_singleton]; omega)
theorem dpa_flat {K : PySem.W.Frag} {H : Hp} {xs : List V} {ds : List PyData} (h : DpAll K H xs ds) : ∀ k : Nat, DpAll K H (List.replicate k xs).flatten (List.replicate k ds).flatten
  | 0 => .nil
  | k + 1 => by
    rw [List.replicate_succ, List.replicate_succ, List.flatten_cons, List.flatten_cons]
    exact dpa_app h (dpa_flat h k)
theorem eB_flat (b : List Sm) : ∀ k : Nat, eB (List.replicate k b).flatten = (List.replicate k (eB b)).flatten
  | 0 => by rw [List.replicate_zero, List.replicate_zero, List.flatten_nil, eB]; rfl
  | k + 1 => by rw [List.replicate_succ, List.replicate_succ, List.flatten_cons, List.flatten_cons, eB_app, eB_flat b k]
theorem oB_app (l : Bool) : ∀ a b : List Sm, oB l (a ++ b) = oB l a ++ oB l b
  | [], b => by rw [List.nil_append, oB]; rfl
  | s :: r, b => by rw [List.cons_append, oB, oB, oB_app l r b, List.append_assoc]
theorem oB_more {l : Bool} {b : List Sm} {i : Nat} {s : Sm} (h : b[i]? = some s) : oB l (b.take (i + 1)) = oB l (b.take i) ++ oS l s := by
  rw [take_more h, oB_app, oB, oB, List.append_nil]
theorem in_ps (x : Str) (h1 : ¬ x = "pay") (h2 : ¬ x = "set") : inV (.str x) [.str "pay", .str "set"] = false := by
  unfold inV
  simp [List.any, eqV, Ne.symm h1, Ne.symm h2]
section
variable {P : Program} {w : World} {K : PySem.W.Frag} {mg : Str → Option Value} {base : Heap} {aC aK C : Addr}
abbrev s_l_row_other : Stmt := tp 58
theorem sc_l_row_other : FnScope ["_law_row_here", "_law_is_long", "_law_yes", "_law_no", "_law_inner"] ["_law_row_here", "_law_is_long"] (defScope s_l_row_other) := ⟨rfl, rfl, rfl, by decide +kernel, rfl, by decide +kernel, by decide +kernel⟩
theorem ro_step (D : Dh K mg "_law_row_other" s_l_row_other ["_law_row_here", "_law_is_long"]) (T : Txt K mg aC aK) (c_l_other : Df P w K mg base 3 "_law_other" (spOth K 3)) (c_l_test_other : Df P w K mg base 4 "_law_test_other" (spOTs K)) (n : Nat) (c_l_rows_other : Df P w K mg base (4 + 2 * n) "_law_rows_other" (spBOtB K n)) :
    Df P w K mg base (5 + 2 * n) "_law_row_other" (spROt K n) := by
  have e8 : 5 + 2 * n = (4 + 2 * n) + 1 := by omega
  rw [e8]
  refine D.ok sc_l_row_other (fun vs H Q E h => ?_) (fun f cdv Ar outer s H vs Q E hr h => ?_)
  · obtain ⟨v, s, l, rfl, _⟩ := h
    rfl
  obtain ⟨v, st, l, rfl, hd, ok, hw, q⟩ := h
  refine ⟨_, (pss_cons (ps_if (pt_cmpR op_eq (pe_ix ix_tup (pv 0) pe_int (fun _ _ => rfl)) pe_str (nomark _)) (pss_cons (ps_par (i := 2) (j := 3) rfl sc_l_row_other.nd rfl rfl (by decide) rfl rfl (pa_cons (pdf c_l_rows_other hr (by first | decide | omega) rfl (pa_cons (pe_ix ix_tup (pv 0) pe_int (fun _ _ => rfl)) (pa_cons (pv 1) pa_nil))) (pa_cons (pdf c_l_rows_other hr (by first | decide | omega) rfl (pa_cons (pe_ix ix_tup (pv 0) pe_int (fun _ _ => rfl)) (pa_cons (pv 1) pa_nil))) pa_nil)) (by rfl))
      (pss_one (ps_ret (pe_tup (pa_cons (pe_tup (pa_cons pe_str (pa_cons (pdf c_l_test_other hr (by first | decide | omega) rfl (pa_cons (pe_ix ix_tup (pv 0) pe_int (fun _ _ => rfl)) pa_nil)) (pa_cons (pv 3) (pa_cons (pv 2) pa_nil))))) pa_nil))))) pss_nil)
      (pss_cons (ps_if (pt_cmpR op_eq (pe_ix ix_tup (pv 0) pe_int (fun _ _ => rfl)) pe_str (nomark _)) (pss_cons (ps_set (i := 4) sc_l_row_other.nd rfl (Or.inl rfl) (pdf c_l_rows_other hr (by first | decide | omega) rfl (pa_cons (pe_ix ix_tup (pv 0) pe_int (fun _ _ => rfl)) (pa_cons (pv 1) pa_nil))))
      (pss_one (ps_ret (pe_ifExp (pt_val (pv 1)) (pe_op op_mulT (pv 4) (pe_ix ix_tup (pv 0) pe_int (fun _ _ => rfl))) (pe_tup (pa_cons (pe_tup (pa_cons pe_str (pa_cons (pe_ix ix_tup (pv 0) pe_int (fun _ _ => rfl)) (pa_cons (pv 4) pa_nil)))) pa_nil)))))) pss_nil)
      (pss_cons (ps_if (pt_cmpR op_in_seq (pe_ix ix_tup (pv 0) pe_int (fun _ _ => rfl)) (pe_tup (pa_cons pe_str (pa_cons pe_str pa_nil))) rfl) (pss_one (ps_ret (pe_tup (pa_cons (pe_tup (pa_cons (pe_ix ix_tup (pv 0) pe_int (fun _ _ => rfl)) (pa_cons (pdf c_l_rows_other hr (by first | decide | omega) rfl (pa_cons (pe_ix ix_tup (pv 0) pe_int (fun _ _ => rfl)) (pa_cons (pv 1) pa_nil))) (pa_cons (pdf c_l_rows_other hr (by first | decide | omega) rfl (pa_cons (pe_ix ix_tup (pv 0) pe_int (fun _ _ => rfl)) (pa_cons (pv 1) pa_nil))) pa_nil)))) pa_nil)))) pss_nil)
      (pss_cons (ps_if (PW.pt (pw_and (pt_cmpR op_eq (pe_ix ix_tup (pv 0) pe_int (fun _ _ => rfl)) pe_str (nomark _)) (pw_and (pt_val (pe_callB call_isi (by rfl) T.z_isinstance (by decide +kernel) (pa_cons (pe_ix ix_tup (pv 0) pe_int (fun _ _ => rfl)) (pa_cons (pe_bltn (v := .ty "tuple") (u := .type "tuple") (by rfl) T.z_tuple (by decide +kernel) rfl) pa_nil)))) (pw_and1 (pt_cmpR op_eq (pe_ix ix_tup (pe_ix ix_tup (pv 0) pe_int (fun _ _ => rfl)) pe_int (fun _ _ => rfl)) pe_str (nomark _)))))) (pss_one (ps_ret (pe_tup (pa_cons (pe_tup (pa_cons pe_str (pa_cons (pdf c_l_other hr (by first | decide | omega) rfl (pa_cons (pe_ix ix_tup (pe_ix ix_tup (pv 0) pe_int (fun _ _ => rfl)) pe_int (fun _ _ => rfl)) pa_nil)) pa_nil))) (pa_cons (pe_tup (pa_cons pe_str (pa_cons (pdf c_l_other hr (by first | decide | omega) rfl (pa_cons (pe_ix ix_tup (pe_ix ix_tup (pv 0) pe_int (fun _ _ => rfl)) pe_int (fun _ _ => rfl)) pa_nil)) pa_nil))) pa_nil))))) pss_nil)
      (pss_cons (ps_if (pt_cmpR op_in_seq (pe_ix ix_tup (pv 0) pe_int (fun _ _ => rfl)) (pe_tup (pa_cons pe_str (pa_cons pe_str pa_nil))) rfl) (pss_one (ps_ret (pe_tup (pa_cons (pe_op op_catA (pe_slice sl_tupA (pv 0) po_none (po_some (pe_un un_neg pe_int))) (pe_tup (pa_cons (pdf c_l_other hr (by first | decide | omega) rfl (pa_cons (pe_ix ix_tup (pv 0) (pe_un un_neg pe_int) (fun _ _ => rfl)) pa_nil)) pa_nil))) pa_nil)))) pss_nil)
      (pss_one (ps_ret (pe_tup (pa_cons (pv 0) pa_nil))))))))), ?_⟩
  have one : ∀ (H1 H2 : Hp) (u : V) (s : Sm), oS l st = [s] → Ch [] H H1 → Dp K H1 u (eS s) → ∀ r, H1 r = none → Q (.ref r) (upd H1 r (.tup [u])) := by
    intro H1 H2 u s e c1 hu r hr1
    refine q _ _ (c1.add hr1 _) ?_
    rw [e]
    exact dp_new hr1 (flat_eB _) (by rw [eB, eB]; exact dpa_1 hu)
  cases st with
  | ite t y m =>
    cases n with
    | zero => exact ok.elim
    | succ n =>
    obtain ⟨p, x0, x1, x2, x3, rfl, hs, e0, e1, e2, e3⟩ := dp_tup4 hd
    obtain rfl := dp_str e0
    rw [wS] at hw
    refine ⟨_, rfl, p, _, _, _, rfl, rfl, hs, at0, rfl, _, rfl, ifT rfl ?_⟩
    refine ⟨_, rfl, p, _, _, _, rfl, rfl, hs, at2, _, rfl, x2, y, l, rfl, e2, ok.2.1, by omega, fun H1 u1 c1 hd1 => ⟨_, rfl, p, _, _, _, rfl, rfl, c1.sqt hs, at3, _, rfl, x3, m, l, rfl, c1.dB e3, ok.2.2, by omega, fun H2 u2 c2 hd2 => ⟨_, _, rfl, ?_⟩⟩⟩
    refine ⟨_, rfl, p, _, _, _, rfl, rfl, (c1.trans c2).sqt hs, at1, x1, t, rfl, (c1.trans c2).dT e1, ok.1, fun H3 u3 c3 hd3 => ⟨_, rfl, _, rfl, szl (by simp), fun r1 hr1 => ⟨szl (by simp), fun r2 hr2 => ?_⟩⟩⟩
    refine one _ H (.ref r1) (.ite (oT t) (oB l m) (oB l y)) (by rw [oS]) (((c1.trans c2).trans c3).add hr1 _) ?_ r2 hr2
    exact dp_new hr1 (by simp [flatTs, flatT, flat_eT, flat_eB]) (dpa_4 (.str _) hd3 (c3.dB hd2) (c3.dB (c2.dB hd1)))
  | rep k b =>
    cases n with
    | zero => exact ok.elim
    | succ n =>
    obtain ⟨p, x0, x1, x2, rfl, hs, e0, e1, e2⟩ := dp_tup3 hd
    obtain rfl := dp_str e0
    obtain rfl := dp_int e1
    rw [wS] at hw
    have hk := ok.1.1
    have hk8 := ok.1.2
    have hwb : 1 * wB b ≤ k * wB b := Nat.mul_le_mul_right _ hk
    have hwo := wB_oB (l := l) ok.2
    refine ⟨_, rfl, p, _, _, _, rfl, rfl, hs, at0, rfl, _, rfl, ifF (by decide +kernel) ?_⟩
    refine ⟨_, rfl, p, _, _, _, rfl, rfl, hs, at0, rfl, _, rfl, ifT rfl ?_⟩
    refine ⟨_, rfl, p, _, _, _, rfl, rfl, hs, at2, _, rfl, x2, b, l, rfl, e2, ok.2, by omega, fun H1 u1 c1 hd1 => ?_⟩
    refine ⟨_, rfl, _, rfl, ?_⟩
    cases l with
    | true =>
      refine iteT ?_
      obtain ⟨a, xs, rfl, hs1, hxs⟩ := dp_tup hd1
      have lx : xs.length ≤ wB (oB true b) := by rw [dpa_len hxs, eB_len]; exact len_wB _
      refine ⟨_, rfl, _, rfl, p, _, _, _, rfl, rfl, c1.sqt hs, at1, a, _, xs, rfl, rfl, hs1, by omega, by omega, by omega, fun p2 H2 hp2 c2 => ?_⟩
      refine q _ _ (c1.trans c2) ?_
      rw [oS, if_pos rfl, eB_flat]
      exact .tup hp2 (by rw [Int.toNat_natCast]; exact dpa_flat (c2.dA hxs) k)
    | false =>
      refine iteF ?_
      refine ⟨_, rfl, p, _, _, _, rfl, rfl, c1.sqt hs, at1, _, rfl, szl (by simp), fun r1 hr1 => ⟨szl (by simp), fun r2 hr2 => ?_⟩⟩
      refine one _ H (.ref r1) (.rep k (oB false b)) (by rw [oS, if_neg Bool.false_ne_true]) (c1.add hr1 _) ?_ r2 hr2
      exact dp_new hr1 (by simp [flatTs, flatT, flat_eB]) (dpa_3 (.str _) (.int _) hd1)
  | ch wh y m =>
    cases n with
    | zero => exact ok.elim
    | succ n =>
    obtain ⟨p, x0, x1, x2, rfl, hs, e0, e1, e2⟩ := dp_tup3 hd
    obtain rfl := dp_str e0
    rw [wS] at hw
    refine ⟨_, rfl, p, _, _, _, rfl, rfl, hs, at0, rfl, _, rfl, ifF (by cases wh <;> decide +kernel) ?_⟩
    refine ⟨_, rfl, p, _, _, _, rfl, rfl, hs, at0, rfl, _, rfl, ifF (by cases wh <;> decide +kernel) ?_⟩
    refine ⟨_, rfl, p, _, _, _, rfl, rfl, hs, at0, szl (by simp), fun t0 ht0 => ?_⟩
    have c0 : Ch [] H (upd H t0 (.tup [.str "we", .str "they"])) := Ch.new ht0 _
    refine ⟨t0, _, rfl, .inr sqt_new, rfl, rfl, _, rfl, ?_⟩
    rw [if_neg Bool.false_ne_true, in_hand wh]
    refine iteT ?_
    refine ⟨_, rfl, p, _, _, _, rfl, rfl, c0.sqt hs, at0, _, rfl, p, _, _, _, rfl, rfl, c0.sqt hs, at1, _, rfl, x1, y, l, rfl, c0.dB e1, ok.1, by omega, fun H1 u1 c1 hd1 => ⟨_, rfl, p, _, _, _, rfl, rfl, c1.sqt (c0.sqt hs), at2, _, rfl, x2, m, l, rfl, c1.dB (c0.dB e2), ok.2, by omega, fun H2 u2 c2 hd2 => ⟨szl (by simp), fun r1 hr1 => ⟨szl (by simp), fun r2 hr2 => ?_⟩⟩⟩⟩
    refine one _ H (.ref r1) (.ch wh (oB l y) (oB l m)) (by rw [oS]) (((c0.trans c1).trans c2).add hr1 _) ?_ r2 hr2
    exact dp_new hr1 (by simp [flatTs, flatT, flat_eB]) (dpa_3 (.str _) (c2.dB hd1) hd2)
  | stop =>
    obtain ⟨p, x0, rfl, hs, e0⟩ := dp_tup1 hd
    obtain rfl := dp_str e0
    refine ⟨_, rfl, p, _, _, _, rfl, rfl, hs, at0, rfl, _, rfl, ifF (by decide +kernel) ?_⟩
    refine ⟨_, rfl, p, _, _, _, rfl, rfl, hs, at0, rfl, _, rfl, ifF (by decide +kernel) ?_⟩
    refine ⟨_, rfl, p, _, _, _, rfl, rfl, hs, at0, szl (by simp), fun t0 ht0 => ?_⟩
    have c0 : Ch [] H (upd H t0 (.tup [.str "we", .str "they"])) := Ch.new ht0 _
    refine ⟨t0, _, rfl, .inr sqt_new, rfl, rfl, _, rfl, ?_⟩
    rw [if_neg Bool.false_ne_true, in_not "stop" (by decide +kernel) (by decide +kernel)]
    refine iteF ?_
    refine ⟨_, rfl, p, _, _, _, rfl, rfl, c0.sqt hs, at0, rfl, _, rfl, ifF (by decide +kernel) (iteF ?_)⟩
    refine ⟨_, rfl, p, _, _, _, rfl, rfl, c0.sqt hs, at0, szl (by simp), fun t1 ht1 => ?_⟩
    have c1 := c0.add ht1 (.tup [.str "pay", .str "set"])
    refine ⟨t1, _, rfl, .inr sqt_new, rfl, rfl, _, rfl, ?_⟩
    rw [if_neg Bool.false_ne_true, in_ps "stop" (by decide +kernel) (by decide +kernel)]
    refine iteF ?_
    refine ⟨_, rfl, szl (by simp), fun r2 hr2 => ?_⟩
    exact one _ H (.ref p) .stop (by rw [oS]) c1 (c1.dS (e := .stop) hd) r2 hr2
  | set x e =>
    have ok' : Pb x ∧ ExOk Pb 3 e := by cases n <;> exact ok
    obtain ⟨p, x0, x1, x2, rfl, hs, e0, e1, e2⟩ := dp_tup3 hd
    obtain rfl := dp_str e0
    obtain rfl := dp_str e1
    refine ⟨_, rfl, p, _, _, _, rfl, rfl, hs, at0, rfl, _, rfl, ifF (by decide +kernel) ?_⟩
    refine ⟨_, rfl, p, _, _, _, rfl, rfl, hs, at0, rfl, _, rfl, ifF (by decide +kernel) ?_⟩
    refine ⟨_, rfl, p, _, _, _, rfl, rfl, hs, at0, szl (by simp), fun t0 ht0 => ?_⟩
    have c0 : Ch [] H (upd H t0 (.tup [.str "we", .str "they"])) := Ch.new ht0 _
    refine ⟨t0, _, rfl, .inr sqt_new, rfl, rfl, _, rfl, ?_⟩
    rw [if_neg Bool.false_ne_true, in_not "set" (by decide +kernel) (by decide +kernel)]
    refine iteF ?_
    refine ⟨_, rfl, p, _, _, _, rfl, rfl, c0.sqt hs, at0, rfl, _, rfl, ifF (by decide +kernel) (iteF ?_)⟩
    refine ⟨_, rfl, p, _, _, _, rfl, rfl, c0.sqt hs, at0, szl (by simp), fun t1 ht1 => ?_⟩
    have c1 := c0.add ht1 (.tup [.str "pay", .str "set"])
    refine ⟨t1, _, rfl, .inr sqt_new, rfl, rfl, _, rfl, ?_⟩
    have es : inV (.str "set") [V.str "pay", V.str "set"] = true := by decide +kernel
    rw [if_neg Bool.false_ne_true, es]
    refine iteT ?_
    refine ⟨_, rfl, _, rfl, _, rfl, ?_⟩
    refine slA (c1.sqt hs) (fun pa Ha hpa ca => ?_)
    refine ⟨_, rfl, _, rfl, p, _, _, _, rfl, rfl, (c1.trans ca).sqt hs, (show atI [V.str "set", V.str x, x2] (-1) = some x2 from rfl), x2, e, rfl, (c1.trans ca).dE e2, ok'.2, fun Hb ub cb hdb => ⟨szl (by simp), fun pc hpc => ?_⟩⟩
    have cc := (ca.trans cb).add hpc (.tup [ub])
    refine catA (((Ch.trans cb (Ch.new hpc _)).sqt hpa)) sqt_new (cut_small (by simp)) (fun pd Hd hpd cd => ?_)
    refine ⟨szl (by simp), fun r2 hr2 => ?_⟩
    refine one _ H (.ref pd) (.set x (oE e)) (by rw [oS]) ((c1.trans cc).trans cd) (.tup hpd ?_) r2 hr2
    exact dpa_3 (.str _) (.str _) (cd.dE ((Ch.new (M := []) hpc _).dE hdb))
  | pay e =>
    have ok' : ExOk Pb 3 e := by cases n <;> exact ok
    obtain ⟨p, x0, x1, rfl, hs, e0, e1⟩ := dp_tup2 hd
    obtain rfl := dp_str e0
    refine ⟨_, rfl, p, _, _, _, rfl, rfl, hs, at0, rfl, _, rfl, ifF (by decide +kernel) ?_⟩
    refine ⟨_, rfl, p, _, _, _, rfl, rfl, hs, at0, rfl, _, rfl, ifF (by decide +kernel) ?_⟩
    refine ⟨_, rfl, p, _, _, _, rfl, rfl, hs, at0, szl (by simp), fun t0 ht0 => ?_⟩
    have c0 : Ch [] H (upd H t0 (.tup [.str "we", .str "they"])) := Ch.new ht0 _
    refine ⟨t0, _, rfl, .inr sqt_new, rfl, rfl, _, rfl, ?_⟩
    rw [if_neg Bool.false_ne_true, in_not "pay" (by decide +kernel) (by decide +kernel)]
    refine iteF ?_
    have hs0 := c0.sqt hs
    by_cases hplus : ∃ a b, e = .plus a b
    · obtain ⟨a, b, rfl⟩ := hplus
      obtain ⟨p2, y0, y1, y2, rfl, hs2, f0, f1, f2⟩ := dp_tup3 (c0.dE (e := .plus a b) e1)
      obtain rfl := dp_str f0
      have oka : ExOk Pb 3 a := ExOk.mono (fun _ h => h) (by decide : 2 ≤ 3) ok'.1
      have okb : ExOk Pb 3 b := ExOk.mono (fun _ h => h) (by decide : 2 ≤ 3) ok'.2
      refine ⟨_, rfl, p, _, _, _, rfl, rfl, hs0, at0, rfl, _, rfl, ifT rfl ?_⟩
      refine ⟨_, rfl, p, _, _, _, rfl, rfl, hs0, at1, _, _, _, _, _, rfl, .ty _, tyT hs2, kit_ty kb_tt, _, rfl, iteT ?_⟩
      refine ⟨_, rfl, p, _, _, _, rfl, rfl, hs0, at1, p2, _, _, _, rfl, rfl, hs2, at0, rfl, _, rfl, ifT rfl ?_⟩
      refine ⟨_, rfl, p, _, _, _, rfl, rfl, hs0, at1, p2, _, _, _, rfl, rfl, hs2, at1, y1, a, rfl, f1, oka, fun H1 u1 c1 hd1 => ⟨szl (by simp), fun r1 hr1 => ?_⟩⟩
      have k1 : Ch [] H1 (upd H1 r1 (.tup [.str "pay", u1])) := Ch.new hr1 _
      have g1 := c1.trans k1
      refine ⟨_, rfl, p, _, _, _, rfl, rfl, g1.sqt hs0, at1, p2, _, _, _, rfl, rfl, g1.sqt hs2, at2, y2, b, rfl, g1.dE f2, okb, fun H2 u2 c2 hd2 => ⟨szl (by simp), fun r2 hr2 => ⟨szl (by simp), fun r3 hr3 => ?_⟩⟩⟩
      have k2 : Ch [] H2 (upd H2 r2 (.tup [.str "pay", u2])) := Ch.new hr2 _
      refine q _ _ ((((c0.trans g1).trans c2).trans k2).add hr3 _) ?_
      rw [oS, oP]
      have d1 : Dp K (upd H1 r1 (.tup [.str "pay", u1])) (.ref r1) (eS (.pay (oE a))) := dp_new hr1 (by simp [flatTs, flatT, flat_eE]) (dpa_2 (.str _) hd1)
      have d2 : Dp K (upd H2 r2 (.tup [.str "pay", u2])) (.ref r2) (eS (.pay (oE b))) := dp_new hr2 (by simp [flatTs, flatT, flat_eE]) (dpa_2 (.str _) hd2)
      exact dp_new hr3 (flat_eB _) (by rw [eB, eB, eB]; exact dpa_2 (k2.dS (c2.dS d1)) d2)
    dsimp only [tNext]
    refine seq_cut (t := tIfS _ _ _) (fun sg H' => sg = [some (.ref p), some (.bl l), none, none, none] ∧ H' = upd H t0 (.tup [.str "we", .str "they"])) (fun nx hnx => ?_) ?_
    · refine ⟨_, rfl, p, _, _, _, rfl, rfl, hs0, at0, rfl, _, rfl, ifT rfl ?_⟩
      have e1' := c0.dE e1
      cases e with
      | num i =>
        obtain rfl := dp_int e1'
        exact ⟨_, rfl, p, _, _, _, rfl, rfl, hs0, at1, _, _, _, _, _, rfl, .ty _, tyI _, kit_ty kb_it, _, rfl, iteF (iteF (hnx _ _ ⟨rfl, rfl⟩))⟩
      | nm x =>
        obtain rfl := dp_str e1'
        exact ⟨_, rfl, p, _, _, _, rfl, rfl, hs0, at1, _, _, _, _, _, rfl, .ty _, tyS _, kit_ty kb_st, _, rfl, iteF (iteF (hnx _ _ ⟨rfl, rfl⟩))⟩
      | plus a b => exact absurd ⟨_, _, rfl⟩ hplus
      | minus a b =>
        obtain ⟨p2, y0, y1, y2, rfl, hs2, f0, f1, f2⟩ := dp_tup3 e1'
        obtain rfl := dp_str f0
        refine ⟨_, rfl, p, _, _, _, rfl, rfl, hs0, at1, _, _, _, _, _, rfl, .ty _, tyT hs2, kit_ty kb_tt, _, rfl, iteT ?_⟩
        exact ⟨_, rfl, p, _, _, _, rfl, rfl, hs0, at1, p2, _, _, _, rfl, rfl, hs2, at0, rfl, _, rfl, ifF (by decide +kernel) (hnx _ _ ⟨rfl, rfl⟩)⟩
      | times k b =>
        obtain ⟨p2, y0, y1, y2, rfl, hs2, f0, f1, f2⟩ := dp_tup3 e1'
        obtain rfl := dp_str f0
        refine ⟨_, rfl, p, _, _, _, rfl, rfl, hs0, at1, _, _, _, _, _, rfl, .ty _, tyT hs2, kit_ty kb_tt, _, rfl, iteT ?_⟩
        exact ⟨_, rfl, p, _, _, _, rfl, rfl, hs0, at1, p2, _, _, _, rfl, rfl, hs2, at0, rfl, _, rfl, ifF (by decide +kernel) (hnx _ _ ⟨rfl, rfl⟩)⟩
    rintro sg H' ⟨rfl, rfl⟩
    refine ⟨_, rfl, p, _, _, _, rfl, rfl, c0.sqt hs, at0, szl (by simp), fun t1 ht1 => ?_⟩
    have c1 := c0.add ht1 (.tup [.str "pay", .str "set"])
    refine ⟨t1, _, rfl, .inr sqt_new, rfl, rfl, _, rfl, ?_⟩
    have es : inV (.str "pay") [V.str "pay", V.str "set"] = true := by decide +kernel
    rw [if_neg Bool.false_ne_true, es]
    refine iteT ?_
    refine ⟨_, rfl, _, rfl, _, rfl, ?_⟩
    refine slA (c1.sqt hs) (fun pa Ha hpa ca => ?_)
    refine ⟨_, rfl, _, rfl, p, _, _, _, rfl, rfl, (c1.trans ca).sqt hs, (show atI [V.str "pay", x1] (-1) = some x1 from rfl), x1, e, rfl, (c1.trans ca).dE e1, ok', fun Hb ub cb hdb => ⟨szl (by simp), fun pc hpc => ?_⟩⟩
    have cc := (ca.trans cb).add hpc (.tup [ub])
    refine catA (((Ch.trans cb (Ch.new hpc _)).sqt hpa)) sqt_new (cut_small (by simp)) (fun pd Hd hpd cd => ?_)
    refine ⟨szl (by simp), fun r2 hr2 => ?_⟩
    refine one _ H (.ref pd) (.pay (oE e)) (by rw [oS]; cases e <;> first | rfl | exact absurd ⟨_, _, rfl⟩ hplus) ((c1.trans cc).trans cd) (.tup hpd ?_) r2 hr2
    exact dpa_2 (.str _) (cd.dE ((Ch.new (M := []) hpc _).dE hdb))
abbrev s_l_rows_other : Stmt := tp 59
theorem sc_l_rows_other : FnScope ["_law_block_here", "_law_is_long", "_law_found", "_law_row_here"] ["_law_block_here", "_law_is_long"] (defScope s_l_rows_other) := ⟨rfl, rfl, rfl, by decide +kernel, rfl, by decide +kernel, by decide +kernel⟩
theorem bo_step (D : Dh K mg "_law_rows_other" s_l_rows_other ["_law_block_here", "_law_is_long"]) (n : Nat) (c_l_row_other : Df P w K mg base (5 + 2 * n) "_law_row_other" (spROt K n)) : Df P w K mg base (6 + 2 * n) "_law_rows_other" (spBOt K n) := by
  have e8 : 6 + 2 * n = (5 + 2 * n) + 1 := by omega
  rw [e8]
  refine D.ok sc_l_rows_other (fun vs H Q E h => ?_) (fun f cdv Ar outer s H vs Q E hr h => ?_)
  · obtain ⟨v, s, l, rfl, _⟩ := h
    rfl
  obtain ⟨v, b, l, rfl, hd, ok, hw, q⟩ := h
  refine ⟨_, (pss_cons (ps_set (i := 2) sc_l_rows_other.nd rfl (Or.inl rfl) (pe_tup pa_nil))
      (pss_cons (ps_for PassesOwn.never rfl (pi_tup (pv 0)) (pg_name (i := 3) sc_l_rows_other.nd rfl (Or.inl rfl)) (pss_one (ps_set (i := 2) sc_l_rows_other.nd rfl (Or.inl rfl) (pe_op op_catA (pv 2) (pdf c_l_row_other hr (by first | decide | omega) rfl (pa_cons (pv 3) (pa_cons (pv 1) pa_nil)))))))
      (pss_one (ps_ret (pv 2))))), ?_⟩
  obtain ⟨a, xs, rfl, hs, hxs⟩ := dp_tup hd
  have lx : xs.length = b.length := by rw [dpa_len hxs, eB_len]
  refine ⟨szl (by simp), fun p0 hp0 => ?_⟩
  refine ⟨_, rfl, a, rfl, ⟨_, (Ch.new (M := []) hp0 _).sqt hs⟩, for_tup (K := K) (a := a) (xs := xs) (fun i sg H' => Ch [] H H' ∧ ∃ (v : V) (o : Option V), sg = [some (.ref a), some (.bl l), some v, o] ∧ Dp K H' v (.tuple (eB (oB l (b.take i)))))
    ⟨Ch.new hp0 _, _, _, rfl, by rw [List.take_zero, oB]; exact p0d hp0⟩ (fun i sg H' _ h => h.1.sqt hs) ?_ ?_⟩
  · rintro i x sg H' hx ⟨c1, v, o, rfl, hv⟩
    obtain ⟨e, he, hdx⟩ := dpa_get hxs hx
    obtain ⟨s, hb, rfl⟩ := eB_get he
    have hw1 := wB_take_le b (i + 1)
    rw [wB_more hb] at hw1
    have hok := ok s (List.mem_of_getElem? hb)
    have okt : BlOk Pb n (b.take i) := fun s hs => ok s (List.mem_of_mem_take hs)
    have w1 := wB_oB (l := l) okt
    have w2 := wS_oS l n s hok
    refine ⟨_, rfl, _, rfl, _, rfl, x, s, l, rfl, c1.dS hdx, hok, by omega, fun H2 u c2 hu => ?_⟩
    obtain ⟨a1, ys, rfl, hs1, hys⟩ := dp_tup (c2.dB hv)
    obtain ⟨a2, zs, rfl, hs2, hzs⟩ := dp_tup hu
    have l1 : ys.length ≤ wB (oB l (b.take i)) := by rw [dpa_len hys, eB_len]; exact len_wB _
    have l2 : zs.length ≤ wB (oS l s) := by rw [dpa_len hzs, eB_len]; exact len_wB _
    refine catA hs1 hs2 (szl (by omega)) (fun p3 H3 hp3 c3 => ?_)
    refine ⟨(c1.trans c2).trans c3, _, _, rfl, ?_⟩
    rw [oB_more hb, eB_app]
    exact .tup hp3 (dpa_app (c3.dA hys) (c3.dA hzs))
  · rintro sg H' ⟨c1, v, o, rfl, hv⟩
    rw [lx, List.take_length] at hv
    exact ⟨_, rfl, q _ _ c1 hv⟩
end
theorem v_l_rows_other {P : Program} {w : World} {K : PySem.W.Frag} {mg : Str → Option Value} {base : Heap} {aC aK : Addr} (DB : Dh K mg "_law_rows_other" s_l_rows_other ["_law_block_here", "_law_is_long"]) (DR : Dh K mg "_law_row_other" s_l_row_other ["_law_row_here", "_law_is_long"])
    (T : Txt K mg aC aK) (c_l_other : Df P w K mg base 3 "_law_other" (spOth K 3)) (c_l_test_other : Df P w K mg base 4 "_law_test_other" (spOTs K)) : ∀ n, Df P w K mg base (6 + 2 * n) "_law_rows_other" (spBOt K n)
  | 0 => bo_step DB 0 (ro_step DR T c_l_other c_l_test_other 0 (DB.none fun _ _ _ _ h => h))
  | n + 1 => bo_step DB (n + 1) (ro_step DR T c_l_other c_l_test_other (n + 1) ((v_l_rows_other DB DR T c_l_other c_l_test_other n).mono (by omega)))
end K28
/-! K28BI: a statement put in; all choices exchanged. -/
namespace K28
open PySem PySem.Spec PyProof.Rows L2
def tDat (K : PySem.W.Frag) (d : PyData) : TE := fun σ H Q => ∀ H' v, Ch [] H H' → Dp K H' v d → Q v H'
def tDatA (K : PySem.W.Frag) (ds : List PyData) : TA := fun σ H Q => ∀ H' vs, Ch [] H H' → DpAll K H' vs ds → Q vs H'
section
variable {X : Cx} {pos : Pos}
theorem pe_weak {e : Expr} {t u : TE} (h : PE X e t) (k : ∀ σ H Q, u σ H Q → t σ H Q) : PE X e u := ⟨fun pins s σ H Q I q => h.run pins s σ H Q I (k σ H Q q)⟩
theorem pa_weak {es : List Expr} {t u : TA} (h : PA X es t) (k : ∀ σ H Q, u σ H Q → t σ H Q) : PA X es u := ⟨fun pos pins s σ H Q I q => h.run pos pins s σ H Q I (k σ H Q q)⟩
theorem dat_int {i : Int} {j} : PE X (.Constant (.int i) j pos) (tDat X.K (.int i)) := pe_weak pe_int fun σ H Q h => h _ _ (Ch.refl _ _) (.int i)
theorem dat_str {x : Str} {j} : PE X (.Constant (.str x) j pos) (tDat X.K (.str x)) := pe_weak pe_str fun σ H Q h => h _ _ (Ch.refl _ _) (.str x)
theorem dat_tup {es : List Expr} {ds : List PyData} {x1} (h : PA X es (tDatA X.K ds)) (f : flatTs ds = true) (z : ds.length ≤ 100000) : PE X (.Tuple es x1 pos) (tDat X.K (.tuple ds)) :=
  pe_weak (pe_tup h) fun σ H Q q H1 vs c1 hd => ⟨szl (by rw [dpa_len hd]; exact z), fun p hp => q _ _ (c1.add hp _) (dp_new hp f hd)⟩
theorem pad_nil : PA X [] (tDatA X.K []) := pa_weak pa_nil fun σ H Q q => q _ _ (Ch.refl _ _) .nil
theorem pad_cons {e : Expr} {es : List Expr} {d : PyData} {ds : List PyData} (h : PE X e (tDat X.K d)) (h2 : PA X es (tDatA X.K ds)) (f : flatT d = true) (hs : starEach (e :: es) X.env = (false, eval e X.env) :: starEach es X.env := by rfl) : PA X (e :: es) (tDatA X.K (d :: ds)) :=
  pa_weak (pa_cons h h2 hs) fun σ H Q q H1 v c1 hd1 H2 vs c2 hds => q _ _ (c1.trans c2) (.cons (Dp.gw c2.imm _ _ f hd1) hds)
end
theorem dpa_mem {K : PySem.W.Frag} {H : Hp} : ∀ {xs : List V} {ds : List PyData} {v : V}, DpAll K H xs ds → v ∈ xs → ∃ d ∈ ds, Dp K H v d
  | _, _, _, .nil, h => nomatch h
  | _, _, v, .cons a b, h => by
    rcases List.mem_cons.mp h with rfl | h
    · exact ⟨_, List.mem_cons_self, a⟩
    · obtain ⟨d, hd, hv⟩ := dpa_mem b h
      exact ⟨d, List.mem_cons_of_mem _ hd, hv⟩
def mores : List Sm := [.set spare (.nm "n"), .rep 3 [], .rep 1 [.set spare (.num 1)], .pay (.num 0), .pay (.nm spare), .ite (.less (.num 1) (.num 0)) [.stop] [], .ite (.no (.rest (.num 1) 2 0)) [] [.ch false [] [.pay (.num 1)]]]
theorem mores_all : ∀ s ∈ mores, More s := by
  intro s hs
  simp only [mores, List.mem_cons, List.not_mem_nil, or_false] at hs
  rcases hs with rfl | rfl | rfl | rfl | rfl | rfl | rfl
  · exact .a
  · exact .b
  · exact .c
  · exact .d
  · exact .e
  · exact .f
  · exact .g
theorem eB_rep (s : Sm) : ∀ j : Nat, eB (List.replicate j s) = (List.replicate j [eS s]).flatten
  | 0 => by rw [List.replicate_zero, eB]; rfl
  | j + 1 => by rw [List.replicate_succ, List.replicate_succ, List.flatten_cons, eB, eB_rep s j]; rfl
def spMor (K : PySem.W.Frag) : Sp := fun vs H Q _ => ∃ (d c : Addr) (v : V) (p : List Sm) (B : Nat), vs = [.ref d, v] ∧ Dp K H v (.tuple (eB p)) ∧ wB p ≤ 100 ∧ Deck B H d c ∧ B + 10 < 1099511627776 ∧
  ∀ H' u j i s, Ch [d, c] H H' → Deck (B + 10) H' d c → More s → j ≤ 1 → Dp K H' u (.tuple (eB (withMore p j i s))) → Q u H'
section
variable {P : Program} {w : World} {K : PySem.W.Frag} {mg : Str → Option Value} {base : Heap} {aC aK C : Addr}
abbrev s_l_with_more : Stmt := tp 60
theorem sc_l_with_more : FnScope ["_law_deck_here", "_law_program_here", "_law_at", "_law_more"] ["_law_deck_here", "_law_program_here"] (defScope s_l_with_more) := ⟨rfl, rfl, rfl, by decide +kernel, rfl, by decide +kernel, by decide +kernel⟩
theorem v_l_with_more (D : Dh K mg "_law_with_more" s_l_with_more ["_law_deck_here", "_law_program_here"]) (T : Txt K mg aC aK) (c_l_draw : Df P w K mg base 1 "_law_draw" spDrw) (c_l_one : Df P w K mg base 2 "_law_one" (spOne K)) : Df P w K mg base 3 "_law_with_more" (spMor K) := by
  refine D.ok sc_l_with_more (fun vs H Q E h => ?_) (fun f cdv Ar outer s H vs Q E hr h => ?_)
  · obtain ⟨d, c, v, p, B, rfl, _⟩ := h
    rfl
  obtain ⟨d, c, v, p, B, rfl, hd, hw, DK, hB, q⟩ := h
  refine ⟨_, (pss_cons (ps_set (i := 2) sc_l_with_more.nd rfl (Or.inl rfl) (pdf c_l_draw hr (by first | decide | omega) rfl (pa_cons (pv 0) (pa_cons (pe_op op_add (pe_callB call_len_seq (by rfl) T.z_len (by decide +kernel) (pa_cons (pv 1) pa_nil)) pe_int) pa_nil))))
      (pss_cons (ps_set (i := 3) sc_l_with_more.nd rfl (Or.inl rfl) (pe_lst (pad_cons (dat_tup (pad_cons dat_str (pad_cons dat_str (pad_cons dat_str pad_nil rfl) rfl) rfl) rfl (by decide)) (pad_cons (dat_tup (pad_cons dat_str (pad_cons dat_int (pad_cons (dat_tup pad_nil rfl (by decide)) pad_nil rfl) rfl) rfl) rfl (by decide)) (pad_cons (dat_tup (pad_cons dat_str (pad_cons dat_int (pad_cons (dat_tup (pad_cons (dat_tup (pad_cons dat_str (pad_cons dat_str (pad_cons dat_int pad_nil rfl) rfl) rfl) rfl (by decide)) pad_nil rfl) rfl (by decide)) pad_nil rfl) rfl) rfl) rfl (by decide)) (pad_cons (dat_tup (pad_cons dat_str (pad_cons dat_int pad_nil rfl) rfl) rfl (by decide)) pad_nil rfl) rfl) rfl) rfl)))
      (pss_cons (ps_set (i := 3) sc_l_with_more.nd rfl (Or.inl rfl) (pe_op op_cat (pv 3) (pe_lst (pad_cons (dat_tup (pad_cons dat_str (pad_cons dat_str pad_nil rfl) rfl) rfl (by decide)) (pad_cons (dat_tup (pad_cons dat_str (pad_cons (dat_tup (pad_cons dat_str (pad_cons dat_int (pad_cons dat_int pad_nil rfl) rfl) rfl) rfl (by decide)) (pad_cons (dat_tup (pad_cons (dat_tup (pad_cons dat_str pad_nil rfl) rfl (by decide)) pad_nil rfl) rfl (by decide)) (pad_cons (dat_tup pad_nil rfl (by decide)) pad_nil rfl) rfl) rfl) rfl) rfl (by decide)) pad_nil rfl) rfl))))
      (pss_cons (ps_set (i := 3) sc_l_with_more.nd rfl (Or.inl rfl) (pe_op op_cat (pv 3) (pe_lst (pad_cons (dat_tup (pad_cons dat_str (pad_cons (dat_tup (pad_cons dat_str (pad_cons (dat_tup (pad_cons dat_str (pad_cons dat_int (pad_cons dat_int (pad_cons dat_int pad_nil rfl) rfl) rfl) rfl) rfl (by decide)) pad_nil rfl) rfl) rfl (by decide)) (pad_cons (dat_tup pad_nil rfl (by decide)) (pad_cons (dat_tup (pad_cons (dat_tup (pad_cons dat_str (pad_cons (dat_tup pad_nil rfl (by decide)) (pad_cons (dat_tup (pad_cons (dat_tup (pad_cons dat_str (pad_cons dat_int pad_nil rfl) rfl) rfl (by decide)) pad_nil rfl) rfl (by decide)) pad_nil rfl) rfl) rfl) rfl (by decide)) pad_nil rfl) rfl (by decide)) pad_nil rfl) rfl) rfl) rfl) rfl (by decide)) pad_nil rfl))))
      (pss_one (ps_ret (pe_op op_catA (pe_op op_catA (pe_op op_catA (pe_op op_mulT (pe_tup (pa_cons (pe_tup (pa_cons pe_str (pa_cons pe_str (pa_cons pe_str pa_nil)))) pa_nil)) (pdf c_l_draw hr (by first | decide | omega) rfl (pa_cons (pv 0) (pa_cons pe_int pa_nil)))) (pe_slice sl_tupA (pv 1) po_none (po_some (pv 2)))) (pe_tup (pa_cons (pdf c_l_one hr (by first | decide | omega) rfl (pa_cons (pv 0) (pa_cons (pv 3) pa_nil))) pa_nil))) (pe_slice sl_tupA (pv 1) (po_some (pv 2)) po_none)))))))), ?_⟩
  obtain ⟨a, xs, rfl, hs, hxs⟩ := dp_tup hd
  have lx : xs.length ≤ wB p := by rw [dpa_len hxs, eB_len]; exact len_wB p
  refine ⟨_, rfl, _, rfl, a, _, rfl, .inr hs, _, _, rfl, rfl, d, c, B, _, rfl, by omega, by omega, DK, by omega, fun H1 r g1 D1 r0 r1 => ?_⟩
  obtain ⟨i, rfl⟩ : ∃ i : Nat, r = (i : Int) := ⟨r.toNat, by omega⟩
  intro H2 vs2 c2 hd2
  refine ⟨szl (by rw [dpa_len hd2]; simp), fun l1 hl1 => ?_⟩
  refine ⟨_, rfl, fun H3 vs3 c3 hd3 => ⟨szl (by rw [dpa_len hd3]; simp), fun l2 hl2 => ?_⟩⟩
  have n1 : Ch [] H2 (upd H2 l1 (.lst vs2)) := Ch.new hl1 _
  have n2 : Ch [] H3 (upd H3 l2 (.lst vs3)) := Ch.new hl2 _
  have f2 : upd H3 l2 (.lst vs3) l1 = some (.lst vs2) := n2.out _ _ (c3.out _ _ upd_same (by simp)) (by simp)
  refine ⟨l1, l2, _, _, rfl, rfl, f2, upd_same, szl (by rw [dpa_len hd2, dpa_len hd3]; simp), fun l3 hl3 => ?_⟩
  have n3 : Ch [] (upd H3 l2 (.lst vs3)) (upd (upd H3 l2 (.lst vs3)) l3 (.lst (vs2 ++ vs3))) := Ch.new hl3 _
  refine ⟨_, rfl, fun H4 vs4 c4 hd4 => ⟨szl (by rw [dpa_len hd4]; simp), fun l4 hl4 => ?_⟩⟩
  have n4 : Ch [] H4 (upd H4 l4 (.lst vs4)) := Ch.new hl4 _
  have f4 : upd H4 l4 (.lst vs4) l3 = some (.lst (vs2 ++ vs3)) := n4.out _ _ (c4.out _ _ upd_same (by simp)) (by simp)
  refine ⟨l3, l4, _, _, rfl, rfl, f4, upd_same, szl (by rw [List.length_append, dpa_len hd2, dpa_len hd3, dpa_len hd4]; simp), fun l5 hl5 => ?_⟩
  have n5 : Ch [] (upd H4 l4 (.lst vs4)) (upd (upd H4 l4 (.lst vs4)) l5 (.lst (vs2 ++ vs3 ++ vs4))) := Ch.new hl5 _
  have m2 := (((((n1.trans c3).trans n2).trans n3).trans c4).trans n4).trans n5
  have m3 := (((n2.trans n3).trans c4).trans n4).trans n5
  have m4 := n4.trans n5
  have hall : DpAll K (upd (upd H4 l4 (.lst vs4)) l5 (.lst (vs2 ++ vs3 ++ vs4))) (vs2 ++ vs3 ++ vs4) (eB mores) :=
    dpa_app (dpa_app (DpAll.gw m2.imm _ _ rfl hd2) (DpAll.gw m3.imm _ _ rfl hd3)) (DpAll.gw m4.imm _ _ rfl hd4)
  have cm : Ch [] H1 (upd (upd H4 l4 (.lst vs4)) l5 (.lst (vs2 ++ vs3 ++ vs4))) := c2.trans m2
  have Dm := D1.new cm
  have h5 : (upd (upd H4 l4 (.lst vs4)) l5 (.lst (vs2 ++ vs3 ++ vs4))) l5 = some (.lst (vs2 ++ vs3 ++ vs4)) := upd_same
  have lall : (vs2 ++ vs3 ++ vs4).length = 7 := by rw [dpa_len hall]; rfl
  have no5 : l5 ∉ [d, c] := (D1.new (c2.trans (((((n1.trans c3).trans n2).trans n3).trans c4).trans n4))).no hl5
  have gm := g1.trans cm.nil
  -- the returned tuple
  refine ⟨szl (by simp), fun p1 hp1 => ⟨szl (by simp), fun p2 hp2 => ?_⟩⟩
  have k1 : Ch [] _ (upd (upd (upd H4 l4 (.lst vs4)) l5 (.lst (vs2 ++ vs3 ++ vs4))) p1 (.tup [.str "set", .str "n", .str "n"])) := Ch.new hp1 _
  have k2 := k1.add hp2 (.tup [.ref p1])
  have d1 : Dp K (upd (upd (upd H4 l4 (.lst vs4)) l5 (.lst (vs2 ++ vs3 ++ vs4))) p1 (.tup [.str "set", .str "n", .str "n"])) (.ref p1) (eS (.set "n" (.nm "n"))) := dp_new hp1 rfl (dpa_3 (.str _) (.str _) (.str _))
  have d2 := (Ch.new (M := []) hp2 (.tup [.ref p1])).dS d1
  refine ⟨_, rfl, d, c, _, 2, rfl, by decide, by decide, Dm.new k2, by omega, fun H5 j g5 D5 j0 j1 => ?_⟩
  refine ⟨p2, j, _, rfl, rfl, g5.sqt sqt_new, j0, by omega, by simp, fun p3 H6 hp3 c6 => ?_⟩
  have G6 := ((gm.trans k2.nil).trans g5).trans c6.nil
  refine ⟨_, rfl, _, rfl, _, rfl, ?_⟩
  refine slA (G6.sqt hs) (fun p4 H7 hp4 c7 => ?_)
  rw [cut_to] at hp4
  refine catA (c7.sqt hp3) hp4 (szl (by rw [List.length_take, List.length_flatten]; simp; omega)) (fun p5 H8 hp5 c8 => ?_)
  have h8 : H8 l5 = some (.lst (vs2 ++ vs3 ++ vs4)) := c8.out _ _ (c7.out _ _ (c6.out _ _ (g5.out _ _ (k2.out _ _ h5 (by simp)) no5) (by simp)) (by simp)) (by simp)
  have D8 := (D5.new c6).new (c7.trans c8)
  refine ⟨_, rfl, _, rfl, .inl ⟨d, c, l5, _, _, rfl, D8, by omega, SqL.of h8, no5, by omega, by omega, fun H9 v9 g9 D9 hv => ⟨szl (by simp), fun p6 hp6 => ?_⟩⟩⟩
  have c9 := Ch.new (M := []) hp6 (.tup [v9])
  have G9 := (((G6.trans c7.nil).trans c8.nil).trans g9).trans c9.nil
  refine catA (c9.sqt (g9.sqt hp5)) sqt_new (szl (by rw [List.length_append, List.length_take, List.length_flatten]; simp; omega)) (fun p7 HA hp7 cA => ?_)
  refine ⟨_, rfl, _, rfl, _, rfl, ?_⟩
  dsimp only [tNoPart]
  refine slA ((G9.trans cA.nil).sqt hs) (fun p8 HB hp8 cB' => ?_)
  rw [cut_from] at hp8
  refine catA (cB'.sqt hp7) hp8 (szl (by rw [List.length_append, List.length_append, List.length_take, List.length_flatten, List.length_drop]; simp; omega)) (fun p9 HC hp9 cC => ?_)
  obtain ⟨dd, hdm, hdv⟩ := dpa_mem hall hv
  obtain ⟨s9, hs9, rfl⟩ : ∃ s9, s9 ∈ mores ∧ dd = eS s9 := by
    rw [eB_map] at hdm
    obtain ⟨x, hx, rfl⟩ := List.mem_map.mp hdm
    exact ⟨x, hx, rfl⟩
  -- what stays
  have t9 := (cA.trans cB').trans cC
  have dv : Dp K HC v9 (eS s9) := t9.dS (c9.dS (g9.dS (c8.dS (c7.dS (c6.dS (g5.dS (k2.dS hdv)))))))
  have GC := ((G9.trans cA.nil).trans cB'.nil).trans cC.nil
  have dx : DpAll K HC xs (eB p) := GC.dA hxs
  have d3 : Dp K HC (.ref p1) (eS (.set "n" (.nm "n"))) := t9.dS (c9.dS (g9.dS (c8.dS (c7.dS (c6.dS (g5.dS d2))))))
  refine q _ _ j.toNat i s9 GC (((D9.new c9).new t9).mono (by omega)) (mores_all s9 hs9) (by omega) ?_
  unfold withMore
  rw [eB_app, eB_app, eB_app, eB_rep, ← eB_take, ← eB_drop]
  refine .tup hp9 (dpa_app (dpa_app (dpa_app (dpa_flat (dpa_1 d3) _) (dpa_take _ dx)) ?_) (dpa_drop _ dx))
  rw [eB, eB]
  exact dpa_1 dv
end
end K28
/-! K28BJ: all choices exchanged. -/
namespace K28
open PySem PySem.Spec PyProof.Rows L2
def spExc (K : PySem.W.Frag) (n : Nat) : Sp := fun vs H Q _ => ∃ (v : V) (b : List Sm), vs = [v] ∧ Dp K H v (.tuple (eB b)) ∧ BlOk Pb n b ∧ wB b ≤ 100 ∧ ∀ H' u, Ch [] H H' → Dp K H' u (.tuple (eB (xB b))) → Q u H'
def spExcB (K : PySem.W.Frag) : Nat → Sp
  | 0 => fun _ _ _ _ => False
  | n + 1 => spExc K n
theorem xB_app : ∀ a b : List Sm, xB (a ++ b) = xB a ++ xB b
  | [], b => by rw [List.nil_append, xB]; rfl
  | s :: r, b => by rw [List.cons_append, xB, xB, xB_app r b]; rfl
theorem xB_more {b : List Sm} {i : Nat} {s : Sm} (h : b[i]? = some s) : xB (b.take (i + 1)) = xB (b.take i) ++ [xS s] := by rw [take_more h, xB_app, xB, xB]
theorem in_ir (x : Str) (h1 : ¬ x = "if") (h2 : ¬ x = "repeat") : inV (.str x) [.str "if", .str "repeat"] = false := by
  unfold inV
  simp [List.any, eqV, Ne.symm h1, Ne.symm h2]
section
variable {P : Program} {w : World} {K : PySem.W.Frag} {mg : Str → Option Value} {base : Heap} {aC aK C : Addr}
abbrev s_l_exchanged : Stmt := tp 61
theorem sc_l_exchanged : FnScope ["_law_block_here", "_law_found", "_law_row_here", "_law_part"] ["_law_block_here"] (defScope s_l_exchanged) := ⟨rfl, rfl, rfl, by decide +kernel, rfl, by decide +kernel, by decide +kernel⟩
theorem exc_step (D : Dh K mg "_law_exchanged" s_l_exchanged ["_law_block_here"]) (T : Txt K mg aC aK) (n : Nat) (c_l_exchanged : Df P w K mg base n "_law_exchanged" (spExcB K n)) : Df P w K mg base (n + 1) "_law_exchanged" (spExc K n) := by
  refine D.ok sc_l_exchanged (fun vs H Q E h => ?_) (fun f cdv Ar outer s H vs Q E hr h => ?_)
  · obtain ⟨v, b, rfl, _⟩ := h
    rfl
  obtain ⟨v, b, rfl, hd, ok, hw, q⟩ := h
  refine ⟨_, (pss_cons (ps_set (i := 1) sc_l_exchanged.nd rfl (Or.inl rfl) (pe_lst pa_nil))
      (pss_cons (ps_for PassesOwn.never rfl (pi_tup (pv 0)) (pg_name (i := 2) sc_l_exchanged.nd rfl (Or.inl rfl)) (pss_one (ps_if (pt_cmpR op_in_seq (pe_ix ix_tup (pv 2) pe_int (fun _ _ => rfl)) (pe_tup (pa_cons pe_str (pa_cons pe_str pa_nil))) rfl) (pss_one (ps_expr (pe_bm PySem.F.plainAttrs_list PySem.F.slot_list_append PySem.F.type_list_append mt_append (pv 1) (pa_cons (pe_tup (pa_cons (pe_ix ix_tup (pv 2) pe_int (fun _ _ => rfl)) (pa_cons (pdf c_l_exchanged hr (by first | decide | omega) rfl (pa_cons (pe_ix ix_tup (pv 2) pe_int (fun _ _ => rfl)) pa_nil)) (pa_cons (pdf c_l_exchanged hr (by first | decide | omega) rfl (pa_cons (pe_ix ix_tup (pv 2) pe_int (fun _ _ => rfl)) pa_nil)) pa_nil)))) pa_nil)))) (pss_one (ps_if (pt_cmpR op_in_seq (pe_ix ix_tup (pv 2) pe_int (fun _ _ => rfl)) (pe_tup (pa_cons pe_str (pa_cons pe_str pa_nil))) rfl) (pss_one (ps_expr (pe_bm PySem.F.plainAttrs_list PySem.F.slot_list_append PySem.F.type_list_append mt_append (pv 1) (pa_cons (pe_op op_catA (pe_slice sl_tupA (pv 2) po_none (po_some pe_int)) (pe_callTy call_tuple_of (by rfl) T.z_tuple (by decide +kernel) (pa_cons (pe_lc (own := [("_law_part", 3)]) (g := gName 3) (tt := tYes) rfl sc_l_exchanged.nd (pi_tup (pe_slice sl_tupA (pv 2) (po_some pe_int) po_none)) (blkOk_by (own := [("_law_part", 3)]) (N := ["_law_block_here", "_law_found", "_law_row_here", "_law_part"]) (sc := defScope s_l_exchanged) (by decide +kernel)) (fun _ _ _ _ _ => pg_name (i := 3) sc_l_exchanged.nd rfl (Or.inl rfl)) (fun _ _ _ _ _ => pts_nil) (fun _ _ _ _ _ => (pdf c_l_exchanged hr (by first | decide | omega) rfl (pa_cons (pv 3) pa_nil)))) pa_nil))) pa_nil)))) (pss_one (ps_expr (pe_bm PySem.F.plainAttrs_list PySem.F.slot_list_append PySem.F.type_list_append mt_append (pv 1) (pa_cons (pv 2) pa_nil)))))))))
      (pss_one (ps_ret (pe_callTy call_tuple_of (by rfl) T.z_tuple (by decide +kernel) (pa_cons (pv 1) pa_nil)))))), ?_⟩
  obtain ⟨a, xs, rfl, hs, hxs⟩ := dp_tup hd
  have lx : xs.length = b.length := by rw [dpa_len hxs, eB_len]
  have lb := len_wB b
  refine ⟨szl (by simp), fun fl hfl => ?_⟩
  have c0 : Ch [] H (upd H fl (.lst [])) := Ch.new hfl _
  refine ⟨_, rfl, a, rfl, ⟨_, c0.sqt hs⟩, for_tup (K := K) (a := a) (xs := xs) (fun i sg H' => Ch [] H H' ∧ ∃ (ys : List V) (o1 o2 : Option V), sg = [some (.ref a), some (.ref fl), o1, o2] ∧ H' fl = some (.lst ys) ∧ DpAll K H' ys (eB (xB (b.take i))))
    ⟨c0, [], _, _, rfl, upd_same, by rw [List.take_zero, xB, eB]; exact .nil⟩ (fun i sg H' _ h => h.1.sqt hs) ?_ ?_⟩
  · rintro i x sg H' hx ⟨c1, ys, o1, o2, rfl, hys, hdy⟩
    obtain ⟨e, he, hdx⟩ := dpa_get hxs hx
    obtain ⟨st, hb, rfl⟩ := eB_get he
    have il := (List.getElem?_eq_some_iff.mp hb).1
    have hok := ok st (List.mem_of_getElem? hb)
    have hws := wB_mem (List.mem_of_getElem? hb)
    have hdx := c1.dS hdx
    have ly : ys.length ≤ 100 := by
      have h1 : ys.length = (xB (b.take i)).length := by rw [dpa_len hdy, eB_len]
      have h2 := len_wB (xB (b.take i))
      rw [wB_xB (fun s hs => ok s (List.mem_of_mem_take hs))] at h2
      have h3 := wB_take_le b i
      omega
    -- one more
    have more : ∀ (H2 : Hp) (u : V) (p1 p2 : Option V), Ch [] H' H2 → Dp K H2 u (eS (xS st)) → ∃ (zs : List V), H2 fl = some (.lst zs) ∧ zs = ys ∧ zs.length < sizeLine ∧ (Ch [] H (upd H2 fl (.lst (zs ++ [u]))) ∧ ∃ (ys : List V) (o1 o2 : Option V), [some (.ref a), some (.ref fl), p1, p2] = [some (V.ref a), some (.ref fl), o1, o2] ∧ (upd H2 fl (.lst (zs ++ [u]))) fl = some (.lst ys) ∧ DpAll K (upd H2 fl (.lst (zs ++ [u]))) ys (eB (xB (b.take (i + 1))))) := by
      intro H2 u p1 p2 c2 hu
      have h2 := c2.out _ _ hys (by simp)
      have gp : Ch [fl] H2 (upd H2 fl (.lst (ys ++ [u]))) := Ch.put h2 (fun z => z) (by simp) _
      refine ⟨ys, h2, rfl, sz (by omega), (c1.trans c2).young hfl h2 _, ys ++ [u], _, _, rfl, upd_same, ?_⟩
      rw [xB_more hb, eB_app]
      exact dpa_app (gp.dA (c2.dA hdy)) (by rw [eB, eB]; exact dpa_1 (gp.dS hu))
    have shape : (∃ wh y m, st = .ch wh y m) ∨ (xS st = st ∧ ∃ (p : Addr) (z : Str) (r : List V), x = .ref p ∧ SqT K H' p (.str z :: r) ∧ ¬ z = "we" ∧ ¬ z = "they" ∧ ¬ z = "if" ∧ ¬ z = "repeat") ∨
        ∃ (n' : Nat) (p : Addr) (z : Str) (x1 : V) (tl : List V) (d1 : PyData) (bs : List (List Sm)), n = n' + 1 ∧ x = .ref p ∧ SqT K H' p (.str z :: x1 :: tl) ∧ ¬ z = "we" ∧ ¬ z = "they" ∧ inV (.str z) [V.str "if", V.str "repeat"] = true ∧ DpAll K H' tl (bs.map fun b => .tuple (eB b)) ∧ (∀ b ∈ bs, BlOk Pb n' b ∧ wB b ≤ 100) ∧ bs.length ≤ 2 ∧ flatT d1 = true ∧ Dp K H' x1 d1 ∧ eS (xS st) = .tuple (.str z :: d1 :: bs.map fun b => .tuple (eB (xB b))) := by
      cases st with
      | ch wh y m => exact .inl ⟨_, _, _, rfl⟩
      | set x e => obtain ⟨p, x0, y, z, rfl, hs, e1, _⟩ := dp_tup3 hdx; obtain rfl := dp_str e1; exact .inr (.inl ⟨by rw [xS], p, _, _, rfl, hs, by decide +kernel, by decide +kernel, by decide +kernel, by decide +kernel⟩)
      | pay e => obtain ⟨p, x0, y, rfl, hs, e1, _⟩ := dp_tup2 hdx; obtain rfl := dp_str e1; exact .inr (.inl ⟨by rw [xS], p, _, _, rfl, hs, by decide +kernel, by decide +kernel, by decide +kernel, by decide +kernel⟩)
      | stop => obtain ⟨p, x0, rfl, hs, e1⟩ := dp_tup1 hdx; obtain rfl := dp_str e1; exact .inr (.inl ⟨by rw [xS], p, _, _, rfl, hs, by decide +kernel, by decide +kernel, by decide +kernel, by decide +kernel⟩)
      | ite t y m =>
        cases n with
        | zero => exact hok.elim
        | succ n =>
        obtain ⟨p, x0, x1, x2, x3, rfl, hs1, e0, e1, e2, e3⟩ := dp_tup4 hdx
        obtain rfl := dp_str e0
        rw [wS] at hws
        refine .inr (.inr ⟨n, p, _, x1, [x2, x3], eT t, [y, m], rfl, rfl, hs1, by decide +kernel, by decide +kernel, by decide +kernel, dpa_2 e2 e3, fun b hb => ?_, by simp, flat_eT t, e1, ?_⟩)
        · simp only [List.mem_cons, List.not_mem_nil, or_false] at hb
          rcases hb with rfl | rfl
          · exact ⟨hok.2.1, by omega⟩
          · exact ⟨hok.2.2, by omega⟩
        · rw [xS, eS]; rfl
      | rep k y =>
        cases n with
        | zero => exact hok.elim
        | succ n =>
        obtain ⟨p, x0, x1, x2, rfl, hs1, e0, e1, e2⟩ := dp_tup3 hdx
        obtain rfl := dp_str e0
        rw [wS] at hws
        have hk : 1 * wB y ≤ k * wB y := Nat.mul_le_mul_right _ hok.1.1
        refine .inr (.inr ⟨n, p, _, x1, [x2], .int k, [y], rfl, rfl, hs1, by decide +kernel, by decide +kernel, by decide +kernel, dpa_1 e2, fun b hb => ?_, by simp, rfl, e1, ?_⟩)
        · rw [List.mem_singleton] at hb
          subst hb
          exact ⟨hok.2, by omega⟩
        · rw [xS, eS]; rfl
    rcases shape with ⟨wh, y, m, rfl⟩ | ⟨hxs2, p, z, r, rfl, hs1, z1, z2, z3, z4⟩ | ⟨n', p, z, x1, tl, d1, bs, rfl, rfl, hs1, z1, z2, z3, htl, hbs, lbs, fd1, hd1, es⟩
    · cases n with
      | zero => exact hok.elim
      | succ n =>
      obtain ⟨p, x0, x1, x2, rfl, hs1, e0, e1, e2⟩ := dp_tup3 hdx
      obtain rfl := dp_str e0
      rw [wS] at hws
      refine ⟨_, rfl, p, _, _, _, rfl, rfl, hs1, at0, szl (by simp), fun t0 ht0 => ?_⟩
      have k0 : Ch [] H' (upd H' t0 (.tup [.str "we", .str "they"])) := Ch.new ht0 _
      refine ⟨t0, _, rfl, .inr sqt_new, rfl, rfl, _, rfl, ?_⟩
      rw [if_neg Bool.false_ne_true, in_hand wh]
      refine iteT ?_
      refine ⟨_, rfl, .inl ⟨rfl, _, SqL.of (k0.out _ _ hys (by simp))⟩, _, rfl, p, _, _, _, rfl, rfl, k0.sqt hs1, at0, _, rfl, p, _, _, _, rfl, rfl, k0.sqt hs1, at2, x2, m, rfl, k0.dB e2, hok.2, by omega, fun H1 u1 c2 hd1 => ⟨_, rfl, p, _, _, _, rfl, rfl, (k0.trans c2).sqt hs1, at1, x1, y, rfl, (k0.trans c2).dB e1, hok.1, by omega, fun H2 u2 c3 hd2 => ⟨szl (by simp), fun r1 hr1 => ?_⟩⟩⟩
      have k1 := ((k0.trans c2).trans c3).add hr1 (.tup [.str (hand wh), u1, u2])
      obtain ⟨zs, hz, rfl, lz, fin⟩ := more _ (.ref r1) (some (.ref p)) o2 k1 (dp_new hr1 (by simp [flatTs, flatT, flat_eB]) (dpa_3 (.str _) (c3.dB hd1) hd2))
      exact ⟨fl, _, _, rfl, rfl, hz, lz, fin⟩
    · refine ⟨_, rfl, p, _, _, _, rfl, rfl, hs1, at0, szl (by simp), fun t0 ht0 => ?_⟩
      have k0 : Ch [] H' (upd H' t0 (.tup [.str "we", .str "they"])) := Ch.new ht0 _
      refine ⟨t0, _, rfl, .inr sqt_new, rfl, rfl, _, rfl, ?_⟩
      rw [if_neg Bool.false_ne_true, in_not z z1 z2]
      refine iteF ?_
      refine ⟨_, rfl, p, _, _, _, rfl, rfl, k0.sqt hs1, at0, szl (by simp), fun t1 ht1 => ?_⟩
      have k1 := k0.add ht1 (.tup [.str "if", .str "repeat"])
      refine ⟨t1, _, rfl, .inr sqt_new, rfl, rfl, _, rfl, ?_⟩
      rw [if_neg Bool.false_ne_true, in_ir z z3 z4]
      refine iteF ?_
      obtain ⟨zs, hz, rfl, lz, fin⟩ := more _ (.ref p) (some (.ref p)) o2 k1 (by rw [hxs2]; exact k1.dS hdx)
      exact ⟨_, rfl, .inl ⟨rfl, _, SqL.of hz⟩, _, rfl, fl, _, _, rfl, rfl, hz, lz, fin⟩
    · refine ⟨_, rfl, p, _, _, _, rfl, rfl, hs1, at0, szl (by simp), fun t0 ht0 => ?_⟩
      have k0 : Ch [] H' (upd H' t0 (.tup [.str "we", .str "they"])) := Ch.new ht0 _
      refine ⟨t0, _, rfl, .inr sqt_new, rfl, rfl, _, rfl, ?_⟩
      rw [if_neg Bool.false_ne_true, in_not z z1 z2]
      refine iteF ?_
      refine ⟨_, rfl, p, _, _, _, rfl, rfl, k0.sqt hs1, at0, szl (by simp), fun t1 ht1 => ?_⟩
      have k1 := k0.add ht1 (.tup [.str "if", .str "repeat"])
      refine ⟨t1, _, rfl, .inr sqt_new, rfl, rfl, _, rfl, ?_⟩
      rw [if_neg Bool.false_ne_true, z3]
      refine iteT ?_
      refine ⟨_, rfl, .inl ⟨rfl, _, SqL.of (k1.out _ _ hys (by simp))⟩, _, rfl, _, rfl, ?_⟩
      refine slA (k1.sqt hs1) (fun pa Ha hpa ca => ?_)
      have ecut : cutV (.str z :: x1 :: tl) none (some (2 : Int)) = [.str z, x1] := cut_to (k := 2)
      rw [ecut] at hpa
      have k2 := k1.trans ca
      refine ⟨_, rfl, _, rfl, ?_⟩
      dsimp only [tNoPart]
      refine slA (k2.sqt hs1) (fun pb Hb hpb cb => ?_)
      have ecut2 : cutV (.str z :: x1 :: tl) (some (2 : Int)) none = tl := cut_from (k := 2)
      rw [ecut2] at hpb
      have k3 := k2.trans cb
      have htl3 := k3.dBs htl
      have ltl : tl.length = bs.length := by rw [dpa_len htl, List.length_map]
      refine ⟨pb, rfl, ⟨_, hpb⟩, fun L hL => ?_⟩
      refine lc_tup (K := K) (a := pb) (xs := tl) (fun j H3 => Ch [] Hb H3 ∧ ∃ ws, H3 L = some (.lst ws) ∧ DpAll K H3 ws ((bs.take j).map fun b => .tuple (eB (xB b)))) ⟨Ch.new hL _, [], upd_same, by rw [List.take_zero]; exact .nil⟩ (fun j H3 _ h => h.1.sqt hpb) ?_ ?_
      · rintro j u H3 hj ⟨c3, ws, hws3, hdw⟩
        obtain ⟨dd, hdd, hdu⟩ := dpa_get htl3 hj
        rw [List.getElem?_map] at hdd
        cases hbb : bs[j]? with
        | none => rw [hbb] at hdd; cases hdd
        | some bb =>
          rw [hbb] at hdd
          cases hdd
          obtain ⟨okb, wbb⟩ := hbs bb (List.mem_of_getElem? hbb)
          have jl := (List.getElem?_eq_some_iff.mp hbb).1
          refine ⟨rfl, _, rfl, u, bb, rfl, c3.dB hdu, okb, wbb, fun H4 v4 c4 hd4 => ?_⟩
          have h4 := c4.out _ _ hws3 (by simp)
          have gp : Ch [L] H4 (upd H4 L (.lst (ws ++ [v4]))) := Ch.put h4 (fun z => z) (by simp) _
          have lw : ws.length = (bs.take j).length := by rw [dpa_len hdw, List.length_map]
          refine ⟨ws, h4, sz (by rw [lw, List.length_take]; omega), (c3.trans c4).young hL h4 _, ws ++ [v4], upd_same, ?_⟩
          obtain ⟨hl, eb⟩ := List.getElem?_eq_some_iff.mp hbb
          rw [List.take_succ_eq_append_getElem hl, eb, List.map_append]
          have e2 : (bs.take j).map (fun b => PyData.tuple (eB (xB b))) = ((bs.take j).map xB).map (fun b => PyData.tuple (eB b)) := by rw [List.map_map]; rfl
          rw [e2] at hdw ⊢
          exact dpa_app (gp.dBs (c4.dBs hdw)) (dpa_1 (gp.dB hd4))
      · rintro H3 ⟨c3, ws, hws3, hdw⟩
        rw [ltl, List.take_length] at hdw
        have e2 : bs.map (fun b => PyData.tuple (eB (xB b))) = (bs.map xB).map (fun b => PyData.tuple (eB b)) := by rw [List.map_map]; rfl
        rw [e2] at hdw es
        have lw : ws.length = bs.length := by rw [dpa_len hdw, List.length_map, List.length_map]
        refine ⟨_, ws, rfl, .inl ⟨SqL.of hws3, fun l hl => ?_⟩⟩
        have k5 : Ch [] H3 (upd H3 l (.tup ws)) := Ch.new hl _
        refine catA (k5.sqt (c3.sqt (cb.sqt hpa))) sqt_new (szl (by simp; omega)) (fun p9 H9 hp9 c9 => ?_)
        have k9 := ((k3.trans c3).trans k5).trans c9
        obtain ⟨zs, hz, rfl, lz, fin⟩ := more H9 (.ref p9) (some (.ref p)) o2 k9 (by
          rw [es]
          exact .tup hp9 (dpa_app (dpa_2 (.str _) (Dp.gw k9.imm _ _ fd1 hd1)) (c9.dBs (k5.dBs hdw))))
        exact ⟨fl, _, _, rfl, rfl, hz, lz, fin⟩
  · rintro sg H' ⟨c1, ys, o1, o2, rfl, hys, hdy⟩
    rw [lx, List.take_length] at hdy
    refine ⟨_, rfl, fl, _, rfl, .inl ⟨SqL.of hys, fun l hl => ?_⟩⟩
    exact q _ _ (c1.add hl _) (dp_new hl (flat_eB _) hdy)
theorem v_l_exchanged {P : Program} {w : World} {K : PySem.W.Frag} {mg : Str → Option Value} {base : Heap} {aC aK : Addr} (D : Dh K mg "_law_exchanged" s_l_exchanged ["_law_block_here"]) (T : Txt K mg aC aK) : ∀ n, Df P w K mg base (n + 1) "_law_exchanged" (spExc K n)
  | 0 => exc_step D T 0 (D.none fun _ _ _ _ h => h)
  | n + 1 => exc_step D T (n + 1) (v_l_exchanged D T n)
end
end K28
/-! K28BK: how long the shown rows are. -/
namespace K28
open PySem PySem.Spec PyProof.Rows L2
theorem len_textFrom_le : ∀ (ts : List Str) (k : Nat) (acc : Str), (textFrom k acc ts).length ≤ acc.length + piled ts
  | [], k, acc => Nat.le_add_right _ _
  | t :: r, k, acc => by
    have ih := len_textFrom_le r (k + 1) (acc ++ (if k > 0 then ", " else "" : String) ++ t)
    have e : (acc ++ (if k > 0 then ", " else "" : String) ++ t).length = acc.length + (if k > 0 then 2 else 0) + t.length := by
      rw [Str.length_append, Str.length_append]
      split <;> rfl
    rw [e] at ih
    rw [piled_cons]
    have d : (if k > 0 then 2 else 0 : Nat) ≤ 2 := by split <;> omega
    show (textFrom (k + 1) (acc ++ (if k > 0 then ", " else "" : String) ++ t) r).length ≤ _
    omega
theorem len_list_le (ts : List Str) : (listText ts).length ≤ 2 + piled ts := by
  unfold listText
  have h := len_textFrom_le ts 0 "["
  have e1 : (("[" : String) : Str).length = 1 := rfl
  have e2 : (("]" : String) : Str).length = 1 := rfl
  rw [Str.length_append, e2]
  rw [e1] at h
  omega
theorem len_tup_le (ts : List Str) : (tupleText ts).length ≤ 3 + piled ts := by
  unfold tupleText
  rw [Str.length_append, Str.length_append]
  have e1 : (("(" : String) : Str).length = 1 := rfl
  have e3 : (((if ts.length == 1 then ",)" else ")" : String) : Str)).length ≤ 2 := by split <;> decide
  have e4 : (Str.join ", " ts).length ≤ piled ts := by
    by_cases h : ts = []
    · subst h; exact Nat.le_of_eq rfl
    · have := join_length_add ts h
      omega
  rw [e1]
  omega
theorem piled_le {D : Nat} : ∀ {ts : List Str}, (∀ t ∈ ts, t.length ≤ D) → piled ts ≤ ts.length * (D + 2)
  | [], _ => by rw [piled_nil]; exact Nat.zero_le _
  | t :: r, h => by
    have h1 := h t List.mem_cons_self
    have h2 := piled_le fun x hx => h x (List.mem_cons_of_mem _ hx)
    rw [piled_cons, List.length_cons, Nat.succ_mul]
    omega
theorem shownAll_map : ∀ ds : List PyData, PyData.shownAll ds = ds.map PyData.shown
  | [] => by rw [PyData.shownAll]; rfl
  | x :: r => by rw [PyData.shownAll, shownAll_map r]; rfl
theorem showableAll_of : ∀ {ds : List PyData}, (∀ d ∈ ds, d.showable = true) → PyData.showableAll ds = true
  | [], _ => by rw [PyData.showableAll]
  | x :: r, h => by rw [PyData.showableAll, h x List.mem_cons_self, showableAll_of fun y hy => h y (List.mem_cons_of_mem _ hy)]; rfl
theorem hasDictAll_of : ∀ {ds : List PyData}, (∀ d ∈ ds, d.hasDict = false) → PyData.hasDictAll ds = false
  | [], _ => by rw [PyData.hasDictAll]
  | x :: r, h => by rw [PyData.hasDictAll, h x List.mem_cons_self, hasDictAll_of fun y hy => h y (List.mem_cons_of_mem _ hy)]; rfl
theorem depthAll_of {D : Nat} : ∀ {ds : List PyData}, (∀ d ∈ ds, d.depth ≤ D) → PyData.depthAll ds ≤ D
  | [], _ => by rw [PyData.depthAll]; exact Nat.zero_le _
  | x :: r, h => by
    have h1 := h x List.mem_cons_self
    have h2 := depthAll_of fun y hy => h y (List.mem_cons_of_mem _ hy)
    rw [PyData.depthAll]; omega
structure RowOk (r : Row) : Prop where
  z : r.1.natAbs < 2 ^ 1900
  tl : r.2.1.length ≤ 4
  hl : r.2.2.length ≤ 4
  b : bits r.2.1
/-- a text that repr writes -/
structure ShowOk (d : PyData) (m : Nat) : Prop where
  sh : d.showable = true
  hd : d.hasDict = false
  len : d.shown.length ≤ m
theorem show_tup {ds : List PyData} {m : Nat} (h : ∀ d ∈ ds, ShowOk d m) : ShowOk (.tuple ds) (3 + ds.length * (m + 2)) := by
  refine ⟨by rw [PyData.showable]; exact showableAll_of fun d hd => (h d hd).sh, by rw [PyData.hasDict]; exact hasDictAll_of fun d hd => (h d hd).hd, ?_⟩
  rw [PyData.shown, shownAll_map]
  have h1 := len_tup_le (ds.map PyData.shown)
  have h2 := piled_le (ts := ds.map PyData.shown) (D := m) fun t ht => by
    obtain ⟨d, hd, rfl⟩ := List.mem_map.mp ht
    exact (h d hd).len
  rw [List.length_map] at h2
  omega
theorem show_list {ds : List PyData} {m : Nat} (h : ∀ d ∈ ds, ShowOk d m) : ShowOk (.list ds) (2 + ds.length * (m + 2)) := by
  refine ⟨by rw [PyData.showable]; exact showableAll_of fun d hd => (h d hd).sh, by rw [PyData.hasDict]; exact hasDictAll_of fun d hd => (h d hd).hd, ?_⟩
  rw [PyData.shown, shownAll_map]
  have h1 := len_list_le (ds.map PyData.shown)
  have h2 := piled_le (ts := ds.map PyData.shown) (D := m) fun t ht => by
    obtain ⟨d, hd, rfl⟩ := List.mem_map.mp ht
    exact (h d hd).len
  rw [List.length_map] at h2
  omega
theorem ShowOk.mono {d : PyData} {m n : Nat} (h : ShowOk d m) (le : m ≤ n) : ShowOk d n := ⟨h.sh, h.hd, Nat.le_trans h.len le⟩
theorem show_int {i : Int} (h : i.natAbs < 2 ^ 1900) : ShowOk (.int i) 1921 := by
  have hl : i.natAbs.log2 < 1920 := Nat.lt_of_lt_of_le (PySem.Flt.log2_lt_of (by decide) h) (by decide)
  refine ⟨by rw [PyData.showable]; exact decide_eq_true hl, by rw [PyData.hasDict], ?_⟩
  rw [PyData.shown]
  exact int_text_len_1921 hl
theorem show_bit {i : Int} (h : i = 0 ∨ i = 1) : ShowOk (.int i) 1 := by
  rcases h with rfl | rfl
  · exact ⟨by decide +kernel, by rw [PyData.hasDict], by decide +kernel⟩
  · exact ⟨by decide +kernel, by rw [PyData.hasDict], by decide +kernel⟩
theorem show_hand (w : Bool) : ShowOk (.str (hand w)) 6 := by
  cases w
  · exact ⟨by rw [PyData.showable], by rw [PyData.hasDict], by decide +kernel⟩
  · exact ⟨by rw [PyData.showable], by rw [PyData.hasDict], by decide +kernel⟩
theorem show_row {r : Row} (h : RowOk r) : ShowOk (eR r) 5772 := by
  have h2 : ShowOk (.tuple (r.2.1.map .int)) 1921 := (show_tup (m := 1) fun d hd => by
    obtain ⟨t, ht, rfl⟩ := List.mem_map.mp hd
    exact show_bit (h.b t ht)).mono (by rw [List.length_map]; have := h.tl; omega)
  have h3 : ShowOk (.tuple (r.2.2.map fun w => .str (hand w))) 1921 := (show_tup (m := 6) fun d hd => by
    obtain ⟨t, ht, rfl⟩ := List.mem_map.mp hd
    exact show_hand t).mono (by rw [List.length_map]; have := h.hl; omega)
  refine (show_tup (m := 1921) fun d hd => ?_).mono (by simp)
  simp only [List.mem_cons, List.not_mem_nil, or_false] at hd
  rcases hd with rfl | rfl | rfl
  · exact show_int h.z
  · exact h2
  · exact h3
theorem depth_row (r : Row) : (eR r).depth ≤ 2 := by
  have h1 : PyData.depthAll (r.2.1.map PyData.int) ≤ 0 := depthAll_of fun d hd => by
    obtain ⟨t, ht, rfl⟩ := List.mem_map.mp hd
    rw [PyData.depth]; exact Nat.le_refl _
  have h2 : PyData.depthAll (r.2.2.map fun w => PyData.str (hand w)) ≤ 0 := depthAll_of fun d hd => by
    obtain ⟨t, ht, rfl⟩ := List.mem_map.mp hd
    rw [PyData.depth]; exact Nat.le_refl _
  simp only [eR, PyData.depth, PyData.depthAll]
  omega
theorem rows_ok {P : Str → Prop} {d : Nat} {p : List Sm} (h : BlOk P d p) (hw : wB p ≤ 30) (hc : cB p ≤ 4) {n : Int} (hn : n.natAbs ≤ M0) : deep (tree p n) ≤ 4 ∧ (rows (tree p n) [] []).length ≤ 16 ∧ ∀ r ∈ rows (tree p n) [] [], RowOk r := by
  have hd := tree_deep h n
  have hd4 : deep (tree p n) ≤ 4 := by omega
  refine ⟨hd4, ?_, fun r hr => ?_⟩
  · rw [rows_len]
    have h2 := leaves_le (tree p n)
    have h3 : 2 ^ deep (tree p n) ≤ 2 ^ 4 := Nat.pow_le_pow_right (by decide) hd4
    have h4 : (2 : Nat) ^ 4 = 16 := by decide
    omega
  · obtain ⟨h1, h2, h3, q, h4, h5⟩ := rows_all (tree p n) [] [] (tree_all h hw hn) r hr
    refine ⟨fits_lt h1, by simp only [List.length_nil] at h2; omega, by simp only [List.length_nil] at h3; omega, ?_⟩
    rw [h4, List.nil_append]
    exact h5
theorem bits_con {q : List Int} (h : bits q) : bits (con q) := by
  intro t ht
  obtain ⟨x, hx, rfl⟩ := List.mem_map.mp ht
  rcases h x hx with e | e <;> rw [e] <;> decide
end K28
/-! K28BL: the law. -/
namespace K28
open PySem PySem.Spec PyProof.Rows L2
theorem ifN {p : Prop} [Decidable p] {A B : Prop} (h : p) (b : B) : if (!decide p) = true then A else B := by
  rw [decide_eq_true h]; exact iteF b
/-- a program that is the base one, written otherwise -/
structure Ver (p q : List Sm) : Prop where
  ok : BlOk Pn 4 q
  w : wB q ≤ 200
  t : ∀ n, tree q n = tree p n
theorem pb_pn {d : Nat} {b : List Sm} (h : BlOk Pb d b) : BlOk Pn d b := fun s hs => SmOk.mono (fun x hx => hx.1) (Nat.le_refl d) (h s hs)
theorem pb_spare : ¬ Pb spare := fun h => h.2 rfl
theorem pn_n : Pn "n" := n_ok.1
theorem pn_spare : Pn spare := .of (by decide +kernel)
theorem ver_o {p : List Sm} (h : BlOk Pb 4 p) (hw : wB p ≤ 30) (l : Bool) : Ver p (oB l p) := by
  have w := wB_oB (l := l) h
  exact ⟨pb_pn (ok_oB h), by omega, fun n => tree_oB h n⟩
theorem ver_m {p q : List Sm} (h : BlOk Pb 4 q) (hw : wB q ≤ 60) (ht : ∀ n, tree q n = tree p n) {j i : Nat} {s : Sm} (hj : j ≤ 1) (m : More s) : Ver p (withMore q j i s) := by
  have w := withMore_w (p := q) (j := j) (i := i) m
  exact ⟨withMore_ok (by decide) (pb_pn h) pn_n pn_spare m, by omega, fun n => (tree_withMore h pb_spare j i m n).trans (ht n)⟩
theorem b_start {B X Y : Nat} (h : B ≤ X) : B ≤ X + Y := Nat.le_trans h (Nat.le_add_right _ _)
theorem b_k {B X m : Nat} (h : B ≤ X + m * 100 + (3 : Int).toNat * 10) : B ≤ X + (m + 1) * 100 := by
  have e : (3 : Int).toNat = 3 := rfl
  rw [e] at h
  omega
theorem b_m {B X : Nat} {x y z : V} (h : B ≤ X + [x, y, z].length * 100) : B ≤ X + 300 := h
theorem dpa_int_eq {K : PySem.W.Frag} {H : Hp} : ∀ {vs : List V} {ns : List Int}, DpAll K H vs (ns.map .int) → vs = ns.map V.int
  | _, [], h => dpa_nil h
  | _, n :: r, h => by
    obtain ⟨v, vs, rfl, h1, h2⟩ := dpa_cons h
    rw [dp_int h1, dpa_int_eq h2]
    rfl
theorem fol_row {P : Str → Prop} {d : Nat} {p : List Sm} (h : BlOk P d p) {z : Int} {r : Row} (hr : r ∈ rows (tree p z) [] []) : fol (tree (xB p) z) (con r.2.1) [] [] = (r.1, con r.2.1, r.2.2) := by
  obtain ⟨q, g, e, hb, hf⟩ := fol_con (tree p z) [] [] [] r hr
  rw [tree_xB h z]
  have e1 : r.2.1 = q := by rw [e]; rfl
  have e2 : r.2.2 = g := by rw [e]
  rw [e1, e2, hf]
  rfl
section
variable {P : Program} {w : World} {K : PySem.W.Frag} {mg : Str → Option Value} {base : Heap} {aC aK C : Addr}
abbrev s_law : Stmt := tp 62
theorem sc_law : FnScope ["_law_script", "_law_deck_here", "_law_turn", "_law_program_here", "_law_other_here", "_law_exchanged_here", "_law_version", "_law_k", "_law_number_here", "_law_total", "_law_turns", "_law_hands", "_law_contrary"] ["_law_script"] (defScope s_law) := ⟨rfl, rfl, rfl, by decide +kernel, rfl, by decide +kernel, by decide +kernel⟩
theorem v_law {A : Around} (hA : A.guards = some []) {f : Addr} {cdv : Value} {outer : List Env} {s : Shared} {H : Hp} {a : Addr} {ns : List Int} (T : Txt K mg aC aK) (hr : Room 23 (A.deeper (envOfC "law" (defScope s_law) s.heap.objs.size f cdv)))
    (hs : SqL K H a (ns.map V.int)) (hl : ns.length ≤ 63) (c_l_deck : Df P w K mg base 1 "_law_deck" (spDck K)) (c_l_draw : Df P w K mg base 1 "_law_draw" spDrw) (c_l_names : Df P w K mg base 3 "_law_names" spNms) (c_l_program : Df P w K mg base 16 "_law_program" (spPrg K)) (c_l_number : Df P w K mg base 3 "_law_number" spNum)
    (c_l_rows_other : Df P w K mg base 14 "_law_rows_other" (spBOt K 4)) (c_l_exchanged : Df P w K mg base 5 "_law_exchanged" (spExc K 4)) (c_l_with_more : Df P w K mg base 3 "_law_with_more" (spMor K)) (c_program_error : Df P w K mg base 12 "program_error" (spErr K 4)) (c_run : Df P w K mg base 18 "run" (spRun K 4)) (c_each_run : Dg P w K mg base 20 "each_run" (spEach K 4)) :
    ∃ t, PSs (cxOf CX0 P w K mg base ["_law_script", "_law_deck_here", "_law_turn", "_law_program_here", "_law_other_here", "_law_exchanged_here", "_law_version", "_law_k", "_law_number_here", "_law_total", "_law_turns", "_law_hands", "_law_contrary"] "law" (defScope s_law) f cdv A outer s H E0).nox (defBody s_law) t ∧ t { nx := fun _ H' => (fun v _ => v = .bl true) V.non H', rt := fun v _ => v = .bl true } (L2.start ["_law_script", "_law_deck_here", "_law_turn", "_law_program_here", "_law_other_here", "_law_exchanged_here", "_law_version", "_law_k", "_law_number_here", "_law_total", "_law_turns", "_law_hands", "_law_contrary"] [.ref a]) H := by
  have hg : (A.deeper (envOfC "law" (defScope s_law) s.heap.objs.size f cdv)).guards = some [] := hA
  have hu : (A.deeper (envOfC "law" (defScope s_law) s.heap.objs.size f cdv)).units + 40 < cLine := by have := hr.un; omega
  refine ⟨_, (pss_cons (ps_set (i := 1) sc_law.nd rfl (Or.inl rfl) (pdf c_l_deck hr (by first | decide | omega) rfl (pa_cons (pv 0) pa_nil)))
      (pss_cons (ps_for PassesOwn.never rfl (pi_range1 (by rfl) T.z_range (pa_cons pe_int pa_nil)) (pg_name (i := 2) sc_law.nd rfl (Or.inl rfl)) (pss_cons (ps_set (i := 3) sc_law.nd rfl (Or.inl rfl) (pdf c_l_program hr (by first | decide | omega) rfl (pa_cons (pv 1) (pa_cons (pdf c_l_names hr (by first | decide | omega) rfl (pa_cons (pv 1) pa_nil)) pa_nil))))
      (pss_cons (ps_par (i := 4) (j := 5) rfl sc_law.nd rfl rfl (by decide) rfl rfl (pa_cons (pdf c_l_rows_other hr (by first | decide | omega) rfl (pa_cons (pv 3) (pa_cons (pe_cmpR op_eq (pdf c_l_draw hr (by first | decide | omega) rfl (pa_cons (pv 1) (pa_cons pe_int pa_nil))) pe_int (nomark _)) pa_nil))) (pa_cons (pdf c_l_exchanged hr (by first | decide | omega) rfl (pa_cons (pv 3) pa_nil)) pa_nil)) (by rfl))
      (pss_cons (ps_for PassesOwn.never rfl (pi_list (pe_lst (pa_cons (pv 4) (pa_cons (pdf c_l_with_more hr (by first | decide | omega) rfl (pa_cons (pv 1) (pa_cons (pv 3) pa_nil))) (pa_cons (pdf c_l_with_more hr (by first | decide | omega) rfl (pa_cons (pv 1) (pa_cons (pv 4) pa_nil))) pa_nil))))) (pg_name (i := 6) sc_law.nd rfl (Or.inl rfl)) (pss_one (ps_if (pt_cmpR op_isN (pdf c_program_error hr (by first | decide | omega) rfl (pa_cons (pv 6) pa_nil)) pe_non (nomark _)) (pss_one (ps_for PassesOwn.never rfl (pi_range1 (by rfl) T.z_range (pa_cons pe_int pa_nil)) (pg_name (i := 7) sc_law.nd rfl (Or.inl rfl)) (pss_cons (ps_set (i := 8) sc_law.nd rfl (Or.inl rfl) (pdf c_l_number hr (by first | decide | omega) rfl (pa_cons (pv 1) pa_nil)))
      (pss_one (ps_if (pt_cmpR op_ne (pe_callB (repr_data hg hu) (by rfl) T.z_repr (by decide +kernel) (pa_cons (plist c_each_run hr (by rfl) T.z_list (by rfl) (pa_cons (pv 6) (pa_cons (pv 8) pa_nil))) pa_nil)) (pe_callB (repr_data hg hu) (by rfl) T.z_repr (by decide +kernel) (pa_cons (plist c_each_run hr (by rfl) T.z_list (by rfl) (pa_cons (pv 3) (pa_cons (pv 8) pa_nil))) pa_nil)) (nomark _)) (pss_one (ps_ret pe_bl)) pss_nil))))) pss_nil)))
      (pss_cons (ps_set (i := 8) sc_law.nd rfl (Or.inl rfl) (pdf c_l_number hr (by first | decide | omega) rfl (pa_cons (pv 1) pa_nil)))
      (pss_one (ps_for PassesOwn.never rfl (pi_list (plist c_each_run hr (by rfl) T.z_list (by rfl) (pa_cons (pv 3) (pa_cons (pv 8) pa_nil)))) (pg_tup (by rfl) (pgs_cons (pg_name (i := 9) sc_law.nd rfl (Or.inl rfl)) (pgs_cons (pg_name (i := 10) sc_law.nd rfl (Or.inl rfl)) (pgs_cons (pg_name (i := 11) sc_law.nd rfl (Or.inl rfl)) pgs_nil)))) (pss_cons (ps_set (i := 12) sc_law.nd rfl (Or.inl rfl) (pe_callTy call_tuple_of (by rfl) T.z_tuple (by decide +kernel) (pa_cons (pe_lc (own := [("_law_turn", 2)]) (g := gName 2) (tt := tYes) rfl sc_law.nd (pi_tup (pv 10)) (blkOk_by (own := [("_law_turn", 2)]) (N := ["_law_script", "_law_deck_here", "_law_turn", "_law_program_here", "_law_other_here", "_law_exchanged_here", "_law_version", "_law_k", "_law_number_here", "_law_total", "_law_turns", "_law_hands", "_law_contrary"]) (sc := defScope s_law) (by decide +kernel)) (fun _ _ _ _ _ => pg_name (i := 2) sc_law.nd rfl (Or.inl rfl)) (fun _ _ _ _ _ => pts_nil) (fun _ _ _ _ _ => (pe_op op_sub pe_int (pv 2)))) pa_nil)))
      (pss_one (ps_if (pt_cmpR op_ne (pe_callB (repr_data hg hu) (by rfl) T.z_repr (by decide +kernel) (pa_cons (pdf c_run hr (by first | decide | omega) rfl (pa_cons (pv 5) (pa_cons (pv 8) (pa_cons (pv 12) pa_nil)))) pa_nil)) (pe_callB (repr_data hg hu) (by rfl) T.z_repr (by decide +kernel) (pa_cons (pe_tup (pa_cons (pv 9) (pa_cons (pv 12) (pa_cons (pv 11) pa_nil)))) pa_nil)) (nomark _)) (pss_one (ps_ret pe_bl)) pss_nil))))))))))
      (pss_one (ps_ret pe_bl)))), ?_⟩
  refine ⟨_, rfl, a, ns, rfl, hs, hl, fun H1 d c c1 D1 => ?_⟩
  refine ⟨_, rfl, by decide, by decide, ?_⟩
  refine for_range (fun i sg H' => (∃ o2 o3 o4 o5 o6 o7 o8 o9 oa ob oc, sg = [some (.ref a), some (.ref d), o2, o3, o4, o5, o6, o7, o8, o9, oa, ob, oc]) ∧ ∃ B, B ≤ i * 5000000 ∧ Deck B H' d c) ⟨⟨_, _, _, _, _, _, _, _, _, _, _, rfl⟩, 0, Nat.zero_le _, D1⟩ ?_ ?_
  · rintro i sg H2 hi ⟨⟨o2, o3, o4, o5, o6, o7, o8, o9, oa, ob, oc, rfl⟩, B2, hB2, D2⟩
    have hi6 : i < 6 := hi
    refine ⟨_, rfl, _, rfl, d, c, _, rfl, D2, by omega, fun H3 nl g3 D3 N3 => ⟨d, c, nl, _, rfl, D3, N3, by omega, fun H4 v p g4 D4 hd ok hw hc => ?_⟩⟩
    refine ⟨_, rfl, _, rfl, d, c, _, 2, rfl, by decide, by decide, D4, by omega, fun H5 r g5 D5 _ _ => ⟨rfl, v, p, _, rfl, g5.dB hd, ok, by omega, fun H6 u6 c6 hd6 => ⟨_, rfl, v, p, rfl, c6.dB (g5.dB hd), ok, by omega, fun H7 u7 c7 hd7 => ⟨_, _, rfl, ?_⟩⟩⟩⟩
    have D7 := (D5.new c6).new c7
    have okn := pb_pn ok
    obtain hwo := wB_oB (l := decide (V.int r = V.int 0)) ok
    have g47 : Ch [d, c] H4 H7 := (g5.trans c6.nil).trans c7.nil
    refine ⟨_, rfl, _, rfl, _, rfl, d, c, v, p, _, rfl, g47.dB hd, by omega, D7, by omega, fun H8 u8 j8 i8 s8 g8 D8 m8 hj8 hd8 => ⟨_, rfl, _, rfl, d, c, u6, oB (decide (V.int r = V.int 0)) p, _, rfl, g8.dB (c7.dB hd6), by omega, D8, by omega, fun H9 u9 j9 i9 s9 g9 D9 m9 hj9 hd9 => ⟨szl (by simp), fun L hL => ?_⟩⟩⟩
    have nL := D9.no hL
    have cL : Ch [d, c] H9 (upd H9 L (.lst [u6, u8, u9])) := Ch.new hL _
    have DL := D9.new (Ch.new hL (.lst [u6, u8, u9]))
    have g4L : Ch [d, c] H4 (upd H9 L (.lst [u6, u8, u9])) := ((g47.trans g8).trans g9).trans cL
    have vers : ∀ x ∈ [u6, u8, u9], ∃ q, Ver p q ∧ Dp K (upd H9 L (.lst [u6, u8, u9])) x (.tuple (eB q)) := by
      intro x hx
      simp only [List.mem_cons, List.not_mem_nil, or_false] at hx
      rcases hx with rfl | rfl | rfl
      · exact ⟨_, ver_o ok hw _, cL.dB (g9.dB (g8.dB (c7.dB hd6)))⟩
      · exact ⟨_, ver_m ok (by omega) (fun n => rfl) hj8 m8, cL.dB (g9.dB hd8)⟩
      · exact ⟨_, ver_m (ok_oB ok) (by omega) (fun n => tree_oB ok n) hj9 m9, cL.dB hd9⟩
    refine ⟨L, rfl, ⟨_, SqL.of upd_same⟩, for_list (K := K) (a := L) (xs := [u6, u8, u9]) (fun m sg H' => (∃ o2 o6 o7 o8 o9 oa ob oc, sg = [some (.ref a), some (.ref d), o2, some v, some u6, some u7, o6, o7, o8, o9, oa, ob, oc]) ∧ Ch [d, c] (upd H9 L (.lst [u6, u8, u9])) H' ∧ ∃ B, B ≤ i * 5000000 + 4001000 + m * 100 ∧ Deck B H' d c)
      ⟨⟨_, _, _, _, _, _, _, _, rfl⟩, Ch.refl _ _, _, (by omega), DL⟩ (fun m sg H' _ h => h.2.1.sql (SqL.of upd_same) nL) ?_ ?_⟩
    · rintro m x sg H' hx ⟨⟨p2, p6, p7, p8, p9, pa, pb, pc, rfl⟩, gm, Bm, hBm, Dm⟩
      have m3 : m < 3 := (List.getElem?_eq_some_iff.mp hx).1
      obtain ⟨q, V0, dx0⟩ := vers x (List.mem_of_getElem? hx)
      have vw := V0.w
      refine ⟨_, rfl, x, q, rfl, gm.dB dx0, V0.ok, by omega, by decide, fun Ha ca => ⟨rfl, _, rfl, ifT rfl ?_⟩, fun Ha ra ca => ⟨rfl, _, rfl, ifF (fun e => by cases e) ⟨⟨_, _, _, _, _, _, _, _, rfl⟩, gm.trans ca.nil, _, (by omega), Dm.new ca⟩⟩⟩
      refine ⟨_, rfl, by decide, by decide, ?_⟩
      have gLa := gm.trans ca.nil
      refine for_range (fun k sg H' => (∃ o2 o7 o8 o9 oa ob oc, sg = [some (.ref a), some (.ref d), o2, some v, some u6, some u7, some x, o7, o8, o9, oa, ob, oc]) ∧ Ch [d, c] (upd H9 L (.lst [u6, u8, u9])) H' ∧ ∃ B, B ≤ i * 5000000 + 4001000 + m * 100 + k * 10 ∧ Deck B H' d c) ⟨⟨_, _, _, _, _, _, _, rfl⟩, gLa, Bm, b_start hBm, Dm.new ca⟩ ?_ ?_
      · rintro k sg Hk hk ⟨⟨q2, q7, q8, q9, qa, qb, qc, rfl⟩, gk, Bk, hBk, Dk⟩
        have hk3 : k < 3 := hk
        refine ⟨_, rfl, d, c, _, rfl, Dk, by omega, fun Hb z gb Db hz => ?_⟩
        obtain ⟨dp4, r16, rok⟩ := rows_ok ok hw hc hz
        have gLb := gk.trans gb
        have sl : ShowOk (.list ((rows (tree p z) [] []).map eR)) 100000 := (show_list (m := 5772) fun dd hdd => by
          obtain ⟨r, hr, rfl⟩ := List.mem_map.mp hdd
          exact show_row (rok r hr)).mono (by rw [List.length_map]; omega)
        have dl : (PyData.list ((rows (tree p z) [] []).map eR)).depth ≤ 30 := by
          have := depthAll_of (D := 2) (ds := (rows (tree p z) [] []).map eR) fun dd hdd => by
            obtain ⟨r, hr, rfl⟩ := List.mem_map.mp hdd
            exact depth_row r
          rw [PyData.depth]; omega
        refine ⟨_, rfl, _, rfl, x, z, q, rfl, gLb.dB dx0, V0.ok, by omega, by rw [V0.t z]; omega, fun Hc xs cc hxs => ?_⟩
        rw [V0.t z] at hxs
        refine fun pc1 hpc => ⟨pc1, _, rfl, .lst (SqL.of upd_same) ((Ch.new (M := []) hpc (.lst xs)).dRs hxs), sl.sh, sl.hd, dl, szl sl.len, ?_⟩
        have kc : Ch [] Hb (upd Hc pc1 (.lst xs)) := cc.add hpc _
        refine ⟨_, rfl, _, rfl, v, z, p, rfl, kc.dB (gLb.dB (g4L.dB hd)), okn, by omega, by omega, fun Hd xs2 cd hxs2 => ?_⟩
        refine fun pd1 hpd => ⟨pd1, _, rfl, .lst (SqL.of upd_same) ((Ch.new (M := []) hpd (.lst xs2)).dRs hxs2), sl.sh, sl.hd, dl, szl sl.len, rfl, _, rfl, ifN rfl ?_⟩
        have kd := kc.trans (cd.add hpd (.lst xs2))
        exact ⟨⟨_, _, _, _, _, _, _, rfl⟩, gLb.trans kd.nil, _, (by omega), Db.new kd⟩
      · rintro sg Hk ⟨⟨q2, q7, q8, q9, qa, qb, qc, rfl⟩, gk, Bk, hBk, Dk⟩
        exact ⟨⟨_, _, _, _, _, _, _, _, rfl⟩, gk, Bk, b_k hBk, Dk⟩
    · rintro sg H' ⟨⟨p2, p6, p7, p8, p9, pa, pb, pc, rfl⟩, gm, Bm, hBm, Dm⟩
      have hBm' := b_m hBm
      clear hBm
      have g4m := g4L.trans gm
      refine ⟨_, rfl, d, c, _, rfl, Dm, by omega, fun He z ge De hz => ?_⟩
      obtain ⟨dp4, r16, rok⟩ := rows_ok ok hw hc hz
      have g4e := g4m.trans ge
      refine ⟨_, rfl, _, rfl, v, z, p, rfl, g4e.dB hd, okn, by omega, by omega, fun Hf xs cf hxs pf hpf => ?_⟩
      have kf : Ch [] He (upd Hf pf (.lst xs)) := cf.add hpf _
      have hxs' := (Ch.new (M := []) hpf (.lst xs)).dRs hxs
      have du7 : Dp K (upd Hf pf (.lst xs)) u7 (.tuple (eB (xB p))) := kf.dB (ge.dB (gm.dB (cL.dB (g9.dB (g8.dB hd7)))))
      refine ⟨pf, rfl, ⟨_, SqL.of upd_same⟩, for_list (K := K) (a := pf) (xs := xs) (fun m sg H' => (∃ o2 o6 o7 o9 oa ob oc, sg = [some (.ref a), some (.ref d), o2, some v, some u6, some u7, o6, o7, some (.int z), o9, oa, ob, oc]) ∧ Ch [] (upd Hf pf (.lst xs)) H')
        ⟨⟨_, _, _, _, _, _, _, rfl⟩, Ch.refl _ _⟩ (fun m sg H' _ h => h.2.sql (SqL.of upd_same) (by simp)) ?_ ?_⟩
      · rintro m x sg Hm hx ⟨⟨q2, q6, q7, q9, qa, qb, qc, rfl⟩, km⟩
        obtain ⟨dd, hdd, hdx⟩ := dpa_get hxs' hx
        rw [List.getElem?_map] at hdd
        cases hrr : (rows (tree p z) [] [])[m]? with
        | none => rw [hrr] at hdd; cases hdd
        | some rr =>
          rw [hrr] at hdd
          cases hdd
          have hrm := List.mem_of_getElem? hrr
          have ro := rok rr hrm
          obtain ⟨pr, x0, x1, x2, rfl, hsr, e0, e1, e2⟩ := dp_tup3 (km.dR hdx)
          obtain rfl := dp_int e0
          obtain ⟨pt, vs1, rfl, hpt, hv1⟩ := dp_tup e1
          have ev1 := dpa_int_eq hv1
          subst ev1
          refine ⟨pr, _, rfl, hsr, rfl, _, _, rfl, _, _, rfl, _, _, rfl, rfl, ?_⟩
          refine ⟨_, rfl, pt, rfl, ⟨_, hpt⟩, fun L2 hL2 => ?_⟩
          refine lc_tup (K := K) (a := pt) (xs := rr.2.1.map V.int) (fun j H3 => Ch [] Hm H3 ∧ H3 L2 = some (.lst (((con rr.2.1).take j).map V.int))) ⟨Ch.new hL2 _, by rw [upd_same, List.take_zero]; rfl⟩ (fun j H3 _ h => h.1.sqt hpt) ?_ ?_
          · rintro j u H3 hj ⟨c3, h3⟩
            rw [List.getElem?_map] at hj
            cases htt : rr.2.1[j]? with
            | none => rw [htt] at hj; cases hj
            | some tt =>
              rw [htt] at hj
              cases hj
              have jl := (List.getElem?_eq_some_iff.mp htt).1
              have t4 := ro.tl
              refine ⟨rfl, _, rfl, _, _, rfl, rfl, _, h3, sz (by rw [List.length_map, List.length_take]; omega), c3.young hL2 h3 _, ?_⟩
              have ec : (con rr.2.1).take (j + 1) = (con rr.2.1).take j ++ [1 - tt] := by
                have e3 : (con rr.2.1)[j]? = some (1 - tt) := by unfold con; rw [List.getElem?_map, htt]; rfl
                obtain ⟨hl3, e4⟩ := List.getElem?_eq_some_iff.mp e3
                rw [List.take_succ_eq_append_getElem hl3, e4]
              rw [upd_same, ec, List.map_append]
              rfl
          · rintro H3 ⟨c3, h3⟩
            have lc : (con rr.2.1).take (rr.2.1.map V.int).length = con rr.2.1 := by
              rw [List.take_of_length_le]
              unfold con
              rw [List.length_map, List.length_map]
              exact Nat.le_refl _
            rw [lc] at h3
            refine ⟨_, _, rfl, .inl ⟨SqL.of h3, fun al hal => ?_⟩⟩
            have k3 := c3.add hal (.tup ((con rr.2.1).map V.int))
            have okx : BlOk Pn 4 (xB p) := pb_pn (ok_xB ok)
            have wx : wB (xB p) ≤ 10000 := by rw [wB_xB ok]; omega
            have ro2 : RowOk (rr.1, con rr.2.1, rr.2.2) := ⟨ro.z, by show (con rr.2.1).length ≤ 4; unfold con; rw [List.length_map]; exact ro.tl, ro.hl, bits_con ro.b⟩
            have sr := show_row ro2
            have dr := depth_row (rr.1, con rr.2.1, rr.2.2)
            refine ⟨_, rfl, _, rfl, _, rfl, u7, al, z, con rr.2.1, xB p, rfl, k3.dB (km.dB du7), okx, wx, sqt_new, bits_con ro.b, fun Hg rg cg hdg => ?_⟩
            rw [fol_row ok hrm] at hdg
            refine ⟨rg, _, rfl, hdg, sr.sh, sr.hd, by omega, szl (Nat.le_trans sr.len (by decide)), ?_⟩
            refine ⟨_, rfl, _, rfl, _, rfl, szl (by simp), fun pg hpg => ?_⟩
            have dcon : Dp K Hg (.ref al) (.tuple ((con rr.2.1).map .int)) := .tup (cg.sqt sqt_new) (dpa_ints _)
            have fh : flatT (.tuple (rr.2.2.map fun w => PyData.str (hand w))) = true := by rw [flatT]; exact flat_hands _
            have dh : Dp K Hg x2 (.tuple (rr.2.2.map fun w => .str (hand w))) := Dp.gw (k3.trans cg).imm _ _ fh e2
            have dtup : Dp K (upd Hg pg (.tup [.int rr.1, .ref al, x2])) (.ref pg) (eR (rr.1, con rr.2.1, rr.2.2)) :=
              dp_new hpg (by have := flat_R (rr.1, con rr.2.1, rr.2.2); rw [eR, flatT] at this; exact this) (dpa_3 (.int _) dcon dh)
            refine ⟨pg, _, rfl, dtup, sr.sh, sr.hd, by omega, szl (Nat.le_trans sr.len (by decide)), rfl, _, rfl, ifN rfl ?_⟩
            exact ⟨⟨_, _, _, _, _, _, _, rfl⟩, (km.trans k3).trans (cg.add hpg _)⟩
      · rintro sg Hm ⟨⟨q2, q6, q7, q9, qa, qb, qc, rfl⟩, km⟩
        exact ⟨⟨_, _, _, _, _, _, _, _, _, _, _, rfl⟩, _, (by omega), De.new (kf.trans km)⟩
  · rintro sg H' ⟨⟨o2, o3, o4, o5, o6, o7, o8, o9, oa, ob, oc, rfl⟩, _⟩
    exact rfl
end
end K28
/-! K28BM: what the top leaves, and the law's call. -/
namespace K28
open PySem PySem.Spec PyProof.Rows L2
structure HasDef (K : PySem.W.Frag) (x : Str) (st : Stmt) : Prop where
  ex : ∃ (f : Addr) (fd : FuncData), PySem.W.nsIn K mainGlobals x = some (some (.ref f)) ∧ Fun K x x st f fd
theorem hd_mk {K : PySem.W.Frag} {x : Str} {st : Stmt} {f : Addr} {oc : Value} {od an : Option Addr} {osl : Array (Option Value)} {kV doc pm cdv ct : Value} (a : PySem.W.nsIn K mainGlobals x = some (some (.ref f)))
    (l : K.lookup f = some ⟨oc, od, .func (PySem.W.fnOf x x (defArgs st) (defBody st) (defScope st) .none kV doc pm an cdv ct), osl⟩) (c : PySem.W.codeIn K cdv x = true) (k : PySem.W.keepIn K (.ref f) = true) : HasDef K x st := ⟨f, _, a, fun_mk l c k⟩
theorem HasDef.dh {K : PySem.W.Frag} {mg : Str → Option Value} {h : Heap} {x : Str} {st : Stmt} {ps : List Str} (D : HasDef K x st) (X : K.In h) (G : h.Ns mainGlobals mg) (hb : ∀ f fd, Fun K x x st f fd → Binds K fd ps []) : Dh K mg x st ps := by
  obtain ⟨f, fd, a, F⟩ := D.ex
  exact ⟨f, fd, F, PySem.W.mg_of X G a, hb f fd F⟩
structure HasMeth (K : PySem.W.Frag) (C : Addr) (m qual : Str) (st : Stmt) : Prop where
  ex : ∃ (f : Addr) (fd : FuncData), PySem.W.findIn K (.ref C) m = some (some (.ref f)) ∧ PySem.W.isFn K (.ref f) = true ∧ Fun K m qual st f fd
theorem hm_mk {K : PySem.W.Frag} {C : Addr} {x qual : Str} {st : Stmt} {f : Addr} {oc : Value} {od an : Option Addr} {osl : Array (Option Value)} {kV doc pm cdv ct : Value} (a : PySem.W.findIn K (.ref C) x = some (some (.ref f))) (i : PySem.W.isFn K (.ref f) = true)
    (l : K.lookup f = some ⟨oc, od, .func (PySem.W.fnOf x qual (defArgs st) (defBody st) (defScope st) .none kV doc pm an cdv ct), osl⟩) (c : PySem.W.codeIn K cdv qual = true) (k : PySem.W.keepIn K (.ref f) = true) : HasMeth K C x qual st := ⟨f, _, a, i, fun_mk l c k⟩
theorem HasMeth.dq {K : PySem.W.Frag} {C : Addr} {m qual : Str} {st : Stmt} {ps : List Str} (D : HasMeth K C m qual st) (X : Cls K C) (hb : ∀ f fd, Fun K m qual st f fd → Binds K fd ps []) : Dq K C m qual st ps := by
  obtain ⟨f, fd, a, i, F⟩ := D.ex
  exact ⟨f, fd, F, ⟨a, i, F.kp⟩, hb f fd F, X⟩
structure HasVal (K : PySem.W.Frag) (x : Str) (v : V) : Prop where
  ex : ∃ u, PySem.W.nsIn K mainGlobals x = some (some u) ∧ RelV v u
theorem hi_mk {K : PySem.W.Frag} {x : Str} {i : Int} {t : Tok} (a : PySem.W.nsIn K mainGlobals x = some (some (.int i t))) : HasVal K x (.int i) := ⟨_, a, t, rfl⟩
theorem hs_mk {K : PySem.W.Frag} {x : Str} {i : Str} {t : Tok} (a : PySem.W.nsIn K mainGlobals x = some (some (.str i t))) : HasVal K x (.str i) := ⟨_, a, t, rfl⟩
theorem HasVal.mg {K : PySem.W.Frag} {mg : Str → Option Value} {h : Heap} {x : Str} {v : V} (D : HasVal K x v) (X : K.In h) (G : h.Ns mainGlobals mg) : ∃ u, mg x = some u ∧ RelV v u := by
  obtain ⟨u, a, r⟩ := D.ex
  exact ⟨u, PySem.W.mg_of X G a, r⟩
structure HasTup (K : PySem.W.Frag) (x : Str) (zs : List Str) : Prop where
  ex : ∃ a : Addr, PySem.W.nsIn K mainGlobals x = some (some (.ref a)) ∧ ∀ H, SqT K H a (zs.map V.str)
structure HasCls (K : PySem.W.Frag) : Prop where
  ex : ∃ C : Addr, PySem.W.nsIn K mainGlobals "Course" = some (some (.ref C)) ∧ TxC K C ∧ PySem.W.makesIn K C = true ∧ PySem.W.keepIn K (.ref C) = true ∧ HasMeth K C "__init__" "Course.__init__" s_m_init ∧ HasMeth K C "choice" "Course.choice" s_m_choice ∧ HasMeth K C "parts" "Course.parts" s_m_parts ∧ HasMeth K C "do" "Course.do" s_m_do ∧ HasMeth K C "go" "Course.go" s_m_go
theorem kept_mk {K : PySem.W.Frag} {x : Str} {a : Addr} {od : Option Addr} {n : Nat} {sl : Array (Option Value)} {t0 t1 t2 t3 t4 t5 t6 t7 t8 t9 t10 t11 t12 t13 : Tok} (h : PySem.W.nsIn K mainGlobals x = some (some (.ref a))) (l : K.lookup a = some ⟨.type "tuple", od, .seq #[.str "set" t0, .str "pay" t1, .str "stop" t2, .str "if" t3, .str "else" t4, .str "we" t5, .str "they" t6, .str "or" t7, .str "repeat" t8, .str "pass" t9, .str "rest" t10, .str "of" t11, .str "not" t12, .str "program" t13] n, sl⟩) : HasTup K x ["set", "pay", "stop", "if", "else", "we", "they", "or", "repeat", "pass", "rest", "of", "not", "program"] :=
  ⟨a, h, fun H => .inr ⟨_, _, _, l, rfl, rfl, szl (by simp), (.cons ⟨_, rfl⟩ (.cons ⟨_, rfl⟩ (.cons ⟨_, rfl⟩ (.cons ⟨_, rfl⟩ (.cons ⟨_, rfl⟩ (.cons ⟨_, rfl⟩ (.cons ⟨_, rfl⟩ (.cons ⟨_, rfl⟩ (.cons ⟨_, rfl⟩ (.cons ⟨_, rfl⟩ (.cons ⟨_, rfl⟩ (.cons ⟨_, rfl⟩ (.cons ⟨_, rfl⟩ (.cons ⟨_, rfl⟩ .nil))))))))))))))⟩⟩
theorem cho_mk {K : PySem.W.Frag} {x : Str} {a : Addr} {od : Option Addr} {n : Nat} {sl : Array (Option Value)} {t0 t1 : Tok} (h : PySem.W.nsIn K mainGlobals x = some (some (.ref a))) (l : K.lookup a = some ⟨.type "tuple", od, .seq #[.str "we" t0, .str "they" t1] n, sl⟩) : HasTup K x ["we", "they"] :=
  ⟨a, h, fun H => .inr ⟨_, _, _, l, rfl, rfl, szl (by simp), (.cons ⟨_, rfl⟩ (.cons ⟨_, rfl⟩ .nil))⟩⟩
theorem cls_mk {K : PySem.W.Frag} {C : Addr} (aC : PySem.W.nsIn K mainGlobals "Course" = some (some (.ref C))) (pg : PySem.W.plainGet K C Str.empty = true) (hd : PySem.W.hasDictIn K C = true) (po : PySem.W.plainOver K C = true) (sa : PySem.W.findIn K (.ref C) "__setattr__" = some (some (.builtin "object.__setattr__"))) (mk : PySem.W.makesIn K C = true) (kc : PySem.W.keepIn K (.ref C) = true)
    (n1 : PySem.W.findIn K (.ref C) "names" = some none) (n2 : PySem.W.findIn K (.ref C) "total" = some none) (n3 : PySem.W.findIn K (.ref C) "turns" = some none) (n4 : PySem.W.findIn K (.ref C) "hands" = some none) (n5 : PySem.W.findIn K (.ref C) "asked" = some none) (n6 : PySem.W.findIn K (.ref C) "is_stopped" = some none)
    (m0 : HasMeth K C "__init__" "Course.__init__" s_m_init) (m1 : HasMeth K C "choice" "Course.choice" s_m_choice) (m2 : HasMeth K C "parts" "Course.parts" s_m_parts) (m3 : HasMeth K C "do" "Course.do" s_m_do) (m4 : HasMeth K C "go" "Course.go" s_m_go) : HasCls K := ⟨C, aC, ⟨⟨pg, hd, po, sa⟩, n1, n2, n3, n4, n5, n6⟩, mk, kc, m0, m1, m2, m3, m4⟩
theorem all_mk {P : Program} {w : World} {K : PySem.W.Frag} {mg : Str → Option Value} {fa a : Addr} {ns : List Int} {s1 : Shared} (X : K.In s1.heap) (G : s1.heap.Ns mainGlobals mg) (hmg : mg "law" = some (.ref fa)) (hlen : ns.length ≤ 63)
    (d_is_whole : HasDef K "is_whole" s_is_whole) (d_is_name : HasDef K "is_name" s_is_name) (d_is_expression : HasDef K "is_expression" s_is_expression) (d_is_rest : HasDef K "is_rest" s_is_rest) (d_is_test : HasDef K "is_test" s_is_test) (d_are_blocks : HasDef K "are_blocks" s_are_blocks) (d_is_statement : HasDef K "is_statement" s_is_statement) (d_blocks_of : HasDef K "blocks_of" s_blocks_of) (d_items_within : HasDef K "items_within" s_items_within) (d_rows_of : HasDef K "rows_of" s_rows_of) (d_order_error : HasDef K "order_error" s_order_error) (d_bare : HasDef K "bare" s_bare) (d_own_count : HasDef K "own_count" s_own_count) (d_counted : HasDef K "counted" s_counted) (d_weight : HasDef K "weight" s_weight) (d_program_error : HasDef K "program_error" s_program_error) (d_value_of : HasDef K "value_of" s_value_of) (d_is_true : HasDef K "is_true" s_is_true) (d_run : HasDef K "run" s_run) (d_next_turns : HasDef K "next_turns" s_next_turns) (d_runs_on : HasDef K "runs_on" s_runs_on) (d_each_run : HasDef K "each_run" s_each_run) (d_l_deck : HasDef K "_law_deck" s_l_deck) (d_l_draw : HasDef K "_law_draw" s_l_draw) (d_l_one : HasDef K "_law_one" s_l_one) (d_l_names : HasDef K "_law_names" s_l_names) (d_l_expression : HasDef K "_law_expression" s_l_expression) (d_l_test : HasDef K "_law_test" s_l_test) (d_l_plain : HasDef K "_law_plain" s_l_plain) (d_l_row : HasDef K "_law_row" s_l_row) (d_l_block : HasDef K "_law_block" s_l_block) (d_l_program : HasDef K "_law_program" s_l_program) (d_l_number : HasDef K "_law_number" s_l_number) (d_l_other : HasDef K "_law_other" s_l_other) (d_l_test_other : HasDef K "_law_test_other" s_l_test_other) (d_l_row_other : HasDef K "_law_row_other" s_l_row_other) (d_l_rows_other : HasDef K "_law_rows_other" s_l_rows_other) (d_l_with_more : HasDef K "_law_with_more" s_l_with_more) (d_l_exchanged : HasDef K "_law_exchanged" s_l_exchanged) (d_law : HasDef K "law" s_law) (i_MAX_NAME : HasVal K "MAX_NAME" (.int 8)) (i_MAX_TIMES : HasVal K "MAX_TIMES" (.int 8)) (i_MAX_DEEP : HasVal K "MAX_DEEP" (.int 3)) (i_MAX_NOTS : HasVal K "MAX_NOTS" (.int 2)) (i_MAX_BY : HasVal K "MAX_BY" (.int 6)) (i_MAX_PLACES : HasVal K "MAX_PLACES" (.int 24)) (i_MAX_WEIGHT : HasVal K "MAX_WEIGHT" (.int 30)) (i_MAX_CHOICES : HasVal K "MAX_CHOICES" (.int 4)) (i_MAX_RESTS : HasVal K "MAX_RESTS" (.int 2)) (i_MAX_COMPARINGS : HasVal K "MAX_COMPARINGS" (.int 2)) (i_MAX_NEST : HasVal K "MAX_NEST" (.int 3)) (i_MOST_NUMBER : HasVal K "MOST_NUMBER" (.int 99)) (i_MOST_FACTOR : HasVal K "MOST_FACTOR" (.int 9)) (i_FIRST : HasVal K "FIRST" (.int 0)) (s_LETTERS : HasVal K "LETTERS" (.str "abcdefghijklmnopqrstuvwxyz")) (s_SIGNS : HasVal K "SIGNS" (.str "abcdefghijklmnopqrstuvwxyz0123456789")) (s_INPUT : HasVal K "INPUT" (.str "n")) (tK : HasTup K "KEPT" ["set", "pay", "stop", "if", "else", "we", "they", "or", "repeat", "pass", "rest", "of", "not", "program"]) (tC : HasTup K "CHOICES" ["we", "they"]) (cl : HasCls K) (z_isinstance : PySem.W.nsIn K mainGlobals "isinstance" = some none) (z_len : PySem.W.nsIn K mainGlobals "len" = some none) (z_str : PySem.W.nsIn K mainGlobals "str" = some none) (z_int : PySem.W.nsIn K mainGlobals "int" = some none) (z_bool : PySem.W.nsIn K mainGlobals "bool" = some none) (z_tuple : PySem.W.nsIn K mainGlobals "tuple" = some none) (z_list : PySem.W.nsIn K mainGlobals "list" = some none) (z_sum : PySem.W.nsIn K mainGlobals "sum" = some none) (z_abs : PySem.W.nsIn K mainGlobals "abs" = some none) (z_max : PySem.W.nsIn K mainGlobals "max" = some none) (z_repr : PySem.W.nsIn K mainGlobals "repr" = some none) (z_range : PySem.W.nsIn K mainGlobals "range" = some none) : Asks P w K mg fa a ns s1 := by
  obtain ⟨aK, nK, tK⟩ := tK.ex
  obtain ⟨aC, nC, tC⟩ := tC.ex
  obtain ⟨C, nCl, TX, mk, kc, m0, m1, m2, m3, m4⟩ := cl.ex
  have T : Txt K mg aC aK := {
    z_isinstance := PySem.W.mg_none_of X G z_isinstance
    z_len := PySem.W.mg_none_of X G z_len
    z_str := PySem.W.mg_none_of X G z_str
    z_int := PySem.W.mg_none_of X G z_int
    z_bool := PySem.W.mg_none_of X G z_bool
    z_tuple := PySem.W.mg_none_of X G z_tuple
    z_list := PySem.W.mg_none_of X G z_list
    z_sum := PySem.W.mg_none_of X G z_sum
    z_abs := PySem.W.mg_none_of X G z_abs
    z_max := PySem.W.mg_none_of X G z_max
    z_repr := PySem.W.mg_none_of X G z_repr
    z_range := PySem.W.mg_none_of X G z_range
    g_MAX_NAME := i_MAX_NAME.mg X G
    g_MAX_TIMES := i_MAX_TIMES.mg X G
    g_MAX_DEEP := i_MAX_DEEP.mg X G
    g_MAX_NOTS := i_MAX_NOTS.mg X G
    g_MAX_BY := i_MAX_BY.mg X G
    g_MAX_PLACES := i_MAX_PLACES.mg X G
    g_MAX_WEIGHT := i_MAX_WEIGHT.mg X G
    g_MAX_CHOICES := i_MAX_CHOICES.mg X G
    g_MAX_RESTS := i_MAX_RESTS.mg X G
    g_MAX_COMPARINGS := i_MAX_COMPARINGS.mg X G
    g_MAX_NEST := i_MAX_NEST.mg X G
    g_MOST_NUMBER := i_MOST_NUMBER.mg X G
    g_MOST_FACTOR := i_MOST_FACTOR.mg X G
    g_FIRST := i_FIRST.mg X G
    g_LETTERS := s_LETTERS.mg X G
    g_SIGNS := s_SIGNS.mg X G
    g_INPUT := s_INPUT.mg X G
    g_KEPT := ⟨_, PySem.W.mg_of X G nK, rfl⟩
    t_KEPT := ⟨_, tK⟩
    g_CHOICES := ⟨_, PySem.W.mg_of X G nC, rfl⟩
    t_CHOICES := tC }
  have D_is_whole := (d_is_whole.dh X G (fun f fd F => F.binds (ps := ["value", "least", "most"]) fun _ _ _ _ _ _ us hl => match us, hl with | [_, _, _], _ => rfl))
  have D_is_name := (d_is_name.dh X G (fun f fd F => F.binds (ps := ["value"]) fun _ _ _ _ _ _ us hl => match us, hl with | [_], _ => rfl))
  have D_is_expression := (d_is_expression.dh X G (fun f fd F => F.binds (ps := ["value", "left"]) fun _ _ _ _ _ _ us hl => match us, hl with | [_, _], _ => rfl))
  have D_is_rest := (d_is_rest.dh X G (fun f fd F => F.binds (ps := ["value"]) fun _ _ _ _ _ _ us hl => match us, hl with | [_], _ => rfl))
  have D_is_test := (d_is_test.dh X G (fun f fd F => F.binds (ps := ["value", "nots"]) fun _ _ _ _ _ _ us hl => match us, hl with | [_, _], _ => rfl))
  have D_are_blocks := (d_are_blocks.dh X G (fun f fd F => F.binds (ps := ["values"]) fun _ _ _ _ _ _ us hl => match us, hl with | [_], _ => rfl))
  have D_is_statement := (d_is_statement.dh X G (fun f fd F => F.binds (ps := ["value"]) fun _ _ _ _ _ _ us hl => match us, hl with | [_], _ => rfl))
  have D_blocks_of := (d_blocks_of.dh X G (fun f fd F => F.binds (ps := ["statement"]) fun _ _ _ _ _ _ us hl => match us, hl with | [_], _ => rfl))
  have D_items_within := (d_items_within.dh X G (fun f fd F => F.binds (ps := ["statement", "depth"]) fun _ _ _ _ _ _ us hl => match us, hl with | [_, _], _ => rfl))
  have D_rows_of := (d_rows_of.dh X G (fun f fd F => F.binds (ps := ["program"]) fun _ _ _ _ _ _ us hl => match us, hl with | [_], _ => rfl))
  have D_order_error := (d_order_error.dh X G (fun f fd F => F.binds (ps := ["value"]) fun _ _ _ _ _ _ us hl => match us, hl with | [_], _ => rfl))
  have D_bare := (d_bare.dh X G (fun f fd F => F.binds (ps := ["test"]) fun _ _ _ _ _ _ us hl => match us, hl with | [_], _ => rfl))
  have D_own_count := (d_own_count.dh X G (fun f fd F => F.binds (ps := ["statement", "sort"]) fun _ _ _ _ _ _ us hl => match us, hl with | [_, _], _ => rfl))
  have D_counted := (d_counted.dh X G (fun f fd F => F.binds (ps := ["block", "sort"]) fun _ _ _ _ _ _ us hl => match us, hl with | [_, _], _ => rfl))
  have D_weight := (d_weight.dh X G (fun f fd F => F.binds (ps := ["program"]) fun _ _ _ _ _ _ us hl => match us, hl with | [_], _ => rfl))
  have D_program_error := (d_program_error.dh X G (fun f fd F => F.binds (ps := ["value"]) fun _ _ _ _ _ _ us hl => match us, hl with | [_], _ => rfl))
  have D_value_of := (d_value_of.dh X G (fun f fd F => F.binds (ps := ["expression", "names"]) fun _ _ _ _ _ _ us hl => match us, hl with | [_, _], _ => rfl))
  have D_is_true := (d_is_true.dh X G (fun f fd F => F.binds (ps := ["test", "names"]) fun _ _ _ _ _ _ us hl => match us, hl with | [_, _], _ => rfl))
  have D_run := (d_run.dh X G (fun f fd F => F.binds (ps := ["program", "number", "turns"]) fun _ _ _ _ _ _ us hl => match us, hl with | [_, _, _], _ => rfl))
  have D_next_turns := (d_next_turns.dh X G (fun f fd F => F.binds (ps := ["turns"]) fun _ _ _ _ _ _ us hl => match us, hl with | [_], _ => rfl))
  have D_runs_on := (d_runs_on.dh X G (fun f fd F => F.binds (ps := ["program", "number"]) fun _ _ _ _ _ _ us hl => match us, hl with | [_, _], _ => rfl))
  have D_each_run := (d_each_run.dh X G (fun f fd F => F.binds (ps := ["program", "number"]) fun _ _ _ _ _ _ us hl => match us, hl with | [_, _], _ => rfl))
  have D_l_deck := (d_l_deck.dh X G (fun f fd F => F.binds (ps := ["_law_script"]) fun _ _ _ _ _ _ us hl => match us, hl with | [_], _ => rfl))
  have D_l_draw := (d_l_draw.dh X G (fun f fd F => F.binds (ps := ["_law_deck_here", "_law_many"]) fun _ _ _ _ _ _ us hl => match us, hl with | [_, _], _ => rfl))
  have D_l_one := (d_l_one.dh X G (fun f fd F => F.binds (ps := ["_law_deck_here", "_law_items"]) fun _ _ _ _ _ _ us hl => match us, hl with | [_, _], _ => rfl))
  have D_l_names := (d_l_names.dh X G (fun f fd F => F.binds (ps := ["_law_deck_here"]) fun _ _ _ _ _ _ us hl => match us, hl with | [_], _ => rfl))
  have D_l_expression := (d_l_expression.dh X G (fun f fd F => F.binds (ps := ["_law_deck_here", "_law_names_here", "_law_deep"]) fun _ _ _ _ _ _ us hl => match us, hl with | [_, _, _], _ => rfl))
  have D_l_test := (d_l_test.dh X G (fun f fd F => F.binds (ps := ["_law_deck_here", "_law_names_here", "_law_left", "_law_times"]) fun _ _ _ _ _ _ us hl => match us, hl with | [_, _, _, _], _ => rfl))
  have D_l_plain := (d_l_plain.dh X G (fun f fd F => F.binds (ps := ["_law_deck_here", "_law_names_here"]) fun _ _ _ _ _ _ us hl => match us, hl with | [_, _], _ => rfl))
  have D_l_row := (d_l_row.dh X G (fun f fd F => F.binds (ps := ["_law_deck_here", "_law_names_here", "_law_left", "_law_times", "_law_depth"]) fun _ _ _ _ _ _ us hl => match us, hl with | [_, _, _, _, _], _ => rfl))
  have D_l_block := (d_l_block.dh X G (fun f fd F => F.binds (ps := ["_law_deck_here", "_law_names_here", "_law_left", "_law_times", "_law_depth"]) fun _ _ _ _ _ _ us hl => match us, hl with | [_, _, _, _, _], _ => rfl))
  have D_l_program := (d_l_program.dh X G (fun f fd F => F.binds (ps := ["_law_deck_here", "_law_names_here"]) fun _ _ _ _ _ _ us hl => match us, hl with | [_, _], _ => rfl))
  have D_l_number := (d_l_number.dh X G (fun f fd F => F.binds (ps := ["_law_deck_here"]) fun _ _ _ _ _ _ us hl => match us, hl with | [_], _ => rfl))
  have D_l_other := (d_l_other.dh X G (fun f fd F => F.binds (ps := ["_law_expression_here"]) fun _ _ _ _ _ _ us hl => match us, hl with | [_], _ => rfl))
  have D_l_test_other := (d_l_test_other.dh X G (fun f fd F => F.binds (ps := ["_law_test_here"]) fun _ _ _ _ _ _ us hl => match us, hl with | [_], _ => rfl))
  have D_l_row_other := (d_l_row_other.dh X G (fun f fd F => F.binds (ps := ["_law_row_here", "_law_is_long"]) fun _ _ _ _ _ _ us hl => match us, hl with | [_, _], _ => rfl))
  have D_l_rows_other := (d_l_rows_other.dh X G (fun f fd F => F.binds (ps := ["_law_block_here", "_law_is_long"]) fun _ _ _ _ _ _ us hl => match us, hl with | [_, _], _ => rfl))
  have D_l_with_more := (d_l_with_more.dh X G (fun f fd F => F.binds (ps := ["_law_deck_here", "_law_program_here"]) fun _ _ _ _ _ _ us hl => match us, hl with | [_, _], _ => rfl))
  have D_l_exchanged := (d_l_exchanged.dh X G (fun f fd F => F.binds (ps := ["_law_block_here"]) fun _ _ _ _ _ _ us hl => match us, hl with | [_], _ => rfl))
  have Di0 : Di K mg C "Course" "Course.__init__" s_m_init ["self", "number", "asked"] := by
    obtain ⟨f, fd, a, i, F⟩ := m0.ex
    have hb : ∀ f fd, Fun K "__init__" "Course.__init__" s_m_init f fd → Binds K fd ["self", "number", "asked"] [] := (fun f fd F => F.binds (ps := ["self", "number", "asked"]) fun _ _ _ _ _ _ us hl => match us, hl with | [_, _, _], _ => rfl)
    exact ⟨f, fd, F, ⟨mk, a, i, kc⟩, PySem.W.mg_of X G nCl, hb f fd F⟩
  have Q1 := m1.dq TX.cl (fun f fd F => F.binds (ps := ["self", "hand"]) fun _ _ _ _ _ _ us hl => match us, hl with | [_, _], _ => rfl)
  have Q2 := m2.dq TX.cl (fun f fd F => F.binds (ps := ["self", "statement"]) fun _ _ _ _ _ _ us hl => match us, hl with | [_, _], _ => rfl)
  have Q3 := m3.dq TX.cl (fun f fd F => F.binds (ps := ["self", "statement"]) fun _ _ _ _ _ _ us hl => match us, hl with | [_, _], _ => rfl)
  have Q4 := m4.dq TX.cl (fun f fd F => F.binds (ps := ["self", "block"]) fun _ _ _ _ _ _ us hl => match us, hl with | [_, _], _ => rfl)
  intro base H kb nsb hS e0
  have c_value_of3 : Df P w K mg base 3 "value_of" (spVal K 3) := v_value_of D_value_of T 3
  have c_is_true2 : Df P w K mg base 6 "is_true" (spTru K 2) := v_is_true D_is_true c_value_of3 2
  have c_choice : Dm P w K mg base C 1 "choice" (spCho K C) := v_choice Q1 T TX
  have c_parts : Dm P w K mg base C 7 "parts" (spPar K C) := v_parts Q2 T TX c_choice c_is_true2
  have c_go : Dm P w K mg base C 17 "go" (spGo K C 4) := v_all Q3 Q4 TX c_value_of3 c_parts 4
  have c_init : Dk P w K mg base C 1 "Course" (spInit K C) := v_init Di0 T TX
  have c_run : Df P w K mg base 18 "run" (spRun K 4) := v_run D_run T TX c_init 4 c_go
  have c_next_turns : Df P w K mg base 1 "next_turns" (spNxt K) := v_next D_next_turns T
  have c_runs_on : Df P w K mg base 19 "runs_on" (spRuns K 4) := v_runs_on D_runs_on c_next_turns 4 c_run
  have c_each_run : Dg P w K mg base 20 "each_run" (spEach K 4) := v_each_run D_each_run 4 c_runs_on
  have c_is_whole : Df P w K mg base 1 "is_whole" (spWh K) := v_is_whole D_is_whole T
  have c_is_name : Df P w K mg base 1 "is_name" (spNm K) := v_is_name D_is_name T
  have c_is_expression : Df P w K mg base 5 "is_expression" (spIsE K 3) := v_is_expression D_is_expression T c_is_whole c_is_name 3
  have c_is_rest : Df P w K mg base 6 "is_rest" (spIsR K) := v_is_rest D_is_rest T c_is_whole c_is_expression
  have c_is_test : Df P w K mg base 9 "is_test" (spIsT K 2) := v_is_test D_is_test T c_is_expression c_is_rest 2
  have c_are_blocks : Df P w K mg base 1 "are_blocks" (spAre K) := v_are_blocks D_are_blocks T
  have c_is_statement : Df P w K mg base 10 "is_statement" (spIsS K 4) := v_is_statement D_is_statement T c_is_name c_is_whole c_is_expression c_is_test c_are_blocks 4
  have c_blocks_of : Df P w K mg base 1 "blocks_of" (spBks K) := v_blocks_of D_blocks_of T
  have c_items_within : Df P w K mg base 2 "items_within" (spItm K) := v_items_within D_items_within c_blocks_of
  have c_rows_of : Df P w K mg base 3 "rows_of" (spRws K 4) := v_rows_of D_rows_of c_items_within 4
  have c_order_error : Df P w K mg base 11 "order_error" (spOrd K 4) := v_order_error D_order_error T c_items_within 4 c_is_statement
  have c_bare : Df P w K mg base 1 "bare" (spBare K) := v_bare D_bare
  have c_own_count : Df P w K mg base 2 "own_count" (spOwn K) := v_own_count D_own_count T c_bare
  have c_counted : Df P w K mg base 7 "counted" (spCnt K 4) := v_counted D_counted T c_blocks_of c_own_count 4
  have c_weight : Df P w K mg base 8 "weight" (spWgt K 4) := v_weight D_weight 4 c_counted
  have c_program_error : Df P w K mg base 12 "program_error" (spErr K 4) := v_program_error D_program_error T c_order_error c_rows_of c_weight c_counted
  have c_l_deck : Df P w K mg base 1 "_law_deck" (spDck K) := v_l_deck D_l_deck T
  have c_l_draw : Df P w K mg base 1 "_law_draw" spDrw := v_l_draw D_l_draw T
  have c_l_one : Df P w K mg base 2 "_law_one" (spOne K) := v_l_one D_l_one T c_l_draw
  have c_l_names : Df P w K mg base 3 "_law_names" spNms := v_l_names D_l_names T c_l_draw c_l_one
  have c_l_expression3 : Df P w K mg base 5 "_law_expression" (spExp K 3 64) := v_l_expression D_l_expression T c_l_draw c_l_one 2
  have c_l_expression2 : Df P w K mg base 4 "_law_expression" (spExp K 2 16) := v_l_expression D_l_expression T c_l_draw c_l_one 1
  have c_l_test : Df P w K mg base 6 "_law_test" (spTst K) := v_l_test D_l_test T c_l_draw c_l_one c_l_expression3
  have c_l_plain : Df P w K mg base 6 "_law_plain" (spPln K) := v_l_plain D_l_plain c_l_draw c_l_one c_l_expression3
  have c_l_block : Df P w K mg base 15 "_law_block" (spBlk K 4) := v_l_block D_l_block D_l_row T c_l_draw c_l_one c_l_test c_l_plain 4 (Nat.le_refl 4)
  have c_l_program : Df P w K mg base 16 "_law_program" (spPrg K) := v_l_program D_l_program T c_l_draw c_l_expression2 c_l_block
  have c_l_number : Df P w K mg base 3 "_law_number" spNum := v_l_number D_l_number c_l_draw c_l_one
  have c_l_other : Df P w K mg base 3 "_law_other" (spOth K 3) := v_l_other D_l_other T 3
  have c_l_test_other : Df P w K mg base 4 "_law_test_other" (spOTs K) := v_l_test_other D_l_test_other c_l_other
  have c_l_rows_other : Df P w K mg base 14 "_law_rows_other" (spBOt K 4) := v_l_rows_other D_l_rows_other D_l_row_other T c_l_other c_l_test_other 4
  have c_l_with_more : Df P w K mg base 3 "_law_with_more" (spMor K) := v_l_with_more D_l_with_more T c_l_draw c_l_one
  have c_l_exchanged : Df P w K mg base 5 "_law_exchanged" (spExc K 4) := v_l_exchanged D_l_exchanged T 4
  obtain ⟨fl, fd, al, FL⟩ := d_law.ex
  have el := hmg.symm.trans (PySem.W.mg_of X G al)
  cases el
  have hb : ∀ f fd, Fun K "law" "law" s_law f fd → Binds K fd ["_law_script"] [] := (fun f fd F => F.binds (ps := ["_law_script"]) fun _ _ _ _ _ _ us hl => match us, hl with | [_], _ => rfl)
  have bl := hb fa fd FL
  have hr : Room 24 callerA := ⟨rfl, by decide, by decide⟩
  refine run_at (k := 23) (E := E0) FL sc_law hr e0 (bl s1 [.ref a] X rfl) (vs := [.ref a]) (.cons rfl .nil) rfl (fun cdv hr1 => ?_)
  obtain ⟨t, ht, hq⟩ := v_law (P := P) (w := w) (base := base) (A := callerA) (f := fa) (cdv := cdv) (outer := []) (s := s1) (H := H) (a := a) (ns := ns) rfl T hr1 hS hlen c_l_deck c_l_draw c_l_names c_l_program c_l_number c_l_rows_other c_l_exchanged c_l_with_more c_program_error c_run c_each_run
  exact ⟨t, ht.nox, hq⟩
end K28
open PySem PySem.W PyProof.Rows in
set_option maxRecDepth 100000 in
set_option maxHeartbeats 0 in
theorem PySem.Challenge.cw_weandthey_k28_whole_programs_written_oth_holds : PySem.Challenge.rw_weandthey_k28_whole_programs_written_oth.Holds := by
  w_on; o_law; k_head; (case hw => w_witness2)
  k_fill
  refine K28.walkG (l := PySem.Challenge.rw_weandthey_k28_whole_programs_written_oth) rfl rfl (fun w h Y => PySem.W.kIn_of Y) ?F
  case F =>
    intro w mg fa a ns s1 KX G hmg hlen hbits
    refine' K28.all_mk KX G hmg hlen ?d_is_whole ?d_is_name ?d_is_expression ?d_is_rest ?d_is_test ?d_are_blocks ?d_is_statement ?d_blocks_of ?d_items_within ?d_rows_of ?d_order_error ?d_bare ?d_own_count ?d_counted ?d_weight ?d_program_error ?d_value_of ?d_is_true ?d_run ?d_next_turns ?d_runs_on ?d_each_run ?d_l_deck ?d_l_draw ?d_l_one ?d_l_names ?d_l_expression ?d_l_test ?d_l_plain ?d_l_row ?d_l_block ?d_l_program ?d_l_number ?d_l_other ?d_l_test_other ?d_l_row_other ?d_l_rows_other ?d_l_with_more ?d_l_exchanged ?d_law ?i_MAX_NAME ?i_MAX_TIMES ?i_MAX_DEEP ?i_MAX_NOTS ?i_MAX_BY ?i_MAX_PLACES ?i_MAX_WEIGHT ?i_MAX_CHOICES ?i_MAX_RESTS ?i_MAX_COMPARINGS ?i_MAX_NEST ?i_MOST_NUMBER ?i_MOST_FACTOR ?i_FIRST ?s_LETTERS ?s_SIGNS ?s_INPUT ?tK ?tC ?cl ?z_isinstance ?z_len ?z_str ?z_int ?z_bool ?z_tuple ?z_list ?z_sum ?z_abs ?z_max ?z_repr ?z_range
    (case d_is_whole => refine' K28.hd_mk ?a ?l ?c ?k; (case a => k_is); (case l => k_is); (case c => k_is); (case k => k_is))
    (case d_is_name => refine' K28.hd_mk ?a ?l ?c ?k; (case a => k_is); (case l => k_is); (case c => k_is); (case k => k_is))
    (case d_is_expression => refine' K28.hd_mk ?a ?l ?c ?k; (case a => k_is); (case l => k_is); (case c => k_is); (case k => k_is))
    (case d_is_rest => refine' K28.hd_mk ?a ?l ?c ?k; (case a => k_is); (case l => k_is); (case c => k_is); (case k => k_is))
    (case d_is_test => refine' K28.hd_mk ?a ?l ?c ?k; (case a => k_is); (case l => k_is); (case c => k_is); (case k => k_is))
    (case d_are_blocks => refine' K28.hd_mk ?a ?l ?c ?k; (case a => k_is); (case l => k_is); (case c => k_is); (case k => k_is))
    (case d_is_statement => refine' K28.hd_mk ?a ?l ?c ?k; (case a => k_is); (case l => k_is); (case c => k_is); (case k => k_is))
    (case d_blocks_of => refine' K28.hd_mk ?a ?l ?c ?k; (case a => k_is); (case l => k_is); (case c => k_is); (case k => k_is))
    (case d_items_within => refine' K28.hd_mk ?a ?l ?c ?k; (case a => k_is); (case l => k_is); (case c => k_is); (case k => k_is))
    (case d_rows_of => refine' K28.hd_mk ?a ?l ?c ?k; (case a => k_is); (case l => k_is); (case c => k_is); (case k => k_is))
    (case d_order_error => refine' K28.hd_mk ?a ?l ?c ?k; (case a => k_is); (case l => k_is); (case c => k_is); (case k => k_is))
    (case d_bare => refine' K28.hd_mk ?a ?l ?c ?k; (case a => k_is); (case l => k_is); (case c => k_is); (case k => k_is))
    (case d_own_count => refine' K28.hd_mk ?a ?l ?c ?k; (case a => k_is); (case l => k_is); (case c => k_is); (case k => k_is))
    (case d_counted => refine' K28.hd_mk ?a ?l ?c ?k; (case a => k_is); (case l => k_is); (case c => k_is); (case k => k_is))
    (case d_weight => refine' K28.hd_mk ?a ?l ?c ?k; (case a => k_is); (case l => k_is); (case c => k_is); (case k => k_is))
    (case d_program_error => refine' K28.hd_mk ?a ?l ?c ?k; (case a => k_is); (case l => k_is); (case c => k_is); (case k => k_is))
    (case d_value_of => refine' K28.hd_mk ?a ?l ?c ?k; (case a => k_is); (case l => k_is); (case c => k_is); (case k => k_is))
    (case d_is_true => refine' K28.hd_mk ?a ?l ?c ?k; (case a => k_is); (case l => k_is); (case c => k_is); (case k => k_is))
    (case d_run => refine' K28.hd_mk ?a ?l ?c ?k; (case a => k_is); (case l => k_is); (case c => k_is); (case k => k_is))
    (case d_next_turns => refine' K28.hd_mk ?a ?l ?c ?k; (case a => k_is); (case l => k_is); (case c => k_is); (case k => k_is))
    (case d_runs_on => refine' K28.hd_mk ?a ?l ?c ?k; (case a => k_is); (case l => k_is); (case c => k_is); (case k => k_is))
    (case d_each_run => refine' K28.hd_mk ?a ?l ?c ?k; (case a => k_is); (case l => k_is); (case c => k_is); (case k => k_is))
    (case d_l_deck => refine' K28.hd_mk ?a ?l ?c ?k; (case a => k_is); (case l => k_is); (case c => k_is); (case k => k_is))
    (case d_l_draw => refine' K28.hd_mk ?a ?l ?c ?k; (case a => k_is); (case l => k_is); (case c => k_is); (case k => k_is))
    (case d_l_one => refine' K28.hd_mk ?a ?l ?c ?k; (case a => k_is); (case l => k_is); (case c => k_is); (case k => k_is))
    (case d_l_names => refine' K28.hd_mk ?a ?l ?c ?k; (case a => k_is); (case l => k_is); (case c => k_is); (case k => k_is))
    (case d_l_expression => refine' K28.hd_mk ?a ?l ?c ?k; (case a => k_is); (case l => k_is); (case c => k_is); (case k => k_is))
    (case d_l_test => refine' K28.hd_mk ?a ?l ?c ?k; (case a => k_is); (case l => k_is); (case c => k_is); (case k => k_is))
    (case d_l_plain => refine' K28.hd_mk ?a ?l ?c ?k; (case a => k_is); (case l => k_is); (case c => k_is); (case k => k_is))
    (case d_l_row => refine' K28.hd_mk ?a ?l ?c ?k; (case a => k_is); (case l => k_is); (case c => k_is); (case k => k_is))
    (case d_l_block => refine' K28.hd_mk ?a ?l ?c ?k; (case a => k_is); (case l => k_is); (case c => k_is); (case k => k_is))
    (case d_l_program => refine' K28.hd_mk ?a ?l ?c ?k; (case a => k_is); (case l => k_is); (case c => k_is); (case k => k_is))
    (case d_l_number => refine' K28.hd_mk ?a ?l ?c ?k; (case a => k_is); (case l => k_is); (case c => k_is); (case k => k_is))
    (case d_l_other => refine' K28.hd_mk ?a ?l ?c ?k; (case a => k_is); (case l => k_is); (case c => k_is); (case k => k_is))
    (case d_l_test_other => refine' K28.hd_mk ?a ?l ?c ?k; (case a => k_is); (case l => k_is); (case c => k_is); (case k => k_is))
    (case d_l_row_other => refine' K28.hd_mk ?a ?l ?c ?k; (case a => k_is); (case l => k_is); (case c => k_is); (case k => k_is))
    (case d_l_rows_other => refine' K28.hd_mk ?a ?l ?c ?k; (case a => k_is); (case l => k_is); (case c => k_is); (case k => k_is))
    (case d_l_with_more => refine' K28.hd_mk ?a ?l ?c ?k; (case a => k_is); (case l => k_is); (case c => k_is); (case k => k_is))
    (case d_l_exchanged => refine' K28.hd_mk ?a ?l ?c ?k; (case a => k_is); (case l => k_is); (case c => k_is); (case k => k_is))
    (case d_law => refine' K28.hd_mk ?a ?l ?c ?k; (case a => k_is); (case l => k_is); (case c => k_is); (case k => k_is))
    (case i_MAX_NAME => refine' K28.hi_mk ?a; (case a => k_is))
    (case i_MAX_TIMES => refine' K28.hi_mk ?a; (case a => k_is))
    (case i_MAX_DEEP => refine' K28.hi_mk ?a; (case a => k_is))
    (case i_MAX_NOTS => refine' K28.hi_mk ?a; (case a => k_is))
    (case i_MAX_BY => refine' K28.hi_mk ?a; (case a => k_is))
    (case i_MAX_PLACES => refine' K28.hi_mk ?a; (case a => k_is))
    (case i_MAX_WEIGHT => refine' K28.hi_mk ?a; (case a => k_is))
    (case i_MAX_CHOICES => refine' K28.hi_mk ?a; (case a => k_is))
    (case i_MAX_RESTS => refine' K28.hi_mk ?a; (case a => k_is))
    (case i_MAX_COMPARINGS => refine' K28.hi_mk ?a; (case a => k_is))
    (case i_MAX_NEST => refine' K28.hi_mk ?a; (case a => k_is))
    (case i_MOST_NUMBER => refine' K28.hi_mk ?a; (case a => k_is))
    (case i_MOST_FACTOR => refine' K28.hi_mk ?a; (case a => k_is))
    (case i_FIRST => refine' K28.hi_mk ?a; (case a => k_is))
    (case s_LETTERS => refine' K28.hs_mk ?a; (case a => k_is))
    (case s_SIGNS => refine' K28.hs_mk ?a; (case a => k_is))
    (case s_INPUT => refine' K28.hs_mk ?a; (case a => k_is))
    (case tK => refine' K28.kept_mk ?a ?l; (case a => k_is); (case l => k_is))
    (case tC => refine' K28.cho_mk ?a ?l; (case a => k_is); (case l => k_is))
    case cl =>
      refine' K28.cls_mk ?aC ?pg ?hd ?po ?sa ?mk ?kc ?n1 ?n2 ?n3 ?n4 ?n5 ?n6 ?m0 ?m1 ?m2 ?m3 ?m4
      (case aC => k_is)
      (case pg => k_is)
      (case hd => k_is)
      (case po => k_is)
      (case sa => k_is)
      (case mk => k_is)
      (case kc => k_is)
      (case n1 => k_is)
      (case n2 => k_is)
      (case n3 => k_is)
      (case n4 => k_is)
      (case n5 => k_is)
      (case n6 => k_is)
      (case m0 => refine' K28.hm_mk ?a ?i ?l ?c ?k; (case a => k_is); (case i => k_is); (case l => k_is); (case c => k_is); (case k => k_is))
      (case m1 => refine' K28.hm_mk ?a ?i ?l ?c ?k; (case a => k_is); (case i => k_is); (case l => k_is); (case c => k_is); (case k => k_is))
      (case m2 => refine' K28.hm_mk ?a ?i ?l ?c ?k; (case a => k_is); (case i => k_is); (case l => k_is); (case c => k_is); (case k => k_is))
      (case m3 => refine' K28.hm_mk ?a ?i ?l ?c ?k; (case a => k_is); (case i => k_is); (case l => k_is); (case c => k_is); (case k => k_is))
      (case m4 => refine' K28.hm_mk ?a ?i ?l ?c ?k; (case a => k_is); (case i => k_is); (case l => k_is); (case c => k_is); (case k => k_is))
    (case z_isinstance => k_is)
    (case z_len => k_is)
    (case z_str => k_is)
    (case z_int => k_is)
    (case z_bool => k_is)
    (case z_tuple => k_is)
    (case z_list => k_is)
    (case z_sum => k_is)
    (case z_abs => k_is)
    (case z_max => k_is)
    (case z_repr => k_is)
    (case z_range => k_is)
