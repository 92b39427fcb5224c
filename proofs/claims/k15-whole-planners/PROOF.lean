import PyProof.Rows.All
import Wide.All
import OpenK.AllK
import Wide.FinOn
import HandS.ForSpec
import HandS.Dict
import HandS.Iter
import HandS.Text
import HandS.Flow
import HandS.Comp
import HandS.IsInst
import HandS.Conv
import HandS.TupAny
import HandS.TupMul
import HandS.Zip
import HandS.Deep
import HandS.Defaults
import HandS.Walk
import HandS.Ends
import HandS.HeadEnd
import HandS.HeadHook1
import HandS.HeadHook2
import HandS.Head0
import HandS.Head1
import HandS.Head2
import PyProof.ReprLen
import PySem.Challenge.RW_silenthouses_k15_whole_planners
import HandS.Words
import HandS.WordsExc
section
set_option Elab.async false
set_option linter.all false
set_option maxRecDepth 100000
set_option maxHeartbeats 4000000
/-! SI0: plain data, what they stand for in the layer's heap, transitions. -/
namespace SI
open PySem PySem.Spec PyProof.Rows L2

/-- plain data: tuples and unshared lists are values; ks: a list (tuple) that is only read (the script, a constant of the module); ptr: a changing object, by its number -/
inductive D where
  | non | bl (b : Bool) | int (i : Int) | str (s : Str)
  | tup (xs : List D) | lst (xs : List D)
  | ks (l : Bool) (xs : List D)
  | ptr (n : Nat) | glo (x : Str)
  deriving Inhabited

/-- a changing object -/
inductive Cell where
  | lst (xs : List D)
  | dK (kvs : List (Key × D))
  | dT (kvs : List (List Key × D))
  | ins (C : Str) (fs : List (Str × D))
  | dead
  deriving Inhabited
abbrev Hs := List Cell

/-- where the changing objects lie, and the objects that stay for ever as they are -/
structure Om where
  n : Nat
  φ : Nat → Addr
  F : Hp

abbrev Mg := Str → Option Value
section
variable (K : PySem.W.Frag) (mg : Mg)
mutual
inductive Rep (O : Om) : D → V → Prop
  | non : Rep O .non .non
  | bl (b : Bool) : Rep O (.bl b) (.bl b)
  | int (i : Int) : Rep O (.int i) (.int i)
  | str (s : Str) : Rep O (.str s) (.str s)
  | tup {p : Addr} {xs : List D} {vs : List V} : O.F p = some (.tup vs) → vs.length ≤ sizeLine → RepL O xs vs → Rep O (.tup xs) (.ref p)
  | lst {p : Addr} {xs : List D} {vs : List V} : O.F p = some (.lst vs) → vs.length ≤ sizeLine → RepL O xs vs → Rep O (.lst xs) (.ref p)
  | ksl {p : Addr} {xs : List D} {vs : List V} : SqL K O.F p vs → vs.length ≤ sizeLine → RepL O xs vs → Rep O (.ks true xs) (.ref p)
  | kst {p : Addr} {xs : List D} {vs : List V} : SqT K O.F p vs → vs.length ≤ sizeLine → RepL O xs vs → Rep O (.ks false xs) (.ref p)
  | ptr {n : Nat} : n < O.n → Rep O (.ptr n) (.ref (O.φ n))
  | glo {x : Str} {v : V} {u : Value} : mg x = some u → RelV v u → Rep O (.glo x) v
inductive RepL (O : Om) : List D → List V → Prop
  | nil : RepL O [] []
  | cons {d : D} {v : V} {ds : List D} {vs : List V} : Rep O d v → RepL O ds vs → RepL O (d :: ds) (v :: vs)
end
/-- pairs: the keys alike, the values represented -/
inductive RepP {κ : Type} (O : Om) : List (κ × D) → List (κ × V) → Prop
  | nil : RepP O [] []
  | cons {k : κ} {d : D} {v : V} {ds : List (κ × D)} {vs : List (κ × V)} : Rep K mg O d v → RepP O ds vs → RepP O ((k, d) :: ds) ((k, v) :: vs)

def CellOk (O : Om) (H : Hp) (p : Addr) : Cell → Prop
  | .lst xs => ∃ vs, H p = some (.lst vs) ∧ vs.length ≤ sizeLine ∧ RepL K mg O xs vs
  | .dK kvs => ∃ ws, H p = some (.dK ws) ∧ RepP K mg O kvs ws
  | .dT kvs => ∃ ws, H p = some (.dT ws) ∧ RepP K mg O kvs ws
  | .ins C fs => ∃ (c dx : Addr) (ws : List (Str × V)), mg C = some (.ref c) ∧ H p = some (.ins c dx ws) ∧ RepP K mg O fs ws
  | .dead => True

/-- the plain heap h stands for the tracked heap H -/
structure SR (O : Om) (h : Hs) (H : Hp) : Prop where
  len : h.length = O.n
  sub : ∀ a o, O.F a = some o → H a = some o
  inj : ∀ i j, i < O.n → j < O.n → O.φ i = O.φ j → i = j
  old : ∀ i, i < O.n → ∃ o, H (O.φ i) = some o
  nof : ∀ (i : Nat) (c : Cell), h[i]? = some c → c ≠ .dead → O.F (O.φ i) = none
  cell : ∀ (i : Nat) (c : Cell), h[i]? = some c → CellOk K mg O H (O.φ i) c
end

/-- a transition -/
structure Stp (O : Om) (H : Hp) (O' : Om) (H' : Hp) : Prop where
  n : O.n ≤ O'.n
  φ : ∀ i, i < O.n → O'.φ i = O.φ i
  F : ∀ a o, O.F a = some o → O'.F a = some o
  fr : ∀ a o, H a = some o → (∀ i, i < O.n → O.φ i ≠ a) → H' a = some o ∧ (∀ i, i < O'.n → O'.φ i ≠ a) ∧ (O.F a = none → O'.F a = none)
theorem Stp.refl (O : Om) (H : Hp) : Stp O H O H := ⟨Nat.le_refl _, fun _ _ => rfl, fun _ _ e => e, fun _ _ e k => ⟨e, k, id⟩⟩
theorem Stp.trans {O O1 O2 : Om} {H H1 H2 : Hp} (a : Stp O H O1 H1) (b : Stp O1 H1 O2 H2) : Stp O H O2 H2 :=
  ⟨Nat.le_trans a.n b.n, fun i hi => (b.φ i (Nat.lt_of_lt_of_le hi a.n)).trans (a.φ i hi), fun c o e => b.F c o (a.F c o e),
    fun c o e k =>
      have y := a.fr c o e k
      have z := b.fr c o y.1 y.2.1
      ⟨z.1, z.2.1, fun q => z.2.2 (y.2.2 q)⟩⟩

section
variable {K : PySem.W.Frag} {mg : Mg} {O O' : Om} {H H' : Hp}
theorem sqL_up {F F' : Hp} (up : ∀ a o, F a = some o → F' a = some o) {p : Addr} {vs : List V} (q : SqL K F p vs) : SqL K F' p vs := Same.seq up q
theorem sqT_up {F F' : Hp} (up : ∀ a o, F a = some o → F' a = some o) {p : Addr} {vs : List V} (q : SqT K F p vs) : SqT K F' p vs := by
  rcases q with (q | ⟨ob, q⟩) | q
  · exact .inl (.inl (up _ _ q))
  · exact .inl (.inr ⟨ob, up _ _ q⟩)
  · exact .inr q
mutual
theorem Rep.up (hn : O.n ≤ O'.n) (hφ : ∀ i, i < O.n → O'.φ i = O.φ i) (hF : ∀ a o, O.F a = some o → O'.F a = some o) : ∀ {d : D} {v : V}, Rep K mg O d v → Rep K mg O' d v
  | _, _, .non => .non
  | _, _, .bl b => .bl b
  | _, _, .int i => .int i
  | _, _, .str s => .str s
  | _, _, .tup q z r => .tup (hF _ _ q) z (RepL.up hn hφ hF r)
  | _, _, .lst q z r => .lst (hF _ _ q) z (RepL.up hn hφ hF r)
  | _, _, .ksl q z r => .ksl (sqL_up hF q) z (RepL.up hn hφ hF r)
  | _, _, .kst q z r => .kst (sqT_up hF q) z (RepL.up hn hφ hF r)
  | _, _, .ptr (n := n) q => by
    rw [← hφ n q]
    exact .ptr (Nat.lt_of_lt_of_le q hn)
  | _, _, .glo e r => .glo e r
theorem RepL.up (hn : O.n ≤ O'.n) (hφ : ∀ i, i < O.n → O'.φ i = O.φ i) (hF : ∀ a o, O.F a = some o → O'.F a = some o) : ∀ {ds : List D} {vs : List V}, RepL K mg O ds vs → RepL K mg O' ds vs
  | _, _, .nil => .nil
  | _, _, .cons r t => .cons (Rep.up hn hφ hF r) (RepL.up hn hφ hF t)
end
theorem Rep.stp (s : Stp O H O' H') {d : D} {v : V} (r : Rep K mg O d v) : Rep K mg O' d v := r.up s.n s.φ s.F
theorem RepL.stp (s : Stp O H O' H') {d : List D} {v : List V} (r : RepL K mg O d v) : RepL K mg O' d v := r.up s.n s.φ s.F
theorem RepP.stp {κ : Type} (s : Stp O H O' H') {d : List (κ × D)} {v : List (κ × V)} (r : RepP K mg O d v) : RepP K mg O' d v := by
  induction r with
  | nil => exact .nil
  | cons q _ ih => exact .cons (q.stp s) ih
theorem RepL.length {ds : List D} {vs : List V} (r : RepL K mg O ds vs) : ds.length = vs.length := by
  induction vs generalizing ds with
  | nil => cases r; rfl
  | cons v vs ih => cases r with | cons q t => simp [ih t]
theorem RepL.app : ∀ {ds es : List D} {vs ws : List V}, RepL K mg O ds vs → RepL K mg O es ws → RepL K mg O (ds ++ es) (vs ++ ws)
  | _, _, _, _, .nil, s => s
  | _, _, _, _, .cons r t, s => .cons r (RepL.app t s)
theorem RepL.get : ∀ {ds : List D} {vs : List V} {i : Nat} {d : D}, RepL K mg O ds vs → ds[i]? = some d → ∃ v, vs[i]? = some v ∧ Rep K mg O d v
  | _, _, _, _, .nil, e => by simp at e
  | _, _, 0, _, .cons r _, e => by simp at e; subst e; exact ⟨_, rfl, r⟩
  | _, _, i + 1, d, .cons _ t, e => by
    obtain ⟨v, h1, h2⟩ := RepL.get (i := i) (d := d) t (by simpa using e)
    exact ⟨v, by simpa using h1, h2⟩
theorem RepL.getv : ∀ {ds : List D} {vs : List V} {i : Nat} {v : V}, RepL K mg O ds vs → vs[i]? = some v → ∃ d, ds[i]? = some d ∧ Rep K mg O d v
  | _, _, _, _, .nil, e => by simp at e
  | _, _, 0, _, .cons r _, e => by simp at e; subst e; exact ⟨_, rfl, r⟩
  | _, _, i + 1, d, .cons _ t, e => by
    obtain ⟨v, h1, h2⟩ := RepL.getv (i := i) (v := d) t (by simpa using e)
    exact ⟨v, by simpa using h1, h2⟩
theorem RepL.take : ∀ {ds : List D} {vs : List V} (n : Nat), RepL K mg O ds vs → RepL K mg O (ds.take n) (vs.take n)
  | _, _, 0, _ => .nil
  | _, _, _ + 1, .nil => .nil
  | _, _, n + 1, .cons r t => .cons r (RepL.take n t)
theorem RepL.drop : ∀ {ds : List D} {vs : List V} (n : Nat), RepL K mg O ds vs → RepL K mg O (ds.drop n) (vs.drop n)
  | _, _, 0, r => r
  | _, _, _ + 1, .nil => .nil
  | _, _, n + 1, .cons _ t => RepL.drop n t
theorem RepL.set : ∀ {ds : List D} {vs : List V} (n : Nat) {d : D} {v : V}, RepL K mg O ds vs → Rep K mg O d v → RepL K mg O (ds.set n d) (vs.set n v)
  | _, _, _, _, _, .nil, _ => .nil
  | _, _, 0, _, _, .cons _ t, r => .cons r t
  | _, _, n + 1, _, _, .cons q t, r => .cons q (RepL.set n t r)
theorem RepL.rev {ds : List D} {vs : List V} (r : RepL K mg O ds vs) : RepL K mg O ds.reverse vs.reverse := by
  induction vs generalizing ds with
  | nil => cases r; exact .nil
  | cons v vs ih =>
    cases r with
    | cons q t =>
      rw [List.reverse_cons, List.reverse_cons]
      exact (ih t).app (.cons q .nil)
theorem RepL.rep {ds : List D} {vs : List V} (r : RepL K mg O ds vs) : ∀ k : Nat, RepL K mg O (List.replicate k ds).flatten (List.replicate k vs).flatten
  | 0 => .nil
  | k + 1 => by
    rw [List.replicate_succ, List.replicate_succ, List.flatten_cons, List.flatten_cons]
    exact r.app (RepL.rep r k)
theorem RepL.ints (O : Om) : ∀ ns : List Int, RepL K mg O (ns.map D.int) (ns.map V.int)
  | [] => .nil
  | n :: ns => .cons (.int n) (RepL.ints O ns)

theorem CellOk.stp (s : Stp O H O' H') {p : Addr} {c : Cell} (k : CellOk K mg O H p c) (e : c ≠ .dead → ∀ o, H p = some o → H' p = some o) : CellOk K mg O' H' p c := by
  cases c with
  | lst xs => obtain ⟨vs, a, z, b⟩ := k; exact ⟨vs, e (by simp) _ a, z, b.stp s⟩
  | dK xs => obtain ⟨vs, a, b⟩ := k; exact ⟨vs, e (by simp) _ a, b.stp s⟩
  | dT xs => obtain ⟨vs, a, b⟩ := k; exact ⟨vs, e (by simp) _ a, b.stp s⟩
  | ins C fs => obtain ⟨c, dx, ws, m, a, b⟩ := k; exact ⟨c, dx, ws, m, e (by simp) _ a, b.stp s⟩
  | dead => trivial

/-- a new thing that stays for ever -/
def Om.frz (O : Om) (p : Addr) (o : HO) : Om := ⟨O.n, O.φ, upd O.F p o⟩
theorem SR.newF {h : Hs} (S : SR K mg O h H) {p : Addr} (hp : H p = none) (o : HO) :
    Stp O H (O.frz p o) (upd H p o) ∧ SR K mg (O.frz p o) h (upd H p o) := by
  have up : ∀ a ob, O.F a = some ob → upd O.F p o a = some ob := fun a ob e => by
    have ne : a ≠ p := ne_of_none (S.sub a ob e) hp
    rw [upd_ne ne]; exact e
  have st : Stp O H (O.frz p o) (upd H p o) := ⟨Nat.le_refl _, fun _ _ => rfl, up, fun a ob e k => ⟨by rw [upd_ne (ne_of_none e hp)]; exact e, k, fun q => by
    show upd O.F p o a = none
    rw [upd_ne (ne_of_none e hp)]; exact q⟩⟩
  have keep : ∀ a ob, H a = some ob → upd H p o a = some ob := fun a ob q => by rw [upd_ne (ne_of_none q hp)]; exact q
  refine ⟨st, S.len, fun a ob e => ?_, S.inj, fun i hi => ?_, fun i c e nd => ?_, fun i c e => ?_⟩
  · by_cases ha : a = p
    · subst ha
      have e' : upd O.F a o a = some ob := e
      rw [upd_same] at e' ⊢
      exact e'
    · have e' : upd O.F p o a = some ob := e
      rw [upd_ne ha] at e' ⊢
      exact S.sub a ob e'
  · obtain ⟨ob, q⟩ := S.old i hi
    exact ⟨ob, keep _ _ q⟩
  · obtain ⟨ob, q⟩ := S.old i (by rw [← S.len]; exact (List.getElem?_eq_some_iff.mp e).1)
    show upd O.F p o (O.φ i) = none
    rw [upd_ne (ne_of_none q hp)]
    exact S.nof i c e nd
  · exact (S.cell i c e).stp st fun _ ob q => keep _ _ q
/-- one changing object more -/
def Om.more (O : Om) (p : Addr) : Om := ⟨O.n + 1, fun i => if i = O.n then p else O.φ i, O.F⟩
theorem Om.more_old {p : Addr} {i : Nat} (hi : i < O.n) : (O.more p).φ i = O.φ i := if_neg (Nat.ne_of_lt hi)
theorem Om.more_new {p : Addr} : (O.more p).φ O.n = p := if_pos rfl
/-- a changing object is made at p: the new heap H' has it there, all else is as it was -/
theorem SR.newC {h : Hs} (S : SR K mg O h H) {p : Addr} (hp : H p = none) {c : Cell} (hk : ∀ a o, H a = some o → H' a = some o) (hpo : ∃ o, H' p = some o)
    (hc : CellOk K mg (O.more p) H' p c) : Stp O H (O.more p) H' ∧ SR K mg (O.more p) (h ++ [c]) H' := by
  have ne : ∀ i, i < O.n → O.φ i ≠ p := fun i hi e => by
    obtain ⟨ob, q⟩ := S.old i hi
    rw [e, hp] at q; cases q
  have st : Stp O H (O.more p) H' := by
    refine ⟨Nat.le_succ _, fun i hi => Om.more_old hi, fun a o e => e, fun a o e k => ⟨hk a o e, fun i hi => ?_, id⟩⟩
    by_cases hn : i = O.n
    · rw [hn, Om.more_new]
      intro z
      rw [z, e] at hp; cases hp
    · have hi' : i < O.n := by have : i < O.n + 1 := hi; omega
      rw [Om.more_old hi']
      exact k i hi'
  have hl := S.len
  refine ⟨st, by rw [List.length_append, hl]; rfl, fun a o e => hk a o (S.sub a o e), fun i j hi hj e => ?_, fun i hi => ?_, fun i d e nd => ?_, fun i d e => ?_⟩
  · have hi' : i < O.n + 1 := hi
    have hj' : j < O.n + 1 := hj
    by_cases h1 : i = O.n
    · by_cases h2 : j = O.n
      · rw [h1, h2]
      · rw [h1, Om.more_new, Om.more_old (by omega)] at e
        exact absurd e.symm (ne j (by omega))
    · by_cases h2 : j = O.n
      · rw [h2, Om.more_new, Om.more_old (by omega)] at e
        exact absurd e (ne i (by omega))
      · rw [Om.more_old (by omega), Om.more_old (by omega)] at e
        exact S.inj i j (by omega) (by omega) e
  · by_cases hn : i = O.n
    · rw [hn, Om.more_new]; exact hpo
    · have hi' : i < O.n := by have : i < O.n + 1 := hi; omega
      rw [Om.more_old hi']
      obtain ⟨ob, q⟩ := S.old i hi'
      exact ⟨ob, hk _ _ q⟩
  · have hb : i < h.length + 1 := by
      have z := (List.getElem?_eq_some_iff.mp e).1
      rw [List.length_append] at z; exact z
    by_cases hn : i = O.n
    · rw [hn, Om.more_new]
      cases q : O.F p with
      | none => exact q
      | some o =>
        have z := S.sub p o q
        rw [hp] at z; cases z
    · have hi : i < h.length := by omega
      rw [Om.more_old (by omega)]
      rw [List.getElem?_append_left hi] at e
      exact S.nof i d e nd
  · have hb : i < h.length + 1 := by
      have z := (List.getElem?_eq_some_iff.mp e).1
      rw [List.length_append] at z; exact z
    by_cases hn : i = O.n
    · rw [hn, ← hl, List.getElem?_append_right (Nat.le_refl _), Nat.sub_self] at e
      have e2 : c = d := by simpa using e
      rw [hn, Om.more_new, ← e2]; exact hc
    · have hi : i < h.length := by omega
      rw [Om.more_old (by omega)]
      rw [List.getElem?_append_left hi] at e
      exact (S.cell i d e).stp st fun _ ob q => hk _ _ q
/-- a changing object is changed -/
theorem SR.put {h : Hs} (S : SR K mg O h H) {n : Nat} {c0 c : Cell} {o : HO} (e0 : h[n]? = some c0) (nd : c0 ≠ .dead)
    (hc : CellOk K mg O (upd H (O.φ n) o) (O.φ n) c) : Stp O H O (upd H (O.φ n) o) ∧ SR K mg O (h.set n c) (upd H (O.φ n) o) := by
  have hn : n < O.n := by rw [← S.len]; exact (List.getElem?_eq_some_iff.mp e0).1
  have hnl : n < h.length := (List.getElem?_eq_some_iff.mp e0).1
  have nf := S.nof n c0 e0 nd
  have st : Stp O H O (upd H (O.φ n) o) := ⟨Nat.le_refl _, fun _ _ => rfl, fun _ _ e => e, fun a ob e k => ⟨by rw [upd_ne (fun z => k n hn z.symm)]; exact e, k, id⟩⟩
  refine ⟨st, by rw [List.length_set]; exact S.len, fun a ob e => ?_, S.inj, fun i hi => ?_, fun i d e nd' => ?_, fun i d e => ?_⟩
  · rw [upd_ne (fun z => by rw [z, nf] at e; cases e)]
    exact S.sub a ob e
  · by_cases hi2 : O.φ i = O.φ n
    · rw [hi2]; exact ⟨_, upd_same⟩
    · rw [upd_ne hi2]; exact S.old i hi
  · by_cases hi : i = n
    · rw [hi]; exact nf
    · rw [List.getElem?_set_ne (Ne.symm hi)] at e
      exact S.nof i d e nd'
  · by_cases hi : i = n
    · rw [hi, List.getElem?_set_self hnl] at e
      cases e
      rw [hi]; exact hc
    · rw [List.getElem?_set_ne (Ne.symm hi)] at e
      have hlt : i < O.n := by rw [← S.len]; exact (List.getElem?_eq_some_iff.mp e).1
      exact (S.cell i d e).stp st fun _ ob q => by
        rw [upd_ne (fun z => hi (S.inj i n hlt hn z))]; exact q
/-- a list that changes no more -/
theorem SR.freeze {h : Hs} (S : SR K mg O h H) {n : Nat} {xs : List D} (e0 : h[n]? = some (.lst xs)) :
    ∃ O', Stp O H O' H ∧ SR K mg O' (h.set n .dead) H ∧ Rep K mg O' (.lst xs) (.ref (O.φ n)) := by
  have hn : n < O.n := by rw [← S.len]; exact (List.getElem?_eq_some_iff.mp e0).1
  have hnl : n < h.length := (List.getElem?_eq_some_iff.mp e0).1
  obtain ⟨vs, hv, hz, hr⟩ := S.cell n _ e0
  have nf := S.nof n _ e0 (by simp)
  have up : ∀ a ob, O.F a = some ob → upd O.F (O.φ n) (.lst vs) a = some ob := fun a ob e => by
    rw [upd_ne (fun z => by rw [z, nf] at e; cases e)]; exact e
  have st : Stp O H (O.frz (O.φ n) (.lst vs)) H := ⟨Nat.le_refl _, fun _ _ => rfl, up, fun a ob e k => ⟨e, k, fun q => by
    show upd O.F (O.φ n) (.lst vs) a = none
    rw [upd_ne (fun z => k n hn z.symm)]; exact q⟩⟩
  refine ⟨O.frz (O.φ n) (.lst vs), st, ⟨by rw [List.length_set]; exact S.len, fun a ob e => ?_, S.inj, S.old, fun i d e nd' => ?_, fun i d e => ?_⟩, ?_⟩
  · have e' : upd O.F (O.φ n) (.lst vs) a = some ob := e
    by_cases ha : a = O.φ n
    · rw [ha, upd_same] at e'
      rw [ha, hv]; exact e'
    · rw [upd_ne ha] at e'
      exact S.sub a ob e'
  · by_cases hi : i = n
    · rw [hi, List.getElem?_set_self hnl] at e
      cases e
      exact absurd rfl nd'
    · rw [List.getElem?_set_ne (Ne.symm hi)] at e
      have hlt : i < O.n := by rw [← S.len]; exact (List.getElem?_eq_some_iff.mp e).1
      show upd O.F (O.φ n) (.lst vs) (O.φ i) = none
      rw [upd_ne (fun z => hi (S.inj i n hlt hn z))]
      exact S.nof i d e nd'
  · by_cases hi : i = n
    · rw [hi, List.getElem?_set_self hnl] at e
      cases e
      trivial
    · rw [List.getElem?_set_ne (Ne.symm hi)] at e
      exact (S.cell i d e).stp st fun _ ob q => q
  · refine .lst (p := O.φ n) (vs := vs) ?_ hz (hr.stp st)
    show upd O.F (O.φ n) (.lst vs) (O.φ n) = _
    rw [upd_same]
theorem SR.at {h : Hs} (S : SR K mg O h H) {n : Nat} {c : Cell} (e : h[n]? = some c) : n < O.n ∧ CellOk K mg O H (O.φ n) c :=
  ⟨by rw [← S.len]; exact (List.getElem?_eq_some_iff.mp e).1, S.cell n c e⟩
theorem Rep.more {p : Addr} {d : D} {v : V} (r : Rep K mg O d v) : Rep K mg (O.more p) d v := r.up (Nat.le_succ _) (fun i hi => Om.more_old hi) fun _ _ e => e
theorem RepL.more {p : Addr} {d : List D} {v : List V} (r : RepL K mg O d v) : RepL K mg (O.more p) d v := r.up (Nat.le_succ _) (fun i hi => Om.more_old hi) fun _ _ e => e
theorem RepP.upp {κ : Type} {d : List (κ × D)} {v : List (κ × V)} (r : RepP K mg O d v) (hn : O.n ≤ O'.n) (hφ : ∀ i, i < O.n → O'.φ i = O.φ i) (hF : ∀ a o, O.F a = some o → O'.F a = some o) : RepP K mg O' d v := by
  induction r with
  | nil => exact .nil
  | cons q _ ih => exact .cons (q.up hn hφ hF) ih
theorem RepP.more {κ : Type} {p : Addr} {d : List (κ × D)} {v : List (κ × V)} (r : RepP K mg O d v) : RepP K mg (O.more p) d v := r.upp (Nat.le_succ _) (fun i hi => Om.more_old hi) fun _ _ e => e
theorem CellOk.upd {p q : Addr} {c : Cell} {o : HO} (hn : O.n ≤ O'.n) (hφ : ∀ i, i < O.n → O'.φ i = O.φ i) (hF : ∀ a o, O.F a = some o → O'.F a = some o) (k : CellOk K mg O H p c) (ne : p ≠ q) : CellOk K mg O' (L2.upd H q o) p c := by
  cases c with
  | lst xs => obtain ⟨vs, a, z, b⟩ := k; exact ⟨vs, by rw [upd_ne ne]; exact a, z, b.up hn hφ hF⟩
  | dK xs => obtain ⟨vs, a, b⟩ := k; exact ⟨vs, by rw [upd_ne ne]; exact a, b.upp hn hφ hF⟩
  | dT xs => obtain ⟨vs, a, b⟩ := k; exact ⟨vs, by rw [upd_ne ne]; exact a, b.upp hn hφ hF⟩
  | ins C fs => obtain ⟨c, dx, ws, m, a, b⟩ := k; exact ⟨c, dx, ws, m, by rw [upd_ne ne]; exact a, b.upp hn hφ hF⟩
  | dead => trivial
/-- a thing at p that was new at H is still no part of the plain heap at H1 -/
structure Apart (O : Om) (H : Hp) (p : Addr) : Prop where
  at_ : ∃ o, H p = some o
  ne : ∀ i, i < O.n → O.φ i ≠ p
  nf : O.F p = none
theorem Apart.new {h : Hs} (S : SR K mg O h H) {p : Addr} (hp : H p = none) (o : HO) : Apart O (upd H p o) p ∧ SR K mg O h (upd H p o) := by
  have nf : O.F p = none := by
    cases q : O.F p with
    | none => rfl
    | some u =>
      have z := S.sub p u q
      rw [hp] at z; cases z
  have ne : ∀ i, i < O.n → O.φ i ≠ p := fun i hi e => by
    obtain ⟨ob, q⟩ := S.old i hi
    rw [e, hp] at q; cases q
  refine ⟨⟨⟨o, upd_same⟩, ne, nf⟩, S.len, fun a u e => ?_, S.inj, fun i hi => ?_, S.nof, fun i c e => ?_⟩
  · rw [upd_ne (fun z => by rw [z, nf] at e; cases e)]; exact S.sub a u e
  · rw [upd_ne (ne i hi)]; exact S.old i hi
  · exact (S.cell i c e).upd (Nat.le_refl _) (fun _ _ => rfl) (fun _ _ e => e) (ne i (by rw [← S.len]; exact (List.getElem?_eq_some_iff.mp e).1))
theorem Apart.stp {p : Addr} (a : Apart O H p) (s : Stp O H O' H') {o : HO} (e : H p = some o) : Apart O' H' p ∧ H' p = some o :=
  have z := s.fr p o e a.ne
  ⟨⟨⟨o, z.1⟩, z.2.1, z.2.2 a.nf⟩, z.1⟩
theorem Apart.upd {p : Addr} (a : Apart O H p) (o : HO) : Apart O (L2.upd H p o) p := ⟨⟨o, upd_same⟩, a.ne, a.nf⟩
theorem Apart.srU {h : Hs} (S : SR K mg O h H) {p : Addr} (a : Apart O H p) (o : HO) : SR K mg O h (L2.upd H p o) := by
  refine ⟨S.len, fun b u e => ?_, S.inj, fun i hi => ?_, S.nof, fun i c e => ?_⟩
  · rw [upd_ne (fun z => by rw [z, a.nf] at e; cases e)]; exact S.sub b u e
  · rw [upd_ne (a.ne i hi)]; exact S.old i hi
  · exact (S.cell i c e).upd (Nat.le_refl _) (fun _ _ => rfl) (fun _ _ e => e) (a.ne i (by rw [← S.len]; exact (List.getElem?_eq_some_iff.mp e).1))
theorem CellOk.gen {p : Addr} {c : Cell} (hn : O.n ≤ O'.n) (hφ : ∀ i, i < O.n → O'.φ i = O.φ i) (hF : ∀ a o, O.F a = some o → O'.F a = some o) (k : CellOk K mg O H p c) (e : ∀ o, H p = some o → H' p = some o) : CellOk K mg O' H' p c := by
  cases c with
  | lst xs => obtain ⟨vs, a, z, b⟩ := k; exact ⟨vs, e _ a, z, b.up hn hφ hF⟩
  | dK xs => obtain ⟨vs, a, b⟩ := k; exact ⟨vs, e _ a, b.upp hn hφ hF⟩
  | dT xs => obtain ⟨vs, a, b⟩ := k; exact ⟨vs, e _ a, b.upp hn hφ hF⟩
  | ins C fs => obtain ⟨c, dx, ws, m, a, b⟩ := k; exact ⟨c, dx, ws, m, e _ a, b.upp hn hφ hF⟩
  | dead => trivial
/-- a transition, p's object left out -/
structure StpX (p : Addr) (O : Om) (H : Hp) (O' : Om) (H' : Hp) : Prop where
  n : O.n ≤ O'.n
  φ : ∀ i, i < O.n → O'.φ i = O.φ i
  F : ∀ a o, O.F a = some o → O'.F a = some o
  fr : ∀ a o, a ≠ p → H a = some o → (∀ i, i < O.n → O.φ i ≠ a) → H' a = some o ∧ (∀ i, i < O'.n → O'.φ i ≠ a) ∧ (O.F a = none → O'.F a = none)
theorem StpX.refl (p : Addr) (O : Om) (H : Hp) : StpX p O H O H := ⟨Nat.le_refl _, fun _ _ => rfl, fun _ _ e => e, fun _ _ _ e k => ⟨e, k, id⟩⟩
theorem Stp.x {p : Addr} (s : Stp O H O' H') : StpX p O H O' H' := ⟨s.n, s.φ, s.F, fun a o _ => s.fr a o⟩
theorem StpX.trans {p : Addr} {O O1 O2 : Om} {H H1 H2 : Hp} (a : StpX p O H O1 H1) (b : StpX p O1 H1 O2 H2) : StpX p O H O2 H2 :=
  ⟨Nat.le_trans a.n b.n, fun i hi => (b.φ i (Nat.lt_of_lt_of_le hi a.n)).trans (a.φ i hi), fun c o e => b.F c o (a.F c o e), fun c o ne e k =>
      have y := a.fr c o ne e k
      have z := b.fr c o ne y.1 y.2.1
      ⟨z.1, z.2.1, fun q => z.2.2 (y.2.2 q)⟩⟩
theorem StpX.put (p : Addr) (O : Om) (H : Hp) (o : HO) : StpX p O H O (L2.upd H p o) := ⟨Nat.le_refl _, fun _ _ => rfl, fun _ _ e => e, fun a u ne e k => ⟨by rw [upd_ne ne]; exact e, k, id⟩⟩
theorem RepL.stpx {p : Addr} (s : StpX p O H O' H') {d : List D} {v : List V} (r : RepL K mg O d v) : RepL K mg O' d v := r.up s.n s.φ s.F
/-- it becomes a thing that stays -/
theorem Apart.frz {h : Hs} {O1 : Om} {H1 : Hp} (S : SR K mg O1 h H1) {p : Addr} (a : Apart O1 H1 p) {o : HO} (e : H1 p = some o) (hp : H p = none) (s : StpX p O H O1 H1) : Stp O H (O1.frz p o) H1 ∧ SR K mg (O1.frz p o) h H1 := by
  have up : ∀ b u, O1.F b = some u → (O1.frz p o).F b = some u := fun b u q => by
    show L2.upd O1.F p o b = some u
    rw [upd_ne (fun z => by rw [z, a.nf] at q; cases q)]; exact q
  refine ⟨⟨s.n, s.φ, fun b u q => up b u (s.F b u q), fun b u q k => ?_⟩, S.len, fun b u q => ?_, S.inj, S.old, fun i c q nd => ?_, fun i c q => ?_⟩
  · have ne : b ≠ p := fun z => by rw [z, hp] at q; cases q
    have y := s.fr b u ne q k
    refine ⟨y.1, y.2.1, fun z => ?_⟩
    show L2.upd O1.F p o b = none
    rw [upd_ne ne]; exact y.2.2 z
  · have q' : L2.upd O1.F p o b = some u := q
    by_cases hb : b = p
    · rw [hb, upd_same] at q'
      rw [hb, e]; exact q'
    · rw [upd_ne hb] at q'
      exact S.sub b u q'
  · have hi : i < O1.n := by rw [← S.len]; exact (List.getElem?_eq_some_iff.mp q).1
    show L2.upd O1.F p o (O1.φ i) = none
    rw [upd_ne (a.ne i hi)]
    exact S.nof i c q nd
  · exact CellOk.gen (O := O1) (O' := O1.frz p o) (Nat.le_refl _) (fun _ _ => rfl) up (S.cell i c q) fun _ z => z
/-- it becomes a changing object -/
theorem Apart.cell {h : Hs} {O1 : Om} {H1 : Hp} (S : SR K mg O1 h H1) {p : Addr} (a : Apart O1 H1 p) (hp : H p = none) (s : StpX p O H O1 H1) {c : Cell} (hc : CellOk K mg (O1.more p) H1 p c) : Stp O H (O1.more p) H1 ∧ SR K mg (O1.more p) (h ++ [c]) H1 := by
  have hl := S.len
  refine ⟨⟨Nat.le_trans s.n (Nat.le_succ _), fun i hi => (Om.more_old (Nat.lt_of_lt_of_le hi s.n)).trans (s.φ i hi), fun b u q => s.F b u q, fun b u q k => ?_⟩, by rw [List.length_append, hl]; rfl, S.sub, fun i j hi hj e => ?_, fun i hi => ?_, fun i d e nd => ?_, fun i d e => ?_⟩
  · have ne : b ≠ p := fun z => by rw [z, hp] at q; cases q
    have y := s.fr b u ne q k
    refine ⟨y.1, fun i hi => ?_, y.2.2⟩
    by_cases hn : i = O1.n
    · rw [hn, Om.more_new]; exact fun z => ne z.symm
    · have hi' : i < O1.n := by have : i < O1.n + 1 := hi; omega
      rw [Om.more_old hi']
      exact y.2.1 i hi'
  · have hi' : i < O1.n + 1 := hi
    have hj' : j < O1.n + 1 := hj
    by_cases h1 : i = O1.n
    · by_cases h2 : j = O1.n
      · rw [h1, h2]
      · rw [h1, Om.more_new, Om.more_old (by omega)] at e
        exact absurd e.symm (a.ne j (by omega))
    · by_cases h2 : j = O1.n
      · rw [h2, Om.more_new, Om.more_old (by omega)] at e
        exact absurd e (a.ne i (by omega))
      · rw [Om.more_old (by omega), Om.more_old (by omega)] at e
        exact S.inj i j (by omega) (by omega) e
  · by_cases hn : i = O1.n
    · rw [hn, Om.more_new]; exact a.at_
    · have hi' : i < O1.n := by have : i < O1.n + 1 := hi; omega
      rw [Om.more_old hi']
      exact S.old i hi'
  · have hb : i < h.length + 1 := by
      have z := (List.getElem?_eq_some_iff.mp e).1
      rw [List.length_append] at z; exact z
    by_cases hn : i = O1.n
    · rw [hn, Om.more_new]; exact a.nf
    · have hi : i < h.length := by omega
      rw [Om.more_old (by omega)]
      rw [List.getElem?_append_left hi] at e
      exact S.nof i d e nd
  · have hb : i < h.length + 1 := by
      have z := (List.getElem?_eq_some_iff.mp e).1
      rw [List.length_append] at z; exact z
    by_cases hn : i = O1.n
    · rw [hn, ← hl, List.getElem?_append_right (Nat.le_refl _), Nat.sub_self] at e
      have e2 : c = d := by simpa using e
      rw [hn, Om.more_new, ← e2]; exact hc
    · have hi : i < h.length := by omega
      rw [Om.more_old (by omega)]
      rw [List.getElem?_append_left hi] at e
      exact (S.cell i d e).gen (Nat.le_succ _) (fun i hi => Om.more_old hi) (fun _ _ q => q) fun _ z => z
end
end SI
end
section
set_option Elab.async false
set_option linter.all false
set_option maxRecDepth 100000
set_option maxHeartbeats 4000000
/-! SI1: the small language and what it does to plain data. -/
namespace SI
open PySem L2

inductive Bop | add | sub | mul | fdiv | mod | pow
  deriving DecidableEq, Inhabited
inductive Cop | eq | ne | lt | le | gt | ge | isin | notin | is_ | isnot
  deriving DecidableEq, Inhabited
inductive SrcK | seq | rng | zip | enum
  deriving DecidableEq, Inhabited
inductive Bi | len | all | any | tuple | list | int | bool | repr | abs
  deriving DecidableEq, Inhabited
inductive Me | append | extend | pop1 | get2
  deriving DecidableEq, Inhabited
inductive Tg | n (i : Nat) | t (ts : List Tg)
  deriving Inhabited
inductive IE
  | c (d : D) | v (i : Nat) | tup (es : List IE) | lst (m : Bool) (es : List IE)
  | bin (op : Bop) (a b : IE) | neg (a : IE) | cmp (op : Cop) (a b : IE) | chain (o p : Cop) (a b c : IE)
  | and (a b : IE) | or (a b : IE) | not (a : IE) | ife (c a b : IE)
  | call (x : Str) (es : List IE) | make (C : Str) (es : List IE) | meth (o : IE) (m : Str) (es : List IE) | cmeth (C m : Str) (es : List IE)
  | bi (f : Bi) (e : IE) | isi (e : IE) (ts : List (Sum String Str)) | bm (m : Me) (o : IE) (es : List IE)
  | fld (o : IE) (f : Str) | ix (o i : IE) | sl (o : IE) (lo hi : Option IE)
  | comp (m : Bool) (elt : IE) (tg : Tg) (k : SrcK) (args : List IE) (ifs : Option IE) (own : List Nat)
  | val (e : IE) | rngs (l m : Bool) (args : List IE) | dic (t : Bool) | dicd (ks : List Str) (es : List IE)
  deriving Inhabited
inductive IS
  | set (t : Tg) (e : IE) | par (i j : Nat) (a b : IE) | setix (o i e : IE) | setsl (o lo hi e : IE) | setf (o : IE) (f : Str) (e : IE)
  | aug (i : Nat) (op : Bop) (e : IE) | augix (o i : IE) (op : Bop) (e : IE) | ex (e : IE) | ret (e : IE) | retN
  | ife (c : IE) (a b : List IS) | loop (tg : Tg) (k : SrcK) (args : List IE) (body : List IS)
  | pass | brk | cnt | frz (i : Nat) | bad
  deriving Inhabited

/-! ### outcomes -/
structure Exc where
  cls : Str
  fs : List (Str × D)
inductive Res (α : Type) | ok (a : α) (h : Hs) | ex (e : Exc) (h : Hs) | no
abbrev Nv := List (Option D)
inductive SRes | nx (env : Nv) (h : Hs) | rt (d : D) (h : Hs) | bk (env : Nv) (h : Hs) | ct (env : Nv) (h : Hs) | ex (e : Exc) (env : Nv) (h : Hs) | no
def Res.bind {α β : Type} (r : Res α) (f : α → Hs → Res β) : Res β := match r with
  | .ok a h => f a h
  | .ex e h => .ex e h
  | .no => .no
def Res.sbind {α : Type} (r : Res α) (env : Nv) (f : α → Hs → SRes) : SRes := match r with
  | .ok a h => f a h
  | .ex e h => .ex e env h
  | .no => .no
def Res.of {α : Type} (o : Option α) (h : Hs) : Res α := match o with
  | some a => .ok a h
  | none => .no
/-- where no exception is served -/
def Res.calm {α : Type} (r : Res α) : Res α := match r with
  | .ok a h => .ok a h
  | _ => .no
@[simp] theorem Res.bind_ok {α β : Type} (a : α) (h : Hs) (f : α → Hs → Res β) : (Res.ok a h).bind f = f a h := rfl
@[simp] theorem Res.sbind_ok {α : Type} (a : α) (h : Hs) (env : Nv) (f : α → Hs → SRes) : (Res.ok a h).sbind env f = f a h := rfl

theorem Res.bind_assoc {α β γ : Type} (r : Res α) (f : α → Hs → Res β) (g : β → Hs → Res γ) : (r.bind f).bind g = r.bind fun a h => (f a h).bind g := by
  cases r <;> rfl

/-! ### plain data read -/
def LINE : Nat := 16777216
/-- a list (true) or a tuple (false) that is a value, its items -/
def valSeq : D → Option (Bool × List D)
  | .lst xs => some (true, xs)
  | .tup xs => some (false, xs)
  | .ks l xs => some (l, xs)
  | _ => none
/-- .. or a list that changes -/
def un (h : Hs) : D → Option (Bool × List D)
  | .lst xs => some (true, xs)
  | .tup xs => some (false, xs)
  | .ks l xs => some (l, xs)
  | .ptr n => match h[n]? with
    | some (.lst xs) => some (true, xs)
    | _ => none
  | _ => none
mutual
def pyD (g : Nat → Option PyData) : D → Option PyData
  | .non => some .none
  | .bl b => some (.bool b)
  | .int i => some (.int i)
  | .str s => some (.str s)
  | .tup xs => (pyL g xs).map .tuple
  | .lst xs => (pyL g xs).map .list
  | .ks l xs => (pyL g xs).map (if l then .list else .tuple)
  | .ptr n => g n
  | .glo _ => none
def pyL (g : Nat → Option PyData) : List D → Option (List PyData)
  | [] => some []
  | x :: xs => match pyD g x with
    | some d => match pyL g xs with
      | some ds => some (d :: ds)
      | none => none
    | none => none
end
def ptrPy (h : Hs) : Nat → Nat → Option PyData
  | 0, _ => none
  | k + 1, n => match h[n]? with
    | some (.lst xs) => (pyL (ptrPy h k) xs).map .list
    | _ => none
def deep (h : Hs) (d : D) : Option PyData := pyD (ptrPy h 3) d
def eqD (h : Hs) (a b : D) : Option Bool := match deep h a with
  | some x => match deep h b with
    | some y => if SeqAt.shaped x && SeqAt.shaped y then some (PyData.eqv x y) else none
    | none => none
  | none => none
def truth (h : Hs) : D → Option Bool
  | .non => some false
  | .bl b => some b
  | .int i => some (i != 0)
  | .str s => if s.length ≤ LINE then some ((s.length : Int) != 0) else none
  | .tup xs => some (!xs.isEmpty)
  | .lst xs => some (!xs.isEmpty)
  | .ks _ xs => some (!xs.isEmpty)
  | .ptr n => match h[n]? with
    | some (.lst xs) => some (!xs.isEmpty)
    | some (.dK kvs) => some (!kvs.isEmpty)
    | _ => none
  | .glo _ => none
def keyOf : D → Option Key
  | .int i => some (.inl i)
  | .str s => some (.inr s)
  | _ => none
def keysOf : List D → Option (List Key)
  | [] => some []
  | d :: ds => match keyOf d with
    | some k => match keysOf ds with
      | some ks => some (k :: ks)
      | none => none
    | none => none
def keyT : D → Option (List Key)
  | .tup xs => keysOf xs
  | _ => none
section
variable {κ : Type} [DecidableEq κ]
def getK (kvs : List (κ × D)) (k : κ) : Option D := (kvs.find? fun p => decide (p.1 = k)).map (·.2)
def putD (kvs : List (κ × D)) (k : κ) (v : D) : List (κ × D) :=
  if (kvs.any fun p => decide (p.1 = k)) = true then kvs.map (fun p => if p.1 = k then (p.1, v) else p) else kvs ++ [(k, v)]
def delD (kvs : List (κ × D)) (k : κ) : List (κ × D) := kvs.filter fun p => decide (p.1 ≠ k)
end
/-- d[k]: outer none: d is no dict that is served -/
def dget (c : Cell) (k : D) : Option (Option D) := match c with
  | .dK kvs => match keyOf k with
    | some x => some (getK kvs x)
    | none => none
  | .dT kvs => match keyT k with
    | some x => some (getK kvs x)
    | none => none
  | _ => none
def dput (c : Cell) (k v : D) : Option Cell := match c with
  | .dK kvs => match keyOf k with
    | some x => if kvs.length < LINE then some (.dK (putD kvs x v)) else none
    | none => none
  | .dT kvs => match keyT k with
    | some x => if kvs.length < LINE then some (.dT (putD kvs x v)) else none
    | none => none
  | _ => none
def inD (h : Hs) (x c : D) : Option Bool := match c with
  | .ptr n => match h[n]? with
    | some (.lst xs) => match deep h x with
      | some d => match pyL (ptrPy h 2) xs with
        | some ds => if SeqAt.shaped d && SeqAt.shaped (.list ds) then some (ds.any fun z => PyData.eqv z d) else none
        | none => none
      | none => none
    | some cell => (dget cell x).map (·.isSome)
    | none => none
  | c => match valSeq c with
    | some (l, xs) => match deep h x with
      | some d => match pyL (ptrPy h 3) xs with
        | some ds => if SeqAt.shaped d && SeqAt.shaped (.list ds) then some (ds.any fun z => PyData.eqv z d) else none
        | none => none
      | none => none
    | none => none

/-! ### operators -/
def big64 (i : Int) : Bool := decide (i.natAbs < 18446744073709551616)
def binD (h : Hs) (op : Bop) (x y : D) : Option D := match x, y with
  | .int i, .int j => match op with
    | .add => some (.int (i + j))
    | .sub => some (.int (i - j))
    | .mul => if big64 i || big64 j then some (.int (i * j)) else none
    | .fdiv => if decide (0 < j ∧ j.natAbs < 1073741824) then some (.int (i / j)) else none
    | .mod => if decide (0 < j) then some (.int (i % j)) else none
    | .pow => if decide (0 ≤ j ∧ j ≤ 1000000 ∧ i.natAbs < 2 ^ 64) then some (.int (i ^ j.toNat)) else none
  | .str a, .str b => match op with
    | .add => if a.length + b.length ≤ LINE then some (.str (a ++ b)) else none
    | _ => none
  | x, y => match op, x, y with
    | .add, .tup xs, .tup ys => if xs.length + ys.length ≤ LINE then some (.tup (xs ++ ys)) else none
    | .mul, .tup xs, .int k => if 1 ≤ k ∧ k ≤ 1000 ∧ xs.length ≤ 1000 then some (.tup (List.replicate k.toNat xs).flatten) else none
    | _, _, _ => none
/-- list + list, list * int: a new list -/
def binL (h : Hs) (op : Bop) (x y : D) : Option (List D) := match op with
  | .add => match un h x with
    | some (true, xs) => match un h y with
      | some (true, ys) => if xs.length + ys.length ≤ LINE then some (xs ++ ys) else none
      | _ => none
    | _ => none
  | .mul => match un h x with
    | some (true, xs) => match y with
      | .int k => if k.natAbs < 4611686018427387904 ∧ xs.length * k.toNat ≤ LINE then some (List.replicate k.toNat xs).flatten else none
      | _ => none
    | _ => none
  | _ => none
def isKs : D → Bool
  | .ks _ _ => true
  | _ => false
def binA (h : Hs) (op : Bop) (x y : D) : Res D := match binD h op x y with
  | some d => .ok d h
  | none => if isKs x || isKs y then .no else match binL h op x y with
    | some xs => .ok (.lst xs) h
    | none => .no
def intsOf : List D → Option (List Int)
  | [] => some []
  | .int i :: ds => (intsOf ds).map (i :: ·)
  | _ => none
def ltD (x y : D) : Option Bool := match x, y with
  | .int i, .int j => some (decide (i < j))
  | .tup xs, .tup ys => match intsOf xs with
    | some ns => match intsOf ys with
      | some ms => some (HT.lexLt ns ms)
      | none => none
    | none => none
  | _, _ => none
def isD (x y : D) : Option Bool := match y with
  | .non => match x with
    | .non => some true
    | .glo _ => none
    | _ => some false
  | _ => none
def cmpD (h : Hs) (op : Cop) (x y : D) : Option Bool := match op with
  | .eq => eqD h x y
  | .ne => (eqD h x y).map (!·)
  | .lt => ltD x y
  | .gt => match x, y with
    | .int i, .int j => some (decide (j < i))
    | _, _ => none
  | .le => match x, y with
    | .int i, .int j => some (decide (i ≤ j))
    | _, _ => none
  | .ge => match x, y with
    | .int i, .int j => some (decide (j ≤ i))
    | _, _ => none
  | .isin => inD h x y
  | .notin => (inD h x y).map (!·)
  | .is_ => isD x y
  | .isnot => (isD x y).map (!·)
def cutD (xs : List D) (lo hi : Option Int) : List D := (xs.drop (HT.sIx xs.length 0 lo)).take (HT.sIx xs.length xs.length hi - HT.sIx xs.length 0 lo)
def idx (y : D) (xs : List D) : Option D := match y with
  | .int k => atI xs k
  | _ => none
def ixD (h : Hs) (o i : D) : Option D := match o with
  | .ptr n => match h[n]? with
    | some (.lst xs) => idx i xs
    | some c => (dget c i).join
    | none => none
  | o => match valSeq o with
    | some (_, xs) => idx i xs
    | none => none
def slD (h : Hs) (o : D) (lo hi : Option Int) : Option D := match o with
  | .tup xs => some (.tup (cutD xs lo hi))
  | o => match un h o with
    | some (true, xs) => some (.lst (cutD xs lo hi))
    | _ => none

/-! ### built-ins -/
def boolsOf : List D → Option (List Bool)
  | [] => some []
  | .bl b :: ds => (boolsOf ds).map (b :: ·)
  | _ => none
def lenD (h : Hs) (d : D) : Option D := match d with
  | .str s => if s.length ≤ LINE then some (.int s.length) else none
  | .ptr n => match h[n]? with
    | some (.lst xs) => some (.int xs.length)
    | some (.dK kvs) => some (.int kvs.length)
    | _ => none
  | d => match valSeq d with
    | some (_, xs) => some (.int xs.length)
    | none => none
def tupD (h : Hs) (d : D) : Option D := match d with
  | .tup xs => some (.tup xs)
  | .ks false xs => some (.ks false xs)
  | d => match un h d with
    | some (true, xs) => some (.tup xs)
    | _ => none
def isSeqPy : PyData → Bool
  | .list _ => true
  | .tuple _ => true
  | _ => false
def isPtr : D → Bool
  | .non => false
  | .bl _ => false
  | .int _ => false
  | .str _ => false
  | .glo _ => false
  | _ => true
def reprD (h : Hs) (d : D) : Option D := match deep h d with
  | some x => if isPtr d && x.showable && !x.hasDict && decide (x.shown.length ≤ LINE) && decide (x.depth ≤ 60) then some (.str x.shown) else none
  | none => none
def biD (f : Bi) (h : Hs) (d : D) : Option D := match f with
  | .len => lenD h d
  | .all => match un h d with
    | some (true, xs) => (boolsOf xs).map fun bs => .bl (bs.all id)
    | _ => none
  | .any => match un h d with
    | some (true, xs) => (boolsOf xs).map fun bs => .bl (bs.any id)
    | _ => none
  | .tuple => tupD h d
  | .list => match un h d with
    | some (_, xs) => some (.lst xs)
    | _ => none
  | .int => match d with
    | .int i => some (.int i)
    | .bl b => some (.int (if b then 1 else 0))
    | _ => none
  | .bool => match d with
    | .int i => some (.bl (i != 0))
    | .bl b => some (.bl b)
    | _ => none
  | .repr => reprD h d
  | .abs => match d with
    | .int i => some (.int (if i < 0 then -i else i))
    | _ => none
structure Wr where
  call : Str → List D → Hs → Res D
  meth : Str → Str → List D → Hs → Res D
  make : Str → List D → Hs → Res D
  sub : Str → Str → Option Bool
  cls : Str → Bool
  mth : Str → Str → Bool
/-- isinstance against one class: a built-in's name, an own class -/
def isOne (G : Wr) (h : Hs) (d : D) (t : Sum String Str) : Option Bool := match d with
  | .ptr n => match h[n]? with
    | some (.ins C _) => match t with
      | .inr T => if G.cls C then G.sub C T else none
      | .inl T => if ["int", "bool", "str", "list", "tuple", "dict"].contains T && G.cls C then some false else none
    | some (.lst _) => match t with
      | .inl T => kitB "list" T
      | .inr _ => some false
    | some (.dK _) => match t with
      | .inl T => kitB "dict" T
      | .inr _ => some false
    | some (.dT _) => match t with
      | .inl T => kitB "dict" T
      | .inr _ => some false
    | _ => none
  | .glo _ => none
  | d => match t with
    | .inr _ => some false
    | .inl T => match d with
      | .non => kitB "NoneType" T
      | .bl _ => kitB "bool" T
      | .int _ => kitB "int" T
      | .str _ => kitB "str" T
      | .tup _ => kitB "tuple" T
      | .lst _ => kitB "list" T
      | .ks l _ => kitB (if l then "list" else "tuple") T
      | _ => none
def isAny (G : Wr) (h : Hs) (d : D) : List (Sum String Str) → Option Bool
  | [] => some false
  | t :: ts => match isOne G h d t with
    | some true => some true
    | some false => isAny G h d ts
    | none => none

/-! ### what is walked -/
def rngD (lo hi : Int) : List D := (List.range (hi - lo).toNat).map fun i => .int (lo + (i : Nat))
def rngOk (i : Int) : Bool := decide (i.natAbs ≤ 2305843009213693952)
def rngA (ds : List D) : Option (List D) := match ds with
  | [.int j] => if rngOk j then some (rngD 0 j) else none
  | [.int i, .int j] => if rngOk i && rngOk j then some (rngD i j) else none
  | _ => none
def zipD : List D → List D → List D
  | x :: xs, y :: ys => .tup [x, y] :: zipD xs ys
  | _, _ => []
def enumD : Nat → List D → List D
  | _, [] => []
  | i, x :: xs => .tup [.int i, x] :: enumD (i + 1) xs
def srcD (k : SrcK) (ds : List D) : Option (List D) := match k with
  | .seq => match ds with
    | [d] => (valSeq d).map (·.2)
    | _ => none
  | .rng => rngA ds
  | .zip => match ds with
    | [a, b] => match valSeq a with
      | some (true, xs) => match valSeq b with
        | some (true, ys) => some (zipD xs ys)
        | _ => none
      | some (false, xs) => match valSeq b with
        | some (false, ys) => some (zipD xs ys)
        | _ => none
      | none => none
    | _ => none
  | .enum => match ds with
    | [d] => match valSeq d with
      | some (true, xs) => some (enumD 0 xs)
      | _ => none
    | _ => none

/-! ### names -/
def get (env : Nv) (i : Nat) : Option D := (env[i]?).join
def wipeE (env : Nv) : List Nat → Nv
  | [] => env
  | v :: vs => (wipeE env vs).set v none
mutual
def asg : Tg → D → Nv → Option Nv
  | .n i, d, env => some (env.set i (some d))
  | .t ts, d, env => match valSeq d with
    | some (false, xs) => asgs ts xs env
    | _ => none
def asgs : List Tg → List D → Nv → Option Nv
  | [], [], env => some env
  | t :: ts, d :: ds, env => match asg t d env with
    | some env => asgs ts ds env
    | none => none
  | _, _, _ => none
end

/-! ### the world of defs and classes -/
/-- the receiver's class, where it has no field of the method's name -/
def clsOf (G : Wr) (h : Hs) (d : D) (m : Str) : Option Str := match d with
  | .ptr n => match h[n]? with
    | some (.ins C fs) => if G.cls C && G.mth C m && (fs.lookup m).isNone then some C else none
    | _ => none
  | _ => none
def fldD (G : Wr) (h : Hs) (d : D) (f : Str) : Option D := match d with
  | .ptr n => match h[n]? with
    | some (.ins C fs) => if G.cls C then fs.lookup f else none
    | _ => none
  | _ => none
def putFD (f : Str) (v : D) : List (Str × D) → List (Str × D)
  | [] => [(f, v)]
  | (g, w) :: r => if g = f then (f, v) :: r else (g, w) :: putFD f v r
def setFD (G : Wr) (h : Hs) (d : D) (f : Str) (v : D) : Option Hs := match d with
  | .ptr n => match h[n]? with
    | some (.ins C fs) => if G.cls C && decide (fs.length < 1000) then some (h.set n (.ins C (putFD f v fs))) else none
    | _ => none
  | _ => none
def setIxD (h : Hs) (o i v : D) : Option Hs := match o with
  | .ptr n => match h[n]? with
    | some (.lst xs) => match i with
      | .int k => match ixN xs.length k with
        | some j => some (h.set n (.lst (xs.set j v)))
        | none => none
      | _ => none
    | some c => match dput c i v with
      | some c' => some (h.set n c')
      | none => none
    | none => none
  | _ => none
def setSlD (h : Hs) (o lo hi v : D) : Option Hs := match o with
  | .ptr n => match h[n]? with
    | some (.lst xs) => match lo, hi, v with
      | .int a, .int b, .lst ys => if 0 ≤ a ∧ a ≤ b ∧ b ≤ xs.length ∧ xs.length + ys.length ≤ LINE then some (h.set n (.lst (xs.take a.toNat ++ ys ++ xs.drop b.toNat))) else none
      | _, _, _ => none
    | _ => none
  | _ => none
def isLstC : Cell → Bool
  | .lst _ => true
  | _ => false
def isDKC : Cell → Bool
  | .dK _ => true
  | _ => false
def isDTC : Cell → Bool
  | .dT _ => true
  | _ => false
def kindC : Me → Cell → Bool
  | .append, c => isLstC c
  | .extend, c => isLstC c
  | .pop1, c => isDKC c
  | .get2, c => isDKC c || isDTC c
/-- the receiver is of the method's kind -/
def meOk (m : Me) (h : Hs) (o : D) : Bool := match o with
  | .ptr n => match h[n]? with
    | some c => kindC m c
    | none => false
  | _ => false
def appC : Cell → List D → Option (D × Cell)
  | .lst xs, [y] => if xs.length < LINE then some (.non, .lst (xs ++ [y])) else none
  | _, _ => none
def extC : Cell → List D → Option (D × Cell)
  | .lst xs, [.lst ys] => if xs.length + ys.length ≤ LINE then some (.non, .lst (xs ++ ys)) else none
  | _, _ => none
def popC : Cell → List D → Option (D × Cell)
  | .dK kvs, [k] => match keyOf k with
    | some x => match getK kvs x with
      | some v => some (v, .dK (delD kvs x))
      | none => none
    | none => none
  | _, _ => none
def getC : Cell → List D → Option (D × Cell)
  | c, [k, e] => match dget c k with
    | some o => some (o.getD e, c)
    | none => none
  | _, _ => none
def meC : Me → Cell → List D → Option (D × Cell)
  | .append => appC
  | .extend => extC
  | .pop1 => popC
  | .get2 => getC
def meD (m : Me) (h : Hs) (o : D) (as : List D) : Res D := match o with
  | .ptr n => match h[n]? with
    | some c => match meC m c as with
      | some (v, c') => .ok v (h.set n c')
      | none => .no
    | none => .no
  | _ => .no
/-- a list of values as it is made: a value, or a changing object -/
def mkL (m : Bool) (xs : List D) (h : Hs) : Res D := if m then .ok (.ptr h.length) (h ++ [.lst xs]) else .ok (.lst xs) h
def reL (m : Bool) (r : Res D) : Res D := match m with
  | false => r
  | true => match r with
    | .ok (.lst xs) h => .ok (.ptr h.length) (h ++ [.lst xs])
    | .ok _ _ => .no
    | .ex e h => .ex e h
    | .no => .no

/-! ### expressions -/
def evs (f : IE → Nv → Hs → Res D) : List IE → Nv → Hs → Res (List D)
  | [], _, h => .ok [] h
  | e :: es, env, h => (f e env h).bind fun d h => (evs f es env h).bind fun ds h => .ok (d :: ds) h
def evo (f : IE → Nv → Hs → Res D) : Option IE → Nv → Hs → Res (Option Int)
  | none, _, h => .ok none h
  | some e, env, h => (f e env h).bind fun d h => match d with
    | .int i => .ok (some i) h
    | _ => .no
def compLoop (f : D → Hs → Res (Option D)) : List D → Hs → Res (List D)
  | [], h => .ok [] h
  | x :: xs, h => (f x h).bind fun o h => (compLoop f xs h).bind fun ys h => .ok (match o with
    | some y => y :: ys
    | none => ys) h
mutual
def ev (G : Wr) : Nat → IE → Nv → Hs → Res D
  | 0, _, _, _ => .no
  | n + 1, e, env, h => match e with
    | .c d => .ok d h
    | .v i => .of (get env i) h
    | .val e => ev G n e env h
    | .tup es => (evs (ev G n) es env h).bind fun ds h => .ok (.tup ds) h
    | .lst m es => (evs (ev G n) es env h).bind fun ds h => mkL m ds h
    | .bin op a b => (ev G n a env h).bind fun x h => (ev G n b env h).bind fun y h => binA h op x y
    | .neg a => (ev G n a env h).bind fun x h => match x with
      | .int i => .ok (.int (-i)) h
      | _ => .no
    | .cmp op a b => (ev G n a env h).bind fun x h => (ev G n b env h).bind fun y h => .of ((cmpD h op x y).map .bl) h
    | .chain o p a b c => (ev G n a env h).bind fun x h => (ev G n b env h).bind fun y h => (Res.of (cmpD h o x y) h).bind fun k h =>
        if k then (ev G n c env h).bind fun z h => .of ((cmpD h p y z).map .bl) h else .ok (.bl false) h
    | .and a b => (ev G n a env h).bind fun x h => (Res.of (truth h x) h).bind fun k h => if k then ev G n b env h else .ok x h
    | .or a b => (ev G n a env h).bind fun x h => (Res.of (truth h x) h).bind fun k h => if k then .ok x h else ev G n b env h
    | .not a => (ev G n a env h).bind fun x h => .of ((truth h x).map fun k => .bl (!k)) h
    | .ife c a b => (evT G n c env h).bind fun k h => if k then ev G n a env h else ev G n b env h
    | .call x es => (evs (ev G n) es env h).bind fun ds h => G.call x ds h
    | .make C es => (evs (ev G n) es env h).bind fun ds h => G.make C ds h
    | .meth o m es => (ev G n o env h).bind fun d h => match clsOf G h d m with
      | some C => (evs (ev G n) es env h).bind fun ds h => G.meth C m (d :: ds) h
      | none => .no
    | .cmeth C m es => (evs (ev G n) es env h).bind fun ds h => G.meth C m ds h
    | .bi f e => (ev G n e env h).bind fun d h => .of (biD f h d) h
    | .isi e ts => (ev G n e env h).bind fun d h => .of ((isAny G h d ts).map .bl) h
    | .bm m o es => (ev G n o env h).bind fun d h => if meOk m h d then (evs (ev G n) es env h).bind fun ds h => meD m h d ds else .no
    | .fld o f => (ev G n o env h).bind fun d h => .of (fldD G h d f) h
    | .ix o i => (ev G n o env h).bind fun x h => (ev G n i env h).bind fun y h => .of (ixD h x y) h
    | .sl o lo hi => (ev G n o env h).bind fun x h => (evo (ev G n) lo env h).bind fun l h => (evo (ev G n) hi env h).bind fun u h => .of (slD h x l u) h
    | .comp m elt tg k args ifs own => reL m ((evs (ev G n) args env h).bind fun ds h => (Res.of (srcD k ds) h).bind fun xs h => if xs.length ≤ LINE then
        (compLoop (fun x h => ((Res.of (asg tg x (wipeE env own)) h).bind fun env2 h =>
          match ifs with
          | none => (ev G n elt env2 h).bind fun y h => .ok (some y) h
          | some c => (evT G n c env2 h).bind fun b h => if b then (ev G n elt env2 h).bind fun y h => .ok (some y) h else .ok none h).calm) xs h).bind fun ys h => .ok (.lst ys) h else .no)
    | .rngs l m args => reL m ((evs (ev G n) args env h).bind fun ds h => (Res.of (rngA ds) h).bind fun xs h =>
        if xs.length ≤ LINE then .ok (if l then .lst xs else .tup xs) h else .no)
    | .dic t => .ok (.ptr h.length) (h ++ [if t then .dT [] else .dK []])
    | .dicd ks es => (evs (ev G n) es env h).calm.bind fun ds h =>
        if ks.length = ds.length then .ok (.ptr h.length) (h ++ [.dK ((ks.map Sum.inr).zip ds)]) else .no
def evT (G : Wr) : Nat → IE → Nv → Hs → Res Bool
  | 0, _, _, _ => .no
  | n + 1, e, env, h => match e with
    | .and a b => (evT G n a env h).bind fun k h => if k then evT G n b env h else .ok false h
    | .or a b => (evT G n a env h).bind fun k h => if k then .ok true h else evT G n b env h
    | .not a => (evT G n a env h).bind fun k h => .ok (!k) h
    | e => (ev G n e env h).bind fun x h => .of (truth h x) h
end

/-! ### statements -/
def forLoop (f : D → Nv → Hs → SRes) : List D → Nv → Hs → SRes
  | [], env, h => .nx env h
  | x :: xs, env, h => match f x env h with
    | .nx env h => forLoop f xs env h
    | .ct env h => forLoop f xs env h
    | .bk env h => .nx env h
    | .rt d h => .rt d h
    | .ex e env h => .ex e env h
    | .no => .no
def SRes.then (r : SRes) (f : Nv → Hs → SRes) : SRes := match r with
  | .nx env h => f env h
  | r => r
def exs (f : IS → Nv → Hs → SRes) : List IS → Nv → Hs → SRes
  | [], env, h => .nx env h
  | s :: ss, env, h => (f s env h).then (exs f ss)
def SRes.of (o : Option (Nv × Hs)) : SRes := match o with
  | some (env, h) => .nx env h
  | none => .no
def ex (G : Wr) : Nat → IS → Nv → Hs → SRes
  | 0, _, _, _ => .no
  | n + 1, s, env, h => match s with
    | .set t e => (ev G n e env h).sbind env fun d h => match asg t d env with
      | some env => .nx env h
      | none => .no
    | .par i j a b => (ev G n a env h).sbind env fun x h => (ev G n b env h).sbind env fun y h => .nx ((env.set i (some x)).set j (some y)) h
    | .setix o i e => (ev G n e env h).sbind env fun v h => (ev G n o env h).sbind env fun x h => (ev G n i env h).sbind env fun y h => match setIxD h x y v with
      | some h => .nx env h
      | none => .no
    | .setsl o lo hi e => (ev G n e env h).sbind env fun v h => (ev G n o env h).sbind env fun x h => (ev G n lo env h).sbind env fun a h => (ev G n hi env h).sbind env fun b h => match setSlD h x a b v with
      | some h => .nx env h
      | none => .no
    | .setf o f e => (ev G n e env h).sbind env fun v h => (ev G n o env h).sbind env fun x h => match setFD G h x f v with
      | some h => .nx env h
      | none => .no
    | .aug i op e => match get env i with
      | some x => (ev G n e env h).sbind env fun y h => match x, y with
        | .int _, .int _ => (Res.of (binD h op x y) h).sbind env fun z h => .nx (env.set i (some z)) h
        | _, _ => .no
      | none => .no
    | .augix o i op e => (ev G n o env h).sbind env fun x h => (ev G n i env h).sbind env fun k h => (Res.of (ixD h x k) h).sbind env fun old h => (ev G n e env h).sbind env fun y h => match old, y with
      | .int _, .int _ => (Res.of (binD h op old y) h).sbind env fun z h => match setIxD h x k z with
        | some h => .nx env h
        | none => .no
      | _, _ => .no
    | .ex e => (ev G n e env h).sbind env fun _ h => .nx env h
    | .ret e => (ev G n e env h).sbind env fun d h => .rt d h
    | .retN => .rt .non h
    | .ife c a b => (evT G n c env h).sbind env fun k h => if k then exs (ex G n) a env h else exs (ex G n) b env h
    | .loop tg k args body => (evs (ev G n) args env h).sbind env fun ds h => match srcD k ds with
      | some xs => forLoop (fun x env h => match asg tg x env with
        | some env => exs (ex G n) body env h
        | none => .no) xs env h
      | none => .no
    | .pass => .nx env h
    | .brk => .bk env h
    | .cnt => .ct env h
    | .frz i => match get env i with
      | some (.ptr p) => match h[p]? with
        | some (.lst xs) => .nx (env.set i (some (.lst xs))) (h.set p .dead)
        | _ => .no
      | some (.lst xs) => .nx env h
      | _ => .no
    | .bad => .no
end SI
end
section
set_option Elab.async false
set_option linter.all false
set_option maxRecDepth 100000
set_option maxHeartbeats 4000000
/-! SI2: side conditions that hang on the text alone. -/
namespace SI
open PySem PySem.Spec PyProof.Rows L2

def starless : Expr → Bool
  | .Starred _ _ => false
  | _ => true
theorem star_cons {e : Expr} (h : starless e = true) (es : List Expr) (env : PySem.Env) : starEach (e :: es) env = (false, eval e env) :: starEach es env := by
  cases e <;> first | rfl | cases h
theorem star_any {pos : Pos} : ∀ {es : List Expr} {env : PySem.Env}, es.all starless = true → (backTo pos (starEach es env)).any (·.1) = false
  | [], _, _ => rfl
  | e :: es, env, h => by
    have h1 : starless e = true ∧ es.all starless = true := by simpa using h
    rw [star_cons h1.1]
    show (false || (backTo pos (starEach es env)).any (·.1)) = false
    rw [star_any h1.2]; rfl
/-- no comprehension -/
def compless : Expr → Bool
  | .ListComp .. => false
  | .SetComp .. => false
  | .DictComp .. => false
  | _ => true
theorem no_swap {e : Expr} (h : compless e = true) (t : Option Expr) (l : Nat) (env : PySem.Env) : swapsWith e t l env = pure false := by
  cases e <;> first | rfl | cases h
def sliceless : Expr → Bool
  | .Slice .. => false
  | _ => true
theorem plain_ix {e : Expr} (h : sliceless e = true) : PlainIx e := by
  intro o i
  cases e <;> first | rfl | cases h
/-- whose truth as a test is its value's -/
def plainT : Expr → Bool
  | .UnaryOp .Not _ _ => false
  | .BoolOp .. => false
  | .IfExp .. => false
  | .Compare .. => false
  | _ => true
theorem plain_true {e : Expr} (h : plainT e = true) (env : PySem.Env) (whole : Sem Value) : isTrue e env whole = (do let v ← whole; standAt e.pos; holding [v] (truthy v)) := by
  cases e with
  | UnaryOp op a p => cases op <;> first | rfl | cases h
  | BoolOp => cases h
  | IfExp => cases h
  | Compare => cases h
  | _ => rfl
/-- an attribute's base that is no super() -/
def superless : Expr → Bool
  | .Call (.Name _ _) [] [] _ => false
  | _ => true
theorem base_plain {e : Expr} (h : superless e = true) (f : Str) (env : PySem.Env) (w : Sem Value) : attributeBase e f env w = w := by
  unfold attributeBase
  split
  · cases h
  · rfl
def setless : Expr → Bool
  | .Set .. => false
  | _ => true
theorem fold_set {e : Expr} (h : setless e = true) (env : PySem.Env) (x : Value) : foldedSetIterable e env x = pure x := by
  cases e <;> first | rfl | cases h
theorem behind_plain {e : Expr} (h : setless e = true) (op : CmpOp) : behindInMarks op e = false := by
  cases e <;> first | rfl | cases h
theorem aug_ok {e : Expr} (h : sliceless e = true) : ∀ ov iv new, augStore e ov iv new = (do
    holding [new, ov, iv] (setItem ov iv new)
    release [new, ov, iv] []
    pure .next) := by
  intro a b c
  cases e <;> first | rfl | cases h
theorem few_ok {args : List Expr} {env : PySem.Env} {pos : Pos} (h : args.all starless = true) (hl : args.length < 30) : methodCallForm (args.length + ([] : List Keyword).length) (backTo pos (starEach args env)) (backToKw pos (keywordEach [] env)) = true := by
  have a : ∀ es : List Expr, es.all starless = true → (backTo pos (starEach es env)).all (!·.1) = true := by
    intro es
    induction es with
    | nil => intro _; rfl
    | cons e es ih =>
      intro h
      have h1 : starless e = true ∧ es.all starless = true := by simpa using h
      rw [star_cons h1.1]
      show (!false && (backTo pos (starEach es env)).all (!·.1)) = true
      rw [ih h1.2]; rfl
  show ((backTo pos (starEach args env)).all (!·.1) && true && decide (args.length + 0 + 0 < 30)) = true
  rw [a args h, decide_eq_true (by omega)]; rfl
theorem meth_eq {o : Expr} {m : Str} {apos pos : Pos} {args : List Expr} {env : PySem.Env} (h : args.all starless = true) (hl : args.length < 30) (ho : superless o = true) (hp : (apos.endLine == pos.line) = true) :
    ∃ pl : PySem.Sem Bool, eval (.Call (.Attribute o m apos) args [] pos) env = (do
      let ov ← eval o env
      standAt apos.atName
      let (f, first) ← holding [ov] (getMethod ov m pl)
      callWith pos f first (backTo pos (starEach args env)) (backToKw pos (keywordEach [] env))) := by
  refine ⟨(do return (← importBound o env).getD true), ?_⟩
  show (do
    let ov ← attributeBase o m env (eval o env)
    standAt apos.atName
    methodCall o m apos pos env ov (args.length + ([] : List Keyword).length) (backTo pos (starEach args env)) (backToKw pos (keywordEach [] env))) = _
  rw [base_plain ho]
  unfold methodCall
  rw [few_ok h hl]
  unfold methodCallPos calleeOf
  rw [if_pos (show (!true || apos.endLine == pos.line) = true by rw [hp]; rfl)]
  rfl
end SI
end
section
set_option Elab.async false
set_option linter.all false
set_option maxRecDepth 100000
set_option maxHeartbeats 4000000
/-! SI3: what the small language says is what the layer's readings ask: operators. -/
namespace SI
open PySem PySem.Spec PyProof.Rows L2

/-- the frame's names -/
structure NvOk (K : PySem.W.Frag) (mg : Mg) (O : Om) (env : Nv) (sg : L2.St) : Prop where
  len : env.length = sg.length
  val : ∀ (i : Nat) (d : D), env[i]? = some (some d) → ∃ v, sg[i]? = some (some v) ∧ Rep K mg O d v
theorem NvOk.stp {K : PySem.W.Frag} {mg : Mg} {O O' : Om} {H H' : Hp} {env : Nv} {sg : L2.St} (e : NvOk K mg O env sg) (s : Stp O H O' H') : NvOk K mg O' env sg :=
  ⟨e.len, fun i d q => let ⟨v, a, b⟩ := e.val i d q; ⟨v, a, b.stp s⟩⟩
theorem NvOk.set {K : PySem.W.Frag} {mg : Mg} {O : Om} {env : Nv} {sg : L2.St} (e : NvOk K mg O env sg) (i : Nat) {d : D} {v : V} (r : Rep K mg O d v) : NvOk K mg O (env.set i (some d)) (sg.set i (some v)) := by
  refine ⟨by rw [List.length_set, List.length_set]; exact e.len, fun j d' q => ?_⟩
  by_cases h : i = j
  · subst h
    by_cases hl : i < env.length
    · rw [List.getElem?_set_self hl] at q
      have q' : d = d' := by simpa using q
      subst q'
      exact ⟨v, List.getElem?_set_self (by rw [← e.len]; exact hl), r⟩
    · rw [List.getElem?_eq_none (by rw [List.length_set]; omega)] at q
      cases q
  · rw [List.getElem?_set_ne h] at q
    obtain ⟨w, a, b⟩ := e.val j d' q
    exact ⟨w, by rw [List.getElem?_set_ne h]; exact a, b⟩
theorem NvOk.clear {K : PySem.W.Frag} {mg : Mg} {O : Om} {env : Nv} {sg : L2.St} (e : NvOk K mg O env sg) (i : Nat) : NvOk K mg O (env.set i none) (sg.set i none) := by
  refine ⟨by rw [List.length_set, List.length_set]; exact e.len, fun j d' q => ?_⟩
  by_cases h : i = j
  · subst h
    by_cases hl : i < env.length
    · rw [List.getElem?_set_self hl] at q
      cases q
    · rw [List.getElem?_eq_none (by rw [List.length_set]; omega)] at q
      cases q
  · rw [List.getElem?_set_ne h] at q
    obtain ⟨w, a, b⟩ := e.val j d' q
    exact ⟨w, by rw [List.getElem?_set_ne h]; exact a, b⟩
theorem NvOk.wipe {K : PySem.W.Frag} {mg : Mg} {O : Om} {env : Nv} {sg : L2.St} (e : NvOk K mg O env sg) : ∀ l : List Nat, NvOk K mg O (wipeE env l) (L2.wipe sg l)
  | [] => e
  | v :: vs => (NvOk.wipe e vs).clear v

/-- an exception that flies: its class, its own dict -/
def ExOk (K : PySem.W.Frag) (mg : Mg) (O : Om) (e : Exc) (cls : Value) (d : Option Addr) : Prop :=
  ∃ (C dx : Addr) (fs : List (Str × V)), mg e.cls = some (.ref C) ∧ cls = .ref C ∧ d = some dx ∧ O.F dx = some (.xd fs) ∧ RepP K mg O e.fs fs

section
variable {α β γ δ : Type} (X : Cx) (W : WX)
/-- what is wanted behind a plain outcome -/
def Post (sg : L2.St) (O : Om) (H : Hp) (r : Res α) (rep : Om → α → β → Prop) (Q : β → Hp → Prop) : Prop := match r with
  | .ok a h' => ∀ (O' : Om) (b : β) (H' : Hp), Stp O H O' H' → SR X.K X.mg O' h' H' → rep O' a b → Q b H'
  | .ex e h' => ∀ (O' : Om) (cls : Value) (d : Option Addr) (H' : Hp), Stp O H O' H' → SR X.K X.mg O' h' H' → ExOk X.K X.mg O' e cls d → W cls d sg H'
  | .no => False
variable {X W}
theorem Post.weak {sg : L2.St} {O O1 : Om} {H H1 : Hp} {r : Res α} {rep : Om → α → β → Prop} {Q : β → Hp → Prop} (p : Post X W sg O H r rep Q) (s : Stp O H O1 H1) : Post X W sg O1 H1 r rep Q := by
  cases r with
  | ok a h => exact fun O' b H' t => p O' b H' (s.trans t)
  | ex e h => exact fun O' c d H' t => p O' c d H' (s.trans t)
  | no => exact p
theorem Post.bind {sg : L2.St} {O : Om} {H : Hp} {r : Res α} {g : α → Hs → Res γ} {rep : Om → α → β → Prop} {rep2 : Om → γ → δ → Prop} {Q : δ → Hp → Prop} {Q' : β → Hp → Prop} (p : Post X W sg O H (r.bind g) rep2 Q)
    (k : ∀ (a : α) (h1 : Hs) (O1 : Om) (b : β) (H1 : Hp), r = .ok a h1 → Stp O H O1 H1 → SR X.K X.mg O1 h1 H1 → rep O1 a b → Post X W sg O1 H1 (g a h1) rep2 Q → Q' b H1) : Post X W sg O H r rep Q' := by
  cases r with
  | ok a h => exact fun O' b H' s sr rb => k a h O' b H' rfl s sr rb (Post.weak p s)
  | ex e h => exact p
  | no => exact p
theorem Post.here {sg : L2.St} {O : Om} {H : Hp} {a : α} {h : Hs} {rep : Om → α → β → Prop} {Q : β → Hp → Prop} (p : Post X W sg O H (.ok a h) rep Q) (S : SR X.K X.mg O h H) {b : β} (r : rep O a b) : Q b H :=
  p O b H (Stp.refl O H) S r
theorem Post.mono {sg : L2.St} {O : Om} {H : Hp} {r : Res α} {rep : Om → α → β → Prop} {Q Q' : β → Hp → Prop} (p : Post X W sg O H r rep Q) (k : ∀ b H', Q b H' → Q' b H') : Post X W sg O H r rep Q' := by
  cases r with
  | ok a h => exact fun O' b H' s sr rb => k _ _ (p O' b H' s sr rb)
  | ex e h => exact p
  | no => exact p
/-- a pure look-up -/
theorem Post.of {sg : L2.St} {O : Om} {H : Hp} {o : Option α} {h : Hs} {rep : Om → α → β → Prop} {Q : β → Hp → Prop} (p : Post X W sg O H (Res.of o h) rep Q) (S : SR X.K X.mg O h H) : ∃ a, o = some a ∧ ∀ b, rep O a b → Q b H := by
  cases o with
  | none => exact (show False from p).elim
  | some a => exact ⟨a, rfl, fun b r => Post.here p S r⟩
theorem Post.ofb {sg : L2.St} {O : Om} {H : Hp} {o : Option α} {h : Hs} {g : α → Hs → Res γ} {rep2 : Om → γ → δ → Prop} {Q : δ → Hp → Prop} (p : Post X W sg O H ((Res.of o h).bind g) rep2 Q) : ∃ a, o = some a ∧ Post X W sg O H (g a h) rep2 Q := by
  cases o with
  | none => exact (show False from p).elim
  | some a => exact ⟨a, rfl, p⟩
/-- a thing that stays is made at p -/
theorem Post.new {sg : L2.St} {O : Om} {H : Hp} {a : α} {h : Hs} {rep : Om → α → β → Prop} {Q : β → Hp → Prop} (p : Post X W sg O H (.ok a h) rep Q) (S : SR X.K X.mg O h H) {q : Addr} (hq : H q = none) (o : HO) {b : β}
    (r : rep (O.frz q o) a b) : Q b (upd H q o) :=
  let ⟨s, sr⟩ := S.newF hq o
  p _ b _ s sr r
end

abbrev RepX (X : Cx) : Om → D → V → Prop := Rep X.K X.mg
abbrev RepLX (X : Cx) : Om → List D → List V → Prop := RepL X.K X.mg
abbrev RepB : Om → Bool → Bool → Prop := fun _ a b => a = b
section
variable (X : Cx) (W : WX)
def tE (f : Nv → Hs → Res D) : TE := fun sg H Q => ∃ (O : Om) (env : Nv) (h : Hs), NvOk X.K X.mg O env sg ∧ SR X.K X.mg O h H ∧ Post X W sg O H (f env h) (RepX X) Q
def tA (f : Nv → Hs → Res (List D)) : TA := fun sg H Q => ∃ (O : Om) (env : Nv) (h : Hs), NvOk X.K X.mg O env sg ∧ SR X.K X.mg O h H ∧ Post X W sg O H (f env h) (RepLX X) Q
def tT (f : Nv → Hs → Res Bool) : TT := fun sg H Q => ∃ (O : Om) (env : Nv) (h : Hs), NvOk X.K X.mg O env sg ∧ SR X.K X.mg O h H ∧ Post X W sg O H (f env h) RepB Q
variable {X W}
theorem PE.weak {e : Expr} {t t' : TE} (p : PE X e t) (k : ∀ sg H Q, t' sg H Q → t sg H Q) : PE X e t' := ⟨fun pn s sg H Q I w => p.run pn s sg H Q I (k sg H Q w)⟩
theorem PA.weak {e : List Expr} {t t' : TA} (p : PA X e t) (k : ∀ sg H Q, t' sg H Q → t sg H Q) : PA X e t' := ⟨fun ps pn s sg H Q I w => p.run ps pn s sg H Q I (k sg H Q w)⟩
theorem PT.weak {e : Expr} {t t' : TT} (p : PT X e t) (k : ∀ sg H Q, t' sg H Q → t sg H Q) : PT X e t' := ⟨fun pn s sg H Q I w => p.run pn s sg H Q I (k sg H Q w)⟩
theorem PW.weak {e : Expr} {t t' : TT} (p : PW X e t) (k : ∀ sg H Q, t' sg H Q → t sg H Q) : PW X e t' := ⟨fun wh pn s sg H Q I w => p.run wh pn s sg H Q I (k sg H Q w)⟩
theorem PI.weak {g e : Expr} {t t' : TI} (p : PI X g e t) (k : ∀ sg H R, t' sg H R → t sg H R) : PI X g e t' := ⟨fun pn s sg H R I w => p.run pn s sg H R I (k sg H R w)⟩
theorem PS.weak {e : Stmt} {t t' : TS} (p : PS X e t) (k : ∀ D sg H, t' D sg H → t D sg H) : PS X e t' := ⟨fun pn s sg H D I w => p.run pn s sg H D I (k D sg H w)⟩
theorem PSs.weak {e : List Stmt} {t t' : TS} (p : PSs X e t) (k : ∀ D sg H, t' D sg H → t D sg H) : PSs X e t' := ⟨fun pn s sg H D I w => p.run pn s sg H D I (k D sg H w)⟩

/-! ### what stands for a value -/
theorem Rep.int_inv {O : Om} {i : Int} {v : V} (r : RepX X O (.int i) v) : v = .int i := by cases r; rfl
theorem Rep.bl_inv {O : Om} {i : Bool} {v : V} (r : RepX X O (.bl i) v) : v = .bl i := by cases r; rfl
theorem Rep.str_inv {O : Om} {i : Str} {v : V} (r : RepX X O (.str i) v) : v = .str i := by cases r; rfl
theorem Rep.non_inv {O : Om} {v : V} (r : RepX X O .non v) : v = .non := by cases r; rfl
/-- a list or a tuple that may be read -/
theorem un_ok {O : Om} {h : Hs} {H : Hp} (S : SR X.K X.mg O h H) {d : D} {v : V} (r : RepX X O d v) {l : Bool} {xs : List D} (e : un h d = some (l, xs)) :
    ∃ (p : Addr) (vs : List V), v = .ref p ∧ (if l = true then SqL X.K H p vs else SqT X.K H p vs) ∧ RepLX X O xs vs ∧ vs.length ≤ sizeLine := by
  cases r with
  | tup q z t => cases e; exact ⟨_, _, rfl, SqT.of (S.sub _ _ q), t, z⟩
  | lst q z t => cases e; exact ⟨_, _, rfl, SqL.of (S.sub _ _ q), t, z⟩
  | ksl q z t => cases e; exact ⟨_, _, rfl, sqL_up S.sub q, t, z⟩
  | kst q z t => cases e; exact ⟨_, _, rfl, sqT_up S.sub q, t, z⟩
  | @ptr n q =>
    have e' : (match h[n]? with
      | some (.lst xs) => some (true, xs)
      | _ => none) = some (l, xs) := e
    split at e'
    · rename_i ys hn
      cases e'
      obtain ⟨vs, hv, z, t⟩ := S.cell _ _ hn
      exact ⟨_, vs, rfl, SqL.of hv, t, z⟩
    · cases e'
  | _ => cases e
theorem valSeq_un {h : Hs} {d : D} {p : Bool × List D} (e : valSeq d = some p) : un h d = some p := by
  cases d <;> first | exact e | cases e
/-- .. tracked, to be glued -/
theorem un_lst {O : Om} {h : Hs} {H : Hp} (S : SR X.K X.mg O h H) {d : D} {v : V} (r : RepX X O d v) (nk : isKs d = false) {xs : List D} (e : un h d = some (true, xs)) :
    ∃ (p : Addr) (vs : List V), v = .ref p ∧ H p = some (.lst vs) ∧ RepLX X O xs vs ∧ vs.length ≤ sizeLine := by
  cases r with
  | lst q z t => cases e; exact ⟨_, _, rfl, S.sub _ _ q, t, z⟩
  | ksl q z t => cases nk
  | kst q z t => cases nk
  | @ptr n q =>
    have e' : (match h[n]? with
      | some (.lst xs) => some (true, xs)
      | _ => none) = some (true, xs) := e
    split at e'
    · rename_i ys hn
      cases e'
      obtain ⟨vs, hv, z, t⟩ := S.cell _ _ hn
      exact ⟨_, vs, rfl, hv, t, z⟩
    · cases e'
  | _ => cases e
theorem LINE_eq : LINE = sizeLine := sizeLine_eq.symm

/-! ### operators -/
theorem big_ok {i : Int} (h : big64 i = true) : -(2 ^ 64) < i ∧ i < 2 ^ 64 := by
  have z := of_decide_eq_true h
  omega
/-- () * k, t * 1: the tuple itself, or the empty one -/
abbrev rAdd4 (X : Cx) : R2 := fun x y H Q => (∃ i j, x = .int i ∧ y = .int j ∧ Q (.int (i + j)) H) ∨ (∃ i j, x = .str i ∧ y = .str j ∧ i.length + j.length ≤ sizeLine ∧ Q (.str (i ++ j)) H) ∨ rCatA X.K x y H Q ∨ rCat x y H Q
theorem op_add4 : OpR X (binaryOp .Add) (rAdd4 X) := op_add.or (op_add_str.or (op_catA.or op_cat))
end
end SI
end
section
set_option Elab.async false
set_option linter.all false
set_option maxRecDepth 100000
set_option maxHeartbeats 4000000
/-! SI4: operators. -/
namespace SI
open PySem PySem.Spec PyProof.Rows L2
open PySem.AutoSeq1 (wpAny_loadPart')
/-- a tuple once, or the empty one: itself -/
theorem tup_mul_self (l : Addr) (its : Array Value) (n : Nat) (dd : Option Addr) (sl : Array (Option Value)) (x : Int) (u : Tok) (c0 : (decide (x < -(2 ^ 63)) || decide (x ≥ 2 ^ 63)) = false) (c1 : (its.isEmpty || x == 1) = true) :
    Meets (Builtin.«tuple.__mul__» ⟨[.ref l, .int x u], []⟩) (fun _ R s => s.heap.get? l = some { cls := .type "tuple", dict := dd, data := .seq its n, slots := sl } ∧ R (.ok (.ret (Value.ref l))) s) :=
  .of_wp fun prog w A R s h => by
    obtain ⟨hp, g, d, tk, os⟩ := s
    obtain ⟨hl, h⟩ := h
    have f1 := PySem.AutoSeq1.idx_int
    wp_walk using wpAny_loadPart' hl
    repeat (first
      | (refine wpAny_ite_false (decide_eq_false (by rw [c0]; exact Bool.false_ne_true)) ?_; wp_walk using wpAny_loadPart' hl)
      | (refine wpAny_ite_true (decide_eq_true c1) ?_; wp_walk using wpAny_loadPart' hl))
    exact ⟨_, rfl, h⟩
section
variable {X : Cx}
abbrev rRep1 (X : Cx) : R2 := fun x y H Q => ∃ l k xs, x = .ref l ∧ y = .int k ∧ SqT X.K H l xs ∧ 1 ≤ k ∧ k ≤ 1000 ∧ (xs = [] ∨ k = 1) ∧ Q (.ref l) H
theorem op_rep1 : OpR X (binaryOp .Mult) (rRep1 X) := by
  intro pn s sg H x y v u Q I rx ry h
  obtain ⟨l, k, xs, rfl, rfl, hT, h1, h2, hz, q⟩ := h
  cases rx
  obtain ⟨t, rfl⟩ := ry
  obtain ⟨its, r, ⟨⟨cls, dd, data, sl⟩, ho, hc, n, hd⟩, hs⟩ := I.tuple hT
  simp only at hc hd
  subst hc hd
  have c0 : (decide (k < -(2 ^ 63)) || decide (k ≥ 2 ^ 63)) = false := by
    rw [decide_eq_false (by omega), decide_eq_false (by omega)] <;> rfl
  have c1 : (its.toArray.isEmpty || k == 1) = true := by
    rcases hz with z | z
    · subst z
      cases r
      rfl
    · rw [z]; simp
  refine wpAny_binaryOp_repeat_ref (T := "tuple") (U := "int") (by decide) ⟨_, ho, rfl⟩ (fun s' => typeIs_int s' k t) noFill_tuple_mul F.fills_int_mul F.slot_int_rmul repeat_tuple F.slot_int_index.lookup
    (call_meets F.slot_int_rmul (typeIs_int s k t) F.entry_int_rmul (F.args_int_rmul_2 _ _) (int_rmul_tuple k t l its.toArray n dd sl)
      ⟨ho, rfl, ⟨_, ho, rfl⟩, call_meets F.slot_tuple_mul ⟨_, ho, rfl⟩ F.entry_tuple_mul (F.args_tuple_mul_2 _ _) (tup_mul_self l its.toArray n dd sl k t c0 c1) ⟨ho, ?_⟩⟩)
  exact ⟨.ref l, H, I, rfl, q⟩
abbrev rMul4 (X : Cx) : R2 := fun x y H Q => rI CMul (fun i j => .int (i * j)) x y H Q ∨ rRepT X.K x y H Q ∨ rRep1 X x y H Q ∨ rRep x y H Q
theorem op_mul4 : OpR X (binaryOp .Mult) (rMul4 X) := op_mul.or (op_repT.or (op_rep1.or op_rep))
end
end SI
end
section
set_option Elab.async false
set_option linter.all false
set_option maxRecDepth 100000
set_option maxHeartbeats 4000000
/-! SI5: operators on plain data. -/
namespace SI
open PySem PySem.Spec PyProof.Rows L2
section
variable {X : Cx} {W : WX}
theorem RepL.ne_nil {O : Om} {xs : List D} {vs : List V} (r : RepLX X O xs vs) : xs = [] ↔ vs = [] := by
  have z := r.length
  constructor
  · intro e; subst e; exact List.eq_nil_of_length_eq_zero z.symm
  · intro e; subst e; exact List.eq_nil_of_length_eq_zero z
theorem frz_tup {O : Om} {H : Hp} {h : Hs} (S : SR X.K X.mg O h H) {p : Addr} {xs : List D} {vs : List V} (hp : H p = none) (z : vs.length ≤ sizeLine) (r : RepLX X O xs vs) : RepX X (O.frz p (.tup vs)) (.tup xs) (.ref p) :=
  .tup (by show upd O.F p _ p = _; rw [upd_same]) z (r.stp (S.newF hp (.tup vs)).1)
theorem frz_lst {O : Om} {H : Hp} {h : Hs} (S : SR X.K X.mg O h H) {p : Addr} {xs : List D} {vs : List V} (hp : H p = none) (z : vs.length ≤ sizeLine) (r : RepLX X O xs vs) : RepX X (O.frz p (.lst vs)) (.lst xs) (.ref p) :=
  .lst (by show upd O.F p _ p = _; rw [upd_same]) z (r.stp (S.newF hp (.lst vs)).1)
/-- what an operator gives -/
def opR (X : Cx) : Bop → R2
  | .add => rAdd4 X
  | .sub => rI0 fun i j => .int (i - j)
  | .mul => rMul4 X
  | .fdiv => rI CDiv fun i j => .int (i / j)
  | .mod => rI (fun _ j => 0 < j) fun i j => .int (i % j)
  | .pow => rI CPow fun i j => .int (i ^ j.toNat)
def opOf : Bop → Operator
  | .add => .Add
  | .sub => .Sub
  | .mul => .Mult
  | .fdiv => .FloorDiv
  | .mod => .Mod
  | .pow => .Pow
theorem op_all (op : Bop) : OpR X (binaryOp (opOf op)) (opR X op) := by
  cases op with
  | add => exact op_add4
  | sub => exact op_sub
  | mul => exact op_mul4
  | fdiv => exact op_fdiv
  | mod => exact op_mod
  | pow => exact op_pow
theorem len_rep (xs : List V) (k : Nat) : (List.replicate k xs).flatten.length = k * xs.length := by
  rw [List.length_flatten, List.map_replicate, List.sum_replicate_nat]
theorem bin_ok {sg : L2.St} {O : Om} {H : Hp} {h : Hs} {op : Bop} {x y : D} {v u : V} {Q : VK} (S : SR X.K X.mg O h H) (rx : RepX X O x v) (ry : RepX X O y u) (p : Post X W sg O H (binA h op x y) (RepX X) Q) : opR X op v u H Q := by
  have LE := LINE_eq
  unfold binA at p
  split at p
  · rename_i d hd
    unfold binD at hd
    split at hd
    · rename_i i j
      rw [rx.int_inv, ry.int_inv]
      cases op with
      | add => cases hd; exact .inl ⟨i, j, rfl, rfl, p.here S (.int _)⟩
      | sub => cases hd; exact ⟨i, j, rfl, rfl, p.here S (.int _)⟩
      | mul =>
        simp only at hd
        split at hd
        · rename_i hb
          cases hd
          refine .inl ⟨i, j, rfl, rfl, ?_, p.here S (.int _)⟩
          rcases Bool.or_eq_true_iff.mp hb with z | z
          · exact .inl (big_ok z)
          · exact .inr (big_ok z)
        · cases hd
      | fdiv =>
        simp only at hd
        split at hd
        · rename_i hb
          cases hd
          exact ⟨i, j, rfl, rfl, (show 0 < j ∧ j < 1073741824 from by
            have z := of_decide_eq_true hb
            exact ⟨z.1, by omega⟩), p.here S (.int _)⟩
        · cases hd
      | mod =>
        simp only at hd
        split at hd
        · rename_i hb
          cases hd
          exact ⟨i, j, rfl, rfl, (show 0 < j from of_decide_eq_true hb), p.here S (.int _)⟩
        · cases hd
      | pow =>
        simp only at hd
        split at hd
        · rename_i hb
          cases hd
          exact ⟨i, j, rfl, rfl, (show 0 ≤ j ∧ j ≤ 1000000 ∧ i.natAbs < 2 ^ 64 from of_decide_eq_true hb), p.here S (.int _)⟩
        · cases hd
    · rename_i a b
      rw [rx.str_inv, ry.str_inv]
      cases op with
      | add =>
        simp only at hd
        split at hd
        · rename_i hb
          cases hd
          exact .inr (.inl ⟨a, b, rfl, rfl, by rw [← LE]; exact hb, p.here S (.str _)⟩)
        · cases hd
      | _ => cases hd
    · rename_i n1 n2
      split at hd
      · rename_i xs ys
        split at hd
        · rename_i hb
          cases hd
          cases rx with
          | @tup pa _ vs qa za ra =>
            cases ry with
            | @tup pb _ ws qb zb rb =>
              have la := ra.length
              have lb := rb.length
              refine .inr (.inr (.inl ⟨pa, pb, vs, ws, rfl, rfl, SqT.of (S.sub _ _ qa), SqT.of (S.sub _ _ qb), by omega, fun e => ?_, fun _ e => ?_, fun _ _ q hq => ?_⟩))
              · have e2 := ra.ne_nil.mpr e
                subst e2
                exact p.here S (.tup qb zb rb)
              · have e2 := rb.ne_nil.mpr e
                subst e2
                rw [List.append_nil] at p
                exact p.here S (.tup qa za ra)
              · exact p.new S hq _ (frz_tup S hq (by rw [List.length_append]; omega) (ra.app rb))
        · cases hd
      · rename_i xs k
        split at hd
        · rename_i hb
          obtain ⟨h1, h2, h3⟩ := hb
          cases hd
          rw [ry.int_inv]
          cases rx with
          | @tup pa _ vs qa za ra =>
            have la := ra.length
            by_cases hs : vs = [] ∨ k = 1
            · refine .inr (.inr (.inl ⟨pa, k, vs, rfl, rfl, SqT.of (S.sub _ _ qa), h1, h2, hs, ?_⟩))
              have e : (List.replicate k.toNat xs).flatten = xs := by
                rcases hs with z | z
                · have e2 := ra.ne_nil.mpr z
                  subst e2
                  simp
                · subst z; simp
              rw [e] at p
              exact p.here S (.tup qa za ra)
            · have hs1 : vs ≠ [] := fun z => hs (.inl z)
              have hs2 : k ≠ 1 := fun z => hs (.inr z)
              refine .inr (.inl ⟨pa, k, vs, rfl, rfl, SqT.of (S.sub _ _ qa), hs1, by omega, h2, by omega, fun q hq => ?_⟩)
              refine p.new S hq _ (frz_tup S hq ?_ (ra.rep k.toNat))
              rw [len_rep, ← LE]
              have m1 : k.toNat * vs.length ≤ 1000 * 1000 := Nat.mul_le_mul (by omega) (by omega)
              exact Nat.le_trans m1 (by decide)
        · cases hd
      · cases hd
  · split at p
    · exact (show False from p).elim
    · rename_i hk
      have hk1 : isKs x = false := by
        cases q : isKs x with
        | false => rfl
        | true => exact absurd (by rw [q]; rfl) hk
      have hk2 : isKs y = false := by
        cases q : isKs y with
        | false => rfl
        | true => exact absurd (by rw [q]; simp) hk
      split at p
      · rename_i zs hz
        unfold binL at hz
        split at hz
        · split at hz
          · rename_i xs hu
            split at hz
            · rename_i ys hu2
              split at hz
              · rename_i hb
                cases hz
                obtain ⟨pa, vs, rfl, ha, ra, za⟩ := un_lst S rx hk1 hu
                obtain ⟨pb, ws, rfl, hb2, rb, zb⟩ := un_lst S ry hk2 hu2
                have la := ra.length
                have lb := rb.length
                refine .inr (.inr (.inr ⟨pa, pb, vs, ws, rfl, rfl, ha, hb2, by omega, fun q hq => ?_⟩))
                exact p.new S hq _ (frz_lst S hq (by rw [List.length_append]; omega) (ra.app rb))
              · cases hz
            · cases hz
          · cases hz
        · split at hz
          · rename_i xs hu
            split at hz
            · rename_i k hk0
              split at hz
              · rename_i hb
                obtain ⟨h1, h3⟩ := hb
                cases hz
                obtain ⟨pa, vs, rfl, ha, ra, za⟩ := un_lst S rx hk1 hu
                rw [ry.int_inv]
                have la := ra.length
                refine .inr (.inr (.inr ⟨pa, k, vs, rfl, rfl, ha, by omega, by omega, by rw [← la, ← LE]; exact h3, fun q hq => ?_⟩))
                refine p.new S hq _ (frz_lst S hq ?_ (ra.rep k.toNat))
                rw [len_rep, Nat.mul_comm, ← la, ← LE]
                exact h3
              · cases hz
            · cases hz
          · cases hz
        · cases hz
      · exact (show False from p).elim
end
end SI
end
section
set_option Elab.async false
set_option linter.all false
set_option maxRecDepth 100000
set_option maxHeartbeats 4000000
/-! SI6: comparisons, keys, truth. -/
namespace SI
open PySem PySem.Spec PyProof.Rows L2
section
variable {X : Cx} {W : WX}
mutual
theorem pyD_ok {O : Om} {H : Hp} {h : Hs} (S : SR X.K X.mg O h H) {g : Nat → Option PyData} (hg : ∀ n x, g n = some x → Dp X.K H (.ref (O.φ n)) x) : ∀ (d : D) (x : PyData) (v : V), pyD g d = some x → RepX X O d v → Dp X.K H v x
  | .non, _, _, e, r => by cases e; rw [r.non_inv]; exact .non
  | .bl b, _, _, e, r => by cases e; rw [r.bl_inv]; exact .bl b
  | .int i, _, _, e, r => by cases e; rw [r.int_inv]; exact .int i
  | .str s, _, _, e, r => by cases e; rw [r.str_inv]; exact .str s
  | .tup xs, _, _, e, r => by
    simp only [pyD, Option.map_eq_some_iff] at e
    obtain ⟨ds, e, rfl⟩ := e
    cases r with
    | tup q z t => exact .tup (SqT.of (S.sub _ _ q)) (pyL_ok S hg xs ds _ e t)
  | .lst xs, _, _, e, r => by
    simp only [pyD, Option.map_eq_some_iff] at e
    obtain ⟨ds, e, rfl⟩ := e
    cases r with
    | lst q z t => exact .lst (SqL.of (S.sub _ _ q)) (pyL_ok S hg xs ds _ e t)
  | .ks l xs, _, _, e, r => by
    simp only [pyD, Option.map_eq_some_iff] at e
    obtain ⟨ds, e, rfl⟩ := e
    cases r with
    | ksl q z t => exact .lst (sqL_up S.sub q) (pyL_ok S hg xs ds _ e t)
    | kst q z t => exact .tup (sqT_up S.sub q) (pyL_ok S hg xs ds _ e t)
  | .ptr n, _, _, e, r => by
    cases r with
    | ptr q => exact hg n _ e
  | .glo x, _, _, e, r => by cases e
theorem pyL_ok {O : Om} {H : Hp} {h : Hs} (S : SR X.K X.mg O h H) {g : Nat → Option PyData} (hg : ∀ n x, g n = some x → Dp X.K H (.ref (O.φ n)) x) : ∀ (ds : List D) (xs : List PyData) (vs : List V), pyL g ds = some xs → RepLX X O ds vs → DpAll X.K H vs xs
  | [], _, _, e, r => by cases e; cases r; exact .nil
  | d :: ds, _, _, e, r => by
    simp only [pyL] at e
    split at e
    · rename_i x hx
      split at e
      · rename_i xs hxs
        cases e
        cases r with
        | cons r t => exact .cons (pyD_ok S hg d x _ hx r) (pyL_ok S hg ds xs _ hxs t)
      · cases e
    · cases e
end
theorem ptrPy_ok {O : Om} {H : Hp} {h : Hs} (S : SR X.K X.mg O h H) : ∀ (k n : Nat) (x : PyData), ptrPy h k n = some x → Dp X.K H (.ref (O.φ n)) x
  | 0, _, _, e => by cases e
  | k + 1, n, _, e => by
    simp only [ptrPy] at e
    split at e
    · rename_i xs hn
      simp only [Option.map_eq_some_iff] at e
      obtain ⟨ds, e, rfl⟩ := e
      obtain ⟨vs, hv, z, t⟩ := S.cell _ _ hn
      exact .lst (SqL.of hv) (pyL_ok S (ptrPy_ok S k) xs ds vs e t)
    · cases e
theorem deep_ok {O : Om} {H : Hp} {h : Hs} (S : SR X.K X.mg O h H) {d : D} {x : PyData} {v : V} (e : deep h d = some x) (r : RepX X O d v) : Dp X.K H v x := pyD_ok S (ptrPy_ok S 3) d x v e r
/-! ### keys -/
theorem keyOf_ok {O : Om} {d : D} {k : Key} {v : V} (e : keyOf d = some k) (r : RepX X O d v) : v = kV k := by
  cases d with
  | int i => cases e; rw [r.int_inv]; rfl
  | str s => cases e; rw [r.str_inv]; rfl
  | _ => cases e
theorem keysOf_ok {O : Om} : ∀ {ds : List D} {ks : List Key} {vs : List V}, keysOf ds = some ks → RepLX X O ds vs → vs = ks.map kV
  | [], _, _, e, r => by cases e; cases r; rfl
  | d :: ds, _, _, e, r => by
    simp only [keysOf] at e
    split at e
    · rename_i k hk
      split at e
      · rename_i ks hks
        cases e
        cases r with
        | cons r t => rw [keyOf_ok hk r, keysOf_ok hks t]; rfl
      · cases e
    · cases e
theorem keyT_ok {O : Om} {H : Hp} {h : Hs} (S : SR X.K X.mg O h H) {d : D} {k : List Key} {v : V} (e : keyT d = some k) (r : RepX X O d v) : ∃ b, v = .ref b ∧ H b = some (.tup (k.map kV)) := by
  cases d with
  | tup xs =>
    cases r with
    | tup q z t =>
      have e2 := keysOf_ok e t
      subst e2
      exact ⟨_, rfl, S.sub _ _ q⟩
  | _ => cases e
section
variable {κ : Type} [DecidableEq κ]
theorem getK_ok {O : Om} {kvs : List (κ × D)} {ws : List (κ × V)} (r : RepP X.K X.mg O kvs ws) (k : κ) : (getK kvs k = none ∧ valV ws k = none) ∨ ∃ d v, getK kvs k = some d ∧ valV ws k = some v ∧ RepX X O d v := by
  induction r with
  | nil => exact .inl ⟨rfl, rfl⟩
  | @cons k' d v ds vs q t ih =>
    by_cases e : k' = k
    · exact .inr ⟨d, v, by simp [getK, List.find?_cons, e], by simp [valV, List.find?_cons, e], q⟩
    · have e1 : getK ((k', d) :: ds) k = getK ds k := by simp [getK, List.find?_cons, e]
      have e2 : valV ((k', v) :: vs) k = valV vs k := by simp [valV, List.find?_cons, e]
      rw [e1, e2]; exact ih
theorem RepP.any {O : Om} {kvs : List (κ × D)} {ws : List (κ × V)} (r : RepP X.K X.mg O kvs ws) (k : κ) : (kvs.any fun p => decide (p.1 = k)) = (ws.any fun p => decide (p.1 = k)) := by
  induction r with
  | nil => rfl
  | cons q t ih => simp only [List.any_cons, ih]
theorem RepP.app {O : Om} {kvs kus : List (κ × D)} {ws us : List (κ × V)} (r : RepP X.K X.mg O kvs ws) (t : RepP X.K X.mg O kus us) : RepP X.K X.mg O (kvs ++ kus) (ws ++ us) := by
  induction r with
  | nil => exact t
  | cons q _ ih => exact .cons q ih
theorem RepP.len {O : Om} {kvs : List (κ × D)} {ws : List (κ × V)} (r : RepP X.K X.mg O kvs ws) : kvs.length = ws.length := by
  induction r with
  | nil => rfl
  | cons q _ ih => simp [ih]
theorem putM_ok {O : Om} {kvs : List (κ × D)} {ws : List (κ × V)} (r : RepP X.K X.mg O kvs ws) (k : κ) {d : D} {v : V} (q : RepX X O d v) :
    RepP X.K X.mg O (kvs.map (fun p => if p.1 = k then (p.1, d) else p)) (ws.map (fun p => if p.1 = k then (p.1, v) else p)) := by
  induction r with
  | nil => exact .nil
  | @cons k' d' v' ds vs q' t ih =>
    simp only [List.map_cons]
    by_cases e : k' = k
    · rw [if_pos e, if_pos e]; exact .cons q ih
    · rw [if_neg e, if_neg e]; exact .cons q' ih
theorem putK_ok {O : Om} {kvs : List (κ × D)} {ws : List (κ × V)} (r : RepP X.K X.mg O kvs ws) (k : κ) {d : D} {v : V} (q : RepX X O d v) : RepP X.K X.mg O (putD kvs k d) (putK ws k v) := by
  unfold putD putK
  rw [r.any k]
  split
  · exact putM_ok r k q
  · exact r.app (.cons q .nil)
theorem delK_ok {O : Om} {kvs : List (κ × D)} {ws : List (κ × V)} (r : RepP X.K X.mg O kvs ws) (k : κ) : RepP X.K X.mg O (delD kvs k) (dropK ws k) := by
  unfold delD dropK
  induction r with
  | nil => exact .nil
  | @cons k' d' v' ds vs q' t ih =>
    by_cases e : k' = k
    · have a : decide (k' ≠ k) = false := by simp [e]
      rw [List.filter_cons_of_neg (by simp [e]), List.filter_cons_of_neg (by simp [e])]
      exact ih
    · rw [List.filter_cons_of_pos (by simp [e]), List.filter_cons_of_pos (by simp [e])]
      exact .cons q' ih
end
theorem dget_ok {O : Om} {H : Hp} {h : Hs} (S : SR X.K X.mg O h H) {n : Nat} {c : Cell} (hn : h[n]? = some c) {k : D} {v : V} (r : RepX X O k v) {o : Option D} (e : dget c k = some o) :
    ∃ o', DGet H (O.φ n) v o' ∧ ((o = none ∧ o' = none) ∨ ∃ d w, o = some d ∧ o' = some w ∧ RepX X O d w) := by
  have co := S.cell n c hn
  cases c with
  | dK kvs =>
    simp only [dget] at e
    split at e
    · rename_i x hx
      cases e
      obtain ⟨ws, hw, rp⟩ := co
      rw [keyOf_ok hx r]
      exact ⟨_, DGet.k hw, getK_ok rp x⟩
    · cases e
  | dT kvs =>
    simp only [dget] at e
    split at e
    · rename_i x hx
      cases e
      obtain ⟨ws, hw, rp⟩ := co
      obtain ⟨b, rfl, hb⟩ := keyT_ok S hx r
      exact ⟨_, DGet.t hw hb, getK_ok rp x⟩
    · cases e
  | _ => cases e
theorem dput_ok {O : Om} {H : Hp} {h : Hs} (S : SR X.K X.mg O h H) {n : Nat} {c c' : Cell} (hn : h[n]? = some c) {k d : D} {v w : V} (r : RepX X O k v) (q : RepX X O d w) (e : dput c k d = some c') :
    ∃ H', DPut H (O.φ n) v w H' ∧ Stp O H O H' ∧ SR X.K X.mg O (h.set n c') H' := by
  have co := S.cell n c hn
  have LE := LINE_eq
  cases c with
  | dK kvs =>
    simp only [dput] at e
    split at e
    · rename_i x hx
      split at e
      · rename_i hl
        cases e
        obtain ⟨ws, hw, rp⟩ := co
        rw [keyOf_ok hx r]
        have lw := rp.len
        exact ⟨_, DPut.k hw (by omega), S.put hn (by simp) ⟨_, upd_same, putK_ok rp x q⟩⟩
      · cases e
    · cases e
  | dT kvs =>
    simp only [dput] at e
    split at e
    · rename_i x hx
      split at e
      · rename_i hl
        cases e
        obtain ⟨ws, hw, rp⟩ := co
        obtain ⟨b, rfl, hb⟩ := keyT_ok S hx r
        have lw := rp.len
        exact ⟨_, DPut.t hw hb (by omega), S.put hn (by simp) ⟨_, upd_same, putK_ok rp x q⟩⟩
      · cases e
    · cases e
  | _ => cases e
/-! ### in -/
abbrev rInT (X : Cx) (neg : Bool) : R2 := fun x y H Q => ∃ d ds, Dp X.K H x d ∧ Dp X.K H y (.tuple ds) ∧ SeqAt.shaped d = true ∧ SeqAt.shaped (.list ds) = true ∧ Q (.bl (neg != ds.any fun z => PyData.eqv z d)) H
theorem lay_list {ds : List PyData} (h : SeqAt.shaped (.list ds) = true) : PyData.canLayAll0 ds = true := SeqAt.canLay_of_shaped (d := .list ds) h
theorem op_inT (hu : X.A.units + 65 < cLine) : OpR X (compareOp .In) (rInT X false) := by
  intro pn s sg H x y v u Q I rx ry h
  obtain ⟨d, ds, hd, he, sd, se, q⟩ := h
  obtain ⟨as, r1⟩ := Dp.reads I d x v hd rx
  obtain ⟨bs, r2⟩ := Dp.reads I (.tuple ds) y u he ry
  refine SeqAt.in_tuple_reads r2 r1 (lay_list se) (SeqAt.canLay_of_shaped sd) (room_in_shaped sd hu) ⟨.bl _, H, I, rfl, ?_⟩
  simpa using q
theorem op_notInT (hu : X.A.units + 65 < cLine) : OpR X (compareOp .NotIn) (rInT X true) := by
  intro pn s sg H x y v u Q I rx ry h
  obtain ⟨d, ds, hd, he, sd, se, q⟩ := h
  obtain ⟨as, r1⟩ := Dp.reads I d x v hd rx
  obtain ⟨bs, r2⟩ := Dp.reads I (.tuple ds) y u he ry
  refine SeqAt.notIn_tuple_reads r2 r1 (lay_list se) (SeqAt.canLay_of_shaped sd) (room_in_shaped sd hu) ⟨.bl _, H, I, rfl, ?_⟩
  simpa using q
abbrev rInK (neg : Bool) : R2 := fun x y H Q => ∃ a o, y = .ref a ∧ DGet H a x o ∧ Q (.bl (neg != o.isSome)) H
theorem op_inK (hu : X.A.units + 1 < cLine) : OpR X (compareOp .In) (rInK false) := by
  intro pn s sg H x y v u Q I rx ry h
  obtain ⟨a, o, rfl, g, q⟩ := h
  cases ry
  exact d_in hu I g rx fun s' I' => ⟨.bl _, H, I', rfl, by simpa using q⟩
theorem op_notInK (hu : X.A.units + 1 < cLine) : OpR X (compareOp .NotIn) (rInK true) := by
  intro pn s sg H x y v u Q I rx ry h
  obtain ⟨a, o, rfl, g, q⟩ := h
  cases ry
  exact d_notIn hu I g rx fun s' I' => ⟨.bl _, H, I', rfl, by simpa using q⟩
/-! ### all comparisons -/
def cpOf : Cop → CmpOp
  | .eq => .Eq
  | .ne => .NotEq
  | .lt => .Lt
  | .le => .LtE
  | .gt => .Gt
  | .ge => .GtE
  | .isin => .In
  | .notin => .NotIn
  | .is_ => .Is
  | .isnot => .IsNot
def cmpR (X : Cx) : Cop → R2
  | .eq => rEqD X.K
  | .ne => rNeD X.K
  | .lt => fun x y H Q => rI0 (fun i j => .bl (decide (i < j))) x y H Q ∨ rLtT X.K x y H Q
  | .le => rI0 fun i j => .bl (decide (i ≤ j))
  | .gt => rI0 fun i j => .bl (decide (j < i))
  | .ge => rI0 fun i j => .bl (decide (j ≤ i))
  | .isin => fun x y H Q => rInD X.K x y H Q ∨ rInT X false x y H Q ∨ rInK false x y H Q
  | .notin => fun x y H Q => rNotInD X.K x y H Q ∨ rInT X true x y H Q ∨ rInK true x y H Q
  | .is_ => fun x y H Q => y = .non ∧ Q (.bl (decide (x = .non))) H
  | .isnot => fun x y H Q => y = .non ∧ Q (.bl (!decide (x = .non))) H
theorem cmp_all {k : Nat} (hr : Room k X.A) (op : Cop) : OpR X (compareOp (cpOf op)) (cmpR X op) := by
  have u64 := hr.units
  have u65 : X.A.units + 65 < cLine := by have := hr.un; omega
  cases op with
  | eq => exact op_eqD u64
  | ne => exact op_neD u64
  | lt => exact op_lt.or (op_ltT hr.units0)
  | le => exact op_le
  | gt => exact op_gt
  | ge => exact op_ge
  | isin => exact (op_inD u65).or ((op_inT u65).or (op_inK (by omega)))
  | notin => exact (op_notInD u65).or ((op_notInT u65).or (op_notInK (by omega)))
  | is_ => exact op_isN
  | isnot => exact op_notN
theorem intsOf_ok {O : Om} : ∀ {ds : List D} {ns : List Int} {vs : List V}, intsOf ds = some ns → RepLX X O ds vs → vs = ns.map V.int
  | [], _, _, e, r => by cases e; cases r; rfl
  | d :: ds, _, _, e, r => by
    cases d with
    | int i =>
      simp only [intsOf, Option.map_eq_some_iff] at e
      obtain ⟨ns, e, rfl⟩ := e
      cases r with
      | cons r t => rw [r.int_inv, intsOf_ok e t]; rfl
    | _ => cases e
theorem eq_ok {O : Om} {H : Hp} {h : Hs} (S : SR X.K X.mg O h H) {x y : D} {v u : V} (rx : RepX X O x v) (ry : RepX X O y u) {b : Bool} (e : eqD h x y = some b) :
    ∃ d f, Dp X.K H v d ∧ Dp X.K H u f ∧ SeqAt.shaped d = true ∧ SeqAt.shaped f = true ∧ PyData.eqv d f = b := by
  unfold eqD at e
  split at e
  · rename_i d hd
    split at e
    · rename_i f hf
      split at e
      · rename_i hs
        cases e
        exact ⟨d, f, deep_ok S hd rx, deep_ok S hf ry, (Bool.and_eq_true_iff.mp hs).1, (Bool.and_eq_true_iff.mp hs).2, rfl⟩
      · cases e
    · cases e
  · cases e
theorem in_ok {O : Om} {H : Hp} {h : Hs} (S : SR X.K X.mg O h H) {x y : D} {v u : V} (rx : RepX X O x v) (ry : RepX X O y u) {b : Bool} (e : inD h x y = some b) :
    (∃ d ds, Dp X.K H v d ∧ Dp X.K H u (.list ds) ∧ SeqAt.shaped d = true ∧ SeqAt.shaped (.list ds) = true ∧ (ds.any fun z => PyData.eqv z d) = b) ∨
    (∃ d ds, Dp X.K H v d ∧ Dp X.K H u (.tuple ds) ∧ SeqAt.shaped d = true ∧ SeqAt.shaped (.list ds) = true ∧ (ds.any fun z => PyData.eqv z d) = b) ∨
    ∃ a o, u = .ref a ∧ DGet H a v o ∧ o.isSome = b := by
  have val : ∀ (l : Bool) (xs : List D), valSeq y = some (l, xs) → (match deep h x with
      | some d => match pyL (ptrPy h 3) xs with
        | some ds => if SeqAt.shaped d && SeqAt.shaped (.list ds) then some (ds.any fun z => PyData.eqv z d) else none
        | none => none
      | none => none) = some b →
      (∃ d ds, Dp X.K H v d ∧ Dp X.K H u (.list ds) ∧ SeqAt.shaped d = true ∧ SeqAt.shaped (.list ds) = true ∧ (ds.any fun z => PyData.eqv z d) = b) ∨
      (∃ d ds, Dp X.K H v d ∧ Dp X.K H u (.tuple ds) ∧ SeqAt.shaped d = true ∧ SeqAt.shaped (.list ds) = true ∧ (ds.any fun z => PyData.eqv z d) = b) ∨
      ∃ a o, u = .ref a ∧ DGet H a v o ∧ o.isSome = b := by
    intro l xs hv e
    split at e
    · rename_i d hd
      split at e
      · rename_i ds hds
        split at e
        · rename_i hs
          cases e
          obtain ⟨p, vs, rfl, hq, rr, z⟩ := un_ok S ry (valSeq_un (h := h) hv)
          have hx := deep_ok S hd rx
          have hy := pyL_ok S (ptrPy_ok S 3) xs ds vs hds rr
          cases l with
          | true => exact .inl ⟨d, ds, hx, .lst hq hy, (Bool.and_eq_true_iff.mp hs).1, (Bool.and_eq_true_iff.mp hs).2, rfl⟩
          | false => exact .inr (.inl ⟨d, ds, hx, .tup hq hy, (Bool.and_eq_true_iff.mp hs).1, (Bool.and_eq_true_iff.mp hs).2, rfl⟩)
        · cases e
      · cases e
    · cases e
  unfold inD at e
  split at e
  · rename_i n
    cases ry with
    | ptr hn0 =>
    split at e
    · rename_i xs hn
      split at e
      · rename_i d hd
        split at e
        · rename_i ds hds
          split at e
          · rename_i hs
            cases e
            obtain ⟨vs, hv, z, t⟩ := S.cell _ _ hn
            exact .inl ⟨d, ds, deep_ok S hd rx, .lst (SqL.of hv) (pyL_ok S (ptrPy_ok S 2) xs ds vs hds t), (Bool.and_eq_true_iff.mp hs).1, (Bool.and_eq_true_iff.mp hs).2, rfl⟩
          · cases e
        · cases e
      · cases e
    · rename_i c hn hc
      simp only [Option.map_eq_some_iff] at e
      obtain ⟨o, e, rfl⟩ := e
      obtain ⟨o', g, k⟩ := dget_ok S hc rx e
      refine .inr (.inr ⟨_, o', rfl, g, ?_⟩)
      rcases k with ⟨rfl, rfl⟩ | ⟨d, w, rfl, rfl, _⟩ <;> rfl
    · cases e
  · split at e
    · rename_i l xs hv
      exact val l xs hv e
    · cases e
theorem lt_ok {O : Om} {H : Hp} {h : Hs} (S : SR X.K X.mg O h H) {x y : D} {v u : V} (rx : RepX X O x v) (ry : RepX X O y u) {b : Bool} {Q : VK} (e : ltD x y = some b) (q : Q (.bl b) H) : cmpR X .lt v u H Q := by
  unfold ltD at e
  split at e
  · rename_i i j
    cases e
    rw [rx.int_inv, ry.int_inv]
    exact .inl ⟨i, j, rfl, rfl, q⟩
  · rename_i xs ys
    split at e
    · rename_i ns hns
      split at e
      · rename_i ms hms
        cases e
        cases rx with
        | tup qa za ra =>
          cases ry with
          | tup qb zb rb =>
            have e1 := intsOf_ok hns ra
            have e2 := intsOf_ok hms rb
            subst e1 e2
            exact .inr ⟨_, _, ns, ms, rfl, rfl, SqT.of (S.sub _ _ qa), SqT.of (S.sub _ _ qb), q⟩
      · cases e
    · cases e
  · cases e
theorem cmp_ok {O : Om} {H : Hp} {h : Hs} {op : Cop} (S : SR X.K X.mg O h H) {x y : D} {v u : V} (rx : RepX X O x v) (ry : RepX X O y u) {b : Bool} {Q : VK} (e : cmpD h op x y = some b) (q : Q (.bl b) H) : cmpR X op v u H Q := by
  cases op with
  | eq =>
    obtain ⟨d, f, h1, h2, h3, h4, rfl⟩ := eq_ok S rx ry e
    exact ⟨d, f, h1, h2, h3, h4, q⟩
  | ne =>
    simp only [cmpD, Option.map_eq_some_iff] at e
    obtain ⟨b', e, rfl⟩ := e
    obtain ⟨d, f, h1, h2, h3, h4, rfl⟩ := eq_ok S rx ry e
    exact ⟨d, f, h1, h2, h3, h4, q⟩
  | lt => exact lt_ok S rx ry e q
  | le =>
    simp only [cmpD] at e
    split at e
    · rename_i i j
      cases e
      rw [rx.int_inv, ry.int_inv]
      exact ⟨i, j, rfl, rfl, q⟩
    · cases e
  | gt =>
    simp only [cmpD] at e
    split at e
    · rename_i i j
      cases e
      rw [rx.int_inv, ry.int_inv]
      exact ⟨i, j, rfl, rfl, q⟩
    · cases e
  | ge =>
    simp only [cmpD] at e
    split at e
    · rename_i i j
      cases e
      rw [rx.int_inv, ry.int_inv]
      exact ⟨i, j, rfl, rfl, q⟩
    · cases e
  | isin =>
    rcases in_ok S rx ry e with ⟨d, ds, h1, h2, h3, h4, rfl⟩ | ⟨d, ds, h1, h2, h3, h4, rfl⟩ | ⟨a, o, rfl, g, rfl⟩
    · exact .inl ⟨d, ds, h1, h2, h3, h4, q⟩
    · exact .inr (.inl ⟨d, ds, h1, h2, h3, h4, by simpa using q⟩)
    · exact .inr (.inr ⟨a, o, rfl, g, by simpa using q⟩)
  | notin =>
    simp only [cmpD, Option.map_eq_some_iff] at e
    obtain ⟨b', e, rfl⟩ := e
    rcases in_ok S rx ry e with ⟨d, ds, h1, h2, h3, h4, rfl⟩ | ⟨d, ds, h1, h2, h3, h4, rfl⟩ | ⟨a, o, rfl, g, rfl⟩
    · exact .inl ⟨d, ds, h1, h2, h3, h4, q⟩
    · exact .inr (.inl ⟨d, ds, h1, h2, h3, h4, by simpa using q⟩)
    · exact .inr (.inr ⟨a, o, rfl, g, by simpa using q⟩)
  | is_ =>
    simp only [cmpD, isD] at e
    split at e
    · rw [ry.non_inv]
      split at e
      · cases e
        rw [rx.non_inv]
        exact ⟨rfl, q⟩
      · cases e
      · rename_i hne hng
        cases e
        refine ⟨rfl, ?_⟩
        rw [decide_eq_false (fun z => by subst z; cases rx <;> first | exact hne rfl | exact hng _ rfl)]
        exact q
    · cases e
  | isnot =>
    simp only [cmpD, isD] at e
    split at e
    · rw [ry.non_inv]
      split at e
      · cases e
        rw [rx.non_inv]
        exact ⟨rfl, q⟩
      · cases e
      · rename_i hne hng
        cases e
        refine ⟨rfl, ?_⟩
        rw [decide_eq_false (fun z => by subst z; cases rx <;> first | exact hne rfl | exact hng _ rfl)]
        exact q
    · cases e
end
end SI
end
section
set_option Elab.async false
set_option linter.all false
set_option maxRecDepth 100000
set_option maxHeartbeats 4000000
/-! SI7: calls: a promise that also knows that no repr is under way; a call by what the receiver turns out to be. -/
namespace SI
open PySem PySem.Spec PyProof.Rows L2

/-- as FnOk, with no guard around -/
structure FnG (P : Program) (w : World) (K : PySem.W.Frag) (mg : Mg) (base : Heap) (k : Nat) (f : Addr) (fd : FuncData) (ps : List Str) (sp : Sp) : Prop where
  len : ∀ vs H Q E, sp vs H Q E → vs.length = ps.length
  run : ∀ (A : Around) (outer : List PySem.Env) (s : Shared) (H : Hp) (args : Args) (us : List Value) (vs : List V) (Q : VK) (E : XK), Room k A → A.guards = some [] → Env0 P w K mg base A outer s H →
    BindsTo s fd args (ps.zip us) → Vals vs us → sp vs H Q E → codeAny (model P w) A (.call (.ref f) args) (CR (L2.CX P w) outer P w H s Q E) s
section
variable {X : Cx} {k : Nat} {f C : Addr} {fd : FuncData} {ps : List Str} {sp : Sp} {x m : Str} {p pos apos : Pos} {e o : Expr} {es : List Expr} {W : WX}
variable {pn : List (Addr × Obj)} {sg : L2.St} {H : Hp} {s : Shared} {Q : VK} {us : List Value} {vs : List V}
theorem guards_make {A : Around} (g : A.guards = some []) (c : Addr) (us : List Value) (kw : List (Str × Value)) : (A.under (.builtin "type.__call__" ⟨.ref c :: us, kw⟩)).guards = some [] := by
  have e : (Code.builtin "type.__call__" ⟨.ref c :: us, kw⟩).guards = [] := by
    first | rfl | simp [Code.guards, Code.isGuard, guardIds]
  simp only [Around.under, e, g]
  rfl
theorem guards_deeper {A : Around} (g : A.guards = some []) (env : PySem.Env) : (A.deeper env).guards = some [] := g
/-- the callee runs -/
theorem run_g (F : FnG X.prog X.w X.K X.mg X.base k f fd ps sp) (hr : Room k X.A) (hg : X.A.guards = some []) (hb : Binds X.K fd ps []) (tk : Takes X W)
    (I : Inv X pn sg H s) (r : Vals vs us) (h : sp vs H Q fun c d H' => W c d sg H') : wpAny (model X.prog X.w) X.A (PySem.call (.ref f) us) (EP X pn sg Q) X.xe s := by
  have hl : us.length = ps.length := by rw [← r.length]; exact F.len _ _ _ _ h
  have b := hb s us I.kIn (by rw [List.append_nil]; exact hl)
  rw [List.append_nil] at b
  refine wpAny_call (codeAny_mono (F.run X.A X.stack s H ⟨us, []⟩ us vs Q _ hr hg I.env0 b r h) fun r' s' hq => ?_)
  cases r' with
  | error ex => exact passAt tk sg pn H s ex s' I hq
  | ok fl => cases fl with
    | ret u => exact I.after hq
    | next => exact False.elim hq
    | brk => exact False.elim hq
    | cont => exact False.elim hq
theorem run_gm (M : Mk X.K C f) (F : FnG X.prog X.w X.K X.mg X.base k f fd ps sp) (hr : Room (k + 1) X.A) (hg : X.A.guards = some []) (hb : Binds X.K fd ps []) (tk : Takes X W) (I : Inv X pn sg H s) (r : Vals vs us)
    (h : ∀ x dx, H x = none → H dx = none → dx ≠ x → sp (.ref x :: vs) (upd (upd H dx (.own x)) x (.ins C dx [])) (fun v H2 => v = .non ∧ Q (.ref x) H2) fun c d H' => W c d sg H') :
    wpAny (model X.prog X.w) X.A (PySem.call (.ref C) us) (EP X pn sg Q) X.xe s := by
  have hq := h (s.heap.objs.size + 1) s.heap.objs.size (I.hok.fresh (Nat.le_succ _)) (I.hok.fresh (Nat.le_refl _)) (Nat.ne_of_lt (Nat.lt_succ_self _))
  have I2 := Inv.made (C := C) I
  have r2 : Vals (V.ref (s.heap.objs.size + 1) :: vs) (Value.ref (s.heap.objs.size + 1) :: us) := .cons rfl r
  have hl : (Value.ref (s.heap.objs.size + 1) :: us).length = ps.length := by
    rw [← r2.length]
    exact F.len _ _ _ _ hq
  have b := hb _ (Value.ref (s.heap.objs.size + 1) :: us) I2.kIn (by rw [List.append_nil]; exact hl)
  rw [List.append_nil] at b
  refine wpAny_call (make_map (f := f) I.kIn M.makes M.init (beq_iff_eq.mp M.fn) (codeAny_mono (F.run _ X.stack _ _ ⟨Value.ref (s.heap.objs.size + 1) :: us, []⟩ _ _ _ _ (hr.make C us []) (guards_make hg C us [])
    (I2.env0.make C us []) b r2 hq) fun r' s' hq' => ?_))
  cases r' with
  | error ex => exact passAt tk sg pn _ _ ex s' I2 hq'
  | ok fl => cases fl with
    | ret u =>
      obtain ⟨v, H', I3, rv, ev, q3⟩ := I2.after hq'
      subst ev
      exact ⟨rv, ⟨V.ref (s.heap.objs.size + 1), H', I3, rfl, q3⟩⟩
    | next => exact False.elim hq'
    | brk => exact False.elim hq'
    | cont => exact False.elim hq'
/-- the arguments, then a call of what is known to keep its frame -/
theorem with_args {ta : TA} {first : List Value} {v : Value} (hk : PySem.W.keepIn X.K v = true) (ha : PA X es ta) (hs : es.all starless = true) (I : Inv X pn sg H s) {R : List V → Hp → Prop} (h : ta sg H R) (h0 : es = [] → R [] H) {Q' : Value → Shared → Prop}
    (hf : ∀ us vs H1 s1, Inv X pn sg H1 s1 → Vals vs us → R vs H1 → wpAny (model X.prog X.w) X.A (PySem.call v (first ++ us)) Q' X.xe s1) :
    wpAny (model X.prog X.w) X.A (callWith pos v first (backTo pos (starEach es X.env)) (backToKw pos (keywordEach [] X.env))) Q' X.xe s := by
  cases es with
  | nil =>
    refine PySem.W.callWith_K0 I.kIn hk ?_
    exact hf [] [] H s I .nil (h0 rfl)
  | cons e es =>
    have h1 : starless e = true ∧ es.all starless = true := by simpa using hs
    exact PySem.W.callWith_K (first := first) (h₀ := X.base) I.ok.mod.kin hk (thn (ha.run pos pn s sg H R I h) fun us s1 ⟨vs, H1, I1, r1, q1⟩ => ⟨I1.kIn, hf us vs H1 s1 I1 r1 q1⟩) (star_cons h1.1 es X.env) (star_any h1.2)
end
end SI
end
section
set_option Elab.async false
set_option linter.all false
set_option maxRecDepth 100000
set_option maxHeartbeats 4000000
/-! SI8: expressions. -/
namespace SI
open PySem PySem.Spec PyProof.Rows L2

/-- what the walk of isinstance, of fields and of methods asks of an own class -/
structure ClsF (K : PySem.W.Frag) (c : Addr) : Prop where
  cl : Cls K c
  ha : PySem.W.findIn K (.ref c) "__class__" = some (some (.builtin "object.__class__"))
  hn : PySem.W.specialIn K (.builtin "object.__class__") "__get__" = some (some (.builtin "getset_descriptor.__get__"))
  ht : PySem.W.takesIn K (.builtin "object.__class__") = some true
  hm : PySem.W.mroIn K c (.type "object") = some true
def bTys : List String := ["int", "bool", "str", "list", "tuple", "dict"]
/-- a def's promise: it does to the plain data what g does -/
def spF (K : PySem.W.Frag) (mg : Mg) (n : Nat) (g : List D → Hs → Res D) : Sp := fun vs H Q E => vs.length = n ∧ ∃ (O : Om) (ds : List D) (h : Hs), RepL K mg O ds vs ∧ SR K mg O h H ∧ match g ds h with
  | .ok d h' => ∀ (O' : Om) (v : V) (H' : Hp), Stp O H O' H' → SR K mg O' h' H' → Rep K mg O' d v → Q v H'
  | .ex e h' => ∀ (O' : Om) (cls : Value) (d : Option Addr) (H' : Hp), Stp O H O' H' → SR K mg O' h' H' → ExOk K mg O' e cls d → E cls d H'
  | .no => False
/-- names of the module -/
structure Tab where
  fns : List Str
  cls : List Str
  cst : List (Str × D)
  free : List Str
  attrs : List Str
  cms : List (Str × Str)
/-- what is known of the module where k calls may still go one in another -/
structure Wf (X : Cx) (G : Wr) (k : Nat) (T : Tab) : Prop where
  glo : ∀ x ∈ T.fns, ∃ f, X.mg x = some (.ref f) ∧ PySem.W.keepIn X.K (.ref f) = true
  call : ∀ x ds h, G.call x ds h ≠ .no → ∃ f fd ps, X.mg x = some (.ref f) ∧ Binds X.K fd ps [] ∧ ps.length = ds.length ∧ FnG X.prog X.w X.K X.mg X.base k f fd ps (spF X.K X.mg ps.length (G.call x))
  mth : ∀ C m, G.mth C m = true → ∃ c f, X.mg C = some (.ref c) ∧ Meth X.K c m f
  meth : ∀ C m ds h, G.meth C m ds h ≠ .no → ∃ c f fd ps, X.mg C = some (.ref c) ∧ Meth X.K c m f ∧ Binds X.K fd ps [] ∧ ps.length = ds.length ∧ FnG X.prog X.w X.K X.mg X.base k f fd ps (spF X.K X.mg ps.length (G.meth C m))
  make : ∀ C ds h, G.make C ds h ≠ .no → ∃ c f fd ps j g, X.mg C = some (.ref c) ∧ Mk X.K c f ∧ Binds X.K fd ps [] ∧ ps.length = ds.length + 1 ∧ j + 1 ≤ k ∧ FnG X.prog X.w X.K X.mg X.base j f fd ps (spF X.K X.mg ps.length g) ∧
    ∀ ds h, G.make C ds h = (g (.ptr h.length :: ds) (h ++ [.ins C []])).bind fun d h' => match d with
      | .non => .ok (.ptr h.length) h'
      | _ => .no
  cls : ∀ C, G.cls C = true → ∀ c, X.mg C = some (.ref c) → ClsF X.K c ∧ (∀ f ∈ T.attrs, NoAttr X.K c f) ∧ ∀ B ∈ bTys, PySem.W.kitOne X.K (.ref c) (.type B) = some false
  clg : ∀ C ∈ T.cls, ∃ c, X.mg C = some (.ref c) ∧ PySem.W.keepIn X.K (.ref c) = true ∧ ∀ B ∈ ["NoneType", "bool", "int", "str", "tuple", "list", "dict"], PySem.W.kitOne X.K (.type B) (.ref c) = some false
  sub : ∀ C T' b, G.sub C T' = some b → ∀ c t, X.mg C = some (.ref c) → X.mg T' = some (.ref t) → PySem.W.kitOne X.K (.ref c) (.ref t) = some b
  cst : ∀ p ∈ T.cst, ∃ u v, X.mg p.1 = some u ∧ L2.RelV v u ∧ ∀ O, RepX X O p.2 v
  free : ∀ x ∈ T.free, X.mg x = none
  cms : ∀ p ∈ T.cms, ∃ c f, X.mg p.1 = some (.ref c) ∧ PySem.W.keepIn X.K (.ref f) = true ∧ Meth X.K c p.2 f ∧ PySem.W.readsIn X.K c (.type "type") = true ∧ PySem.W.specialIn X.K (.ref c) "__getattribute__" = some (some (.builtin "type.__getattribute__")) ∧
    PySem.W.findCls X.K (.ref c) (.type "type") p.2 = some (.val (.ref f))

section
variable {X : Cx} {W : WX} {a b c e o i : Expr} {es : List Expr} {pos : Pos} {fa fb fc : Nv → Hs → Res D} {fs : Nv → Hs → Res (List D)} {ft : Nv → Hs → Res Bool}
theorem sE_int {i : Int} {j : Nat} : PE X (.Constant (.int i) j pos) (tE X W fun _ h => .ok (.int i) h) := PE.weak pe_int fun sg H Q ⟨O, env, h, eo, S, p⟩ => p.here S (.int i)
theorem sE_bl {i : Bool} {j : Nat} : PE X (.Constant (.bool i) j pos) (tE X W fun _ h => .ok (.bl i) h) := PE.weak pe_bl fun sg H Q ⟨O, env, h, eo, S, p⟩ => p.here S (.bl i)
theorem sE_non {j : Nat} : PE X (.Constant .none j pos) (tE X W fun _ h => .ok .non h) := PE.weak pe_non fun sg H Q ⟨O, env, h, eo, S, p⟩ => p.here S .non
theorem sE_str {i : Str} {j : Nat} : PE X (.Constant (.str i) j pos) (tE X W fun _ h => .ok (.str i) h) := PE.weak pe_str fun sg H Q ⟨O, env, h, eo, S, p⟩ => p.here S (.str i)
theorem get_ok {O : Om} {env : Nv} {sg : L2.St} (eo : NvOk X.K X.mg O env sg) {i : Nat} {d : D} (e : get env i = some d) : ∃ v, sg[i]? = some (some v) ∧ RepX X O d v := by
  unfold get at e
  cases q : env[i]? with
  | none => rw [q] at e; cases e
  | some z => rw [q] at e; exact eo.val i d (by rw [q]; exact congrArg some e)
theorem sE_var {i : Nat} {x : Str} (hN : X.N[i]? = some x) (hv : Vis X.env.scope x) (hd : (x == ("__debug__" : Str)) = false) (hcd : (x == ("__classdict__" : Str)) = false) : PE X (.Name x pos) (tE X W fun env h => .of (get env i) h) :=
  PE.weak (pe_var hN hv hd hcd) fun sg H Q ⟨O, env, h, eo, S, p⟩ => by
    obtain ⟨d, e, k⟩ := p.of S
    obtain ⟨v, hv, r⟩ := get_ok eo e
    exact ⟨v, hv, k v r⟩
theorem sE_glob {x : Str} {d : D} (hg : Gl X x) (hd : (x == ("__debug__" : Str)) = false) (hc : ∃ u v, X.mg x = some u ∧ L2.RelV v u ∧ ∀ O, RepX X O d v) : PE X (.Name x pos) (tE X W fun _ h => .ok d h) := by
  obtain ⟨u, v, hm, r, q⟩ := hc
  exact PE.weak (pe_glob hg hm r hd) fun sg H Q ⟨O, env, h, eo, S, p⟩ => p.here S (q O)
theorem sA_nil : PA X [] (tA X W fun _ h => .ok [] h) := PA.weak pa_nil fun sg H Q ⟨O, env, h, eo, S, p⟩ => p.here S .nil
theorem sA_cons (hs : starless e = true) (ha : PE X e (tE X W fa)) (hr : PA X es (tA X W fs)) : PA X (e :: es) (tA X W fun env h => (fa env h).bind fun d h => (fs env h).bind fun ds h => .ok (d :: ds) h) :=
  PA.weak (pa_cons ha hr (star_cons hs es X.env)) fun sg H Q ⟨O, env, h, eo, S, p⟩ => ⟨O, env, h, eo, S, p.bind fun x h1 O1 v H1 _ s1 S1 r1 p1 => ⟨O1, env, h1, eo.stp s1, S1, p1.bind fun ds h2 O2 vs H2 _ s2 S2 r2 p2 => p2.here S2 (.cons (r1.stp s2) r2)⟩⟩
theorem sE_tup {x1 : Nat} (hl : ∀ env h ds h', fs env h = .ok ds h' → ds.length ≤ 1000) (ha : PA X es (tA X W fs)) : PE X (.Tuple es x1 pos) (tE X W fun env h => (fs env h).bind fun ds h => .ok (.tup ds) h) :=
  PE.weak (pe_tup ha) fun sg H Q ⟨O, env, h, eo, S, p⟩ => ⟨O, env, h, eo, S, p.bind fun ds h1 O1 vs H1 er s1 S1 r1 p1 => by
    have z : vs.length ≤ sizeLine := by rw [← r1.length, ← LINE_eq]; exact Nat.le_trans (hl _ _ _ _ er) (by decide)
    exact ⟨z, fun q hq => p1.new S1 hq _ (frz_tup S1 hq z r1)⟩⟩
/-- a list that was just made at q, as a value or as a changing object -/
theorem mk_ok {sg : L2.St} {O : Om} {H : Hp} {h : Hs} {m : Bool} {ds : List D} {vs : List V} {Q : VK} (S : SR X.K X.mg O h H) (r : RepLX X O ds vs) (z : vs.length ≤ sizeLine) (p : Post X W sg O H (mkL m ds h) (RepX X) Q) {q : Addr} (hq : H q = none) : Q (.ref q) (upd H q (.lst vs)) := by
  cases m with
  | false => exact Post.new (show Post X W sg O H (.ok (.lst ds) h) (RepX X) Q from p) S hq _ (frz_lst S hq z r)
  | true =>
    have p' : Post X W sg O H (.ok (.ptr h.length) (h ++ [.lst ds])) (RepX X) Q := p
    obtain ⟨s2, S2⟩ := S.newC (H' := upd H q (.lst vs)) (p := q) (c := .lst ds) hq (fun a ob e => by rw [upd_ne (ne_of_none e hq)]; exact e) ⟨_, upd_same⟩ ⟨vs, upd_same, z, r.more⟩
    refine p' _ _ _ s2 S2 ?_
    have y : RepX X (O.more q) (.ptr O.n) (.ref ((O.more q).φ O.n)) := .ptr (Nat.lt_succ_self _)
    rw [Om.more_new] at y
    rw [S.len]
    exact y
theorem sE_lst {m : Bool} (hl : ∀ env h ds h', fs env h = .ok ds h' → ds.length ≤ 1000) (ha : PA X es (tA X W fs)) : PE X (.List es pos) (tE X W fun env h => (fs env h).bind fun ds h => mkL m ds h) :=
  PE.weak (pe_lst ha) fun sg H Q ⟨O, env, h, eo, S, p⟩ => ⟨O, env, h, eo, S, p.bind fun ds h1 O1 vs H1 er s1 S1 r1 p1 => by
    have z : vs.length ≤ sizeLine := by rw [← r1.length, ← LINE_eq]; exact Nat.le_trans (hl _ _ _ _ er) (by decide)
    exact ⟨z, fun q hq => mk_ok S1 r1 z p1 hq⟩⟩
theorem sE_bin {op : Bop} (ha : PE X a (tE X W fa)) (hb : PE X b (tE X W fb)) : PE X (.BinOp a (opOf op) b pos) (tE X W fun env h => (fa env h).bind fun x h => (fb env h).bind fun y h => binA h op x y) :=
  PE.weak (pe_op (op_all op) ha hb) fun sg H Q ⟨O, env, h, eo, S, p⟩ => ⟨O, env, h, eo, S, p.bind fun x h1 O1 v H1 _ s1 S1 r1 p1 => ⟨O1, env, h1, eo.stp s1, S1, p1.bind fun y h2 O2 u H2 _ s2 S2 r2 p2 => bin_ok S2 (r1.stp s2) r2 p2⟩⟩
theorem sE_neg (ha : PE X a (tE X W fa)) : PE X (.UnaryOp .USub a pos) (tE X W fun env h => (fa env h).bind fun x h => match x with
      | .int i => .ok (.int (-i)) h
      | _ => .no) :=
  PE.weak (pe_un un_neg ha) fun sg H Q ⟨O, env, h, eo, S, p⟩ => ⟨O, env, h, eo, S, p.bind fun x h1 O1 v H1 _ s1 S1 r1 p1 => by
    cases x with
    | int i => rw [r1.int_inv]; exact ⟨i, rfl, p1.here S1 (.int _)⟩
    | _ => exact (show False from p1).elim⟩
theorem sE_cmp {k : Nat} (hr : Room k X.A) {op : Cop} (hm : setless b = true) (ha : PE X a (tE X W fa)) (hb : PE X b (tE X W fb)) : PE X (.Compare a [cpOf op] [b] pos) (tE X W fun env h => (fa env h).bind fun x h => (fb env h).bind fun y h => .of ((cmpD h op x y).map .bl) h) :=
  PE.weak (pe_cmpR (cmp_all hr op) ha hb (behind_plain hm _)) fun sg H Q ⟨O, env, h, eo, S, p⟩ => ⟨O, env, h, eo, S, p.bind fun x h1 O1 v H1 _ s1 S1 r1 p1 => ⟨O1, env, h1, eo.stp s1, S1, p1.bind fun y h2 O2 u H2 _ s2 S2 r2 p2 => by
    obtain ⟨d, e, q⟩ := p2.of S2
    simp only [Option.map_eq_some_iff] at e
    obtain ⟨t, e, rfl⟩ := e
    exact cmp_ok S2 (r1.stp s2) r2 e (q _ (.bl t))⟩⟩
theorem tru_of {O : Om} {H : Hp} {h : Hs} (S : SR X.K X.mg O h H) {d : D} {v : V} (r : RepX X O d v) {k : Bool} (e : truth h d = some k) : TruV X.K v H k := by
  have LE := LINE_eq
  cases r with
  | non => cases e; rfl
  | bl t => cases e; rfl
  | int i => cases e; rfl
  | str z =>
    simp only [truth] at e
    split at e
    · cases e; exact ⟨by omega, rfl⟩
    · cases e
  | tup q z t => cases e; exact .inr (.inl ⟨_, SqT.of (S.sub _ _ q), by cases t <;> rfl⟩)
  | lst q z t => cases e; exact .inl ⟨_, SqL.of (S.sub _ _ q), by cases t <;> rfl⟩
  | ksl q z t => cases e; exact .inl ⟨_, sqL_up S.sub q, by cases t <;> rfl⟩
  | kst q z t => cases e; exact .inr (.inl ⟨_, sqT_up S.sub q, by cases t <;> rfl⟩)
  | ptr q =>
    simp only [truth] at e
    split at e
    · rename_i xs hn
      cases e
      obtain ⟨vs, hv, z, t⟩ := S.cell _ _ hn
      exact .inl ⟨_, SqL.of hv, by cases t <;> rfl⟩
    · rename_i kvs hn
      cases e
      obtain ⟨ws, hv, t⟩ := S.cell _ _ hn
      exact .inr (.inr ⟨_, hv, by cases t <;> rfl⟩)
    · cases e
  | glo => cases e
theorem sE_one {op : PySem.BoolOp} (ha : PE X a (tE X W fa)) : PE X (.BoolOp op [a] pos) (tE X W fa) := pe_one ha
theorem sE_and {rest : List Expr} (ha : PE X a (tE X W fa)) (hb : PE X (.BoolOp .And (b :: rest) pos) (tE X W fb)) : PE X (.BoolOp .And (a :: b :: rest) pos) (tE X W fun env h => (fa env h).bind fun x h => (Res.of (truth h x) h).bind fun k h => if k then fb env h else .ok x h) :=
  PE.weak (pe_andT ha hb) fun sg H Q ⟨O, env, h, eo, S, p⟩ => ⟨O, env, h, eo, S, p.bind fun x h1 O1 v H1 _ s1 S1 r1 p1 => by
    obtain ⟨k, e, q⟩ := p1.ofb
    refine ⟨k, tru_of S1 r1 e, ?_⟩
    cases k with
    | true => rw [if_pos rfl] at q ⊢; exact ⟨O1, env, h1, eo.stp s1, S1, q⟩
    | false => rw [if_neg (by decide)] at q ⊢; exact q.here S1 r1⟩
theorem sE_or {rest : List Expr} (ha : PE X a (tE X W fa)) (hb : PE X (.BoolOp .Or (b :: rest) pos) (tE X W fb)) : PE X (.BoolOp .Or (a :: b :: rest) pos) (tE X W fun env h => (fa env h).bind fun x h => (Res.of (truth h x) h).bind fun k h => if k then .ok x h else fb env h) :=
  PE.weak (pe_orT ha hb) fun sg H Q ⟨O, env, h, eo, S, p⟩ => ⟨O, env, h, eo, S, p.bind fun x h1 O1 v H1 _ s1 S1 r1 p1 => by
    obtain ⟨k, e, q⟩ := p1.ofb
    refine ⟨k, tru_of S1 r1 e, ?_⟩
    cases k with
    | false => rw [if_neg (by decide)] at q ⊢; exact ⟨O1, env, h1, eo.stp s1, S1, q⟩
    | true => rw [if_pos rfl] at q ⊢; exact q.here S1 r1⟩
theorem sE_not (ha : PE X a (tE X W fa)) : PE X (.UnaryOp .Not a pos) (tE X W fun env h => (fa env h).bind fun x h => .of ((truth h x).map fun k => .bl (!k)) h) :=
  PE.weak (pe_notT ha) fun sg H Q ⟨O, env, h, eo, S, p⟩ => ⟨O, env, h, eo, S, p.bind fun x h1 O1 v H1 _ s1 S1 r1 p1 => by
    obtain ⟨d, e, q⟩ := p1.of S1
    simp only [Option.map_eq_some_iff] at e
    obtain ⟨k, e, rfl⟩ := e
    exact ⟨k, tru_of S1 r1 e, q _ (.bl _)⟩⟩
theorem sE_ife (hc : PT X c (tT X W ft)) (ha : PE X a (tE X W fa)) (hb : PE X b (tE X W fb)) : PE X (.IfExp c a b pos) (tE X W fun env h => (ft env h).bind fun k h => if k then fa env h else fb env h) :=
  PE.weak (pe_ifExp hc ha hb) fun sg H Q ⟨O, env, h, eo, S, p⟩ => ⟨O, env, h, eo, S, p.bind fun k h1 O1 v H1 _ s1 S1 r1 p1 => by
    cases (show k = v from r1)
    cases k with
    | false => rw [if_neg (by decide)] at p1 ⊢; exact ⟨O1, env, h1, eo.stp s1, S1, p1⟩
    | true => rw [if_pos rfl] at p1 ⊢; exact ⟨O1, env, h1, eo.stp s1, S1, p1⟩⟩
/-! ### tests -/
theorem sT_val (hp : plainT e = true) (ha : PE X e (tE X W fa)) : PT X e (tT X W fun env h => (fa env h).bind fun x h => .of (truth h x) h) :=
  PT.weak (pt_truth ha (plain_true hp X.env)) fun sg H Q ⟨O, env, h, eo, S, p⟩ => ⟨O, env, h, eo, S, p.bind fun x h1 O1 v H1 _ s1 S1 r1 p1 => by
    obtain ⟨k, e, q⟩ := p1.of S1
    exact ⟨k, tru_of S1 r1 e, q k rfl⟩⟩
theorem sT_not (ha : PT X a (tT X W ft)) : PT X (.UnaryOp .Not a pos) (tT X W fun env h => (ft env h).bind fun k h => .ok (!k) h) :=
  PT.weak (pt_not ha) fun sg H Q ⟨O, env, h, eo, S, p⟩ => ⟨O, env, h, eo, S, p.bind fun k h1 O1 v H1 _ s1 S1 r1 p1 => by
    cases (show k = v from r1)
    exact p1.here S1 rfl⟩
theorem sT_cmp {k : Nat} (hr : Room k X.A) {op : Cop} (hm : setless b = true) (ha : PE X a (tE X W fa)) (hb : PE X b (tE X W fb)) :
    PT X (.Compare a [cpOf op] [b] pos) (tT X W fun env h => ((fa env h).bind fun x h => (fb env h).bind fun y h => Res.of ((cmpD h op x y).map .bl) h).bind fun x h => .of (truth h x) h) :=
  PT.weak (pt_cmpR (cmp_all hr op) ha hb (behind_plain hm _)) fun sg H Q ⟨O, env, h, eo, S, p⟩ => ⟨O, env, h, eo, S, by
    have p0 : Post X W sg O H (((fa env h).bind fun x h => (fb env h).bind fun y h => Res.of ((cmpD h op x y).map .bl) h).bind fun x h => .of (truth h x) h) RepB Q := p
    rw [Res.bind_assoc] at p0
    refine p0.bind fun x h1 O1 v H1 _ s1 S1 r1 p1 => ⟨O1, env, h1, eo.stp s1, S1, ?_⟩
    rw [Res.bind_assoc] at p1
    refine p1.bind fun y h2 O2 u H2 _ s2 S2 r2 p2 => ?_
    obtain ⟨d, e, q⟩ := p2.ofb
    simp only [Option.map_eq_some_iff] at e
    obtain ⟨t, e, rfl⟩ := e
    exact cmp_ok S2 (r1.stp s2) r2 e ⟨t, rfl, Post.here (show Post X W sg O2 H2 (.ok t h2) RepB Q from q) S2 rfl⟩⟩
theorem sW_and1 (ha : PT X a (tT X W ft)) : PW X (.BoolOp .And [a] pos) (tT X W ft) := pw_and1 ha
theorem sW_or1 (ha : PT X a (tT X W ft)) : PW X (.BoolOp .Or [a] pos) (tT X W ft) := pw_or1 ha
theorem sW_and {rest : List Expr} {fu : Nv → Hs → Res Bool} (ha : PT X a (tT X W ft)) (hb : PW X (.BoolOp .And (b :: rest) pos) (tT X W fu)) : PW X (.BoolOp .And (a :: b :: rest) pos) (tT X W fun env h => (ft env h).bind fun k h => if k then fu env h else .ok false h) :=
  PW.weak (pw_and ha hb) fun sg H Q ⟨O, env, h, eo, S, p⟩ => ⟨O, env, h, eo, S, p.bind fun k h1 O1 v H1 _ s1 S1 r1 p1 => by
    cases (show k = v from r1)
    cases k with
    | true => rw [if_pos rfl] at p1 ⊢; exact ⟨O1, env, h1, eo.stp s1, S1, p1⟩
    | false => rw [if_neg (by decide)] at p1 ⊢; exact p1.here S1 rfl⟩
theorem sW_or {rest : List Expr} {fu : Nv → Hs → Res Bool} (ha : PT X a (tT X W ft)) (hb : PW X (.BoolOp .Or (b :: rest) pos) (tT X W fu)) : PW X (.BoolOp .Or (a :: b :: rest) pos) (tT X W fun env h => (ft env h).bind fun k h => if k then .ok true h else fu env h) :=
  PW.weak (pw_or ha hb) fun sg H Q ⟨O, env, h, eo, S, p⟩ => ⟨O, env, h, eo, S, p.bind fun k h1 O1 v H1 _ s1 S1 r1 p1 => by
    cases (show k = v from r1)
    cases k with
    | false => rw [if_neg (by decide)] at p1 ⊢; exact ⟨O1, env, h1, eo.stp s1, S1, p1⟩
    | true => rw [if_pos rfl] at p1 ⊢; exact p1.here S1 rfl⟩
/-- a < b < c -/
theorem sE_chain {k : Nat} (hr : Room k X.A) {op op' : Cop} (ha : PE X a (tE X W fa)) (hb : PE X b (tE X W fb)) (hc : PE X c (tE X W fc)) (hbm : setless b = true) (hcm : setless c = true) :
    PE X (.Compare a [cpOf op, cpOf op'] [b, c] pos) (tE X W fun env h => (fa env h).bind fun x h => (fb env h).bind fun y h => (Res.of (cmpD h op x y) h).bind fun k h => if k then (fc env h).bind fun z h => .of ((cmpD h op' y z).map .bl) h else .ok (.bl false) h) :=
  PE.weak (pe_chain (cmp_all hr op) (cmp_all hr op') ha hb hc (behind_plain hcm _)) fun sg H Q ⟨O, env, h, eo, S, p⟩ => ⟨O, env, h, eo, S, p.bind fun x h1 O1 v H1 _ s1 S1 r1 p1 => ⟨O1, env, h1, eo.stp s1, S1, p1.bind fun y h2 O2 u H2 _ s2 S2 r2 p2 => by
    obtain ⟨t, e, q⟩ := p2.ofb
    refine cmp_ok S2 (r1.stp s2) r2 e ⟨t, rfl, ?_⟩
    cases t with
    | true =>
      rw [if_pos rfl] at q ⊢
      refine ⟨O2, env, h2, (eo.stp s1).stp s2, S2, q.bind fun z h3 O3 w H3 _ s3 S3 r3 p3 => ?_⟩
      obtain ⟨d, e3, q3⟩ := p3.of S3
      simp only [Option.map_eq_some_iff] at e3
      obtain ⟨t3, e3, rfl⟩ := e3
      exact cmp_ok S3 (r2.stp s3) r3 e3 (q3 _ (.bl t3))
    | false => rw [if_neg (by decide)] at q ⊢; exact q.here S2 (.bl false)⟩⟩
end
end SI
end
section
set_option Elab.async false
set_option linter.all false
set_option maxRecDepth 100000
set_option maxHeartbeats 4000000
/-! SI9: calls, fields, methods. -/
namespace SI
open PySem PySem.Spec PyProof.Rows L2

/-- what a body's walk may lean on -/
structure XOk (X : Cx) (W : WX) (G : Wr) (k : Nat) (T : Tab) : Prop where
  room : Room k X.A
  grd : X.A.guards = some []
  tk : Takes X W
  wf : Wf X G k T
  nd : X.N.Nodup
  calm : X.calm = true
section
variable {X : Cx} {W : WX} {G : Wr} {k : Nat} {T : Tab} {a b c e o i : Expr} {es : List Expr} {p pos apos : Pos} {fa fb fc : Nv → Hs → Res D} {fs : Nv → Hs → Res (List D)} {ft : Nv → Hs → Res Bool} {x m : Str}
theorem Post.ne {α β : Type} {sg : L2.St} {O : Om} {H : Hp} {r : Res α} {rep : Om → α → β → Prop} {Q : β → Hp → Prop} (p : Post X W sg O H r rep Q) : r ≠ .no := fun e => by rw [e] at p; exact p
theorem Post.sp {sg : L2.St} {O : Om} {H : Hp} {g : List D → Hs → Res D} {ds : List D} {vs : List V} {h : Hs} {n : Nat} {Q : VK} (p : Post X W sg O H (g ds h) (RepX X) Q) (hn : vs.length = n) (r : RepLX X O ds vs) (S : SR X.K X.mg O h H) :
    spF X.K X.mg n g vs H Q fun c d H' => W c d sg H' := by
  refine ⟨hn, O, ds, h, r, S, ?_⟩
  unfold Post at p
  split <;> rename_i e <;> rw [e] at p <;> exact p
/-- f(..) -/
theorem sE_call (c : XOk X W G k T) (hx : x ∈ T.fns) (hg : Gl X x) (hdb : (x == ("__debug__" : Str)) = false) (hs : es.all starless = true) (ha : PA X es (tA X W fs)) (h0 : es = [] → fs = fun _ h => .ok [] h) :
    PE X (.Call (.Name x p) es [] pos) (tE X W fun env h => (fs env h).bind fun ds h => G.call x ds h) := ⟨fun pn s sg H Q I ⟨O, env, h, eo, S, w⟩ => by
  obtain ⟨f, hm, hk⟩ := c.wf.glo x hx
  refine wpAny_Call_Name_kw (ld_glob I hg hm ?_ hdb)
  refine with_args (first := []) (R := fun vs H1 => ∃ O1 ds h1, RepLX X O1 ds vs ∧ SR X.K X.mg O1 h1 H1 ∧ Post X W sg O1 H1 (G.call x ds h1) (RepX X) Q) hk ha hs I
    ⟨O, env, h, eo, S, w.bind fun ds h1 O1 vs H1 _ s1 S1 r1 p1 => ⟨O1, ds, h1, r1, S1, p1⟩⟩ (fun e0 => ?_) fun us vs H1 s1 I1 r1 ⟨O1, ds, h1, rl, S1, p1⟩ => ?_
  · rw [h0 e0] at w
    exact ⟨O, [], h, .nil, S, w⟩
  · obtain ⟨f', fd, ps, hm', hb, hl, F⟩ := c.wf.call x ds h1 p1.ne
    rw [hm] at hm'
    cases hm'
    exact run_g F c.room c.grd hb c.tk I1 r1 (p1.sp (by rw [hl]; exact rl.length.symm) rl S1)⟩
theorem SR.newI {O : Om} {h : Hs} {H : Hp} (S : SR X.K X.mg O h H) {x dx cl : Addr} {C : Str} (hx : H x = none) (hdx : H dx = none) (ne : dx ≠ x) (hm : X.mg C = some (.ref cl)) :
    Stp O H (O.more x) (upd (upd H dx (.own x)) x (.ins cl dx [])) ∧ SR X.K X.mg (O.more x) (h ++ [.ins C []]) (upd (upd H dx (.own x)) x (.ins cl dx [])) :=
  S.newC hx (fun a ob e => by
    rw [upd_ne (ne_of_none e hx), upd_ne (ne_of_none e hdx)]; exact e) ⟨_, upd_same⟩ ⟨cl, dx, [], hm, upd_same, .nil⟩
/-- C(..) -/
theorem sE_make (c : XOk X W G k T) (hx : x ∈ T.cls) (hg : Gl X x) (hdb : (x == ("__debug__" : Str)) = false) (hs : es.all starless = true) (ha : PA X es (tA X W fs)) (h0 : es = [] → fs = fun _ h => .ok [] h) :
    PE X (.Call (.Name x p) es [] pos) (tE X W fun env h => (fs env h).bind fun ds h => G.make x ds h) := ⟨fun pn s sg H Q I ⟨O, env, h, eo, S, w⟩ => by
  obtain ⟨cl, hm, hk, _⟩ := c.wf.clg x hx
  refine wpAny_Call_Name_kw (ld_glob I hg hm ?_ hdb)
  refine with_args (first := []) (R := fun vs H1 => ∃ O1 ds h1, RepLX X O1 ds vs ∧ SR X.K X.mg O1 h1 H1 ∧ Post X W sg O1 H1 (G.make x ds h1) (RepX X) Q) hk ha hs I
    ⟨O, env, h, eo, S, w.bind fun ds h1 O1 vs H1 _ s1 S1 r1 p1 => ⟨O1, ds, h1, r1, S1, p1⟩⟩ (fun e0 => ?_) fun us vs H1 s1 I1 r1 ⟨O1, ds, h1, rl, S1, p1⟩ => ?_
  · rw [h0 e0] at w
    exact ⟨O, [], h, .nil, S, w⟩
  · obtain ⟨c', f, fd, ps, j, g, hm', M, hb, hl, hj, F, eg⟩ := c.wf.make x ds h1 p1.ne
    rw [hm] at hm'
    cases hm'
    rw [eg] at p1
    refine run_gm M F (c.room.mono hj) c.grd hb c.tk I1 r1 fun y dx hy hdx ne => ?_
    obtain ⟨s2, S2⟩ := S1.newI hy hdx ne hm
    have rp : RepX X (O1.more y) (.ptr h1.length) (.ref y) := by
      have z : RepX X (O1.more y) (.ptr O1.n) (.ref ((O1.more y).φ O1.n)) := .ptr (Nat.lt_succ_self _)
      rw [Om.more_new] at z
      rw [S1.len]; exact z
    have p2 := Post.weak p1 s2
    refine Post.sp (g := g) (p2.bind (rep := RepX X) (Q' := fun v H2 => v = .non ∧ Q (.ref y) H2) fun d h3 O3 v H3 _ s3 S3 r3 p3 => ?_) (by rw [hl, List.length_cons, rl.length]) (.cons rp rl.more) S2
    cases d with
    | non => exact ⟨r3.non_inv, p3.here S3 (rp.stp s3)⟩
    | _ => exact (show False from p3).elim⟩
theorem Meth.uniq {K : PySem.W.Frag} {C : Addr} {m : Str} {f g : Addr} (a : Meth K C m f) (b : Meth K C m g) : f = g := by
  have z := a.at_.symm.trans b.at_
  simpa using z
theorem Meth.mem {ds : List D} {h : Hs} {f cl : Addr} {C : Str} (wf : Wf X G k T) (hm : X.mg C = some (.ref cl)) (M : Meth X.K cl m f) (ne : G.meth C m ds h ≠ .no) :
    ∃ fd ps, Binds X.K fd ps [] ∧ ps.length = ds.length ∧ FnG X.prog X.w X.K X.mg X.base k f fd ps (spF X.K X.mg ps.length (G.meth C m)) := by
  obtain ⟨c', f', fd, ps, hm', M', hb, hl, F⟩ := wf.meth C m ds h ne
  rw [hm] at hm'
  cases hm'
  obtain rfl : f = f' := Meth.uniq M M'
  exact ⟨fd, ps, hb, hl, F⟩
theorem RepP.lookN {O : Om} {f : Str} : ∀ {ds : List (Str × D)} {ws : List (Str × V)}, RepP X.K X.mg O ds ws → (ds.lookup f).isNone = true → ws.lookup f = none
  | _, _, .nil, _ => rfl
  | _, _, .cons (k := k) r t, e => by
    simp only [List.lookup_cons] at e ⊢
    split at e
    · cases e
    · exact RepP.lookN t e
/-- o.m(..) -/
theorem sE_meth (c : XOk X W G k T) (hl : es.length < 30) (ho : superless o = true) (hp : (apos.endLine == pos.line) = true) (hs : es.all starless = true) (he : PE X o (tE X W fa)) (ha : PA X es (tA X W fs)) (h0 : es = [] → fs = fun _ h => .ok [] h) :
    PE X (.Call (.Attribute o m apos) es [] pos) (tE X W fun env h => (fa env h).bind fun d h => match clsOf G h d m with
      | some C => (fs env h).bind fun ds h => G.meth C m (d :: ds) h
      | none => .no) := ⟨fun pn s sg H Q I ⟨O, env, h, eo, S, w⟩ => by
  obtain ⟨pl, ht⟩ := meth_eq (m := m) (env := X.env) hs hl ho hp
  refine PySem.W.methodCall_KW (pl := pl) (thn (he.run pn s sg H (fun v H1 => ∃ O1 d h1, RepX X O1 d v ∧ SR X.K X.mg O1 h1 H1 ∧ NvOk X.K X.mg O1 env sg ∧ Post X W sg O1 H1 (match clsOf G h1 d m with
      | some C => (fs env h1).bind fun ds h => G.meth C m (d :: ds) h
      | none => .no) (RepX X) Q) I ⟨O, env, h, eo, S, w.bind fun d h1 O1 v H1 _ s1 S1 r1 p1 => ⟨O1, d, h1, r1, S1, eo.stp s1, p1⟩⟩) fun u s1 ⟨v, H1, I1, rx, O1, d, h1, r1, S1, eo1, p1⟩ => ?_) ht
  cases hc : clsOf G h1 d m with
  | none => rw [hc] at p1; exact (show False from p1).elim
  | some C =>
    rw [hc] at p1
    cases d with
    | ptr n =>
      simp only [clsOf] at hc
      split at hc
      · rename_i C' fl hn
        split at hc
        · rename_i hg
          cases hc
          simp only [Bool.and_eq_true] at hg
          obtain ⟨cl, f, hm, M⟩ := c.wf.mth C m hg.1.2
          obtain ⟨hlt, cl', dx, ws, hm', ha', rp⟩ := S1.at hn
          rw [hm] at hm'
          cases hm'
          have q := (c.wf.cls C hg.1.1 cl hm).1
          cases r1
          obtain rfl : u = Value.ref _ := rx
          have lk : ws.lookup m = none := RepP.lookN rp hg.2
          refine getmeth_ok I1 ha' q.cl M lk ?_
          refine with_args (first := [.ref (O1.φ n)]) (R := fun vs H2 => ∃ O2 ds h2, RepLX X O2 (.ptr n :: ds) (.ref (O1.φ n) :: vs) ∧ SR X.K X.mg O2 h2 H2 ∧ Post X W sg O2 H2 (G.meth C m (.ptr n :: ds) h2) (RepX X) Q) M.kp ha hs I1
            ⟨O1, env, h1, eo1, S1, p1.bind fun ds h2 O2 vs H2 _ s2 S2 r2 p2 => ⟨O2, ds, h2, .cons ((Rep.ptr hlt).stp s2) r2, S2, p2⟩⟩ (fun e0 => ?_) fun us vs H2 s2 I2 r2 ⟨O2, ds, h2, rl, S2, p2⟩ => ?_
          · rw [h0 e0] at p1
            exact ⟨O1, [], h1, .cons (.ptr hlt) .nil, S1, p1⟩
          · obtain ⟨fd, ps, hb, hl', F⟩ := Meth.mem c.wf hm M p2.ne
            exact run_g F c.room c.grd hb c.tk I2 (.cons (show RelV (.ref _) (.ref _) from rfl) r2) (p2.sp (by rw [hl']; exact rl.length.symm) rl S2)
        · cases hc
      · cases hc
    | _ => cases hc⟩
/-- C.m(self, ..) -/
theorem sE_cmeth {C : Str} (c : XOk X W G k T) (hx : (C, m) ∈ T.cms) (hg : Gl X C) (hdb : (C == ("__debug__" : Str)) = false) (hl : es.length < 30) (hp : (apos.endLine == pos.line) = true) (hs : es.all starless = true) (ha : PA X es (tA X W fs)) (h0 : es = [] → fs = fun _ h => .ok [] h) :
    PE X (.Call (.Attribute (.Name C p) m apos) es [] pos) (tE X W fun env h => (fs env h).bind fun ds h => G.meth C m ds h) := ⟨fun pn s sg H Q I ⟨O, env, h, eo, S, w⟩ => by
  obtain ⟨cl, f, hm, hk, M, h1, h2, h3⟩ := c.wf.cms _ hx
  obtain ⟨pl, ht⟩ := meth_eq (o := .Name C p) (m := m) (env := X.env) hs hl rfl hp
  refine PySem.W.methodCall_KW (pl := pl) (ld_glob I hg hm ?_ hdb) ht
  refine PySem.W.method_cls I.kIn h2 (PySem.W.cls_value I.kIn h1 h3 rfl ?_)
  have I0 := I.tok (s.toks + 1)
  refine with_args (first := []) (R := fun vs H1 => ∃ O1 ds h1, RepLX X O1 ds vs ∧ SR X.K X.mg O1 h1 H1 ∧ Post X W sg O1 H1 (G.meth C m ds h1) (RepX X) Q) hk ha hs I0
    ⟨O, env, h, eo, S, w.bind fun ds h1 O1 vs H1 _ s1 S1 r1 p1 => ⟨O1, ds, h1, r1, S1, p1⟩⟩ (fun e0 => ?_) fun us vs H1 s1 I1 r1 ⟨O1, ds, h1, rl, S1, p1⟩ => ?_
  · rw [h0 e0] at w
    exact ⟨O, [], h, .nil, S, w⟩
  · obtain ⟨fd, ps, hb, hl', F⟩ := Meth.mem c.wf hm M p1.ne
    exact run_g F c.room c.grd hb c.tk I1 r1 (p1.sp (by rw [hl']; exact rl.length.symm) rl S1)⟩
theorem RepP.look {O : Om} {f : Str} {d : D} : ∀ {ds : List (Str × D)} {ws : List (Str × V)}, RepP X.K X.mg O ds ws → ds.lookup f = some d → ∃ v, ws.lookup f = some v ∧ RepX X O d v
  | _, _, .nil, e => by cases e
  | _, _, .cons (k := k) r t, e => by
    simp only [List.lookup_cons] at e ⊢
    split at e
    · rename_i he
      cases e
      exact ⟨_, rfl, r⟩
    · exact RepP.look t e
/-- o.f -/
theorem sE_fld {f : Str} (c : XOk X W G k T) (hf : f ∈ T.attrs) (ho : superless o = true) (he : PE X o (tE X W fa)) : PE X (.Attribute o f pos) (tE X W fun env h => (fa env h).bind fun d h => .of (fldD G h d f) h) :=
  PE.weak (pe_fld he (base_plain ho f X.env _)) fun sg H Q ⟨O, env, h, eo, S, w⟩ => ⟨O, env, h, eo, S, w.bind fun d h1 O1 v H1 _ s1 S1 r1 p1 => by
    obtain ⟨z, e, q⟩ := p1.of S1
    cases d with
    | ptr n =>
      simp only [fldD] at e
      split at e
      · rename_i C' fl hn
        split at e
        · rename_i hg
          obtain ⟨hlt, cl, dx, ws, hm, ha, rp⟩ := S1.at hn
          obtain ⟨w1, l, r⟩ := RepP.look rp e
          have k := c.wf.cls C' hg cl hm
          cases r1
          exact ⟨O1.φ n, cl, dx, ws, w1, rfl, ha, k.1.cl, k.2.1 f hf, l, q w1 r⟩
        · cases e
      · cases e
    | _ => cases e⟩
/-! ### index -/
def rIxD : R2 := fun x y H Q => ∃ a v, x = .ref a ∧ DGet H a y (some v) ∧ Q v H
theorem ix_dict (hu : X.A.units + 1 < cLine) : IxR X rIxD := by
  intro value slice pn s sg H x y v u Q I rx ry ⟨a, w, ex, g, q⟩ hs
  subst ex
  obtain rfl : v = Value.ref a := rx
  exact tail_any (dict_typeIs I g) PySem.F.slot_dict_getitem.lookup (d_getItem hu I g ry fun w' s' I' r' => ⟨w, H, I', r', q⟩) hs
theorem atI_ok {O : Om} {xs : List D} {vs : List V} (r : RepLX X O xs vs) {i : Int} {d : D} (e : atI xs i = some d) : ∃ v, atI vs i = some v ∧ RepX X O d v := by
  unfold atI at e ⊢
  rw [← r.length]
  cases q : ixN xs.length i with
  | none => rw [q] at e; cases e
  | some j => rw [q] at e; exact r.get e
theorem sE_ix (c : XOk X W G k T) (hi : sliceless b = true) (ha : PE X a (tE X W fa)) (hb : PE X b (tE X W fb)) : PE X (.Subscript a b pos) (tE X W fun env h => (fa env h).bind fun x h => (fb env h).bind fun y h => .of (ixD h x y) h) :=
  PE.weak (pe_ix ((ix_list.or ix_tup).or (ix_dict (by have := c.room.units; omega))) ha hb (plain_ix hi)) fun sg H Q ⟨O, env, h, eo, S, w⟩ => ⟨O, env, h, eo, S, w.bind fun x h1 O1 v H1 _ s1 S1 r1 p1 => ⟨O1, env, h1, eo.stp s1, S1, p1.bind fun y h2 O2 u H2 _ s2 S2 r2 p2 => by
    obtain ⟨z, e, q⟩ := p2.of S2
    have r1' := r1.stp s2
    have go : ∀ l xs, un h2 x = some (l, xs) → idx y xs = some z → (rIxL X.K v u H2 Q ∨ rIxT X.K v u H2 Q) := fun l xs hu hz => by
      obtain ⟨p, vs, rfl, hq, rl, _⟩ := un_ok S2 r1' hu
      cases y with
      | int j =>
        cases r2.int_inv
        obtain ⟨w', hw, rw'⟩ := atI_ok rl hz
        cases l with
        | true => exact .inl ⟨p, vs, j, w', rfl, rfl, hq, hw, q w' rw'⟩
        | false => exact .inr ⟨p, vs, j, w', rfl, rfl, hq, hw, q w' rw'⟩
      | _ => cases hz
    unfold ixD at e
    split at e
    · rename_i n
      split at e
      · rename_i xs hn
        exact .inl (go true xs (by simp only [un, hn]) e)
      · rename_i _ cell _ hn
        cases hg : dget cell y with
        | none => rw [hg] at e; cases e
        | some o =>
          rw [hg] at e
          obtain rfl : o = some z := e
          obtain ⟨o', g, r⟩ := dget_ok S2 hn r2 hg
          rcases r with ⟨e1, _⟩ | ⟨d, w', e1, e2, r⟩
          · cases e1
          · cases e1
            subst e2
            cases r1'
            exact .inr ⟨_, w', rfl, g, q w' r⟩
      · cases e
    · split at e
      · rename_i l xs hv
        exact .inl (go l xs (valSeq_un hv) e)
      · cases e⟩⟩
/-! ### slices -/
abbrev tO (X : Cx) (W : WX) (f : Nv → Hs → Res (Option Int)) : TO := fun sg H Q => ∃ (O : Om) (env : Nv) (h : Hs), NvOk X.K X.mg O env sg ∧ SR X.K X.mg O h H ∧ Post X W sg O H (f env h) (fun _ (a b : Option Int) => a = b) Q
theorem PO.weak {e : Option Expr} {t t' : TO} (p : PO X e t) (k : ∀ sg H Q, t' sg H Q → t sg H Q) : PO X e t' := ⟨fun pn s sg H Q I w => p.run pn s sg H Q I (k sg H Q w)⟩
theorem sO_none : PO X none (tO X W fun _ h => .ok none h) := PO.weak po_none fun sg H Q ⟨O, env, h, eo, S, w⟩ => w.here S rfl
theorem sO_some (ha : PE X a (tE X W fa)) : PO X (some a) (tO X W fun env h => (fa env h).bind fun d h => match d with
    | .int i => .ok (some i) h
    | _ => .no) := PO.weak (po_some ha) fun sg H Q ⟨O, env, h, eo, S, w⟩ => ⟨O, env, h, eo, S, w.bind fun d h1 O1 v H1 _ s1 S1 r1 p1 => by
  cases d with
  | int i => exact ⟨i, r1.int_inv, p1.here S1 rfl⟩
  | _ => exact (show False from p1).elim⟩
theorem cut_ok {O : Om} {xs : List D} {vs : List V} (r : RepLX X O xs vs) (lo hi : Option Int) : RepLX X O (cutD xs lo hi) (cutV vs lo hi) := by
  unfold cutD cutV
  rw [← r.length]
  exact (r.drop _).take _
theorem sE_sl {lo hi : Option Expr} {fl fh : Nv → Hs → Res (Option Int)} {p2 : Pos} (ha : PE X a (tE X W fa)) (hl : PO X lo (tO X W fl)) (hh : PO X hi (tO X W fh)) :
    PE X (.Subscript a (.Slice lo hi none p2) pos) (tE X W fun env h => (fa env h).bind fun x h => (fl env h).bind fun l h => (fh env h).bind fun u h => .of (slD h x l u) h) :=
  PE.weak (pe_slice (sl_list.or sl_tupA) ha hl hh) fun sg H Q ⟨O, env, h, eo, S, w⟩ => ⟨O, env, h, eo, S, w.bind fun x h1 O1 v H1 _ s1 S1 r1 p1 => ⟨O1, env, h1, eo.stp s1, S1, p1.bind fun l h2 O2 l' H2 _ s2 S2 r2 p2 => ⟨O2, env, h2, (eo.stp s1).stp s2, S2, p2.bind fun u h3 O3 u' H3 _ s3 S3 r3 p3 => by
    cases (show l = l' from r2)
    cases (show u = u' from r3)
    obtain ⟨z, e, q⟩ := p3.of S3
    have r1' := (r1.stp s2).stp s3
    have p3 : Post X W sg O3 H3 (.ok z h3) (RepX X) Q := by
      have t : Post X W sg O3 H3 (Res.of (slD h3 x l u) h3) (RepX X) Q := p3
      rw [e] at t; exact t
    have lst : ∀ xs, un h3 x = some (true, xs) → z = .lst (cutD xs l u) → rSlL X.K v l u H3 Q := fun xs hu hz => by
      subst hz
      obtain ⟨p, vs, rfl, hq, rl, zl⟩ := un_ok S3 r1' hu
      have zc : (cutV vs l u).length ≤ sizeLine := Nat.le_trans (cutV_length vs l u) zl
      exact ⟨p, vs, rfl, hq, fun t ht => p3.new S3 ht _ (frz_lst S3 ht zc (cut_ok rl l u))⟩
    unfold slD at e
    split at e
    · rename_i xs _
      cases e
      obtain ⟨p, vs, rfl, hq, rl, zl⟩ := un_ok (l := false) S3 r1' rfl
      have zc : (cutV vs l u).length ≤ sizeLine := Nat.le_trans (cutV_length vs l u) zl
      refine .inr ⟨p, vs, rfl, hq, fun hw => ?_, fun _ t ht => p3.new S3 ht _ (frz_tup S3 ht zc (cut_ok rl l u))⟩
      have ec : cutD xs l u = xs := by
        unfold cutD
        rw [rl.length, hw.1, hw.2, Nat.sub_zero, List.drop_zero, ← rl.length, List.take_length]
      refine q _ ?_
      rw [ec]; exact r1'
    · split at e
      · rename_i xs hu
        exact .inl (lst xs hu (by simpa using e.symm))
      · cases e⟩⟩⟩
end
end SI
end
section
set_option Elab.async false
set_option linter.all false
set_option maxRecDepth 100000
set_option maxHeartbeats 4000000
/-! SI10: built-ins. -/
namespace SI
open PySem PySem.Spec PyProof.Rows L2

section
variable {X : Cx} {W : WX} {G : Wr} {k : Nat} {T : Tab} {a b e o i : Expr} {es : List Expr} {p pos apos : Pos} {fa fb fc : Nv → Hs → Res D} {fs : Nv → Hs → Res (List D)} {ft : Nv → Hs → Res Bool} {x m : Str}
theorem CallR.weak {f : Value} {r r' : List V → Hp → VK → Prop} (c : CallR X f r) (k : ∀ xs H Q, r' xs H Q → r xs H Q) : CallR X f r' := fun pn s sg H xs us Q I v h => c pn s sg H xs us Q I v (k xs H Q h)
/-- what a built-in's call asks -/
def biR (X : Cx) (W : WX) (f : Bi) : List V → Hp → VK → Prop := fun vs H Q => ∃ (sg : L2.St) (O : Om) (h : Hs) (d : D) (v : V), vs = [v] ∧ SR X.K X.mg O h H ∧ RepX X O d v ∧ Post X W sg O H (Res.of (biD f h d) h) (RepX X) Q
theorem un_list {O : Om} {h : Hs} {H : Hp} (S : SR X.K X.mg O h H) {d : D} {v : V} (r : RepX X O d v) {xs : List D} (e : un h d = some (true, xs)) : ∃ (p : Addr) (vs : List V), v = .ref p ∧ SqL X.K H p vs ∧ RepLX X O xs vs ∧ vs.length ≤ sizeLine := by
  obtain ⟨p, vs, h1, h2, h3, h4⟩ := un_ok S r e
  exact ⟨p, vs, h1, h2, h3, h4⟩
theorem bools_ok {O : Om} : ∀ {ds : List D} {bs : List Bool} {vs : List V}, boolsOf ds = some bs → RepLX X O ds vs → vs = bs.map V.bl
  | [], _, _, e, .nil => by cases e; rfl
  | .bl b :: ds, _, _, e, .cons r t => by
    simp only [boolsOf, Option.map_eq_some_iff] at e
    obtain ⟨bs, e, rfl⟩ := e
    rw [r.bl_inv, bools_ok e t]; rfl
  | .non :: _, _, _, e, _ => by cases e
  | .int _ :: _, _, _, e, _ => by cases e
  | .str _ :: _, _, _, e, _ => by cases e
  | .tup _ :: _, _, _, e, _ => by cases e
  | .lst _ :: _, _, _, e, _ => by cases e
  | .ks _ _ :: _, _, _, e, _ => by cases e
  | .ptr _ :: _, _, _, e, _ => by cases e
  | .glo _ :: _, _, _, e, _ => by cases e
theorem call_lenK : CallR X (.builtin "len") (fun xs H Q => ∃ a kvs, xs = [V.ref a] ∧ H a = some (.dK kvs) ∧ Q (.int kvs.length) H) := fun pn s sg H xs us Q I r ⟨a, kvs, e1, ha, q⟩ => by
  subst e1
  obtain ⟨u, rfl, ru⟩ := vals1 r
  obtain rfl : u = Value.ref a := ru
  exact d_len I (Rd.of ha) fun t s' I' => ⟨.int kvs.length, H, I', ⟨t, rfl⟩, q⟩
theorem bi_len : CallR X (.builtin "len") (biR X W .len) := CallR.weak (CallR.or call_len call_lenK) fun xs H Q ⟨sg, O, h, d, v, e, S, r, w⟩ => by
  subst e
  obtain ⟨z, e, q⟩ := w.of S
  have e : lenD h d = some z := e
  have LE := LINE_eq
  have seq : ∀ l ys, un h d = some (l, ys) → z = .int ys.length → ∃ x n, [v] = [x] ∧ LenV X.K x H n ∧ Q (.int n) H := fun l ys hu hz => by
    obtain ⟨p, vs, rfl, hq, rl, _⟩ := un_ok S r hu
    refine ⟨.ref p, vs.length, rfl, ?_, by rw [← rl.length]; exact q _ (by rw [hz]; exact .int _)⟩
    cases l with
    | true => exact .inl ⟨vs, hq, rfl⟩
    | false => exact .inr ⟨vs, hq, rfl⟩
  unfold lenD at e
  split at e
  · rename_i y _
    split at e
    · rename_i hy
      cases e
      rw [r.str_inv]
      exact .inl ⟨.str y, y.length, rfl, ⟨by omega, rfl⟩, q _ (.int _)⟩
    · cases e
  · rename_i n
    split at e
    · rename_i ys hn
      cases e
      exact .inl (seq true ys (by simp only [un, hn]) rfl)
    · rename_i kvs hn
      cases e
      obtain ⟨ws, hw, rp⟩ := S.cell _ _ hn
      cases r
      exact .inr ⟨_, ws, rfl, hw, q _ (by rw [rp.len]; exact .int _)⟩
    · cases e
  · split at e
    · rename_i l ys hv
      cases e
      exact .inl (seq l ys (valSeq_un hv) rfl)
    · cases e
theorem bi_all (hc : X.calm = true) : CallR X (.builtin "all") (biR X W .all) := CallR.weak (cr_all hc) fun xs H Q ⟨sg, O, h, d, v, e, S, r, w⟩ => by
  obtain ⟨z, e2, q⟩ := w.of S
  have e2 : (match un h d with
    | some (true, xs) => (boolsOf xs).map fun bs => D.bl (bs.all id)
    | _ => none) = some z := e2
  split at e2
  · rename_i ys hu
    simp only [Option.map_eq_some_iff] at e2
    obtain ⟨bs, eb, rfl⟩ := e2
    obtain ⟨p, vs, rfl, hq, rl, _⟩ := un_list S r hu
    rw [bools_ok eb rl] at hq
    exact ⟨p, bs, e, hq, q _ (.bl _)⟩
  · cases e2
theorem bi_any (hc : X.calm = true) : CallR X (.builtin "any") (biR X W .any) := CallR.weak (cr_any hc) fun xs H Q ⟨sg, O, h, d, v, e, S, r, w⟩ => by
  obtain ⟨z, e2, q⟩ := w.of S
  have e2 : (match un h d with
    | some (true, xs) => (boolsOf xs).map fun bs => D.bl (bs.any id)
    | _ => none) = some z := e2
  split at e2
  · rename_i ys hu
    simp only [Option.map_eq_some_iff] at e2
    obtain ⟨bs, eb, rfl⟩ := e2
    obtain ⟨p, vs, rfl, hq, rl, _⟩ := un_list S r hu
    rw [bools_ok eb rl] at hq
    exact ⟨p, bs, e, hq, q _ (.bl _)⟩
  · cases e2
theorem Post.ofk {sg : L2.St} {O : Om} {H : Hp} {h : Hs} {o : Option D} {z : D} {Q : VK} (w : Post X W sg O H (Res.of o h) (RepX X) Q) (e : o = some z) : Post X W sg O H (.ok z h) (RepX X) Q := by
  rw [e] at w; exact w
theorem bi_list : CallR X (.type "list") (biR X W .list) := CallR.weak call_list_of fun xs H Q ⟨sg, O, h, d, v, e, S, r, w⟩ => by
  obtain ⟨z, e2, q⟩ := w.of S
  have w1 := w.ofk e2
  have e2 : (match un h d with
    | some (_, xs) => some (D.lst xs)
    | _ => none) = some z := e2
  split at e2
  · rename_i l ys hu
    cases e2
    obtain ⟨p, vs, rfl, hq, rl, zl⟩ := un_ok S r hu
    refine ⟨p, vs, e, ?_, fun t ht => w1.new S ht _ (frz_lst S ht zl rl)⟩
    cases l with
    | true => exact .inl hq
    | false => exact .inr hq
  · cases e2
theorem bi_tuple : CallR X (.type "tuple") (biR X W .tuple) := CallR.weak call_tuple_of fun xs H Q ⟨sg, O, h, d, v, e, S, r, w⟩ => by
  obtain ⟨z, e2, q⟩ := w.of S
  have w1 := w.ofk e2
  have e2 : tupD h d = some z := e2
  have same : ∀ ys, un h d = some (false, ys) → z = d → ∃ p ys, xs = [V.ref p] ∧ ((SqL X.K H p ys ∧ ∀ l, H l = none → Q (.ref l) (upd H l (.tup ys))) ∨ (SqT X.K H p ys ∧ Q (.ref p) H)) := fun ys hu hz => by
    obtain ⟨p, vs, rfl, hq, rl, zl⟩ := un_ok S r hu
    exact ⟨p, vs, e, .inr ⟨hq, q _ (by rw [hz]; exact r)⟩⟩
  unfold tupD at e2
  split at e2
  · cases e2; exact same _ rfl rfl
  · cases e2; exact same _ rfl rfl
  · split at e2
    · rename_i ys hu
      cases e2
      obtain ⟨p, vs, rfl, hq, rl, zl⟩ := un_list S r hu
      exact ⟨p, vs, e, .inl ⟨hq, fun t ht => w1.new S ht _ (frz_tup S ht zl rl)⟩⟩
    · cases e2
theorem bi_int : CallR X (.type "int") (biR X W .int) := CallR.weak call_int1 fun xs H Q ⟨sg, O, h, d, v, e, S, r, w⟩ => by
  obtain ⟨z, e2, q⟩ := w.of S
  cases d with
  | int j => cases e2; rw [r.int_inv] at e; exact .inl ⟨j, e, q _ (.int _)⟩
  | bl j => cases e2; rw [r.bl_inv] at e; exact .inr ⟨j, e, q _ (.int _)⟩
  | _ => cases e2
theorem bi_bool : CallR X (.type "bool") (biR X W .bool) := CallR.weak call_bool1 fun xs H Q ⟨sg, O, h, d, v, e, S, r, w⟩ => by
  obtain ⟨z, e2, q⟩ := w.of S
  cases d with
  | int j => cases e2; rw [r.int_inv] at e; exact .inl ⟨j, e, q _ (.bl _)⟩
  | bl j => cases e2; rw [r.bl_inv] at e; exact .inr ⟨j, e, q _ (.bl _)⟩
  | _ => cases e2
theorem bi_abs : CallR X (.builtin "abs") (biR X W .abs) := CallR.weak call_abs fun xs H Q ⟨sg, O, h, d, v, e, S, r, w⟩ => by
  obtain ⟨z, e2, q⟩ := w.of S
  cases d with
  | int j => cases e2; rw [r.int_inv] at e; exact ⟨j, e, q _ (.int _)⟩
  | _ => cases e2
theorem ref_of {O : Om} {d : D} {v : V} (r : RepX X O d v) (h : isPtr d = true) : ∃ p, v = .ref p := by
  cases r <;> first | exact ⟨_, rfl⟩ | cases h
theorem bi_repr (hr : Room k X.A) (hg : X.A.guards = some []) : CallR X (.builtin "repr") (biR X W .repr) := fun pn s sg H xs us Q I rv ⟨sg', O, h, d, v, e, S, r, w⟩ => by
  obtain ⟨z, e2, q⟩ := w.of S
  have LE := LINE_eq
  have e2 : reprD h d = some z := e2
  unfold reprD at e2
  split at e2
  · rename_i y hd
    split at e2
    · rename_i hc
      cases e2
      simp only [Bool.and_eq_true, decide_eq_true_eq, Bool.not_eq_true'] at hc
      subst e
      obtain ⟨u, rfl, ru⟩ := vals1 rv
      obtain ⟨as, rd⟩ := Dp.reads I y v u (deep_ok S hd r) ru
      obtain ⟨p, rfl⟩ := ref_of r hc.1.1.1.1
      obtain rfl : u = Value.ref p := ru
      have un := hr.un
      exact repr_of_reads' rd hc.1.1.1.2 (fun z => by rw [hc.1.1.2] at z; cases z) hg (by omega) (fun b ob eb => eb) (fun h' u tk hk => ⟨.str _, H, I.kept (t' := tk) hk, ⟨_, rfl⟩, q _ (.str _)⟩) (by omega)
    · cases e2
  · cases e2
def nmBi : Bi → Str
  | .len => "len"
  | .all => "all"
  | .any => "any"
  | .tuple => "tuple"
  | .list => "list"
  | .int => "int"
  | .bool => "bool"
  | .repr => "repr"
  | .abs => "abs"
theorem sA_one (hs : starless e = true) (ha : PE X e (tE X W fa)) : PA X [e] (tA X W fun env h => (fa env h).bind fun d h => .ok [d] h) := sA_cons hs ha sA_nil
theorem sE_bi (c : XOk X W G k T) (f : Bi) (hg : Gl X (nmBi f)) (hm : X.mg (nmBi f) = none) (hs : starless e = true) (ha : PE X e (tE X W fa)) :
    PE X (.Call (.Name (nmBi f) p) [e] [] pos) (tE X W fun env h => (fa env h).bind fun d h => .of (biD f h d) h) := by
  have h1 := star_cons (env := X.env) hs []
  have go : ∀ sg H Q, tE X W (fun env h => (fa env h).bind fun d h => .of (biD f h d) h) sg H Q → tCB (biR X W f) (tA X W fun env h => (fa env h).bind fun d h => .ok [d] h) sg H Q := fun sg H Q ⟨O, env, h, eo, S, w⟩ =>
    ⟨O, env, h, eo, S, by
      have w : Post X W sg O H ((fa env h).bind fun d h => .of (biD f h d) h) (RepX X) Q := w
      show Post X W sg O H ((fa env h).bind fun d h => .ok [d] h) (RepLX X) _
      cases q : fa env h with
      | no => rw [q] at w; exact w
      | ex e' h' => rw [q] at w; exact w
      | ok d h1 =>
        rw [q] at w
        intro O1 vs H1 s1 S1 r1
        cases r1 with
        | cons r t => cases t; exact ⟨sg, O1, h1, d, _, rfl, S1, r, Post.weak w s1⟩⟩
  cases f with
  | len => exact PE.weak (pe_callB bi_len hg hm (by decide +kernel) (sA_one hs ha) (by decide) (by decide) h1 rfl) go
  | all => exact PE.weak (pe_callB (bi_all c.calm) hg hm (by decide +kernel) (sA_one hs ha) (by decide) (by decide) h1 rfl) go
  | any => exact PE.weak (pe_callB (bi_any c.calm) hg hm (by decide +kernel) (sA_one hs ha) (by decide) (by decide) h1 rfl) go
  | tuple => exact PE.weak (pe_callTy bi_tuple hg hm (by decide +kernel) (sA_one hs ha) (by decide) (by decide) h1 rfl) go
  | list => exact PE.weak (pe_callTy bi_list hg hm (by decide +kernel) (sA_one hs ha) (by decide) (by decide) h1 rfl) go
  | int => exact PE.weak (pe_callTy bi_int hg hm (by decide +kernel) (sA_one hs ha) (by decide) (by decide) h1 rfl) go
  | bool => exact PE.weak (pe_callTy bi_bool hg hm (by decide +kernel) (sA_one hs ha) (by decide) (by decide) h1 rfl) go
  | repr => exact PE.weak (pe_callB (bi_repr c.room c.grd) hg hm (by decide +kernel) (sA_one hs ha) (by decide) (by decide) h1 rfl) go
  | abs => exact PE.weak (pe_callB bi_abs hg hm (by decide +kernel) (sA_one hs ha) (by decide) (by decide) h1 rfl) go
end
end SI
end
section
set_option Elab.async false
set_option linter.all false
set_option maxRecDepth 100000
set_option maxHeartbeats 4000000
/-! SI11: isinstance, methods, dicts. -/
namespace SI
open PySem PySem.Spec PyProof.Rows L2

section
variable {X : Cx} {W : WX} {G : Wr} {k : Nat} {T : Tab} {a b e o i : Expr} {es : List Expr} {p pos apos : Pos} {fa fb fc : Nv → Hs → Res D} {fs : Nv → Hs → Res (List D)} {ft : Nv → Hs → Res Bool} {x m : Str}
/-- the value of a class's name -/
def TVal (X : Cx) (T : Tab) (t : Sum String Str) (v : V) (u : Value) : Prop := match t with
  | .inl n => v = .ty n ∧ u = .type n ∧ n ∈ bTys
  | .inr C => ∃ c, X.mg C = some (.ref c) ∧ v = .ref c ∧ u = .ref c ∧ C ∈ T.cls
theorem TVal.cls {t : Sum String Str} {v : V} {u : Value} (h : TVal X T t v u) : ClsV v u := by
  cases t with
  | inl n => obtain ⟨rfl, rfl, _⟩ := h; exact .ty n
  | inr C => obtain ⟨c, _, rfl, rfl, _⟩ := h; exact .own c
theorem one_base (wf : Wf X G k T) {B : String} (hB : B ∈ ["NoneType", "bool", "int", "str", "tuple", "list", "dict"]) {t : Sum String Str} {v : V} {u : Value} {r : Bool} (ht : TVal X T t v u)
    (e : (match t with
      | .inl n => kitB B n
      | .inr _ => some false) = some r) : PySem.W.kitOne X.K (.type B) u = some r := by
  cases t with
  | inl n => obtain ⟨_, rfl, _⟩ := ht; exact kit_ty e
  | inr C =>
    obtain ⟨c, hm, _, rfl, hc⟩ := ht
    cases e
    obtain ⟨c', hm', _, h⟩ := wf.clg C hc
    rw [hm] at hm'
    cases hm'
    exact h B hB
theorem sq_ty {H : Hp} {q : Addr} {vs : List V} (h : SqL X.K H q vs) : TyX X.K H (.ref q) (.type "list") := by
  rcases h with (h | ⟨ob, h⟩) | ⟨ob, h⟩
  · exact .base (.lst h)
  · exact .base (.frz h)
  · obtain ⟨_, _, h1, h2, _⟩ := h
    exact .kList h1 h2
theorem sqt_ty {H : Hp} {q : Addr} {vs : List V} (h : SqT X.K H q vs) : TyX X.K H (.ref q) (.type "tuple") := by
  rcases h with (h | ⟨ob, h⟩) | ⟨ob, h⟩
  · exact .base (.tup h)
  · exact .fTuple h
  · obtain ⟨_, _, h1, h2, _⟩ := h
    exact .kTuple h1 h2
theorem isOne_ok (wf : Wf X G k T) {O : Om} {h : Hs} {H : Hp} (S : SR X.K X.mg O h H) {d : D} {v : V} (r : RepX X O d v) {t0 : Sum String Str} {b0 : Bool} (e0 : isOne G h d t0 = some b0) :
    ∃ tv, TyX X.K H v tv ∧ ∀ t w u b, TVal X T t w u → isOne G h d t = some b → PySem.W.kitOne X.K tv u = some b := by
  cases r with
  | non => exact ⟨_, .base .non, fun t w u b ht e => one_base wf (by simp) ht (by cases t <;> exact e)⟩
  | bl z => exact ⟨_, .base (.bl z), fun t w u b ht e => one_base wf (by simp) ht (by cases t <;> exact e)⟩
  | int z => exact ⟨_, .base (.int z), fun t w u b ht e => one_base wf (by simp) ht (by cases t <;> exact e)⟩
  | str z => exact ⟨_, .base (.str z), fun t w u b ht e => one_base wf (by simp) ht (by cases t <;> exact e)⟩
  | tup q z rl => exact ⟨_, .base (.tup (S.sub _ _ q)), fun t w u b ht e => one_base wf (by simp) ht (by cases t <;> exact e)⟩
  | lst q z rl => exact ⟨_, .base (.lst (S.sub _ _ q)), fun t w u b ht e => one_base wf (by simp) ht (by cases t <;> exact e)⟩
  | ksl q z rl => exact ⟨_, sq_ty (sqL_up S.sub q), fun t w u b ht e => one_base wf (B := "list") (by simp) ht (by cases t <;> exact e)⟩
  | kst q z rl => exact ⟨_, sqt_ty (sqT_up S.sub q), fun t w u b ht e => one_base wf (B := "tuple") (by simp) ht (by cases t <;> exact e)⟩
  | @ptr n hn =>
    cases hc : h[n]? with
    | none => simp only [isOne, hc] at e0; cases e0
    | some cell =>
      have co := S.cell n cell hc
      cases cell with
      | lst xs =>
        obtain ⟨vs, hv, _, _⟩ := co
        exact ⟨_, .base (.lst hv), fun t w u b ht e => one_base wf (by simp) ht (by simp only [isOne, hc] at e; cases t <;> exact e)⟩
      | dK xs =>
        obtain ⟨vs, hv, _⟩ := co
        exact ⟨_, .base (.dK hv), fun t w u b ht e => one_base wf (by simp) ht (by simp only [isOne, hc] at e; cases t <;> exact e)⟩
      | dT xs =>
        obtain ⟨vs, hv, _⟩ := co
        exact ⟨_, .base (.dT hv), fun t w u b ht e => one_base wf (by simp) ht (by simp only [isOne, hc] at e; cases t <;> exact e)⟩
      | ins C fs =>
        obtain ⟨cl, dx, ws, hm, hv, _⟩ := co
        have gc : G.cls C = true := by
          simp only [isOne, hc] at e0
          cases t0 with
          | inl n =>
            simp only at e0
            split at e0
            · rename_i hh
              simp only [Bool.and_eq_true] at hh
              exact hh.2
            · cases e0
          | inr n =>
            simp only at e0
            split at e0
            · rename_i hh; exact hh
            · cases e0
        obtain ⟨q, _, kb⟩ := wf.cls C gc cl hm
        refine ⟨_, .base (.ins hv q.cl q.ha q.hn q.ht q.hm), fun t w u b ht e => ?_⟩
        simp only [isOne, hc] at e
        cases t with
        | inl n =>
          obtain ⟨_, rfl, hb⟩ := ht
          simp only at e
          split at e
          · cases e; exact kb n hb
          · cases e
        | inr C2 =>
          obtain ⟨c2, hm2, _, rfl, _⟩ := ht
          simp only [gc, if_true] at e
          exact wf.sub C C2 b e cl c2 hm hm2
      | dead => simp only [isOne, hc] at e0; cases e0
  | glo => cases e0
theorem isAny_ok {h : Hs} {d : D} {tv : Value} {b : Bool} (K1 : ∀ t w u b, TVal X T t w u → isOne G h d t = some b → PySem.W.kitOne X.K tv u = some b) :
    ∀ {ts : List (Sum String Str)} {qs : List (V × Value)}, Paired (fun t (q : V × Value) => TVal X T t q.1 q.2) ts qs → isAny G h d ts = some b → PySem.W.kitAny X.K tv (qs.map (·.2)) = some b
  | [], _, .nil, e => by
    cases e
    exact kitAny_nil
  | t :: ts, _, .cons (b := q) h1 h2, e => by
    unfold isAny at e
    split at e
    · rename_i q1
      cases e
      exact kitAny_cons (K1 t q.1 q.2 true h1 q1) (fun z => by cases z) fun _ => rfl
    · rename_i q1
      exact kitAny_cons (K1 t q.1 q.2 false h1 q1) (fun _ => isAny_ok K1 h2 e) fun z => by cases z
    · cases e
/-- the written name of a class -/
def tName : Sum String Str → Str
  | .inl n => .ofString n
  | .inr C => C
structure TOk (X : Cx) (T : Tab) (t : Sum String Str) : Prop where
  gl : Gl X (tName t)
  ok : match t with
    | .inl n => n ∈ bTys ∧ X.mg (tName t) = none
    | .inr C => C ∈ T.cls ∧ (C == ("__debug__" : Str)) = false
theorem boot_b {n : String} (h : n ∈ bTys) : bootBuiltins (Str.ofString n) = some (.type n) ∧ Str.ofString n ≠ "__name__" ∧ (Str.ofString n == ("__debug__" : Str)) = false := by
  simp only [bTys, List.mem_cons, List.not_mem_nil, or_false] at h
  rcases h with rfl | rfl | rfl | rfl | rfl | rfl <;> exact ⟨by decide +kernel, by decide +kernel, by decide +kernel⟩
theorem sC_name (wf : Wf X G k T) {t : Sum String Str} (h : TOk X T t) : ∃ v u, TVal X T t v u ∧ ∀ pos, PE X (.Name (tName t) pos) (tC v) := by
  cases t with
  | inl n =>
    obtain ⟨h1, h2⟩ := h.ok
    obtain ⟨b1, b2, b3⟩ := boot_b h1
    exact ⟨.ty n, .type n, ⟨rfl, rfl, h1⟩, fun pos => pe_bltn h.gl h2 b1 rfl b2 b3⟩
  | inr C =>
    obtain ⟨h1, h2⟩ := h.ok
    obtain ⟨c, hm, hk, _⟩ := wf.clg C h1
    exact ⟨.ref c, .ref c, ⟨c, hm, rfl, rfl, h1⟩, fun pos => pe_glob h.gl hm rfl h2⟩
/-- isinstance(e, T) -/
theorem sE_isi1 (c : XOk X W G k T) {t : Sum String Str} {p2 : Pos} (ht : TOk X T t) (hg : Gl X "isinstance") (hm : X.mg "isinstance" = none) (hs : starless e = true) (ha : PE X e (tE X W fa)) :
    PE X (.Call (.Name "isinstance" p) [e, .Name (tName t) p2] [] pos) (tE X W fun env h => (fa env h).bind fun d h => .of ((isAny G h d [t]).map .bl) h) := by
  obtain ⟨v, u, tv, pn⟩ := sC_name c.wf ht
  refine PE.weak (pe_callB call_isi hg hm (by decide +kernel) (pa_cons ha (pa_cons (pn p2) pa_nil (by rfl)) (star_cons hs _ _)) (by decide) (by decide) (star_cons hs _ _) (by rfl)) fun sg H Q ⟨O, env, h, eo, S, w⟩ => ⟨O, env, h, eo, S, w.bind fun d h1 O1 y H1 _ s1 S1 r1 p1 => ?_⟩
  obtain ⟨z, e, q⟩ := p1.of S1
  simp only [Option.map_eq_some_iff] at e
  obtain ⟨b, e, rfl⟩ := e
  have e1 : isOne G h1 d t = some b := by
    unfold isAny at e
    split at e
    · rename_i q1; cases e; exact q1
    · rename_i q1; cases e; exact q1
    · cases e
  obtain ⟨ty, ht1, K1⟩ := isOne_ok c.wf S1 r1 e1
  exact ⟨y, v, ty, u, b, rfl, tv.cls, ht1, K1 t v u b tv e1, q _ (.bl b)⟩
/-- the receiver of a method of a list -/
theorem lst_ty {H : Hp} {q : Addr} {vs : List V} (h : H q = some (.lst vs)) : tyV X.K "list" (.ref q) H := .inl ⟨rfl, vs, .of h⟩
theorem meOk_ptr {mm : Me} {h : Hs} {d : D} (e : meOk mm h d = true) : ∃ n c, d = .ptr n ∧ h[n]? = some c ∧ kindC mm c = true := by
  cases d with
  | ptr n =>
    unfold meOk at e
    cases hc : h[n]? with
    | none => simp only [hc] at e; cases e
    | some c => simp only [hc] at e; exact ⟨n, c, rfl, hc, e⟩
  | _ => cases e
theorem meD_inv {sg : L2.St} {O : Om} {H : Hp} {mm : Me} {h : Hs} {n : Nat} {ds : List D} {Q : VK} (w : Post X W sg O H (meD mm h (.ptr n) ds) (RepX X) Q) :
    ∃ c v c', h[n]? = some c ∧ meC mm c ds = some (v, c') ∧ Post X W sg O H (.ok v (h.set n c')) (RepX X) Q := by
  unfold meD at w
  cases hc : h[n]? with
  | none => simp only [hc] at w; exact (show False from w).elim
  | some c =>
    simp only [hc] at w
    cases hm : meC mm c ds with
    | none => simp only [hm] at w; exact (show False from w).elim
    | some q => simp only [hm] at w; exact ⟨c, q.1, q.2, rfl, hm, w⟩
theorem isLst_inv {c : Cell} (h : isLstC c = true) : ∃ xs, c = .lst xs := by cases c <;> first | exact ⟨_, rfl⟩ | cases h
/-- the list's own methods: append, extend -/
theorem sM_list {mm : Me} {r : V → List V → Hp → VK → Prop} {nm : Str} {id : String} (hk0 : ∀ c, kindC mm c = isLstC c) (slot : Slot "list" nm id) (hty : typeOf (.builtin id) = pure (.type "method_descriptor")) (mt : MtM X id r)
    (hr : ∀ (sg : L2.St) (O : Om) (h : Hs) (H : Hp) (n : Nat) (xs ds : List D) (us : List V) (v : D) (c' : Cell) (Q : VK), SR X.K X.mg O h H → h[n]? = some (.lst xs) → RepLX X O ds us → meC mm (.lst xs) ds = some (v, c') → Post X W sg O H (.ok v (h.set n c')) (RepX X) Q → r (.ref (O.φ n)) us H Q)
    (hkd : ∀ c ds v c', meC mm c ds = some (v, c') → isLstC c = true)
    (hb : superless o = true) (hp : (apos.endLine == pos.line) = true) (hs : starless e = true) (ho : PE X o (tE X W fa)) (he : PE X e (tE X W fb)) :
    PE X (.Call (.Attribute o nm apos) [e] [] pos) (tE X W fun env h => (fa env h).bind fun d h => if meOk mm h d then ((fb env h).bind fun y h => Res.ok [y] h).bind fun ds h => meD mm h d ds else .no) := by
  refine PE.weak (pe_bm PySem.F.plainAttrs_list slot hty mt ho (sA_one hs he) (base_plain hb _ X.env _) ?_ hp (star_cons hs _ _) (by rfl)) fun sg H Q ⟨O, env, h, eo, S, w⟩ => ⟨O, env, h, eo, S, w.bind fun d h1 O1 v H1 _ s1 S1 r1 p1 => ?_⟩
  · rw [star_cons hs]; rfl
  by_cases hk : meOk mm h1 d = true
  · rw [if_pos hk] at p1
    obtain ⟨n, cl, rfl, hn, hkc⟩ := meOk_ptr hk
    rw [hk0] at hkc
    obtain ⟨xs0, rfl⟩ := isLst_inv hkc
    obtain ⟨hlt, vs, hv, _, _⟩ := S1.at hn
    cases r1
    refine ⟨lst_ty hv, O1, env, h1, eo.stp s1, S1, p1.bind fun ds h2 O2 us H2 er s2 S2 r2 p2 => ?_⟩
    obtain ⟨c, v, c', hc, hm, p3⟩ := meD_inv p2
    obtain ⟨xs, rfl⟩ := isLst_inv (hkd _ _ _ _ hm)
    rw [← s2.φ n hlt]
    exact hr sg O2 h2 H2 n xs ds us v c' Q S2 hc r2 hm p3
  · rw [if_neg hk] at p1; exact (show False from p1).elim
theorem app_inv {c : Cell} {ds : List D} {v : D} {c' : Cell} (e : appC c ds = some (v, c')) : ∃ xs y, c = .lst xs ∧ ds = [y] ∧ xs.length < LINE ∧ v = .non ∧ c' = .lst (xs ++ [y]) := by
  unfold appC at e
  split at e
  · split at e
    · cases e; exact ⟨_, _, rfl, rfl, by assumption, rfl, rfl⟩
    · cases e
  · cases e
theorem ext_inv {c : Cell} {ds : List D} {v : D} {c' : Cell} (e : extC c ds = some (v, c')) : ∃ xs ys, c = .lst xs ∧ ds = [.lst ys] ∧ xs.length + ys.length ≤ LINE ∧ v = .non ∧ c' = .lst (xs ++ ys) := by
  unfold extC at e
  split at e
  · split at e
    · cases e; exact ⟨_, _, rfl, rfl, by assumption, rfl, rfl⟩
    · cases e
  · cases e
theorem sM_append (hb : superless o = true) (hp : (apos.endLine == pos.line) = true) (hs : starless e = true) (ho : PE X o (tE X W fa)) (he : PE X e (tE X W fb)) :
    PE X (.Call (.Attribute o "append" apos) [e] [] pos) (tE X W fun env h => (fa env h).bind fun d h => if meOk .append h d then ((fb env h).bind fun y h => Res.ok [y] h).bind fun ds h => meD .append h d ds else .no) := by
  refine sM_list (fun _ => rfl) PySem.F.slot_list_append (by rfl) mt_append (fun sg O h H n xs ds us v c' Q S hn rl hm w => ?_) (fun c ds v c' hm => ?_) hb hp hs ho he
  · obtain ⟨xs', y, e1, rfl, hz, rfl, rfl⟩ := app_inv hm
    cases e1
    have LE := LINE_eq
    obtain ⟨hlt, vs, hv, z, rx⟩ := S.at hn
    cases rl with
    | @cons _ u _ _ ry t =>
      cases t
      have z : vs.length < sizeLine := by rw [← rx.length]; omega
      obtain ⟨s3, S3⟩ := S.put (o := .lst (vs ++ [u])) hn (by simp) (c := .lst (xs ++ [y])) ⟨_, upd_same, by rw [List.length_append]; exact z, rx.app (.cons ry .nil)⟩
      exact ⟨_, vs, u, rfl, rfl, hv, z, w _ _ _ s3 S3 .non⟩
  · obtain ⟨_, _, rfl, _⟩ := app_inv hm; rfl
theorem sM_extend (hb : superless o = true) (hp : (apos.endLine == pos.line) = true) (hs : starless e = true) (ho : PE X o (tE X W fa)) (he : PE X e (tE X W fb)) :
    PE X (.Call (.Attribute o "extend" apos) [e] [] pos) (tE X W fun env h => (fa env h).bind fun d h => if meOk .extend h d then ((fb env h).bind fun y h => Res.ok [y] h).bind fun ds h => meD .extend h d ds else .no) := by
  refine sM_list (fun _ => rfl) PySem.F.slot_list_extend (by rfl) mt_extend (fun sg O h H n xs ds us v c' Q S hn rl hm w => ?_) (fun c ds v c' hm => ?_) hb hp hs ho he
  · obtain ⟨xs', ys, e1, rfl, hz, rfl, rfl⟩ := ext_inv hm
    cases e1
    have LE := LINE_eq
    obtain ⟨hlt, vs, hv, z, rx⟩ := S.at hn
    cases rl with
    | @cons _ u _ _ ry t =>
      cases t
      cases ry with
      | @lst q _ ws hq zq rq =>
        have z : vs.length + ws.length ≤ sizeLine := by rw [← rx.length, ← rq.length]; omega
        obtain ⟨s3, S3⟩ := S.put (o := .lst (vs ++ ws)) hn (by simp) (c := .lst (xs ++ ys)) ⟨_, upd_same, by rw [List.length_append]; exact z, rx.app rq⟩
        exact ⟨_, q, vs, ws, rfl, rfl, hv, S.sub _ _ hq, z, w _ _ _ s3 S3 .non⟩
  · obtain ⟨_, _, rfl, _⟩ := ext_inv hm; rfl
end
end SI
end
section
set_option Elab.async false
set_option linter.all false
set_option maxRecDepth 100000
set_option maxHeartbeats 4000000
/-! SI12: dicts, displays, ranges. -/
namespace SI
open PySem PySem.Spec PyProof.Rows L2

section
variable {X : Cx} {W : WX} {G : Wr} {k : Nat} {T : Tab} {a b e o i : Expr} {es : List Expr} {p pos apos : Pos} {fa fb fc : Nv → Hs → Res D} {fs : Nv → Hs → Res (List D)} {ft : Nv → Hs → Res Bool} {x m : Str}
theorem m1_of (hb : superless o = true) (hp : (apos.endLine == pos.line) = true) (hs : starless e = true) : M1 X o m apos e pos :=
  ⟨base_plain hb _ _ _, by rw [star_cons hs]; rfl, hp, by rw [star_cons hs]; rfl⟩
theorem m2_of (hb : superless o = true) (hp : (apos.endLine == pos.line) = true) (hs : starless e = true) (ht : starless i = true) : M2 X o m apos e i pos :=
  ⟨base_plain hb _ _ _, by rw [star_cons hs, star_cons ht]; rfl, hp, by rw [star_cons hs, star_cons ht]; rfl⟩
theorem isDK_inv {c : Cell} (h : isDKC c = true) : ∃ xs, c = .dK xs := by cases c <;> first | exact ⟨_, rfl⟩ | cases h
theorem isDT_inv {c : Cell} (h : isDTC c = true) : ∃ xs, c = .dT xs := by cases c <;> first | exact ⟨_, rfl⟩ | cases h
theorem pop_inv {c : Cell} {ds : List D} {v : D} {c' : Cell} (e : popC c ds = some (v, c')) : ∃ kvs kd x, c = .dK kvs ∧ ds = [kd] ∧ keyOf kd = some x ∧ getK kvs x = some v ∧ c' = .dK (delD kvs x) := by
  unfold popC at e
  split at e
  · split at e
    · rename_i x hx
      split at e
      · rename_i w hw
        cases e; exact ⟨_, _, x, rfl, rfl, hx, hw, rfl⟩
      · cases e
    · cases e
  · cases e
theorem get_inv {c : Cell} {ds : List D} {v : D} {c' : Cell} (e : getC c ds = some (v, c')) : ∃ kd ed o, ds = [kd, ed] ∧ dget c kd = some o ∧ v = o.getD ed ∧ c' = c := by
  unfold getC at e
  split at e
  · split at e
    · rename_i o ho
      cases e; exact ⟨_, _, o, rfl, ho, rfl, rfl⟩
    · cases e
  · cases e
theorem set_same {h : Hs} {n : Nat} {c : Cell} (e : h[n]? = some c) : h.set n c = h := by
  apply List.ext_getElem?
  intro j
  by_cases hj : n = j
  · subst hj
    rw [List.getElem?_set_self (List.getElem?_eq_some_iff.mp e).1, e]
  · rw [List.getElem?_set_ne hj]
/-- d.pop(e) -/
theorem sM_pop (hb : superless o = true) (hp : (apos.endLine == pos.line) = true) (hs : starless e = true) (ho : PE X o (tE X W fa)) (he : PE X e (tE X W fb)) :
    PE X (.Call (.Attribute o "pop" apos) [e] [] pos) (tE X W fun env h => (fa env h).bind fun d h => if meOk .pop1 h d then ((fb env h).bind fun y h => Res.ok [y] h).bind fun ds h => meD .pop1 h d ds else .no) :=
  PE.weak (pe_dpop1 ho he (m1_of hb hp hs)) fun sg H Q ⟨O, env, h, eo, S, w⟩ => ⟨O, env, h, eo, S, w.bind fun d h1 O1 v H1 _ s1 S1 r1 p1 => by
    by_cases hk : meOk .pop1 h1 d = true
    · rw [if_pos hk] at p1
      obtain ⟨n, cl, rfl, hn, hkc⟩ := meOk_ptr hk
      obtain ⟨kvs0, rfl⟩ := isDK_inv hkc
      obtain ⟨hlt, ws0, hv0, _⟩ := S1.at hn
      cases r1
      refine ⟨_, rfl, .inl ⟨ws0, .of hv0⟩, O1, env, h1, eo.stp s1, S1, ?_⟩
      rw [Res.bind_assoc] at p1
      refine p1.bind fun y h2 O2 u H2 er s2 S2 r2 p2 => ?_
      obtain ⟨c, v, c', hc, hm, p3⟩ := meD_inv (ds := [y]) p2
      obtain ⟨kvs, kd, x, rfl, e1, hx, hg, rfl⟩ := pop_inv hm
      cases e1
      obtain ⟨hlt2, ws, hv, rp⟩ := S2.at hc
      rw [← s2.φ n hlt]
      rcases getK_ok rp x with ⟨z, _⟩ | ⟨d', w', z, z2, rv⟩
      · rw [hg] at z; cases z
      · rw [hg] at z; cases z
        obtain ⟨s3, S3⟩ := S2.put (o := .dK (dropK ws x)) hc (by simp) (c := .dK (delD kvs x)) ⟨_, upd_same, delK_ok rp x⟩
        exact ⟨ws, x, w', hv, keyOf_ok hx r2, z2, p3 _ _ _ s3 S3 (rv.stp s3)⟩
    · rw [if_neg hk] at p1; exact (show False from p1).elim⟩
/-- d.get(e, i) -/
theorem sM_get (hr : Room k X.A) (hb : superless o = true) (hp : (apos.endLine == pos.line) = true) (hs : starless e = true) (ht : starless i = true) (ho : PE X o (tE X W fa)) (he : PE X e (tE X W fb)) (hi : PE X i (tE X W fc)) :
    PE X (.Call (.Attribute o "get" apos) [e, i] [] pos) (tE X W fun env h => (fa env h).bind fun d h => if meOk .get2 h d then ((fb env h).bind fun y h => ((fc env h).bind fun z h => Res.ok [z] h).bind fun zs h => Res.ok (y :: zs) h).bind fun ds h => meD .get2 h d ds else .no) :=
  PE.weak (pe_dget2 (by have := hr.units; omega) ho he hi (m2_of hb hp hs ht)) fun sg H Q ⟨O, env, h, eo, S, w⟩ => ⟨O, env, h, eo, S, w.bind fun d h1 O1 v H1 _ s1 S1 r1 p1 => by
    by_cases hk : meOk .get2 h1 d = true
    · rw [if_pos hk] at p1
      obtain ⟨n, cl, rfl, hn, hkc⟩ := meOk_ptr hk
      obtain ⟨hlt, co⟩ := S1.at hn
      have hd : IsD H1 (O1.φ n) := by
        simp only [kindC, Bool.or_eq_true] at hkc
        rcases hkc with q | q
        · obtain ⟨kvs0, rfl⟩ := isDK_inv q
          obtain ⟨ws0, hv0, _⟩ := co
          exact .inl ⟨ws0, .of hv0⟩
        · obtain ⟨kvs0, rfl⟩ := isDT_inv q
          obtain ⟨ws0, hv0, _⟩ := co
          exact .inr ⟨ws0, .of hv0⟩
      cases r1
      refine ⟨_, rfl, hd, O1, env, h1, eo.stp s1, S1, ?_⟩
      rw [Res.bind_assoc] at p1
      refine p1.bind fun y h2 O2 u H2 er s2 S2 r2 p2 => ⟨O2, env, h2, (eo.stp s1).stp s2, S2, ?_⟩
      rw [Res.bind_assoc, Res.bind_assoc] at p2
      refine p2.bind fun z h3 O3 u3 H3 er s3 S3 r3 p3 => ?_
      obtain ⟨c, v, c', hc, hm, p4⟩ := meD_inv (ds := [y, z]) p3
      obtain ⟨kd, ed, o', e1, hg, rfl, rfl⟩ := get_inv (show getC c [y, z] = some (v, c') from hm)
      cases e1
      rw [set_same hc] at p4
      obtain ⟨o2, g, q⟩ := dget_ok S3 hc (r2.stp s3) hg
      rw [← s2.φ n hlt, ← s3.φ n (Nat.lt_of_lt_of_le hlt s2.n)]
      refine ⟨o2, g, ?_⟩
      rcases q with ⟨rfl, rfl⟩ | ⟨d', w', rfl, rfl, rv⟩
      · exact p4.here S3 r3
      · exact p4.here S3 rv
    · rw [if_neg hk] at p1; exact (show False from p1).elim⟩
/-- {} -/
theorem new_ok {sg : L2.St} {O : Om} {H : Hp} {h : Hs} {c : Cell} {ob : HO} {Q : VK} (S : SR X.K X.mg O h H) {q : Addr} (hq : H q = none) (w : Post X W sg O H (.ok (.ptr h.length) (h ++ [c])) (RepX X) Q) (hc : CellOk X.K X.mg (O.more q) (upd H q ob) q c) : Q (.ref q) (upd H q ob) := by
  obtain ⟨s2, S2⟩ := S.newC (H' := upd H q ob) (p := q) (c := c) hq (fun a o e => by rw [upd_ne (ne_of_none e hq)]; exact e) ⟨_, upd_same⟩ hc
  refine w _ _ _ s2 S2 ?_
  have y : RepX X (O.more q) (.ptr O.n) (.ref ((O.more q).φ O.n)) := .ptr (Nat.lt_succ_self _)
  rw [Om.more_new] at y
  rw [S.len]
  exact y
theorem sE_dic {t : Bool} : PE X (.Dict [] [] pos) (tE X W fun _ h => .ok (.ptr h.length) (h ++ [if t then .dT [] else .dK []])) := by
  cases t with
  | false => exact PE.weak pe_dnewK fun sg H Q ⟨O, env, h, eo, S, w⟩ q hq => new_ok S hq w ⟨[], upd_same, .nil⟩
  | true => exact PE.weak pe_dnewT fun sg H Q ⟨O, env, h, eo, S, w⟩ q hq => new_ok S hq w ⟨[], upd_same, .nil⟩
/-- the pairs of a display -/
structure DPs (X : Cx) (W : WX) (pos : Pos) (keys : List (Option Expr)) (values : List Expr) (ks : List Str) (fs : Nv → Hs → Res (List D)) : Prop where
  run : ∃ trs, PPs X pos keys values trs ∧ ∀ sg H (Q : List (V × V) → Hp → Prop), tA X W fs sg H (fun vs H' => Q ((ks.map V.str).zip vs) H') → tPairs trs sg H Q
  all : keys.all (·.isSome) = true
  len : keys.length = values.length
  lk : keys.length = ks.length
theorem dps_nil : DPs X W pos [] [] [] (fun _ h => .ok [] h) := ⟨⟨[], pps_nil, fun sg H Q ⟨O, env, h, eo, S, w⟩ => w.here S .nil⟩, rfl, rfl, rfl⟩
theorem dps_cons {keys : List (Option Expr)} {values : List Expr} {ks : List Str} {j : Nat} {kp : Pos} {z : Str} (he : PE X e (tE X W fa)) (hr : DPs X W pos keys values ks fs) :
    DPs X W pos (some (.Constant (.str z) j kp) :: keys) (e :: values) (z :: ks) (fun env h => (fa env h).bind fun d h => (fs env h).bind fun ds h => .ok (d :: ds) h) := by
  obtain ⟨trs, pp, hq⟩ := hr.run
  refine ⟨⟨_, pps_cons pe_str he pp, fun sg H Q ⟨O, env, h, eo, S, w⟩ => ?_⟩, ?_, ?_, ?_⟩
  · show tE X W fa sg H fun y H2 => tPairs trs sg H2 fun ps H3 => Q ((V.str z, y) :: ps) H3
    exact ⟨O, env, h, eo, S, w.bind fun d h1 O1 v H1 _ s1 S1 r1 p1 => hq sg H1 _ ⟨O1, env, h1, eo.stp s1, S1, p1.bind fun ds h2 O2 vs H2 _ s2 S2 r2 p2 => p2.here S2 (.cons (r1.stp s2) r2)⟩⟩
  · simpa using hr.all
  · simp [hr.len]
  · simp [hr.lk]
theorem merge_new : ∀ (more kvs : List (Key × V)), ((kvs ++ more).map (·.1)).Nodup → mergeK kvs more = kvs ++ more
  | [], kvs, _ => by show kvs = _; simp
  | q :: r, kvs, h => by
    have hn : valV kvs q.1 = none := by
      cases z : valV kvs q.1 with
      | none => rfl
      | some v =>
        have hm : (kvs.any fun kv => decide (kv.1 = q.1)) = true := by rw [valV_any, z]; rfl
        obtain ⟨y, hy, e⟩ := List.any_eq_true.mp hm
        rw [List.map_append] at h
        exact absurd (of_decide_eq_true e) ((List.nodup_append.mp h).2.2 y.1 (List.mem_map_of_mem hy) q.1 (by simp))
    show mergeK (putK kvs q.1 q.2) r = _
    rw [putK_new q.2 hn, merge_new r (kvs ++ [(q.1, q.2)]) (by simpa using h)]
    simp
theorem zip_rep {O : Om} : ∀ {ks : List Str} {ds : List D} {vs : List V}, RepLX X O ds vs → RepP X.K X.mg O ((ks.map Sum.inr : List Key).zip ds) ((ks.map Sum.inr : List Key).zip vs)
  | [], _, _, _ => by simp; exact .nil
  | _ :: _, _, _, .nil => by simp; exact .nil
  | _ :: _, _, _, .cons r t => .cons r (zip_rep t)
theorem zip_kv : ∀ (ks : List Str) (vs : List V), (ks.map V.str).zip vs = (((ks.map Sum.inr : List Key).zip vs)).map fun kv => (kV kv.1, kv.2)
  | [], _ => rfl
  | _ :: _, [] => rfl
  | k :: ks, v :: vs => by
    show (V.str k, v) :: (ks.map V.str).zip vs = (V.str k, v) :: _
    rw [zip_kv ks vs]; rfl
theorem sE_dicd {keys : List (Option Expr)} {values : List Expr} {ks : List Str} (hr : DPs X W pos keys values ks fs) (h0 : keys ≠ []) (h15 : keys.length ≤ 15) (hn : ks.Nodup) :
    PE X (.Dict keys values pos) (tE X W fun env h => (fs env h).calm.bind fun ds h => if ks.length = ds.length then .ok (.ptr h.length) (h ++ [.dK ((ks.map Sum.inr).zip ds)]) else .no) := by
  obtain ⟨trs, pp, hq⟩ := hr.run
  refine PE.weak (pe_disp pp hr.all hr.len h0 h15) fun sg H Q ⟨O, env, h, eo, S, w⟩ q hp => hq sg _ _ ?_
  obtain ⟨A0, S0⟩ := Apart.new S hp (.dK [])
  refine ⟨O, env, h, eo, S0, ?_⟩
  have w : Post X W sg O H ((fs env h).calm.bind fun ds h => if ks.length = ds.length then .ok (.ptr h.length) (h ++ [.dK ((ks.map Sum.inr).zip ds)]) else .no) (RepX X) Q := w
  cases er : fs env h with
  | no => rw [er] at w; exact w
  | ex e' h' => rw [er] at w; exact (show False from w).elim
  | ok ds h1 =>
    rw [er] at w
    intro O1 vs H1 s1 S1 r1
    obtain ⟨A1, hH1⟩ := A0.stp s1 upd_same
    have w : Post X W sg O H (if ks.length = ds.length then .ok (.ptr h1.length) (h1 ++ [.dK ((ks.map Sum.inr).zip ds)]) else .no) (RepX X) Q := w
    split at w
    · rename_i hl
      have lv : ((ks.map Sum.inr : List Key).zip vs).length ≤ 15 := by
        rw [List.length_zip, List.length_map, ← r1.length, ← hl, Nat.min_self, ← hr.lk]; exact h15
      refine ⟨hH1, (ks.map Sum.inr : List Key).zip vs, zip_kv ks vs, lv, ?_⟩
      have nd : ((([] : List (Key × V)) ++ (ks.map Sum.inr : List Key).zip vs).map (·.1)).Nodup := by
        rw [List.nil_append, List.map_fst_zip (by rw [List.length_map, hl, r1.length]; exact Nat.le_refl _)]
        exact List.Pairwise.map Sum.inr (fun a b e z => e (by cases z; rfl)) hn
      rw [merge_new _ _ nd, List.nil_append]
      have sx : StpX q O H O1 (upd H1 q (.dK ((ks.map Sum.inr : List Key).zip vs))) := (StpX.put q O H _).trans (s1.x.trans (StpX.put q O1 H1 _))
      obtain ⟨s3, S3⟩ := Apart.cell (c := .dK ((ks.map Sum.inr).zip ds)) (A1.srU S1 (.dK ((ks.map Sum.inr : List Key).zip vs))) (A1.upd _) hp sx ⟨_, upd_same, (zip_rep r1).more⟩
      refine w _ _ _ s3 S3 ?_
      have y : RepX X (O1.more q) (.ptr O1.n) (.ref ((O1.more q).φ O1.n)) := .ptr (Nat.lt_succ_self _)
      rw [Om.more_new] at y
      rw [S1.len]
      exact y
    · exact (show False from w).elim
end
end SI
end
section
set_option Elab.async false
set_option linter.all false
set_option maxRecDepth 100000
set_option maxHeartbeats 4000000
/-! SI13: what is walked. -/
namespace SI
open PySem PySem.Spec PyProof.Rows L2

/-- later objects -/
structure Om.Le (O O' : Om) : Prop where
  n : O.n ≤ O'.n
  φ : ∀ i, i < O.n → O'.φ i = O.φ i
  F : ∀ a o, O.F a = some o → O'.F a = some o
theorem Om.Le.refl (O : Om) : O.Le O := ⟨Nat.le_refl _, fun _ _ => rfl, fun _ _ e => e⟩
theorem StpX.le {p : Addr} {O O' : Om} {H H' : Hp} (s : StpX p O H O' H') : O.Le O' := ⟨s.n, s.φ, s.F⟩
theorem Stp.le {O O' : Om} {H H' : Hp} (s : Stp O H O' H') : O.Le O' := ⟨s.n, s.φ, s.F⟩
theorem Om.Le.trans {O O1 O2 : Om} (a : O.Le O1) (b : O1.Le O2) : O.Le O2 := ⟨Nat.le_trans a.n b.n, fun i hi => (b.φ i (Nat.lt_of_lt_of_le hi a.n)).trans (a.φ i hi), fun c o e => b.F c o (a.F c o e)⟩
/-- the iterator J gives the things of xs in turn -/
def SrcOk (X : Cx) (O : Om) (xs : List D) (J : It) : Prop := ∃ (Gd : Hp → Prop) (Y : Nat → Hp → V → Hp → Prop), Walk J xs.length Gd Y ∧
  (∀ (O1 : Om) (h1 : Hs) (H1 : Hp), O.Le O1 → SR X.K X.mg O1 h1 H1 → Gd H1) ∧
  ∀ (O1 : Om) (h1 : Hs) (H1 : Hp) (i : Nat) (d : D) (x : V) (H2 : Hp), O.Le O1 → SR X.K X.mg O1 h1 H1 → xs[i]? = some d → Y i H1 x H2 → ∃ O2, Stp O1 H1 O2 H2 ∧ SR X.K X.mg O2 h1 H2 ∧ RepX X O2 d x
def tI (X : Cx) (W : WX) (k : SrcK) (fs : Nv → Hs → Res (List D)) : TI := fun sg H R => ∃ (O : Om) (env : Nv) (h : Hs), NvOk X.K X.mg O env sg ∧ SR X.K X.mg O h H ∧ Post X W sg O H ((fs env h).bind fun ds h => Res.of (srcD k ds) h) (SrcOk X) R
section
variable {X : Cx} {W : WX} {G : Wr} {k : Nat} {T : Tab} {a b e o i : Expr} {es : List Expr} {p pos apos : Pos} {fa fb fc : Nv → Hs → Res D} {fs : Nv → Hs → Res (List D)} {ft : Nv → Hs → Res Bool} {x m : Str}
theorem seq_at {O O1 : Om} (l : O.Le O1) {h1 : Hs} {H1 : Hp} (S : SR X.K X.mg O1 h1 H1) {d : D} {q : Addr} (r : RepX X O d (.ref q)) {vs : List V} {xs : List D} {b : Bool} (e : valSeq d = some (b, xs)) (rl : RepLX X O xs vs)
    (h : if b = true then SqL X.K O.F q vs else SqT X.K O.F q vs) : if b = true then SqL X.K H1 q vs else SqT X.K H1 q vs := by
  cases b with
  | true => exact sqL_up (fun a o z => S.sub a o (l.F a o z)) h
  | false => exact sqT_up (fun a o z => S.sub a o (l.F a o z)) h
/-- a value that is a sequence -/
theorem valSeq_ok {O : Om} {d : D} {v : V} (r : RepX X O d v) {b : Bool} {xs : List D} (e : valSeq d = some (b, xs)) :
    ∃ (q : Addr) (vs : List V), v = .ref q ∧ (if b = true then SqL X.K O.F q vs else SqT X.K O.F q vs) ∧ RepLX X O xs vs ∧ vs.length ≤ sizeLine := by
  cases r with
  | tup q z t => cases e; exact ⟨_, _, rfl, SqT.of q, t, z⟩
  | lst q z t => cases e; exact ⟨_, _, rfl, SqL.of q, t, z⟩
  | ksl q z t => cases e; exact ⟨_, _, rfl, q, t, z⟩
  | kst q z t => cases e; exact ⟨_, _, rfl, q, t, z⟩
  | _ => cases e
theorem src_list {O : Om} {xs : List D} {vs : List V} {q : Addr} (h : SqL X.K O.F q vs) (rl : RepLX X O xs vs) : SrcOk X O xs (Itl X.K q) := by
  refine ⟨fun H => SqL X.K H q vs, YAt vs, by rw [rl.length]; exact walk_list, fun O1 h1 H1 l S => sqL_up (fun a o z => S.sub a o (l.F a o z)) h, fun O1 h1 H1 i d x H2 l S e ⟨eH, ex⟩ => ?_⟩
  subst eH
  obtain ⟨v, hv, r⟩ := rl.get e
  rw [ex] at hv
  cases hv
  exact ⟨O1, Stp.refl _ _, S, r.up l.n l.φ l.F⟩
theorem src_tup {O : Om} {xs : List D} {vs : List V} {q : Addr} (h : SqT X.K O.F q vs) (rl : RepLX X O xs vs) : SrcOk X O xs (Itt X.K q) := by
  refine ⟨fun H => SqT X.K H q vs, YAt vs, by rw [rl.length]; exact walk_tup, fun O1 h1 H1 l S => sqT_up (fun a o z => S.sub a o (l.F a o z)) h, fun O1 h1 H1 i d x H2 l S e ⟨eH, ex⟩ => ?_⟩
  subst eH
  obtain ⟨v, hv, r⟩ := rl.get e
  rw [ex] at hv
  cases hv
  exact ⟨O1, Stp.refl _ _, S, r.up l.n l.φ l.F⟩
/-- a sequence that is no other thing -/
theorem sI_seq {tg : Expr} (he : PE X e (tE X W fa)) : PI X tg e (tI X W .seq fun env h => (fa env h).bind fun d h => .ok [d] h) := ⟨fun pn s sg H R I ⟨O, env, h, eo, S, w⟩ => by
  have w : Post X W sg O H (((fa env h).bind fun d h => Res.ok [d] h).bind fun ds h => Res.of (srcD .seq ds) h) (SrcOk X) R := w
  rw [Res.bind_assoc] at w
  refine thn (he.run pn s sg H (fun v H1 => ∃ O1 d h1, RepX X O1 d v ∧ SR X.K X.mg O1 h1 H1 ∧ Post X W sg O1 H1 (Res.of (srcD .seq [d]) h1) (SrcOk X) R) I ⟨O, env, h, eo, S, w.bind fun d h1 O1 v H1 _ s1 S1 r1 p1 => ⟨O1, d, h1, r1, S1, p1⟩⟩) fun u s1 ⟨v, H1, I1, rx, O1, d, h1, r1, S1, p1⟩ => ?_
  obtain ⟨xs, ex, q⟩ := p1.of S1
  simp only [srcD, Option.map_eq_some_iff] at ex
  obtain ⟨⟨l, ys⟩, ev, rfl⟩ := ex
  obtain ⟨t, vs, rfl, hq, rl, _⟩ := valSeq_ok r1 ev
  obtain rfl : u = Value.ref t := rx
  cases l with
  | true =>
    obtain ⟨its, _, pl, _⟩ := I1.list (sqL_up S1.sub hq)
    refine wpAny_pyIter_list pl.isList ⟨_, [s1.heap.objs.size], _, _, H1, rfl, I1.kept (t' := s1.toks) fun _ _ z => Heap.get?_push_of_some _ z, turn_list t s1.heap.objs.size, ⟨_, Heap.get?_push_size _ rfl, rfl, rfl⟩, fun c hc => ?_, q _ (src_list hq rl)⟩
    rw [List.mem_singleton.mp hc]
    exact I1.fpOk (Nat.le_refl _) I1.fresh
  | false =>
    obtain ⟨its, _, pl, _⟩ := I1.tuple (sqT_up S1.sub hq)
    refine wpAny_pyIter_tuple pl ⟨_, [s1.heap.objs.size], _, _, H1, rfl, I1.kept (t' := s1.toks) fun _ _ z => Heap.get?_push_of_some _ z, turn_tuple t s1.heap.objs.size, ⟨_, Heap.get?_push_size _ rfl, rfl, rfl⟩, fun c hc => ?_, q _ (src_tup hq rl)⟩
    rw [List.mem_singleton.mp hc]
    exact I1.fpOk (Nat.le_refl _) I1.fresh⟩
theorem one_len {r : Res D} {ds : List D} {h1 : Hs} (e : (r.bind fun d h => Res.ok [d] h) = .ok ds h1) : ds.length = 1 := by
  cases r with
  | ok d h => cases e; rfl
  | ex x h => cases e
  | no => cases e
theorem two_len {r : Res D} {g : Hs → Res D} {ds : List D} {h1 : Hs} (e : (r.bind fun d h => ((g h).bind fun d2 h => Res.ok [d2] h).bind fun ds h => Res.ok (d :: ds) h) = .ok ds h1) : ds.length = 2 := by
  cases r with
  | ok d h =>
    have e : (((g h).bind fun d2 h => Res.ok [d2] h).bind fun ds h => Res.ok (d :: ds) h) = .ok ds h1 := e
    cases q : g h with
    | ok d2 h2 => rw [q] at e; cases e; rfl
    | ex x h => rw [q] at e; cases e
    | no => rw [q] at e; cases e
  | ex x h => cases e
  | no => cases e
theorem rng_get {lo : Int} {n i : Nat} {d : D} (e : ((List.range n).map fun i => D.int (lo + (i : Nat)))[i]? = some d) : d = .int (lo + (i : Nat)) := by
  rw [List.getElem?_map] at e
  cases q : (List.range n)[i]? with
  | none => rw [q] at e; cases e
  | some j =>
    rw [q] at e
    have : j = i := by rw [List.getElem?_range (by have := (List.getElem?_eq_some_iff.mp q).1; simpa using this)] at q; exact (Option.some.inj q).symm
    subst this
    exact (Option.some.inj e).symm
theorem src_rng {O : Om} {lo hi : Int} : SrcOk X O (rngD lo hi) (Itr lo (hi - lo).toNat) := by
  refine ⟨fun _ => True, YFn fun i => .int (lo + (i : Nat)), ?_, fun _ _ _ _ _ => trivial, fun O1 h1 H1 i d x H2 l S e ⟨eH, ex⟩ => ?_⟩
  · rw [show (rngD lo hi).length = (hi - lo).toNat by simp [rngD]]
    exact walk_range
  · subst eH
    rw [rng_get e, ex]
    exact ⟨O1, Stp.refl _ _, S, .int _⟩
theorem rngOk_ok {i : Int} (h : rngOk i = true) : -(2 ^ 62) ≤ i ∧ i < 2 ^ 62 := by
  have z := of_decide_eq_true h
  omega
theorem sI_rng1 {tg : Expr} (hg : Gl X "range") (hm : X.mg "range" = none) (hs : starless a = true) (ha : PE X a (tE X W fa)) : PI X tg (.Call (.Name "range" p) [a] [] pos) (tI X W .rng fun env h => (fa env h).bind fun d h => .ok [d] h) :=
  PI.weak (pi_range1 hg hm (sA_one hs ha) (star_cons hs [] X.env)) fun sg H R ⟨O, env, h, eo, S, w⟩ => ⟨O, env, h, eo, S, w.bind fun ds h1 O1 vs H1 er s1 S1 r1 p1 => by
    obtain ⟨xs, ex, q⟩ := p1.of S1
    have ex : rngA ds = some xs := ex
    unfold rngA at ex
    split at ex
    · rename_i j _
      split at ex
      · rename_i hj
        cases ex
        cases r1 with
        | cons r t =>
          cases t
          have hj := rngOk_ok hj
          refine ⟨j, by rw [r.int_inv], hj.1, hj.2, ?_⟩
          have z := q _ (src_rng (X := X) (O := O1) (lo := 0) (hi := j))
          rwa [Int.sub_zero] at z
      · cases ex
    · have z := one_len er
      cases z
    · cases ex⟩
theorem sI_rng2 {tg : Expr} (hg : Gl X "range") (hm : X.mg "range" = none) (hs : starless a = true) (ht : starless b = true) (ha : PE X a (tE X W fa)) (hb : PE X b (tE X W fb)) :
    PI X tg (.Call (.Name "range" p) [a, b] [] pos) (tI X W .rng fun env h => (fa env h).bind fun d h => ((fb env h).bind fun d2 h => Res.ok [d2] h).bind fun ds h => .ok (d :: ds) h) :=
  PI.weak (pi_range2 hg hm (sA_cons hs ha (sA_one ht hb)) (by rw [star_cons hs, star_cons ht]; rfl) (star_cons ht [] X.env)) fun sg H R ⟨O, env, h, eo, S, w⟩ => ⟨O, env, h, eo, S, w.bind fun ds h1 O1 vs H1 er s1 S1 r1 p1 => by
    obtain ⟨xs, ex, q⟩ := p1.of S1
    have ex : rngA ds = some xs := ex
    unfold rngA at ex
    split at ex
    · have z := two_len (g := fun h => fb env h) er
      cases z
    · rename_i i j _
      split at ex
      · rename_i hj
        simp only [Bool.and_eq_true] at hj
        cases ex
        cases r1 with
        | cons r t =>
          cases t with
          | cons r2 t =>
            cases t
            have h1 := rngOk_ok hj.1
            have h2 := rngOk_ok hj.2
            exact ⟨i, j, by rw [r.int_inv, r2.int_inv], ⟨h1.1, h1.2, h2.1, h2.2⟩, q _ src_rng⟩
      · cases ex
    · cases ex⟩
theorem zip_len : ∀ xs ys : List D, (zipD xs ys).length = min xs.length ys.length
  | [], _ => by simp [zipD]
  | _ :: _, [] => by simp [zipD]
  | x :: xs, y :: ys => by simp [zipD, zip_len xs ys, Nat.succ_min_succ]
theorem zip_get : ∀ {xs ys : List D} {i : Nat} {d : D}, (zipD xs ys)[i]? = some d → ∃ x y, xs[i]? = some x ∧ ys[i]? = some y ∧ d = .tup [x, y]
  | [], _, _, _, e => by simp [zipD] at e
  | _ :: _, [], _, _, e => by simp [zipD] at e
  | x :: xs, y :: ys, 0, d, e => by simp [zipD] at e; exact ⟨x, y, rfl, rfl, e.symm⟩
  | x :: xs, y :: ys, i + 1, d, e => by
    have e : (zipD xs ys)[i]? = some d := by simpa [zipD] using e
    obtain ⟨u, v, h1, h2, h3⟩ := zip_get e
    exact ⟨u, v, by simpa using h1, by simpa using h2, h3⟩
theorem small2 : (2 : Nat) ≤ sizeLine := by rw [sizeLine_eq]; decide
theorem pair_ok {O O1 : Om} {h1 : Hs} {H1 H2 : Hp} {x y : D} {v w z : V} {t : Addr} (l : O.Le O1) (S : SR X.K X.mg O1 h1 H1) (rx : RepX X O x v) (ry : RepX X O y w) (ht : H1 t = none) (e : H2 = upd H1 t (.tup [v, w])) (ez : z = .ref t) :
    ∃ O2, Stp O1 H1 O2 H2 ∧ SR X.K X.mg O2 h1 H2 ∧ RepX X O2 (.tup [x, y]) z := by
  subst e ez
  obtain ⟨s2, S2⟩ := S.newF ht (.tup [v, w])
  exact ⟨_, s2, S2, frz_tup S ht small2 (.cons (rx.up l.n l.φ l.F) (.cons (ry.up l.n l.φ l.F) .nil))⟩
theorem walk_zipT {K : PySem.W.Frag} {a b : Addr} {xs ys : List V} {n : Nat} (hn : n = min xs.length ys.length) : Walk (RZ.ItzT K a b) n (fun H => SqT K H a xs ∧ SqT K H b ys) (YPair (fun i => xs[i]?) (fun i => ys[i]?)) := by
  subst hn
  refine ⟨fun i _ hi q => ?_, fun _ q => ⟨xs, ys, q.1, q.2, by omega⟩, fun i H v H' _ q ⟨T, x, z, h1, h2, h3, h4, h5⟩ => ⟨T, x, z, h1, h2, h3, h4 xs q.1, h5 ys q.2⟩⟩
  have i1 : i < xs.length := by omega
  have i2 : i < ys.length := by omega
  exact ⟨xs, ys, xs[i], ys[i], q.1, q.2, List.getElem?_eq_getElem i1, List.getElem?_eq_getElem i2⟩
theorem sI_zip {elts : List Expr} {kk : Nat} {tpos : Pos} (hg : Gl X "zip") (hm : X.mg "zip" = none) (hs : starless a = true) (ht : starless b = true) (ha : PE X a (tE X W fa)) (hb : PE X b (tE X W fb)) :
    PI X (.Tuple elts kk tpos) (.Call (.Name "zip" p) [a, b] [] pos) (tI X W .zip fun env h => (fa env h).bind fun d h => ((fb env h).bind fun d2 h => Res.ok [d2] h).bind fun ds h => .ok (d :: ds) h) :=
  PI.weak (RZ.pi_zipA hg hm (sA_cons hs ha (sA_one ht hb)) (star_cons hs _ _) (by rw [star_cons ht]; rfl)) fun sg H R ⟨O, env, h, eo, S, w⟩ => ⟨O, env, h, eo, S, w.bind fun ds h1 O1 vs H1 er s1 S1 r1 p1 => by
    obtain ⟨zs, ex, q⟩ := p1.of S1
    have one : ∀ (l : Bool) (x y : D) (xs ys : List D), ds = [x, y] → valSeq x = some (l, xs) → valSeq y = some (l, ys) → zs = zipD xs ys →
        ∃ a b ws us, vs = [.ref a, .ref b] ∧ ((SqL X.K H1 a ws ∧ SqL X.K H1 b us ∧ R (Itz X.K a b) H1) ∨ (SqT X.K H1 a ws ∧ SqT X.K H1 b us ∧ R (RZ.ItzT X.K a b) H1)) := fun l x y xs ys ed ea eb ez => by
      subst ed
      cases r1 with
      | cons rx t =>
        cases t with
        | cons ry t =>
          cases t
          obtain ⟨q1, ws, rfl, h1, rw1, _⟩ := valSeq_ok rx ea
          obtain ⟨q2, us, rfl, h2, rw2, _⟩ := valSeq_ok ry eb
          refine ⟨q1, q2, ws, us, rfl, ?_⟩
          have hn : zs.length = min ws.length us.length := by rw [ez, zip_len, rw1.length, rw2.length]
          cases l with
          | true =>
            refine .inl ⟨sqL_up S1.sub h1, sqL_up S1.sub h2, q _ ⟨fun H => SqL X.K H q1 ws ∧ SqL X.K H q2 us, _, walk_zip hn, fun O2 h2' H2 l S => ⟨sqL_up (fun a o z => S.sub a o (l.F a o z)) h1, sqL_up (fun a o z => S.sub a o (l.F a o z)) h2⟩, fun O2 h2' H2 i d x' H3 l S e ⟨t, x1, y1, e1, e2, e3, e4, e5⟩ => ?_⟩⟩
            rw [ez] at e
            obtain ⟨u1, u2, g1, g2, rfl⟩ := zip_get e
            obtain ⟨v1, k1, r1⟩ := rw1.get g1
            obtain ⟨v2, k2, r2⟩ := rw2.get g2
            have e4 : ws[i]? = some x1 := e4
            have e5 : us[i]? = some y1 := e5
            rw [k1] at e4
            rw [k2] at e5
            cases e4
            cases e5
            exact pair_ok l S r1 r2 e2 e3 e1
          | false =>
            refine .inr ⟨sqT_up S1.sub h1, sqT_up S1.sub h2, q _ ⟨fun H => SqT X.K H q1 ws ∧ SqT X.K H q2 us, _, walk_zipT hn, fun O2 h2' H2 l S => ⟨sqT_up (fun a o z => S.sub a o (l.F a o z)) h1, sqT_up (fun a o z => S.sub a o (l.F a o z)) h2⟩, fun O2 h2' H2 i d x' H3 l S e ⟨t, x1, y1, e1, e2, e3, e4, e5⟩ => ?_⟩⟩
            rw [ez] at e
            obtain ⟨u1, u2, g1, g2, rfl⟩ := zip_get e
            obtain ⟨v1, k1, r1⟩ := rw1.get g1
            obtain ⟨v2, k2, r2⟩ := rw2.get g2
            have e4 : ws[i]? = some x1 := e4
            have e5 : us[i]? = some y1 := e5
            rw [k1] at e4
            rw [k2] at e5
            cases e4
            cases e5
            exact pair_ok l S r1 r2 e2 e3 e1
    have ex : srcD .zip ds = some zs := ex
    simp only [srcD] at ex
    split at ex
    · rename_i x y _
      split at ex
      · rename_i xs hx
        split at ex
        · rename_i ys hy
          cases ex; exact one true x y xs ys rfl hx hy rfl
        · cases ex
      · rename_i xs hx
        split at ex
        · rename_i ys hy
          cases ex; exact one false x y xs ys rfl hx hy rfl
        · cases ex
      · cases ex
    · cases ex⟩
theorem enum_len : ∀ (xs : List D) (i : Nat), (enumD i xs).length = xs.length
  | [], _ => rfl
  | x :: xs, i => by simp [enumD, enum_len xs (i + 1)]
theorem enum_get : ∀ {xs : List D} {j i : Nat} {d : D}, (enumD j xs)[i]? = some d → ∃ x, xs[i]? = some x ∧ d = .tup [.int ((j + i : Nat) : Int), x]
  | [], _, _, _, e => by simp [enumD] at e
  | x :: xs, j, 0, d, e => by simp [enumD] at e; exact ⟨x, rfl, e.symm⟩
  | x :: xs, j, i + 1, d, e => by
    have e : (enumD (j + 1) xs)[i]? = some d := by simpa [enumD] using e
    obtain ⟨u, h1, h3⟩ := enum_get e
    exact ⟨u, by simpa using h1, by rw [h3, show j + 1 + i = j + (i + 1) by omega]⟩
theorem sI_enum {elts : List Expr} {kk : Nat} {tpos : Pos} (hg : Gl X "enumerate") (hm : X.mg "enumerate" = none) (hs : starless a = true) (ha : PE X a (tE X W fa)) :
    PI X (.Tuple elts kk tpos) (.Call (.Name "enumerate" p) [a] [] pos) (tI X W .enum fun env h => (fa env h).bind fun d h => .ok [d] h) :=
  PI.weak (pi_enum hg hm (sA_one hs ha) (star_cons hs [] X.env)) fun sg H R ⟨O, env, h, eo, S, w⟩ => ⟨O, env, h, eo, S, w.bind fun ds h1 O1 vs H1 er s1 S1 r1 p1 => by
    obtain ⟨zs, ex, q⟩ := p1.of S1
    have ex : srcD .enum ds = some zs := ex
    simp only [srcD] at ex
    split at ex
    · rename_i d _
      split at ex
      · rename_i xs hx
        cases ex
        cases r1 with
        | cons rx t =>
          cases t
          obtain ⟨q1, ws, rfl, h1, rw1, _⟩ := valSeq_ok rx hx
          refine ⟨q1, ws, rfl, sqL_up S1.sub h1, q _ ⟨fun H => SqL X.K H q1 ws, YPair (fun i => some (.int (i : Nat))) (fun i => ws[i]?), by rw [enum_len, rw1.length]; exact walk_enum, fun O2 h2' H2 l S => sqL_up (fun a o z => S.sub a o (l.F a o z)) h1, fun O2 h2' H2 i d x' H3 l S e ⟨t, x1, y1, e1, e2, e3, e4, e5⟩ => ?_⟩⟩
          obtain ⟨u1, g1, rfl⟩ := enum_get e
          obtain ⟨v1, k1, r1⟩ := rw1.get g1
          have e4 : some (V.int (i : Nat)) = some x1 := e4
          have e5 : ws[i]? = some y1 := e5
          rw [k1] at e5
          cases e4
          cases e5
          rw [Nat.zero_add]
          exact pair_ok l S (.int _) r1 e2 e3 e1
      · cases ex
    · cases ex⟩
end
end SI
end
section
set_option Elab.async false
set_option linter.all false
set_option maxRecDepth 100000
set_option maxHeartbeats 4000000
/-! SI14: targets, comprehensions, ranges. -/
namespace SI
open PySem PySem.Spec PyProof.Rows L2

mutual
def ids : Tg → List Nat
  | .n i => [i]
  | .t ts => idsL ts
def idsL : List Tg → List Nat
  | [] => []
  | t :: ts => ids t ++ idsL ts
end
/-- nothing but these slots is new -/
def OnlyAt (l : List Nat) (sg sg' : L2.St) : Prop := ∀ j, j ∉ l → sg'[j]? = sg[j]?
section
variable (X : Cx)
def gT (tg : Tg) : TG := fun v sg H Q => ∃ (O : Om) (h : Hs) (d : D) (env env' : Nv), SR X.K X.mg O h H ∧ NvOk X.K X.mg O env sg ∧ RepX X O d v ∧ asg tg d env = some env' ∧ ∀ sg', NvOk X.K X.mg O env' sg' → OnlyAt (ids tg) sg sg' → Q sg' H
def gTs (ts : List Tg) : TGs := fun vs sg H Q => ∃ (O : Om) (h : Hs) (ds : List D) (env env' : Nv), SR X.K X.mg O h H ∧ NvOk X.K X.mg O env sg ∧ RepLX X O ds vs ∧ asgs ts ds env = some env' ∧ ∀ sg', NvOk X.K X.mg O env' sg' → OnlyAt (idsL ts) sg sg' → Q sg' H
end
section
variable {X : Cx} {W : WX} {G : Wr} {k : Nat} {T : Tab} {a b e o i : Expr} {es : List Expr} {p pos apos : Pos} {fa fb fc : Nv → Hs → Res D} {fs : Nv → Hs → Res (List D)} {ft : Nv → Hs → Res Bool} {x m : Str}
theorem PG.weak {t : Expr} {g g' : TG} (p : PG X t g) (k : ∀ v sg H Q, g' v sg H Q → g v sg H Q) : PG X t g' := ⟨fun pn s sg H v u Q I r w => p.run pn s sg H v u Q I r (k v sg H Q w)⟩
theorem PGs.weak {t : List Expr} {g g' : TGs} (p : PGs X t g) (k : ∀ v sg H Q, g' v sg H Q → g v sg H Q) : PGs X t g' := ⟨fun pn s sg H v u Q I r w => p.run pn s sg H v u Q I r (k v sg H Q w)⟩
theorem sG_name {i : Nat} (hN : X.N.Nodup) (hi : X.N[i]? = some x) (hx : Loc X.env.scope x) (hf : X.fn x = true ∨ X.env.scope.names.lookup x = some .local) : PG X (.Name x pos) (gT X (.n i)) :=
  PG.weak (pg_name hN hi hx hf) fun v sg H Q ⟨O, h, d, env, env', S, eo, r, ea, q⟩ => by
    cases ea
    exact q _ (eo.set i r) fun j hj => List.getElem?_set_ne (fun z => hj (by rw [← z]; exact List.mem_singleton.mpr rfl))
theorem asgE_cons {e : Expr} (h : starless e = true) (es : List Expr) (env : PySem.Env) : assignEach (e :: es) env = (false, assign e env) :: assignEach es env := by
  cases e <;> first | rfl | cases h
theorem sG_nil : PGs X [] (gTs X []) := PGs.weak pgs_nil fun v sg H Q ⟨O, h, ds, env, env', S, eo, r, ea, q⟩ => by
  cases ds with
  | nil => cases r; cases ea; exact ⟨rfl, q sg eo fun _ _ => rfl⟩
  | cons => cases ea
theorem sG_cons {t : Tg} {ts : List Tg} (hs : starless e = true) (h1 : PG X e (gT X t)) (h2 : PGs X es (gTs X ts)) : PGs X (e :: es) (gTs X (t :: ts)) :=
  PGs.weak (pgs_cons h1 h2 (by rw [asgE_cons hs]; rfl)) fun v sg H Q ⟨O, h, ds, env, env', S, eo, r, ea, q⟩ => by
    cases ds with
    | nil => cases ea
    | cons d ds =>
      cases r with
      | cons r rr =>
        simp only [asgs] at ea
        split at ea
        · rename_i env1 h1
          exact ⟨_, _, rfl, O, h, d, env, env1, S, eo, r, h1, fun sg1 e1 o1 => ⟨O, h, ds, env1, env', S, e1, rr, ea, fun sg2 e2 o2 => q sg2 e2 fun j hj => by
            rw [o2 j (fun z => hj (by show j ∈ ids t ++ idsL ts; exact List.mem_append_right _ z)), o1 j (fun z => hj (by show j ∈ ids t ++ idsL ts; exact List.mem_append_left _ z))]⟩⟩
        · cases ea
theorem asgE_len : ∀ {es : List Expr} {env : PySem.Env}, es.all starless = true → (assignEach es env).length = es.length ∧ (assignEach es env).findIdx? (·.1) = none
  | [], _, _ => ⟨rfl, rfl⟩
  | e :: es, env, h => by
    have h1 : starless e = true ∧ es.all starless = true := by simpa using h
    obtain ⟨l, n⟩ := asgE_len (env := env) h1.2
    rw [asgE_cons h1.1]
    exact ⟨by simp [l], by simp [List.findIdx?_cons, n]⟩
theorem asgs_len : ∀ {ts : List Tg} {ds : List D} {env env' : Nv}, asgs ts ds env = some env' → ds.length = ts.length
  | [], [], _, _, _ => rfl
  | [], _ :: _, _, _, e => by cases e
  | _ :: _, [], _, _, e => by cases e
  | t :: ts, d :: ds, env, env', e => by
    simp only [asgs] at e
    split at e
    · simp [asgs_len e]
    · cases e
theorem sG_tup {ts : List Tg} {j : Nat} (hc : X.calm = true) (hs : es.all starless = true) (hl : es.length = ts.length) (h : PGs X es (gTs X ts)) : PG X (.Tuple es j pos) (gT X (.t ts)) :=
  PG.weak (pg_tup (n := es.length) hc h (asgE_len hs).1 (asgE_len hs).2) fun v sg H Q ⟨O, h, d, env, env', S, eo, r, ea, q⟩ => by
    simp only [asg] at ea
    split at ea
    · rename_i xs hx
      obtain ⟨t, vs, rfl, hq, rl, _⟩ := valSeq_ok r hx
      exact ⟨t, vs, rfl, sqT_up S.sub hq, by rw [← rl.length, asgs_len ea, hl], O, h, xs, env, env', S, eo, rl, ea, q⟩
    · cases ea

mutual
theorem asg_length : ∀ {t : Tg} {d : D} {env env' : Nv}, asg t d env = some env' → env'.length = env.length
  | .n i, d, env, env', e => by cases e; simp
  | .t ts, d, env, env', e => by
    simp only [asg] at e
    split at e
    · exact asgs_length e
    · cases e
theorem asgs_length : ∀ {ts : List Tg} {ds : List D} {env env' : Nv}, asgs ts ds env = some env' → env'.length = env.length
  | [], [], _, _, e => by cases e; rfl
  | [], _ :: _, _, _, e => by cases e
  | _ :: _, [], _, _, e => by cases e
  | t :: ts, d :: ds, env, env', e => by
    simp only [asgs] at e
    split at e
    · rename_i env1 h1
      rw [asgs_length e, asg_length h1]
    · cases e
end
theorem wipeE_length : ∀ (l : List Nat) (env : Nv), (wipeE env l).length = env.length
  | [], _ => rfl
  | v :: vs, env => by unfold wipeE; rw [List.length_set, wipeE_length vs env]
/-! ### comprehensions -/
theorem wipe_get {σ : L2.St} {j : Nat} : ∀ {vs : List Nat}, (wipe σ vs)[j]? = if j ∈ vs then (σ[j]?).map (fun _ => none) else σ[j]?
  | [] => by simp [wipe]
  | v :: vs => by
    show ((wipe σ vs).set v none)[j]? = _
    by_cases hj : v = j
    · subst hj
      rw [if_pos (by simp)]
      by_cases hl : v < (wipe σ vs).length
      · rw [List.getElem?_set_self hl]
        rw [wipe_length] at hl
        rw [List.getElem?_eq_getElem hl]; rfl
      · rw [List.getElem?_eq_none (by rw [List.length_set]; omega)]
        rw [wipe_length] at hl
        rw [List.getElem?_eq_none (by omega)]; rfl
    · rw [List.getElem?_set_ne hj, wipe_get]
      have : (j ∈ v :: vs) ↔ j ∈ vs := by simp [Ne.symm hj]
      by_cases h : j ∈ vs
      · rw [if_pos h, if_pos (this.mpr h)]
      · rw [if_neg h, if_neg (fun z => h (this.mp z))]
theorem wipe_eq {σ σ2 : L2.St} {l vs : List Nat} (hl : σ2.length = σ.length) (h : OnlyAt l (wipe σ vs) σ2) (sub : ∀ j ∈ l, j ∈ vs) : wipe σ2 vs = wipe σ vs := by
  apply List.ext_getElem?
  intro j
  rw [wipe_get, wipe_get]
  by_cases hj : j ∈ vs
  · rw [if_pos hj, if_pos hj]
    by_cases hb : j < σ.length
    · rw [List.getElem?_eq_getElem hb, List.getElem?_eq_getElem (by omega)]; rfl
    · rw [List.getElem?_eq_none (by omega), List.getElem?_eq_none (by omega)]
  · rw [if_neg hj, if_neg hj, h j (fun z => hj (sub j z)), wipe_get, if_neg hj]
theorem NvOk.le {O O' : Om} {env : Nv} {sg : L2.St} (e : NvOk X.K X.mg O env sg) (s : O.Le O') : NvOk X.K X.mg O' env sg :=
  ⟨e.len, fun i d q => let ⟨v, a, b⟩ := e.val i d q; ⟨v, a, b.up s.n s.φ s.F⟩⟩
def W0 : WX := fun _ _ _ _ => False
/-- one turn of a comprehension -/
def turnF (tg : Tg) (ft : Nv → Hs → Res Bool) (fe : Nv → Hs → Res D) (env : Nv) : D → Hs → Res (Option D) := fun x h => ((Res.of (asg tg x env) h).bind fun env2 h => (ft env2 h).bind fun b h => if b then (fe env2 h).bind fun y h => .ok (some y) h else .ok none h).calm
theorem reL_end {sg : L2.St} {O1 O' : Om} {H1 H' : Hp} {h' : Hs} {mm : Bool} {acc : List D} {vs : List V} {Q : VK} {q : Addr} (S : SR X.K X.mg O' h' H') (A : Apart O' H' q) (e : H' q = some (.lst vs)) (rl : RepLX X O' acc vs) (z : vs.length ≤ sizeLine)
    (hq : H1 q = none) (sx : StpX q O1 H1 O' H') (w : Post X W sg O1 H1 (reL mm (.ok (.lst acc) h')) (RepX X) Q) : Q (.ref q) H' := by
  cases mm with
  | false =>
    obtain ⟨s3, S3⟩ := A.frz S e hq sx
    refine (show Post X W sg O1 H1 (.ok (.lst acc) h') (RepX X) Q from w) _ _ _ s3 S3 (.lst (vs := vs) ?_ z (RepL.up (O := O') (O' := O'.frz q (.lst vs)) (Nat.le_refl _) (fun _ _ => rfl) (fun b u t => ?_) rl))
    · show upd O'.F q (.lst vs) q = _
      rw [upd_same]
    · show upd O'.F q (.lst vs) b = _
      rw [upd_ne (fun y => by rw [y, A.nf] at t; cases t)]; exact t
  | true =>
    obtain ⟨s3, S3⟩ := A.cell S hq sx (c := .lst acc) ⟨vs, e, z, rl.more⟩
    refine (show Post X W sg O1 H1 (.ok (.ptr h'.length) (h' ++ [.lst acc])) (RepX X) Q from w) _ _ _ s3 S3 ?_
    have y : RepX X (O'.more q) (.ptr O'.n) (.ref ((O'.more q).φ O'.n)) := .ptr (Nat.lt_succ_self _)
    rw [Om.more_new] at y
    rw [S.len]; exact y
theorem sE_comp {tg : Tg} {tgE iter elt : Expr} {ifs : List Expr} {scope : Scope} {own : List (Str × Nat)} {kS : SrcK} {fe : Nv → Hs → Res D} {mm : Bool} (c : XOk X W G k T) (hi : PI X tgE iter (tI X W kS fs)) (ok : BlkOk X.N X.env.scope scope own)
    (hg : ∀ (s : Shared) (H : Hp) (C : Addr) (cl : List (Str × Addr)) (fp : List Addr), PG (X.blk s H scope (compEnvC scope cl C X.env) fp) tgE (gT X tg))
    (ht : ∀ (s : Shared) (H : Hp) (C : Addr) (cl : List (Str × Addr)) (fp : List Addr), PTs (X.blk s H scope (compEnvC scope cl C X.env) fp) ifs (tT X W0 ft))
    (he : ∀ (s : Shared) (H : Hp) (C : Addr) (cl : List (Str × Addr)) (fp : List Addr), PE (X.blk s H scope (compEnvC scope cl C X.env) fp) elt (tE X W0 fe))
    (hs : setless iter = true) (hsub : ∀ j ∈ ids tg, j ∈ own.map (·.2)) :
    ∃ t, PE X (.ListComp elt [⟨tgE, iter, ifs, 0⟩] scope pos) t ∧ t = tLc (tI X W kS fs) (gT X tg) (tT X W0 ft) (tE X W0 fe) (own.map (·.2)) ∧
      ∀ sg H Q, tE X W (fun env h => reL mm ((fs env h).bind fun ds h => (Res.of (srcD kS ds) h).bind fun xs h => if xs.length ≤ LINE then (compLoop (turnF tg ft fe (wipeE env (own.map (·.2)))) xs h).bind fun ys h => .ok (.lst ys) h else .no)) sg H Q → t sg H Q := by
  refine ⟨_, pe_lc c.calm c.nd hi ok hg ht he (fold_set hs X.env), rfl, fun sg H Q ⟨O, env, h, eo, S, w⟩ => ⟨O, env, h, eo, S, ?_⟩⟩
  have w : Post X W sg O H (reL mm ((fs env h).bind fun ds h => (Res.of (srcD kS ds) h).bind fun xs h => if xs.length ≤ LINE then (compLoop (turnF tg ft fe (wipeE env (own.map (·.2)))) xs h).bind fun ys h => .ok (.lst ys) h else .no)) (RepX X) Q := w
  cases er : fs env h with
  | no => rw [er] at w; cases mm <;> exact (show False from w).elim
  | ex e1 h1 => rw [er] at w; cases mm <;> exact w
  | ok ds h1 =>
    rw [er] at w
    have w : Post X W sg O H (reL mm ((Res.of (srcD kS ds) h1).bind fun xs h => if xs.length ≤ LINE then (compLoop (turnF tg ft fe (wipeE env (own.map (·.2)))) xs h).bind fun ys h => .ok (.lst ys) h else .no)) (RepX X) Q := w
    show Post X W sg O H (Res.of (srcD kS ds) h1) (SrcOk X) _
    cases ex : srcD kS ds with
    | none => rw [ex] at w; cases mm <;> exact (show False from w).elim
    | some xs =>
      rw [ex] at w
      have w : Post X W sg O H (reL mm (if xs.length ≤ LINE then (compLoop (turnF tg ft fe (wipeE env (own.map (·.2)))) xs h1).bind fun ys h => .ok (.lst ys) h else .no)) (RepX X) Q := w
      intro O1 J H1 s1 S1 ⟨Gd, Y, wk, hG, hY⟩ q hq
      split at w
      · rename_i hz
        have LE := LINE_eq
        refine lc_it wk (fun i H' => ∃ O' h' acc vs, SR X.K X.mg O' h' H' ∧ Apart O' H' q ∧ H' q = some (.lst vs) ∧ RepLX X O' acc vs ∧ vs.length ≤ i ∧ StpX q O1 H1 O' H' ∧
          Post X W sg O1 H1 (reL mm ((compLoop (turnF tg ft fe (wipeE env (own.map (·.2)))) (xs.drop i) h').bind fun ys h => .ok (.lst (acc ++ ys)) h)) (RepX X) Q) ?_ (fun i H' hi ⟨O', h', acc, vs, S', A', e', rl, lz, sx, p'⟩ => hG O' h' H' sx.le S') ?_ ?_
        · obtain ⟨A0, S0⟩ := Apart.new S1 hq (.lst [])
          exact ⟨O1, h1, [], [], S0, A0, upd_same, .nil, Nat.le_refl _, StpX.put q O1 H1 _, Post.weak w s1⟩
        · intro i x Ha H' hi ⟨O', h', acc, vs, S', A', e', rl, lz, sx, p'⟩ hy
          have hd : xs[i]? = some xs[i] := List.getElem?_eq_getElem hi
          obtain ⟨O2, s2, S2, r2⟩ := hY O' h' Ha i _ x H' sx.le S' hd hy
          rw [List.drop_eq_getElem_cons hi] at p'
          generalize xs[i] = d at p' r2
          have p' : Post X W sg O1 H1 (reL mm (((turnF tg ft fe (wipeE env (own.map (·.2))) d h').bind fun o h => (compLoop (turnF tg ft fe (wipeE env (own.map (·.2)))) (xs.drop (i + 1)) h).bind fun ys h => .ok (match o with
            | some y => y :: ys
            | none => ys) h).bind fun ys h => .ok (.lst (acc ++ ys)) h)) (RepX X) Q := p'
          have le2 : O.Le O2 := (s1.le.trans sx.le).trans s2.le
          obtain ⟨A2, e2⟩ := A'.stp s2 e'
          cases ea : asg tg d (wipeE env (own.map (·.2))) with
          | none => rw [show turnF tg ft fe (wipeE env (own.map (·.2))) d h' = .no by unfold turnF; rw [ea]; rfl] at p'; cases mm <;> exact (show False from p').elim
          | some env2 =>
            have et : turnF tg ft fe (wipeE env (own.map (·.2))) d h' = ((ft env2 h').bind fun b h => if b then (fe env2 h).bind fun y h => .ok (some y) h else .ok none h).calm := by unfold turnF; rw [ea]; rfl
            rw [et] at p'
            refine ⟨O2, h', d, _, env2, S2, (eo.le le2).wipe _, r2, ea, fun σ2 nv2 only => ⟨wipe_eq (by rw [← nv2.len, ← eo.len, asg_length ea, wipeE_length]) only hsub, O2, env2, h', nv2, S2, ?_⟩⟩
            cases ef : ft env2 h' with
            | no => rw [ef] at p'; cases mm <;> exact (show False from p').elim
            | ex e1 h1 => rw [ef] at p'; cases mm <;> exact (show False from p').elim
            | ok b h3 =>
              rw [ef] at p'
              intro O3 b' H3 s3 S3 (rb : b = b')
              subst rb
              obtain ⟨A3, e3⟩ := A2.stp s3 e2
              cases b with
              | false =>
                rw [if_neg (by decide)]
                have p' : Post X W sg O1 H1 (reL mm (((compLoop (turnF tg ft fe (wipeE env (own.map (·.2)))) (xs.drop (i + 1)) h3).bind fun ys h => .ok ys h).bind fun ys h => .ok (.lst (acc ++ ys)) h)) (RepX X) Q := p'
                rw [Res.bind_assoc] at p'
                exact ⟨O3, h3, acc, vs, S3, A3, e3, (rl.stp s2).stp s3, by omega, (sx.trans s2.x).trans s3.x, p'⟩
              | true =>
                rw [if_pos rfl]
                refine ⟨O3, env2, h3, nv2.stp s3, S3, ?_⟩
                have p' : Post X W sg O1 H1 (reL mm (((((fe env2 h3).bind fun y h => Res.ok (some y) h).calm).bind fun o h => (compLoop (turnF tg ft fe (wipeE env (own.map (·.2)))) (xs.drop (i + 1)) h).bind fun ys h => .ok (match o with
                  | some y => y :: ys
                  | none => ys) h).bind fun ys h => .ok (.lst (acc ++ ys)) h)) (RepX X) Q := p'
                cases eg : fe env2 h3 with
                | no => rw [eg] at p'; cases mm <;> exact (show False from p').elim
                | ex e1 h1 => rw [eg] at p'; cases mm <;> exact (show False from p').elim
                | ok y h4 =>
                  rw [eg] at p'
                  intro O4 vy H4 s4 S4 ry
                  obtain ⟨A4, e4⟩ := A3.stp s4 e3
                  refine ⟨vs, e4, by omega, O4, h4, acc ++ [y], vs ++ [vy], A4.srU S4 _, A4.upd _, upd_same, (((rl.stp s2).stp s3).stp s4).app (.cons ry .nil), by simp; omega, (((sx.trans s2.x).trans s3.x).trans s4.x).trans (StpX.put q O4 H4 _), ?_⟩
                  have p' : Post X W sg O1 H1 (reL mm (((compLoop (turnF tg ft fe (wipeE env (own.map (·.2)))) (xs.drop (i + 1)) h4).bind fun ys h => .ok (y :: ys) h).bind fun ys h => .ok (.lst (acc ++ ys)) h)) (RepX X) Q := p'
                  rw [Res.bind_assoc] at p'
                  have : (fun ys h => Res.ok (D.lst ((acc ++ [y]) ++ ys)) h : List D → Hs → Res D) = fun ys h => (Res.ok (y :: ys) h).bind fun ys h => .ok (.lst (acc ++ ys)) h := by
                    funext ys h
                    simp
                  rw [this]
                  exact p'
        · intro H' ⟨O', h', acc, vs, S', A', e', rl, lz, sx, p'⟩
          rw [List.drop_length] at p'
          have p' : Post X W sg O1 H1 (reL mm (.ok (.lst (acc ++ [])) h')) (RepX X) Q := p'
          rw [List.append_nil] at p'
          exact reL_end S' A' e' rl (by omega) hq sx p'
      · cases mm <;> exact (show False from w).elim
theorem ts_nil : PTs X [] (tT X W fun _ h => .ok true h) := ⟨fun pn s sg H Q I ⟨O, env, h, eo, S, w⟩ => pts_nil.run pn s sg H Q I (w.here S rfl)⟩
/-! ### ranges -/
theorem rg_ok (O : Om) (lo hi : Int) : RepLX X O (rngD lo hi) (rgV lo hi) := by
  have z : ∀ l : List Nat, RepLX X O (l.map fun i => D.int (lo + (i : Nat))) (l.map fun i => V.int (lo + (i : Nat))) := fun l => by
    induction l with
    | nil => exact .nil
    | cons a l ih => exact .cons (.int _) ih
  exact z _
theorem reL_new {sg : L2.St} {O : Om} {H : Hp} {h : Hs} {mm : Bool} {ds : List D} {vs : List V} {Q : VK} (S : SR X.K X.mg O h H) (r : RepLX X O ds vs) (z : vs.length ≤ sizeLine) (w : Post X W sg O H (reL mm (.ok (.lst ds) h)) (RepX X) Q) {q : Addr} (hq : H q = none) : Q (.ref q) (upd H q (.lst vs)) := by
  refine mk_ok (W := W) (sg := sg) (m := mm) S r z ?_ hq
  cases mm <;> exact w
def tRg (X : Cx) (W : WX) (fs : Nv → Hs → Res (List D)) : L2.St → Hp → (Int → Int → Hp → Prop) → Prop := fun sg H Q => ∃ (O : Om) (env : Nv) (h : Hs), NvOk X.K X.mg O env sg ∧ SR X.K X.mg O h H ∧ Post X W sg O H ((fs env h).bind fun ds h => Res.of (rngA ds) h) (fun _ xs (ab : Int × Int) => xs = rngD ab.1 ab.2 ∧ rngOk ab.1 = true ∧ rngOk ab.2 = true) fun ab H' => Q ab.1 ab.2 H'
theorem sR_1 (hg : Gl X "range") (hm : X.mg "range" = none) (hs : starless a = true) (ha : PE X a (tE X W fa)) : PRg X (.Call (.Name "range" p) [a] [] pos) (tRg X W fun env h => (fa env h).bind fun d h => .ok [d] h) :=
  fun pn s sg H Q I ⟨O, env, h, eo, S, w⟩ => prg_1 hg hm ha (star_cons hs [] X.env) pn s sg H Q I ⟨O, env, h, eo, S, by
    have w : Post X W sg O H (((fa env h).bind fun d h => Res.ok [d] h).bind fun ds h => Res.of (rngA ds) h) (fun _ xs (ab : Int × Int) => xs = rngD ab.1 ab.2 ∧ rngOk ab.1 = true ∧ rngOk ab.2 = true) fun ab H' => Q ab.1 ab.2 H' := w
    rw [Res.bind_assoc] at w
    refine w.bind fun d h1 O1 v H1 _ s1 S1 r1 p1 => ?_
    obtain ⟨xs, ex, q⟩ := Post.of (o := rngA [d]) p1 S1
    cases d with
    | int j =>
      simp only [rngA] at ex
      split at ex
      · rename_i hj; cases ex; exact ⟨j, r1.int_inv, q (0, j) ⟨rfl, (by decide : rngOk 0 = true), hj⟩⟩
      · cases ex
    | _ => cases ex⟩
theorem sR_2 (hg : Gl X "range") (hm : X.mg "range" = none) (hs : starless a = true) (ht : starless b = true) (ha : PE X a (tE X W fa)) (hb : PE X b (tE X W fb)) : PRg X (.Call (.Name "range" p) [a, b] [] pos) (tRg X W fun env h => (fa env h).bind fun d h => ((fb env h).bind fun d2 h => Res.ok [d2] h).bind fun ds h => .ok (d :: ds) h) :=
  fun pn s sg H Q I ⟨O, env, h, eo, S, w⟩ => prg_2 hg hm ha hb (star_cons hs _ X.env) (star_cons ht [] X.env) (by rw [star_cons ht]; rfl) pn s sg H Q I ⟨O, env, h, eo, S, by
    have w : Post X W sg O H (((fa env h).bind fun d h => ((fb env h).bind fun d2 h => Res.ok [d2] h).bind fun ds h => Res.ok (d :: ds) h).bind fun ds h => Res.of (rngA ds) h) (fun _ xs (ab : Int × Int) => xs = rngD ab.1 ab.2 ∧ rngOk ab.1 = true ∧ rngOk ab.2 = true) fun ab H' => Q ab.1 ab.2 H' := w
    rw [Res.bind_assoc] at w
    refine w.bind fun d h1 O1 v H1 _ s1 S1 r1 p1 => ⟨O1, env, h1, eo.stp s1, S1, ?_⟩
    rw [Res.bind_assoc, Res.bind_assoc] at p1
    refine p1.bind fun d2 h2 O2 v2 H2 _ s2 S2 r2 p2 => ?_
    obtain ⟨xs, ex, q⟩ := Post.of (o := rngA [d, d2]) p2 S2
    cases d with
    | int i =>
      cases d2 with
      | int j =>
        simp only [rngA] at ex
        split at ex
        · rename_i hj
          simp only [Bool.and_eq_true] at hj
          cases ex; exact ⟨i, j, r1.int_inv, r2.int_inv, q (i, j) ⟨rfl, hj.1, hj.2⟩⟩
        · cases ex
      | _ => cases ex
    | _ => cases ex⟩
theorem rgOk_of {lo hi : Int} (h1 : rngOk lo = true) (h2 : rngOk hi = true) (h3 : (rngD lo hi).length ≤ LINE) : RgOk lo hi ∧ (rgV lo hi).length ≤ sizeLine := by
  have a1 := rngOk_ok h1
  have a2 := rngOk_ok h2
  have e : (rngD lo hi).length = (hi - lo).toNat := by simp [rngD]
  have e2 := rgV_length lo hi
  have LE := LINE_eq
  have e3 : LINE = 2 ^ 24 := rfl
  exact ⟨⟨a1.1, a1.2, a2.1, a2.2, by omega⟩, by omega⟩
theorem rg_post {sg : L2.St} {O : Om} {H : Hp} {h : Hs} {fs : Nv → Hs → Res (List D)} {env : Nv} {mm : Bool} {F : List D → Hs → Res D} {Q : VK} {R : Int → Int → Hp → Prop} (w : Post X W sg O H (reL mm ((fs env h).bind fun ds h => (Res.of (rngA ds) h).bind fun xs h => if xs.length ≤ LINE then F xs h else .no)) (RepX X) Q)
    (k : ∀ (lo hi : Int) (O1 : Om) (h1 : Hs) (H1 : Hp), SR X.K X.mg O1 h1 H1 → RgOk lo hi ∧ (rgV lo hi).length ≤ sizeLine → Post X W sg O1 H1 (reL mm (F (rngD lo hi) h1)) (RepX X) Q → R lo hi H1) :
    Post X W sg O H ((fs env h).bind fun ds h => Res.of (rngA ds) h) (fun _ xs (ab : Int × Int) => xs = rngD ab.1 ab.2 ∧ rngOk ab.1 = true ∧ rngOk ab.2 = true) fun ab H' => R ab.1 ab.2 H' := by
  cases er : fs env h with
  | no => rw [er] at w; cases mm <;> exact w
  | ex e1 h1 => rw [er] at w; cases mm <;> exact w
  | ok ds h1 =>
    rw [er] at w
    have w : Post X W sg O H (reL mm ((Res.of (rngA ds) h1).bind fun xs h => if xs.length ≤ LINE then F xs h else .no)) (RepX X) Q := w
    show Post X W sg O H (Res.of (rngA ds) h1) _ _
    cases ex : rngA ds with
    | none => rw [ex] at w; cases mm <;> exact w
    | some xs =>
      rw [ex] at w
      have w : Post X W sg O H (reL mm (if xs.length ≤ LINE then F xs h1 else .no)) (RepX X) Q := w
      intro O1 ab H1 s1 S1 ⟨e, g1, g2⟩
      subst e
      split at w
      · rename_i hz
        exact k _ _ O1 h1 H1 S1 (rgOk_of g1 g2 hz) (Post.weak w s1)
      · cases mm <;> exact (show False from w).elim
theorem sE_lrg {mm : Bool} {e : Expr} (hc : X.calm = true) (hg : Gl X "list") (hm : X.mg "list" = none) (hs : starless e = true) (he : PRg X e (tRg X W fs)) :
    PE X (.Call (.Name "list" p) [e] [] pos) (tE X W fun env h => reL mm ((fs env h).bind fun ds h => (Res.of (rngA ds) h).bind fun xs h => if xs.length ≤ LINE then .ok (.lst xs) h else .no)) :=
  PE.weak (pe_listRg hc hg hm he (star_cons hs [] X.env)) fun sg H Q ⟨O, env, h, eo, S, w⟩ => ⟨O, env, h, eo, S, rg_post (R := fun a b H1 => RgOk a b ∧ ∀ q, H1 q = none → Q (.ref q) (upd H1 q (.lst (rgV a b)))) w fun lo hi O1 h1 H1 S1 hr w1 => ⟨hr.1, fun q hq => reL_new S1 (rg_ok O1 lo hi) hr.2 w1 hq⟩⟩
theorem sE_trg {e : Expr} (hc : X.calm = true) (hg : Gl X "tuple") (hm : X.mg "tuple" = none) (hs : starless e = true) (he : PRg X e (tRg X W fs)) :
    PE X (.Call (.Name "tuple" p) [e] [] pos) (tE X W fun env h => reL false ((fs env h).bind fun ds h => (Res.of (rngA ds) h).bind fun xs h => if xs.length ≤ LINE then .ok (.tup xs) h else .no)) :=
  PE.weak (pe_tupRg hc hg hm he (star_cons hs [] X.env)) fun sg H Q ⟨O, env, h, eo, S, w⟩ => ⟨O, env, h, eo, S, rg_post (R := fun a b H1 => RgOk a b ∧ ∀ q, H1 q = none → Q (.ref q) (upd H1 q (.tup (rgV a b)))) w fun lo hi O1 h1 H1 S1 hr w1 => ⟨hr.1, fun q hq => Post.new (show Post X W sg O1 H1 (.ok (.tup (rngD lo hi)) h1) (RepX X) Q from w1) S1 hq _ (frz_tup S1 hq hr.2 (rg_ok O1 lo hi))⟩⟩
end
end SI
end
section
set_option Elab.async false
set_option linter.all false
set_option maxRecDepth 100000
set_option maxHeartbeats 4000000
/-! SI15: statements. -/
namespace SI
open PySem PySem.Spec PyProof.Rows L2

section
variable (X : Cx) (W : WX)
/-- what is wanted behind a plain outcome of statements -/
def PostS (Dn : Ends) (O : Om) (H : Hp) (r : SRes) : Prop := match r with
  | .nx env' h' => ∀ (O' : Om) (sg' : L2.St) (H' : Hp), Stp O H O' H' → SR X.K X.mg O' h' H' → NvOk X.K X.mg O' env' sg' → Dn.nx sg' H'
  | .bk env' h' => ∀ (O' : Om) (sg' : L2.St) (H' : Hp), Stp O H O' H' → SR X.K X.mg O' h' H' → NvOk X.K X.mg O' env' sg' → Dn.bk sg' H'
  | .ct env' h' => ∀ (O' : Om) (sg' : L2.St) (H' : Hp), Stp O H O' H' → SR X.K X.mg O' h' H' → NvOk X.K X.mg O' env' sg' → Dn.ct sg' H'
  | .rt d h' => ∀ (O' : Om) (v : V) (H' : Hp), Stp O H O' H' → SR X.K X.mg O' h' H' → RepX X O' d v → Dn.rt v H'
  | .ex e env' h' => ∀ (O' : Om) (cls : Value) (d : Option Addr) (sg' : L2.St) (H' : Hp), Stp O H O' H' → SR X.K X.mg O' h' H' → NvOk X.K X.mg O' env' sg' → ExOk X.K X.mg O' e cls d → W cls d sg' H'
  | .no => False
def tS (f : Nv → Hs → SRes) : TS := fun Dn sg H => ∃ (O : Om) (env : Nv) (h : Hs), NvOk X.K X.mg O env sg ∧ SR X.K X.mg O h H ∧ PostS X W Dn O H (f env h)
end
section
variable {X : Cx} {W : WX} {G : Wr} {k : Nat} {T : Tab} {a b e o i : Expr} {es : List Expr} {p pos apos : Pos} {fa fb fc : Nv → Hs → Res D} {fs : Nv → Hs → Res (List D)} {ft : Nv → Hs → Res Bool} {x m : Str} {f g : Nv → Hs → SRes} {st : Stmt} {sts : List Stmt}
theorem PostS.weak {Dn : Ends} {O O1 : Om} {H H1 : Hp} {r : SRes} (p : PostS X W Dn O H r) (s : Stp O H O1 H1) : PostS X W Dn O1 H1 r := by
  cases r with
  | nx env h => exact fun O' sg' H' t => p O' sg' H' (s.trans t)
  | bk env h => exact fun O' sg' H' t => p O' sg' H' (s.trans t)
  | ct env h => exact fun O' sg' H' t => p O' sg' H' (s.trans t)
  | rt d h => exact fun O' v H' t => p O' v H' (s.trans t)
  | ex e env h => exact fun O' c d sg' H' t => p O' c d sg' H' (s.trans t)
  | no => exact p
/-- an expression, then what comes of it -/
theorem PostS.bind {α β : Type} {Dn : Ends} {O : Om} {H : Hp} {env : Nv} {sg : L2.St} {r : Res α} {g : α → Hs → SRes} {rep : Om → α → β → Prop} {Q' : β → Hp → Prop} (p : PostS X W Dn O H (r.sbind env g)) (eo : NvOk X.K X.mg O env sg)
    (k : ∀ (a : α) (h1 : Hs) (O1 : Om) (b : β) (H1 : Hp), r = .ok a h1 → Stp O H O1 H1 → SR X.K X.mg O1 h1 H1 → rep O1 a b → PostS X W Dn O1 H1 (g a h1) → Q' b H1) : Post X W sg O H r rep Q' := by
  cases r with
  | ok a h => exact fun O' b H' s sr rb => k a h O' b H' rfl s sr rb (PostS.weak p s)
  | ex e h => exact fun O' c d H' s sr x => p O' c d sg H' s sr (eo.stp s) x
  | no => exact p
theorem sS_never : PS X st (tS X W fun _ _ => .no) := PS.weak ps_never fun Dn sg H ⟨O, env, h, eo, S, w⟩ => w
/-- what a stored value comes to -/
theorem asg_post {Dn : Ends} {O : Om} {H : Hp} {h : Hs} {env : Nv} {sg : L2.St} {d : D} {v : V} {tg : Tg} (S : SR X.K X.mg O h H) (eo : NvOk X.K X.mg O env sg) (r : RepX X O d v) (w : PostS X W Dn O H (match asg tg d env with
      | some env => .nx env h
      | none => .no)) : gT X tg v sg H Dn.nx := by
  cases ea : asg tg d env with
  | none => rw [ea] at w; exact w.elim
  | some env' =>
    rw [ea] at w
    exact ⟨O, h, d, env, env', S, eo, r, ea, fun sg' e' _ => w O sg' H (Stp.refl _ _) S e'⟩
/-- t = e -/
theorem sS_set {tg : Tg} {t : Expr} (ha : PE X e (tE X W fa)) (hg : PG X t (gT X tg)) (hs : swapsWithSole [t] e pos.line X.env = pure false) (hw : swappedStores [t] e X.env = pure none) (ht : starless t = true) :
    PS X (.Assign [t] e pos) (tS X W fun env h => (fa env h).sbind env fun d h => match asg tg d env with
      | some env => .nx env h
      | none => .no) :=
  PS.weak (ps_asg ha hg hs hw (by rw [asgE_cons ht]; rfl)) fun Dn sg H ⟨O, env, h, eo, S, w⟩ => ⟨O, env, h, eo, S, PostS.bind w eo fun d h1 O1 v H1 _ s1 S1 r1 p1 => asg_post S1 (eo.stp s1) r1 p1⟩
/-- a, b = e, f -/
theorem sS_par {i j : Nat} {y : Str} {px py pt : Pos} {kt k2 : Nat} {pt2 : Pos} (hc : X.calm = true) (hN : X.N.Nodup) (hi : X.N[i]? = some x) (hj : X.N[j]? = some y) (hij : i ≠ j) (hx : X.env.scope.names.lookup x = some .local) (hy : X.env.scope.names.lookup y = some .local)
    (hs : starless a = true) (ht : starless b = true) (ha : PE X a (tE X W fa)) (hb : PE X b (tE X W fb)) (hw : swappedStores [.Tuple [.Name x px, .Name y py] kt pt] (.Tuple [a, b] k2 pt2) X.env = pure (some [x, y])) :
    PS X (.Assign [.Tuple [.Name x px, .Name y py] kt pt] (.Tuple [a, b] k2 pt2) pos) (tS X W fun env h => (fa env h).sbind env fun x h => (fb env h).sbind env fun y h => .nx ((env.set i (some x)).set j (some y)) h) :=
  PS.weak (ps_par hc hN hi hj hij hx hy (sA_cons hs ha (sA_one ht hb)) hw) fun Dn sg H ⟨O, env, h, eo, S, w⟩ => ⟨O, env, h, eo, S, by
    show Post X W sg O H ((fa env h).bind fun d h => ((fb env h).bind fun d2 h => Res.ok [d2] h).bind fun ds h => .ok (d :: ds) h) (RepLX X) _
    have w : PostS X W Dn O H ((fa env h).sbind env fun x h => (fb env h).sbind env fun y h => .nx ((env.set i (some x)).set j (some y)) h) := w
    cases er : fa env h with
    | no => rw [er] at w; exact w
    | ex e1 h1 => rw [er] at w; exact fun O' c d H' s sr x => w O' c d sg H' s sr (eo.stp s) x
    | ok d h1 =>
      rw [er] at w
      have w : PostS X W Dn O H ((fb env h1).sbind env fun y h => .nx ((env.set i (some d)).set j (some y)) h) := w
      show Post X W sg O H (((fb env h1).bind fun d2 h => Res.ok [d2] h).bind fun ds h => .ok (d :: ds) h) (RepLX X) _
      cases er2 : fb env h1 with
      | no => rw [er2] at w; exact w
      | ex e1 h1 => rw [er2] at w; exact fun O' c d H' s sr x => w O' c d sg H' s sr (eo.stp s) x
      | ok d2 h2 =>
        rw [er2] at w
        intro O2 vs H2 s2 S2 r2
        cases r2 with
        | cons ra t =>
          cases t with
          | cons rb t =>
            cases t
            exact ⟨_, _, rfl, w O2 _ H2 s2 S2 (((eo.stp s2).set i ra).set j rb)⟩⟩
/-! ### o[i] = e -/
def rSetD : TSet := fun o i v H Q => ∃ a H', o = .ref a ∧ DPut H a i v H' ∧ Q H'
theorem set_dict (hu : X.A.units + 1 < cLine) : PSet X rSetD := fun pn s sg H o i v ov iv u Q I ro ri rv ⟨a, H', e, g, q⟩ => by
  subst e
  obtain rfl : ov = Value.ref a := ro
  exact d_setItem hu I g ri rv fun s' I' => ⟨H', I', q⟩
theorem PSet.or {t t' : TSet} (h : PSet X t) (h' : PSet X t') : PSet X fun o i v H Q => t o i v H Q ∨ t' o i v H Q := fun pn s sg H o i v ov iv u Q I ro ri rv q => by
  rcases q with q | q
  · exact h pn s sg H o i v ov iv u Q I ro ri rv q
  · exact h' pn s sg H o i v ov iv u Q I ro ri rv q
theorem set_ok {O : Om} {H : Hp} {h h' : Hs} (S : SR X.K X.mg O h H) {o i v : D} {ov iv u : V} (ro : RepX X O o ov) (ri : RepX X O i iv) (rv : RepX X O v u) (e : setIxD h o i v = some h') {Q : Hp → Prop} (q : ∀ H', Stp O H O H' → SR X.K X.mg O h' H' → Q H') :
    rSetL ov iv u H Q ∨ rSetD ov iv u H Q := by
  unfold setIxD at e
  split at e
  · rename_i n
    split at e
    · rename_i xs hn
      split at e
      · rename_i j
        split at e
        · rename_i j' hj
          cases e
          obtain ⟨hlt, vs, hv, z, rl⟩ := S.at hn
          cases ro
          rw [ri.int_inv]
          rw [rl.length] at hj
          obtain ⟨s3, S3⟩ := S.put (o := .lst (vs.set j' u)) hn (by simp) (c := .lst (xs.set j' v)) ⟨_, upd_same, by rw [List.length_set]; exact z, rl.set j' rv⟩
          exact .inl ⟨_, vs, j, j', rfl, rfl, hv, hj, q _ s3 S3⟩
        · cases e
      · cases e
    · rename_i c _ hn
      split at e
      · rename_i c' hp
        cases e
        obtain ⟨H', g, s3, S3⟩ := dput_ok S hn ri rv hp
        cases ro
        exact .inr ⟨_, H', rfl, g, q _ s3 S3⟩
      · cases e
    · cases e
  · cases e
theorem assign_ix (h : sliceless i = true) {opos : Pos} {env : PySem.Env} : ∀ v, assign (.Subscript o i opos) env v = (do
      let ov ← holding [v] (eval o env)
      let iv ← holding [v, ov] (eval i env)
      standAt opos
      holding [v, ov, iv] (setItem ov iv v)
      release [v, ov, iv] []) := by
  intro v
  cases i <;> first | rfl | cases h
theorem no_swapS (hs : compless e = true) (t : Expr) (l : Nat) (env : PySem.Env) : swapsWithSole [t] e l env = pure false := no_swap hs _ _ _
theorem sS_setix {opos : Pos} (c : XOk X W G k T) (hi : sliceless i = true) (ho : PE X o (tE X W fa)) (hx : PE X i (tE X W fb)) (he : PE X e (tE X W fc)) (hs : compless e = true) :
    PS X (.Assign [.Subscript o i opos] e pos) (tS X W fun env h => (fc env h).sbind env fun v h => (fa env h).sbind env fun x h => (fb env h).sbind env fun y h => match setIxD h x y v with
      | some h => .nx env h
      | none => .no) :=
  PS.weak (ps_asg he (pg_sub ho hx (PSet.or set_list (set_dict (by have := c.room.units; omega))) (assign_ix hi)) (no_swapS hs _ _ _) (by cases e <;> rfl) (by rfl)) fun Dn sg H ⟨O, env, h, eo, S, w⟩ =>
    ⟨O, env, h, eo, S, PostS.bind w eo fun v h1 O1 vv H1 _ s1 S1 r1 p1 => ⟨O1, env, h1, eo.stp s1, S1, PostS.bind p1 (eo.stp s1) fun x h2 O2 xv H2 _ s2 S2 r2 p2 => ⟨O2, env, h2, (eo.stp s1).stp s2, S2, PostS.bind p2 ((eo.stp s1).stp s2) fun y h3 O3 yv H3 _ s3 S3 r3 p3 => by
      cases es : setIxD h3 x y v with
      | none => rw [es] at p3; exact p3.elim
      | some h' =>
        rw [es] at p3
        exact set_ok S3 (r2.stp s3) r3 ((r1.stp s2).stp s3) es fun H' s4 S4 => p3 O3 sg H' s4 S4 ((((eo.stp s1).stp s2).stp s3).stp s4)⟩⟩⟩
/-! ### o.f = e -/
theorem putF_ok {O : Om} {f : Str} {d : D} {v : V} (q : RepX X O d v) : ∀ {ds : List (Str × D)} {ws : List (Str × V)}, RepP X.K X.mg O ds ws → RepP X.K X.mg O (putFD f d ds) (putF f v ws)
  | _, _, .nil => .cons q .nil
  | _, _, .cons (k := k) r t => by
    unfold putFD putF
    by_cases h : k = f
    · simp only [h, if_true]; exact .cons q t
    · simp only [h, if_false]; exact .cons r (putF_ok q t)
theorem sS_setf {f : Str} {opos : Pos} (c : XOk X W G k T) (hf : f ∈ T.attrs) (ho : PE X o (tE X W fa)) (he : PE X e (tE X W fc)) (hs : compless e = true) :
    PS X (.Assign [.Attribute o f opos] e pos) (tS X W fun env h => (fc env h).sbind env fun v h => (fa env h).sbind env fun x h => match setFD G h x f v with
      | some h => .nx env h
      | none => .no) :=
  PS.weak (ps_fld ho he (no_swap hs _ _ _)) fun Dn sg H ⟨O, env, h, eo, S, w⟩ =>
    ⟨O, env, h, eo, S, PostS.bind w eo fun v h1 O1 vv H1 _ s1 S1 r1 p1 => ⟨O1, env, h1, eo.stp s1, S1, PostS.bind p1 (eo.stp s1) fun x h2 O2 xv H2 _ s2 S2 r2 p2 => by
      cases es : setFD G h2 x f v with
      | none => rw [es] at p2; exact p2.elim
      | some h' =>
        rw [es] at p2
        cases x with
        | ptr n =>
          simp only [setFD] at es
          split at es
          · rename_i C fl hn
            split at es
            · rename_i hg
              cases es
              simp only [Bool.and_eq_true, decide_eq_true_eq] at hg
              obtain ⟨hlt, cl, dx, ws, hm, ha, rp⟩ := S2.at hn
              have q := c.wf.cls C hg.1 cl hm
              cases r2
              obtain ⟨s3, S3⟩ := S2.put (o := .ins cl dx (putF f vv ws)) hn (by simp) (c := .ins C (putFD f v fl)) ⟨cl, dx, _, hm, upd_same, putF_ok (r1.stp s2) rp⟩
              exact ⟨_, cl, dx, ws, rfl, ha, q.1.cl, q.2.1 f hf, by rw [← rp.len]; exact hg.2, p2 O2 sg _ s3 S3 (((eo.stp s1).stp s2).stp s3)⟩
            · cases es
          · cases es
        | _ => cases es⟩⟩
/-! ### the rest -/
theorem sS_ex (ha : PE X e (tE X W fa)) (hs : compless e = true) : PS X (.Expr e pos) (tS X W fun env h => (fa env h).sbind env fun _ h => .nx env h) :=
  PS.weak (ps_expr ha (no_swap hs _ _ _)) fun Dn sg H ⟨O, env, h, eo, S, w⟩ => ⟨O, env, h, eo, S, PostS.bind w eo fun d h1 O1 v H1 _ s1 S1 r1 p1 => p1 O1 sg H1 (Stp.refl _ _) S1 (eo.stp s1)⟩
theorem sS_ret (ha : PE X e (tE X W fa)) : PS X (.Return (some e) pos) (tS X W fun env h => (fa env h).sbind env fun d h => .rt d h) :=
  PS.weak (ps_ret ha) fun Dn sg H ⟨O, env, h, eo, S, w⟩ => ⟨O, env, h, eo, S, PostS.bind w eo fun d h1 O1 v H1 _ s1 S1 r1 p1 => p1 O1 v H1 (Stp.refl _ _) S1 r1⟩
theorem sS_retN : PS X (.Return none pos) (tS X W fun _ h => .rt .non h) := PS.weak ps_retN fun Dn sg H ⟨O, env, h, eo, S, w⟩ => w O _ H (Stp.refl _ _) S .non
theorem sS_pass : PS X (.Pass pos) (tS X W fun env h => .nx env h) := PS.weak ps_pass fun Dn sg H ⟨O, env, h, eo, S, w⟩ => w O sg H (Stp.refl _ _) S eo
theorem sS_brk : PS X (.Break pos) (tS X W fun env h => .bk env h) := PS.weak ps_break fun Dn sg H ⟨O, env, h, eo, S, w⟩ => w O sg H (Stp.refl _ _) S eo
theorem sS_cnt : PS X (.Continue pos) (tS X W fun env h => .ct env h) := PS.weak ps_continue fun Dn sg H ⟨O, env, h, eo, S, w⟩ => w O sg H (Stp.refl _ _) S eo
theorem sS_doc {z : Str} {j : Nat} {p2 : Pos} : PS X (.Expr (.Constant (.str z) j p2) pos) (tS X W fun env h => .nx env h) := PS.weak ps_doc fun Dn sg H ⟨O, env, h, eo, S, w⟩ => w O sg H (Stp.refl _ _) S eo
theorem sSs_nil : PSs X [] (tS X W fun env h => .nx env h) := PSs.weak pss_nil fun Dn sg H ⟨O, env, h, eo, S, w⟩ => w O sg H (Stp.refl _ _) S eo
theorem then_post {Dn : Ends} {O : Om} {H : Hp} {r : SRes} (w : PostS X W Dn O H (r.then g)) : PostS X W { Dn with nx := tS X W g Dn } O H r := by
  cases r with
  | nx env h => exact fun O' sg' H' s S e => ⟨O', env, h, e, S, PostS.weak w s⟩
  | _ => exact w
theorem sSs_cons (h1 : PS X st (tS X W f)) (h2 : PSs X sts (tS X W g)) : PSs X (st :: sts) (tS X W fun env h => (f env h).then g) :=
  PSs.weak (pss_cons h1 h2) fun Dn sg H ⟨O, env, h, eo, S, w⟩ => ⟨O, env, h, eo, S, then_post w⟩
/-- a note of the reader's: the list changes no more -/
theorem sSs_frz {j : Nat} (h2 : PSs X sts (tS X W g)) : PSs X sts (tS X W fun env h => (match get env j with
      | some (.ptr p) => match h[p]? with
        | some (.lst xs) => .nx (env.set j (some (.lst xs))) (h.set p .dead)
        | _ => .no
      | some (.lst xs) => .nx env h
      | _ => .no : SRes).then g) :=
  PSs.weak h2 fun Dn sg H ⟨O, env, h, eo, S, w⟩ => by
    have w : PostS X W Dn O H ((match get env j with
      | some (.ptr p) => match h[p]? with
        | some (.lst xs) => .nx (env.set j (some (.lst xs))) (h.set p .dead)
        | _ => .no
      | some (.lst xs) => .nx env h
      | _ => .no : SRes).then g) := w
    split at w
    · rename_i n hg
      split at w
      · rename_i xs hn
        obtain ⟨O2, s2, S2, r2⟩ := S.freeze hn
        obtain ⟨v, hv, rv⟩ := get_ok eo hg
        cases rv
        refine ⟨O2, _, _, ?_, S2, PostS.weak w s2⟩
        have z := (eo.stp s2).set j r2
        rwa [show sg.set j (some (.ref (O.φ n))) = sg by
          apply List.ext_getElem?
          intro q
          by_cases hq : j = q
          · subst hq
            rw [List.getElem?_set_self (List.getElem?_eq_some_iff.mp hv).1, hv]
          · rw [List.getElem?_set_ne hq]] at z
      · exact w.elim
    · exact ⟨O, env, h, eo, S, w⟩
    · exact w.elim
theorem sS_ife {ss ts : List Stmt} (hc : PT X e (tT X W ft)) (ha : PSs X ss (tS X W f)) (hb : PSs X ts (tS X W g)) : PS X (.If e ss ts pos) (tS X W fun env h => (ft env h).sbind env fun k h => if k then f env h else g env h) :=
  PS.weak (ps_if hc ha hb) fun Dn sg H ⟨O, env, h, eo, S, w⟩ => ⟨O, env, h, eo, S, PostS.bind w eo fun c h1 O1 c' H1 _ s1 S1 r1 p1 => by
    cases (show c = c' from r1)
    cases c with
    | true => rw [if_pos rfl] at p1 ⊢; exact ⟨O1, env, h1, eo.stp s1, S1, p1⟩
    | false => rw [if_neg (by decide)] at p1 ⊢; exact ⟨O1, env, h1, eo.stp s1, S1, p1⟩⟩
/-- for t in ..: -/
theorem sS_loop {tg : Tg} {t iter : Expr} {body : List Stmt} {kS : SrcK} (c : XOk X W G k T) (hp : PassesOwn (model X.prog X.w) X.A X.env X.xe) (hi : PI X t iter (tI X W kS fs)) (hg : PG X t (gT X tg)) (hb : PSs X body (tS X W f)) (hs : setless iter = true) :
    PS X (.For t iter body [] pos) (tS X W fun env h => (fs env h).sbind env fun ds h => match srcD kS ds with
      | some xs => forLoop (fun x env h => match asg tg x env with
        | some env => f env h
        | none => .no) xs env h
      | none => .no) :=
  PS.weak (ps_for hp c.calm hi hg hb (fold_set hs X.env)) fun Dn sg H ⟨O, env, h, eo, S, w⟩ => ⟨O, env, h, eo, S, by
    have w : PostS X W Dn O H ((fs env h).sbind env fun ds h => match srcD kS ds with
      | some xs => forLoop (fun x env h => match asg tg x env with
        | some env => f env h
        | none => .no) xs env h
      | none => .no) := w
    cases er : fs env h with
    | no => rw [er] at w; exact w.elim
    | ex e1 h1 => rw [er] at w; exact fun O' c d H' s sr x => w O' c d sg H' s sr (eo.stp s) x
    | ok ds h1 =>
      rw [er] at w
      have w : PostS X W Dn O H (match srcD kS ds with
        | some xs => forLoop (fun x env h => match asg tg x env with
          | some env => f env h
          | none => .no) xs env h1
        | none => .no) := w
      show Post X W sg O H (Res.of (srcD kS ds) h1) (SrcOk X) _
      cases ex : srcD kS ds with
      | none => rw [ex] at w; exact w.elim
      | some xs =>
        rw [ex] at w
        intro O1 J H1 s1 S1 ⟨Gd, Y, wk, hG, hY⟩
        refine for_it wk (fun i sg' H' => ∃ O' env' h', SR X.K X.mg O' h' H' ∧ NvOk X.K X.mg O' env' sg' ∧ Stp O1 H1 O' H' ∧ PostS X W Dn O' H' (forLoop (fun x env h => match asg tg x env with
        | some env => f env h
        | none => .no) (xs.drop i) env' h')) ⟨O1, env, h1, S1, eo.stp s1, Stp.refl _ _, PostS.weak w s1⟩ (fun i sg' H' hi ⟨O', env', h', S', e', st, p'⟩ => hG O' h' H' st.le S') ?_ ?_
        · intro i x sg' Ha H' hi ⟨O', env', h', S', e', st, p'⟩ hy
          have hd : xs[i]? = some xs[i] := List.getElem?_eq_getElem hi
          obtain ⟨O2, s2, S2, r2⟩ := hY O' h' Ha i _ x H' st.le S' hd hy
          rw [List.drop_eq_getElem_cons hi] at p'
          generalize xs[i] = d at p' r2
          have p2 := PostS.weak p' s2
          cases ea : asg tg d env' with
          | none => simp only [forLoop, ea] at p2; exact p2.elim
          | some env2 =>
            simp only [forLoop, ea] at p2
            refine ⟨O2, h', d, env', env2, S2, e'.stp s2, r2, ea, fun sg2 e2 _ => ⟨O2, env2, h', e2, S2, ?_⟩⟩
            cases ef : f env2 h' with
            | nx env3 h3 => rw [ef] at p2; exact fun O3 sg3 H3 s3 S3 e3 => ⟨O3, env3, h3, S3, e3, (st.trans s2).trans s3, PostS.weak p2 s3⟩
            | ct env3 h3 => rw [ef] at p2; exact fun O3 sg3 H3 s3 S3 e3 => ⟨O3, env3, h3, S3, e3, (st.trans s2).trans s3, PostS.weak p2 s3⟩
            | bk env3 h3 => rw [ef] at p2; exact p2
            | rt d3 h3 => rw [ef] at p2; exact p2
            | ex e3 env3 h3 => rw [ef] at p2; exact p2
            | no => rw [ef] at p2; exact p2
        · intro sg' H' ⟨O', env', h', S', e', st, p'⟩
          rw [List.drop_length] at p'
          exact p' O' sg' H' (Stp.refl _ _) S' e'⟩
end
end SI
end
section
set_option Elab.async false
set_option linter.all false
set_option maxRecDepth 100000
set_option maxHeartbeats 4000000
/-! SI16: from the text to the small language. -/
namespace SI
open PySem PySem.Spec PyProof.Rows L2

/-- what is known where a text stands -/
structure Ctx where
  N : List Str
  raw : Scope
  sc : Scope
  all : Bool
  T : Tab
  mu : List Str
  frz : List Str
  dT : List Str
  tk : List Str
def ixOf (N : List Str) (x : Str) : Option Nat := if N[N.idxOf x]? = some x then some (N.idxOf x) else none
theorem ixOf_ok {N : List Str} {x : Str} {i : Nat} (h : ixOf N x = some i) : N[i]? = some x := by
  unfold ixOf at h
  split at h
  · cases h; assumption
  · cases h
def Ctx.gl (C : Ctx) (x : Str) : Bool := decide (C.sc.names.lookup x = some .globalImplicit)
def Ctx.vis (C : Ctx) (x : Str) : Bool := decide (C.sc.names.lookup x = some .local ∨ C.sc.names.lookup x = some .cell ∨ C.sc.names.lookup x = some .free)
def Ctx.asn (C : Ctx) (x : Str) : Bool := decide (C.sc.names.lookup x = some .local) || (decide (C.sc.names.lookup x = some .cell) && (C.all || (C.raw.names.lookup x == some .cell)))
def Ctx.free (C : Ctx) (x : Str) : Bool := C.gl x && decide (x ∈ C.T.free)
def noDbg (x : Str) : Bool := !(x == ("__debug__" : Str)) && !(x == ("__classdict__" : Str))
def mapO {α β : Type} (g : α → Option β) : List α → Option (List β)
  | [] => some []
  | a :: as => match g a with
    | some b => match mapO g as with
      | some bs => some (b :: bs)
      | none => none
    | none => none
def bopOf : Operator → Option Bop
  | .Add => some .add
  | .Sub => some .sub
  | .Mult => some .mul
  | .FloorDiv => some .fdiv
  | .Mod => some .mod
  | .Pow => some .pow
  | _ => none
def copOf : CmpOp → Cop
  | .Eq => .eq
  | .NotEq => .ne
  | .Lt => .lt
  | .LtE => .le
  | .Gt => .gt
  | .GtE => .ge
  | .In => .isin
  | .NotIn => .notin
  | .Is => .is_
  | .IsNot => .isnot
def biOf (x : Str) : Option Bi :=
  if x = "len" then some .len else if x = "all" then some .all else if x = "any" then some .any else if x = "tuple" then some .tuple else if x = "list" then some .list else
  if x = "int" then some .int else if x = "bool" then some .bool else if x = "repr" then some .repr else if x = "abs" then some .abs else none
def compTy (C : Ctx) : Expr → Option (Sum String Str)
  | .Name x _ => if C.gl x then (if x ∈ C.T.cls ∧ (x == ("__debug__" : Str)) = false then some (.inr x) else match bTys.find? fun n => Str.ofString n == x with
    | some n => if x ∈ C.T.free then some (.inl n) else none
    | none => none) else none
  | _ => none
def compTg : Nat → Ctx → Expr → Option Tg
  | 0, _, _ => none
  | _ + 1, C, .Name x _ => if C.asn x then (ixOf C.N x).map .n else none
  | f + 1, C, .Tuple es _ _ => if es.all starless then (mapO (compTg f C) es).map .t else none
  | _ + 1, _, _ => none
def compB (g : Expr → Option IE) (op : PySem.BoolOp) : List Expr → Option IE
  | [] => none
  | [a] => g a
  | a :: rest => match g a with
    | some x => match compB g op rest with
      | some y => some (match op with
        | .And => .and x y
        | .Or => .or x y)
      | none => none
    | none => none
def compC (g : Expr → Option IE) (a : Expr) : List CmpOp → List Expr → Option IE
  | [o], [b] => if setless b = true then (match g a with
    | some x => match g b with
      | some y => some (.cmp (copOf o) x y)
      | none => none
    | none => none) else none
  | [o, o2], [b, c] => if setless b = true ∧ setless c = true then (match g a with
    | some x => match g b with
      | some y => match g c with
        | some z => some (.chain (copOf o) (copOf o2) x y z)
        | none => none
      | none => none
    | none => none) else none
  | _, _ => none
def isRange (C : Ctx) : Expr → Option (List Expr)
  | .Call (.Name x _) args [] _ => if x = "range" ∧ C.free x = true ∧ args.all starless = true then some args else none
  | _ => none
def isTup : Expr → Bool
  | .Tuple .. => true
  | _ => false
def compO (g : Expr → Option IE) : Option Expr → Option (Option IE)
  | none => some none
  | some e => (g e).map some
/-- what is walked -/
def compI (C : Ctx) (g : Expr → Option IE) (tg : Expr) : Expr → Option (SrcK × List IE)
  | .Call (.Name x p) args [] pos => if x = "range" ∧ C.free x = true then (if args.all starless = true ∧ (args.length = 1 ∨ args.length = 2) then (mapO g args).map fun l => (.rng, l) else none)
    else if x = "zip" ∧ C.free x = true then (if args.all starless = true ∧ args.length = 2 ∧ isTup tg = true then (mapO g args).map fun l => (.zip, l) else none)
    else if x = "enumerate" ∧ C.free x = true then (if args.all starless = true ∧ args.length = 1 ∧ isTup tg = true then (mapO g args).map fun l => (.enum, l) else none)
    else (g (.Call (.Name x p) args [] pos)).map fun e => (.seq, [e])
  | e => if setless e = true then (g e).map fun e => (.seq, [e]) else none
/-- the block of a comprehension -/
def Ctx.blk (C : Ctx) (scope : Scope) : Ctx := { C with raw := scope, sc := relS scope C.sc, all := false }
def ownOf (N : List Str) (scope : Scope) : List (Str × Nat) := scope.names.filterMap fun q => match q.2 with
  | .local => (ixOf N q.1).map fun i => (q.1, i)
  | .cell => (ixOf N q.1).map fun i => (q.1, i)
  | _ => none
def keyStr : Option Expr → Option Str
  | some (.Constant (.str z) _ _) => some z
  | _ => none
def compDs (g : Nat → Expr → Option IE) (tk : List Str) : List (Option Expr) → List Expr → Option (List Str × List IE)
  | [], [] => some ([], [])
  | k :: ks, v :: vs => match keyStr k with
    | some z => match g (if z ∈ tk then 2 else 0) v with
      | some e => match compDs g tk ks vs with
        | some (zs, es) => some (z :: zs, e :: es)
        | none => none
      | none => none
    | none => none
  | _, _ => none
mutual
def compE : Nat → Ctx → Nat → Expr → Option IE
  | 0, _, _, _ => none
  | f + 1, C, m, e => match e with
    | .Constant c _ _ => match c with
      | .int i => some (.c (.int i))
      | .bool i => some (.c (.bl i))
      | .str i => some (.c (.str i))
      | .none => some (.c .non)
      | _ => none
    | .Name x _ => if noDbg x = true then (if C.vis x = true then (ixOf C.N x).map .v else if C.gl x = true then (C.T.cst.lookup x).map .c else none) else none
    | .Tuple es _ _ => if es.all starless = true ∧ es.length ≤ 1000 then (mapO (compE f C 0) es).map .tup else none
    | .List es _ => if es.all starless = true ∧ es.length ≤ 1000 then (mapO (compE f C 0) es).map (.lst (m == 1)) else none
    | .BinOp a op b _ => match bopOf op with
      | some o => match compE f C 0 a with
        | some x => match compE f C 0 b with
          | some y => some (.bin o x y)
          | none => none
        | none => none
      | none => none
    | .UnaryOp op a _ => match op with
      | .USub => (compE f C 0 a).map .neg
      | .Not => (compE f C 0 a).map .not
      | _ => none
    | .BoolOp op vs _ => compB (compE f C 0) op vs
    | .Compare a ops bs _ => compC (compE f C 0) a ops bs
    | .IfExp c a b _ => match compT f C c with
      | some z => match compE f C 0 a with
        | some x => match compE f C 0 b with
          | some y => some (.ife z x y)
          | none => none
        | none => none
      | none => none
    | .Attribute o g _ => if superless o = true ∧ g ∈ C.T.attrs then (compE f C 0 o).map fun x => .fld x g else none
    | .Subscript o i _ => match i with
      | .Slice lo hi st _ => match st with
        | none => match compE f C 0 o with
          | some x => match compO (compE f C 0) lo with
            | some l => match compO (compE f C 0) hi with
              | some h => some (.sl x l h)
              | none => none
            | none => none
          | none => none
        | some _ => none
      | i => if sliceless i = true then (match compE f C 0 o with
        | some x => match compE f C 0 i with
          | some y => some (.ix x y)
          | none => none
        | none => none) else none
    | .ListComp elt gens scope _ => match gens with
      | [⟨tg, iter, ifs, as⟩] => if as = 0 ∧ setless iter = true ∧ blkC C.N C.sc scope (ownOf C.N scope) = true then (match compI C (compE f C 0) tg iter with
        | some (k, args) => match compTg f (C.blk scope) tg with
          | some t => if (ids t).all (fun j => decide (j ∈ (ownOf C.N scope).map (·.2))) = true then (match compE f (C.blk scope) 0 elt with
            | some x => match ifs with
              | [] => some (.comp (m == 1) x t k args none ((ownOf C.N scope).map (·.2)))
              | [c] => match compT f (C.blk scope) c with
                | some y => some (.comp (m == 1) x t k args (some y) ((ownOf C.N scope).map (·.2)))
                | none => none
              | _ => none
            | none => none) else none
          | none => none
        | none => none) else none
      | _ => none
    | .Dict keys vals _ => match keys with
      | [] => match vals with
        | [] => some (.dic (m == 2))
        | _ => none
      | keys => match compDs (compE f C) C.tk keys vals with
        | some (zs, es) => if keys.length ≤ 15 ∧ zs.Nodup then some (.dicd zs es) else none
        | none => none
    | .Call fn args kws pos => match kws with
      | [] => if args.all starless = true then (match fn with
        | .Name x _ => if C.gl x = true ∧ noDbg x = true then (
            if x ∈ C.T.fns then (mapO (compE f C 0) args).map (.call x)
            else if x ∈ C.T.cls then (mapO (compE f C 0) args).map (.make x)
            else if x ∈ C.T.free then (match args with
              | [a] => match isRange C a with
                | some rs => if rs.length = 1 ∨ rs.length = 2 then (if x = "list" then (mapO (compE f C 0) rs).map (.rngs true (m == 1)) else if x = "tuple" then (mapO (compE f C 0) rs).map (.rngs false false) else none) else none
                | none => if m = 1 then none else match biOf x with
                  | some b => (compE f C 0 a).map (.bi b)
                  | none => none
              | [a, t] => if x = "isinstance" then (match compE f C 0 a with
                | some y => match compTy C t with
                  | some z => some (.isi y [z])
                  | none => none
                | none => none) else none
              | _ => none)
            else none) else none
        | .Attribute o mm apos => if superless o = true ∧ apos.endLine = pos.line ∧ args.length < 30 then (
            match (match o with
              | .Name c _ => if (c, mm) ∈ C.T.cms ∧ C.gl c = true ∧ noDbg c = true then some c else none
              | _ => none) with
            | some c => (mapO (compE f C 0) args).map (.cmeth c mm)
            | none => match compE f C 0 o with
              | some y => match mapO (compE f C 0) args with
                | some zs => match args with
                  | [_] => if mm = "append" then some (.bm .append y zs) else if mm = "extend" then some (.bm .extend y zs) else if mm = "pop" then some (.bm .pop1 y zs) else some (.meth y mm zs)
                  | [_, _] => if mm = "get" then some (.bm .get2 y zs) else some (.meth y mm zs)
                  | _ => some (.meth y mm zs)
                | none => none
              | none => none) else none
        | _ => none) else none
      | _ => none
    | _ => none
def compT : Nat → Ctx → Expr → Option IE
  | 0, _, _ => none
  | f + 1, C, e => match e with
    | .UnaryOp op a _ => match op with
      | .Not => (compT f C a).map .not
      | _ => (compE f C 0 e).map .val
    | .BoolOp op vs _ => compB (compT f C) op vs
    | .Compare a ops bs _ => compC (compE f C 0) a ops bs
    | .IfExp .. => none
    | e => if plainT e = true then (compE f C 0 e).map .val else none
end

/-! ### statements -/
def frzs (C : Ctx) : List Expr → List Nat
  | [] => []
  | .Name x _ :: es => if x ∈ C.frz ∧ C.vis x = true then (match ixOf C.N x with
    | some i => i :: frzs C es
    | none => frzs C es) else frzs C es
  | _ :: es => frzs C es
def argsOf : Expr → List Expr
  | .Call _ args _ _ => args
  | .Name x p => [.Name x p]
  | .Tuple es _ _ => es
  | _ => []
def hint (C : Ctx) (x : Str) : Nat := if x ∈ C.mu then 1 else if x ∈ C.dT then 2 else 0
def swB (sc : Scope) (y : Str) (py : Pos) (scope : Scope) (pos : Pos) : Bool := (sc.names.lookup y == some .local) && (py.line == pos.line) && !(scope.names.any fun q => q.1 == y && (q.2 == .local || q.2 == .cell))
def swNames (sc : Scope) (ts : List Expr) : List Str := ts.filterMap fun
  | .Name id pos => if sc.names.lookup id == some .local && pos.line == (ts.head?.map (·.pos.line)).getD 0 then some id else none
  | _ => none
def swNo (sc : Scope) (ts : List Expr) : Expr → Bool
  | .Tuple vs _ _ => decide ((swNames sc ts).length ≠ ts.length) || vs.all (foldedForSure 8)
  | _ => false
def compA (f : Nat) (C : Ctx) (targets : List Expr) (e : Expr) : Option IS := match targets with
  | [.Name x px] => if C.asn x = true ∧ compless e = true then (match ixOf C.N x with
      | some i => (compE f C (hint C x) e).map (.set (.n i))
      | none => none) else (match e with
      | .ListComp elt gs scope pos => if C.asn x = true then (match ixOf C.N x with
        | some i => (compE f C (hint C x) (.ListComp elt gs scope pos)).map (.set (.n i))
        | none => none) else none
      | _ => none)
  | [.Tuple ts k pt] => if swNo C.sc ts e = true then (match compTg f C (.Tuple ts k pt) with
      | some t => (compE f C 0 e).map (.set t)
      | none => none) else if isTup e = true then (match ts, e with
      | [.Name x px, .Name y py], .Tuple [a, b] k2 pt2 =>
        if C.sc.names.lookup x = some .local ∧ C.sc.names.lookup y = some .local ∧ (py.line == px.line) = true ∧ x ≠ y ∧ starless a = true ∧ starless b = true ∧ [a, b].all (foldedForSure 8) = false ∧ [a, b].all (constantsAlone 8) = false then
          (match ixOf C.N x with
          | some i => match ixOf C.N y with
            | some j => if i ≠ j then (match compE f C (hint C x) a with
              | some u => match compE f C (hint C y) b with
                | some v => some (.par i j u v)
                | none => none
              | none => none) else none
            | none => none
          | none => none) else none
      | _, _ => none)
    else if compless e = true then (match compTg f C (.Tuple ts k pt) with
      | some t => (compE f C 0 e).map (.set t)
      | none => none) else none
  | [.Subscript o i _] => if sliceless i = true ∧ compless e = true then (match compE f C 0 o with
      | some x => match compE f C 0 i with
        | some y => match compE f C 0 e with
          | some z => some (.setix x y z)
          | none => none
        | none => none
      | none => none) else none
  | [.Attribute o g _] => if g ∈ C.T.attrs ∧ compless e = true then (match compE f C 0 o with
      | some x => match compE f C 0 e with
        | some z => some (.setf x g z)
        | none => none
      | none => none) else none
  | _ => none
def isDoc : Expr → Bool
  | .Constant (.str _) _ _ => true
  | _ => false
mutual
def compS : Nat → Ctx → Stmt → Option IS
  | 0, _, _ => none
  | f + 1, C, s => match s with
    | .Assign ts e _ => compA f C ts e
    | .Return v _ => match v with
      | none => some .retN
      | some e => (compE f C 0 e).map .ret
    | .Expr e _ => if isDoc e = true then some .pass else if compless e = true then (compE f C 0 e).map .ex else none
    | .If c a b _ => match compT f C c with
      | some x => match compSs f C a with
        | some y => match compSs f C b with
          | some z => some (.ife x y z)
          | none => none
        | none => none
      | none => none
    | .For t iter body els _ => match els with
      | [] => if setless iter = true then (match compI C (compE f C 0) t iter with
        | some (k, args) => match compTg f C t with
          | some tg => match compSs f C body with
            | some b => some (.loop tg k args b)
            | none => none
          | none => none
        | none => none) else none
      | _ => none
    | .Pass _ => some .pass
    | .Break _ => some .brk
    | .Continue _ => some .cnt
    | .Raise .. => some .bad
    | _ => none
def compSs : Nat → Ctx → List Stmt → Option (List IS)
  | 0, _, _ => none
  | f + 1, C, ss => match ss with
    | [] => some []
    | s :: ss => match compS f C s with
      | some x => match compSs f C ss with
        | some xs => some ((match s with
          | .Assign _ e _ => frzs C (argsOf e)
          | .Return (some e) _ => frzs C (argsOf e)
          | _ => []).map IS.frz ++ x :: xs)
        | none => none
      | none => none
end
end SI
end
section
set_option Elab.async false
set_option linter.all false
set_option maxRecDepth 100000
set_option maxHeartbeats 4000000
/-! SI17: the small language keeps to the text: expressions. -/
namespace SI
open PySem PySem.Spec PyProof.Rows L2

structure CxOk (X : Cx) (W : WX) (G : Wr) (k : Nat) (C : Ctx) : Prop where
  x : XOk X W G k C.T
  N : X.N = C.N
  sc : X.env.scope = C.sc
  kind : X.env.scope.kind = .function
  fn : ∀ x, (C.all || (C.raw.names.lookup x == some .cell)) = true → X.fn x = true
section
variable {X : Cx} {W : WX} {G : Wr} {k : Nat} {C : Ctx} {e : Expr} {es : List Expr} {x : Str} {pos p : Pos}
theorem CxOk.gl (c : CxOk X W G k C) (h : C.gl x = true) : Gl X x := by
  show X.env.scope.names.lookup x = _
  rw [c.sc]; exact of_decide_eq_true h
theorem CxOk.vis (c : CxOk X W G k C) (h : C.vis x = true) : Vis X.env.scope x := by
  unfold Vis
  rw [c.sc]; exact of_decide_eq_true h
theorem CxOk.asn (c : CxOk X W G k C) (h : C.asn x = true) : Loc X.env.scope x ∧ (X.fn x = true ∨ X.env.scope.names.lookup x = some .local) := by
  unfold L2.Loc
  rw [c.sc]
  unfold Ctx.asn at h
  simp only [Bool.or_eq_true, Bool.and_eq_true, decide_eq_true_eq] at h
  rcases h with h | ⟨h1, h2⟩
  · exact ⟨.inl h, .inr h⟩
  · exact ⟨.inr h1, .inl (c.fn x (by simp only [Bool.or_eq_true]; exact h2))⟩
theorem CxOk.free (c : CxOk X W G k C) (h : C.free x = true) : Gl X x ∧ X.mg x = none := by
  unfold Ctx.free at h
  simp only [Bool.and_eq_true, decide_eq_true_eq] at h
  exact ⟨c.gl h.1, c.x.wf.free x h.2⟩
theorem CxOk.ix (c : CxOk X W G k C) {i : Nat} (h : ixOf C.N x = some i) : X.N[i]? = some x := by rw [c.N]; exact ixOf_ok h
theorem noDbg_ok (h : noDbg x = true) : (x == ("__debug__" : Str)) = false ∧ (x == ("__classdict__" : Str)) = false := by
  unfold noDbg at h
  simpa using h
theorem Wf.blk {T : Tab} (w : Wf X G k T) (s : Shared) (H : Hp) (scope : Scope) (ce : PySem.Env) (fp : List Addr) : Wf (X.blk s H scope ce fp) G k T :=
  ⟨w.glo, w.call, w.mth, w.meth, w.make, w.cls, w.clg, w.sub, w.cst, w.free, w.cms⟩
theorem CxOk.blk (c : CxOk X W G k C) (s : Shared) (H : Hp) (scope : Scope) (cl : List (Str × Addr)) (a : Addr) (fp : List Addr) (hk : scope.kind = .function) :
    CxOk (X.blk s H scope (compEnvC scope cl a X.env) fp) W0 G k (C.blk scope) :=
  ⟨⟨c.x.room, c.x.grd, fun u s' ⟨_, _, _, _, _, _, _, _, _, _, _, _, _, _, _, _, w⟩ => w.elim, c.x.wf.blk _ _ _ _ _, c.x.nd, c.x.calm⟩, c.N, by
    show relS scope X.env.scope = relS scope C.sc
    rw [c.sc], hk, fun x h => by simpa [Ctx.blk] using h⟩
theorem PE_no : PE X e (tE X W fun _ _ => .no) := ⟨fun pn s sg H Q I ⟨O, env, h, eo, S, w⟩ => w.elim⟩
theorem PT_no : PT X e (tT X W fun _ _ => .no) := ⟨fun pn s sg H Q I ⟨O, env, h, eo, S, w⟩ => w.elim⟩
theorem PI_no {tg : Expr} {kS : SrcK} : PI X tg e (tI X W kS fun _ _ => .no) := ⟨fun pn s sg H Q I ⟨O, env, h, eo, S, w⟩ => w.elim⟩
theorem opt_map {α β : Type} {g : α → β} {o : Option α} {b : β} (h : o.map g = some b) : ∃ a, o = some a ∧ b = g a := by
  cases o with
  | none => cases h
  | some a => cases h; exact ⟨a, rfl, rfl⟩
theorem mapO_len {α β : Type} {g : α → Option β} : ∀ {as : List α} {bs : List β}, mapO g as = some bs → as.length = bs.length
  | [], _, h => by cases h; rfl
  | a :: as, _, h => by
    simp only [mapO] at h
    split at h
    · split at h
      · rename_i hb; cases h; simp [mapO_len hb]
      · cases h
    · cases h
theorem evs_len {f : IE → Nv → Hs → Res D} : ∀ {es : List IE} {env : Nv} {h : Hs} {ds : List D} {h' : Hs}, evs f es env h = .ok ds h' → ds.length = es.length
  | [], _, _, _, _, e => by cases e; rfl
  | a :: as, env, h, ds, h', e => by
    have e : ((f a env h).bind fun d h => (evs f as env h).bind fun ds h => .ok (d :: ds) h) = Res.ok ds h' := e
    cases q : f a env h with
    | ok d h1 =>
      rw [q] at e
      have e : ((evs f as env h1).bind fun ds h => .ok (d :: ds) h) = Res.ok ds h' := e
      cases q2 : evs f as env h1 with
      | ok ds2 h2 => rw [q2] at e; cases e; simp [evs_len q2]
      | ex x h => rw [q2] at e; cases e
      | no => rw [q2] at e; cases e
    | ex x h => rw [q] at e; cases e
    | no => rw [q] at e; cases e
theorem args_ok {n : Nat} {g : Expr → Option IE} (ih : ∀ e ie, g e = some ie → PE X e (tE X W (ev G n ie))) : ∀ {es : List Expr} {ies : List IE}, es.all starless = true → mapO g es = some ies → PA X es (tA X W (evs (ev G n) ies))
  | [], _, _, h => by cases h; exact sA_nil
  | e :: es, _, hs, h => by
    have h1 : starless e = true ∧ es.all starless = true := by simpa using hs
    simp only [mapO] at h
    split at h
    · rename_i ie he
      split at h
      · rename_i ies hb
        cases h
        exact sA_cons h1.1 (ih e ie he) (args_ok ih h1.2 hb)
      · cases h
    · cases h
theorem args_nil' {n : Nat} {g : Expr → Option IE} {ies : List IE} (h : mapO g es = some ies) : es = [] → evs (ev G n) ies = fun _ h => .ok [] h := fun e => by
  subst e
  cases h; rfl
theorem cop_ok (o : CmpOp) : cpOf (copOf o) = o := by cases o <;> rfl
theorem bop_ok {o : Operator} {b : Bop} (h : bopOf o = some b) : opOf b = o := by cases o <;> cases h <;> rfl
theorem boolE {g : Expr → Option IE} {op : PySem.BoolOp} (ih : ∀ n e ie, g e = some ie → PE X e (tE X W (ev G n ie))) : ∀ {vs : List Expr} {ie : IE} (n : Nat), compB g op vs = some ie → PE X (.BoolOp op vs pos) (tE X W (ev G n ie))
  | [], _, _, h => by cases h
  | [a], _, n, h => sE_one (ih n a _ h)
  | a :: b :: rest, _, n, h => by
    simp only [compB] at h
    split at h
    · rename_i u hu
      split at h
      · rename_i v hv
        cases h
        cases n with
        | zero => cases op <;> exact PE_no
        | succ n =>
          cases op with
          | And => exact sE_and (ih n a u hu) (boolE ih n hv)
          | Or => exact sE_or (ih n a u hu) (boolE ih n hv)
      · cases h
    · cases h
theorem boolT {g : Expr → Option IE} {op : PySem.BoolOp} (ih : ∀ n e ie, g e = some ie → PT X e (tT X W (evT G n ie))) : ∀ {vs : List Expr} {ie : IE} (n : Nat), compB g op vs = some ie → PW X (.BoolOp op vs pos) (tT X W (evT G n ie))
  | [], _, _, h => by cases h
  | [a], _, n, h => by cases op with
    | And => exact sW_and1 (ih n a _ h)
    | Or => exact sW_or1 (ih n a _ h)
  | a :: b :: rest, _, n, h => by
    simp only [compB] at h
    split at h
    · rename_i u hu
      split at h
      · rename_i v hv
        cases h
        cases n with
        | zero => cases op <;> exact ⟨fun wh pn s sg H Q I ⟨O, env, h, eo, S, w⟩ => w.elim⟩
        | succ n =>
          cases op with
          | And => exact sW_and (ih n a u hu) (boolT ih n hv)
          | Or => exact sW_or (ih n a u hu) (boolT ih n hv)
      · cases h
    · cases h
theorem compO_ok {n : Nat} {g : Expr → Option IE} (ih : ∀ e ie, g e = some ie → PE X e (tE X W (ev G n ie))) {o : Option Expr} {l : Option IE} (h : compO g o = some l) : PO X o (tO X W (evo (ev G n) l)) := by
  cases o with
  | none => cases h; exact sO_none
  | some e =>
    obtain ⟨ie, he, rfl⟩ := opt_map h
    exact sO_some (ih e ie he)
theorem compI_ok {n : Nat} {g : Expr → Option IE} {tg : Expr} (c : CxOk X W G k C) (ih : ∀ e ie, g e = some ie → PE X e (tE X W (ev G n ie))) {kS : SrcK} {args : List IE} (h : compI C g tg e = some (kS, args)) : PI X tg e (tI X W kS (evs (ev G n) args)) := by
  unfold compI at h
  split at h
  · rename_i x p as pos
    split at h
    · rename_i hx
      obtain ⟨rfl, hf⟩ := hx
      obtain ⟨hg, hm⟩ := c.free hf
      split at h
      · rename_i hl
        obtain ⟨l, hl2, e2⟩ := opt_map h
        cases e2
        obtain ⟨hs, hl⟩ := hl
        have len := mapO_len hl2
        match as, args, hl2, hs, hl, len with
        | [a], [u], hl2, hs, _, _ =>
          have ha : starless a = true := by simpa using hs
          simp only [mapO] at hl2
          split at hl2
          · rename_i u' hu; cases hl2; exact sI_rng1 hg hm ha (ih a u hu)
          · cases hl2
        | [a, b], [u, v], hl2, hs, _, _ =>
          have ha : starless a = true ∧ starless b = true := by simpa using hs
          simp only [mapO] at hl2
          split at hl2
          · rename_i u' hu
            split at hl2
            · rename_i v' hv
              split at hv
              · rename_i w hw; cases hv; cases hl2; exact sI_rng2 hg hm ha.1 ha.2 (ih a u hu) (ih b v hw)
              · cases hv
            · cases hl2
          · cases hl2
      · cases h
    · split at h
      · rename_i hx
        obtain ⟨rfl, hf⟩ := hx
        obtain ⟨hg, hm⟩ := c.free hf
        split at h
        · rename_i hl
          obtain ⟨l, hl2, e2⟩ := opt_map h
          cases e2
          obtain ⟨hs, hl, ht⟩ := hl
          have len := mapO_len hl2
          match as, args, hl2, hs, hl, len with
          | [a, b], [u, v], hl2, hs, _, _ =>
            have ha : starless a = true ∧ starless b = true := by simpa using hs
            simp only [mapO] at hl2
            split at hl2
            · rename_i u' hu
              split at hl2
              · rename_i v' hv
                split at hv
                · rename_i w hw
                  cases hv; cases hl2
                  cases tg <;> first | exact sI_zip hg hm ha.1 ha.2 (ih a u hu) (ih b v hw) | cases ht
                · cases hv
              · cases hl2
            · cases hl2
        · cases h
      · split at h
        · rename_i hx
          obtain ⟨rfl, hf⟩ := hx
          obtain ⟨hg, hm⟩ := c.free hf
          split at h
          · rename_i hl
            obtain ⟨l, hl2, e2⟩ := opt_map h
            cases e2
            obtain ⟨hs, hl, ht⟩ := hl
            have len := mapO_len hl2
            match as, args, hl2, hs, hl, len with
            | [a], [u], hl2, hs, _, _ =>
              have ha : starless a = true := by simpa using hs
              simp only [mapO] at hl2
              split at hl2
              · rename_i u' hu
                cases hl2
                cases tg <;> first | exact sI_enum hg hm ha (ih a u hu) | cases ht
              · cases hl2
          · cases h
        · obtain ⟨ie, he, e2⟩ := opt_map h
          cases e2
          exact sI_seq (ih _ ie he)
  · split at h
    · obtain ⟨ie, he, e2⟩ := opt_map h
      cases e2
      exact sI_seq (ih _ ie he)
    · cases h
theorem asgE_all : ∀ {ts : List Expr} {l : List Tg} {g : Expr → Option Tg}, (∀ e t, g e = some t → PG X e (gT X t)) → ts.all starless = true → mapO g ts = some l → PGs X ts (gTs X l)
  | [], _, _, _, _, h => by cases h; exact sG_nil
  | e :: es, _, g, ih, hs, h => by
    have h1 : starless e = true ∧ es.all starless = true := by simpa using hs
    simp only [mapO] at h
    split at h
    · rename_i t ht
      split at h
      · rename_i l hb
        cases h
        exact sG_cons h1.1 (ih e t ht) (asgE_all ih h1.2 hb)
      · cases h
    · cases h
theorem compTg_ok (c : CxOk X W G k C) : ∀ (f : Nat) (e : Expr) (t : Tg), compTg f C e = some t → PG X e (gT X t)
  | 0, _, _, h => by simp [compTg] at h
  | f + 1, .Name x p, t, h => by
    simp only [compTg] at h
    split at h
    · rename_i ha
      obtain ⟨i, hi, rfl⟩ := opt_map h
      exact sG_name c.x.nd (c.ix hi) (c.asn ha).1 (c.asn ha).2
    · cases h
  | f + 1, .Tuple es j p, t, h => by
    simp only [compTg] at h
    split at h
    · rename_i hs
      obtain ⟨l, hl, rfl⟩ := opt_map h
      exact sG_tup c.x.calm hs (mapO_len hl) (asgE_all (compTg_ok c f) hs hl)
    · cases h
  | f + 1, .BoolOp .., t, h => by simp [compTg] at h
  | f + 1, .NamedExpr .., t, h => by simp [compTg] at h
  | f + 1, .BinOp .., t, h => by simp [compTg] at h
  | f + 1, .UnaryOp .., t, h => by simp [compTg] at h
  | f + 1, .Lambda .., t, h => by simp [compTg] at h
  | f + 1, .IfExp .., t, h => by simp [compTg] at h
  | f + 1, .Dict .., t, h => by simp [compTg] at h
  | f + 1, .Set .., t, h => by simp [compTg] at h
  | f + 1, .ListComp .., t, h => by simp [compTg] at h
  | f + 1, .SetComp .., t, h => by simp [compTg] at h
  | f + 1, .DictComp .., t, h => by simp [compTg] at h
  | f + 1, .GeneratorExp .., t, h => by simp [compTg] at h
  | f + 1, .Await .., t, h => by simp [compTg] at h
  | f + 1, .Yield .., t, h => by simp [compTg] at h
  | f + 1, .YieldFrom .., t, h => by simp [compTg] at h
  | f + 1, .Compare .., t, h => by simp [compTg] at h
  | f + 1, .Call .., t, h => by simp [compTg] at h
  | f + 1, .FormattedValue .., t, h => by simp [compTg] at h
  | f + 1, .JoinedStr .., t, h => by simp [compTg] at h
  | f + 1, .Constant .., t, h => by simp [compTg] at h
  | f + 1, .Attribute .., t, h => by simp [compTg] at h
  | f + 1, .Subscript .., t, h => by simp [compTg] at h
  | f + 1, .Starred .., t, h => by simp [compTg] at h
  | f + 1, .List .., t, h => by simp [compTg] at h
  | f + 1, .Slice .., t, h => by simp [compTg] at h
end
end SI
end
section
set_option Elab.async false
set_option linter.all false
set_option maxRecDepth 100000
set_option maxHeartbeats 4000000
/-! SI18: the small language keeps to the text: expressions, all of them. -/
namespace SI
open PySem PySem.Spec PyProof.Rows L2

section
variable {X : Cx} {W : WX} {G : Wr} {k : Nat} {C : Ctx} {a b c e o i : Expr} {es : List Expr} {x : Str} {pos p apos : Pos} {fa fb fc : Nv → Hs → Res D}
def chainF (op op' : Cop) (fa fb fc : Nv → Hs → Res D) : Nv → Hs → Res D := fun env h => (fa env h).bind fun x h => (fb env h).bind fun y h => (Res.of (cmpD h op x y) h).bind fun k h => if k then (fc env h).bind fun z h => .of ((cmpD h op' y z).map .bl) h else .ok (.bl false) h
theorem chain_bl {op op' : Cop} {env : Nv} {h h' : Hs} {d : D} (e : chainF op op' fa fb fc env h = .ok d h') : ∃ t, d = .bl t := by
  unfold chainF at e
  cases q1 : fa env h with
  | ok x h1 =>
    rw [q1] at e
    have e : ((fb env h1).bind fun y h => (Res.of (cmpD h op x y) h).bind fun k h => if k then (fc env h).bind fun z h => .of ((cmpD h op' y z).map .bl) h else .ok (.bl false) h) = .ok d h' := e
    cases q2 : fb env h1 with
    | ok y h2 =>
      rw [q2] at e
      have e : ((Res.of (cmpD h2 op x y) h2).bind fun k h => if k then (fc env h).bind fun z h => .of ((cmpD h op' y z).map .bl) h else .ok (.bl false) h) = .ok d h' := e
      cases q3 : cmpD h2 op x y with
      | none => rw [q3] at e; cases e
      | some t =>
        rw [q3] at e
        cases t with
        | false => cases e; exact ⟨_, rfl⟩
        | true =>
          have e : ((fc env h2).bind fun z h => Res.of ((cmpD h op' y z).map .bl) h) = .ok d h' := e
          cases q4 : fc env h2 with
          | ok z h3 =>
            rw [q4] at e
            have e : Res.of ((cmpD h3 op' y z).map D.bl) h3 = .ok d h' := e
            cases q5 : cmpD h3 op' y z with
            | none => rw [q5] at e; cases e
            | some t => rw [q5] at e; cases e; exact ⟨_, rfl⟩
          | ex u h => rw [q4] at e; cases e
          | no => rw [q4] at e; cases e
    | ex u h => rw [q2] at e; cases e
    | no => rw [q2] at e; cases e
  | ex u h => rw [q1] at e; cases e
  | no => rw [q1] at e; cases e
theorem chain_rd {op op' : Cop} {sg : L2.St} {H : Hp} {Q : VK} : tE X W (chainF op op' fa fb fc) sg H Q → tChain (cmpR X op) (cmpR X op') (tE X W fa) (tE X W fb) (tE X W fc) sg H Q := fun ⟨O, env, h, eo, S, w⟩ =>
  ⟨O, env, h, eo, S, Post.bind w fun x h1 O1 v H1 _ s1 S1 r1 p1 => ⟨O1, env, h1, eo.stp s1, S1, p1.bind fun y h2 O2 u H2 _ s2 S2 r2 p2 => by
    obtain ⟨t, e, q⟩ := p2.ofb
    refine cmp_ok S2 (r1.stp s2) r2 e ⟨t, rfl, ?_⟩
    cases t with
    | true =>
      rw [if_pos rfl] at q ⊢
      refine ⟨O2, env, h2, (eo.stp s1).stp s2, S2, q.bind fun z h3 O3 w H3 _ s3 S3 r3 p3 => ?_⟩
      obtain ⟨d, e3, q3⟩ := p3.of S3
      simp only [Option.map_eq_some_iff] at e3
      obtain ⟨t3, e3, rfl⟩ := e3
      exact cmp_ok S3 (r2.stp s3) r3 e3 (q3 _ (.bl t3))
    | false => rw [if_neg (by decide)] at q ⊢; exact q.here S2 (.bl false)⟩⟩
theorem sT_chain {op op' : Cop} (hr : Room k X.A) (ha : PE X a (tE X W fa)) (hb : PE X b (tE X W fb)) (hc : PE X c (tE X W fc)) (hbm : setless b = true) (hcm : setless c = true) :
    PT X (.Compare a [cpOf op, cpOf op'] [b, c] pos) (tT X W fun env h => (chainF op op' fa fb fc env h).bind fun x h => .of (truth h x) h) :=
  PT.weak (pt_chain (cmp_all hr op) (cmp_all hr op') ha hb hc (behind_plain hcm _)) fun sg H Q ⟨O, env, h, eo, S, w⟩ => chain_rd ⟨O, env, h, eo, S, w.bind fun x h1 O1 v H1 er s1 S1 r1 p1 => by
    obtain ⟨t, rfl⟩ := chain_bl er
    exact ⟨t, r1.bl_inv, p1.here S1 rfl⟩⟩
theorem biOf_ok {f : Bi} (h : biOf x = some f) : nmBi f = x := by
  unfold biOf at h
  repeat (split at h; · rename_i e; cases h; exact e.symm)
  cases h
theorem mem_find {l : List String} {q : String → Bool} {n : String} (h : l.find? q = some n) : n ∈ l ∧ q n = true := ⟨List.mem_of_find?_eq_some h, List.find?_some h⟩
theorem compTy_ok (cx : CxOk X W G k C) {t : Sum String Str} (h : compTy C e = some t) : ∃ p, e = .Name (tName t) p ∧ TOk X C.T t := by
  cases e with
  | Name x p =>
    simp only [compTy] at h
    split at h
    · rename_i hg
      split at h
      · rename_i hc
        cases h
        exact ⟨p, rfl, cx.gl hg, hc⟩
      · split at h
        · rename_i n hn
          split at h
          · rename_i hf
            cases h
            obtain ⟨h1, h2⟩ := mem_find hn
            have e1 : Str.ofString n = x := by simpa using h2
            refine ⟨p, by rw [← e1]; rfl, ?_, h1, ?_⟩
            · show Gl X (Str.ofString n); rw [e1]; exact cx.gl hg
            · show X.mg (Str.ofString n) = none; rw [e1]; exact cx.x.wf.free x hf
          · cases h
        · cases h
    · cases h
  | _ => cases h
theorem rg_args {n : Nat} {g : Expr → Option IE} (cx : CxOk X W G k C) (ih : ∀ e ie, g e = some ie → PE X e (tE X W (ev G n ie))) {rs : List Expr} {l : List IE} (h : isRange C e = some rs) (hl : rs.length = 1 ∨ rs.length = 2) (hm : mapO g rs = some l) : PRg X e (tRg X W (evs (ev G n) l)) ∧ starless e = true := by
  cases e with
  | Call fn args kws pos =>
    cases fn with
    | Name y p =>
      cases kws with
      | nil =>
        simp only [isRange] at h
        split at h
        · rename_i hx
          cases h
          obtain ⟨rfl, hf, hs⟩ := hx
          obtain ⟨hg, hmn⟩ := cx.free hf
          refine ⟨?_, rfl⟩
          have len := mapO_len hm
          match rs, l, hm, hs, hl, len with
          | [a], [u], hl2, hs, _, _ =>
            have ha : starless a = true := by simpa using hs
            simp only [mapO] at hl2
            split at hl2
            · rename_i u' hu; cases hl2; exact sR_1 hg hmn ha (ih a u hu)
            · cases hl2
          | [a, b], [u, v], hl2, hs, _, _ =>
            have ha : starless a = true ∧ starless b = true := by simpa using hs
            simp only [mapO] at hl2
            split at hl2
            · rename_i u' hu
              split at hl2
              · rename_i v' hv
                split at hv
                · rename_i w hw; cases hv; cases hl2; exact sR_2 hg hmn ha.1 ha.2 (ih a u hu) (ih b v hw)
                · cases hv
              · cases hl2
            · cases hl2
        · cases h
      | cons => simp [isRange] at h
    | _ => cases kws <;> simp [isRange] at h
  | _ => simp [isRange] at h
theorem blk_kind {N : List Str} {sc scope : Scope} {own : List (Str × Nat)} (h : blkC N sc scope own = true) : scope.kind = .function := (blkOk_by h).kind
theorem ds_ok {n : Nat} {g : Nat → Expr → Option IE} (ih : ∀ m e ie, g m e = some ie → PE X e (tE X W (ev G n ie))) {tk : List Str} : ∀ {keys : List (Option Expr)} {vals : List Expr} {zs : List Str} {es : List IE}, compDs g tk keys vals = some (zs, es) → DPs X W pos keys vals zs (evs (ev G n) es)
  | [], [], _, _, h => by cases h; exact dps_nil
  | [], _ :: _, _, _, h => by cases h
  | _ :: _, [], _, _, h => by cases h
  | q :: ks, v :: vs, _, _, h => by
    simp only [compDs] at h
    split at h
    · rename_i z hz
      split at h
      · rename_i u hu
        split at h
        · rename_i zs es hr
          cases h
          have e1 : ∃ j p, q = some (.Constant (.str z) j p) := by
            unfold keyStr at hz
            split at hz
            · cases hz; exact ⟨_, _, rfl⟩
            · cases hz
          obtain ⟨j, p, rfl⟩ := e1
          exact dps_cons (ih _ v u hu) (ds_ok ih hr)
        · cases h
      · cases h
    · cases h
/-- the sound translation -/
def SndE (f : Nat) : Prop := ∀ (X : Cx) (W : WX) (G : Wr) (k : Nat) (C : Ctx) (m : Nat) (e : Expr) (ie : IE) (n : Nat), CxOk X W G k C → compE f C m e = some ie → PE X e (tE X W (ev G n ie))
def SndT (f : Nat) : Prop := ∀ (X : Cx) (W : WX) (G : Wr) (k : Nat) (C : Ctx) (e : Expr) (ie : IE) (n : Nat), CxOk X W G k C → compT f C e = some ie → PT X e (tT X W (evT G n ie))
theorem ev0 (ie : IE) : ev G 0 ie = fun _ _ => .no := rfl
/-- a call by a global's name -/
theorem call_snd {f n m : Nat} {args : List Expr} {ie : IE} (ihE : SndE f) (cx : CxOk X W G k C) (hs : args.all starless = true) (hg : C.gl x = true) (hd : noDbg x = true)
    (h : (if x ∈ C.T.fns then (mapO (compE f C 0) args).map (.call x)
            else if x ∈ C.T.cls then (mapO (compE f C 0) args).map (.make x)
            else if x ∈ C.T.free then (match args with
              | [a] => match isRange C a with
                | some rs => if rs.length = 1 ∨ rs.length = 2 then (if x = "list" then (mapO (compE f C 0) rs).map (.rngs true (m == 1)) else if x = "tuple" then (mapO (compE f C 0) rs).map (.rngs false false) else none) else none
                | none => if m = 1 then none else match biOf x with
                  | some b => (compE f C 0 a).map (.bi b)
                  | none => none
              | [a, t] => if x = "isinstance" then (match compE f C 0 a with
                | some y => match compTy C t with
                  | some z => some (.isi y [z])
                  | none => none
                | none => none) else none
              | _ => none)
            else none) = some ie) : PE X (.Call (.Name x p) args [] pos) (tE X W (ev G (n + 1) ie)) := by
  have hdb := (noDbg_ok hd).1
  have ih : ∀ e ie, compE f C 0 e = some ie → PE X e (tE X W (ev G n ie)) := fun e ie h => ihE X W G k C 0 e ie n cx h
  split at h
  · rename_i hx
    obtain ⟨l, hl, rfl⟩ := opt_map h
    exact sE_call cx.x hx (cx.gl hg) hdb hs (args_ok ih hs hl) (args_nil' hl)
  · split at h
    · rename_i hx
      obtain ⟨l, hl, rfl⟩ := opt_map h
      exact sE_make cx.x hx (cx.gl hg) hdb hs (args_ok ih hs hl) (args_nil' hl)
    · split at h
      · rename_i hx
        have hmn := cx.x.wf.free x hx
        split at h
        · rename_i a
          have ha : starless a = true := by simpa using hs
          split at h
          · rename_i rs hr
            split at h
            · rename_i hl
              split at h
              · rename_i e1
                subst e1
                obtain ⟨l, hl2, rfl⟩ := opt_map h
                obtain ⟨pr, hsa⟩ := rg_args cx ih hr hl hl2
                exact sE_lrg cx.x.calm (cx.gl hg) hmn hsa pr
              · split at h
                · rename_i e1
                  subst e1
                  obtain ⟨l, hl2, rfl⟩ := opt_map h
                  obtain ⟨pr, hsa⟩ := rg_args cx ih hr hl hl2
                  exact sE_trg cx.x.calm (cx.gl hg) hmn hsa pr
                · cases h
            · cases h
          · split at h
            · cases h
            · split at h
              · rename_i b hb
                obtain ⟨u, hu, rfl⟩ := opt_map h
                have e1 := biOf_ok hb
                subst e1
                exact sE_bi cx.x b (cx.gl hg) hmn ha (ih a u hu)
              · cases h
        · rename_i a t
          have ha : starless a = true ∧ starless t = true := by simpa using hs
          split at h
          · rename_i e1
            subst e1
            split at h
            · rename_i u hu
              split at h
              · rename_i z hz
                cases h
                obtain ⟨p2, rfl, tk⟩ := compTy_ok cx hz
                exact sE_isi1 cx.x tk (cx.gl hg) hmn ha.1 (ih a u hu)
              · cases h
            · cases h
          · cases h
        · cases h
      · cases h
/-- a call of an attribute -/
theorem meth_snd {f n : Nat} {args : List Expr} {mm : Str} {ie : IE} (ihE : SndE f) (cx : CxOk X W G k C)
    (h : (match (match o with
              | .Name c _ => if (c, mm) ∈ C.T.cms ∧ C.gl c = true ∧ noDbg c = true then some c else none
              | _ => none) with
            | some c => (mapO (compE f C 0) args).map (.cmeth c mm)
            | none => match compE f C 0 o with
              | some y => match mapO (compE f C 0) args with
                | some zs => match args with
                  | [_] => if mm = "append" then some (.bm .append y zs) else if mm = "extend" then some (.bm .extend y zs) else if mm = "pop" then some (.bm .pop1 y zs) else some (.meth y mm zs)
                  | [_, _] => if mm = "get" then some (.bm .get2 y zs) else some (.meth y mm zs)
                  | _ => some (.meth y mm zs)
                | none => none
              | none => none) = some ie) (hs : args.all starless = true) (ho : superless o = true) (hp : apos.endLine = pos.line) (hl : args.length < 30) : PE X (.Call (.Attribute o mm apos) args [] pos) (tE X W (ev G (n + 1) ie)) := by
  have ih : ∀ e ie, compE f C 0 e = some ie → PE X e (tE X W (ev G n ie)) := fun e ie h => ihE X W G k C 0 e ie n cx h
  have hpb : (apos.endLine == pos.line) = true := by simpa using hp
  split at h
  · rename_i c hc
    obtain ⟨l, hl2, rfl⟩ := opt_map h
    cases o with
    | Name c' q =>
      simp only at hc
      split at hc
      · rename_i hh
        cases hc
        exact sE_cmeth cx.x hh.1 (cx.gl hh.2.1) (noDbg_ok hh.2.2).1 hl hpb hs (args_ok ih hs hl2) (args_nil' hl2)
      · cases hc
    | _ => cases hc
  · split at h
    · rename_i y hy
      split at h
      · rename_i zs hz
        have hme : PE X (.Call (.Attribute o mm apos) args [] pos) (tE X W (ev G (n + 1) (.meth y mm zs))) := sE_meth cx.x hl ho hpb hs (ih o y hy) (args_ok ih hs hz) (args_nil' hz)
        cases args with
        | nil => cases h; exact hme
        | cons a r =>
          cases r with
          | nil =>
            have ha : starless a = true := by simpa using hs
            simp only [mapO] at hz
            split at hz
            · rename_i u hu
              cases hz
              simp only at h
              split at h
              · rename_i e1; subst e1; cases h; exact sM_append ho hpb ha (ih o y hy) (ih a u hu)
              · split at h
                · rename_i e1; subst e1; cases h; exact sM_extend ho hpb ha (ih o y hy) (ih a u hu)
                · split at h
                  · rename_i e1; subst e1; cases h; exact sM_pop ho hpb ha (ih o y hy) (ih a u hu)
                  · cases h; exact hme
            · cases hz
          | cons b r2 =>
            cases r2 with
            | cons => cases h; exact hme
            | nil =>
              have ha : starless a = true ∧ starless b = true := by simpa using hs
              simp only [mapO] at hz
              split at hz
              · rename_i u hu
                split at hz
                · rename_i v' hv
                  split at hv
                  · rename_i v hv2
                    cases hv; cases hz
                    simp only at h
                    split at h
                    · rename_i e1; subst e1; cases h; exact sM_get cx.x.room ho hpb ha.1 ha.2 (ih o y hy) (ih a u hu) (ih b v hv2)
                    · cases h; exact hme
                  · cases hv
                · cases hz
              · cases hz
      · cases h
    · cases h
theorem lookup_memD {l : List (Str × D)} {d : D} (h : l.lookup x = some d) : (x, d) ∈ l := PySem.mem_of_lookup h
end
end SI
end
section
set_option Elab.async false
set_option linter.all false
set_option maxRecDepth 100000
set_option maxHeartbeats 4000000
/-! SI19: expressions, the theorem. -/
namespace SI
open PySem PySem.Spec PyProof.Rows L2

theorem cmp_ok' {X : Cx} {W : WX} {G : Wr} {k : Nat} {C : Ctx} {g : Expr → Option IE} {a : Expr} {pos : Pos} (cx : CxOk X W G k C) {n : Nat} (ih : ∀ e ie, g e = some ie → PE X e (tE X W (ev G n ie))) {ops : List CmpOp} {bs : List Expr} {ie : IE} (h : compC g a ops bs = some ie) :
    PE X (.Compare a ops bs pos) (tE X W (ev G (n + 1) ie)) := by
  unfold compC at h
  split at h
  · rename_i o b
    split at h
    · rename_i hs
      split at h
      · rename_i u hu
        split at h
        · rename_i v hv
          cases h
          have z := sE_cmp (pos := pos) cx.x.room (op := copOf o) hs (ih a u hu) (ih b v hv)
          rw [cop_ok] at z
          exact z
        · cases h
      · cases h
    · cases h
  · rename_i o o2 b c
    split at h
    · rename_i hs
      split at h
      · rename_i u hu
        split at h
        · rename_i v hv
          split at h
          · rename_i w hw
            cases h
            have z := sE_chain (pos := pos) cx.x.room (op := copOf o) (op' := copOf o2) (ih a u hu) (ih b v hv) (ih c w hw) hs.1 hs.2
            rw [cop_ok, cop_ok] at z
            exact z
          · cases h
        · cases h
      · cases h
    · cases h
  · cases h
theorem PT_no' {X : Cx} {W : WX} {e : Expr} {f : Nv → Hs → Res Bool} (h : ∀ env hh, f env hh = .no) : PT X e (tT X W f) := ⟨fun pn s sg H Q I ⟨O, env, hh, eo, S, w⟩ => by rw [h] at w; exact w.elim⟩
theorem cmpT_ok {X : Cx} {W : WX} {G : Wr} {k : Nat} {C : Ctx} {g : Expr → Option IE} {a : Expr} {pos : Pos} (cx : CxOk X W G k C) {n : Nat} (ih : ∀ e ie n, g e = some ie → PE X e (tE X W (ev G n ie))) {ops : List CmpOp} {bs : List Expr} {ie : IE} (h : compC g a ops bs = some ie) :
    PT X (.Compare a ops bs pos) (tT X W (evT G (n + 1) ie)) := by
  unfold compC at h
  split at h
  · rename_i o b
    split at h
    · rename_i hs
      split at h
      · rename_i u hu
        split at h
        · rename_i v hv
          cases h
          cases n with
          | zero => exact PT_no' fun _ _ => rfl
          | succ n =>
            have z := sT_cmp (pos := pos) cx.x.room (op := copOf o) hs (ih a u n hu) (ih b v n hv)
            rw [cop_ok] at z
            exact z
        · cases h
      · cases h
    · cases h
  · rename_i o o2 b c
    split at h
    · rename_i hs
      split at h
      · rename_i u hu
        split at h
        · rename_i v hv
          split at h
          · rename_i w hw
            cases h
            cases n with
            | zero => exact PT_no' fun _ _ => rfl
            | succ n =>
              have z := sT_chain (pos := pos) (op := copOf o) (op' := copOf o2) cx.x.room (ih a u n hu) (ih b v n hv) (ih c w n hw) hs.1 hs.2
              rw [cop_ok, cop_ok] at z
              exact z
          · cases h
        · cases h
      · cases h
    · cases h
  · cases h
theorem snd_T {f : Nat} (ihE : SndE f) (ihT : SndT f) : SndT (f + 1) := by
  intro X W G k C e ie n cx h
  have ev1 : ∀ e ie n, compE f C 0 e = some ie → PE X e (tE X W (ev G n ie)) := fun e ie n h => ihE X W G k C 0 e ie n cx h
  have tv1 : ∀ n e ie, compT f C e = some ie → PT X e (tT X W (evT G n ie)) := fun n e ie h => ihT X W G k C e ie n cx h
  cases n with
  | zero => exact PT_no
  | succ n =>
    have val : plainT e = true → (compE f C 0 e).map IE.val = some ie → PT X e (tT X W (evT G (n + 1) ie)) := fun hp h => by
      obtain ⟨u, hu, rfl⟩ := opt_map h
      cases n with
      | zero => exact PT_no' fun _ _ => rfl
      | succ n => exact sT_val hp (ev1 e u n hu)
    cases e with
    | UnaryOp op a pos =>
      cases op with
      | Not =>
        simp only [compT] at h
        obtain ⟨u, hu, rfl⟩ := opt_map h
        exact sT_not (tv1 n a u hu)
      | USub =>
        simp only [compT] at h
        exact val rfl h
      | UAdd =>
        simp only [compT] at h
        exact val rfl h
      | Invert =>
        simp only [compT] at h
        exact val rfl h
    | BoolOp op vs pos =>
      simp only [compT] at h
      exact (boolT tv1 (n + 1) h).pt
    | Compare a ops bs pos =>
      simp only [compT] at h
      exact cmpT_ok cx ev1 h
    | IfExp => simp [compT] at h
    | _ =>
      simp only [compT] at h
      split at h
      · exact val rfl h
      · cases h
theorem snd_E {f : Nat} (ihE : SndE f) (ihT : SndT f) : SndE (f + 1) := by
  intro X W G k C m e ie n cx h
  have ih0 : ∀ n m e ie, compE f C m e = some ie → PE X e (tE X W (ev G n ie)) := fun n m e ie h => ihE X W G k C m e ie n cx h
  cases n with
  | zero => exact PE_no
  | succ n =>
    have ih : ∀ e ie, compE f C 0 e = some ie → PE X e (tE X W (ev G n ie)) := fun e ie h => ih0 n 0 e ie h
    cases e with
    | Constant c j pos =>
      simp only [compE] at h
      cases c <;> first | (cases h; first | exact sE_int | exact sE_bl | exact sE_str | exact sE_non) | cases h
    | Name x pos =>
      simp only [compE] at h
      split at h
      · rename_i hd
        obtain ⟨d1, d2⟩ := noDbg_ok hd
        split at h
        · rename_i hv
          obtain ⟨i, hi, rfl⟩ := opt_map h
          exact sE_var (cx.ix hi) (cx.vis hv) d1 d2
        · split at h
          · rename_i hg
            obtain ⟨d, hl, rfl⟩ := opt_map h
            exact sE_glob (cx.gl hg) d1 (cx.x.wf.cst _ (lookup_memD hl))
          · cases h
      · cases h
    | Tuple es j pos =>
      simp only [compE] at h
      split at h
      · rename_i hh
        obtain ⟨l, hl, rfl⟩ := opt_map h
        exact sE_tup (fun env h ds h' er => by rw [evs_len er, ← mapO_len hl]; exact hh.2) (args_ok ih hh.1 hl)
      · cases h
    | List es pos =>
      simp only [compE] at h
      split at h
      · rename_i hh
        obtain ⟨l, hl, rfl⟩ := opt_map h
        exact sE_lst (fun env h ds h' er => by rw [evs_len er, ← mapO_len hl]; exact hh.2) (args_ok ih hh.1 hl)
      · cases h
    | BinOp a op b pos =>
      simp only [compE] at h
      split at h
      · rename_i o ho
        split at h
        · rename_i u hu
          split at h
          · rename_i v hv
            cases h
            have z := sE_bin (op := o) (pos := pos) (ih a u hu) (ih b v hv)
            rw [bop_ok ho] at z
            exact z
          · cases h
        · cases h
      · cases h
    | UnaryOp op a pos =>
      simp only [compE] at h
      split at h
      · obtain ⟨u, hu, rfl⟩ := opt_map h
        exact sE_neg (ih a u hu)
      · obtain ⟨u, hu, rfl⟩ := opt_map h
        exact sE_not (ih a u hu)
      · cases h
    | BoolOp op vs pos =>
      simp only [compE] at h
      exact boolE (fun n e ie h => ih0 n 0 e ie h) (n + 1) h
    | Compare a ops bs pos =>
      simp only [compE] at h
      exact cmp_ok' cx ih h
    | IfExp c a b pos =>
      simp only [compE] at h
      split at h
      · rename_i w hw
        split at h
        · rename_i u hu
          split at h
          · rename_i v hv
            cases h
            exact sE_ife (ihT X W G k C c w n cx hw) (ih a u hu) (ih b v hv)
          · cases h
        · cases h
      · cases h
    | Attribute o g pos =>
      simp only [compE] at h
      split at h
      · rename_i hh
        obtain ⟨u, hu, rfl⟩ := opt_map h
        exact sE_fld cx.x hh.2 hh.1 (ih o u hu)
      · cases h
    | Subscript o i pos =>
      simp only [compE] at h
      split at h
      · rename_i lo hi st p2
        split at h
        · split at h
          · rename_i u hu
            split at h
            · rename_i l hl
              split at h
              · rename_i r hr
                cases h
                exact sE_sl (ih o u hu) (compO_ok ih hl) (compO_ok ih hr)
              · cases h
            · cases h
          · cases h
        · cases h
      · split at h
        · rename_i hs
          split at h
          · rename_i u hu
            split at h
            · rename_i v hv
              cases h
              exact sE_ix cx.x hs (ih o u hu) (ih i v hv)
            · cases h
          · cases h
        · cases h
    | ListComp elt gens scope pos =>
      simp only [compE] at h
      split at h
      · rename_i tg iter ifs as
        split at h
        · rename_i hh
          obtain ⟨rfl, hs, hb⟩ := hh
          split at h
          · rename_i kS args hi
            split at h
            · rename_i t ht
              split at h
              · rename_i hj
                split at h
                · rename_i u hu
                  have ok : BlkOk X.N X.env.scope scope (ownOf C.N scope) := by
                    rw [cx.N, cx.sc]; exact blkOk_by hb
                  have hsub : ∀ j ∈ ids t, j ∈ (ownOf C.N scope).map (·.2) := fun j hj' => by
                    have := List.all_eq_true.mp hj j hj'
                    simpa using this
                  have cb : ∀ (s : Shared) (H : Hp) (Ca : Addr) (cl : List (Str × Addr)) (fp : List Addr), CxOk (X.blk s H scope (compEnvC scope cl Ca X.env) fp) W0 G k (C.blk scope) := fun s H Ca cl fp => cx.blk s H scope cl Ca fp (blk_kind hb)
                  split at h
                  · cases h
                    obtain ⟨_, pe, rfl, im⟩ := sE_comp (k := k) (T := C.T) (W := W) (G := G) (mm := m == 1) (pos := pos) (tg := t) (ft := fun _ h => .ok true h) (fe := ev G n u) cx.x (compI_ok cx ih hi) ok
                      (fun s H Ca cl fp => compTg_ok (cb s H Ca cl fp) f tg t ht) (fun s H Ca cl fp => ts_nil (W := W0)) (fun s H Ca cl fp => ihE _ _ G k _ 0 elt u n (cb s H Ca cl fp) hu) hs hsub
                    exact PE.weak pe im
                  · rename_i c
                    split at h
                    · rename_i v hv
                      cases h
                      obtain ⟨_, pe, rfl, im⟩ := sE_comp (k := k) (T := C.T) (W := W) (G := G) (mm := m == 1) (pos := pos) (tg := t) (ft := evT G n v) (fe := ev G n u) cx.x (compI_ok cx ih hi) ok
                        (fun s H Ca cl fp => compTg_ok (cb s H Ca cl fp) f tg t ht) (fun s H Ca cl fp => pts_one (ihT _ _ G k _ c v n (cb s H Ca cl fp) hv)) (fun s H Ca cl fp => ihE _ _ G k _ 0 elt u n (cb s H Ca cl fp) hu) hs hsub
                      exact PE.weak pe im
                    · cases h
                  · cases h
                · cases h
              · cases h
            · cases h
          · cases h
        · cases h
      · cases h
    | Dict keys vals pos =>
      simp only [compE] at h
      split at h
      · split at h
        · cases h
          have z := sE_dic (X := X) (W := W) (pos := pos) (t := m == 2)
          exact z
        · cases h
      · rename_i hne
        split at h
        · rename_i zs es hd
          split at h
          · rename_i hh
            cases h
            exact sE_dicd (ds_ok (fun m e ie h => ih0 n m e ie h) hd) (fun z => hne z) hh.1 hh.2
          · cases h
        · cases h
    | Call fn args kws pos =>
      simp only [compE] at h
      split at h
      · split at h
        · rename_i hs
          split at h
          · rename_i x p
            split at h
            · rename_i hh
              exact call_snd ihE cx hs hh.1 hh.2 h
            · cases h
          · rename_i o mm apos
            split at h
            · rename_i hh
              exact meth_snd ihE cx h hs hh.1 hh.2.1 hh.2.2
            · cases h
          · cases h
        · cases h
      · cases h
    | _ => simp [compE] at h
end SI
end
section
set_option Elab.async false
set_option linter.all false
set_option maxRecDepth 100000
set_option maxHeartbeats 4000000
/-! SI20: statements keep to the text. -/
namespace SI
open PySem PySem.Spec PyProof.Rows L2

theorem snd_all : ∀ f, SndE f ∧ SndT f
  | 0 => ⟨fun X W G k C m e ie n cx h => by simp [compE] at h, fun X W G k C e ie n cx h => by simp [compT] at h⟩
  | f + 1 => ⟨snd_E (snd_all f).1 (snd_all f).2, snd_T (snd_all f).1 (snd_all f).2⟩
section
variable {X : Cx} {W : WX} {G : Wr} {k : Nat} {C : Ctx} {a b c e o i : Expr} {es : List Expr} {x : Str} {pos p apos : Pos}
theorem CxOk.E (cx : CxOk X W G k C) {f m n : Nat} {ie : IE} (h : compE f C m e = some ie) : PE X e (tE X W (ev G n ie)) := (snd_all f).1 X W G k C m e ie n cx h
theorem CxOk.T (cx : CxOk X W G k C) {f n : Nat} {ie : IE} (h : compT f C e = some ie) : PT X e (tT X W (evT G n ie)) := (snd_all f).2 X W G k C e ie n cx h
theorem sw_is {elt : Expr} {gs : List Comprehension} {scope : Scope} {y : Str} {py : Pos} {l : Nat} {env : PySem.Env} (hk : env.scope.kind = .function) :
    swapsWith (.ListComp elt gs scope pos) (some (.Name y py)) l env = pure (swB env.scope y py scope pos) := by
  have hb : env.blockKind = .function := by unfold Env.blockKind; rw [hk]; rfl
  unfold swapsWith
  simp only [hb]
  rfl
theorem sole (t e : Expr) (l : Nat) (env : PySem.Env) : swapsWithSole [t] e l env = swapsWith e (some t) l env := rfl
theorem PS_no {st : Stmt} {f : Nv → Hs → SRes} (h : ∀ env hh, f env hh = .no) : PS X st (tS X W f) := ⟨fun pn s sg H Dn I ⟨O, env, hh, eo, S, w⟩ => by rw [h] at w; exact w.elim⟩
theorem PSs_no {st : List Stmt} {f : Nv → Hs → SRes} (h : ∀ env hh, f env hh = .no) : PSs X st (tS X W f) := ⟨fun pn s sg H Dn I ⟨O, env, hh, eo, S, w⟩ => by rw [h] at w; exact w.elim⟩
/-- name = [.. for ..] -/
theorem setLc_snd {f n i : Nat} {elt : Expr} {gs : List Comprehension} {scope : Scope} {m : Nat} {ie : IE} {px : Pos} (cx : CxOk X W G k C) (ha : C.asn x = true) (hi : ixOf C.N x = some i) (h : compE f C m (.ListComp elt gs scope p) = some ie) :
    PS X (.Assign [.Name x px] (.ListComp elt gs scope p) pos) (tS X W (ex G (n + 1) (.set (.n i) ie))) := by
  cases hsw : swB X.env.scope x px scope p with
  | false =>
    exact sS_set (cx.E h) (sG_name cx.x.nd (cx.ix hi) (cx.asn ha).1 (cx.asn ha).2) (by rw [sole, sw_is cx.kind, hsw]) rfl rfl
  | true =>
    cases n with
    | zero => exact PS_no fun _ _ => rfl
    | succ n =>
    cases f with
    | zero => simp [compE] at h
    | succ f =>
      have hl : X.env.scope.names.lookup x = some .local := by
        unfold swB at hsw
        simp only [Bool.and_eq_true, beq_iff_eq] at hsw
        exact hsw.1.1
      simp only [compE] at h
      split at h
      · rename_i tg iter ifs as
        split at h
        · rename_i hh
          obtain ⟨rfl, hs, hb⟩ := hh
          split at h
          · rename_i kS args hi2
            split at h
            · rename_i t ht
              split at h
              · rename_i hj
                split at h
                · rename_i u hu
                  have ok : BlkOk X.N X.env.scope scope (ownOf C.N scope) := by
                    rw [cx.N, cx.sc]; exact blkOk_by hb
                  have hsub : ∀ j ∈ ids t, j ∈ (ownOf C.N scope).map (·.2) := fun j hj' => by
                    have := List.all_eq_true.mp hj j hj'
                    simpa using this
                  have cb : ∀ (s : Shared) (H : Hp) (Ca : Addr) (cl : List (Str × Addr)) (fp : List Addr), CxOk (X.blk s H scope (compEnvC scope cl Ca X.env) fp) W0 G k (C.blk scope) := fun s H Ca cl fp => cx.blk s H scope cl Ca fp (blk_kind hb)
                  have go : ∀ {ft : Nv → Hs → Res Bool} (ht : ∀ (s : Shared) (H : Hp) (Ca : Addr) (cl : List (Str × Addr)) (fp : List Addr), PTs (X.blk s H scope (compEnvC scope cl Ca X.env) fp) ifs (tT X W0 ft)),
                      PS X (.Assign [.Name x px] (.ListComp elt [⟨tg, iter, ifs, 0⟩] scope p) pos) (tS X W fun env h => (reL (m == 1) ((evs (ev G n) args env h).bind fun ds h => (Res.of (srcD kS ds) h).bind fun xs h => if xs.length ≤ LINE then (compLoop (turnF t ft (ev G n u) (wipeE env ((ownOf C.N scope).map (·.2)))) xs h).bind fun ys h => .ok (.lst ys) h else .no)).sbind env fun d h => .nx (env.set i (some d)) h) := fun {ft} hts => by
                    obtain ⟨_, pe, rfl, im⟩ := sE_comp (k := k) (T := C.T) (W := W) (G := G) (mm := m == 1) (pos := p) (tg := t) (ft := ft) (fe := ev G n u) cx.x (compI_ok cx (fun e ie h => cx.E h) hi2) ok
                      (fun s H Ca cl fp => compTg_ok (cb s H Ca cl fp) f tg t ht) hts (fun s H Ca cl fp => (cb s H Ca cl fp).E hu) hs hsub
                    refine PS.weak (ps_setLc cx.x.calm cx.x.nd (cx.ix hi) hl (by rw [sw_is cx.kind, hsw]) (compI_ok cx (fun e ie h => cx.E h) hi2) ok (fun s H Ca cl fp => compTg_ok (cb s H Ca cl fp) f tg t ht) hts (fun s H Ca cl fp => (cb s H Ca cl fp).E hu) (fold_set hs X.env)) fun Dn sg H ⟨O, env, h, eo, S, w⟩ => im sg H _ ⟨O, env, h, eo, S, PostS.bind w eo fun d h1 O1 v H1 _ s1 S1 r1 p1 => p1 O1 _ H1 (Stp.refl _ _) S1 ((eo.stp s1).set i r1)⟩
                  split at h
                  · cases h
                    exact go (ft := fun _ h => .ok true h) fun s H Ca cl fp => ts_nil (W := W0)
                  · rename_i c
                    split at h
                    · rename_i v hv
                      cases h
                      exact go (ft := evT G n v) fun s H Ca cl fp => pts_one ((cb s H Ca cl fp).T hv)
                    · cases h
                  · cases h
                · cases h
              · cases h
            · cases h
          · cases h
        · cases h
      · cases h
theorem swapped_none (ht : compless e = true) (hn : isTup e = false) (t : Expr) (env : PySem.Env) : swappedStores [t] e env = pure none := by
  cases e <;> first | (cases t <;> rfl) | cases hn
theorem swapped2 {y : Str} {px py pt : Pos} {kt k2 : Nat} {pt2 : Pos} {env : PySem.Env} (hk : env.scope.kind = .function) (hx : env.scope.names.lookup x = some .local) (hy : env.scope.names.lookup y = some .local) (hl : (py.line == px.line) = true) (hxy : x ≠ y)
    (sa : starless a = true) (sb : starless b = true) (hf : [a, b].all (foldedForSure 8) = false) (hc : [a, b].all (constantsAlone 8) = false) : swappedStores [.Tuple [.Name x px, .Name y py] kt pt] (.Tuple [a, b] k2 pt2) env = pure (some [x, y]) := by
  have hb : env.blockKind = .function := by unfold Env.blockKind; rw [hk]; rfl
  have kx : env.kindOf x = some .local := hx
  have ky : env.kindOf y = some .local := hy
  have st : ([a, b].any fun | .Starred .. => true | _ => false) = false := by
    cases a <;> first | exact (Bool.noConfusion (show false = true from sa)) | (cases b <;> first | exact (Bool.noConfusion (show false = true from sb)) | rfl)
  unfold swappedStores
  simp only [hb, st, hf, hc, List.filterMap_cons, List.filterMap_nil, kx, ky, hl, List.head?_cons, Option.map_some, Option.getD_some, Expr.pos]
  have hpx : (px.line == px.line) = true := by simp
  have hs : (some NameKind.local == some NameKind.local) = true := rfl
  have hd : [x, y].eraseDups = [x, y] := by
    have z : (y == x) = false := by simp [Ne.symm hxy]
    rw [List.eraseDups_cons, List.filter_cons, z]
    simp [List.eraseDups_cons]
  simp only [hpx, hs, Bool.and_self, if_true, hd]
  rw [if_neg (by simp)]
  refine (if_neg ?_).trans ?_
  · intro z
    exact Bool.noConfusion (st.symm.trans z)
  rw [if_neg (by simp), if_neg (by decide), if_neg (by decide)]
theorem swapped_no {ts : List Expr} {kt : Nat} {pt : Pos} {env : PySem.Env} (h : swNo env.scope ts e = true) : swappedStores [.Tuple ts kt pt] e env = pure none ∧ compless e = true := by
  cases e with
  | Tuple vs k2 p2 =>
    refine ⟨?_, rfl⟩
    simp only [swNo, Bool.or_eq_true, decide_eq_true_eq] at h
    unfold swappedStores
    simp only []
    split
    · rfl
    · split
      · rfl
      · split
        · rfl
        · rename_i h3
          rcases h with h | h
          · exfalso
            apply h3
            have : (swNames env.scope ts).length ≠ ts.length := h
            rw [Bool.or_eq_true]
            left
            exact bne_iff_ne.mpr this
          · rw [if_pos h]
  | _ => cases h
theorem setLcA {f n : Nat} {targets : List Expr} {ie : IS} (cx : CxOk X W G k C) (h : compA f C targets e = some ie) : PS X (.Assign targets e pos) (tS X W (ex G n ie)) := by
  cases n with
  | zero => exact PS_no fun _ _ => rfl
  | succ n =>
  unfold compA at h
  split at h
  · rename_i x px
    split at h
    · rename_i hh
      split at h
      · rename_i i hi
        obtain ⟨u, hu, rfl⟩ := opt_map h
        exact sS_set (cx.E hu) (sG_name cx.x.nd (cx.ix hi) (cx.asn hh.1).1 (cx.asn hh.1).2) (no_swapS hh.2 _ _ _) (by cases e <;> rfl) rfl
      · cases h
    · split at h
      · rename_i elt gs scope p _
        split at h
        · rename_i ha
          split at h
          · rename_i i hi
            obtain ⟨u, hu, rfl⟩ := opt_map h
            exact setLc_snd cx ha hi hu
          · cases h
        · cases h
      · cases h
  · rename_i ts kk pt
    split at h
    · rename_i hw
      rw [← cx.sc] at hw
      obtain ⟨w1, w2⟩ := swapped_no (kt := kk) (pt := pt) hw
      split at h
      · rename_i t ht
        obtain ⟨u, hu, rfl⟩ := opt_map h
        exact sS_set (cx.E hu) (compTg_ok cx f _ t ht) (no_swapS w2 _ _ _) w1 rfl
      · cases h
    split at h
    · split at h
      · rename_i x px y py a b k2 pt2 _
        split at h
        · rename_i hh
          obtain ⟨hx, hy, hl, hxy, sa, sb, hf, hc⟩ := hh
          split at h
          · rename_i i hi
            split at h
            · rename_i j hj
              split at h
              · rename_i hij
                split at h
                · rename_i u hu
                  split at h
                  · rename_i v hv
                    cases h
                    rw [← cx.sc] at hx hy
                    exact sS_par cx.x.calm cx.x.nd (cx.ix hi) (cx.ix hj) hij hx hy sa sb (cx.E hu) (cx.E hv) (swapped2 cx.kind hx hy hl hxy sa sb hf hc)
                  · cases h
                · cases h
              · cases h
            · cases h
          · cases h
        · cases h
      · cases h
    · rename_i hn
      split at h
      · rename_i hs
        split at h
        · rename_i t ht
          obtain ⟨u, hu, rfl⟩ := opt_map h
          exact sS_set (cx.E hu) (compTg_ok cx f _ t ht) (no_swapS hs _ _ _) (swapped_none hs (by simpa using hn) _ _) rfl
        · cases h
      · cases h
  · rename_i o i opos
    split at h
    · rename_i hh
      split at h
      · rename_i u hu
        split at h
        · rename_i v hv
          split at h
          · rename_i w hw
            cases h
            exact sS_setix cx.x hh.1 (cx.E hu) (cx.E hv) (cx.E hw) hh.2
          · cases h
        · cases h
      · cases h
    · cases h
  · rename_i o g opos
    split at h
    · rename_i hh
      split at h
      · rename_i u hu
        split at h
        · rename_i w hw
          cases h
          exact sS_setf cx.x hh.1 (cx.E hu) (cx.E hw) hh.2
        · cases h
      · cases h
    · cases h
  · cases h
theorem frz_snd {n : Nat} {sts : List Stmt} {rest : List IS} (hr : PSs X sts (tS X W (exs (ex G n) rest))) : ∀ l : List Nat, PSs X sts (tS X W (exs (ex G n) (l.map IS.frz ++ rest)))
  | [] => hr
  | j :: l => by
    cases n with
    | zero => exact PSs_no fun _ _ => rfl
    | succ n => exact sSs_frz (frz_snd hr l)
theorem isDoc_inv (h : isDoc e = true) : ∃ z j p, e = .Constant (.str z) j p := by
  unfold isDoc at h
  split at h
  · exact ⟨_, _, _, rfl⟩
  · cases h
end
def SndS (f : Nat) : Prop := ∀ (X : Cx) (W : WX) (G : Wr) (k : Nat) (C : Ctx) (s : Stmt) (is : IS) (n : Nat), CxOk X W G k C → PassesOwn (model X.prog X.w) X.A X.env X.xe → compS f C s = some is → PS X s (tS X W (ex G n is))
def SndSs (f : Nat) : Prop := ∀ (X : Cx) (W : WX) (G : Wr) (k : Nat) (C : Ctx) (s : List Stmt) (is : List IS) (n : Nat), CxOk X W G k C → PassesOwn (model X.prog X.w) X.A X.env X.xe → compSs f C s = some is → PSs X s (tS X W (exs (ex G n) is))
theorem snd_S {f : Nat} (ihS : SndSs f) : SndS (f + 1) := by
  intro X W G k C s is n cx hp h
  cases n with
  | zero => exact PS_no fun _ _ => rfl
  | succ n =>
    cases s with
    | Assign ts e pos => simp only [compS] at h; exact setLcA cx h
    | Return v pos =>
      simp only [compS] at h
      split at h
      · cases h; exact sS_retN
      · obtain ⟨u, hu, rfl⟩ := opt_map h
        exact sS_ret (cx.E hu)
    | Expr e pos =>
      simp only [compS] at h
      split at h
      · rename_i hd
        cases h
        obtain ⟨z, j, p, rfl⟩ := isDoc_inv hd
        exact sS_doc
      · split at h
        · rename_i hs
          obtain ⟨u, hu, rfl⟩ := opt_map h
          exact sS_ex (cx.E hu) hs
        · cases h
    | If c a b pos =>
      simp only [compS] at h
      split at h
      · rename_i u hu
        split at h
        · rename_i v hv
          split at h
          · rename_i w hw
            cases h
            exact sS_ife (cx.T hu) (ihS X W G k C a v n cx hp hv) (ihS X W G k C b w n cx hp hw)
          · cases h
        · cases h
      · cases h
    | For t iter body els pos =>
      simp only [compS] at h
      split at h
      · split at h
        · rename_i hs
          split at h
          · rename_i kS args hi
            split at h
            · rename_i tg ht
              split at h
              · rename_i b hb
                cases h
                exact sS_loop cx.x hp (compI_ok cx (fun e ie h => cx.E h) hi) (compTg_ok cx f t tg ht) (ihS X W G k C body b n cx hp hb) hs
              · cases h
            · cases h
          · cases h
        · cases h
      · cases h
    | Pass pos => simp only [compS] at h; cases h; exact sS_pass
    | Break pos => simp only [compS] at h; cases h; exact sS_brk
    | Continue pos => simp only [compS] at h; cases h; exact sS_cnt
    | Raise a b pos => simp only [compS] at h; cases h; exact sS_never
    | _ => simp [compS] at h
theorem snd_Ss {f : Nat} (ihA : SndS f) (ihS : SndSs f) : SndSs (f + 1) := by
  intro X W G k C ss is n cx hp h
  simp only [compSs] at h
  split at h
  · cases h; exact sSs_nil
  · rename_i s ss
    split at h
    · rename_i u hu
      split at h
      · rename_i us hus
        cases h
        exact frz_snd (sSs_cons (ihA X W G k C s u n cx hp hu) (ihS X W G k C ss us n cx hp hus)) _
      · cases h
    · cases h
theorem snd_allS : ∀ f, SndS f ∧ SndSs f
  | 0 => ⟨fun X W G k C s is n cx hp h => by simp [compS] at h, fun X W G k C s is n cx hp h => by simp [compSs] at h⟩
  | f + 1 => ⟨snd_S (snd_allS f).2, snd_Ss (snd_allS f).1 (snd_allS f).2⟩
end SI
end
section
set_option Elab.async false
set_option linter.all false
set_option maxRecDepth 100000
set_option maxHeartbeats 4000000
/-! SI21: defs, and the law's end. -/
namespace SI
open PySem PySem.Spec PyProof.Rows L2

/-- a def's body in the small language -/
structure FnE where
  ps : List Str
  N : List Str
  fuel : Nat
  body : List IS
def runF (G : Wr) (e : FnE) (ds : List D) (h : Hs) : Res D := if ds.length = e.ps.length then (match exs (ex G e.fuel) e.body (ds.map some ++ List.replicate (e.N.length - ds.length) none) h with
  | .nx _ h => .ok .non h
  | .rt d h => .ok d h
  | .ex x _ h => .ex x h
  | _ => .no) else .no
/-- the defs, the methods, the classes of a program -/
structure Pg where
  fns : List (Str × FnE)
  mths : List ((Str × Str) × FnE)
  mks : List Str
  cls : List Str
  sub : List ((Str × Str) × Bool)
def wr (P : Pg) : Nat → Wr
  | 0 => ⟨fun _ _ _ => .no, fun _ _ _ _ => .no, fun _ _ _ => .no, fun C T => P.sub.lookup (C, T), fun C => decide (C ∈ P.cls), fun C m => (P.mths.lookup (C, m)).isSome⟩
  | k + 1 => ⟨fun x ds h => match P.fns.lookup x with
      | some e => runF (wr P k) e ds h
      | none => .no, fun C m ds h => match P.mths.lookup (C, m) with
      | some e => runF (wr P k) e ds h
      | none => .no, fun C ds h => if C ∈ P.mks then ((wr P k).meth C "__init__" (.ptr h.length :: ds) (h ++ [.ins C []])).bind fun d h' => match d with
        | .non => .ok (.ptr h.length) h'
        | _ => .no else .no, fun C T => P.sub.lookup (C, T), fun C => decide (C ∈ P.cls), fun C m => (P.mths.lookup (C, m)).isSome⟩
section
variable {P : Program} {w : World} {K : PySem.W.Frag} {mg : Mg} {base : Heap}
/-- a def, walked -/
theorem fn_G {kk : Nat} {fa : Addr} {nm ql : Str} {prm : Arguments} {bd : List Stmt} {scp : Scope} {dv kv dc pm cv cx oc : Value} {an od : Option Addr} {osl : Array (Option Value)} {Ns prs : List Str} {spr : Sp}
    (lk : K.lookup fa = some ⟨oc, od, .func (PySem.W.fnOf nm ql prm bd scp dv kv dc pm an cv cx), osl⟩) (cdi : PySem.W.codeIn K cv ql = true) (Sc : FnScope Ns prs scp) (hlen : ∀ vs H Q E, spr vs H Q E → vs.length = prs.length)
    (walk : ∀ (A : Around) (stk : List PySem.Env) (s0 : Shared) (H0 : Hp) (xs : List V) (R : VK) (X0 : XK), Room kk (A.deeper (envOfC ql scp s0.heap.objs.size fa cv)) → A.guards = some [] → spr xs H0 R X0 →
      ∃ t, PSs (cxOf (L2.CX P w) P w K mg base Ns ql scp fa cv A stk s0 H0 X0) bd t ∧ t { nx := fun _ H' => R .non H', rt := R } (start Ns xs) H0) :
    FnG P w K mg base (kk + 1) fa (PySem.W.fnOf nm ql prm bd scp dv kv dc pm an cv cx) prs spr := by
  refine ⟨hlen, fun A stk s0 H0 ar us xs R X0 rm gd ev bt rl hs => ?_⟩
  have kin : K.In s0.heap := ev.mod.kin.keeps fun q u z => (ev.bs q u z).1
  have nl : s0.heap.NoLimit := ev.mod.nolimit.keeps fun q u z => (ev.bs q u z).1
  refine codeAny_call_function rm.depth (kin _ _ lk) rfl Sc.co Sc.gen rfl (PySem.W.codeRec_of kin cdi) (bt _ _ _ _ ?_)
  have kinds : ∀ y ∈ prs.zip us, scp.names.lookup y.1 = some .local ∨ (scp.names.lookup y.1 = some .cell ∧ ((cellsFrom (s0.heap.objs.size + 1) scp.names []).lookup y.1).isSome = true) := fun ⟨n, u⟩ hy =>
    (Sc.par n (List.of_mem_zip hy).1).imp id fun q => ⟨q, PySem.W.cellsFrom_some _ _ _ (.inl q)⟩
  refine wpAny_newFunctionEnv_cells Sc.kind kinds fun en he s1 ic => ?_
  subst he
  refine ⟨nl.keeps ic.toInCall.keep, codeAny_func ?_⟩
  obtain ⟨t, pt, qt⟩ := walk A stk s0 H0 xs R X0 (rm.deeper _) gd hs
  have I := inv_start (E := X0) (CX := L2.CX P w) Sc rm.hd ev (hlen _ _ _ _ hs) rl ic
  refine wpAny_mono (pt.run [] s1 (start Ns xs) H0 _ I qt) (fun fl s' z => ?_) fun _ _ z => z
  have done : ∀ {σ' : L2.St} {H' : Hp} {v : V} {u : Value}, Inv (cxOf (L2.CX P w) P w K mg base Ns ql scp fa cv A stk s0 H0 X0) [] σ' H' s' → RelV v u → R v H' → CE stk P w H0 s0 R u s' := fun {σ' H' v u} J rv q => ⟨v, H', J.os, J.bare, J.base, J.hok, rv, q⟩
  cases fl with
  | ret u => obtain ⟨v, σ', H', J, rv, q⟩ := z; exact done J rv q
  | next => obtain ⟨σ', H', J, q⟩ := z; exact done (v := V.non) (u := Value.none) J rfl q
  | brk => obtain ⟨_, _, _, q⟩ := z; exact q.elim
  | cont => obtain ⟨_, _, _, q⟩ := z; exact q.elim
/-- a def of the text and its body in the small language -/
structure EntOk (K : PySem.W.Frag) (T : Tab) (f : Addr) (fd : FuncData) (e : FnE) : Prop where
  ex : ∃ (x qual : Str) (params : Arguments) (body : List Stmt) (scope : Scope) (C : Ctx) (fu : Nat), FunD K x qual params body scope [] [] f fd ∧ FnScope e.N e.ps scope ∧ C.N = e.N ∧ C.sc = scope ∧ C.all = true ∧ C.T = T ∧ compSs fu C body = some e.body
  bi : Binds K fd e.ps []
theorem start_env {O : Om} {e : FnE} {ds : List D} {vs : List V} (r : RepL K mg O ds vs) : NvOk K mg O (ds.map some ++ List.replicate (e.N.length - ds.length) none) (start e.N vs) := by
  have hl := r.length
  refine ⟨by unfold L2.start; simp [hl], fun i d q => ?_⟩
  by_cases hi : i < ds.length
  · rw [List.getElem?_append_left (by simpa using hi), List.getElem?_map] at q
    cases h : ds[i]? with
    | none => rw [h] at q; cases q
    | some d' =>
      rw [h] at q
      cases q
      obtain ⟨v, hv, rv⟩ := r.get h
      refine ⟨v, ?_, rv⟩
      unfold L2.start
      rw [List.getElem?_append_left (by rw [List.length_map]; omega), List.getElem?_map, hv]; rfl
  · rw [List.getElem?_append_right (by rw [List.length_map]; omega), List.getElem?_replicate] at q
    split at q <;> cases q
theorem runF_len {G : Wr} {e : FnE} {ds : List D} {h : Hs} (ne : runF G e ds h ≠ .no) : ds.length = e.ps.length := by
  unfold runF at ne
  split at ne
  · assumption
  · exact absurd rfl ne
/-- the facts of a program's text -/
structure PgOk (K : PySem.W.Frag) (mg : Mg) (Pr : Pg) (T : Tab) : Prop where
  fns : ∀ x e, Pr.fns.lookup x = some e → ∃ f fd, mg x = some (.ref f) ∧ EntOk K T f fd e
  glo : ∀ x ∈ T.fns, ∃ f, mg x = some (.ref f) ∧ PySem.W.keepIn K (.ref f) = true
  mths : ∀ C m e, Pr.mths.lookup (C, m) = some e → ∃ c f fd, mg C = some (.ref c) ∧ Meth K c m f ∧ EntOk K T f fd e
  mks : ∀ C ∈ Pr.mks, ∃ c f, mg C = some (.ref c) ∧ Mk K c f
  cls : ∀ C ∈ Pr.cls, ∀ c, mg C = some (.ref c) → ClsF K c ∧ (∀ f ∈ T.attrs, NoAttr K c f) ∧ ∀ B ∈ bTys, PySem.W.kitOne K (.ref c) (.type B) = some false
  clg : ∀ C ∈ T.cls, ∃ c, mg C = some (.ref c) ∧ PySem.W.keepIn K (.ref c) = true ∧ ∀ B ∈ ["NoneType", "bool", "int", "str", "tuple", "list", "dict"], PySem.W.kitOne K (.type B) (.ref c) = some false
  sub : ∀ C T' b, Pr.sub.lookup (C, T') = some b → ∀ c t, mg C = some (.ref c) → mg T' = some (.ref t) → PySem.W.kitOne K (.ref c) (.ref t) = some b
  cst : ∀ p ∈ T.cst, ∃ u v, mg p.1 = some u ∧ L2.RelV v u ∧ ∀ O, Rep K mg O p.2 v
  free : ∀ x ∈ T.free, mg x = none
  cms : ∀ p ∈ T.cms, ∃ c f, mg p.1 = some (.ref c) ∧ PySem.W.keepIn K (.ref f) = true ∧ Meth K c p.2 f ∧ PySem.W.readsIn K c (.type "type") = true ∧ PySem.W.specialIn K (.ref c) "__getattribute__" = some (some (.builtin "type.__getattribute__")) ∧
    PySem.W.findCls K (.ref c) (.type "type") p.2 = some (.val (.ref f))
/-- every def keeps its promise at level k -/
def AllG (P : Program) (w : World) (K : PySem.W.Frag) (mg : Mg) (base : Heap) (Pr : Pg) (T : Tab) (k : Nat) : Prop := ∀ f fd e, EntOk K T f fd e → FnG P w K mg base k f fd e.ps (spF K mg e.ps.length fun ds h => match k with
  | 0 => .no
  | k + 1 => runF (wr Pr k) e ds h)
theorem wf_of {Pr : Pg} {T : Tab} {k : Nat} {X : Cx} (pg : PgOk X.K X.mg Pr T) (ih : ∀ j, j ≤ k → AllG X.prog X.w X.K X.mg X.base Pr T j) : Wf X (wr Pr k) k T := by
  have same : ∀ k, (wr Pr k).sub = (fun C T => Pr.sub.lookup (C, T)) ∧ (wr Pr k).cls = (fun C => decide (C ∈ Pr.cls)) ∧ (wr Pr k).mth = fun C m => (Pr.mths.lookup (C, m)).isSome := fun k => by cases k <;> exact ⟨rfl, rfl, rfl⟩
  refine ⟨pg.glo, fun x ds h ne => ?_, fun C m h => ?_, fun C m ds h ne => ?_, fun C ds h ne => ?_, fun C hc => ?_, pg.clg, fun C T' b h => ?_, pg.cst, pg.free, pg.cms⟩
  · cases k with
    | zero => exact absurd rfl ne
    | succ k =>
      cases hl : Pr.fns.lookup x with
      | none => exact absurd (show (wr Pr (k + 1)).call x ds h = .no by show (match Pr.fns.lookup x with | some e => runF (wr Pr k) e ds h | none => .no) = _; rw [hl]) ne
      | some e =>
        obtain ⟨f, fd, hm, en⟩ := pg.fns x e hl
        have ec : (wr Pr (k + 1)).call x = fun ds h => runF (wr Pr k) e ds h := by
          funext ds h
          show (match Pr.fns.lookup x with | some e => runF (wr Pr k) e ds h | none => .no) = _
          rw [hl]
        rw [ec] at ne ⊢
        exact ⟨f, fd, e.ps, hm, en.bi, (runF_len ne).symm, ih (k + 1) (Nat.le_refl _) f fd e en⟩
  · rw [(same k).2.2] at h
    obtain ⟨e, hl⟩ := Option.isSome_iff_exists.mp h
    obtain ⟨c, f, fd, hm, M, _⟩ := pg.mths C m e hl
    exact ⟨c, f, hm, M⟩
  · cases k with
    | zero => exact absurd rfl ne
    | succ k =>
      cases hl : Pr.mths.lookup (C, m) with
      | none => exact absurd (show (wr Pr (k + 1)).meth C m ds h = .no by show (match Pr.mths.lookup (C, m) with | some e => runF (wr Pr k) e ds h | none => .no) = _; rw [hl]) ne
      | some e =>
        obtain ⟨c, f, fd, hm, M, en⟩ := pg.mths C m e hl
        have ec : (wr Pr (k + 1)).meth C m = fun ds h => runF (wr Pr k) e ds h := by
          funext ds h
          show (match Pr.mths.lookup (C, m) with | some e => runF (wr Pr k) e ds h | none => .no) = _
          rw [hl]
        rw [ec] at ne ⊢
        exact ⟨c, f, fd, e.ps, hm, M, en.bi, (runF_len ne).symm, ih (k + 1) (Nat.le_refl _) f fd e en⟩
  · cases k with
    | zero => exact absurd rfl ne
    | succ k =>
      by_cases hC : C ∈ Pr.mks
      · have em : ∀ ds h, (wr Pr (k + 1)).make C ds h = ((wr Pr k).meth C "__init__" (.ptr h.length :: ds) (h ++ [.ins C []])).bind fun d h' => match d with
          | .non => .ok (.ptr h.length) h'
          | _ => .no := fun ds h => if_pos hC
        rw [em] at ne
        obtain ⟨c, f, hm, M⟩ := pg.mks C hC
        have ne2 : (wr Pr k).meth C "__init__" (.ptr h.length :: ds) (h ++ [.ins C []]) ≠ .no := fun z => ne (by rw [z]; rfl)
        cases k with
        | zero => exact absurd rfl ne2
        | succ k =>
          cases hl : Pr.mths.lookup (C, ("__init__" : Str)) with
          | none => exact absurd (show (wr Pr (k + 1)).meth C "__init__" _ _ = .no by show (match Pr.mths.lookup (C, ("__init__" : Str)) with | some e => runF (wr Pr k) e _ _ | none => .no) = _; rw [hl]) ne2
          | some e =>
            obtain ⟨c', f', fd, hm', M', en⟩ := pg.mths C "__init__" e hl
            rw [hm] at hm'
            cases hm'
            have ef : f = f' := by
              have z := M.init.symm.trans M'.at_
              simpa using z
            subst ef
            have ec : (wr Pr (k + 1)).meth C "__init__" = fun ds h => runF (wr Pr k) e ds h := by
              funext ds h
              show (match Pr.mths.lookup (C, ("__init__" : Str)) with | some e => runF (wr Pr k) e ds h | none => .no) = _
              rw [hl]
            have em' := em
            rw [ec] at ne2 em'
            exact ⟨c, f, fd, e.ps, k + 1, fun ds h => runF (wr Pr k) e ds h, hm, M, en.bi, (runF_len ne2).symm, Nat.le_refl _, ih (k + 1) (Nat.le_succ _) f fd e en, em'⟩
      · exact absurd (show (wr Pr (k + 1)).make C ds h = .no from if_neg hC) ne
  · rw [(same k).2.1] at hc
    exact pg.cls C (of_decide_eq_true hc)
  · rw [(same k).1] at h
    exact pg.sub C T' b h
theorem all_G {Pr : Pg} {T : Tab} (pg : PgOk K mg Pr T) : ∀ k j, j ≤ k → AllG P w K mg base Pr T j
  | 0, 0, _ => fun f fd e en => ⟨fun vs H Q E h => h.1, fun A outer s H args us vs Q E hr hg he hb rv ⟨_, O, ds, h, _, _, z⟩ => z.elim⟩
  | 0, j + 1, h => absurd h (by omega)
  | k + 1, j, h => by
    by_cases hj : j ≤ k
    · exact all_G pg k j hj
    · have : j = k + 1 := by omega
      subst this
      intro f fd e en
      obtain ⟨x, qual, params, body, scope, C, fu, F, Sc, hN, hsc, hall, hT, hc⟩ := en.ex
      obtain ⟨oc, od, dV, kV, doc, pm, an, cdv, ct, osl, rfl, lk, hcd, _, _⟩ := F.ex
      refine fn_G lk hcd Sc (fun vs H Q E h => h.1) fun A stk s0 H0 xs R X0 rm gd ⟨hl, O, ds, h, rl, S, z⟩ => ?_
      let X := cxOf (L2.CX P w) P w K mg base e.N qual scope f cdv A stk s0 H0 X0
      let W : WX := fun cls d _ H => X0 cls d H
      have tk : Takes X W := takes_of rfl rfl rfl rfl
      have wf : Wf X (wr Pr k) k T := wf_of (X := X) pg (all_G pg k)
      have cx : CxOk X W (wr Pr k) k C := ⟨⟨rm, gd, tk, by rw [hT]; exact wf, Sc.nd, rfl⟩, hN.symm, hsc.symm, Sc.kind, fun _ _ => rfl⟩
      refine ⟨_, (snd_allS fu).2 X W (wr Pr k) k C body e.body e.fuel cx (passes_of rfl) hc, O, _, h, start_env rl, S, ?_⟩
      have z : (match runF (wr Pr k) e ds h with
        | .ok d h' => ∀ (O' : Om) (v : V) (H' : Hp), Stp O H0 O' H' → SR K mg O' h' H' → Rep K mg O' d v → R v H'
        | .ex x h' => ∀ (O' : Om) (cls : Value) (d : Option Addr) (H' : Hp), Stp O H0 O' H' → SR K mg O' h' H' → ExOk K mg O' x cls d → X0 cls d H'
        | .no => False) := z
      have hd : ds.length = e.ps.length := by rw [rl.length, hl]
      unfold runF at z
      rw [if_pos hd] at z
      cases q : exs (ex (wr Pr k) e.fuel) e.body (ds.map some ++ List.replicate (e.N.length - ds.length) none) h with
      | nx env h' => rw [q] at z; exact fun O' sg' H' s S' e' => z O' _ H' s S' .non
      | rt d h' => rw [q] at z; exact fun O' v H' s S' r => z O' v H' s S' r
      | ex x env h' => rw [q] at z; exact fun O' cls d sg' H' s S' e' x => z O' cls d H' s S' x
      | bk env h' => rw [q] at z; exact z.elim
      | ct env h' => rw [q] at z; exact z.elim
      | no => rw [q] at z; exact z.elim
end
end SI
end
section
set_option Elab.async false
set_option linter.all false
set_option maxRecDepth 100000
set_option maxHeartbeats 4000000
/-! SI22: the law's end over defs that know that no repr is under way; the facts of a text. -/
namespace SI
open PySem PySem.Spec PyProof.Rows L2

theorem law_G {P : Program} {w : World} {K : PySem.W.Frag} {mg mb : Str → Option Value} {kk : Nat} {fa sa : Addr} {fd : FuncData} {y : Str} {spr : Sp} {st : Shared} {its : List Value} {zs : List Int}
    (kin : K.In st.heap) (gl : st.heap.Ns mainGlobals mg) (bl : st.heap.Ns builtinsNs mb) (bb : ∀ z : Str, z ≠ "__name__" → mb z = bootBuiltins z) (nl : st.heap.NoLimit) (gn : st.gens = #[])
    (sc : st.heap.get? sa = some { cls := .type "list", data := .seq its.toArray }) (ia : IntsAre its zs) (ll : zs.length ≤ sizeLine) (rm : Room kk callerA)
    (Fn : ∀ B : Heap, K.In B → B.Ns mainGlobals mg → FnG P w K mg B kk fa fd [y] spr) (bi : ∀ (s : Shared) (u : Value), BindsTo s fd ⟨[u], []⟩ [(y, u)])
    (want : ∀ T : Hp, Only T → SqL K T sa (zs.map V.int) → spr [.ref sa] T (fun v _ => v = .bl true) fun _ _ _ => False) :
    codeAny (model P w) callerA (.call (.ref fa) ⟨[.ref sa], []⟩) (fun r s' => r = .ok (.ret (.bool true)) ∧ OldK st.heap s'.heap ∧ s'.os = st.os ∧ AllBare s'.gens) st := by
  have vi := vals_ints ia
  have main : ∀ T : Hp, Only T → SqL K T sa (zs.map V.int) → HOk P w T st.heap → (∀ c, T c ≠ none → c = sa) → (T sa ≠ none → K.lookup sa = none) →
      codeAny (model P w) callerA (.call (.ref fa) ⟨[.ref sa], []⟩) (fun r s' => r = .ok (.ret (.bool true)) ∧ OldK st.heap s'.heap ∧ s'.os = st.os ∧ AllBare s'.gens) st := by
    intro T on sq ok at_ nk
    have inB : ∀ {c : Addr} {u : Obj}, st.heap.get? c = some u → T c = none → (hidT st.heap T).get? c = some u := fun e z => hidT_get e z
    have dictN : ∀ {c : Addr} {u : Obj} {es : Array DictEntry} {ep : Nat}, st.heap.get? c = some u → u.data = .dict es ep → T c = none := fun {c u es ep} e dd => by
      cases q : T c with
      | none => rfl
      | some z =>
        obtain rfl : c = sa := at_ c (by rw [q]; exact Option.some_ne_none z)
        rw [sc] at e
        cases e
        exact absurd dd (fun t => by cases t)
    have nsB : ∀ {c : Addr} {m : Str → Option Value}, st.heap.Ns c m → (hidT st.heap T).Ns c m := fun {c m} ⟨u, es, ep, e, dd, r⟩ => ⟨u, es, ep, inB e (dictN e dd), dd, r⟩
    have kB : K.In (hidT st.heap T) := fun c u e => inB (kin c u e) (by
      cases q : T c with
      | none => rfl
      | some z =>
        obtain rfl : c = sa := at_ c (by rw [q]; exact Option.some_ne_none z)
        rw [nk (by rw [q]; exact Option.some_ne_none z)] at e
        cases e)
    have md : Mod K mg (hidT st.heap T) := ⟨kB, nsB gl, ⟨mb, nsB bl, bb⟩, let ⟨mc, h1, h2⟩ := nl; ⟨mc, nsB h1, h2⟩⟩
    have ev : Env0 P w K mg (hidT st.heap T) callerA [] st T := ⟨rfl, md, fun c u e => of_hidT e, Nat.le_of_eq (hidT_size _ _), trivial, fun c hc => (List.not_mem_nil hc).elim, ok, .of_eq gn⟩
    refine codeAny_mono ((Fn _ kB (nsB gl)).run callerA [] st T ⟨[.ref sa], []⟩ [.ref sa] [.ref sa] _ _ rm rfl ev (bi st (.ref sa)) (.cons rfl .nil) (want T on sq)) fun r s' z => ?_
    cases r with
    | error ex => exact (let ⟨_, _, _, _, _, _, _, _, _, _, _, _, t⟩ := z; t.elim)
    | ok fl =>
      cases fl with
      | ret u =>
        obtain ⟨v, T', os, br, un, ok', rv, e⟩ := z
        obtain rfl : v = .bl true := e
        obtain rfl : u = Value.bool true := rv
        refine ⟨rfl, OldK.of_keep fun c ob e => ?_, os, br⟩
        cases q : T c with
        | none => exact un.keep c ob e q (fun t => (List.not_mem_nil t).elim) (by simp)
        | some u =>
          rcases on c with t | ⟨o2, xs, t⟩
          · rw [q] at t; cases t
          · obtain ⟨e1, _⟩ := ok c _ t
            obtain ⟨e2, _⟩ := ok' c _ (un.frzs c o2 _ t)
            rw [e] at e1
            cases e1
            exact e2
      | _ => exact z.elim
  cases hk : K.lookup sa with
  | some ob =>
    have e := kin sa ob hk
    rw [sc] at e
    cases e
    exact main (fun _ => none) (fun _ => .inl rfl) (.inr ⟨_, its.toArray, _, hk, rfl, rfl, rfl, by rw [List.size_toArray, ia.length]; exact ll, by simpa using vi⟩) (fun c u z => by cases (show (none : Option HO) = some u from z)) (fun c z => absurd rfl z) fun z => absurd rfl z
  | none =>
    refine main (fun c => if c = sa then some (.frz { cls := .type "list", data := .seq its.toArray } (.lst (zs.map V.int))) else none) (fun c => ?_) (.inl (.inr ⟨{ cls := .type "list", data := .seq its.toArray }, if_pos rfl⟩)) (fun c u z => ?_) (fun c z => ?_) fun _ => hk
    · by_cases hc : c = sa
      · exact .inr ⟨_, _, if_pos hc⟩
      · exact .inl (if_neg hc)
    · by_cases hc : c = sa
      · subst hc
        have z : (if c = c then some (HO.frz { cls := .type "list", data := .seq its.toArray } (.lst (zs.map V.int))) else none) = some u := z
        rw [if_pos rfl] at z
        cases z
        exact ⟨sc, by rw [List.length_map]; exact ll, its, _, vi, sc⟩
      · have z : (if c = sa then some (HO.frz { cls := .type "list", data := .seq its.toArray } (.lst (zs.map V.int))) else none) = some u := z
        rw [if_neg hc] at z
        cases z
    · by_cases hc : c = sa
      · exact hc
      · exact absurd (if_neg hc) z
theorem walk_G {l : PySem.W.OpenLaw} {n kk : Nat} {q : Program} {loose : List Str} {XP : (Str → Option Value) → Heap → Prop} {YP : World → Heap → Prop} {d : DefRec} {y : Str}
    (mo : l.most = some n) (mz : n ≤ sizeLine) (df : d.params.defaults = []) (rm : Room kk callerA)
    (Fn : ∀ (w : World) (mg : Str → Option Value) (fa : Addr) (hp : Heap), YP w hp → hp.Ns mainGlobals mg → mg d.name = some (.ref fa) →
      ∃ (K : PySem.W.Frag) (fd : FuncData) (spr : Sp), K.In hp ∧ (∀ (s : Shared) (u : Value), BindsTo s fd ⟨[u], []⟩ [(y, u)]) ∧
        (∀ (T : Hp) (sa : Addr) (zs : List Int), zs.length ≤ n → Only T → SqL K T sa (zs.map V.int) → spr [.ref sa] T (fun v _ => v = .bl true) fun _ _ _ => False) ∧
        ∀ B : Heap, K.In B → B.Ns mainGlobals mg → FnG l.prog w K mg B kk fa fd [y] spr) :
    PySem.W.WalkO q loose XP YP l.row.toRowW d [] (fun f vs => PySem.call f vs) := by
  refine Att.attach_call mo df fun w s₀ s₁ mg mb fa o pm cd doc sa its zs Gd Y _ _ _ hm obj ia hl gn => ?_
  obtain ⟨K, fd, spr, kin, bi, want, Fw⟩ := Fn w mg fa _ Y Gd.T.g hm
  exact law_G kin Gd.T.g Gd.T.b Gd.T.builtins Gd.T.nolimit gn obj ia (Nat.le_trans hl mz) rm Fw bi fun T on sq => want T sa zs hl on sq
/-! ### the facts -/
inductive Fx where
  | glo (x : Str) | free (x : Str) | clsf (x : Str) | noat (x f : Str) | kit (a b : Str) (r : Bool) | kitB (x : Str) (b : String) | kitA (b : String) (x : Str) | meth (x m : Str) | mkr (x : Str) | cms (x m : Str) | keep (x : Str)
def Fx.ok (K : PySem.W.Frag) : Fx → Bool
  | .glo x => (He.Fa.glo x).ok K
  | .free x => (He.Fa.free x).ok K
  | .clsf x => (He.Fa.cls x).ok K && (He.eqO (PySem.W.findIn K (.ref (He.ga K x)) "__class__") (some (some (.builtin "object.__class__"))) && (He.eqO (PySem.W.specialIn K (.builtin "object.__class__") "__get__") (some (some (.builtin "getset_descriptor.__get__"))) &&
      (decide (PySem.W.takesIn K (.builtin "object.__class__") = some true) && decide (PySem.W.mroIn K (He.ga K x) (.type "object") = some true))))
  | .noat x f => (He.Fa.noat x f).ok K
  | .kit a b r => decide (PySem.W.kitOne K (.ref (He.ga K a)) (.ref (He.ga K b)) = some r)
  | .kitB x b => decide (PySem.W.kitOne K (.ref (He.ga K x)) (.type b) = some false)
  | .kitA b x => decide (PySem.W.kitOne K (.type b) (.ref (He.ga K x)) = some false)
  | .meth x m => (He.Fa.meth x m).ok K
  | .mkr x => (He.Fa.mkr x).ok K
  | .keep x => (He.Fa.keep x).ok K
  | .cms x m => (He.Fa.meth x m).ok K && (PySem.W.readsIn K (He.ga K x) (.type "type") && (He.eqO (PySem.W.specialIn K (.ref (He.ga K x)) "__getattribute__") (some (some (.builtin "type.__getattribute__"))) &&
      (match PySem.W.findCls K (.ref (He.ga K x)) (.type "type") m with
      | some (.val (.ref f)) => decide (f = He.ma K (He.ga K x) m)
      | _ => false)))
def obsX (fx : List Fx) (fn : List He.DefD) (K : PySem.W.Frag) : He.AlD := ((fx.all fun f => f.ok K) && fn.all fun d => d.ok K, fn.map fun d => He.fnW K d.at_)
def SaysX (fx : List Fx) (fn : List He.DefD) (K : PySem.W.Frag) : Prop := obsX fx fn K = He.valD fn
def obsXG (n : Nat) (fx : List Fx) (fn : List He.DefD) (g : Addr → Option Obj) : He.AlD := obsX fx fn (He.frG g (cStatics :: He.asD g n))
def hookX (n : Nat) (fx : List Fx) (fn : List He.DefD) : PySem.W.Hook where
  α := He.AlD
  obs := fun s => obsXG n fx fn s.heap.get?
  val := fun _ => He.valD fn
  says := fun _ h => ∃ K : PySem.W.Frag, K.In h ∧ SaysX fx fn K
  of := fun _ _ z => ⟨_, He.frG_in, z⟩
  keeps := fun _ _ _ ⟨K, hK, c⟩ z => ⟨K, PySem.W.Frag.In.keeps hK z, c⟩
theorem obsXG_eq {n : Nat} {fx : List Fx} {fn : List He.DefD} {g : Addr → Option Obj} {s : Shared} (h : ∀ a, g a = s.heap.get? a) : obsXG n fx fn g = (hookX n fx fn).obs s := by
  obtain rfl : g = s.heap.get? := funext h
  rfl
section
variable {fx : List Fx} {fn : List He.DefD} {K : PySem.W.Frag}
theorem SaysX.all (c : SaysX fx fn K) : (∀ f ∈ fx, f.ok K = true) ∧ ∀ d ∈ fn, ∃ fd, FunD K d.name d.qual d.params d.body d.scope (d.dvs K) (d.kws K) (He.fAd K d.at_) fd := by
  have z := He.ba (show ((fx.all fun f => f.ok K) && fn.all fun d => d.ok K) = true from congrArg (fun z : He.AlD => z.1) c)
  have e : fn.map (fun d => He.fnW K d.at_) = fn.map He.DefD.val := congrArg (fun z : He.AlD => z.2) c
  refine ⟨fun f hf => List.all_eq_true.mp z.1 f hf, fun d hd => ?_⟩
  obtain ⟨i, hi, rfl⟩ := List.getElem_of_mem hd
  have e2 : (fn.map fun d => He.fnW K d.at_)[i]? = (fn.map He.DefD.val)[i]? := by rw [e]
  rw [List.getElem?_map, List.getElem?_map, List.getElem?_eq_getElem hi] at e2
  exact He.DefD.funD (Option.some.inj e2) (List.all_eq_true.mp z.2 _ hd)
theorem clsf_ok {x : Str} (c : (Fx.clsf x).ok K = true) : ClsF K (He.ga K x) := by
  obtain ⟨c1, c⟩ := He.ba c
  obtain ⟨c2, c⟩ := He.ba c
  obtain ⟨c3, c⟩ := He.ba c
  obtain ⟨c4, c5⟩ := He.ba c
  exact ⟨He.cls_ok c1, He.eqO_ok c2, He.eqO_ok c3, of_decide_eq_true c4, of_decide_eq_true c5⟩
theorem cms_ok {x m : Str} (c : (Fx.cms x m).ok K = true) : Meth K (He.ga K x) m (He.ma K (He.ga K x) m) ∧ PySem.W.readsIn K (He.ga K x) (.type "type") = true ∧ PySem.W.specialIn K (.ref (He.ga K x)) "__getattribute__" = some (some (.builtin "type.__getattribute__")) ∧
    PySem.W.findCls K (.ref (He.ga K x)) (.type "type") m = some (.val (.ref (He.ma K (He.ga K x) m))) := by
  obtain ⟨c1, c⟩ := He.ba c
  obtain ⟨c2, c⟩ := He.ba c
  obtain ⟨c3, c4⟩ := He.ba c
  refine ⟨He.meth_ok c1, c2, He.eqO_ok c3, ?_⟩
  revert c4
  split
  · rename_i f hf
    intro c4
    rw [hf, of_decide_eq_true c4]
  · intro c4; cases c4
end
end SI
end
section
set_option Elab.async false
set_option linter.all false
set_option maxRecDepth 100000
set_option maxHeartbeats 4000000
/-! SI23: a text's defs as data; the facts make the program. -/
namespace SI
open PySem PySem.Spec PyProof.Rows L2

structure DX where
  d : He.DefD
  e : FnE
  C : Ctx
  fu : Nat
structure Txt where
  fns : List (Str × DX)
  mths : List ((Str × Str) × DX)
  mks : List Str
  cls : List Str
  sub : List ((Str × Str) × Bool)
  T : Tab
def Txt.pg (t : Txt) : Pg := ⟨t.fns.map fun q => (q.1, q.2.e), t.mths.map fun q => (q.1, q.2.e), t.mks, t.cls, t.sub⟩
def Txt.fn (t : Txt) : List He.DefD := (t.fns.map fun q => q.2.d) ++ t.mths.map fun q => q.2.d
def b7 : List String := ["NoneType", "bool", "int", "str", "tuple", "list", "dict"]
def Txt.fx (t : Txt) : List Fx :=
  (t.fns.map fun q => Fx.glo q.1) ++ ((t.T.cls.map Fx.glo) ++ ((t.T.cls.map Fx.keep) ++ ((t.T.cls.flatMap fun C => b7.map fun b => Fx.kitA b C) ++ ((t.cls.map Fx.clsf) ++ ((t.cls.flatMap fun C => t.T.attrs.map fun f => Fx.noat C f) ++
  ((t.cls.flatMap fun C => bTys.map fun b => Fx.kitB C b) ++ ((t.mths.map fun q => Fx.meth q.1.1 q.1.2) ++ ((t.mks.map Fx.mkr) ++ ((t.sub.map fun q => Fx.kit q.1.1 q.1.2 q.2) ++ ((t.T.free.map Fx.free) ++ (t.T.cms.map fun q => Fx.cms q.1 q.2)))))))))))
structure DXOk (T : Tab) (x : DX) : Prop where
  N : x.C.N = x.e.N
  sc : x.C.sc = x.d.scope
  all : x.C.all = true
  T : x.C.T = T
  cp : compSs x.fu x.C x.d.body = some x.e.body
  fs : FnScope x.e.N x.e.ps x.d.scope
  df : x.d.dfl = []
  kw : x.d.kwd = []
  bi : ∀ (kV doc pm : Value) (an : Option Addr) (cdv ct : Value) (us : List Value), us.length = x.e.ps.length → bindArgs (PySem.W.fnOf x.d.name x.d.qual x.d.params x.d.body x.d.scope .none kV doc pm an cdv ct) ⟨us, []⟩ = pure (x.e.ps.zip us)
structure TxtOk (t : Txt) : Prop where
  fns : ∀ q ∈ t.fns, DXOk t.T q.2 ∧ q.2.d.at_ = (q.1, none)
  mths : ∀ q ∈ t.mths, DXOk t.T q.2 ∧ q.2.d.at_ = (q.1.1, some q.1.2) ∧ q.1.1 ∈ t.T.cls
  tf : ∀ x ∈ t.T.fns, x ∈ t.fns.map (·.1)
  cst : t.T.cst = []
  mks : ∀ C ∈ t.mks, C ∈ t.T.cls
  cls : ∀ C ∈ t.cls, C ∈ t.T.cls
  sub : ∀ q ∈ t.sub, q.1.1 ∈ t.T.cls ∧ q.1.2 ∈ t.T.cls
  cms : ∀ q ∈ t.T.cms, q.1 ∈ t.T.cls
section
variable {t : Txt} {K : PySem.W.Frag} {mg : Mg} {hp : Heap}
theorem ent_of {x : DX} {T : Tab} (o : DXOk T x) {fd : FuncData} {f : Addr} (F : FunD K x.d.name x.d.qual x.d.params x.d.body x.d.scope (x.d.dvs K) (x.d.kws K) f fd) : EntOk K T f fd x.e := by
  have F : FunD K x.d.name x.d.qual x.d.params x.d.body x.d.scope [] [] f fd := by
    have e1 : x.d.dvs K = [] := by unfold He.DefD.dvs; rw [o.df]; rfl
    have e2 : x.d.kws K = [] := by unfold He.DefD.kws; rw [o.kw]; rfl
    rw [e1, e2] at F
    exact F
  exact ⟨⟨_, _, _, _, _, x.C, x.fu, F, o.fs, o.N, o.sc, o.all, o.T, o.cp⟩, F.bindsN o.bi⟩
theorem look_map {κ : Type} [BEq κ] [LawfulBEq κ] {l : List (κ × DX)} {x : κ} {e : FnE} (h : (l.map fun q => (q.1, q.2.e)).lookup x = some e) : ∃ q ∈ l, q.1 = x ∧ q.2.e = e := by
  induction l with
  | nil => cases h
  | cons q r ih =>
    have h : (match x == q.1 with
      | true => some q.2.e
      | false => (r.map fun q => (q.1, q.2.e)).lookup x) = some e := h
    split at h
    · rename_i hb
      cases h
      exact ⟨q, List.mem_cons_self, (eq_of_beq hb).symm, rfl⟩
    · obtain ⟨q', m, z⟩ := ih h
      exact ⟨q', List.mem_cons_of_mem _ m, z⟩
theorem look_mem {κ β : Type} [BEq κ] [LawfulBEq κ] {l : List (κ × β)} {x : κ} {e : β} (h : l.lookup x = some e) : (x, e) ∈ l := by
  induction l with
  | nil => cases h
  | cons q r ih =>
    have h : (match x == q.1 with
      | true => some q.2
      | false => r.lookup x) = some e := h
    split at h
    · rename_i hb
      cases h
      rw [eq_of_beq hb]
      exact List.mem_cons_self
    · exact List.mem_cons_of_mem _ (ih h)
theorem pg_of (o : TxtOk t) (kin : K.In hp) (gl : hp.Ns mainGlobals mg) (c : SaysX t.fx t.fn K) : PgOk K mg t.pg t.T := by
  obtain ⟨cf, cd⟩ := c.all
  have inF : ∀ {f : Fx}, f ∈ t.fx → f.ok K = true := fun h => cf _ h
  have gC : ∀ C ∈ t.T.cls, mg C = some (.ref (He.ga K C)) := fun C hC => He.glo_ok kin gl (inF (f := .glo C) (by
    unfold Txt.fx
    exact List.mem_append_right _ (List.mem_append_left _ (List.mem_map_of_mem hC))))
  have gF : ∀ q ∈ t.fns, mg q.1 = some (.ref (He.ga K q.1)) := fun q hq => He.glo_ok kin gl (inF (f := .glo q.1) (by
    unfold Txt.fx
    exact List.mem_append_left _ (List.mem_map_of_mem (f := fun q => Fx.glo q.1) hq)))
  have fD : ∀ q ∈ t.fns, ∃ fd, FunD K q.2.d.name q.2.d.qual q.2.d.params q.2.d.body q.2.d.scope (q.2.d.dvs K) (q.2.d.kws K) (He.ga K q.1) fd := fun q hq => by
    have z := cd q.2.d (List.mem_append_left _ (List.mem_map_of_mem (f := fun q : Str × DX => q.2.d) hq))
    rw [(o.fns q hq).2] at z
    exact z
  refine ⟨fun x e h => ?_, fun x hx => ?_, fun C m e h => ?_, fun C hC => ?_, fun C hC c' hm => ?_, fun C hC => ?_, fun C T' b h c1 t1 h1 h2 => ?_, fun p hp => ?_, fun x hx => ?_, fun p hp => ?_⟩
  · obtain ⟨q, hq, rfl, rfl⟩ := look_map (l := t.fns) h
    obtain ⟨fd, F⟩ := fD q hq
    exact ⟨_, fd, gF q hq, ent_of (o.fns q hq).1 F⟩
  · obtain ⟨q, hq, rfl⟩ := List.mem_map.mp (o.tf x hx)
    obtain ⟨fd, F⟩ := fD q hq
    exact ⟨_, gF q hq, F.kp⟩
  · obtain ⟨q, hq, e1, rfl⟩ := look_map (l := t.mths) h
    obtain ⟨o1, o2, o3⟩ := o.mths q hq
    have z := cd q.2.d (List.mem_append_right _ (List.mem_map_of_mem (f := fun q : (Str × Str) × DX => q.2.d) hq))
    rw [o2] at z
    obtain ⟨fd, F⟩ := z
    have e2 : q.1.1 = C ∧ q.1.2 = m := by rw [e1]; exact ⟨rfl, rfl⟩
    obtain ⟨rfl, rfl⟩ := e2
    refine ⟨_, _, fd, gC _ o3, He.meth_ok (inF (f := .meth q.1.1 q.1.2) ?_), ent_of o1 F⟩
    unfold Txt.fx
    simp only [List.mem_append]
    exact .inr (.inr (.inr (.inr (.inr (.inr (.inr (.inl (List.mem_map_of_mem (f := fun q : (Str × Str) × DX => Fx.meth q.1.1 q.1.2) hq))))))))
  · refine ⟨_, _, gC C (o.mks C hC), He.mkr_ok (inF (f := .mkr C) ?_)⟩
    unfold Txt.fx
    simp only [List.mem_append]
    exact .inr (.inr (.inr (.inr (.inr (.inr (.inr (.inr (.inl (List.mem_map_of_mem hC)))))))))
  · rw [gC C (o.cls C hC)] at hm
    cases hm
    refine ⟨clsf_ok (inF (f := .clsf C) ?_), fun f hf => He.noat_ok (inF (f := .noat C f) ?_), fun B hB => of_decide_eq_true (inF (f := .kitB C B) ?_)⟩
    · unfold Txt.fx
      simp only [List.mem_append]
      exact .inr (.inr (.inr (.inr (.inl (List.mem_map_of_mem hC)))))
    · unfold Txt.fx
      simp only [List.mem_append]
      exact .inr (.inr (.inr (.inr (.inr (.inl (List.mem_flatMap.mpr ⟨C, hC, List.mem_map_of_mem hf⟩))))))
    · unfold Txt.fx
      simp only [List.mem_append]
      exact .inr (.inr (.inr (.inr (.inr (.inr (.inl (List.mem_flatMap.mpr ⟨C, hC, List.mem_map_of_mem hB⟩)))))))
  · refine ⟨_, gC C hC, inF (f := .keep C) ?_, fun B hB => of_decide_eq_true (inF (f := .kitA B C) ?_)⟩
    · unfold Txt.fx
      simp only [List.mem_append]
      exact .inr (.inr (.inl (List.mem_map_of_mem hC)))
    · unfold Txt.fx
      simp only [List.mem_append]
      exact .inr (.inr (.inr (.inl (List.mem_flatMap.mpr ⟨C, hC, List.mem_map_of_mem (f := fun b => Fx.kitA b C) hB⟩))))
  · have hm := look_mem (l := t.sub) h
    obtain ⟨s1, s2⟩ := o.sub _ hm
    rw [gC C s1] at h1
    rw [gC T' s2] at h2
    cases h1
    cases h2
    refine of_decide_eq_true (inF (f := .kit C T' b) ?_)
    unfold Txt.fx
    simp only [List.mem_append]
    exact .inr (.inr (.inr (.inr (.inr (.inr (.inr (.inr (.inr (.inl (List.mem_map_of_mem (f := fun q : (Str × Str) × Bool => Fx.kit q.1.1 q.1.2 q.2) hm))))))))))
  · rw [o.cst] at hp
    cases hp
  · refine He.free_ok kin gl (inF (f := .free x) ?_)
    unfold Txt.fx
    simp only [List.mem_append]
    exact .inr (.inr (.inr (.inr (.inr (.inr (.inr (.inr (.inr (.inr (.inl (List.mem_map_of_mem hx)))))))))))
  · have z := inF (f := .cms p.1 p.2) (by
      unfold Txt.fx
      simp only [List.mem_append]
      exact .inr (.inr (.inr (.inr (.inr (.inr (.inr (.inr (.inr (.inr (.inr (List.mem_map_of_mem (f := fun q : Str × Str => Fx.cms q.1 q.2) hp))))))))))))
    obtain ⟨m, r1, r2, r3⟩ := cms_ok z
    exact ⟨_, _, gC _ (o.cms p hp), m.kp, m, r1, r2, r3⟩
/-- the promise of the law -/
theorem law_end {P : Program} {w : World} {x : Str} {k : Nat} {q : Str × DX} (o : TxtOk t) (hq : t.fns.find? (fun q => q.1 == ("law" : Str)) = some q) (hps : q.2.e.ps = [x])
    (law : ∀ zs : List Int, zs.length ≤ 63 → ∃ h', runF (wr t.pg k) q.2.e [.ks true (zs.map D.int)] [] = .ok (.bl true) h')
    (kin : K.In hp) (gl : hp.Ns mainGlobals mg) (c : SaysX t.fx t.fn K) (fa : Addr) (hm : mg ("law" : Str) = some (.ref fa)) :
    ∃ (fd : FuncData) (spr : Sp), (∀ (s : Shared) (u : Value), BindsTo s fd ⟨[u], []⟩ [(x, u)]) ∧
        (∀ (T : Hp) (sa : Addr) (zs : List Int), zs.length ≤ 63 → Only T → SqL K T sa (zs.map V.int) → spr [.ref sa] T (fun v _ => v = .bl true) fun _ _ _ => False) ∧
        ∀ B : Heap, K.In B → B.Ns mainGlobals mg → FnG P w K mg B (k + 1) fa fd [x] spr := by
  obtain ⟨cf, cd⟩ := c.all
  have hmem := List.mem_of_find?_eq_some hq
  have hnm : q.1 = ("law" : Str) := by simpa using List.find?_some hq
  obtain ⟨o1, o2⟩ := o.fns q hmem
  have z := cd q.2.d (List.mem_append_left _ (List.mem_map_of_mem (f := fun q : Str × DX => q.2.d) hmem))
  rw [o2, hnm] at z
  obtain ⟨fd, F⟩ := z
  have ea : He.fAd K (("law" : Str), none) = fa := by
    have g := He.glo_ok kin gl (cf (.glo q.1) (by
      unfold Txt.fx
      exact List.mem_append_left _ (List.mem_map_of_mem (f := fun q => Fx.glo q.1) hmem)))
    rw [hnm, hm] at g
    exact (Value.ref.inj (Option.some.inj g)).symm
  rw [ea] at F
  have en := ent_of o1 F
  refine ⟨fd, spF K mg 1 fun ds h => runF (wr t.pg k) q.2.e ds h, fun s u => ?_, fun T sa zs hl on sq => ⟨rfl, ⟨0, fun _ => 0, T⟩, [.ks true (zs.map D.int)], [], .cons (.ksl sq ?_ ?_) .nil, ⟨rfl, fun _ _ e => e, fun i j hi => absurd hi (Nat.not_lt_zero _), fun i hi => absurd hi (Nat.not_lt_zero _), fun i c e => by simp at e, fun i c e => by simp at e⟩, ?_⟩, fun B kB gB => ?_⟩
  · have F0 : FunD K q.2.d.name q.2.d.qual q.2.d.params q.2.d.body q.2.d.scope [] [] fa fd := by
      have e1 : q.2.d.dvs K = [] := by unfold He.DefD.dvs; rw [o1.df]; rfl
      have e2 : q.2.d.kws K = [] := by unfold He.DefD.kws; rw [o1.kw]; rfl
      rw [e1, e2] at F
      exact F
    have b := F0.bindsA o1.bi s [u] (by rw [hps]; rfl)
    rw [hps] at b
    exact b
  · rw [List.length_map, sizeLine_eq]; omega
  · exact RepL.ints _ zs
  · obtain ⟨h', e⟩ := law zs hl
    simp only [e]
    exact fun O' v H' _ _ r => by cases r; rfl
  · have fg := all_G (P := P) (w := w) (base := B) (pg_of o kin gl c) (k + 1) (k + 1) (Nat.le_refl _) fa fd q.2.e en
    rw [hps] at fg
    exact fg
end
end SI
end
section
set_option Elab.async false
set_option linter.all false
set_option maxRecDepth 100000
set_option maxHeartbeats 4000000
/-! SI24: printing, small checks. -/
namespace SI
open PySem PySem.Spec PyProof.Rows L2
def dArgs : Stmt → Arguments
  | .FunctionDef _ a _ _ _ _ _ _ _ _ => a
  | _ => default
def dBody : Stmt → List Stmt
  | .FunctionDef _ _ b _ _ _ _ _ _ _ => b
  | _ => []
def dScope : Stmt → Scope
  | .FunctionDef _ _ _ _ _ _ s _ _ _ => s
  | _ => default
def scopeB (N P : List Str) (sc : Scope) : Bool := (match sc.kind with
  | .function => true
  | _ => false) && (!sc.isCoroutine && (!sc.isGenerator && (decide N.Nodup && (decide (N.take P.length = P) && ((P.all fun x => decide (sc.names.lookup x = some .local ∨ sc.names.lookup x = some .cell)) && sc.names.all fun y => match y.2 with
  | .free => false
  | _ => true)))))
theorem scopeB_ok {N P : List Str} {sc : Scope} (h : scopeB N P sc = true) : FnScope N P sc := by
  unfold scopeB at h
  simp only [Bool.and_eq_true, List.all_eq_true, decide_eq_true_eq, Bool.not_eq_true'] at h
  obtain ⟨h1, h2, h3, h4, h5, h6, h7⟩ := h
  refine ⟨?_, h2, h3, h4, h5, h6, fun y hy e => ?_⟩
  · split at h1
    · assumption
    · cases h1
  · have z := h7 y hy
    rw [e] at z
    cases z
/-- how a body's end is a call's end -/
def fin : SRes → Res D
  | .nx _ h => .ok .non h
  | .rt d h => .ok d h
  | .ex x _ h => .ex x h
  | _ => .no
@[simp] theorem fin_rt {d : D} {h : Hs} : fin (.rt d h) = .ok d h := rfl
@[simp] theorem fin_nx {env : Nv} {h : Hs} : fin (.nx env h) = .ok .non h := rfl
end SI
end
section
set_option Elab.async false
set_option linter.all false
set_option maxRecDepth 100000
set_option maxHeartbeats 4000000
/-! SI25: the small language, step by step. -/
namespace SI
open PySem L2

section
variable {G : Wr} {n : Nat} {env : Nv} {h : Hs}
@[simp] theorem ev_c {d : D} : ev G (n + 1) (.c d) env h = .ok d h := rfl
@[simp] theorem ev_v {i : Nat} : ev G (n + 1) (.v i) env h = .of (get env i) h := rfl
@[simp] theorem ev_val {e : IE} : ev G (n + 1) (.val e) env h = ev G n e env h := rfl
@[simp] theorem ev_tup {es : List IE} : ev G (n + 1) (.tup es) env h = (evs (ev G n) es env h).bind fun ds h => .ok (.tup ds) h := rfl
@[simp] theorem ev_lst {m : Bool} {es : List IE} : ev G (n + 1) (.lst m es) env h = (evs (ev G n) es env h).bind fun ds h => mkL m ds h := rfl
@[simp] theorem ev_bin {o : Bop} {a b : IE} : ev G (n + 1) (.bin o a b) env h = (ev G n a env h).bind fun x h => (ev G n b env h).bind fun y h => binA h o x y := rfl
@[simp] theorem ev_cmp {o : Cop} {a b : IE} : ev G (n + 1) (.cmp o a b) env h = (ev G n a env h).bind fun x h => (ev G n b env h).bind fun y h => .of ((cmpD h o x y).map .bl) h := rfl
@[simp] theorem ev_chain {o p : Cop} {a b c : IE} : ev G (n + 1) (.chain o p a b c) env h = (ev G n a env h).bind fun x h => (ev G n b env h).bind fun y h => (Res.of (cmpD h o x y) h).bind fun k h =>
        if k then (ev G n c env h).bind fun z h => .of ((cmpD h p y z).map .bl) h else .ok (.bl false) h := rfl
@[simp] theorem ev_and {a b : IE} : ev G (n + 1) (.and a b) env h = (ev G n a env h).bind fun x h => (Res.of (truth h x) h).bind fun k h => if k then ev G n b env h else .ok x h := rfl
@[simp] theorem ev_or {a b : IE} : ev G (n + 1) (.or a b) env h = (ev G n a env h).bind fun x h => (Res.of (truth h x) h).bind fun k h => if k then .ok x h else ev G n b env h := rfl
@[simp] theorem ev_not {a : IE} : ev G (n + 1) (.not a) env h = (ev G n a env h).bind fun x h => .of ((truth h x).map fun k => .bl (!k)) h := rfl
@[simp] theorem ev_ife {c a b : IE} : ev G (n + 1) (.ife c a b) env h = (evT G n c env h).bind fun k h => if k then ev G n a env h else ev G n b env h := rfl
@[simp] theorem ev_call {x : Str} {es : List IE} : ev G (n + 1) (.call x es) env h = (evs (ev G n) es env h).bind fun ds h => G.call x ds h := rfl
@[simp] theorem ev_make {x : Str} {es : List IE} : ev G (n + 1) (.make x es) env h = (evs (ev G n) es env h).bind fun ds h => G.make x ds h := rfl
@[simp] theorem ev_meth {o : IE} {m : Str} {es : List IE} : ev G (n + 1) (.meth o m es) env h = (ev G n o env h).bind fun d h => match clsOf G h d m with
      | some C => (evs (ev G n) es env h).bind fun ds h => G.meth C m (d :: ds) h
      | none => .no := rfl
@[simp] theorem ev_cmeth {C m : Str} {es : List IE} : ev G (n + 1) (.cmeth C m es) env h = (evs (ev G n) es env h).bind fun ds h => G.meth C m ds h := rfl
@[simp] theorem ev_bi {f : Bi} {e : IE} : ev G (n + 1) (.bi f e) env h = (ev G n e env h).bind fun d h => .of (biD f h d) h := rfl
@[simp] theorem ev_isi {e : IE} {ts : List (Sum String Str)} : ev G (n + 1) (.isi e ts) env h = (ev G n e env h).bind fun d h => .of ((isAny G h d ts).map .bl) h := rfl
@[simp] theorem ev_bm {m : Me} {o : IE} {es : List IE} : ev G (n + 1) (.bm m o es) env h = (ev G n o env h).bind fun d h => if meOk m h d then (evs (ev G n) es env h).bind fun ds h => meD m h d ds else .no := rfl
@[simp] theorem ev_fld {o : IE} {f : Str} : ev G (n + 1) (.fld o f) env h = (ev G n o env h).bind fun d h => .of (fldD G h d f) h := rfl
@[simp] theorem ev_ix {o i : IE} : ev G (n + 1) (.ix o i) env h = (ev G n o env h).bind fun x h => (ev G n i env h).bind fun y h => .of (ixD h x y) h := rfl
@[simp] theorem ev_sl {o : IE} {lo hi : Option IE} : ev G (n + 1) (.sl o lo hi) env h = (ev G n o env h).bind fun x h => (evo (ev G n) lo env h).bind fun l h => (evo (ev G n) hi env h).bind fun u h => .of (slD h x l u) h := rfl
@[simp] theorem ev_rngs {l m : Bool} {as : List IE} : ev G (n + 1) (.rngs l m as) env h = reL m ((evs (ev G n) as env h).bind fun ds h => (Res.of (rngA ds) h).bind fun xs h =>
        if xs.length ≤ LINE then .ok (if l then .lst xs else .tup xs) h else .no) := rfl
@[simp] theorem ev_dic {t : Bool} : ev G (n + 1) (.dic t) env h = .ok (.ptr h.length) (h ++ [if t then .dT [] else .dK []]) := rfl
@[simp] theorem ev_dicd {ks : List Str} {es : List IE} : ev G (n + 1) (.dicd ks es) env h = (evs (ev G n) es env h).calm.bind fun ds h =>
        if ks.length = ds.length then .ok (.ptr h.length) (h ++ [.dK ((ks.map Sum.inr).zip ds)]) else .no := rfl
/-- a comprehension's test -/
def ifsF (G : Wr) (n : Nat) : Option IE → Nv → Hs → Res Bool
  | none => fun _ h => .ok true h
  | some c => evT G n c
@[simp] theorem ifsF_none : ifsF G n none = fun _ h => .ok true h := rfl
@[simp] theorem ifsF_some {c : IE} : ifsF G n (some c) = evT G n c := rfl
theorem ev_comp {m : Bool} {e : IE} {t : Tg} {k : SrcK} {as : List IE} {i : Option IE} {own : List Nat} : ev G (n + 1) (.comp m e t k as i own) env h = reL m ((evs (ev G n) as env h).bind fun ds h => (Res.of (srcD k ds) h).bind fun xs h => if xs.length ≤ LINE then
        (compLoop (turnF t (ifsF G n i) (ev G n e) (wipeE env own)) xs h).bind fun ys h => .ok (.lst ys) h else .no) := by
  cases i <;> rfl
@[simp] theorem evT_and {a b : IE} : evT G (n + 1) (.and a b) env h = (evT G n a env h).bind fun k h => if k then evT G n b env h else .ok false h := rfl
@[simp] theorem evT_or {a b : IE} : evT G (n + 1) (.or a b) env h = (evT G n a env h).bind fun k h => if k then .ok true h else evT G n b env h := rfl
@[simp] theorem evT_not {a : IE} : evT G (n + 1) (.not a) env h = (evT G n a env h).bind fun k h => .ok (!k) h := rfl
@[simp] theorem evT_val {a : IE} : evT G (n + 1) (.val a) env h = (ev G n (.val a) env h).bind fun x h => .of (truth h x) h := rfl
@[simp] theorem evT_cmp {o : Cop} {a b : IE} : evT G (n + 1) (.cmp o a b) env h = (ev G n (.cmp o a b) env h).bind fun x h => .of (truth h x) h := rfl
@[simp] theorem evT_chain {o p : Cop} {a b c : IE} : evT G (n + 1) (.chain o p a b c) env h = (ev G n (.chain o p a b c) env h).bind fun x h => .of (truth h x) h := rfl
@[simp] theorem evs_nil {f : IE → Nv → Hs → Res D} : evs f [] env h = .ok [] h := rfl
@[simp] theorem evs_cons {f : IE → Nv → Hs → Res D} {e : IE} {es : List IE} : evs f (e :: es) env h = (f e env h).bind fun d h => (evs f es env h).bind fun ds h => .ok (d :: ds) h := rfl
@[simp] theorem evo_none {f : IE → Nv → Hs → Res D} : evo f none env h = .ok none h := rfl
@[simp] theorem evo_some {f : IE → Nv → Hs → Res D} {e : IE} : evo f (some e) env h = (f e env h).bind fun d h => match d with
    | .int i => .ok (some i) h
    | _ => .no := rfl
@[simp] theorem of_some {α : Type} {a : α} : Res.of (some a) h = .ok a h := rfl
@[simp] theorem of_none {α : Type} : (Res.of (none : Option α) h) = .no := rfl
@[simp] theorem calm_ok {α : Type} {a : α} : (Res.ok a h).calm = .ok a h := rfl
@[simp] theorem exs_nil {f : IS → Nv → Hs → SRes} : exs f [] env h = .nx env h := rfl
@[simp] theorem exs_cons {f : IS → Nv → Hs → SRes} {s : IS} {ss : List IS} : exs f (s :: ss) env h = (f s env h).then (exs f ss) := rfl
@[simp] theorem then_nx {f : Nv → Hs → SRes} : (SRes.nx env h).then f = f env h := rfl
@[simp] theorem then_rt {f : Nv → Hs → SRes} {d : D} : (SRes.rt d h).then f = .rt d h := rfl
@[simp] theorem then_bk {f : Nv → Hs → SRes} : (SRes.bk env h).then f = .bk env h := rfl
@[simp] theorem then_ct {f : Nv → Hs → SRes} : (SRes.ct env h).then f = .ct env h := rfl
@[simp] theorem ex_set {t : Tg} {e : IE} : ex G (n + 1) (.set t e) env h = (ev G n e env h).sbind env fun d h => match asg t d env with
      | some env => .nx env h
      | none => .no := rfl
@[simp] theorem ex_par {i j : Nat} {a b : IE} : ex G (n + 1) (.par i j a b) env h = (ev G n a env h).sbind env fun x h => (ev G n b env h).sbind env fun y h => .nx ((env.set i (some x)).set j (some y)) h := rfl
@[simp] theorem ex_setix {o i e : IE} : ex G (n + 1) (.setix o i e) env h = (ev G n e env h).sbind env fun v h => (ev G n o env h).sbind env fun x h => (ev G n i env h).sbind env fun y h => match setIxD h x y v with
      | some h => .nx env h
      | none => .no := rfl
@[simp] theorem ex_setf {o e : IE} {f : Str} : ex G (n + 1) (.setf o f e) env h = (ev G n e env h).sbind env fun v h => (ev G n o env h).sbind env fun x h => match setFD G h x f v with
      | some h => .nx env h
      | none => .no := rfl
@[simp] theorem ex_ex {e : IE} : ex G (n + 1) (.ex e) env h = (ev G n e env h).sbind env fun _ h => .nx env h := rfl
@[simp] theorem ex_ret {e : IE} : ex G (n + 1) (.ret e) env h = (ev G n e env h).sbind env fun d h => .rt d h := rfl
@[simp] theorem ex_retN : ex G (n + 1) .retN env h = .rt .non h := rfl
@[simp] theorem ex_ife {c : IE} {a b : List IS} : ex G (n + 1) (.ife c a b) env h = (evT G n c env h).sbind env fun k h => if k then exs (ex G n) a env h else exs (ex G n) b env h := rfl
@[simp] theorem ex_loop {t : Tg} {k : SrcK} {as : List IE} {b : List IS} : ex G (n + 1) (.loop t k as b) env h = (evs (ev G n) as env h).sbind env fun ds h => match srcD k ds with
      | some xs => forLoop (fun x env h => match asg t x env with
        | some env => exs (ex G n) b env h
        | none => .no) xs env h
      | none => .no := rfl
@[simp] theorem ex_pass : ex G (n + 1) .pass env h = .nx env h := rfl
@[simp] theorem asg_n {i : Nat} {d : D} : asg (.n i) d env = some (env.set i (some d)) := rfl
@[simp] theorem get_zero {d : Option D} : get (d :: env) 0 = d := rfl
@[simp] theorem get_succ {d : Option D} {i : Nat} : get (d :: env) (i + 1) = get env i := rfl
@[simp] theorem truth_bl {b : Bool} : truth h (.bl b) = some b := rfl
@[simp] theorem mkL_f {xs : List D} : mkL false xs h = .ok (.lst xs) h := rfl
@[simp] theorem mkL_t {xs : List D} : mkL true xs h = .ok (.ptr h.length) (h ++ [.lst xs]) := rfl
@[simp] theorem reL_f {r : Res D} : reL false r = r := rfl
end
end SI
end
section
set_option Elab.async false
set_option linter.all false
set_option maxRecDepth 100000
set_option maxHeartbeats 4000000
/-! SI26: plain laws: loops, equality, repr. -/
namespace SI
open PySem L2

/-! ### loops -/
theorem comp_pure {f : D → Hs → Res (Option D)} {g : D → Option D} {h : Hs} : ∀ {xs : List D}, (∀ x ∈ xs, f x h = .ok (g x) h) → compLoop f xs h = .ok (xs.filterMap g) h
  | [], _ => rfl
  | x :: xs, hx => by
    unfold compLoop
    rw [hx x List.mem_cons_self, Res.bind_ok, comp_pure fun y hy => hx y (List.mem_cons_of_mem _ hy), Res.bind_ok, List.filterMap_cons]
    cases g x <;> rfl
/-- every turn gives a thing -/
theorem comp_map {f : D → Hs → Res (Option D)} {g : D → D} {h : Hs} {xs : List D} (hx : ∀ x ∈ xs, f x h = .ok (some (g x)) h) : compLoop f xs h = .ok (xs.map g) h := by
  rw [comp_pure (g := fun x => some (g x)) hx]
  simp
/-- every turn gives a thing, the heap may change: I by what is left -/
theorem comp_inv {f : D → Hs → Res (Option D)} {R : D → D → Prop} {I : Nat → Hs → Prop} : ∀ {xs : List D} {h : Hs}, I xs.length h → (∀ x ∈ xs, ∀ n h, I (n + 1) h → ∃ y h', f x h = .ok (some y) h' ∧ I n h' ∧ R x y) → ∃ ys h', compLoop f xs h = .ok ys h' ∧ I 0 h' ∧ Paired R xs ys
  | [], h, i, _ => ⟨[], h, rfl, i, .nil⟩
  | x :: xs, h, i, k => by
    obtain ⟨y, h1, e1, i1, r1⟩ := k x List.mem_cons_self xs.length h i
    obtain ⟨ys, h2, e2, i2, r2⟩ := comp_inv i1 fun z hz => k z (List.mem_cons_of_mem _ hz)
    refine ⟨y :: ys, h2, ?_, i2, .cons r1 r2⟩
    unfold compLoop
    rw [e1, Res.bind_ok, e2, Res.bind_ok]
/-- turns that may give nothing -/
theorem comp_invO {f : D → Hs → Res (Option D)} {R : D → D → Prop} {I : Nat → Hs → Prop} : ∀ {xs : List D} {h : Hs}, I xs.length h → (∀ x ∈ xs, ∀ n h, I (n + 1) h → ∃ o h', f x h = .ok o h' ∧ I n h' ∧ ∀ y, o = some y → R x y) →
    ∃ ys zs h', compLoop f xs h = .ok ys h' ∧ I 0 h' ∧ List.Sublist zs xs ∧ Paired R zs ys
  | [], h, i, _ => ⟨[], [], h, rfl, i, .slnil, .nil⟩
  | x :: xs, h, i, k => by
    obtain ⟨o, h1, e1, i1, r1⟩ := k x List.mem_cons_self xs.length h i
    obtain ⟨ys, zs, h2, e2, i2, sl, r2⟩ := comp_invO i1 fun z hz => k z (List.mem_cons_of_mem _ hz)
    cases o with
    | none => exact ⟨ys, zs, h2, by unfold compLoop; rw [e1, Res.bind_ok, e2, Res.bind_ok], i2, .cons _ sl, r2⟩
    | some y => exact ⟨y :: ys, x :: zs, h2, by unfold compLoop; rw [e1, Res.bind_ok, e2, Res.bind_ok], i2, .cons₂ _ sl, .cons (r1 y rfl) r2⟩
/-- a loop that runs through: I by what is left -/
theorem for_inv {f : D → Nv → Hs → SRes} {I : Nat → Nv → Hs → Prop} : ∀ {xs : List D} {env : Nv} {h : Hs}, I xs.length env h → (∀ x ∈ xs, ∀ n env h, I (n + 1) env h → ∃ env' h', f x env h = .nx env' h' ∧ I n env' h') → ∃ env' h', forLoop f xs env h = .nx env' h' ∧ I 0 env' h'
  | [], env, h, i, _ => ⟨env, h, rfl, i⟩
  | x :: xs, env, h, i, k => by
    obtain ⟨env1, h1, e1, i1⟩ := k x List.mem_cons_self xs.length env h i
    obtain ⟨env2, h2, e2, i2⟩ := for_inv i1 fun z hz => k z (List.mem_cons_of_mem _ hz)
    exact ⟨env2, h2, by unfold forLoop; rw [e1]; exact e2, i2⟩
/-- the same with the items in sight -/
theorem for_seq {f : D → Nv → Hs → SRes} {I : List D → Nv → Hs → Prop} : ∀ {xs : List D} {env : Nv} {h : Hs}, I xs env h → (∀ x xs env h, I (x :: xs) env h → ∃ env' h', f x env h = .nx env' h' ∧ I xs env' h') → ∃ env' h', forLoop f xs env h = .nx env' h' ∧ I [] env' h'
  | [], env, h, i, _ => ⟨env, h, rfl, i⟩
  | x :: xs, env, h, i, k => by
    obtain ⟨env1, h1, e1, i1⟩ := k x xs env h i
    obtain ⟨env2, h2, e2, i2⟩ := for_seq i1 k
    exact ⟨env2, h2, by unfold forLoop; rw [e1]; exact e2, i2⟩
/-! ### plain data -/
mutual
theorem pyD_eq : ∀ (d : D) (g g' : Nat → Option PyData) (y : PyData), (∀ n, g n = none) → pyD g d = some y → pyD g' d = some y
  | .non, _, _, _, _, e => e
  | .bl _, _, _, _, _, e => e
  | .int _, _, _, _, _, e => e
  | .str _, _, _, _, _, e => e
  | .tup xs, g, g', y, hn, e => by
    simp only [pyD, Option.map_eq_some_iff] at e ⊢
    obtain ⟨ys, e, rfl⟩ := e
    exact ⟨ys, pyL_eq xs g g' ys hn e, rfl⟩
  | .lst xs, g, g', y, hn, e => by
    simp only [pyD, Option.map_eq_some_iff] at e ⊢
    obtain ⟨ys, e, rfl⟩ := e
    exact ⟨ys, pyL_eq xs g g' ys hn e, rfl⟩
  | .ks l xs, g, g', y, hn, e => by
    simp only [pyD, Option.map_eq_some_iff] at e ⊢
    obtain ⟨ys, e, rfl⟩ := e
    exact ⟨ys, pyL_eq xs g g' ys hn e, rfl⟩
  | .ptr n, g, g', y, hn, e => by
    have e : g n = some y := e
    rw [hn] at e; cases e
  | .glo _, _, _, _, _, e => by cases e
theorem pyL_eq : ∀ (ds : List D) (g g' : Nat → Option PyData) (ys : List PyData), (∀ n, g n = none) → pyL g ds = some ys → pyL g' ds = some ys
  | [], _, _, _, _, e => e
  | d :: ds, g, g', ys, hn, e => by
    simp only [pyL] at e ⊢
    split at e
    · rename_i y hy
      split at e
      · rename_i zs hz
        cases e
        rw [pyD_eq d g g' y hn hy, pyL_eq ds g g' zs hn hz]
      · cases e
    · cases e
end
/-- a value's data -/
def py (d : D) : Option PyData := pyD (fun _ => none) d
def pys (ds : List D) : Option (List PyData) := pyL (fun _ => none) ds
theorem deep_py {h : Hs} {d : D} {y : PyData} (e : py d = some y) : deep h d = some y := pyD_eq d _ _ y (fun _ => rfl) e
theorem pyL_pys {g : Nat → Option PyData} {ds : List D} {ys : List PyData} (e : pys ds = some ys) : pyL g ds = some ys := pyL_eq ds _ _ ys (fun _ => rfl) e
theorem py_tup {xs : List D} {ys : List PyData} (e : pys xs = some ys) : py (.tup xs) = some (.tuple ys) := by
  show (pyL _ xs).map _ = _
  rw [show pyL (fun _ => none) xs = some ys from e]; rfl
theorem py_lst {xs : List D} {ys : List PyData} (e : pys xs = some ys) : py (.lst xs) = some (.list ys) := by
  show (pyL _ xs).map _ = _
  rw [show pyL (fun _ => none) xs = some ys from e]; rfl
theorem pys_ints : ∀ xs : List Int, pys (xs.map D.int) = some (xs.map PyData.int)
  | [] => rfl
  | x :: xs => by
    show (match some (PyData.int x) with
      | some d => match pys (xs.map D.int) with
        | some ds => some (d :: ds)
        | none => none
      | none => none) = _
    rw [pys_ints xs]; rfl
theorem pys_map {α : Type} {f : α → D} {g : α → PyData} (h : ∀ a, py (f a) = some (g a)) : ∀ xs : List α, pys (xs.map f) = some (xs.map g)
  | [] => rfl
  | x :: xs => by
    show (match py (f x) with
      | some d => match pys (xs.map f) with
        | some ds => some (d :: ds)
        | none => none
      | none => none) = _
    rw [h, pys_map h xs]; rfl
theorem eqD_same {h : Hs} {d : D} {y : PyData} (e : py d = some y) (s : SeqAt.shaped y = true) : eqD h d d = some true := by
  unfold eqD
  rw [deep_py e]
  simp [s, SeqAt.eqv_refl y (SeqAt.canLay_of_shaped s)]
theorem eqD_py {h : Hs} {d e : D} {y z : PyData} (h1 : py d = some y) (h2 : py e = some z) (s : SeqAt.shaped y = true) (t : SeqAt.shaped z = true) : eqD h d e = some (PyData.eqv y z) := by
  unfold eqD
  rw [deep_py h1, deep_py h2]
  simp [s, t]
/-! ### small data: shown in a few signs -/
mutual
def good : PyData → Bool
  | .none => true
  | .bool _ => true
  | .int i => decide (0 ≤ i ∧ i < 10)
  | .str x => decide (x = "slots" ∨ x = "early" ∨ x = "upward")
  | .list xs => goods xs
  | .tuple xs => goods xs
  | .dict _ => false
def goods : List PyData → Bool
  | [] => true
  | x :: xs => good x && goods xs
end
mutual
def siz : PyData → Nat
  | .list xs => sizs xs + 1
  | .tuple xs => sizs xs + 1
  | _ => 1
def sizs : List PyData → Nat
  | [] => 0
  | x :: xs => siz x + sizs xs
end
theorem digit_len {i : Int} (h : 0 ≤ i ∧ i < 10) : (PyData.int i).shown.length ≤ 17 ∧ (PyData.int i).showable = true := by
  have : i = 0 ∨ i = 1 ∨ i = 2 ∨ i = 3 ∨ i = 4 ∨ i = 5 ∨ i = 6 ∨ i = 7 ∨ i = 8 ∨ i = 9 := by omega
  rcases this with rfl | rfl | rfl | rfl | rfl | rfl | rfl | rfl | rfl | rfl <;> exact ⟨by decide +kernel, by decide +kernel⟩
theorem word_len {x : Str} (h : x = "slots" ∨ x = "early" ∨ x = "upward") : (PyData.str x).shown.length ≤ 17 ∧ (PyData.str x).canLay0 = true := by
  rcases h with rfl | rfl | rfl <;> exact ⟨by decide +kernel, by decide +kernel⟩
mutual
theorem good_ok : ∀ d : PyData, good d = true → d.showable = true ∧ d.hasDict = false ∧ d.canLay0 = true ∧ d.shown.length + 3 ≤ 20 * siz d ∧ d.depth ≤ siz d
  | .none, _ => ⟨rfl, rfl, rfl, by decide +kernel, by decide⟩
  | .bool b, _ => ⟨rfl, rfl, rfl, by cases b <;> decide +kernel, by simp [PyData.depth]⟩
  | .int i, h => by
    have h1 := digit_len (of_decide_eq_true h)
    exact ⟨h1.2, rfl, rfl, by simp only [siz]; omega, by simp [PyData.depth]⟩
  | .str x, h => by
    have h1 := word_len (of_decide_eq_true h)
    exact ⟨rfl, rfl, h1.2, by simp only [siz]; omega, by simp [PyData.depth]⟩
  | .list xs, h => by
    obtain ⟨h1, h2, h3, h4, h5⟩ := goods_ok xs h
    have z := listText_len_le (PyData.shownAll xs)
    refine ⟨h1, h2, h3, ?_, ?_⟩
    · show (listText (PyData.shownAll xs)).length + 3 ≤ 20 * (sizs xs + 1)
      omega
    · show PyData.depthAll xs + 1 ≤ sizs xs + 1
      omega
  | .tuple xs, h => by
    obtain ⟨h1, h2, h3, h4, h5⟩ := goods_ok xs h
    have z := tupleText_len_le (PyData.shownAll xs)
    refine ⟨h1, h2, h3, ?_, ?_⟩
    · show (tupleText (PyData.shownAll xs)).length + 3 ≤ 20 * (sizs xs + 1)
      omega
    · show PyData.depthAll xs + 1 ≤ sizs xs + 1
      omega
  | .dict _, h => by cases h
theorem goods_ok : ∀ ds : List PyData, goods ds = true → PyData.showableAll ds = true ∧ PyData.hasDictAll ds = false ∧ PyData.canLayAll0 ds = true ∧ ((PyData.shownAll ds).map (·.length)).sum + 3 * (PyData.shownAll ds).length ≤ 20 * sizs ds ∧ PyData.depthAll ds ≤ sizs ds
  | [], _ => ⟨rfl, rfl, rfl, by simp [PyData.shownAll], by simp [PyData.depthAll]⟩
  | d :: ds, h => by
    simp only [goods, Bool.and_eq_true] at h
    obtain ⟨a1, a2, a3, a4, a5⟩ := good_ok d h.1
    obtain ⟨b1, b2, b3, b4, b5⟩ := goods_ok ds h.2
    refine ⟨by simp [PyData.showableAll, a1, b1], by simp [PyData.hasDictAll, a2, b2], by simp [PyData.canLayAll0, a3, b3], ?_, ?_⟩
    · simp only [PyData.shownAll, List.map_cons, List.sum_cons, List.length_cons, sizs]
      omega
    · simp only [PyData.depthAll, sizs]
      omega
end
theorem shaped_of {y : PyData} (g : good y = true) (z : y.depth ≤ 60) : SeqAt.shaped y = true := by
  obtain ⟨_, _, h3, _, h5⟩ := good_ok y g
  unfold SeqAt.shaped
  rw [h3, decide_eq_true (by omega)]; rfl
theorem repr_ok {h : Hs} {d : D} {y : PyData} (e : py d = some y) (p : isPtr d = true) (g : good y = true) (z : siz y ≤ 10000) (z2 : y.depth ≤ 60) : reprD h d = some (.str y.shown) := by
  obtain ⟨h1, h2, _, h4, _⟩ := good_ok y g
  have hl : y.shown.length ≤ LINE := by
    show _ ≤ 16777216
    omega
  unfold reprD
  rw [deep_py e]
  simp [p, h1, h2, hl, z2]
end SI
end
section
set_option Elab.async false
set_option linter.all false
set_option maxRecDepth 100000
set_option maxHeartbeats 4000000
/-! SI27: the laws' pen. -/
namespace SI
open PySem L2

/-- the pen's dict -/
def pen (cs : List D) (a g n f : Int) : Cell := .dK [(.inr "cells", .lst cs), (.inr "at", .int a), (.inr "digits", .int g), (.inr "count", .int n), (.inr "fold", .int f)]
section
variable {cs : List D} {a g n f m : Int} {h : Hs} {p : Nat}
theorem pen_cells : dget (pen cs a g n f) (.str "cells") = some (some (.lst cs)) := rfl
theorem pen_at : dget (pen cs a g n f) (.str "at") = some (some (.int a)) := rfl
theorem pen_digits : dget (pen cs a g n f) (.str "digits") = some (some (.int g)) := rfl
theorem pen_count : dget (pen cs a g n f) (.str "count") = some (some (.int n)) := rfl
theorem pen_fold : dget (pen cs a g n f) (.str "fold") = some (some (.int f)) := rfl
theorem put_at : dput (pen cs a g n f) (.str "at") (.int m) = some (pen cs m g n f) := rfl
theorem put_digits : dput (pen cs a g n f) (.str "digits") (.int m) = some (pen cs a m n f) := rfl
theorem put_count : dput (pen cs a g n f) (.str "count") (.int m) = some (pen cs a g m f) := rfl
theorem put_fold : dput (pen cs a g n f) (.str "fold") (.int m) = some (pen cs a g n m) := rfl
/-- reading and writing the pen at p -/
theorem pen_ix (hp : h[p]? = some (pen cs a g n f)) (k : D) : ixD h (.ptr p) k = (dget (pen cs a g n f) k).join := by
  show (match h[p]? with
    | some (.lst xs) => idx k xs
    | some c => (dget c k).join
    | none => none) = _
  rw [hp]; rfl
theorem pen_set (hp : h[p]? = some (pen cs a g n f)) (k v : D) : setIxD h (.ptr p) k v = (match dput (pen cs a g n f) k v with
      | some c' => some (h.set p c')
      | none => none) := by
  show (match h[p]? with
    | some (.lst xs) => match k with
      | .int k => match ixN xs.length k with
        | some j => some (h.set p (.lst (xs.set j v)))
        | none => none
      | _ => none
    | some c => match dput c k v with
      | some c' => some (h.set p c')
      | none => none
    | none => none) = _
  rw [hp]; rfl
theorem set_get (hp : h[p]? = some (pen cs a g n f)) (c : Cell) : (h.set p c)[p]? = some c := List.getElem?_set_self (List.getElem?_eq_some_iff.mp hp).1
end
/-- the pen stands at p, r more draws may come -/
def PenAt (r : Nat) (h : Hs) (p : Nat) : Prop := ∃ (ns : List Int) (a g n f : Int), h[p]? = some (pen (ns.map D.int) a g n f) ∧ 0 ≤ a ∧ 0 ≤ g ∧ 0 ≤ n ∧ n + r ≤ 1000000 ∧ 0 ≤ f ∧ f < 2 ^ 40
theorem PenAt.mono {r s : Nat} {h : Hs} {p : Nat} (x : PenAt r h p) (e : s ≤ r) : PenAt s h p := by
  obtain ⟨ns, a, g, n, f, h1, h2, h3, h4, h5, h6⟩ := x
  exact ⟨ns, a, g, n, f, h1, h2, h3, h4, by omega, h6⟩
/-- all else is as it was -/
structure Same (p : Nat) (h h' : Hs) : Prop where
  len : h'.length = h.length
  at_ : ∀ j, j ≠ p → h'[j]? = h[j]?
theorem Same.refl (p : Nat) (h : Hs) : Same p h h := ⟨rfl, fun _ _ => rfl⟩
theorem Same.trans {p : Nat} {h h1 h2 : Hs} (a : Same p h h1) (b : Same p h1 h2) : Same p h h2 := ⟨b.len.trans a.len, fun j hj => (b.at_ j hj).trans (a.at_ j hj)⟩
theorem Same.set (p : Nat) (h : Hs) (c : Cell) : Same p h (h.set p c) := ⟨List.length_set, fun j hj => List.getElem?_set_ne (Ne.symm hj)⟩
/-- a draw's text, by its numbers -/
def drawIR (c1 c2 c3 : Int) : List IS := [.setix (.v 0) (.c (.str "count")) (.bin .add (.ix (.v 0) (.c (.str "count"))) (.c (.int 1))),
  .ife (.and (.cmp .eq (.ix (.v 0) (.c (.str "digits"))) (.c (.int 0))) (.cmp .lt (.ix (.v 0) (.c (.str "at"))) (.bi .len (.ix (.v 0) (.c (.str "cells"))))))
    [.set (.n 2) (.ix (.ix (.v 0) (.c (.str "cells"))) (.ix (.v 0) (.c (.str "at")))), .setix (.v 0) (.c (.str "at")) (.bin .add (.ix (.v 0) (.c (.str "at"))) (.c (.int 1))),
     .ife (.cmp .ge (.v 2) (.bin .pow (.c (.int 10)) (.c (.int 18)))) [.setix (.v 0) (.c (.str "digits")) (.bin .sub (.v 2) (.bin .pow (.c (.int 10)) (.c (.int 18))))]
       [.setix (.v 0) (.c (.str "fold")) (.bin .mod (.bi .int (.bin .add (.bin .mul (.ix (.v 0) (.c (.str "fold"))) (.c (.int c1))) (.v 2))) (.c (.int 2147483543)))]] [],
  .ife (.cmp .gt (.ix (.v 0) (.c (.str "digits"))) (.c (.int 0))) [.set (.n 3) (.bin .mod (.bi .int (.ix (.v 0) (.c (.str "digits")))) (.v 1)), .setix (.v 0) (.c (.str "digits")) (.bin .fdiv (.ix (.v 0) (.c (.str "digits"))) (.v 1)), .ret (.v 3)] [],
  .set (.n 4) (.bin .add (.bin .add (.ix (.v 0) (.c (.str "fold"))) (.bin .mul (.ix (.v 0) (.c (.str "count"))) (.c (.int c2)))) (.c (.int c3))),
  .ret (.bin .mod (.bin .fdiv (.bi .int (.bin .mod (.bin .pow (.v 4) (.c (.int 23))) (.c (.int 2305843009213693951)))) (.c (.int 128))) (.v 1))]
section
variable {G : Wr} {c1 c2 c3 : Int} {cs : List D} {a g n f m : Int} {h : Hs} {p : Nat} {ns : List Int} {x2 x3 x4 : Option D}
@[simp] theorem binA_int {op : Bop} {i j : Int} {z : D} (e : binD h op (.int i) (.int j) = some z) : binA h op (.int i) (.int j) = .ok z h := by
  unfold binA; rw [e]
@[simp] theorem add_ii {i j : Int} : binA h .add (.int i) (.int j) = .ok (.int (i + j)) h := rfl
@[simp] theorem sub_ii {i j : Int} : binA h .sub (.int i) (.int j) = .ok (.int (i - j)) h := rfl
theorem mul_ic {i j : Int} (hb : big64 j = true) : binA h .mul (.int i) (.int j) = .ok (.int (i * j)) h := by
  unfold binA binD
  simp [hb]
theorem mod_ii {i j : Int} (hj : 0 < j) : binA h .mod (.int i) (.int j) = .ok (.int (i % j)) h := by
  unfold binA binD
  simp [hj]
theorem fdiv_ii {i j : Int} (hj : 0 < j) (h2 : j < 1073741824) : binA h .fdiv (.int i) (.int j) = .ok (.int (i / j)) h := by
  have h3 : j.natAbs < 1073741824 := by omega
  unfold binA binD
  simp [hj, h3]
theorem pow_10 : binA h .pow (.int 10) (.int 18) = .ok (.int 1000000000000000000) h := rfl
theorem pow_23 {i : Int} (hi : i.natAbs < 2 ^ 64) : binA h .pow (.int i) (.int 23) = .ok (.int (i ^ 23)) h := by
  unfold binA binD
  have : i.natAbs < 18446744073709551616 := hi
  simp [this]
@[simp] theorem eq_ii {i j : Int} : cmpD h .eq (.int i) (.int j) = some (i == j) := rfl
@[simp] theorem ne_ii {i j : Int} : cmpD h .ne (.int i) (.int j) = some (!(i == j)) := rfl
@[simp] theorem lt_ii {i j : Int} : cmpD h .lt (.int i) (.int j) = some (decide (i < j)) := rfl
@[simp] theorem gt_ii {i j : Int} : cmpD h .gt (.int i) (.int j) = some (decide (j < i)) := rfl
@[simp] theorem le_ii {i j : Int} : cmpD h .le (.int i) (.int j) = some (decide (i ≤ j)) := rfl
@[simp] theorem ge_ii {i j : Int} : cmpD h .ge (.int i) (.int j) = some (decide (j ≤ i)) := rfl
@[simp] theorem int_i {i : Int} : biD .int h (.int i) = some (.int i) := rfl
@[simp] theorem len_lst {xs : List D} : biD .len h (.lst xs) = some (.int xs.length) := rfl
@[simp] theorem len_tup {xs : List D} : biD .len h (.tup xs) = some (.int xs.length) := rfl
/-- the end of a draw -/
theorem draw_tail {k : Nat} (hp : h[p]? = some (pen cs a g n f)) (hg : 0 ≤ g) (hn : 0 ≤ n ∧ n ≤ 1000000) (hf : 0 ≤ f ∧ f < 2 ^ 40) (hc2 : 0 ≤ c2 ∧ c2 < 2 ^ 20) (hc3 : 0 ≤ c3 ∧ c3 < 2 ^ 20) (hm : 0 < m) (hm2 : m < 1073741824) :
    ∃ d g', exs (ex G (k + 10)) ((drawIR c1 c2 c3).drop 2) [some (.ptr p), some (.int m), x2, x3, x4] h = .rt (.int d) (h.set p (pen cs a g' n f)) ∧ 0 ≤ d ∧ d < m ∧ 0 ≤ g' := by
  by_cases hg0 : 0 < g
  · refine ⟨g % m, g / m, ?_, Int.emod_nonneg _ (by omega), Int.emod_lt_of_pos _ hm, Int.ediv_nonneg hg (by omega)⟩
    simp [drawIR, pen_ix hp, pen_digits, hg0, mod_ii hm, fdiv_ii hm hm2, pen_set hp, put_digits]
  · have hb : 0 ≤ f + n * c2 + c3 := by
      have := Int.mul_nonneg hn.1 hc2.1
      omega
    have hb2 : n * c2 ≤ 1000000 * 2 ^ 20 := Int.mul_le_mul hn.2 (by omega) hc2.1 (by omega)
    have hb3 : (f + n * c2 + c3).natAbs < 2 ^ 64 := by omega
    have hbig : big64 c2 = true := decide_eq_true (by omega)
    refine ⟨(f + n * c2 + c3) ^ 23 % 2305843009213693951 / 128 % m, g, ?_, Int.emod_nonneg _ (by omega), Int.emod_lt_of_pos _ hm, hg⟩
    have e0 : h.set p (pen cs a g n f) = h := set_same hp
    rw [e0]
    simp [drawIR, pen_ix hp, pen_digits, pen_fold, pen_count, hg0, mod_ii hm, fdiv_ii, mul_ic hbig, pow_23 hb3, mod_ii]
end
end SI
end
section
set_option Elab.async false
set_option linter.all false
set_option maxRecDepth 100000
set_option maxHeartbeats 4000000
/-! SI28: a draw, a row of draws. -/
namespace SI
open PySem L2
section
variable {G : Wr} {c1 c2 c3 : Int} {cs : List D} {a g n f m : Int} {h : Hs} {p : Nat} {ns : List Int} {x2 x3 x4 : Option D}
theorem at_ints {ns : List Int} {a : Int} (h0 : 0 ≤ a) (h1 : a < ns.length) : ∃ v, atI (ns.map D.int) a = some (.int v) := by
  have hl : (ns.map D.int).length = ns.length := List.length_map ..
  unfold atI ixN
  rw [hl, if_pos h0, if_pos h1]
  refine ⟨ns[a.toNat]'(by omega), ?_⟩
  simp [show a.toNat < ns.length by omega]
/-- the middle of a draw -/
theorem draw_mid {k : Nat} (hp : h[p]? = some (pen (ns.map D.int) a g n f)) (ha : 0 ≤ a) (hg : 0 ≤ g) (hf : 0 ≤ f ∧ f < 2 ^ 40) (hc1 : 0 ≤ c1 ∧ c1 < 2 ^ 20) :
    ∃ a' g' f' y2, exs (ex G (k + 10)) (((drawIR c1 c2 c3).drop 1).take 1) [some (.ptr p), some (.int m), x2, x3, x4] h = .nx [some (.ptr p), some (.int m), y2, x3, x4] (h.set p (pen (ns.map D.int) a' g' n f')) ∧ 0 ≤ a' ∧ 0 ≤ g' ∧ 0 ≤ f' ∧ f' < 2 ^ 40 := by
  have e0 : h.set p (pen (ns.map D.int) a g n f) = h := set_same hp
  by_cases hg0 : g = 0
  · by_cases hl : a < ns.length
    · obtain ⟨v, hv⟩ := at_ints ha hl
      have hix : ixD h (.lst (ns.map D.int)) (.int a) = some (.int v) := hv
      have hp2 : (h.set p (pen (ns.map D.int) (a + 1) g n f))[p]? = some (pen (ns.map D.int) (a + 1) g n f) := set_get hp _
      by_cases hb : 1000000000000000000 ≤ v
      · refine ⟨a + 1, v - 1000000000000000000, f, some (.int v), ?_, by omega, by omega, hf⟩
        simp [drawIR, pen_ix hp, pen_digits, pen_at, pen_cells, hg0, hl, hix, pen_set hp, put_at, pow_10, hb]
        subst hg0
        simp [pen_set hp2, put_digits]
      · refine ⟨a + 1, g, (f * c1 + v) % 2147483543, some (.int v), ?_, by omega, hg, Int.emod_nonneg _ (by decide), ?_⟩
        · have hbig : big64 c1 = true := decide_eq_true (by omega)
          simp [drawIR, pen_ix hp, pen_digits, pen_at, pen_cells, hg0, hl, hix, pen_set hp, put_at, pow_10, hb]
          subst hg0
          simp [pen_ix hp2, pen_fold, pen_set hp2, put_fold, mul_ic hbig, mod_ii]
        · have := Int.emod_lt_of_pos (f * c1 + v) (show (0 : Int) < 2147483543 by decide)
          omega
    · refine ⟨a, g, f, x2, ?_, ha, hg, hf⟩
      rw [e0]
      simp [drawIR, pen_ix hp, pen_digits, pen_at, pen_cells, hg0, hl]
  · refine ⟨a, g, f, x2, ?_, ha, hg, hf⟩
    rw [e0]
    simp [drawIR, pen_ix hp, pen_digits, hg0]
theorem exs_app {F : IS → Nv → Hs → SRes} : ∀ {l r : List IS} {env : Nv} {h : Hs}, exs F (l ++ r) env h = (exs F l env h).then (exs F r)
  | [], _, _, _ => rfl
  | s :: l, r, env, h => by
    show (F s env h).then (exs F (l ++ r)) = ((F s env h).then (exs F l)).then (exs F r)
    cases F s env h with
    | nx env h => exact exs_app
    | _ => rfl
theorem draw_run {k r : Nat} (hp : PenAt (r + 1) h p) (hc1 : 0 ≤ c1 ∧ c1 < 2 ^ 20) (hc2 : 0 ≤ c2 ∧ c2 < 2 ^ 20) (hc3 : 0 ≤ c3 ∧ c3 < 2 ^ 20) (hm : 0 < m) (hm2 : m < 1073741824) :
    ∃ d h', exs (ex G (k + 10)) (drawIR c1 c2 c3) [some (.ptr p), some (.int m), x2, x3, x4] h = .rt (.int d) h' ∧ 0 ≤ d ∧ d < m ∧ PenAt r h' p ∧ Same p h h' := by
  obtain ⟨ns, a, g, n, f, hp, ha, hg, hn, hr, hf⟩ := hp
  have hp1 : (h.set p (pen (ns.map D.int) a g (n + 1) f))[p]? = some (pen (ns.map D.int) a g (n + 1) f) := set_get hp _
  obtain ⟨a', g', f', y2, e2, ha', hg', hf'⟩ := draw_mid (G := G) (k := k) (c1 := c1) (c2 := c2) (c3 := c3) (m := m) (x2 := x2) (x3 := x3) (x4 := x4) hp1 ha hg hf hc1
  have hp2 := set_get hp1 (pen (ns.map D.int) a' g' (n + 1) f')
  obtain ⟨d, g2, e3, d0, d1, hg2⟩ := draw_tail (G := G) (k := k) (c1 := c1) (c2 := c2) (c3 := c3) (x2 := y2) (x3 := x3) (x4 := x4) hp2 hg' ⟨by omega, by omega⟩ hf' hc2 hc3 hm hm2
  refine ⟨d, _, ?_, d0, d1, ⟨ns, a', g2, n + 1, f', set_get hp2 _, ha', hg2, by omega, by omega, hf'⟩, ((Same.set _ _ _).trans (Same.set _ _ _)).trans (Same.set _ _ _)⟩
  have e1 : ex G (k + 10) (.setix (.v 0) (.c (.str "count")) (.bin .add (.ix (.v 0) (.c (.str "count"))) (.c (.int 1)))) [some (.ptr p), some (.int m), x2, x3, x4] h = .nx [some (.ptr p), some (.int m), x2, x3, x4] (h.set p (pen (ns.map D.int) a g (n + 1) f)) := by
    simp [pen_ix hp, pen_count, pen_set hp, put_count]
  show (ex G (k + 10) (.setix (.v 0) (.c (.str "count")) (.bin .add (.ix (.v 0) (.c (.str "count"))) (.c (.int 1)))) _ h).then (exs (ex G (k + 10)) (((drawIR c1 c2 c3).drop 1).take 1 ++ (drawIR c1 c2 c3).drop 2)) = _
  rw [e1, then_nx, exs_app, e2, then_nx, e3]
end
/-- one turn of a for -/
def bodyF (G : Wr) (n : Nat) (t : Tg) (b : List IS) : D → Nv → Hs → SRes := fun x env h => match asg t x env with
  | some env => exs (ex G n) b env h
  | none => .no
theorem loop_run {G : Wr} {n : Nat} {t : Tg} {k : SrcK} {as : List IE} {b : List IS} {env : Nv} {h h1 : Hs} {ds xs : List D} {r : SRes} (ea : evs (ev G n) as env h = .ok ds h1) (es : srcD k ds = some xs) (el : forLoop (bodyF G n t b) xs env h1 = r) :
    ex G (n + 1) (.loop t k as b) env h = r := by
  rw [ex_loop, ea, Res.sbind_ok, es]
  exact el
theorem comp_run {G : Wr} {n : Nat} {m : Bool} {e : IE} {t : Tg} {k : SrcK} {as : List IE} {i : Option IE} {own : List Nat} {env : Nv} {h h1 h2 : Hs} {ds xs ys : List D} (ea : evs (ev G n) as env h = .ok ds h1) (es : srcD k ds = some xs) (hz : xs.length ≤ LINE)
    (ec : compLoop (turnF t (ifsF G n i) (ev G n e) (wipeE env own)) xs h1 = .ok ys h2) : ev G (n + 1) (.comp m e t k as i own) env h = reL m (.ok (.lst ys) h2) := by
  rw [ev_comp, ea, Res.bind_ok, es, of_some, Res.bind_ok, if_pos hz, ec, Res.bind_ok]
/-- what a program's draw does -/
def Draws (G : Wr) : Prop := ∀ (r : Nat) (m : Int) (h : Hs) (p : Nat), PenAt (r + 1) h p → 0 < m → m < 1073741824 → ∃ d h', G.call "_law_draw" [.ptr p, .int m] h = .ok (.int d) h' ∧ 0 ≤ d ∧ d < m ∧ PenAt r h' p ∧ Same p h h'
end SI
end
section
set_option Elab.async false
set_option linter.all false
set_option maxRecDepth 100000
set_option maxHeartbeats 4000000
namespace SI.K15
open PySem PySem.Spec PyProof.Rows L2
abbrev prg : Program := PySem.Challenge.pw_silenthouses_k15_whole_planners
def top (i : Nat) : Stmt := prg.main.body.getD i (.Pass ⟨0, 0, 0, 0⟩)
def sub (i j : Nat) : Stmt := match top i with
  | .ClassDef _ _ _ b _ _ _ _ _ _ _ => b.getD j (.Pass ⟨0, 0, 0, 0⟩)
  | _ => .Pass ⟨0, 0, 0, 0⟩
def tab : Tab := ⟨["is_whole", "is_count", "is_box", "need_box", "is_row_in", "need_row", "need_run", "run_box", "is_between", "is_lot_below", "are_planner_parts", "is_first_place", "next_stretch", "_law_pen", "_law_draw", "_law_pick", "_law_row", "_law_is_state", "_law_planner", "_law_is_first", "_law_wheel_run", "_law_upward", "law"], ["Box", "Planner"], [], ["isinstance", "len", "all", "tuple", "list", "int", "range", "zip", "repr", "bool"], ["starts", "ins", "outs", "cells", "many", "wheel", "option", "over"], [("Box", "__init__")]⟩
abbrev s_is_whole : Stmt := top 4
def d_is_whole : He.DefD := ⟨("is_whole", none), "is_whole", "is_whole", dArgs s_is_whole, dBody s_is_whole, dScope s_is_whole, [], []⟩
def c_is_whole : Ctx := ⟨["value"], dScope s_is_whole, dScope s_is_whole, true, tab, [], [], [], []⟩
def i_is_whole : List IS := [.ret (.and (.isi (.v 0) [.inl "int"]) (.not (.isi (.v 0) [.inl "bool"])))]
def e_is_whole : FnE := ⟨["value"], ["value"], 60, i_is_whole⟩
def x_is_whole : DX := ⟨d_is_whole, e_is_whole, c_is_whole, 60⟩
theorem o_is_whole : DXOk tab x_is_whole := ⟨rfl, rfl, rfl, rfl, by kernel_rfl, scopeB_ok (by kernel_rfl), rfl, rfl, fun _ _ _ _ _ _ us hl => match us, hl with | [_], _ => rfl⟩
abbrev s_is_count : Stmt := top 5
def d_is_count : He.DefD := ⟨("is_count", none), "is_count", "is_count", dArgs s_is_count, dBody s_is_count, dScope s_is_count, [], []⟩
def c_is_count : Ctx := ⟨["value"], dScope s_is_count, dScope s_is_count, true, tab, [], [], [], []⟩
def i_is_count : List IS := [.ret (.and (.call "is_whole" [(.v 0)]) (.cmp .ge (.v 0) (.c (.int 0))))]
def e_is_count : FnE := ⟨["value"], ["value"], 60, i_is_count⟩
def x_is_count : DX := ⟨d_is_count, e_is_count, c_is_count, 60⟩
theorem o_is_count : DXOk tab x_is_count := ⟨rfl, rfl, rfl, rfl, by kernel_rfl, scopeB_ok (by kernel_rfl), rfl, rfl, fun _ _ _ _ _ _ us hl => match us, hl with | [_], _ => rfl⟩
abbrev s_is_box : Stmt := top 8
def d_is_box : He.DefD := ⟨("is_box", none), "is_box", "is_box", dArgs s_is_box, dBody s_is_box, dScope s_is_box, [], []⟩
def c_is_box : Ctx := ⟨["value"], dScope s_is_box, dScope s_is_box, true, tab, [], [], [], []⟩
def i_is_box : List IS := [.ret (.isi (.v 0) [.inr "Box"])]
def e_is_box : FnE := ⟨["value"], ["value"], 60, i_is_box⟩
def x_is_box : DX := ⟨d_is_box, e_is_box, c_is_box, 60⟩
theorem o_is_box : DXOk tab x_is_box := ⟨rfl, rfl, rfl, rfl, by kernel_rfl, scopeB_ok (by kernel_rfl), rfl, rfl, fun _ _ _ _ _ _ us hl => match us, hl with | [_], _ => rfl⟩
abbrev s_need_box : Stmt := top 9
def d_need_box : He.DefD := ⟨("need_box", none), "need_box", "need_box", dArgs s_need_box, dBody s_need_box, dScope s_need_box, [], []⟩
def c_need_box : Ctx := ⟨["box"], dScope s_need_box, dScope s_need_box, true, tab, [], [], [], []⟩
def i_need_box : List IS := [.ife (.not (.val (.call "is_box" [(.v 0)]))) [.bad] []]
def e_need_box : FnE := ⟨["box"], ["box"], 60, i_need_box⟩
def x_need_box : DX := ⟨d_need_box, e_need_box, c_need_box, 60⟩
theorem o_need_box : DXOk tab x_need_box := ⟨rfl, rfl, rfl, rfl, by kernel_rfl, scopeB_ok (by kernel_rfl), rfl, rfl, fun _ _ _ _ _ _ us hl => match us, hl with | [_], _ => rfl⟩
abbrev s_is_row_in : Stmt := top 10
def d_is_row_in : He.DefD := ⟨("is_row_in", none), "is_row_in", "is_row_in", dArgs s_is_row_in, dBody s_is_row_in, dScope s_is_row_in, [], []⟩
def c_is_row_in : Ctx := ⟨["sizes", "value", "item", "size"], dScope s_is_row_in, dScope s_is_row_in, true, tab, [], [], [], []⟩
def i_is_row_in : List IS := [.ife (.or (.not (.val (.isi (.v 1) [.inl "tuple"]))) (.cmp .ne (.bi .len (.v 1)) (.bi .len (.v 0)))) [.ret (.c (.bl false))] [], .ret (.bi .all (.comp false (.and (.call "is_count" [(.v 2)]) (.cmp .lt (.v 2) (.v 3))) (.t [(.n 2), (.n 3)]) .zip [(.v 1), (.v 0)] none [2, 3]))]
def e_is_row_in : FnE := ⟨["sizes", "value"], ["sizes", "value", "item", "size"], 60, i_is_row_in⟩
def x_is_row_in : DX := ⟨d_is_row_in, e_is_row_in, c_is_row_in, 60⟩
theorem o_is_row_in : DXOk tab x_is_row_in := ⟨rfl, rfl, rfl, rfl, by kernel_rfl, scopeB_ok (by kernel_rfl), rfl, rfl, fun _ _ _ _ _ _ us hl => match us, hl with | [_, _], _ => rfl⟩
abbrev s_need_row : Stmt := top 11
def d_need_row : He.DefD := ⟨("need_row", none), "need_row", "need_row", dArgs s_need_row, dBody s_need_row, dScope s_need_row, [], []⟩
def c_need_row : Ctx := ⟨["sizes", "row"], dScope s_need_row, dScope s_need_row, true, tab, [], [], [], []⟩
def i_need_row : List IS := [.ife (.not (.val (.call "is_row_in" [(.v 0), (.v 1)]))) [.bad] []]
def e_need_row : FnE := ⟨["sizes", "row"], ["sizes", "row"], 60, i_need_row⟩
def x_need_row : DX := ⟨d_need_row, e_need_row, c_need_row, 60⟩
theorem o_need_row : DXOk tab x_need_row := ⟨rfl, rfl, rfl, rfl, by kernel_rfl, scopeB_ok (by kernel_rfl), rfl, rfl, fun _ _ _ _ _ _ us hl => match us, hl with | [_, _], _ => rfl⟩
abbrev s_need_run : Stmt := top 12
def d_need_run : He.DefD := ⟨("need_run", none), "need_run", "need_run", dArgs s_need_run, dBody s_need_run, dScope s_need_run, [], []⟩
def c_need_run : Ctx := ⟨["box", "row", "rows", "item"], dScope s_need_run, dScope s_need_run, true, tab, [], [], [], []⟩
def i_need_run : List IS := [.ex (.call "need_box" [(.v 0)]), .ex (.call "need_row" [(.fld (.v 0) "starts"), (.v 1)]), .loop (.n 3) .seq [(.v 2)] [.ex (.call "need_row" [(.fld (.v 0) "ins"), (.v 3)])]]
def e_need_run : FnE := ⟨["box", "row", "rows"], ["box", "row", "rows", "item"], 60, i_need_run⟩
def x_need_run : DX := ⟨d_need_run, e_need_run, c_need_run, 60⟩
theorem o_need_run : DXOk tab x_need_run := ⟨rfl, rfl, rfl, rfl, by kernel_rfl, scopeB_ok (by kernel_rfl), rfl, rfl, fun _ _ _ _ _ _ us hl => match us, hl with | [_, _, _], _ => rfl⟩
abbrev s_run_box : Stmt := top 13
def d_run_box : He.DefD := ⟨("run_box", none), "run_box", "run_box", dArgs s_run_box, dBody s_run_box, dScope s_run_box, [], []⟩
def c_run_box : Ctx := ⟨["box", "row", "rows", "state", "found", "item"], dScope s_run_box, dScope s_run_box, true, tab, ["found"], [], [], []⟩
def i_run_box : List IS := [.ex (.call "need_run" [(.v 0), (.v 1), (.v 2)]), .set (.n 3) (.meth (.v 0) "begin" [(.v 1)]), .set (.n 4) (.lst true [(.meth (.v 0) "shown" [(.v 3)])]), .loop (.n 5) .seq [(.v 2)] [.set (.n 3) (.meth (.v 0) "step" [(.v 3), (.v 5)]), .ex (.bm .append (.v 4) [(.meth (.v 0) "shown" [(.v 3)])])], .ret (.bi .tuple (.v 4))]
def e_run_box : FnE := ⟨["box", "row", "rows"], ["box", "row", "rows", "state", "found", "item"], 60, i_run_box⟩
def x_run_box : DX := ⟨d_run_box, e_run_box, c_run_box, 60⟩
theorem o_run_box : DXOk tab x_run_box := ⟨rfl, rfl, rfl, rfl, by kernel_rfl, scopeB_ok (by kernel_rfl), rfl, rfl, fun _ _ _ _ _ _ us hl => match us, hl with | [_, _, _], _ => rfl⟩
abbrev s_is_between : Stmt := top 15
def d_is_between : He.DefD := ⟨("is_between", none), "is_between", "is_between", dArgs s_is_between, dBody s_is_between, dScope s_is_between, [], []⟩
def c_is_between : Ctx := ⟨["value", "low", "high"], dScope s_is_between, dScope s_is_between, true, tab, [], [], [], []⟩
def i_is_between : List IS := [.ret (.and (.call "is_count" [(.v 0)]) (.chain .le .le (.v 1) (.v 0) (.v 2)))]
def e_is_between : FnE := ⟨["value", "low", "high"], ["value", "low", "high"], 60, i_is_between⟩
def x_is_between : DX := ⟨d_is_between, e_is_between, c_is_between, 60⟩
theorem o_is_between : DXOk tab x_is_between := ⟨rfl, rfl, rfl, rfl, by kernel_rfl, scopeB_ok (by kernel_rfl), rfl, rfl, fun _ _ _ _ _ _ us hl => match us, hl with | [_, _, _], _ => rfl⟩
abbrev s_is_lot_below : Stmt := top 16
def d_is_lot_below : He.DefD := ⟨("is_lot_below", none), "is_lot_below", "is_lot_below", dArgs s_is_lot_below, dBody s_is_lot_below, dScope s_is_lot_below, [], []⟩
def c_is_lot_below : Ctx := ⟨["value", "many", "item", "one", "two"], dScope s_is_lot_below, dScope s_is_lot_below, true, tab, [], [], [], []⟩
def i_is_lot_below : List IS := [.ife (.or (.not (.val (.isi (.v 0) [.inl "tuple"]))) (.not (.val (.bi .all (.comp false (.and (.call "is_count" [(.v 2)]) (.cmp .lt (.v 2) (.v 1))) (.n 2) .seq [(.v 0)] none [2]))))) [.ret (.c (.bl false))] [], .ret (.bi .all (.comp false (.cmp .lt (.v 3) (.v 4)) (.t [(.n 3), (.n 4)]) .zip [(.v 0), (.sl (.v 0) (some (.c (.int 1))) none)] none [3, 4]))]
def e_is_lot_below : FnE := ⟨["value", "many"], ["value", "many", "item", "one", "two"], 60, i_is_lot_below⟩
def x_is_lot_below : DX := ⟨d_is_lot_below, e_is_lot_below, c_is_lot_below, 60⟩
theorem o_is_lot_below : DXOk tab x_is_lot_below := ⟨rfl, rfl, rfl, rfl, by kernel_rfl, scopeB_ok (by kernel_rfl), rfl, rfl, fun _ _ _ _ _ _ us hl => match us, hl with | [_, _], _ => rfl⟩
abbrev s_are_planner_parts : Stmt := top 17
def d_are_planner_parts : He.DefD := ⟨("are_planner_parts", none), "are_planner_parts", "are_planner_parts", dArgs s_are_planner_parts, dBody s_are_planner_parts, dScope s_are_planner_parts, [], []⟩
def c_are_planner_parts : Ctx := ⟨["many", "wheel", "option", "over", "item", "lot"], dScope s_are_planner_parts, dScope s_are_planner_parts, true, tab, [], [], [], []⟩
def i_are_planner_parts : List IS := [.ife (.or (.not (.val (.call "is_between" [(.v 0), (.c (.int 1)), (.c (.int 4))]))) (.or (.not (.val (.isi (.v 1) [.inl "tuple"]))) (.not (.chain .lt .le (.c (.int 0)) (.bi .len (.v 1)) (.c (.int 12)))))) [.ret (.c (.bl false))] [], .ife (.not (.val (.bi .all (.comp false (.call "is_between" [(.v 4), (.c (.int 0)), (.v 0)]) (.n 4) .seq [(.v 1)] none [4])))) [.ret (.c (.bl false))] [], .ife (.cmp .ne (.v 2) (.c (.str "upward"))) [.ret (.and (.cmp .isin (.v 2) (.tup [(.c (.str "slots")), (.c (.str "early"))])) (.cmp .eq (.v 3) (.tup [])))] [], .ret (.and (.isi (.v 3) [.inl "tuple"]) (.and (.cmp .eq (.bi .len (.v 3)) (.v 0)) (.bi .all (.comp false (.call "is_lot_below" [(.v 5), (.v 0)]) (.n 5) .seq [(.v 3)] none [5]))))]
def e_are_planner_parts : FnE := ⟨["many", "wheel", "option", "over"], ["many", "wheel", "option", "over", "item", "lot"], 60, i_are_planner_parts⟩
def x_are_planner_parts : DX := ⟨d_are_planner_parts, e_are_planner_parts, c_are_planner_parts, 60⟩
theorem o_are_planner_parts : DXOk tab x_are_planner_parts := ⟨rfl, rfl, rfl, rfl, by kernel_rfl, scopeB_ok (by kernel_rfl), rfl, rfl, fun _ _ _ _ _ _ us hl => match us, hl with | [_, _, _, _], _ => rfl⟩
abbrev s_is_first_place : Stmt := top 18
def d_is_first_place : He.DefD := ⟨("is_first_place", none), "is_first_place", "is_first_place", dArgs s_is_first_place, dBody s_is_first_place, dScope s_is_first_place, [], []⟩
def c_is_first_place : Ctx := ⟨["wheel", "place", "item"], dScope s_is_first_place, dScope s_is_first_place, true, tab, [], [], [], []⟩
def i_is_first_place : List IS := [.ife (.val (.bi .all (.comp false (.cmp .eq (.v 2) (.ix (.v 0) (.c (.int 0)))) (.n 2) .seq [(.v 0)] none [2]))) [.ret (.cmp .eq (.v 1) (.c (.int 0)))] [], .ret (.cmp .ne (.ix (.v 0) (.bin .sub (.v 1) (.c (.int 1)))) (.ix (.v 0) (.v 1)))]
def e_is_first_place : FnE := ⟨["wheel", "place"], ["wheel", "place", "item"], 60, i_is_first_place⟩
def x_is_first_place : DX := ⟨d_is_first_place, e_is_first_place, c_is_first_place, 60⟩
theorem o_is_first_place : DXOk tab x_is_first_place := ⟨rfl, rfl, rfl, rfl, by kernel_rfl, scopeB_ok (by kernel_rfl), rfl, rfl, fun _ _ _ _ _ _ us hl => match us, hl with | [_, _], _ => rfl⟩
abbrev s_next_stretch : Stmt := top 19
def d_next_stretch : He.DefD := ⟨("next_stretch", none), "next_stretch", "next_stretch", dArgs s_next_stretch, dBody s_next_stretch, dScope s_next_stretch, [], []⟩
def c_next_stretch : Ctx := ⟨["wheel", "place", "more", "other"], dScope s_next_stretch, dScope s_next_stretch, true, tab, [], [], [], []⟩
def i_next_stretch : List IS := [.loop (.n 2) .rng [(.c (.int 1)), (.bi .len (.v 0))] [.set (.n 3) (.bin .mod (.bin .add (.v 1) (.v 2)) (.bi .len (.v 0))), .ife (.cmp .ne (.ix (.v 0) (.v 3)) (.ix (.v 0) (.v 1))) [.ret (.v 3)] []], .ret (.bin .mod (.bin .add (.v 1) (.c (.int 1))) (.bi .len (.v 0)))]
def e_next_stretch : FnE := ⟨["wheel", "place"], ["wheel", "place", "more", "other"], 60, i_next_stretch⟩
def x_next_stretch : DX := ⟨d_next_stretch, e_next_stretch, c_next_stretch, 60⟩
theorem o_next_stretch : DXOk tab x_next_stretch := ⟨rfl, rfl, rfl, rfl, by kernel_rfl, scopeB_ok (by kernel_rfl), rfl, rfl, fun _ _ _ _ _ _ us hl => match us, hl with | [_, _], _ => rfl⟩
abbrev s_l_pen : Stmt := top 22
def d_l_pen : He.DefD := ⟨("_law_pen", none), "_law_pen", "_law_pen", dArgs s_l_pen, dBody s_l_pen, dScope s_l_pen, [], []⟩
def c_l_pen : Ctx := ⟨["script", "total", "cell"], dScope s_l_pen, dScope s_l_pen, true, tab, [], [], [], []⟩
def i_l_pen : List IS := [.set (.n 1) (.c (.int 0)), .loop (.n 2) .seq [(.v 0)] [.set (.n 1) (.bin .mod (.bi .int (.bin .add (.bin .mul (.v 1) (.c (.int 151))) (.v 2))) (.c (.int 1000000033)))], .ret (.dicd ["cells", "at", "digits", "count", "fold"] [(.bi .list (.v 0)), (.c (.int 0)), (.c (.int 0)), (.c (.int 0)), (.v 1)])]
def e_l_pen : FnE := ⟨["script"], ["script", "total", "cell"], 60, i_l_pen⟩
def x_l_pen : DX := ⟨d_l_pen, e_l_pen, c_l_pen, 60⟩
theorem o_l_pen : DXOk tab x_l_pen := ⟨rfl, rfl, rfl, rfl, by kernel_rfl, scopeB_ok (by kernel_rfl), rfl, rfl, fun _ _ _ _ _ _ us hl => match us, hl with | [_], _ => rfl⟩
abbrev s_l_draw : Stmt := top 23
def d_l_draw : He.DefD := ⟨("_law_draw", none), "_law_draw", "_law_draw", dArgs s_l_draw, dBody s_l_draw, dScope s_l_draw, [], []⟩
def c_l_draw : Ctx := ⟨["pen", "many", "cell", "digit", "blend"], dScope s_l_draw, dScope s_l_draw, true, tab, [], [], [], []⟩
def i_l_draw : List IS := [.setix (.v 0) (.c (.str "count")) (.bin .add (.ix (.v 0) (.c (.str "count"))) (.c (.int 1))), .ife (.and (.cmp .eq (.ix (.v 0) (.c (.str "digits"))) (.c (.int 0))) (.cmp .lt (.ix (.v 0) (.c (.str "at"))) (.bi .len (.ix (.v 0) (.c (.str "cells")))))) [.set (.n 2) (.ix (.ix (.v 0) (.c (.str "cells"))) (.ix (.v 0) (.c (.str "at")))), .setix (.v 0) (.c (.str "at")) (.bin .add (.ix (.v 0) (.c (.str "at"))) (.c (.int 1))), .ife (.cmp .ge (.v 2) (.bin .pow (.c (.int 10)) (.c (.int 18)))) [.setix (.v 0) (.c (.str "digits")) (.bin .sub (.v 2) (.bin .pow (.c (.int 10)) (.c (.int 18))))] [.setix (.v 0) (.c (.str "fold")) (.bin .mod (.bi .int (.bin .add (.bin .mul (.ix (.v 0) (.c (.str "fold"))) (.c (.int 73607))) (.v 2))) (.c (.int 2147483543)))]] [], .ife (.cmp .gt (.ix (.v 0) (.c (.str "digits"))) (.c (.int 0))) [.set (.n 3) (.bin .mod (.bi .int (.ix (.v 0) (.c (.str "digits")))) (.v 1)), .setix (.v 0) (.c (.str "digits")) (.bin .fdiv (.ix (.v 0) (.c (.str "digits"))) (.v 1)), .ret (.v 3)] [], .set (.n 4) (.bin .add (.bin .add (.ix (.v 0) (.c (.str "fold"))) (.bin .mul (.ix (.v 0) (.c (.str "count"))) (.c (.int 9601)))) (.c (.int 151))), .ret (.bin .mod (.bin .fdiv (.bi .int (.bin .mod (.bin .pow (.v 4) (.c (.int 23))) (.c (.int 2305843009213693951)))) (.c (.int 128))) (.v 1))]
def e_l_draw : FnE := ⟨["pen", "many"], ["pen", "many", "cell", "digit", "blend"], 60, i_l_draw⟩
def x_l_draw : DX := ⟨d_l_draw, e_l_draw, c_l_draw, 60⟩
theorem o_l_draw : DXOk tab x_l_draw := ⟨rfl, rfl, rfl, rfl, by kernel_rfl, scopeB_ok (by kernel_rfl), rfl, rfl, fun _ _ _ _ _ _ us hl => match us, hl with | [_, _], _ => rfl⟩
abbrev s_l_pick : Stmt := top 24
def d_l_pick : He.DefD := ⟨("_law_pick", none), "_law_pick", "_law_pick", dArgs s_l_pick, dBody s_l_pick, dScope s_l_pick, [], []⟩
def c_l_pick : Ctx := ⟨["pen", "some"], dScope s_l_pick, dScope s_l_pick, true, tab, [], [], [], []⟩
def i_l_pick : List IS := [.ret (.ix (.v 1) (.call "_law_draw" [(.v 0), (.bi .len (.v 1))]))]
def e_l_pick : FnE := ⟨["pen", "some"], ["pen", "some"], 60, i_l_pick⟩
def x_l_pick : DX := ⟨d_l_pick, e_l_pick, c_l_pick, 60⟩
theorem o_l_pick : DXOk tab x_l_pick := ⟨rfl, rfl, rfl, rfl, by kernel_rfl, scopeB_ok (by kernel_rfl), rfl, rfl, fun _ _ _ _ _ _ us hl => match us, hl with | [_, _], _ => rfl⟩
abbrev s_l_row : Stmt := top 25
def d_l_row : He.DefD := ⟨("_law_row", none), "_law_row", "_law_row", dArgs s_l_row, dBody s_l_row, dScope s_l_row, [], []⟩
def c_l_row : Ctx := ⟨["pen", "sizes", "size"], dScope s_l_row, dScope s_l_row, true, tab, [], [], [], []⟩
def i_l_row : List IS := [.ret (.bi .tuple (.comp false (.call "_law_draw" [(.v 0), (.v 2)]) (.n 2) .seq [(.v 1)] none [2]))]
def e_l_row : FnE := ⟨["pen", "sizes"], ["pen", "sizes", "size"], 60, i_l_row⟩
def x_l_row : DX := ⟨d_l_row, e_l_row, c_l_row, 60⟩
theorem o_l_row : DXOk tab x_l_row := ⟨rfl, rfl, rfl, rfl, by kernel_rfl, scopeB_ok (by kernel_rfl), rfl, rfl, fun _ _ _ _ _ _ us hl => match us, hl with | [_, _], _ => rfl⟩
abbrev s_l_is_state : Stmt := top 26
def d_l_is_state : He.DefD := ⟨("_law_is_state", none), "_law_is_state", "_law_is_state", dArgs s_l_is_state, dBody s_l_is_state, dScope s_l_is_state, [], []⟩
def c_l_is_state : Ctx := ⟨["box", "state", "x", "size"], dScope s_l_is_state, dScope s_l_is_state, true, tab, [], [], [], []⟩
def i_l_is_state : List IS := [.ife (.or (.not (.val (.isi (.v 1) [.inl "tuple"]))) (.cmp .ne (.bi .len (.v 1)) (.bi .len (.fld (.v 0) "cells")))) [.ret (.c (.bl false))] [], .ret (.cmp .eq (.comp false (.v 2) (.t [(.n 2), (.n 3)]) .zip [(.v 1), (.fld (.v 0) "cells")] (some (.or (.val (.isi (.v 2) [.inl "bool"])) (.not (.chain .le .lt (.c (.int 0)) (.v 2) (.v 3))))) [2, 3]) (.lst false []))]
def e_l_is_state : FnE := ⟨["box", "state"], ["box", "state", "x", "size"], 60, i_l_is_state⟩
def x_l_is_state : DX := ⟨d_l_is_state, e_l_is_state, c_l_is_state, 60⟩
theorem o_l_is_state : DXOk tab x_l_is_state := ⟨rfl, rfl, rfl, rfl, by kernel_rfl, scopeB_ok (by kernel_rfl), rfl, rfl, fun _ _ _ _ _ _ us hl => match us, hl with | [_, _], _ => rfl⟩
abbrev s_l_planner : Stmt := top 27
def d_l_planner : He.DefD := ⟨("_law_planner", none), "_law_planner", "_law_planner", dArgs s_l_planner, dBody s_l_planner, dScope s_l_planner, [], []⟩
def c_l_planner : Ctx := ⟨["pen", "many", "wheel", "lap", "option", "over", "j", "i"], dScope s_l_planner, dScope s_l_planner, true, tab, [], [], [], []⟩
def i_l_planner : List IS := [.set (.n 1) (.bin .add (.c (.int 1)) (.call "_law_draw" [(.v 0), (.c (.int 3))])), .set (.n 2) (.lst false []), .loop (.n 3) .rng [(.bin .add (.c (.int 1)) (.call "_law_draw" [(.v 0), (.c (.int 4))]))] [.set (.n 2) (.bin .add (.v 2) (.bin .mul (.lst false [(.call "_law_draw" [(.v 0), (.bin .add (.v 1) (.c (.int 1)))])]) (.bin .add (.c (.int 1)) (.call "_law_draw" [(.v 0), (.c (.int 3))]))))], .set (.n 4) (.call "_law_pick" [(.v 0), (.lst false [(.c (.str "slots")), (.c (.str "early")), (.c (.str "upward"))])]), .set (.n 5) (.tup []), .ife (.cmp .eq (.v 4) (.c (.str "upward"))) [.set (.n 5) (.bi .tuple (.comp false (.bi .tuple (.comp false (.v 6) (.n 6) .rng [(.v 1)] (some (.and (.cmp .ne (.v 6) (.v 7)) (.cmp .eq (.call "_law_draw" [(.v 0), (.c (.int 2))]) (.c (.int 0))))) [6])) (.n 7) .rng [(.v 1)] none [7])), .ife (.cmp .eq (.call "_law_draw" [(.v 0), (.c (.int 2))]) (.c (.int 0))) [.set (.n 5) (.bi .tuple (.comp false (.rngs false false [(.bin .add (.v 7) (.c (.int 1))), (.v 1)]) (.n 7) .rng [(.v 1)] none [7]))] []] [], .ret (.tup [(.v 1), (.bi .tuple (.sl (.v 2) none (some (.c (.int 12))))), (.v 4), (.v 5)])]
def e_l_planner : FnE := ⟨["pen"], ["pen", "many", "wheel", "lap", "option", "over", "j", "i"], 60, i_l_planner⟩
def x_l_planner : DX := ⟨d_l_planner, e_l_planner, c_l_planner, 60⟩
theorem o_l_planner : DXOk tab x_l_planner := ⟨rfl, rfl, rfl, rfl, by kernel_rfl, scopeB_ok (by kernel_rfl), rfl, rfl, fun _ _ _ _ _ _ us hl => match us, hl with | [_], _ => rfl⟩
abbrev s_l_is_first : Stmt := top 28
def d_l_is_first : He.DefD := ⟨("_law_is_first", none), "_law_is_first", "_law_is_first", dArgs s_l_is_first, dBody s_l_is_first, dScope s_l_is_first, [], []⟩
def c_l_is_first : Ctx := ⟨["wheel", "place", "x"], dScope s_l_is_first, dScope s_l_is_first, true, tab, [], [], [], []⟩
def i_l_is_first : List IS := [.ife (.cmp .eq (.comp false (.v 2) (.n 2) .seq [(.v 0)] (some (.cmp .ne (.v 2) (.ix (.v 0) (.c (.int 0))))) [2]) (.lst false [])) [.ret (.cmp .eq (.v 1) (.c (.int 0)))] [], .ret (.cmp .ne (.ix (.v 0) (.bin .sub (.v 1) (.c (.int 1)))) (.ix (.v 0) (.v 1)))]
def e_l_is_first : FnE := ⟨["wheel", "place"], ["wheel", "place", "x"], 60, i_l_is_first⟩
def x_l_is_first : DX := ⟨d_l_is_first, e_l_is_first, c_l_is_first, 60⟩
theorem o_l_is_first : DXOk tab x_l_is_first := ⟨rfl, rfl, rfl, rfl, by kernel_rfl, scopeB_ok (by kernel_rfl), rfl, rfl, fun _ _ _ _ _ _ us hl => match us, hl with | [_, _], _ => rfl⟩
abbrev s_l_wheel_run : Stmt := top 29
def d_l_wheel_run : He.DefD := ⟨("_law_wheel_run", none), "_law_wheel_run", "_law_wheel_run", dArgs s_l_wheel_run, dBody s_l_wheel_run, dScope s_l_wheel_run, [], []⟩
def c_l_wheel_run : Ctx := ⟨["many", "wheel", "option", "over", "rows", "place", "goer", "found", "row", "own", "behind", "others", "k", "other", "fits", "j"], dScope s_l_wheel_run, dScope s_l_wheel_run, true, tab, ["found"], ["found"], [], []⟩
def i_l_wheel_run : List IS := [.set (.t [(.n 5), (.n 6)]) (.tup [(.c (.int 0)), (.ix (.v 1) (.c (.int 0)))]), .set (.n 7) (.lst true [(.v 6)]), .loop (.n 8) .seq [(.v 4)] [.set (.t [(.n 9), (.n 10)]) (.tup [(.ix (.v 1) (.v 5)), (.bin .mod (.bi .int (.bin .add (.v 5) (.c (.int 1)))) (.bi .len (.v 1)))]), .ife (.and (.cmp .eq (.v 2) (.c (.str "early"))) (.and (.cmp .lt (.v 9) (.v 0)) (.cmp .eq (.ix (.v 8) (.v 9)) (.c (.int 1))))) [.set (.n 11) (.comp false (.bin .mod (.bi .int (.bin .add (.v 5) (.v 12))) (.bi .len (.v 1))) (.n 12) .rng [(.c (.int 1)), (.bi .len (.v 1))] none [12]), .set (.n 11) (.comp false (.v 13) (.n 13) .seq [(.v 11)] (some (.cmp .ne (.ix (.v 1) (.v 13)) (.v 9))) [13]), .set (.n 10) (.ife (.cmp .ne (.v 11) (.lst false [])) (.ix (.v 11) (.c (.int 0))) (.v 10))] [], .set (.t [(.n 5), (.n 6)]) (.tup [(.v 10), (.ix (.v 1) (.v 10))]), .ife (.and (.cmp .eq (.v 2) (.c (.str "upward"))) (.and (.cmp .lt (.v 6) (.v 0)) (.and (.cmp .eq (.ix (.v 8) (.v 6)) (.c (.int 1))) (.not (.val (.call "_law_is_first" [(.v 1), (.v 5)])))))) [.set (.n 14) (.comp false (.v 15) (.n 15) .seq [(.ix (.v 3) (.v 6))] (some (.cmp .eq (.ix (.v 8) (.v 15)) (.c (.int 0)))) [15]), .set (.n 6) (.ife (.cmp .ne (.v 14) (.lst false [])) (.ix (.v 14) (.c (.int 0))) (.v 0))] [], .ex (.bm .append (.v 7) [(.v 6)])], .frz 7, .ret (.v 7)]
def e_l_wheel_run : FnE := ⟨["many", "wheel", "option", "over", "rows"], ["many", "wheel", "option", "over", "rows", "place", "goer", "found", "row", "own", "behind", "others", "k", "other", "fits", "j"], 60, i_l_wheel_run⟩
def x_l_wheel_run : DX := ⟨d_l_wheel_run, e_l_wheel_run, c_l_wheel_run, 60⟩
theorem o_l_wheel_run : DXOk tab x_l_wheel_run := ⟨rfl, rfl, rfl, rfl, by kernel_rfl, scopeB_ok (by kernel_rfl), rfl, rfl, fun _ _ _ _ _ _ us hl => match us, hl with | [_, _, _, _, _], _ => rfl⟩
abbrev s_l_upward : Stmt := top 30
def d_l_upward : He.DefD := ⟨("_law_upward", none), "_law_upward", "_law_upward", dArgs s_l_upward, dBody s_l_upward, dScope s_l_upward, [], []⟩
def c_l_upward : Ctx := ⟨["many", "over", "i", "a", "b"], dScope s_l_upward, dScope s_l_upward, true, tab, [], [], [], []⟩
def i_l_upward : List IS := [.loop (.n 2) .rng [(.v 0)] [.loop (.n 3) .seq [(.ix (.v 1) (.v 2))] [.ife (.or (.cmp .eq (.v 3) (.v 2)) (.cmp .ne (.comp false (.v 4) (.n 4) .seq [(.ix (.v 1) (.v 2))] (some (.and (.cmp .gt (.v 4) (.v 3)) (.cmp .notin (.v 4) (.ix (.v 1) (.v 3))))) [4]) (.lst false []))) [.ret (.c (.bl false))] []]], .ret (.c (.bl true))]
def e_l_upward : FnE := ⟨["many", "over"], ["many", "over", "i", "a", "b"], 60, i_l_upward⟩
def x_l_upward : DX := ⟨d_l_upward, e_l_upward, c_l_upward, 60⟩
theorem o_l_upward : DXOk tab x_l_upward := ⟨rfl, rfl, rfl, rfl, by kernel_rfl, scopeB_ok (by kernel_rfl), rfl, rfl, fun _ _ _ _ _ _ us hl => match us, hl with | [_, _], _ => rfl⟩
abbrev s_law : Stmt := top 31
def d_law : He.DefD := ⟨("law", none), "law", "law", dArgs s_law, dBody s_law, dScope s_law, [], []⟩
def c_law : Ctx := ⟨["script", "pen", "lap", "many", "wheel", "option", "over", "planner", "sizes", "ports", "rows", "tick", "told", "row", "due", "shown", "i", "goer", "state", "known", "j", "other", "second", "busy", "idle", "early", "upward"], dScope s_law, dScope s_law, true, tab, ["other"], ["other"], [], []⟩
def i_law : List IS := [.set (.n 1) (.call "_law_pen" [(.v 0)]), .loop (.n 2) .rng [(.c (.int 4))] [.set (.t [(.n 3), (.n 4), (.n 5), (.n 6)]) (.call "_law_planner" [(.v 1)]), .set (.n 7) (.make "Planner" [(.v 3), (.v 4), (.v 5), (.v 6)]), .set (.n 8) (.ife (.cmp .eq (.v 5) (.c (.str "slots"))) (.tup []) (.bin .mul (.tup [(.c (.int 2))]) (.v 3))), .set (.n 9) (.lst false [(.fld (.v 7) "starts"), (.fld (.v 7) "ins"), (.fld (.v 7) "outs"), (.fld (.v 7) "many"), (.fld (.v 7) "wheel"), (.fld (.v 7) "option"), (.fld (.v 7) "over")]), .ife (.cmp .ne (.bi .repr (.v 9)) (.bi .repr (.lst false [(.tup []), (.v 8), (.bin .mul (.tup [(.c (.int 2))]) (.v 3)), (.v 3), (.v 4), (.v 5), (.v 6)]))) [.ret (.c (.bl false))] [], .set (.n 10) (.comp false (.call "_law_row" [(.v 1), (.bin .mul (.tup [(.c (.int 2))]) (.v 3))]) (.n 11) .rng [(.c (.int 20))] none [11]), .set (.n 12) (.comp false (.ife (.cmp .ne (.v 5) (.c (.str "slots"))) (.v 13) (.tup [])) (.n 13) .seq [(.v 10)] none [13]), .set (.n 14) (.call "_law_wheel_run" [(.v 3), (.v 4), (.v 5), (.v 6), (.v 10)]), .set (.n 15) (.call "run_box" [(.v 7), (.tup []), (.v 12)]), .ife (.cmp .ne (.v 15) (.bi .tuple (.comp false (.bi .tuple (.comp false (.bi .int (.cmp .eq (.v 16) (.v 17))) (.n 16) .rng [(.v 3)] none [16])) (.n 17) .seq [(.v 14)] none [17]))) [.ret (.c (.bl false))] [], .set (.n 18) (.meth (.v 7) "begin" [(.tup [])]), .loop (.n 13) .seq [(.v 12)] [.ife (.not (.val (.call "_law_is_state" [(.v 7), (.v 18)]))) [.ret (.c (.bl false))] [], .set (.n 18) (.meth (.v 7) "step" [(.v 18), (.v 13)])], .ife (.and (.cmp .eq (.v 5) (.c (.str "upward"))) (.val (.call "_law_upward" [(.v 3), (.v 6)]))) [.set (.n 16) (.call "_law_draw" [(.v 1), (.v 3)]), .set (.n 19) (.comp false (.v 20) (.n 20) .rng [(.v 3)] (some (.or (.cmp .eq (.v 20) (.v 16)) (.cmp .isin (.v 16) (.ix (.v 6) (.v 20))))) [20]), .set (.n 21) (.lst true []), .loop (.n 13) .seq [(.v 10)] [.ex (.bm .append (.v 21) [(.bi .tuple (.comp false (.ife (.cmp .isin (.v 20) (.v 19)) (.ix (.v 13) (.v 20)) (.call "_law_draw" [(.v 1), (.c (.int 2))])) (.n 20) .rng [(.v 3)] none [20]))])], .frz 21, .set (.n 22) (.call "run_box" [(.v 7), (.tup []), (.v 21)]), .ife (.cmp .ne (.comp false (.ix (.v 13) (.v 16)) (.n 13) .seq [(.v 15)] none [13]) (.comp false (.ix (.v 13) (.v 16)) (.n 13) .seq [(.v 22)] none [13])) [.ret (.c (.bl false))] []] []], .par 23 24 (.bin .mul (.lst false [(.tup [(.c (.int 0)), (.c (.int 0))])]) (.c (.int 3))) (.bin .mul (.lst false [(.tup [(.c (.int 1)), (.c (.int 0))])]) (.c (.int 3))), .set (.n 25) (.make "Planner" [(.c (.int 2)), (.tup [(.c (.int 0)), (.c (.int 0)), (.c (.int 1))]), (.c (.str "early")), (.tup [])]), .set (.n 12) (.lst false [(.call "run_box" [(.v 25), (.tup []), (.v 23)]), (.call "run_box" [(.v 25), (.tup []), (.v 24)])]), .ife (.cmp .ne (.v 12) (.lst false [(.tup [(.tup [(.c (.int 1)), (.c (.int 0))]), (.tup [(.c (.int 1)), (.c (.int 0))]), (.tup [(.c (.int 0)), (.c (.int 1))]), (.tup [(.c (.int 1)), (.c (.int 0))])]), (.tup [(.tup [(.c (.int 1)), (.c (.int 0))]), (.tup [(.c (.int 0)), (.c (.int 1))]), (.tup [(.c (.int 1)), (.c (.int 0))]), (.tup [(.c (.int 0)), (.c (.int 1))])])])) [.ret (.c (.bl false))] [], .set (.n 26) (.make "Planner" [(.c (.int 2)), (.tup [(.c (.int 0)), (.c (.int 0)), (.c (.int 1))]), (.c (.str "upward")), (.tup [(.tup [(.c (.int 1))]), (.tup [])])]), .ret (.cmp .eq (.call "run_box" [(.v 26), (.tup []), (.v 24)]) (.tup [(.tup [(.c (.int 1)), (.c (.int 0))]), (.tup [(.c (.int 0)), (.c (.int 1))]), (.tup [(.c (.int 0)), (.c (.int 1))]), (.tup [(.c (.int 1)), (.c (.int 0))])]))]
def e_law : FnE := ⟨["script"], ["script", "pen", "lap", "many", "wheel", "option", "over", "planner", "sizes", "ports", "rows", "tick", "told", "row", "due", "shown", "i", "goer", "state", "known", "j", "other", "second", "busy", "idle", "early", "upward"], 60, i_law⟩
def x_law : DX := ⟨d_law, e_law, c_law, 60⟩
theorem o_law : DXOk tab x_law := ⟨rfl, rfl, rfl, rfl, by kernel_rfl, scopeB_ok (by kernel_rfl), rfl, rfl, fun _ _ _ _ _ _ us hl => match us, hl with | [_], _ => rfl⟩
abbrev s_Box_init : Stmt := sub 7 0
def d_Box_init : He.DefD := ⟨("Box", some "__init__"), "__init__", "Box.__init__", dArgs s_Box_init, dBody s_Box_init, dScope s_Box_init, [], []⟩
def c_Box_init : Ctx := ⟨["self", "starts", "ins", "outs", "cells"], dScope s_Box_init, dScope s_Box_init, true, tab, [], [], [], []⟩
def i_Box_init : List IS := [.setf (.v 0) "starts" (.v 1), .setf (.v 0) "ins" (.v 2), .setf (.v 0) "outs" (.v 3), .setf (.v 0) "cells" (.v 4)]
def e_Box_init : FnE := ⟨["self", "starts", "ins", "outs", "cells"], ["self", "starts", "ins", "outs", "cells"], 60, i_Box_init⟩
def x_Box_init : DX := ⟨d_Box_init, e_Box_init, c_Box_init, 60⟩
theorem o_Box_init : DXOk tab x_Box_init := ⟨rfl, rfl, rfl, rfl, by kernel_rfl, scopeB_ok (by kernel_rfl), rfl, rfl, fun _ _ _ _ _ _ us hl => match us, hl with | [_, _, _, _, _], _ => rfl⟩
abbrev s_Planner_init : Stmt := sub 20 0
def d_Planner_init : He.DefD := ⟨("Planner", some "__init__"), "__init__", "Planner.__init__", dArgs s_Planner_init, dBody s_Planner_init, dScope s_Planner_init, [], []⟩
def c_Planner_init : Ctx := ⟨["self", "many", "wheel", "option", "over", "ins", "cells"], dScope s_Planner_init, dScope s_Planner_init, true, tab, [], [], [], []⟩
def i_Planner_init : List IS := [.ife (.not (.val (.call "are_planner_parts" [(.v 1), (.v 2), (.v 3), (.v 4)]))) [.bad] [], .setf (.v 0) "many" (.v 1), .setf (.v 0) "wheel" (.v 2), .setf (.v 0) "option" (.v 3), .setf (.v 0) "over" (.v 4), .set (.n 5) (.ife (.cmp .eq (.v 3) (.c (.str "slots"))) (.tup []) (.bin .mul (.tup [(.c (.int 2))]) (.v 1))), .set (.n 6) (.ife (.cmp .eq (.v 3) (.c (.str "upward"))) (.tup [(.bi .len (.v 2)), (.bin .add (.v 1) (.c (.int 1)))]) (.tup [(.bi .len (.v 2))])), .ex (.cmeth "Box" "__init__" [(.v 0), (.tup []), (.v 5), (.bin .mul (.tup [(.c (.int 2))]) (.v 1)), (.v 6)])]
def e_Planner_init : FnE := ⟨["self", "many", "wheel", "option", "over"], ["self", "many", "wheel", "option", "over", "ins", "cells"], 60, i_Planner_init⟩
def x_Planner_init : DX := ⟨d_Planner_init, e_Planner_init, c_Planner_init, 60⟩
theorem o_Planner_init : DXOk tab x_Planner_init := ⟨rfl, rfl, rfl, rfl, by kernel_rfl, scopeB_ok (by kernel_rfl), rfl, rfl, fun _ _ _ _ _ _ us hl => match us, hl with | [_, _, _, _, _], _ => rfl⟩
abbrev s_Planner_begin : Stmt := sub 20 1
def d_Planner_begin : He.DefD := ⟨("Planner", some "begin"), "begin", "Planner.begin", dArgs s_Planner_begin, dBody s_Planner_begin, dScope s_Planner_begin, [], []⟩
def c_Planner_begin : Ctx := ⟨["self", "row"], dScope s_Planner_begin, dScope s_Planner_begin, true, tab, [], [], [], []⟩
def i_Planner_begin : List IS := [.ret (.ife (.cmp .eq (.fld (.v 0) "option") (.c (.str "upward"))) (.tup [(.c (.int 0)), (.ix (.fld (.v 0) "wheel") (.c (.int 0)))]) (.tup [(.c (.int 0))]))]
def e_Planner_begin : FnE := ⟨["self", "row"], ["self", "row"], 60, i_Planner_begin⟩
def x_Planner_begin : DX := ⟨d_Planner_begin, e_Planner_begin, c_Planner_begin, 60⟩
theorem o_Planner_begin : DXOk tab x_Planner_begin := ⟨rfl, rfl, rfl, rfl, by kernel_rfl, scopeB_ok (by kernel_rfl), rfl, rfl, fun _ _ _ _ _ _ us hl => match us, hl with | [_, _], _ => rfl⟩
abbrev s_Planner_goer : Stmt := sub 20 2
def d_Planner_goer : He.DefD := ⟨("Planner", some "goer"), "goer", "Planner.goer", dArgs s_Planner_goer, dBody s_Planner_goer, dScope s_Planner_goer, [], []⟩
def c_Planner_goer : Ctx := ⟨["self", "state"], dScope s_Planner_goer, dScope s_Planner_goer, true, tab, [], [], [], []⟩
def i_Planner_goer : List IS := [.ret (.ife (.cmp .eq (.fld (.v 0) "option") (.c (.str "upward"))) (.ix (.v 1) (.c (.int 1))) (.ix (.fld (.v 0) "wheel") (.ix (.v 1) (.c (.int 0)))))]
def e_Planner_goer : FnE := ⟨["self", "state"], ["self", "state"], 60, i_Planner_goer⟩
def x_Planner_goer : DX := ⟨d_Planner_goer, e_Planner_goer, c_Planner_goer, 60⟩
theorem o_Planner_goer : DXOk tab x_Planner_goer := ⟨rfl, rfl, rfl, rfl, by kernel_rfl, scopeB_ok (by kernel_rfl), rfl, rfl, fun _ _ _ _ _ _ us hl => match us, hl with | [_, _], _ => rfl⟩
abbrev s_Planner_shown : Stmt := sub 20 3
def d_Planner_shown : He.DefD := ⟨("Planner", some "shown"), "shown", "Planner.shown", dArgs s_Planner_shown, dBody s_Planner_shown, dScope s_Planner_shown, [], []⟩
def c_Planner_shown : Ctx := ⟨["self", "state", "goer", "i"], dScope s_Planner_shown, dScope s_Planner_shown, true, tab, [], [], [], []⟩
def i_Planner_shown : List IS := [.set (.n 2) (.meth (.v 0) "goer" [(.v 1)]), .ret (.bi .tuple (.comp false (.bi .int (.cmp .eq (.v 3) (.v 2))) (.n 3) .rng [(.fld (.v 0) "many")] none [3]))]
def e_Planner_shown : FnE := ⟨["self", "state"], ["self", "state", "goer", "i"], 60, i_Planner_shown⟩
def x_Planner_shown : DX := ⟨d_Planner_shown, e_Planner_shown, c_Planner_shown, 60⟩
theorem o_Planner_shown : DXOk tab x_Planner_shown := ⟨rfl, rfl, rfl, rfl, by kernel_rfl, scopeB_ok (by kernel_rfl), rfl, rfl, fun _ _ _ _ _ _ us hl => match us, hl with | [_, _], _ => rfl⟩
abbrev s_Planner_given : Stmt := sub 20 4
def d_Planner_given : He.DefD := ⟨("Planner", some "given"), "given", "Planner.given", dArgs s_Planner_given, dBody s_Planner_given, dScope s_Planner_given, [], []⟩
def c_Planner_given : Ctx := ⟨["self", "place", "row", "own", "fits", "j"], dScope s_Planner_given, dScope s_Planner_given, true, tab, [], [], [], []⟩
def i_Planner_given : List IS := [.set (.n 3) (.ix (.fld (.v 0) "wheel") (.v 1)), .ife (.or (.cmp .eq (.v 3) (.fld (.v 0) "many")) (.or (.val (.call "is_first_place" [(.fld (.v 0) "wheel"), (.v 1)])) (.cmp .eq (.ix (.v 2) (.v 3)) (.c (.int 0))))) [.ret (.v 3)] [], .set (.n 4) (.comp false (.v 5) (.n 5) .seq [(.ix (.fld (.v 0) "over") (.v 3))] (some (.cmp .eq (.ix (.v 2) (.v 5)) (.c (.int 0)))) [5]), .ret (.ife (.val (.v 4)) (.ix (.v 4) (.c (.int 0))) (.fld (.v 0) "many"))]
def e_Planner_given : FnE := ⟨["self", "place", "row"], ["self", "place", "row", "own", "fits", "j"], 60, i_Planner_given⟩
def x_Planner_given : DX := ⟨d_Planner_given, e_Planner_given, c_Planner_given, 60⟩
theorem o_Planner_given : DXOk tab x_Planner_given := ⟨rfl, rfl, rfl, rfl, by kernel_rfl, scopeB_ok (by kernel_rfl), rfl, rfl, fun _ _ _ _ _ _ us hl => match us, hl with | [_, _, _], _ => rfl⟩
abbrev s_Planner_step : Stmt := sub 20 5
def d_Planner_step : He.DefD := ⟨("Planner", some "step"), "step", "Planner.step", dArgs s_Planner_step, dBody s_Planner_step, dScope s_Planner_step, [], []⟩
def c_Planner_step : Ctx := ⟨["self", "state", "row", "place", "wheel", "own", "behind"], dScope s_Planner_step, dScope s_Planner_step, true, tab, [], [], [], []⟩
def i_Planner_step : List IS := [.par 3 4 (.ix (.v 1) (.c (.int 0))) (.fld (.v 0) "wheel"), .par 5 6 (.ix (.v 4) (.v 3)) (.bin .mod (.bin .add (.v 3) (.c (.int 1))) (.bi .len (.v 4))), .ife (.and (.cmp .eq (.fld (.v 0) "option") (.c (.str "early"))) (.and (.cmp .lt (.v 5) (.fld (.v 0) "many")) (.cmp .eq (.ix (.v 2) (.v 5)) (.c (.int 1))))) [.set (.n 6) (.call "next_stretch" [(.v 4), (.v 3)])] [], .ret (.ife (.cmp .eq (.fld (.v 0) "option") (.c (.str "upward"))) (.tup [(.v 6), (.meth (.v 0) "given" [(.v 6), (.v 2)])]) (.tup [(.v 6)]))]
def e_Planner_step : FnE := ⟨["self", "state", "row"], ["self", "state", "row", "place", "wheel", "own", "behind"], 60, i_Planner_step⟩
def x_Planner_step : DX := ⟨d_Planner_step, e_Planner_step, c_Planner_step, 60⟩
theorem o_Planner_step : DXOk tab x_Planner_step := ⟨rfl, rfl, rfl, rfl, by kernel_rfl, scopeB_ok (by kernel_rfl), rfl, rfl, fun _ _ _ _ _ _ us hl => match us, hl with | [_, _, _], _ => rfl⟩
def txt : Txt := ⟨[("is_whole", x_is_whole), ("is_count", x_is_count), ("is_box", x_is_box), ("need_box", x_need_box), ("is_row_in", x_is_row_in), ("need_row", x_need_row), ("need_run", x_need_run), ("run_box", x_run_box), ("is_between", x_is_between), ("is_lot_below", x_is_lot_below), ("are_planner_parts", x_are_planner_parts), ("is_first_place", x_is_first_place), ("next_stretch", x_next_stretch), ("_law_pen", x_l_pen), ("_law_draw", x_l_draw), ("_law_pick", x_l_pick), ("_law_row", x_l_row), ("_law_is_state", x_l_is_state), ("_law_planner", x_l_planner), ("_law_is_first", x_l_is_first), ("_law_wheel_run", x_l_wheel_run), ("_law_upward", x_l_upward), ("law", x_law)],
  [(("Box", "__init__"), x_Box_init), (("Planner", "__init__"), x_Planner_init), (("Planner", "begin"), x_Planner_begin), (("Planner", "goer"), x_Planner_goer), (("Planner", "shown"), x_Planner_shown), (("Planner", "given"), x_Planner_given), (("Planner", "step"), x_Planner_step)], ["Planner"], ["Planner"], [(("Planner", "Box"), true)], tab⟩
theorem txtOk : TxtOk txt := by
  refine ⟨?_, ?_, by decide +kernel, rfl, by decide +kernel, by decide +kernel, by decide +kernel, by decide +kernel⟩
  · intro q hq
    simp only [txt, List.mem_cons, List.not_mem_nil, or_false] at hq
    rcases hq with rfl | rfl | rfl | rfl | rfl | rfl | rfl | rfl | rfl | rfl | rfl | rfl | rfl | rfl | rfl | rfl | rfl | rfl | rfl | rfl | rfl | rfl | rfl
    · exact ⟨o_is_whole, rfl⟩
    · exact ⟨o_is_count, rfl⟩
    · exact ⟨o_is_box, rfl⟩
    · exact ⟨o_need_box, rfl⟩
    · exact ⟨o_is_row_in, rfl⟩
    · exact ⟨o_need_row, rfl⟩
    · exact ⟨o_need_run, rfl⟩
    · exact ⟨o_run_box, rfl⟩
    · exact ⟨o_is_between, rfl⟩
    · exact ⟨o_is_lot_below, rfl⟩
    · exact ⟨o_are_planner_parts, rfl⟩
    · exact ⟨o_is_first_place, rfl⟩
    · exact ⟨o_next_stretch, rfl⟩
    · exact ⟨o_l_pen, rfl⟩
    · exact ⟨o_l_draw, rfl⟩
    · exact ⟨o_l_pick, rfl⟩
    · exact ⟨o_l_row, rfl⟩
    · exact ⟨o_l_is_state, rfl⟩
    · exact ⟨o_l_planner, rfl⟩
    · exact ⟨o_l_is_first, rfl⟩
    · exact ⟨o_l_wheel_run, rfl⟩
    · exact ⟨o_l_upward, rfl⟩
    · exact ⟨o_law, rfl⟩
  · intro q hq
    simp only [txt, List.mem_cons, List.not_mem_nil, or_false] at hq
    rcases hq with rfl | rfl | rfl | rfl | rfl | rfl | rfl
    · exact ⟨o_Box_init, rfl, by decide +kernel⟩
    · exact ⟨o_Planner_init, rfl, by decide +kernel⟩
    · exact ⟨o_Planner_begin, rfl, by decide +kernel⟩
    · exact ⟨o_Planner_goer, rfl, by decide +kernel⟩
    · exact ⟨o_Planner_shown, rfl, by decide +kernel⟩
    · exact ⟨o_Planner_given, rfl, by decide +kernel⟩
    · exact ⟨o_Planner_step, rfl, by decide +kernel⟩
theorem q_is_whole {k : Nat} {h : Hs} {a0 : D} : (wr txt.pg (k + 1)).call "is_whole" [a0] h = fin (exs (ex (wr txt.pg k) 60) i_is_whole [some a0] h) := by kernel_rfl
theorem q_is_count {k : Nat} {h : Hs} {a0 : D} : (wr txt.pg (k + 1)).call "is_count" [a0] h = fin (exs (ex (wr txt.pg k) 60) i_is_count [some a0] h) := by kernel_rfl
theorem q_is_box {k : Nat} {h : Hs} {a0 : D} : (wr txt.pg (k + 1)).call "is_box" [a0] h = fin (exs (ex (wr txt.pg k) 60) i_is_box [some a0] h) := by kernel_rfl
theorem q_need_box {k : Nat} {h : Hs} {a0 : D} : (wr txt.pg (k + 1)).call "need_box" [a0] h = fin (exs (ex (wr txt.pg k) 60) i_need_box [some a0] h) := by kernel_rfl
theorem q_is_row_in {k : Nat} {h : Hs} {a0 a1 : D} : (wr txt.pg (k + 1)).call "is_row_in" [a0, a1] h = fin (exs (ex (wr txt.pg k) 60) i_is_row_in [some a0, some a1, none, none] h) := by kernel_rfl
theorem q_need_row {k : Nat} {h : Hs} {a0 a1 : D} : (wr txt.pg (k + 1)).call "need_row" [a0, a1] h = fin (exs (ex (wr txt.pg k) 60) i_need_row [some a0, some a1] h) := by kernel_rfl
theorem q_need_run {k : Nat} {h : Hs} {a0 a1 a2 : D} : (wr txt.pg (k + 1)).call "need_run" [a0, a1, a2] h = fin (exs (ex (wr txt.pg k) 60) i_need_run [some a0, some a1, some a2, none] h) := by kernel_rfl
theorem q_run_box {k : Nat} {h : Hs} {a0 a1 a2 : D} : (wr txt.pg (k + 1)).call "run_box" [a0, a1, a2] h = fin (exs (ex (wr txt.pg k) 60) i_run_box [some a0, some a1, some a2, none, none, none] h) := by kernel_rfl
theorem q_is_between {k : Nat} {h : Hs} {a0 a1 a2 : D} : (wr txt.pg (k + 1)).call "is_between" [a0, a1, a2] h = fin (exs (ex (wr txt.pg k) 60) i_is_between [some a0, some a1, some a2] h) := by kernel_rfl
theorem q_is_lot_below {k : Nat} {h : Hs} {a0 a1 : D} : (wr txt.pg (k + 1)).call "is_lot_below" [a0, a1] h = fin (exs (ex (wr txt.pg k) 60) i_is_lot_below [some a0, some a1, none, none, none] h) := by kernel_rfl
theorem q_are_planner_parts {k : Nat} {h : Hs} {a0 a1 a2 a3 : D} : (wr txt.pg (k + 1)).call "are_planner_parts" [a0, a1, a2, a3] h = fin (exs (ex (wr txt.pg k) 60) i_are_planner_parts [some a0, some a1, some a2, some a3, none, none] h) := by kernel_rfl
theorem q_is_first_place {k : Nat} {h : Hs} {a0 a1 : D} : (wr txt.pg (k + 1)).call "is_first_place" [a0, a1] h = fin (exs (ex (wr txt.pg k) 60) i_is_first_place [some a0, some a1, none] h) := by kernel_rfl
theorem q_next_stretch {k : Nat} {h : Hs} {a0 a1 : D} : (wr txt.pg (k + 1)).call "next_stretch" [a0, a1] h = fin (exs (ex (wr txt.pg k) 60) i_next_stretch [some a0, some a1, none, none] h) := by kernel_rfl
theorem q_l_pen {k : Nat} {h : Hs} {a0 : D} : (wr txt.pg (k + 1)).call "_law_pen" [a0] h = fin (exs (ex (wr txt.pg k) 60) i_l_pen [some a0, none, none] h) := by kernel_rfl
theorem q_l_draw {k : Nat} {h : Hs} {a0 a1 : D} : (wr txt.pg (k + 1)).call "_law_draw" [a0, a1] h = fin (exs (ex (wr txt.pg k) 60) i_l_draw [some a0, some a1, none, none, none] h) := by kernel_rfl
theorem q_l_pick {k : Nat} {h : Hs} {a0 a1 : D} : (wr txt.pg (k + 1)).call "_law_pick" [a0, a1] h = fin (exs (ex (wr txt.pg k) 60) i_l_pick [some a0, some a1] h) := by kernel_rfl
theorem q_l_row {k : Nat} {h : Hs} {a0 a1 : D} : (wr txt.pg (k + 1)).call "_law_row" [a0, a1] h = fin (exs (ex (wr txt.pg k) 60) i_l_row [some a0, some a1, none] h) := by kernel_rfl
theorem q_l_is_state {k : Nat} {h : Hs} {a0 a1 : D} : (wr txt.pg (k + 1)).call "_law_is_state" [a0, a1] h = fin (exs (ex (wr txt.pg k) 60) i_l_is_state [some a0, some a1, none, none] h) := by kernel_rfl
theorem q_l_planner {k : Nat} {h : Hs} {a0 : D} : (wr txt.pg (k + 1)).call "_law_planner" [a0] h = fin (exs (ex (wr txt.pg k) 60) i_l_planner [some a0, none, none, none, none, none, none, none] h) := by kernel_rfl
theorem q_l_is_first {k : Nat} {h : Hs} {a0 a1 : D} : (wr txt.pg (k + 1)).call "_law_is_first" [a0, a1] h = fin (exs (ex (wr txt.pg k) 60) i_l_is_first [some a0, some a1, none] h) := by kernel_rfl
theorem q_l_wheel_run {k : Nat} {h : Hs} {a0 a1 a2 a3 a4 : D} : (wr txt.pg (k + 1)).call "_law_wheel_run" [a0, a1, a2, a3, a4] h = fin (exs (ex (wr txt.pg k) 60) i_l_wheel_run [some a0, some a1, some a2, some a3, some a4, none, none, none, none, none, none, none, none, none, none, none] h) := by kernel_rfl
theorem q_l_upward {k : Nat} {h : Hs} {a0 a1 : D} : (wr txt.pg (k + 1)).call "_law_upward" [a0, a1] h = fin (exs (ex (wr txt.pg k) 60) i_l_upward [some a0, some a1, none, none, none] h) := by kernel_rfl
theorem q_law {k : Nat} {h : Hs} {a0 : D} : (wr txt.pg (k + 1)).call "law" [a0] h = fin (exs (ex (wr txt.pg k) 60) i_law [some a0, none, none, none, none, none, none, none, none, none, none, none, none, none, none, none, none, none, none, none, none, none, none, none, none, none, none] h) := by kernel_rfl
theorem q_Box_init {k : Nat} {h : Hs} {a0 a1 a2 a3 a4 : D} : (wr txt.pg (k + 1)).meth "Box" "__init__" [a0, a1, a2, a3, a4] h = fin (exs (ex (wr txt.pg k) 60) i_Box_init [some a0, some a1, some a2, some a3, some a4] h) := by kernel_rfl
theorem q_Planner_init {k : Nat} {h : Hs} {a0 a1 a2 a3 a4 : D} : (wr txt.pg (k + 1)).meth "Planner" "__init__" [a0, a1, a2, a3, a4] h = fin (exs (ex (wr txt.pg k) 60) i_Planner_init [some a0, some a1, some a2, some a3, some a4, none, none] h) := by kernel_rfl
theorem q_Planner_begin {k : Nat} {h : Hs} {a0 a1 : D} : (wr txt.pg (k + 1)).meth "Planner" "begin" [a0, a1] h = fin (exs (ex (wr txt.pg k) 60) i_Planner_begin [some a0, some a1] h) := by kernel_rfl
theorem q_Planner_goer {k : Nat} {h : Hs} {a0 a1 : D} : (wr txt.pg (k + 1)).meth "Planner" "goer" [a0, a1] h = fin (exs (ex (wr txt.pg k) 60) i_Planner_goer [some a0, some a1] h) := by kernel_rfl
theorem q_Planner_shown {k : Nat} {h : Hs} {a0 a1 : D} : (wr txt.pg (k + 1)).meth "Planner" "shown" [a0, a1] h = fin (exs (ex (wr txt.pg k) 60) i_Planner_shown [some a0, some a1, none, none] h) := by kernel_rfl
theorem q_Planner_given {k : Nat} {h : Hs} {a0 a1 a2 : D} : (wr txt.pg (k + 1)).meth "Planner" "given" [a0, a1, a2] h = fin (exs (ex (wr txt.pg k) 60) i_Planner_given [some a0, some a1, some a2, none, none, none] h) := by kernel_rfl
theorem q_Planner_step {k : Nat} {h : Hs} {a0 a1 a2 : D} : (wr txt.pg (k + 1)).meth "Planner" "step" [a0, a1, a2] h = fin (exs (ex (wr txt.pg k) 60) i_Planner_step [some a0, some a1, some a2, none, none, none, none] h) := by kernel_rfl
end SI.K15
end
section
set_option Elab.async false
set_option linter.all false
set_option maxRecDepth 100000
set_option maxHeartbeats 4000000
namespace SI.K15
open PySem L2
abbrev W (k : Nat) : Wr := wr txt.pg k
theorem run_rt {G : Wr} {e : FnE} {ds : List D} {h h' : Hs} {d : D} (hl : ds.length = e.ps.length) (x : exs (ex G e.fuel) e.body (ds.map some ++ List.replicate (e.N.length - ds.length) none) h = .rt d h') : runF G e ds h = .ok d h' := by
  unfold runF
  rw [if_pos hl, x]
theorem run_nx {G : Wr} {e : FnE} {ds : List D} {h h' : Hs} {env : Nv} (hl : ds.length = e.ps.length) (x : exs (ex G e.fuel) e.body (ds.map some ++ List.replicate (e.N.length - ds.length) none) h = .nx env h') : runF G e ds h = .ok .non h' := by
  unfold runF
  rw [if_pos hl, x]
section
variable {k : Nat} {h : Hs} {p : Nat}
theorem is_whole_ok {i : Int} : (W (k + 1)).call "is_whole" [.int i] h = .ok (.bl true) h := rfl
theorem is_count_ok {i : Int} : (W (k + 2)).call "is_count" [.int i] h = .ok (.bl (decide (0 ≤ i))) h := by
  show runF (W (k + 1)) e_is_count [.int i] h = _
  simp [runF, e_is_count, i_is_count, is_whole_ok]
theorem is_between_ok {i a b : Int} (h0 : 0 ≤ i) (h1 : a ≤ i) (h2 : i ≤ b) : (W (k + 3)).call "is_between" [.int i, .int a, .int b] h = .ok (.bl true) h := by
  show runF (W (k + 2)) e_is_between [.int i, .int a, .int b] h = _
  simp [runF, e_is_between, i_is_between, is_count_ok, h0, h1, h2]
theorem draws : Draws (W (k + 1)) := fun r m h p hp hm hm2 => by
  obtain ⟨d, h', e, z⟩ := draw_run (G := W k) (k := 50) (c1 := 73607) (c2 := 9601) (c3 := 151) (x2 := none) (x3 := none) (x4 := none) hp ⟨by decide, by decide⟩ ⟨by decide, by decide⟩ ⟨by decide, by decide⟩ hm hm2
  exact ⟨d, h', (run_rt (G := W k) (e := e_l_draw) (ds := [.ptr p, .int m]) rfl e : runF (W k) e_l_draw [.ptr p, .int m] h = .ok (.int d) h'), z⟩
/-- one of some -/
theorem pick {r : Nat} {xs : List D} (hp : PenAt (r + 1) h p) (hx : xs ≠ []) (hl : xs.length < 1000) : ∃ x h', (W (k + 2)).call "_law_pick" [.ptr p, .lst xs] h = .ok x h' ∧ x ∈ xs ∧ PenAt r h' p ∧ Same p h h' := by
  have hn : 0 < xs.length := List.length_pos_iff.mpr hx
  obtain ⟨d, h', e, d0, d1, hp', sm⟩ := draws (k := k) r xs.length h p hp (by omega) (by omega)
  have hd : d.toNat < xs.length := by omega
  refine ⟨xs[d.toNat], h', ?_, List.getElem_mem hd, hp', sm⟩
  have hix : ixD h' (.lst xs) (.int d) = some xs[d.toNat] := by
    show atI xs d = _
    unfold atI ixN
    rw [if_pos d0, if_pos d1]
    show xs[d.toNat]? = _
    rw [List.getElem?_eq_getElem hd]
  show runF (W (k + 1)) e_l_pick [.ptr p, .lst xs] h = _
  simp [runF, e_l_pick, i_l_pick, e, hix]
/-- a row of digits below 2 -/
def Row (n : Nat) (bs : List Int) : Prop := bs.length = n ∧ ∀ b ∈ bs, b = 0 ∨ b = 1
theorem row_of {n : Nat} {ys : List D} (h : Paired (fun (_ y : D) => ∃ b : Int, y = .int b ∧ (b = 0 ∨ b = 1)) (List.replicate n (D.int 2)) ys) : ∃ bs, ys = bs.map D.int ∧ Row n bs := by
  induction n generalizing ys with
  | zero => cases h; exact ⟨[], rfl, rfl, by simp⟩
  | succ n ih =>
    rw [List.replicate_succ] at h
    cases h with
    | cons r t =>
      obtain ⟨b, rfl, hb⟩ := r
      obtain ⟨bs, rfl, hl, hs⟩ := ih t
      exact ⟨b :: bs, rfl, by simp [hl], by simpa using ⟨hb, hs⟩⟩
theorem row_ok {r n : Nat} (hp : PenAt (r + n) h p) (hn : n < 1000) : ∃ bs h', (W (k + 2)).call "_law_row" [.ptr p, .tup (List.replicate n (.int 2))] h = .ok (.tup (bs.map D.int)) h' ∧ Row n bs ∧ PenAt r h' p ∧ Same p h h' := by
  obtain ⟨ys, h', e, ⟨hp', sm⟩, hr⟩ := comp_inv (f := turnF (.n 2) (fun _ h => .ok true h) (ev (W (k + 1)) 57 (.call "_law_draw" [(.v 0), (.v 2)])) [some (.ptr p), some (.tup (List.replicate n (.int 2))), none]) (R := fun _ y => ∃ b : Int, y = .int b ∧ (b = 0 ∨ b = 1)) (I := fun j g => PenAt (r + j) g p ∧ Same p h g)
    (xs := List.replicate n (D.int 2)) (h := h) ⟨by simpa using hp, Same.refl p h⟩ (fun x hx j g ⟨hp, sm⟩ => by
      obtain rfl := (List.mem_replicate.mp hx).2
      obtain ⟨d, h', e, d0, d1, hp', sm'⟩ := draws (k := k) (r + j) 2 g p hp (by decide) (by decide)
      exact ⟨.int d, h', by simp [turnF, e], ⟨hp', sm.trans sm'⟩, d, rfl, by omega⟩)
  obtain ⟨bs, rfl, hb⟩ := row_of hr
  refine ⟨bs, h', ?_, hb, by simpa using hp', sm⟩
  show runF (W (k + 1)) e_l_row [.ptr p, .tup (List.replicate n (.int 2))] h = _
  have hz : n ≤ LINE := by show n ≤ 16777216; omega
  simp [runF, e_l_row, i_l_row, ev_comp, srcD, valSeq, wipeE, hz, e, biD, tupD, un]
end
end SI.K15
end
section
set_option Elab.async false
set_option linter.all false
set_option maxRecDepth 100000
set_option maxHeartbeats 4000000
namespace SI.K15
open PySem L2
def ri (n : Nat) : List Int := (List.range n).map fun (i : Nat) => (i : Int)
theorem rng_ri (n : Nat) : rngD 0 (n : Int) = (ri n).map D.int := by
  unfold rngD ri
  rw [List.map_map, Int.sub_zero, Int.toNat_natCast]
  apply List.map_congr_left
  intro i _
  show D.int (0 + (i : Int)) = D.int (i : Int)
  rw [Int.zero_add]
theorem ri_mem {n : Nat} {x : Int} (h : x ∈ ri n) : 0 ≤ x ∧ x < n := by
  obtain ⟨i, hi, rfl⟩ := List.mem_map.mp h
  have := List.mem_range.mp hi
  omega
theorem ri_len (n : Nat) : (ri n).length = n := by simp [ri]
def ovD (os : List (List Int)) : D := .tup (os.map fun l => .tup (l.map D.int))
structure PlOk (n : Nat) (ws : List Int) (o : Str) (os : List (List Int)) : Prop where
  n1 : 1 ≤ n
  n3 : n ≤ 3
  ne : ws ≠ []
  l12 : ws.length ≤ 12
  ws : ∀ w ∈ ws, 0 ≤ w ∧ w ≤ n
  op : ((o = "slots" ∨ o = "early") ∧ os = []) ∨ (o = "upward" ∧ os.length = n ∧ ∀ l ∈ os, l.Sublist (ri n))
theorem add_lst {h : Hs} {xs ys : List D} (z : xs.length + ys.length ≤ LINE) : binA h .add (.lst xs) (.lst ys) = .ok (.lst (xs ++ ys)) h := by
  unfold binA binD binL
  simp [isKs, un, z]
theorem mul_lst {h : Hs} {xs : List D} {i : Int} (h0 : 0 ≤ i) (h1 : i ≤ 1000) (z : xs.length ≤ 1000) : binA h .mul (.lst xs) (.int i) = .ok (.lst (List.replicate i.toNat xs).flatten) h := by
  have hz : xs.length * i.toNat ≤ LINE := by
    have : xs.length * i.toNat ≤ 1000 * 1000 := Nat.mul_le_mul z (by omega)
    show _ ≤ 16777216
    omega
  unfold binA binD binL
  simp only [isKs, un]
  rw [if_pos ⟨by omega, hz⟩]
  rfl
theorem cut12 {xs : List D} (z : xs.length ≤ 12) : cutD xs none (some 12) = xs := by
  unfold cutD
  rw [HT.sIx_none, show (12 : Int) = ((12 : Nat) : Int) from rfl, HT.sIx_nat, List.drop_zero, Nat.sub_zero, Nat.min_eq_right (by omega), List.take_length]
section
variable {k : Nat} {h : Hs} {p : Nat}
/-- the wheel's loop -/
theorem wheel_loop {r n t : Nat} {x3 : Option D} (hp : PenAt (r + 2 * t) h p) (hn : 1 ≤ n ∧ n ≤ 3) (ht : 1 ≤ t ∧ t ≤ 4) :
    ∃ env' h', forLoop (bodyF (W (k + 2)) 59 (.n 3) [.set (.n 2) (.bin .add (.v 2) (.bin .mul (.lst false [(.call "_law_draw" [(.v 0), (.bin .add (.v 1) (.c (.int 1)))])]) (.bin .add (.c (.int 1)) (.call "_law_draw" [(.v 0), (.c (.int 3))]))))]) (rngD 0 (t : Int)) [some (.ptr p), some (.int n), some (.lst []), x3, none, none, none, none] h = .nx env' h' ∧
      ∃ (ws : List Int) (y3 : Option D), env' = [some (.ptr p), some (.int n), some (.lst (ws.map D.int)), y3, none, none, none, none] ∧ PenAt r h' p ∧ Same p h h' ∧ ws ≠ [] ∧ ws.length ≤ 12 ∧ ∀ w ∈ ws, 0 ≤ w ∧ w ≤ n := by
  have hl : (rngD 0 (t : Int)).length = t := by rw [rng_ri, List.length_map, ri_len]
  obtain ⟨env', h', e, ws, y3, ee, hp', sm, l1, l2, hw⟩ := for_inv (f := bodyF (W (k + 2)) 59 (.n 3) [.set (.n 2) (.bin .add (.v 2) (.bin .mul (.lst false [(.call "_law_draw" [(.v 0), (.bin .add (.v 1) (.c (.int 1)))])]) (.bin .add (.c (.int 1)) (.call "_law_draw" [(.v 0), (.c (.int 3))]))))])
      (I := fun j env g => ∃ (ws : List Int) (y3 : Option D), env = [some (.ptr p), some (.int n), some (.lst (ws.map D.int)), y3, none, none, none, none] ∧ PenAt (r + 2 * j) g p ∧ Same p h g ∧ t ≤ ws.length + j ∧ ws.length + 3 * j ≤ 12 ∧ ∀ w ∈ ws, 0 ≤ w ∧ w ≤ n)
      (xs := rngD 0 (t : Int)) (env := [some (.ptr p), some (.int n), some (.lst []), x3, none, none, none, none]) (h := h) ⟨[], x3, rfl, by rw [hl]; exact hp, Same.refl p h, by rw [hl]; simp, by rw [hl]; simp; omega, by simp⟩
      (fun x hx j env g ⟨ws, y3, ee, hp, sm, l1, l2, hw⟩ => by
        subst ee
        obtain ⟨d1, h1, e1, d10, d11, hp1, sm1⟩ := draws (k := k + 1) (r + 2 * j + 1) (n + 1) g p (hp.mono (by omega)) (by omega) (by omega)
        obtain ⟨d2, h2, e2, d20, d21, hp2, sm2⟩ := draws (k := k + 1) (r + 2 * j) 3 h1 p hp1 (by decide) (by decide)
        have ef : ∀ q : Nat, (List.replicate q [D.int d1]).flatten = (List.replicate q d1).map D.int := fun q => by
          induction q with
          | zero => rfl
          | succ q ih => rw [List.replicate_succ, List.replicate_succ, List.flatten_cons, ih]; rfl
        refine ⟨[some (.ptr p), some (.int n), some (.lst ((ws ++ List.replicate (1 + d2).toNat d1).map D.int)), some x, none, none, none, none], h2, ?_, ws ++ List.replicate (1 + d2).toNat d1, some x, rfl, hp2, (sm.trans sm1).trans sm2, ?_, ?_, ?_⟩
        · have em : binA h2 .mul (.lst [.int d1]) (.int (1 + d2)) = .ok (.lst (List.replicate (1 + d2).toNat (D.int d1))) h2 := by
            have z := mul_lst (h := h2) (xs := [.int d1]) (i := 1 + d2) (by omega) (by omega) (by simp)
            simpa using z
          have ea : binA h2 .add (.lst (ws.map D.int)) (.lst (List.replicate (1 + d2).toNat (D.int d1))) = .ok (.lst (ws.map D.int ++ List.replicate (1 + d2).toNat (D.int d1))) h2 := add_lst (by
            show _ ≤ 16777216
            simp
            omega)
          simp [bodyF, e1, e2, em, ea]
        · simp; omega
        · simp; omega
        · intro w hw'
          rcases List.mem_append.mp hw' with q | q
          · exact hw w q
          · rw [(List.mem_replicate.mp q).2]; omega)
  refine ⟨env', h', e, ws, y3, ee, by simpa using hp', sm, ?_, by omega, hw⟩
  intro z
  rw [z] at l1
  simp at l1
  omega
end
end SI.K15
end
section
set_option Elab.async false
set_option linter.all false
set_option maxRecDepth 100000
set_option maxHeartbeats 4000000
namespace SI.K15
open PySem L2
theorem paired_eq {xs ys : List D} (h : Paired (fun x y : D => x = y) xs ys) : xs = ys := by
  induction h with
  | nil => rfl
  | cons r _ ih => rw [r, ih]
@[simp] theorem wipe_nil {env : Nv} : wipeE env [] = env := rfl
@[simp] theorem wipe_cons {env : Nv} {v : Nat} {vs : List Nat} : wipeE env (v :: vs) = (wipeE env vs).set v none := rfl
theorem rng_ok {n : Nat} (h : n ≤ 1000) : rngOk (n : Int) = true := by
  unfold rngOk
  exact decide_eq_true (by omega)
theorem src_rng {n : Nat} (h : n ≤ 1000) : srcD .rng [.int n] = some ((ri n).map D.int) := by
  show (if rngOk (n : Int) = true then some (rngD 0 n) else none) = _
  rw [if_pos (rng_ok h), rng_ri]
@[simp] theorem tup_lst {h : Hs} {xs : List D} : biD .tuple h (.lst xs) = some (.tup xs) := rfl
section
variable {k : Nat} {h : Hs} {p : Nat}
theorem lot_ok {r n : Nat} {i : Int} {x2 x3 x4 x5 x6 : Option D} (hp : PenAt (r + n) h p) :
    ∃ (l : List Int) (h' : Hs), compLoop (turnF (.n 6) (evT (W (k + 2)) 54 (.and (.cmp .ne (.v 6) (.v 7)) (.cmp .eq (.call "_law_draw" [(.v 0), (.c (.int 2))]) (.c (.int 0))))) (ev (W (k + 2)) 54 (.v 6)) [some (.ptr p), some (.int n), x2, x3, x4, x5, x6, some (.int i)]) ((ri n).map D.int) h = .ok (l.map D.int) h' ∧
      l.Sublist (ri n) ∧ PenAt r h' p ∧ Same p h h' := by
  obtain ⟨ys, zs, h', e, ⟨hp', sm⟩, sl, pr⟩ := comp_invO (f := turnF (.n 6) (evT (W (k + 2)) 54 (.and (.cmp .ne (.v 6) (.v 7)) (.cmp .eq (.call "_law_draw" [(.v 0), (.c (.int 2))]) (.c (.int 0))))) (ev (W (k + 2)) 54 (.v 6)) [some (.ptr p), some (.int n), x2, x3, x4, x5, x6, some (.int i)])
    (R := fun x y => x = y) (I := fun j g => PenAt (r + j) g p ∧ Same p h g) (xs := (ri n).map D.int) (h := h) ⟨by rw [List.length_map, ri_len]; exact hp, Same.refl p h⟩ (fun x hx j g ⟨hp, sm⟩ => by
      obtain ⟨a, ha, rfl⟩ := List.mem_map.mp hx
      by_cases hai : a = i
      · exact ⟨none, g, by simp [turnF, hai], ⟨hp.mono (by omega), sm⟩, by simp⟩
      · obtain ⟨d, h1, e1, d0, d1, hp1, sm1⟩ := draws (k := k + 1) (r + j) 2 g p hp (by decide) (by decide)
        by_cases hd : d = 0
        · exact ⟨some (.int a), h1, by simp [turnF, hai, e1, hd], ⟨hp1, sm.trans sm1⟩, by simp⟩
        · exact ⟨none, h1, by simp [turnF, hai, e1, hd], ⟨hp1, sm.trans sm1⟩, by simp⟩)
  have := paired_eq pr
  subst this
  obtain ⟨l, hl, rfl⟩ := List.sublist_map_iff.mp sl
  exact ⟨l, h', e, hl, by simpa using hp', sm⟩
theorem lots_of {R : List Int} {xs ys : List D} (pr : Paired (fun (_ y : D) => ∃ l : List Int, y = .tup (l.map D.int) ∧ l.Sublist R) xs ys) : ∃ os : List (List Int), ys = os.map (fun l => .tup (l.map D.int)) ∧ os.length = xs.length ∧ ∀ l ∈ os, l.Sublist R := by
  induction pr with
  | nil => exact ⟨[], rfl, rfl, by simp⟩
  | cons r _ ih =>
    obtain ⟨l, rfl, hl⟩ := r
    obtain ⟨os, rfl, h1, h2⟩ := ih
    exact ⟨l :: os, rfl, by simp [h1], by simpa using ⟨hl, h2⟩⟩
theorem lots_ok {r n : Nat} {x2 x3 x4 x5 x6 x7 : Option D} (hn : n ≤ 3) (hp : PenAt (r + n * n) h p) :
    ∃ (os : List (List Int)) (h' : Hs), compLoop (turnF (.n 7) (fun _ h => .ok true h) (ev (W (k + 2)) 56 (.bi .tuple (.comp false (.v 6) (.n 6) .rng [(.v 1)] (some (.and (.cmp .ne (.v 6) (.v 7)) (.cmp .eq (.call "_law_draw" [(.v 0), (.c (.int 2))]) (.c (.int 0))))) [6]))) [some (.ptr p), some (.int n), x2, x3, x4, x5, x6, x7]) ((ri n).map D.int) h = .ok (os.map fun l => .tup (l.map D.int)) h' ∧
      os.length = n ∧ (∀ l ∈ os, l.Sublist (ri n)) ∧ PenAt r h' p ∧ Same p h h' := by
  obtain ⟨ys, h', e, ⟨hp', sm⟩, pr⟩ := comp_inv (f := turnF (.n 7) (fun _ h => .ok true h) (ev (W (k + 2)) 56 (.bi .tuple (.comp false (.v 6) (.n 6) .rng [(.v 1)] (some (.and (.cmp .ne (.v 6) (.v 7)) (.cmp .eq (.call "_law_draw" [(.v 0), (.c (.int 2))]) (.c (.int 0))))) [6]))) [some (.ptr p), some (.int n), x2, x3, x4, x5, x6, x7])
    (R := fun _ y => ∃ l : List Int, y = .tup (l.map D.int) ∧ l.Sublist (ri n)) (I := fun j g => PenAt (r + n * j) g p ∧ Same p h g) (xs := (ri n).map D.int) (h := h) ⟨by rw [List.length_map, ri_len]; exact hp, Same.refl p h⟩ (fun x hx j g ⟨hp, sm⟩ => by
      obtain ⟨a, ha, rfl⟩ := List.mem_map.mp hx
      obtain ⟨l, h1, e1, hl, hp1, sm1⟩ := lot_ok (k := k) (r := r + n * j) (n := n) (i := a) (x2 := x2) (x3 := x3) (x4 := x4) (x5 := x5) (x6 := none) (hp.mono (by rw [Nat.mul_succ]; omega))
      refine ⟨_, h1, ?_, ⟨hp1, sm.trans sm1⟩, l, rfl, hl⟩
      have hz : n ≤ LINE := by show n ≤ 16777216; omega
      simp [turnF, ev_comp, src_rng (n := n) (by omega), hz, ri_len, e1])
  obtain ⟨os, rfl, h1, h2⟩ := lots_of pr
  rw [List.length_map, ri_len] at h1
  exact ⟨os, h', e, h1, h2, by simpa using hp', sm⟩
/-- the other choice: all above -/
def above (n : Nat) : List (List Int) := (ri n).map fun i => (List.range (n - (i.toNat + 1))).map fun (j : Nat) => i + 1 + (j : Int)
theorem above_ok {n : Nat} {x2 x3 x4 x5 x6 x7 : Option D} (hn : n ≤ 3) :
    compLoop (turnF (.n 7) (fun _ h => .ok true h) (ev (W (k + 2)) 55 (.rngs false false [(.bin .add (.v 7) (.c (.int 1))), (.v 1)])) [some (.ptr p), some (.int n), x2, x3, x4, x5, x6, x7]) ((ri n).map D.int) h = .ok ((above n).map fun l => .tup (l.map D.int)) h ∧ (above n).length = n ∧ ∀ l ∈ above n, l.Sublist (ri n) := by
  have : n = 0 ∨ n = 1 ∨ n = 2 ∨ n = 3 := by omega
  rcases this with rfl | rfl | rfl | rfl <;> exact ⟨rfl, rfl, by decide⟩
end
end SI.K15
end
section
set_option Elab.async false
set_option linter.all false
set_option maxRecDepth 100000
set_option maxHeartbeats 4000000
namespace SI.K15
open PySem L2
section
variable {k : Nat} {h : Hs} {p : Nat}
theorem run_end {G : Wr} {e : FnE} {ds : List D} {h h1 h' : Hs} {d : D} {l r : List IS} {env : Nv} (hl : ds.length = e.ps.length) (eb : e.body = l ++ r) (x : exs (ex G e.fuel) l (ds.map some ++ List.replicate (e.N.length - ds.length) none) h = .nx env h1) (y : exs (ex G e.fuel) r env h1 = .rt d h') : runF G e ds h = .ok d h' :=
  run_rt hl (by rw [eb, exs_app, x]; exact y)
theorem small3 {n : Nat} (h : n ≤ 3) : n ≤ LINE := by show n ≤ 16777216; omega
theorem eq_str {h : Hs} {x y : Str} (e : (PyData.str x).canLay0 = true) (f : (PyData.str y).canLay0 = true) : cmpD h .eq (.str x) (.str y) = some (x == y) := by
  have s1 : SeqAt.shaped (.str x) = true := by unfold SeqAt.shaped; rw [e]; rfl
  have s2 : SeqAt.shaped (.str y) = true := by unfold SeqAt.shaped; rw [f]; rfl
  show eqD h (.str x) (.str y) = _
  rw [eqD_py (y := .str x) (z := .str y) rfl rfl s1 s2]; rfl
theorem eq_w1 : cmpD h .eq (.str "slots") (.str "upward") = some false := by rw [eq_str (by decide +kernel) (by decide +kernel)]; decide +kernel
theorem eq_w2 : cmpD h .eq (.str "early") (.str "upward") = some false := by rw [eq_str (by decide +kernel) (by decide +kernel)]; decide +kernel
theorem eq_w3 : cmpD h .eq (.str "upward") (.str "upward") = some true := by rw [eq_str (by decide +kernel) (by decide +kernel)]; decide +kernel
theorem eq_w4 : cmpD h .eq (.str "slots") (.str "slots") = some true := by rw [eq_str (by decide +kernel) (by decide +kernel)]; decide +kernel
theorem eq_w5 : cmpD h .eq (.str "early") (.str "slots") = some false := by rw [eq_str (by decide +kernel) (by decide +kernel)]; decide +kernel
theorem eq_w6 : cmpD h .eq (.str "upward") (.str "slots") = some false := by rw [eq_str (by decide +kernel) (by decide +kernel)]; decide +kernel
theorem eq_w7 : cmpD h .eq (.str "slots") (.str "early") = some false := by rw [eq_str (by decide +kernel) (by decide +kernel)]; decide +kernel
theorem eq_w8 : cmpD h .eq (.str "early") (.str "early") = some true := by rw [eq_str (by decide +kernel) (by decide +kernel)]; decide +kernel
theorem eq_w9 : cmpD h .eq (.str "upward") (.str "early") = some false := by rw [eq_str (by decide +kernel) (by decide +kernel)]; decide +kernel
theorem ne_of_eq {x y : D} {b : Bool} (e : cmpD h .eq x y = some b) : cmpD h .ne x y = some (!b) := by
  show (eqD h x y).map _ = _
  rw [show eqD h x y = some b from e]; rfl
/-- the planner's parts -/
theorem planner {r : Nat} (hp : PenAt (r + 60) h p) : ∃ (n : Nat) (ws : List Int) (o : Str) (os : List (List Int)) (h' : Hs), (W (k + 3)).call "_law_planner" [.ptr p] h = .ok (.tup [.int n, .tup (ws.map D.int), .str o, ovD os]) h' ∧ PlOk n ws o os ∧ PenAt r h' p ∧ Same p h h' := by
  obtain ⟨d1, h1, e1, d10, d11, hp1, sm1⟩ := draws (k := k + 1) (r + 59) 3 h p hp (by decide) (by decide)
  obtain ⟨n, hn⟩ : ∃ n : Nat, 1 + d1 = n := ⟨(1 + d1).toNat, by omega⟩
  obtain ⟨d2, h2, e2, d20, d21, hp2, sm2⟩ := draws (k := k + 1) (r + 58) 4 h1 p hp1 (by decide) (by decide)
  obtain ⟨t, ht⟩ : ∃ t : Nat, 1 + d2 = t := ⟨(1 + d2).toNat, by omega⟩
  obtain ⟨env3, h3, e3, ws, y3, rfl, hp3, sm3, w1, w2, w3⟩ := wheel_loop (k := k) (r := r + 50) (n := n) (t := t) (x3 := none) (hp2.mono (by omega)) (by omega) (by omega)
  obtain ⟨o, h4, e4, ho, hp4, sm4⟩ := pick (k := k) (r := r + 49) (xs := [.str "slots", .str "early", .str "upward"]) (hp3.mono (by omega)) (by simp) (by simp)
  have step : ∃ (os : List (List Int)) (o' : Str) (env' : Nv) (h' : Hs) (x6 x7 : Option D), o = .str o' ∧ exs (ex (W (k + 2)) 60) ((i_l_planner.drop 5).take 1) [some (.ptr p), some (.int n), some (.lst (ws.map D.int)), y3, some o, some (.tup []), none, none] h4 =
      .nx [some (.ptr p), some (.int n), some (.lst (ws.map D.int)), y3, some o, some (ovD os), x6, x7] h' ∧ PlOk n ws o' os ∧ PenAt r h' p ∧ Same p h4 h' := by
    simp only [List.mem_cons, List.not_mem_nil, or_false] at ho
    rcases ho with rfl | rfl | rfl
    · refine ⟨[], "slots", [], h4, none, none, rfl, ?_, ⟨by omega, by omega, w1, w2, w3, .inl ⟨.inl rfl, rfl⟩⟩, hp4.mono (by omega), Same.refl _ _⟩
      simp [i_l_planner, eq_w1, ovD]
    · refine ⟨[], "early", [], h4, none, none, rfl, ?_, ⟨by omega, by omega, w1, w2, w3, .inl ⟨.inr rfl, rfl⟩⟩, hp4.mono (by omega), Same.refl _ _⟩
      simp [i_l_planner, eq_w2, ovD]
    · obtain ⟨os, h5, e5, l5, s5, hp5, sm5⟩ := lots_ok (k := k) (r := r + 40) (n := n) (x2 := some (.lst (ws.map D.int))) (x3 := y3) (x4 := some (.str "upward")) (x5 := some (.tup [])) (x6 := none) (x7 := none) (by omega) (hp4.mono (by have : n * n ≤ 3 * 3 := Nat.mul_le_mul (by omega) (by omega); omega))
      obtain ⟨d6, h6, e6, d60, d61, hp6, sm6⟩ := draws (k := k + 1) (r + 39) 2 h5 p hp5 (by decide) (by decide)
      have hz : n ≤ LINE := small3 (by omega)
      by_cases hd : d6 = 0
      · obtain ⟨ea, la, sa⟩ := above_ok (k := k) (h := h6) (p := p) (n := n) (x2 := some (.lst (ws.map D.int))) (x3 := y3) (x4 := some (.str "upward")) (x5 := some (ovD os)) (x6 := none) (x7 := none) (by omega)
        refine ⟨above n, "upward", [], h6, none, none, rfl, ?_, ⟨by omega, by omega, w1, w2, w3, .inr ⟨rfl, la, sa⟩⟩, hp6.mono (by omega), sm5.trans sm6⟩
        simp [i_l_planner, eq_w3, ovD, ev_comp, src_rng (n := n) (by omega), hz, ri_len, e5, e6, hd]
        rw [show ovD os = .tup (os.map fun l => .tup (l.map D.int)) from rfl] at ea
        simp [ea]
      · refine ⟨os, "upward", [], h6, none, none, rfl, ?_, ⟨by omega, by omega, w1, w2, w3, .inr ⟨rfl, l5, s5⟩⟩, hp6.mono (by omega), sm5.trans sm6⟩
        simp [i_l_planner, eq_w3, ovD, ev_comp, src_rng (n := n) (by omega), hz, ri_len, e5, e6, hd]
  obtain ⟨os, o', _, h', x6, x7, rfl, e5, ok, hp5, sm5⟩ := step
  refine ⟨n, ws, o', os, h', ?_, ok, hp5, (((sm1.trans sm2).trans sm3).trans sm4).trans sm5⟩
  have hc : cutD (ws.map D.int) none (some 12) = ws.map D.int := cut12 (by simpa using w2)
  refine run_end (G := W (k + 2)) (e := e_l_planner) (ds := [.ptr p]) (l := i_l_planner.take 6) (r := i_l_planner.drop 6) rfl rfl (env := [some (.ptr p), some (.int n), some (.lst (ws.map D.int)), y3, some (.str o'), some (ovD os), x6, x7]) (h1 := h') ?_ ?_
  · show exs (ex (W (k + 2)) 60) (i_l_planner.take 5 ++ (i_l_planner.drop 5).take 1) [some (.ptr p), none, none, none, none, none, none, none] h = _
    rw [exs_app]
    have ef : exs (ex (W (k + 2)) 60) (i_l_planner.take 5) [some (.ptr p), none, none, none, none, none, none, none] h = .nx [some (.ptr p), some (.int n), some (.lst (ws.map D.int)), y3, some (.str o'), some (.tup []), none, none] h4 := by
      have g1 : exs (ex (W (k + 2)) 60) (i_l_planner.take 2) [some (.ptr p), none, none, none, none, none, none, none] h = .nx [some (.ptr p), some (.int n), some (.lst []), none, none, none, none, none] h1 := by
        simp [i_l_planner, e1, hn]
      have g2 : exs (ex (W (k + 2)) 60) ((i_l_planner.drop 2).take 1) [some (.ptr p), some (.int n), some (.lst []), none, none, none, none, none] h1 = .nx [some (.ptr p), some (.int n), some (.lst (ws.map D.int)), y3, none, none, none, none] h3 := by
        show (ex (W (k + 2)) 60 (.loop _ _ _ _) _ _).then (exs _ []) = _
        rw [loop_run (h1 := h2) (ds := [.int t]) (xs := rngD 0 t) (by simp [e2, ht]) (by rw [src_rng (by omega), rng_ri]) e3]
        rfl
      have g3 : exs (ex (W (k + 2)) 60) ((i_l_planner.drop 3).take 2) [some (.ptr p), some (.int n), some (.lst (ws.map D.int)), y3, none, none, none, none] h3 = .nx [some (.ptr p), some (.int n), some (.lst (ws.map D.int)), y3, some (.str o'), some (.tup []), none, none] h4 := by
        simp [i_l_planner, e4]
      show exs (ex (W (k + 2)) 60) (i_l_planner.take 2 ++ ((i_l_planner.drop 2).take 1 ++ (i_l_planner.drop 3).take 2)) _ h = _
      rw [exs_app, g1, then_nx, exs_app, g2, then_nx, g3]
    rw [ef, then_nx]
    exact e5
  · show exs (ex (W (k + 2)) 60) _ _ _ = _
    simp [i_l_planner, slD, un, hc]
end
end SI.K15
end
section
set_option Elab.async false
set_option linter.all false
set_option maxRecDepth 100000
set_option maxHeartbeats 4000000
namespace SI.K15
open PySem L2
def twos (n : Nat) : D := .tup (List.replicate n (.int 2))
def flds (n : Nat) (ws : List Int) (o : Str) (os : List (List Int)) (ins cells : D) : List (Str × D) :=
  [("many", .int n), ("wheel", .tup (ws.map D.int)), ("option", .str o), ("over", ovD os), ("starts", .tup []), ("ins", ins), ("outs", twos n), ("cells", cells)]
def insD (n : Nat) (o : Str) : D := if o = "slots" then .tup [] else twos n
def celD (n : Nat) (ws : List Int) (o : Str) : D := if o = "upward" then .tup [.int ws.length, .int (n + 1)] else .tup [.int ws.length]
def pl (n : Nat) (ws : List Int) (o : Str) (os : List (List Int)) : Cell := .ins "Planner" (flds n ws o os (insD n o) (celD n ws o))
section
variable {k : Nat} {h : Hs} {p q : Nat} {n : Nat} {ws : List Int} {o : Str} {os : List (List Int)}
theorem fld_of {f : Str} (hq : h[q]? = some (pl n ws o os)) : fldD (W (k + 1)) h (.ptr q) f = (flds n ws o os (insD n o) (celD n ws o)).lookup f := by
  show (match h[q]? with
    | some (.ins C fs) => if (W (k + 1)).cls C = true then fs.lookup f else none
    | _ => none) = _
  rw [hq]; rfl
theorem fld_many (hq : h[q]? = some (pl n ws o os)) : fldD (W (k + 1)) h (.ptr q) "many" = some (.int n) := by rw [fld_of hq]; rfl
theorem fld_wheel (hq : h[q]? = some (pl n ws o os)) : fldD (W (k + 1)) h (.ptr q) "wheel" = some (.tup (ws.map D.int)) := by rw [fld_of hq]; rfl
theorem fld_option (hq : h[q]? = some (pl n ws o os)) : fldD (W (k + 1)) h (.ptr q) "option" = some (.str o) := by rw [fld_of hq]; rfl
theorem fld_over (hq : h[q]? = some (pl n ws o os)) : fldD (W (k + 1)) h (.ptr q) "over" = some (ovD os) := by rw [fld_of hq]; rfl
theorem fld_starts (hq : h[q]? = some (pl n ws o os)) : fldD (W (k + 1)) h (.ptr q) "starts" = some (.tup []) := by rw [fld_of hq]; rfl
theorem fld_ins (hq : h[q]? = some (pl n ws o os)) : fldD (W (k + 1)) h (.ptr q) "ins" = some (insD n o) := by rw [fld_of hq]; rfl
theorem fld_outs (hq : h[q]? = some (pl n ws o os)) : fldD (W (k + 1)) h (.ptr q) "outs" = some (twos n) := by rw [fld_of hq]; rfl
theorem fld_cells (hq : h[q]? = some (pl n ws o os)) : fldD (W (k + 1)) h (.ptr q) "cells" = some (celD n ws o) := by rw [fld_of hq]; rfl
theorem setF_app {f : Str} {v : D} {fs : List (Str × D)} (hl : fs.length < 1000) : setFD (W (k + 1)) (h ++ [.ins "Planner" fs]) (.ptr h.length) f v = some (h ++ [.ins "Planner" (putFD f v fs)]) := by
  have hc : (W (k + 1)).cls "Planner" = true := rfl
  have hg : (h ++ [Cell.ins "Planner" fs])[h.length]? = some (.ins "Planner" fs) := by
    rw [List.getElem?_append_right (Nat.le_refl _), Nat.sub_self]; rfl
  simp only [setFD, hg, hc, decide_eq_true hl, Bool.and_self, if_true]
  rw [List.set_append_right _ _ (Nat.le_refl _), Nat.sub_self]
  rfl
/-! ### the parts are right -/
def subs : List Int → List (List Int)
  | [] => [[]]
  | a :: r => subs r ++ (subs r).map (a :: ·)
theorem mem_subs {l r : List Int} (h : l.Sublist r) : l ∈ subs r := by
  induction h with
  | slnil => exact List.mem_singleton.mpr rfl
  | cons a _ ih => exact List.mem_append_left _ ih
  | cons_cons a _ ih => exact List.mem_append_right _ (List.mem_map_of_mem ih)
theorem lot_cases {n : Nat} {l : List Int} (hn : n ≤ 3) (hl : l.Sublist (ri n)) : (n = 0 ∧ l ∈ ([[]] : List (List Int))) ∨ (n = 1 ∧ l ∈ ([[], [0]] : List (List Int))) ∨ (n = 2 ∧ l ∈ ([[], [1], [0], [0, 1]] : List (List Int))) ∨ (n = 3 ∧ l ∈ ([[], [2], [1], [1, 2], [0], [0, 2], [0, 1], [0, 1, 2]] : List (List Int))) := by
  have : n = 0 ∨ n = 1 ∨ n = 2 ∨ n = 3 := by omega
  have m := mem_subs hl
  rcases this with rfl | rfl | rfl | rfl
  · exact .inl ⟨rfl, m⟩
  · exact .inr (.inl ⟨rfl, m⟩)
  · exact .inr (.inr (.inl ⟨rfl, m⟩))
  · exact .inr (.inr (.inr ⟨rfl, m⟩))
theorem is_lot_below_ok {l : List Int} (hn : n ≤ 3) (hl : l.Sublist (ri n)) : (W (k + 4)).call "is_lot_below" [.tup (l.map D.int), .int n] h = .ok (.bl true) h := by
  rcases lot_cases hn hl with ⟨rfl, m⟩ | ⟨rfl, m⟩ | ⟨rfl, m⟩ | ⟨rfl, m⟩ <;> simp only [List.mem_cons, List.not_mem_nil, or_false] at m
  · subst m; rfl
  · rcases m with rfl | rfl <;> rfl
  · rcases m with rfl | rfl | rfl | rfl <;> rfl
  · rcases m with rfl | rfl | rfl | rfl | rfl | rfl | rfl | rfl <;> rfl
theorem all_true : ∀ n : Nat, boolsOf (List.replicate n (D.bl true)) = some (List.replicate n true)
  | 0 => rfl
  | n + 1 => by rw [List.replicate_succ, List.replicate_succ]; simp [boolsOf, all_true n]
theorem all_bi {n : Nat} : biD .all h (.lst (List.replicate n (D.bl true))) = some (.bl true) := by
  show (boolsOf (List.replicate n (D.bl true))).map _ = _
  rw [all_true]
  simp
theorem comp_true {f : D → Hs → Res (Option D)} {xs : List D} (hx : ∀ x ∈ xs, f x h = .ok (some (.bl true)) h) : compLoop f xs h = .ok (List.replicate xs.length (.bl true)) h := by
  rw [comp_map (g := fun _ => .bl true) hx, List.map_const']
theorem parts_ok (P : PlOk n ws o os) : (W (k + 6)).call "are_planner_parts" [.int n, .tup (ws.map D.int), .str o, ovD os] h = .ok (.bl true) h := by
  have hz : ws.length ≤ LINE := by have := P.l12; show ws.length ≤ 16777216; omega
  have h0 : 0 < ws.length := List.length_pos_iff.mpr P.ne
  have e1 : (W (k + 5)).call "is_between" [.int n, .int 1, .int 4] h = .ok (.bl true) h := is_between_ok (by omega) (by have := P.n1; omega) (by have := P.n3; omega)
  have e2 : ∀ e5 : Option D, compLoop (turnF (.n 4) (fun _ h => .ok true h) (ev (W (k + 5)) 54 (.call "is_between" [(.v 4), (.c (.int 0)), (.v 0)])) [some (.int n), some (.tup (ws.map D.int)), some (.str o), some (ovD os), none, e5]) (ws.map D.int) h = .ok (List.replicate (ws.map D.int).length (.bl true)) h := fun e5 =>
    comp_true fun x hx => by
      obtain ⟨w, hw, rfl⟩ := List.mem_map.mp hx
      have z := is_between_ok (k := k + 2) (h := h) (i := w) (a := 0) (b := n) (P.ws w hw).1 (P.ws w hw).1 (P.ws w hw).2
      simp [turnF, z]
  have e3 : ∀ e4 : Option D, os.length ≤ LINE → (∀ l ∈ os, l.Sublist (ri n)) → compLoop (turnF (.n 5) (fun _ h => .ok true h) (ev (W (k + 5)) 55 (.call "is_lot_below" [(.v 5), (.v 0)])) [some (.int n), some (.tup (ws.map D.int)), some (.str o), some (ovD os), e4, none]) (os.map fun l => .tup (l.map D.int)) h = .ok (List.replicate (os.map fun l => D.tup (l.map D.int)).length (.bl true)) h := fun e4 _ hs =>
    comp_true fun x hx => by
      obtain ⟨l, hl, rfl⟩ := List.mem_map.mp hx
      have z := is_lot_below_ok (k := k + 1) (h := h) P.n3 (hs l hl)
      simp [turnF, z]
  have gt : (0 : Int) < ws.length := by omega
  have le : (ws.length : Int) ≤ 12 := by have := P.l12; omega
  have run1 : exs (ex (W (k + 5)) 60) (i_are_planner_parts.take 2) [some (.int n), some (.tup (ws.map D.int)), some (.str o), some (ovD os), none, none] h = .nx [some (.int n), some (.tup (ws.map D.int)), some (.str o), some (ovD os), none, none] h := by
    have c := comp_run (G := W (k + 5)) (n := 54) (m := false) (e := .call "is_between" [(.v 4), (.c (.int 0)), (.v 0)]) (t := .n 4) (k := .seq) (as := [(.v 1)]) (i := none) (own := [4]) (env := [some (.int n), some (.tup (ws.map D.int)), some (.str o), some (ovD os), none, none]) (h := h) (ds := [.tup (ws.map D.int)]) (xs := ws.map D.int) rfl rfl (by simpa using hz) (e2 none)
    have t1 : isAny (W (k + 5)) h (.tup (ws.map D.int)) [.inl "tuple"] = some true := rfl
    simp [i_are_planner_parts, e1, t1, h0, le]
    rw [c]
    simp [all_bi]
  have t3 : isAny (W (k + 5)) h (ovD os) [.inl "tuple"] = some true := rfl
  refine run_end (G := W (k + 5)) (e := e_are_planner_parts) (ds := [.int n, .tup (ws.map D.int), .str o, ovD os]) (l := i_are_planner_parts.take 2) (r := i_are_planner_parts.drop 2) rfl rfl run1 ?_
  show exs (ex (W (k + 5)) 60) _ _ _ = _
  rcases P.op with ⟨ho, rfl⟩ | ⟨rfl, hl, hs⟩
  · have eo : cmpD h .eq (ovD []) (.tup []) = some true := rfl
    rcases ho with rfl | rfl
    · have i1 : cmpD h .isin (.str "slots") (.tup [.str "slots", .str "early"]) = some true := by with_unfolding_all rfl
      simp [i_are_planner_parts, ne_of_eq eq_w1, i1, eo]
    · have i1 : cmpD h .isin (.str "early") (.tup [.str "slots", .str "early"]) = some true := by with_unfolding_all rfl
      simp [i_are_planner_parts, ne_of_eq eq_w2, i1, eo]
  · have hz2 : os.length ≤ LINE := by have := P.n3; show os.length ≤ 16777216; omega
    have c := comp_run (G := W (k + 5)) (n := 55) (m := false) (e := .call "is_lot_below" [(.v 5), (.v 0)]) (t := .n 5) (k := .seq) (as := [(.v 3)]) (i := none) (own := [5]) (env := [some (.int n), some (.tup (ws.map D.int)), some (.str "upward"), some (ovD os), none, none]) (h := h) (ds := [ovD os]) (xs := os.map fun (l : List Int) => D.tup (l.map D.int)) rfl rfl (by simpa using hz2) (e3 none hz2 hs)
    have ln : biD .len h (ovD os) = some (.int os.length) := by show some (D.int ((os.map _).length : Nat)) = _; rw [List.length_map]
    simp [i_are_planner_parts, ne_of_eq eq_w3, t3, ln, hl]
    rw [c]
    simp [all_bi]
end
end SI.K15
end
section
set_option Elab.async false
set_option linter.all false
set_option maxRecDepth 100000
set_option maxHeartbeats 400000
namespace SI.K15
open PySem L2
section
variable {k : Nat} {h : Hs} {p q : Nat} {n : Nat} {ws : List Int} {o : Str} {os : List (List Int)}
theorem twos_mul (h1 : 1 ≤ n) (h3 : n ≤ 3) : binA h .mul (.tup [.int 2]) (.int n) = .ok (twos n) h := by
  have : n = 1 ∨ n = 2 ∨ n = 3 := by omega
  rcases this with rfl | rfl | rfl <;> rfl
theorem box_init {q : Nat} {fs : List (Str × D)} {a b c d : D} (hl : fs.length < 900) : (W (k + 2)).meth "Box" "__init__" [.ptr h.length, a, b, c, d] (h ++ [.ins "Planner" fs]) = .ok .non (h ++ [.ins "Planner" (putFD "cells" d (putFD "outs" c (putFD "ins" b (putFD "starts" a fs))))]) := by
  have len : ∀ (f : Str) (v : D) (fs : List (Str × D)), (putFD f v fs).length ≤ fs.length + 1 := fun f v fs => by
    induction fs with
    | nil => exact Nat.le_refl _
    | cons q r ih =>
      obtain ⟨g, w⟩ := q
      unfold putFD
      split
      · simp
      · simp; omega
  have l1 := len "starts" a fs
  have l2 := len "ins" b (putFD "starts" a fs)
  have l3 := len "outs" c (putFD "ins" b (putFD "starts" a fs))
  rw [q_Box_init]
  have g1 : setFD (W (k + 1)) (h ++ [.ins "Planner" fs]) (.ptr h.length) "starts" a = some (h ++ [.ins "Planner" (putFD "starts" a fs)]) := setF_app (by omega)
  have g2 : setFD (W (k + 1)) (h ++ [.ins "Planner" (putFD "starts" a fs)]) (.ptr h.length) "ins" b = some (h ++ [.ins "Planner" (putFD "ins" b (putFD "starts" a fs))]) := setF_app (by omega)
  have g3 : setFD (W (k + 1)) (h ++ [.ins "Planner" (putFD "ins" b (putFD "starts" a fs))]) (.ptr h.length) "outs" c = some (h ++ [.ins "Planner" (putFD "outs" c (putFD "ins" b (putFD "starts" a fs)))]) := setF_app (by omega)
  have g4 : setFD (W (k + 1)) (h ++ [.ins "Planner" (putFD "outs" c (putFD "ins" b (putFD "starts" a fs)))]) (.ptr h.length) "cells" d = some (h ++ [.ins "Planner" (putFD "cells" d (putFD "outs" c (putFD "ins" b (putFD "starts" a fs))))]) := setF_app (by omega)
  simp [i_Box_init, g1, g2, g3, g4]
theorem init_ok (P : PlOk n ws o os) : (W (k + 7)).meth "Planner" "__init__" [.ptr h.length, .int n, .tup (ws.map D.int), .str o, ovD os] (h ++ [.ins "Planner" []]) = .ok .non (h ++ [pl n ws o os]) := by
  rw [q_Planner_init]
  have t0 : ∀ h : Hs, binA h .mul (.tup [.int 2]) (.int n) = .ok (twos n) h := fun h => twos_mul P.n1 P.n3
  have f1 : ∀ (v : D), setFD (W (k + 6)) (h ++ [.ins "Planner" []]) (.ptr h.length) "many" v = some (h ++ [.ins "Planner" [("many", v)]]) := fun v => by
    rw [setF_app (by simp)]; kernel_rfl
  have f2 : ∀ (u v : D), setFD (W (k + 6)) (h ++ [.ins "Planner" [("many", u)]]) (.ptr h.length) "wheel" v = some (h ++ [.ins "Planner" [("many", u), ("wheel", v)]]) := fun u v => by
    rw [setF_app (by simp)]; kernel_rfl
  have f3 : ∀ (t u v : D), setFD (W (k + 6)) (h ++ [.ins "Planner" [("many", t), ("wheel", u)]]) (.ptr h.length) "option" v = some (h ++ [.ins "Planner" [("many", t), ("wheel", u), ("option", v)]]) := fun t u v => by
    rw [setF_app (by simp)]; kernel_rfl
  have f4 : ∀ (s t u v : D), setFD (W (k + 6)) (h ++ [.ins "Planner" [("many", s), ("wheel", t), ("option", u)]]) (.ptr h.length) "over" v = some (h ++ [.ins "Planner" [("many", s), ("wheel", t), ("option", u), ("over", v)]]) := fun s t u v => by
    rw [setF_app (by simp)]; kernel_rfl
  have pk : (W (k + 6)).call "are_planner_parts" [.int n, .tup (ws.map D.int), .str o, ovD os] (h ++ [.ins "Planner" []]) = .ok (.bl true) (h ++ [.ins "Planner" []]) := parts_ok P
  have bi : ∀ (i c : D), (W (k + 6)).meth "Box" "__init__" [.ptr h.length, .tup [], i, twos n, c] (h ++ [.ins "Planner" [("many", .int n), ("wheel", .tup (ws.map D.int)), ("option", .str o), ("over", ovD os)]]) = .ok .non (h ++ [.ins "Planner" (flds n ws o os i c)]) := fun i c => by
    rw [box_init (k := k + 4) (q := 0) (by simp)]
    kernel_rfl
  rcases P.op with ⟨rfl | rfl, rfl⟩ | ⟨rfl, _, _⟩
  · have bi := bi (.tup []) (.tup [.int ws.length])
    simp [i_Planner_init, pk, f1, f2, f3, f4, eq_w4, eq_w1, t0, bi]
    kernel_rfl
  · have bi := bi (twos n) (.tup [.int ws.length])
    simp [i_Planner_init, pk, f1, f2, f3, f4, eq_w5, eq_w2, t0, bi]
    kernel_rfl
  · have bi := bi (twos n) (.tup [.int ws.length, .int (n + 1)])
    simp [i_Planner_init, pk, f1, f2, f3, f4, eq_w6, eq_w3, t0, bi]
    kernel_rfl
theorem make_ok (P : PlOk n ws o os) : (W (k + 8)).make "Planner" [.int n, .tup (ws.map D.int), .str o, ovD os] h = .ok (.ptr h.length) (h ++ [pl n ws o os]) := by
  have e : ∀ (ds : List D) (h : Hs), (wr txt.pg (k + 8)).make "Planner" ds h = ((wr txt.pg (k + 7)).meth "Planner" "__init__" (.ptr h.length :: ds) (h ++ [.ins "Planner" []])).bind fun d h' => match d with
        | .non => .ok (.ptr h.length) h'
        | _ => .no := fun ds h => by kernel_rfl
  rw [e, init_ok P]
  rfl
end
end SI.K15
end
section
set_option Elab.async false
set_option linter.all false
set_option maxRecDepth 100000
set_option maxHeartbeats 1000000
namespace SI.K15
open PySem L2
/-- the item at a place -/
def gi (ws : List Int) (p : Nat) : Int := ws.getD p 0
theorem ix_tup {h : Hs} {ws : List Int} {p : Nat} (hp : p < ws.length) : ixD h (.tup (ws.map D.int)) (.int p) = some (.int (gi ws p)) := by
  show atI (ws.map D.int) (p : Int) = _
  refine atI_nat ?_
  rw [List.getElem?_map, List.getElem?_eq_getElem hp]
  simp [gi, List.getD, List.getElem?_eq_getElem hp]
theorem gi_mem {ws : List Int} {p : Nat} (hp : p < ws.length) : gi ws p ∈ ws := by
  simp [gi, List.getD, List.getElem?_eq_getElem hp]
def stD (o : Str) (p : Nat) (g : Int) : D := if o = "upward" then .tup [.int p, .int g] else .tup [.int p]
def hot (n : Nat) (g : Int) : D := .tup ((ri n).map fun i => .int (if i == g then 1 else 0))
section
variable {k : Nat} {h : Hs} {p q : Nat} {n : Nat} {ws : List Int} {o : Str} {os : List (List Int)} {g : Int}
theorem wcases (P : PlOk n ws o os) : (o = "slots" ∧ o ≠ "upward" ∧ os = []) ∨ (o = "early" ∧ o ≠ "upward" ∧ os = []) ∨ (o = "upward" ∧ os.length = n ∧ ∀ l ∈ os, l.Sublist (ri n)) := by
  rcases P.op with ⟨rfl | rfl, h⟩ | h
  · exact .inl ⟨rfl, by decide +kernel, h⟩
  · exact .inr (.inl ⟨rfl, by decide +kernel, h⟩)
  · exact .inr (.inr h)
theorem st_of (ho : o ≠ "upward") : stD o p g = .tup [.int p] := if_neg ho
theorem st_up : stD "upward" p g = .tup [.int p, .int g] := if_pos rfl
theorem ix_0 {x : D} {r : List D} : ixD h (.tup (x :: r)) (.int 0) = some x := by
  show atI (x :: r) ((0 : Nat) : Int) = _
  exact atI_nat rfl
theorem ix_1 {x y : D} {r : List D} : ixD h (.tup (x :: y :: r)) (.int 1) = some y := by
  show atI (x :: y :: r) ((1 : Nat) : Int) = _
  exact atI_nat rfl
theorem cls_of {m : Str} (hq : h[q]? = some (pl n ws o os)) (hm : ((W (k + 1)).cls "Planner" && (W (k + 1)).mth "Planner" m && ((flds n ws o os (insD n o) (celD n ws o)).lookup m).isNone) = true) : clsOf (wr txt.pg (k + 1)) h (.ptr q) m = some ("Planner" : Str) := by
  have hm : ((wr txt.pg (k + 1)).cls "Planner" && (wr txt.pg (k + 1)).mth "Planner" m && ((flds n ws o os (insD n o) (celD n ws o)).lookup m).isNone) = true := hm
  simp only [clsOf, hq, pl, hm, if_true]
theorem goer_ok (P : PlOk n ws o os) (hq : h[q]? = some (pl n ws o os)) (hp : p < ws.length) (hg : o ≠ "upward" → g = gi ws p) : (W (k + 2)).meth "Planner" "goer" [.ptr q, stD o p g] h = .ok (.int g) h := by
  rw [q_Planner_goer]
  rcases wcases P with ⟨rfl, hn, _⟩ | ⟨rfl, hn, _⟩ | ⟨rfl, _⟩
  · rw [st_of hn, hg hn]
    simp [i_Planner_goer, fld_option hq, fld_wheel hq, eq_w1, ix_0, ix_tup hp]
  · rw [st_of hn, hg hn]
    simp [i_Planner_goer, fld_option hq, fld_wheel hq, eq_w2, ix_0, ix_tup hp]
  · rw [st_up]
    simp [i_Planner_goer, fld_option hq, eq_w3, ix_1]
theorem bl_int {b : Bool} : biD .int h (.bl b) = some (.int (if b then 1 else 0)) := rfl
theorem shown_ok (P : PlOk n ws o os) (hq : h[q]? = some (pl n ws o os)) (hp : p < ws.length) (hg : o ≠ "upward" → g = gi ws p) : (W (k + 3)).meth "Planner" "shown" [.ptr q, stD o p g] h = .ok (hot n g) h := by
  rw [q_Planner_shown]
  have n3 := P.n3
  have e2 : compLoop (turnF (.n 3) (fun _ h => .ok true h) (ev (W (k + 2)) 57 (.bi .int (.cmp .eq (.v 3) (.v 2)))) [some (.ptr q), some (stD o p g), some (.int g), none]) ((ri n).map D.int) h = .ok (((ri n).map D.int).map fun x => match x with
      | .int i => .int (if i == g then 1 else 0)
      | d => d) h := comp_map fun x hx => by
    obtain ⟨i, hi, rfl⟩ := List.mem_map.mp hx
    simp [turnF, bl_int]
  have c := comp_run (G := W (k + 2)) (n := 57) (m := false) (e := .bi .int (.cmp .eq (.v 3) (.v 2))) (t := .n 3) (k := .rng) (as := [(.fld (.v 0) "many")]) (i := none) (own := [3]) (env := [some (.ptr q), some (stD o p g), some (.int g), none]) (h := h) (ds := [.int n]) (xs := (ri n).map D.int)
    (by simp [fld_many hq]) (src_rng (by omega)) (by rw [List.length_map, ri_len]; exact small3 n3) e2
  have gk : (wr txt.pg (k + 2)).meth "Planner" "goer" [.ptr q, stD o p g] h = .ok (.int g) h := goer_ok P hq hp hg
  have cl : clsOf (wr txt.pg (k + 2)) h (.ptr q) "goer" = some ("Planner" : Str) := cls_of hq (by kernel_rfl)
  simp [i_Planner_shown, cl, gk]
  rw [c]
  simp [hot]
theorem begin_ok (P : PlOk n ws o os) (hq : h[q]? = some (pl n ws o os)) {r : D} : (W (k + 2)).meth "Planner" "begin" [.ptr q, r] h = .ok (stD o 0 (gi ws 0)) h := by
  rw [q_Planner_begin]
  have h0 : 0 < ws.length := List.length_pos_iff.mpr P.ne
  rcases wcases P with ⟨rfl, hn, _⟩ | ⟨rfl, hn, _⟩ | ⟨rfl, _⟩
  · rw [st_of hn]
    simp [i_Planner_begin, fld_option hq, eq_w1]
  · rw [st_of hn]
    simp [i_Planner_begin, fld_option hq, eq_w2]
  · have z : ixD h (.tup (ws.map D.int)) (.int 0) = some (.int (gi ws 0)) := ix_tup (p := 0) h0
    rw [st_up]
    simp [i_Planner_begin, fld_option hq, fld_wheel hq, eq_w3, z]
/-! ### the first place of a stretch -/
def prev (ws : List Int) (p : Nat) : Int := if p = 0 then gi ws (ws.length - 1) else gi ws (p - 1)
def first (ws : List Int) (p : Nat) : Bool := if (ws.all fun w => w == gi ws 0) then decide (p = 0) else !(prev ws p == gi ws p)
theorem ix_prev (hp : p < ws.length) : ixD h (.tup (ws.map D.int)) (.int ((p : Int) - 1)) = some (.int (prev ws p)) := by
  unfold prev
  by_cases h0 : p = 0
  · subst h0
    rw [if_pos rfl]
    show atI (ws.map D.int) (((0 : Nat) : Int) - 1) = _
    have hl : (ws.map D.int).length = ws.length := List.length_map ..
    unfold atI ixN
    rw [if_neg (by omega), if_pos (by omega), hl]
    show (ws.map D.int)[_]? = _
    rw [show (((0 : Nat) : Int) - 1 + (ws.length : Int)).toNat = ws.length - 1 by omega, List.getElem?_map, List.getElem?_eq_getElem (by omega)]
    simp [gi, List.getD, List.getElem?_eq_getElem (show ws.length - 1 < ws.length by omega)]
  · rw [if_neg h0, show (p : Int) - 1 = ((p - 1 : Nat) : Int) by omega]
    exact ix_tup (by omega)
theorem bools_map {α : Type} {f : α → Bool} : ∀ xs : List α, boolsOf (xs.map fun x => D.bl (f x)) = some (xs.map f)
  | [] => rfl
  | x :: xs => by simp [boolsOf, bools_map xs]
theorem all_map {α : Type} {f : α → Bool} {xs : List α} : biD .all h (.lst (xs.map fun x => D.bl (f x))) = some (.bl (xs.all f)) := by
  show (boolsOf (xs.map fun x => D.bl (f x))).map _ = _
  rw [bools_map]
  simp [List.all_map]
theorem first_ok (hp : p < ws.length) (hl : ws.length ≤ 12) : (W (k + 1)).call "is_first_place" [.tup (ws.map D.int), .int p] h = .ok (.bl (first ws p)) h := by
  have z0 : ixD h (.tup (ws.map D.int)) (.int 0) = some (.int (gi ws 0)) := ix_tup (p := 0) (by omega)
  have hz : ws.length ≤ LINE := by show ws.length ≤ 16777216; omega
  rw [q_is_first_place]
  have e2 : compLoop (turnF (.n 2) (fun _ h => .ok true h) (ev (W k) 55 (.cmp .eq (.v 2) (.ix (.v 0) (.c (.int 0))))) [some (.tup (ws.map D.int)), some (.int p), none]) (ws.map D.int) h = .ok ((ws.map D.int).map fun x => match x with
      | .int i => .bl (i == gi ws 0)
      | d => d) h := comp_map fun x hx => by
    obtain ⟨i, hi, rfl⟩ := List.mem_map.mp hx
    simp [turnF, z0]
  have c := comp_run (G := W k) (n := 55) (m := false) (e := .cmp .eq (.v 2) (.ix (.v 0) (.c (.int 0)))) (t := .n 2) (k := .seq) (as := [(.v 0)]) (i := none) (own := [2]) (env := [some (.tup (ws.map D.int)), some (.int p), none]) (h := h) (ds := [.tup (ws.map D.int)]) (xs := ws.map D.int) rfl rfl (by simpa using hz) e2
  have al : biD .all h (.lst (ws.map fun i => D.bl (i == gi ws 0))) = some (.bl (ws.all fun w => w == gi ws 0)) := all_map
  have mm : ((ws.map D.int).map fun x => match x with
      | .int i => .bl (i == gi ws 0)
      | d => d) = ws.map fun i => D.bl (i == gi ws 0) := by rw [List.map_map]; rfl
  rw [mm] at c
  simp only [i_is_first_place, exs_cons, exs_nil, ex_ife, evT_val, ev_val, ev_bi]
  rw [c]
  simp only [reL_f, Res.bind_ok, al, of_some, truth_bl, Res.sbind_ok]
  unfold first
  cases ws.all fun w => w == gi ws 0 with
  | true =>
    have z : ((p : Int) == 0) = decide (p = 0) := by rw [Bool.eq_iff_iff]; simp
    simp [z]
  | false => simp [ix_prev hp, ix_tup hp]
end
end SI.K15
end
section
set_option Elab.async false
set_option linter.all false
set_option maxRecDepth 100000
set_option maxHeartbeats 1000000
namespace SI.K15
open PySem L2
/-- a loop that looks for a thing -/
theorem for_find {f : D → Nv → Hs → SRes} {g : D → Option D} {I : Nv → Prop} {h : Hs} : ∀ {xs : List D} {env : Nv}, I env → (∀ x ∈ xs, ∀ env, I env → (∀ d, g x = some d → f x env h = .rt d h) ∧ (g x = none → ∃ env', f x env h = .nx env' h ∧ I env')) →
    (∃ d, xs.findSome? g = some d ∧ forLoop f xs env h = .rt d h) ∨ (xs.findSome? g = none ∧ ∃ env', forLoop f xs env h = .nx env' h ∧ I env')
  | [], env, i, _ => .inr ⟨rfl, env, rfl, i⟩
  | x :: xs, env, i, k => by
    obtain ⟨k1, k2⟩ := k x List.mem_cons_self env i
    cases e : g x with
    | some d => exact .inl ⟨d, by simp [e], by unfold forLoop; rw [k1 d e]⟩
    | none =>
      obtain ⟨env', e', i'⟩ := k2 e
      rcases for_find i' fun y hy => k y (List.mem_cons_of_mem _ hy) with ⟨d, h1, h2⟩ | ⟨h1, env2, h2, h3⟩
      · exact .inl ⟨d, by simp [e, h1], by unfold forLoop; rw [e']; exact h2⟩
      · exact .inr ⟨by simp [e, h1], env2, by unfold forLoop; rw [e']; exact h2, h3⟩
/-- the places behind p -/
def behinds (ws : List Int) (p : Nat) : List Nat := (List.range (ws.length - 1)).map fun j => (p + (j + 1)) % ws.length
def stretch (ws : List Int) (p : Nat) : Nat := ((behinds ws p).find? fun q => !(gi ws q == gi ws p)).getD ((p + 1) % ws.length)
theorem rng1 (n : Nat) (h : 1 ≤ n) (h2 : n ≤ 1000) : srcD .rng [.int 1, .int n] = some ((List.range (n - 1)).map fun j => D.int ((j + 1 : Nat) : Int)) := by
  have r1 : rngOk 1 = true := by decide
  have r2 := rng_ok (n := n) h2
  show (if (rngOk 1 && rngOk (n : Int)) = true then some (rngD 1 n) else none) = _
  rw [r1, r2]
  show some (rngD 1 (n : Int)) = _
  unfold rngD
  rw [show ((n : Int) - 1).toNat = n - 1 by omega]
  congr 1
  apply List.map_congr_left
  intro j _
  congr 1
  omega
def nxt (ws : List Int) (p : Nat) : D → Option D := fun x => match x with
  | .int j => if gi ws ((p + j.toNat) % ws.length) = gi ws p then none else some (.int ((p + j.toNat) % ws.length : Nat))
  | _ => none
theorem nxt_at {ws : List Int} {p a : Nat} : nxt ws p (.int ((a + 1 : Nat) : Int)) = if gi ws ((p + (a + 1)) % ws.length) = gi ws p then none else some (.int ((p + (a + 1)) % ws.length : Nat)) := by
  show (if gi ws ((p + ((a + 1 : Nat) : Int).toNat) % ws.length) = gi ws p then none else some (D.int ((p + ((a + 1 : Nat) : Int).toNat) % ws.length : Nat))) = _
  rw [Int.toNat_natCast]
section
variable {k : Nat} {h : Hs} {p q : Nat} {n : Nat} {ws : List Int} {o : Str} {os : List (List Int)} {g : Int}
theorem mod_nn {a b : Nat} (hb : 0 < b) : binA h .mod (.int (a : Int)) (.int (b : Int)) = .ok (.int ((a % b : Nat) : Int)) h := by
  rw [mod_ii (by omega)]
  rfl
theorem add_nn {a b : Nat} : binA h .add (.int (a : Int)) (.int (b : Int)) = .ok (.int ((a + b : Nat) : Int)) h := by
  rw [add_ii]
  rfl
theorem add_n1 {a : Nat} : binA h .add (.int (a : Int)) (.int 1) = .ok (.int ((a + 1 : Nat) : Int)) h := add_nn (b := 1)
theorem len_ws : biD .len h (.tup (ws.map D.int)) = some (.int ws.length) := by
  show some (D.int ((ws.map D.int).length : Nat)) = _
  rw [List.length_map]
theorem stretch_ok (hp : p < ws.length) (hl : ws.length ≤ 12) : (W (k + 1)).call "next_stretch" [.tup (ws.map D.int), .int p] h = .ok (.int (stretch ws p)) h := by
  have h0 : 0 < ws.length := by omega
  rw [q_next_stretch]
  have key := for_find (f := bodyF (W k) 59 (.n 2) [.set (.n 3) (.bin .mod (.bin .add (.v 1) (.v 2)) (.bi .len (.v 0))), .ife (.cmp .ne (.ix (.v 0) (.v 3)) (.ix (.v 0) (.v 1))) [.ret (.v 3)] []])
    (g := nxt ws p) (I := fun env => ∃ x2 x3, env = [some (.tup (ws.map D.int)), some (.int p), x2, x3]) (h := h) (xs := (List.range (ws.length - 1)).map fun j => D.int ((j + 1 : Nat) : Int)) (env := [some (.tup (ws.map D.int)), some (.int p), none, none]) ⟨none, none, rfl⟩
    (fun x hx env ⟨x2, x3, ee⟩ => by
      subst ee
      obtain ⟨j, hj, rfl⟩ := List.mem_map.mp hx
      have hm : (p + (j + 1)) % ws.length < ws.length := Nat.mod_lt _ h0
      have e1 : binA h .add (.int (p : Int)) (.int ((j + 1 : Nat) : Int)) = .ok (.int ((p + (j + 1) : Nat) : Int)) h := add_nn
      have e2 : binA h .mod (.int ((p + (j + 1) : Nat) : Int)) (.int (ws.length : Int)) = .ok (.int (((p + (j + 1)) % ws.length : Nat) : Int)) h := mod_nn h0
      have e3 : ixD h (.tup (ws.map D.int)) (.int (((p + (j + 1)) % ws.length : Nat) : Int)) = some (.int (gi ws ((p + (j + 1)) % ws.length))) := ix_tup hm
      have e4 : ixD h (.tup (ws.map D.int)) (.int (p : Int)) = some (.int (gi ws p)) := ix_tup hp
      generalize hr : (p + (j + 1)) % ws.length = r at *
      have hg : nxt ws p (.int ((j + 1 : Nat) : Int)) = (if gi ws r = gi ws p then none else some (D.int (r : Int))) := by rw [nxt_at, hr]
      rw [hg]
      have run : bodyF (W k) 59 (.n 2) [.set (.n 3) (.bin .mod (.bin .add (.v 1) (.v 2)) (.bi .len (.v 0))), .ife (.cmp .ne (.ix (.v 0) (.v 3)) (.ix (.v 0) (.v 1))) [.ret (.v 3)] []] (.int ((j + 1 : Nat) : Int)) [some (.tup (ws.map D.int)), some (.int p), x2, x3] h =
          (if gi ws r = gi ws p then .nx [some (.tup (ws.map D.int)), some (.int p), some (.int ((j + 1 : Nat) : Int)), some (.int r)] h else .rt (.int r) h) := by
        simp only [bodyF, asg_n, List.set_cons_succ, List.set_cons_zero, exs_cons, exs_nil, ex_set, ev_bin, ev_v, get_succ, get_zero, of_some, Res.bind_ok, ev_bi, len_ws, Res.sbind_ok, e1, e2, then_nx, ex_ife, evT_cmp, ev_cmp, ev_ix, e3, e4, ne_ii, Option.map_some, truth_bl]
        by_cases hq : gi ws r = gi ws p
        · simp [hq]
        · simp [hq]
      by_cases hq : gi ws r = gi ws p
      · rw [if_pos hq] at run ⊢
        exact ⟨fun d hd => (nomatch hd), fun _ => ⟨_, run, _, _, rfl⟩⟩
      · rw [if_neg hq] at run ⊢
        exact ⟨fun d hd => by cases hd; exact run, fun hd => (nomatch hd)⟩)
  have find : ∀ l : List Nat, (l.map fun j => D.int ((j + 1 : Nat) : Int)).findSome? (nxt ws p) = ((l.map fun j => (p + (j + 1)) % ws.length).find? fun q => !(gi ws q == gi ws p)).map fun (q : Nat) => D.int q := fun l => by
    induction l with
    | nil => rfl
    | cons a l ih =>
      rw [List.map_cons, List.map_cons, List.findSome?_cons, List.find?_cons, nxt_at]
      by_cases hq : gi ws ((p + (a + 1)) % ws.length) = gi ws p
      · rw [if_pos hq]
        simp only [hq, beq_self_eq_true, Bool.not_true]
        exact ih
      · have hb : (gi ws ((p + (a + 1)) % ws.length) == gi ws p) = false := by simpa using hq
        rw [if_neg hq]
        simp only [hb, Bool.not_false]
        rfl
  have lrun : ∀ r, forLoop (bodyF (W k) 59 (.n 2) [.set (.n 3) (.bin .mod (.bin .add (.v 1) (.v 2)) (.bi .len (.v 0))), .ife (.cmp .ne (.ix (.v 0) (.v 3)) (.ix (.v 0) (.v 1))) [.ret (.v 3)] []]) ((List.range (ws.length - 1)).map fun j => D.int ((j + 1 : Nat) : Int)) [some (.tup (ws.map D.int)), some (.int p), none, none] h = r →
      ex (W k) 60 (.loop (.n 2) .rng [(.c (.int 1)), (.bi .len (.v 0))] [.set (.n 3) (.bin .mod (.bin .add (.v 1) (.v 2)) (.bi .len (.v 0))), .ife (.cmp .ne (.ix (.v 0) (.v 3)) (.ix (.v 0) (.v 1))) [.ret (.v 3)] []]) [some (.tup (ws.map D.int)), some (.int p), none, none] h = r := fun r hr =>
    loop_run (h1 := h) (ds := [.int 1, .int ws.length]) (by simp [len_ws]) (rng1 ws.length h0 (by omega)) hr
  have sd : stretch ws p = (((List.range (ws.length - 1)).map fun j => (p + (j + 1)) % ws.length).find? fun q => !(gi ws q == gi ws p)).getD ((p + 1) % ws.length) := rfl
  rw [sd]
  rw [find] at key
  show fin (exs (ex (W k) 60) i_next_stretch _ h) = _
  rcases key with ⟨d, h1, h2⟩ | ⟨h1, env', h2, x2, x3, rfl⟩
  · obtain ⟨a, ha, rfl⟩ := Option.map_eq_some_iff.mp h1
    rw [ha]
    simp only [i_next_stretch, exs_cons]
    rw [lrun _ h2]
    rfl
  · have hn := Option.map_eq_none_iff.mp h1
    rw [hn]
    simp only [i_next_stretch, exs_cons]
    rw [lrun _ h2]
    simp only [then_nx, exs_cons, exs_nil, ex_ret, ev_bin, ev_v, ev_c, get_succ, get_zero, of_some, Res.bind_ok, ev_bi, len_ws, add_n1, mod_nn h0, Res.sbind_ok, then_rt, fin_rt]
    rfl
end
end SI.K15
end
section
set_option Elab.async false
set_option linter.all false
set_option maxRecDepth 100000
set_option maxHeartbeats 1000000
namespace SI.K15
open PySem L2
def gbit (bs : List Int) (i : Int) : Int := bs.getD i.toNat 0
def lot (os : List (List Int)) (i : Int) : List Int := os.getD i.toNat []
def fitsL (os : List (List Int)) (bs : List Int) (own : Int) : List Int := (lot os own).filter fun j => gbit bs j == 0
def givP (n : Nat) (ws : List Int) (os : List (List Int)) (p : Nat) (bs : List Int) : Int :=
  if gi ws p = n ∨ first ws p = true ∨ gbit bs (gi ws p) = 0 then gi ws p else ((fitsL os bs (gi ws p)).head?).getD n
section
variable {k : Nat} {h : Hs} {p q : Nat} {n : Nat} {ws bs : List Int} {o : Str} {os : List (List Int)} {g : Int}
theorem tr_nil : truth h (.lst []) = some false := rfl
theorem tr_cons {x : D} {l : List D} : truth h (.lst (x :: l)) = some true := rfl
theorem ix_0l {x : D} {r : List D} : ixD h (.lst (x :: r)) (.int 0) = some x := by
  show atI (x :: r) ((0 : Nat) : Int) = _
  exact atI_nat rfl
theorem ix_bit {i : Int} (h0 : 0 ≤ i) (h1 : i < n) (hb : bs.length = n) : ixD h (.tup (bs.map D.int)) (.int i) = some (.int (gbit bs i)) := by
  obtain ⟨j, rfl⟩ := Int.eq_ofNat_of_zero_le h0
  have := ix_tup (h := h) (ws := bs) (p := j) (by omega)
  rw [this]
  simp [gi, gbit]
theorem ix_lot {i : Int} (h0 : 0 ≤ i) (h1 : i < n) (hb : os.length = n) : ixD h (ovD os) (.int i) = some (.tup ((lot os i).map D.int)) := by
  obtain ⟨j, rfl⟩ := Int.eq_ofNat_of_zero_le h0
  show atI (os.map fun l => D.tup (l.map D.int)) (j : Int) = _
  refine atI_nat ?_
  rw [List.getElem?_map, List.getElem?_eq_getElem (show j < os.length by omega)]
  simp [lot, List.getD, List.getElem?_eq_getElem (show j < os.length by omega)]
theorem lot_sub {i : Int} (hs : ∀ l ∈ os, l.Sublist (ri n)) : (lot os i).Sublist (ri n) := by
  unfold lot
  by_cases hj : i.toNat < os.length
  · simp only [List.getD, List.getElem?_eq_getElem hj, Option.getD_some]
    exact hs _ (List.getElem_mem hj)
  · simp [List.getD, List.getElem?_eq_none (show os.length ≤ i.toNat by omega)]
theorem mem_ri {i : Int} (hi : i ∈ ri n) : 0 ≤ i ∧ i < n := by
  obtain ⟨j, hj, rfl⟩ := List.mem_map.mp hi
  have := List.mem_range.mp hj
  omega
theorem gi_bd (P : PlOk n ws o os) (hp : p < ws.length) : 0 ≤ gi ws p ∧ gi ws p ≤ n := P.ws _ (gi_mem hp)
theorem fits_ok {own : Int} {x0 x1 x2 : Option D} {m : Nat} (hs : ∀ l ∈ os, l.Sublist (ri n)) (h3 : n ≤ 3) (hb : bs.length = n) : compLoop (turnF (.n 5) (ifsF (W k) (m + 8) (some (.cmp .eq (.ix (.v 2) (.v 5)) (.c (.int 0))))) (ev (W k) (m + 8) (.v 5)) [x0, x1, some (.tup (bs.map D.int)), some (.int own), x2, none]) ((lot os own).map D.int) h = .ok ((fitsL os bs own).map D.int) h := by
  have c := comp_pure (f := turnF (.n 5) (ifsF (W k) (m + 8) (some (.cmp .eq (.ix (.v 2) (.v 5)) (.c (.int 0))))) (ev (W k) (m + 8) (.v 5)) [x0, x1, some (.tup (bs.map D.int)), some (.int own), x2, none]) (g := fun x => match x with
      | .int j => if gbit bs j = 0 then some (.int j) else none
      | _ => none) (h := h) (xs := (lot os own).map D.int) fun x hx => by
    obtain ⟨j, hj, rfl⟩ := List.mem_map.mp hx
    have hb1 := mem_ri ((lot_sub (i := own) hs).subset hj)
    have e := ix_bit (h := h) hb1.1 hb1.2 hb
    by_cases hz : gbit bs j = 0 <;> simp [turnF, ifsF, e, hz]
  rw [c]
  congr 1
  unfold fitsL
  generalize lot os own = l
  induction l with
  | nil => rfl
  | cons a l ih =>
    rw [List.map_cons, List.filterMap_cons, List.filter_cons]
    by_cases hz : gbit bs a = 0
    · simp only [hz, if_true, beq_self_eq_true, List.map_cons, ih]
    · have hb : (gbit bs a == 0) = false := by simpa using hz
      simp only [hz, hb, if_false, ih]
      rfl
theorem given_ok (hq : h[q]? = some (pl n ws "upward" os)) (hn : os.length = n) (P : PlOk n ws "upward" os) (hs : ∀ l ∈ os, l.Sublist (ri n)) (hp : p < ws.length) (hb : bs.length = n) : (W (k + 2)).meth "Planner" "given" [.ptr q, .int p, .tup (bs.map D.int)] h = .ok (.int (givP n ws os p bs)) h := by
  rw [q_Planner_given]
  have bd := gi_bd P hp
  have fk : (wr txt.pg (k + 1)).call "is_first_place" [.tup (ws.map D.int), .int p] h = .ok (.bl (first ws p)) h := first_ok hp P.l12
  unfold givP
  by_cases c1 : gi ws p = n
  · simp [i_Planner_given, fld_wheel hq, fld_many hq, ix_tup hp, c1]
  · have c1' : (gi ws p == (n : Int)) = false := by simpa using c1
    have lt : gi ws p < n := by omega
    have eb := ix_bit (h := h) bd.1 lt hb
    cases c2 : first ws p with
    | true => simp [i_Planner_given, fld_wheel hq, fld_many hq, ix_tup hp, c1', fk, c2]
    | false =>
      by_cases c3 : gbit bs (gi ws p) = 0
      · simp [i_Planner_given, fld_wheel hq, fld_many hq, ix_tup hp, c1', fk, c2, eb, c3]
      · have c3' : (gbit bs (gi ws p) == 0) = false := by simpa using c3
        have hz : (lot os (gi ws p)).length ≤ LINE := by
          have := (lot_sub (i := gi ws p) hs).length_le
          rw [ri_len] at this
          have h3 := P.n3
          show _ ≤ 16777216
          omega
        have c := comp_run (G := W (k + 1)) (n := 58) (m := false) (e := .v 5) (t := .n 5) (k := .seq) (as := [(.ix (.fld (.v 0) "over") (.v 3))]) (i := some (.cmp .eq (.ix (.v 2) (.v 5)) (.c (.int 0)))) (own := [5]) (env := [some (.ptr q), some (.int p), some (.tup (bs.map D.int)), some (.int (gi ws p)), none, none]) (h := h) (h1 := h) (ds := [.tup ((lot os (gi ws p)).map D.int)]) (xs := (lot os (gi ws p)).map D.int)
          (by simp [fld_over hq, ix_lot bd.1 lt hn]) rfl (by simpa using hz) (fits_ok (m := 50) hs P.n3 hb)
        simp [i_Planner_given, fld_wheel hq, fld_many hq, ix_tup hp, c1', fk, c2, eb, c3', c1, c3]
        rw [c]
        cases hf : fitsL os bs (gi ws p) with
        | nil => simp [fld_many hq, tr_nil]
        | cons a l => simp [ix_0l, tr_cons]
end
end SI.K15
end
section
set_option Elab.async false
set_option linter.all false
set_option maxRecDepth 100000
set_option maxHeartbeats 1000000
namespace SI.K15
open PySem L2
def rowD (o : Str) (bs : List Int) : D := if o = "slots" then .tup [] else .tup (bs.map D.int)
def nextP (n : Nat) (ws : List Int) (o : Str) (p : Nat) (bs : List Int) : Nat := if o = "early" ∧ gi ws p < n ∧ gbit bs (gi ws p) = 1 then stretch ws p else (p + 1) % ws.length
def goP (n : Nat) (ws : List Int) (o : Str) (os : List (List Int)) (p : Nat) (bs : List Int) : Int := if o = "upward" then givP n ws os p bs else gi ws p
section
variable {k : Nat} {h : Hs} {p q : Nat} {n : Nat} {ws bs : List Int} {o : Str} {os : List (List Int)} {g : Int}
theorem stretch_lt (h0 : 0 < ws.length) : stretch ws p < ws.length := by
  unfold stretch
  cases e : (behinds ws p).find? fun q => !(gi ws q == gi ws p) with
  | none => exact Nat.mod_lt _ h0
  | some r =>
    have := List.mem_of_find?_eq_some e
    obtain ⟨j, _, rfl⟩ := List.mem_map.mp this
    exact Nat.mod_lt _ h0
theorem nextP_lt (h0 : 0 < ws.length) : nextP n ws o p bs < ws.length := by
  unfold nextP
  split
  · exact stretch_lt h0
  · exact Nat.mod_lt _ h0
theorem step_ok (P : PlOk n ws o os) (hq : h[q]? = some (pl n ws o os)) (hp : p < ws.length) (hb : bs.length = n) : (W (k + 3)).meth "Planner" "step" [.ptr q, stD o p g, rowD o bs] h = .ok (stD o (nextP n ws o p bs) (goP n ws o os (nextP n ws o p bs) bs)) h := by
  rw [q_Planner_step]
  have h0 : 0 < ws.length := by omega
  have bd := gi_bd P hp
  have m1 : binA h .mod (.int ((p : Int) + 1)) (.int (ws.length : Int)) = .ok (.int (((p + 1) % ws.length : Nat) : Int)) h := mod_nn h0
  have nx : (p + 1) % ws.length < ws.length := Nat.mod_lt _ h0
  rcases wcases P with ⟨rfl, hn, _⟩ | ⟨rfl, hn, _⟩ | ⟨rfl, hol, hs⟩
  · have r0 : rowD "slots" bs = .tup [] := if_pos rfl
    have n0 : nextP n ws "slots" p bs = (p + 1) % ws.length := if_neg (fun x => absurd x.1 (by decide +kernel))
    rw [st_of hn, st_of hn, r0, n0]
    generalize (p + 1) % ws.length = r at *
    simp [i_Planner_step, fld_wheel hq, fld_option hq, ix_0, ix_tup hp, len_ws, m1, eq_w7, eq_w1]
  · have r0 : rowD "early" bs = .tup (bs.map D.int) := if_neg (by decide +kernel)
    rw [st_of hn, st_of hn, r0]
    unfold nextP
    generalize (p + 1) % ws.length = r at *
    by_cases c1 : gi ws p < n
    · have eb := ix_bit (h := h) bd.1 c1 hb
      by_cases c2 : gbit bs (gi ws p) = 1
      · have sk : (wr txt.pg (k + 2)).call "next_stretch" [.tup (ws.map D.int), .int p] h = .ok (.int (stretch ws p)) h := stretch_ok hp P.l12
        simp [i_Planner_step, fld_wheel hq, fld_option hq, fld_many hq, ix_0, ix_tup hp, len_ws, m1, eq_w8, eq_w2, c1, eb, c2, sk]
      · have c2' : (gbit bs (gi ws p) == 1) = false := by simpa using c2
        simp [i_Planner_step, fld_wheel hq, fld_option hq, fld_many hq, ix_0, ix_tup hp, len_ws, m1, eq_w8, eq_w2, c1, eb, c2, c2']
    · simp [i_Planner_step, fld_wheel hq, fld_option hq, fld_many hq, ix_0, ix_tup hp, len_ws, m1, eq_w8, eq_w2, c1]
  · have r0 : rowD "upward" bs = .tup (bs.map D.int) := if_neg (by decide +kernel)
    have n0 : nextP n ws "upward" p bs = (p + 1) % ws.length := if_neg (fun x => absurd x.1 (by decide +kernel))
    have g0 : goP n ws "upward" os ((p + 1) % ws.length) bs = givP n ws os ((p + 1) % ws.length) bs := if_pos rfl
    have gk : (wr txt.pg (k + 2)).meth "Planner" "given" [.ptr q, .int ((p + 1) % ws.length : Nat), .tup (bs.map D.int)] h = .ok (.int (givP n ws os ((p + 1) % ws.length) bs)) h := given_ok hq hol P hs (Nat.mod_lt _ h0) hb
    have cl : clsOf (wr txt.pg (k + 2)) h (.ptr q) "given" = some ("Planner" : Str) := cls_of hq (by kernel_rfl)
    rw [st_up, st_up, r0, n0, g0]
    generalize (p + 1) % ws.length = r at *
    simp [i_Planner_step, fld_wheel hq, fld_option hq, ix_0, ix_tup hp, len_ws, m1, eq_w9, eq_w3, cl, gk]
end
end SI.K15
end
section
set_option Elab.async false
set_option linter.all false
set_option maxRecDepth 100000
set_option maxHeartbeats 1000000
namespace SI.K15
open PySem L2
def Bits (n : Nat) (bs : List Int) : Prop := bs.length = n ∧ ∀ b ∈ bs, 0 ≤ b ∧ b < 2
theorem zip_twos : ∀ bs : List Int, zipD (bs.map D.int) (List.replicate bs.length (.int 2)) = bs.map fun b => .tup [.int b, .int 2]
  | [] => rfl
  | b :: bs => by
    rw [List.length_cons, List.replicate_succ, List.map_cons, List.map_cons]
    unfold zipD
    rw [zip_twos bs]
section
variable {k : Nat} {h : Hs} {p q : Nat} {n : Nat} {ws bs : List Int} {o : Str} {os : List (List Int)} {g : Int}
theorem len_tup {xs : List D} : biD .len h (.tup xs) = some (.int xs.length) := rfl
theorem isT {G : Wr} {xs : List D} : isAny G h (.tup xs) [.inl "tuple"] = some true := rfl
theorem row_in_ok (hn : n ≤ 3) (B : Bits n bs) : (W (k + 3)).call "is_row_in" [twos n, .tup (bs.map D.int)] h = .ok (.bl true) h := by
  rw [q_is_row_in]
  obtain ⟨rfl, hb⟩ := B
  have c := comp_run (G := W (k + 2)) (n := 57) (m := false) (e := .and (.call "is_count" [(.v 2)]) (.cmp .lt (.v 2) (.v 3))) (t := .t [(.n 2), (.n 3)]) (k := .zip) (as := [(.v 1), (.v 0)]) (i := none) (own := [2, 3]) (env := [some (twos bs.length), some (.tup (bs.map D.int)), none, none]) (h := h) (h1 := h) (h2 := h) (ds := [.tup (bs.map D.int), twos bs.length]) (xs := bs.map fun b => .tup [.int b, .int 2]) (ys := List.replicate (bs.map fun b => D.tup [.int b, .int 2]).length (.bl true))
    rfl (by show some (zipD _ _) = _; rw [zip_twos]) (by rw [List.length_map]; show _ ≤ 16777216; omega) (comp_true fun x hx => by
      obtain ⟨b, hm, rfl⟩ := List.mem_map.mp hx
      have hb1 := hb b hm
      have a1 : ∀ env : Nv, asg (.t [(.n 2), (.n 3)]) (.tup [.int b, .int 2]) env = some ((env.set 2 (some (.int b))).set 3 (some (.int 2))) := fun _ => rfl
      have ck : (wr txt.pg (k + 2)).call "is_count" [.int b] h = .ok (.bl (decide (0 ≤ b))) h := is_count_ok
      simp [turnF, a1, ck, hb1.1, hb1.2])
  have lt : biD .len h (twos bs.length) = some (.int bs.length) := by unfold twos; rw [len_tup, List.length_replicate]
  simp [i_is_row_in, isT, len_ws, lt]
  rw [c]
  simp [all_bi]
theorem row_in_nil : (W (k + 3)).call "is_row_in" [.tup [], .tup []] h = .ok (.bl true) h := rfl
theorem ins_row (P : PlOk n ws o os) (B : Bits n bs) : (W (k + 3)).call "is_row_in" [insD n o, rowD o bs] h = .ok (.bl true) h := by
  unfold insD rowD
  by_cases ho : o = "slots"
  · rw [if_pos ho, if_pos ho]; exact row_in_nil
  · rw [if_neg ho, if_neg ho]; exact row_in_ok P.n3 B
theorem need_row_of {a b : D} (e : (W (k + 3)).call "is_row_in" [a, b] h = .ok (.bl true) h) : (W (k + 4)).call "need_row" [a, b] h = .ok .non h := by
  rw [q_need_row]
  have e : (wr txt.pg (k + 3)).call "is_row_in" [a, b] h = .ok (.bl true) h := e
  simp [i_need_row, e, fin]
theorem need_box_ok (hq : h[q]? = some (pl n ws o os)) : (W (k + 3)).call "need_box" [.ptr q] h = .ok .non h := by
  have e : (wr txt.pg (k + 2)).call "is_box" [.ptr q] h = .ok (.bl true) h := by
    rw [q_is_box]
    have t : isAny (wr txt.pg (k + 1)) h (.ptr q) [.inr "Box"] = some true := by
      have h1 : isOne (wr txt.pg (k + 1)) h (.ptr q) (.inr "Box") = some true := by
        unfold isOne
        simp only [hq, pl]
        rfl
      unfold isAny
      rw [h1]
    simp [i_is_box, t]
  rw [q_need_box]
  simp [i_need_box, e, fin]
theorem need_run_ok (P : PlOk n ws o os) (hq : h[q]? = some (pl n ws o os)) {rs : List (List Int)} (hr : ∀ bs ∈ rs, Bits n bs) : (W (k + 5)).call "need_run" [.ptr q, .tup [], .lst (rs.map (rowD o))] h = .ok .non h := by
  rw [q_need_run]
  have e1 : (wr txt.pg (k + 4)).call "need_box" [.ptr q] h = .ok .non h := need_box_ok (k := k + 1) hq
  have e2 : (wr txt.pg (k + 4)).call "need_row" [.tup [], .tup []] h = .ok .non h := need_row_of row_in_nil
  obtain ⟨env', h', f, x, rfl, rfl⟩ := for_inv (f := bodyF (W (k + 4)) 59 (.n 3) [.ex (.call "need_row" [(.fld (.v 0) "ins"), (.v 3)])]) (I := fun _ env h' => ∃ x, env = [some (.ptr q), some (.tup []), some (.lst (rs.map (rowD o))), x] ∧ h' = h) (xs := rs.map (rowD o)) (env := [some (.ptr q), some (.tup []), some (.lst (rs.map (rowD o))), none]) (h := h) ⟨none, rfl, rfl⟩
    fun x hx _ env h' i => by
      obtain ⟨y, rfl, rfl⟩ := i
      obtain ⟨bs, hm, rfl⟩ := List.mem_map.mp hx
      have e3 : (wr txt.pg (k + 4)).call "need_row" [insD n o, rowD o bs] h' = .ok .non h' := need_row_of (ins_row P (hr bs hm))
      refine ⟨_, _, ?_, some (rowD o bs), rfl, rfl⟩
      simp [bodyF, fld_ins hq, e3]
  have l := loop_run (G := W (k + 4)) (n := 59) (t := .n 3) (k := .seq) (as := [(.v 2)]) (b := [.ex (.call "need_row" [(.fld (.v 0) "ins"), (.v 3)])]) (h1 := h') (ds := [.lst (rs.map (rowD o))]) (xs := rs.map (rowD o)) rfl rfl f
  simp [i_need_run, fld_starts hq, e1, e2, -ex_loop]
  rw [l]
  rfl
end
end SI.K15
end
section
set_option Elab.async false
set_option linter.all false
set_option maxRecDepth 100000
set_option maxHeartbeats 1000000
namespace SI.K15
open PySem L2
/-- who goes, tick by tick, after the first -/
def goersF (n : Nat) (ws : List Int) (o : Str) (os : List (List Int)) : Nat → List (List Int) → List Int
  | _, [] => []
  | p, bs :: r => goP n ws o os (nextP n ws o p bs) bs :: goersF n ws o os (nextP n ws o p bs) r
def goers (n : Nat) (ws : List Int) (o : Str) (os : List (List Int)) (rs : List (List Int)) : List Int := gi ws 0 :: goersF n ws o os 0 rs
section
variable {k : Nat} {h : Hs} {p q : Nat} {n : Nat} {ws bs : List Int} {o : Str} {os : List (List Int)} {g : Int}
theorem get_app {c d : Cell} (hq : h[q]? = some c) : (h ++ [d])[q]? = some c := by
  have : q < h.length := by
    rw [List.getElem?_eq_some_iff] at hq
    exact hq.1
  rw [List.getElem?_append_left this]
  exact hq
theorem get_last {d : Cell} : (h ++ [d])[h.length]? = some d := by
  rw [List.getElem?_append_right (Nat.le_refl _), Nat.sub_self]; rfl
theorem app_ok {xs : List D} : meOk .append (h ++ [.lst xs]) (.ptr h.length) = true := by
  unfold meOk
  simp only [get_last]
  rfl
theorem app_d {xs : List D} {y : D} (hl : xs.length < 1000) : meD .append (h ++ [.lst xs]) (.ptr h.length) [y] = .ok .non (h ++ [.lst (xs ++ [y])]) := by
  have e : meC .append (.lst xs) [y] = some (.non, .lst (xs ++ [y])) := by
    show (if xs.length < LINE then some (D.non, Cell.lst (xs ++ [y])) else none) = _
    have z : xs.length < LINE := by show _ < 16777216; omega
    rw [if_pos z]
  unfold meD
  simp only [get_last, e]
  rw [List.set_append_right _ _ (Nat.le_refl _), Nat.sub_self]
  rfl
theorem tup_d {xs : List D} : biD .tuple (h ++ [.lst xs]) (.ptr h.length) = some (.tup xs) := by
  simp [biD, tupD, un, get_last]
abbrev runB : List IS := [.set (.n 3) (.meth (.v 0) "step" [(.v 3), (.v 5)]), .ex (.bm .append (.v 4) [(.meth (.v 0) "shown" [(.v 3)])])]
theorem goP_of (ho : o ≠ "upward") : goP n ws o os p bs = gi ws p := if_neg ho
theorem run_loop (P : PlOk n ws o os) (hq : h[q]? = some (pl n ws o os)) {r1 : D} : ∀ (rs : List (List Int)) (p : Nat) (g : Int) (done : List Int) (x : Option D), p < ws.length → (∀ bs ∈ rs, Bits n bs) → done.length + rs.length < 1000 →
    ∃ s x', forLoop (bodyF (W (k + 5)) 59 (.n 5) runB) (rs.map (rowD o)) [some (.ptr q), some (.tup []), some r1, some (stD o p g), some (.ptr h.length), x] (h ++ [.lst (done.map (hot n))]) =
      .nx [some (.ptr q), some (.tup []), some r1, some s, some (.ptr h.length), x'] (h ++ [.lst ((done ++ goersF n ws o os p rs).map (hot n))])
  | [], p, g, done, x, hp, hb, hl => ⟨_, _, by simp [forLoop, goersF]; exact ⟨rfl, rfl⟩⟩
  | bs :: rs, p, g, done, x, hp, hb, hl => by
    have hp' : nextP n ws o p bs < ws.length := nextP_lt (by omega)
    obtain ⟨s, x', ih⟩ := run_loop P hq (r1 := r1) rs (nextP n ws o p bs) (goP n ws o os (nextP n ws o p bs) bs) (done ++ [goP n ws o os (nextP n ws o p bs) bs]) (some (rowD o bs)) hp' (fun b m => hb b (List.mem_cons_of_mem _ m)) (by rw [List.length_append]; simp at hl ⊢; omega)
    refine ⟨s, x', ?_⟩
    have hq' : ∀ c : Cell, (h ++ [c])[q]? = some (pl n ws o os) := fun c => get_app hq
    have B := hb bs List.mem_cons_self
    have s1 : (wr txt.pg (k + 5)).meth "Planner" "step" [.ptr q, stD o p g, rowD o bs] (h ++ [.lst (done.map (hot n))]) = .ok _ _ := step_ok (k := k + 2) P (hq' _) hp B.1
    have c1 : clsOf (wr txt.pg (k + 5)) (h ++ [.lst (done.map (hot n))]) (.ptr q) "step" = some ("Planner" : Str) := cls_of (hq' _) (by kernel_rfl)
    have c2 : clsOf (wr txt.pg (k + 5)) (h ++ [.lst (done.map (hot n))]) (.ptr q) "shown" = some ("Planner" : Str) := cls_of (hq' _) (by kernel_rfl)
    have s2 : (wr txt.pg (k + 5)).meth "Planner" "shown" [.ptr q, stD o (nextP n ws o p bs) (goP n ws o os (nextP n ws o p bs) bs)] (h ++ [.lst (done.map (hot n))]) = .ok _ _ := shown_ok (k := k + 2) P (hq' _) hp' fun ho => goP_of ho
    have b1 : bodyF (W (k + 5)) 59 (.n 5) runB (rowD o bs) [some (.ptr q), some (.tup []), some r1, some (stD o p g), some (.ptr h.length), x] (h ++ [.lst (done.map (hot n))]) =
        .nx [some (.ptr q), some (.tup []), some r1, some (stD o (nextP n ws o p bs) (goP n ws o os (nextP n ws o p bs) bs)), some (.ptr h.length), some (rowD o bs)] (h ++ [.lst ((done ++ [goP n ws o os (nextP n ws o p bs) bs]).map (hot n))]) := by
      have ap : ∀ y, meD .append (h ++ [.lst (done.map (hot n))]) (.ptr h.length) [y] = .ok .non (h ++ [.lst (done.map (hot n) ++ [y])]) := fun y => app_d (by rw [List.length_map]; omega)
      simp [bodyF, runB, c1, s1, c2, s2, app_ok, ap]
    rw [List.map_cons]
    unfold forLoop
    rw [b1]
    have ee : done ++ goersF n ws o os p (bs :: rs) = done ++ [goP n ws o os (nextP n ws o p bs) bs] ++ goersF n ws o os (nextP n ws o p bs) rs := by rw [List.append_assoc]; rfl
    rw [ee]
    exact ih
theorem run_box_ok (P : PlOk n ws o os) (hq : h[q]? = some (pl n ws o os)) {rs : List (List Int)} (hr : ∀ bs ∈ rs, Bits n bs) (hl : rs.length ≤ 900) : (W (k + 6)).call "run_box" [.ptr q, .tup [], .lst (rs.map (rowD o))] h = .ok (.tup ((goers n ws o os rs).map (hot n))) (h ++ [.lst ((goers n ws o os rs).map (hot n))]) := by
  have h0 : 0 < ws.length := List.length_pos_iff.mpr P.ne
  rw [q_run_box]
  have e1 : (wr txt.pg (k + 5)).call "need_run" [.ptr q, .tup [], .lst (rs.map (rowD o))] h = .ok .non h := need_run_ok P hq hr
  have c1 : clsOf (wr txt.pg (k + 5)) h (.ptr q) "begin" = some ("Planner" : Str) := cls_of hq (by kernel_rfl)
  have c2 : clsOf (wr txt.pg (k + 5)) h (.ptr q) "shown" = some ("Planner" : Str) := cls_of hq (by kernel_rfl)
  have s1 : (wr txt.pg (k + 5)).meth "Planner" "begin" [.ptr q, .tup []] h = .ok (stD o 0 (gi ws 0)) h := begin_ok (k := k + 3) P hq
  have s2 : (wr txt.pg (k + 5)).meth "Planner" "shown" [.ptr q, stD o 0 (gi ws 0)] h = .ok (hot n (gi ws 0)) h := shown_ok (k := k + 2) P hq h0 fun _ => rfl
  obtain ⟨s, x', f⟩ := run_loop (k := k) P hq (r1 := .lst (rs.map (rowD o))) rs 0 (gi ws 0) [gi ws 0] none h0 hr (by simp; omega)
  have l := loop_run (G := W (k + 5)) (n := 59) (t := .n 5) (k := .seq) (as := [(.v 2)]) (b := runB) (h1 := h ++ [.lst ([gi ws 0].map (hot n))]) (ds := [.lst (rs.map (rowD o))]) (xs := rs.map (rowD o)) rfl rfl f
  simp [i_run_box, e1, c1, s1, c2, s2, -ex_loop]
  rw [List.map_singleton] at l
  rw [l]
  simp [tup_d, goers]
end
end SI.K15
end
section
set_option Elab.async false
set_option linter.all false
set_option maxRecDepth 100000
set_option maxHeartbeats 1000000
namespace SI.K15
open PySem L2
theorem goods_ints : ∀ {l : List Int}, (∀ x ∈ l, 0 ≤ x ∧ x < 10) → goods (l.map PyData.int) = true
  | [], _ => rfl
  | x :: l, hx => by
    rw [List.map_cons]
    unfold goods
    rw [goods_ints fun y hy => hx y (List.mem_cons_of_mem _ hy)]
    have := hx x List.mem_cons_self
    simp [good, this]
theorem sizs_ints : ∀ l : List Int, sizs (l.map PyData.int) = l.length
  | [] => rfl
  | x :: l => by
    rw [List.map_cons]
    unfold sizs
    rw [sizs_ints l]
    simp [siz]
    omega
theorem py_ints (l : List Int) : py (.lst (l.map D.int)) = some (.list (l.map PyData.int)) := by
  show (pys (l.map D.int)).map _ = _
  rw [pys_ints]; rfl
theorem shaped_ints {l : List Int} (hx : ∀ x ∈ l, 0 ≤ x ∧ x < 10) (hl : l.length ≤ 50) : SeqAt.shaped (.list (l.map PyData.int)) = true := by
  have g : good (.list (l.map PyData.int)) = true := goods_ints hx
  refine shaped_of g ?_
  have := (good_ok _ g).2.2.2.2
  have e : siz (.list (l.map PyData.int)) = l.length + 1 := by show sizs _ + 1 = _; rw [sizs_ints]
  omega
theorem eq_nil {h : Hs} {l : List Int} (hx : ∀ x ∈ l, 0 ≤ x ∧ x < 10) (hl : l.length ≤ 50) : cmpD h .eq (.lst (l.map D.int)) (.lst []) = some l.isEmpty := by
  show eqD h (.lst (l.map D.int)) (.lst []) = some l.isEmpty
  rw [eqD_py (py_ints l) (show py (.lst []) = some (.list []) from rfl) (shaped_ints hx hl) (shaped_ints (l := []) (fun _ hx => nomatch hx) (by decide))]
  cases l <;> rfl
section
variable {k : Nat} {h : Hs} {p q : Nat} {n : Nat} {ws bs : List Int} {o : Str} {os : List (List Int)} {g : Int}
theorem filter_d {f : Int → Bool} : ∀ l : List Int, (l.map D.int).filterMap (fun x => match x with
      | .int j => if f j = true then some (D.int j) else none
      | _ => none) = (l.filter f).map D.int
  | [] => rfl
  | a :: l => by
    rw [List.map_cons, List.filterMap_cons, List.filter_cons]
    cases hz : f a with
    | true => simp [filter_d l, hz]
    | false => simp [filter_d l, hz]
theorem law_first_ok (P : PlOk n ws o os) (hp : p < ws.length) : (W (k + 1)).call "_law_is_first" [.tup (ws.map D.int), .int p] h = .ok (.bl (first ws p)) h := by
  have hl := P.l12
  have n3 := P.n3
  have z0 : ixD h (.tup (ws.map D.int)) (.int 0) = some (.int (gi ws 0)) := ix_tup (p := 0) (by omega)
  rw [q_l_is_first]
  have c := comp_run (G := W k) (n := 56) (m := false) (e := .v 2) (t := .n 2) (k := .seq) (as := [(.v 0)]) (i := some (.cmp .ne (.v 2) (.ix (.v 0) (.c (.int 0))))) (own := [2]) (env := [some (.tup (ws.map D.int)), some (.int p), none]) (h := h) (h1 := h) (h2 := h) (ds := [.tup (ws.map D.int)]) (xs := ws.map D.int) (ys := (ws.filter fun w => !(w == gi ws 0)).map D.int) rfl rfl (by rw [List.length_map]; show _ ≤ 16777216; omega) (by
    rw [← filter_d, comp_pure]
    intro x hx
    obtain ⟨j, hj, rfl⟩ := List.mem_map.mp hx
    cases hz : j == gi ws 0 <;> simp [turnF, z0, hz])
  have e := eq_nil (h := h) (l := ws.filter fun w => !(w == gi ws 0)) (fun x hx => by
    have := P.ws x (List.mem_filter.mp hx).1
    omega) (by have := List.length_filter_le (fun w => !(w == gi ws 0)) ws; omega)
  have e2 : (ws.filter fun w => !(w == gi ws 0)).isEmpty = ws.all fun w => w == gi ws 0 := by
    rw [Bool.eq_iff_iff]
    simp [List.isEmpty_iff, List.filter_eq_nil_iff]
  rw [e2] at e
  simp only [i_l_is_first, exs_cons, exs_nil, ex_ife, evT_cmp, ev_cmp]
  rw [c]
  simp only [ev_lst, evs_nil, Res.bind_ok, mkL_f, reL_f, e, Option.map_some, of_some, truth_bl, Res.sbind_ok]
  unfold first
  cases ws.all fun w => w == gi ws 0 with
  | true =>
    have z : ((p : Int) == 0) = decide (p = 0) := by rw [Bool.eq_iff_iff]; simp
    simp [z]
  | false => simp [ix_prev hp, ix_tup hp]
end
end SI.K15
end
section
set_option Elab.async false
set_option linter.all false
set_option maxRecDepth 100000
set_option maxHeartbeats 1000000
namespace SI.K15
open PySem L2
theorem lay_ints : ∀ ns : List Int, PyData.canLayAll0 (ns.map PyData.int) = true
  | [] => rfl
  | _ :: r => by simp [PyData.canLayAll0, PyData.canLay0, lay_ints r]
theorem dep_ints : ∀ ns : List Int, PyData.depthAll (ns.map PyData.int) = 0
  | [] => rfl
  | _ :: r => by simp [PyData.depthAll, PyData.depth, dep_ints r]
theorem shaped_is (ns : List Int) : SeqAt.shaped (.list (ns.map PyData.int)) = true := by
  simp [SeqAt.shaped, PyData.canLay0, PyData.depth, lay_ints, dep_ints]
theorem ne_nil {h : Hs} {l : List Int} : cmpD h .ne (.lst (l.map D.int)) (.lst []) = some (!l.isEmpty) := by
  refine ne_of_eq ?_
  show eqD h (.lst (l.map D.int)) (.lst []) = some l.isEmpty
  rw [eqD_py (py_ints l) (show py (.lst []) = some (.list []) from rfl) (shaped_is l) (shaped_is [])]
  cases l <;> rfl
abbrev wrB1 : IS := .set (.t [(.n 9), (.n 10)]) (.tup [(.ix (.v 1) (.v 5)), (.bin .mod (.bi .int (.bin .add (.v 5) (.c (.int 1)))) (.bi .len (.v 1)))])
abbrev wrB2 : IS := .ife (.and (.cmp .eq (.v 2) (.c (.str "early"))) (.and (.cmp .lt (.v 9) (.v 0)) (.cmp .eq (.ix (.v 8) (.v 9)) (.c (.int 1))))) [.set (.n 11) (.comp false (.bin .mod (.bi .int (.bin .add (.v 5) (.v 12))) (.bi .len (.v 1))) (.n 12) .rng [(.c (.int 1)), (.bi .len (.v 1))] none [12]), .set (.n 11) (.comp false (.v 13) (.n 13) .seq [(.v 11)] (some (.cmp .ne (.ix (.v 1) (.v 13)) (.v 9))) [13]), .set (.n 10) (.ife (.cmp .ne (.v 11) (.lst false [])) (.ix (.v 11) (.c (.int 0))) (.v 10))] []
abbrev wrB3 : IS := .set (.t [(.n 5), (.n 6)]) (.tup [(.v 10), (.ix (.v 1) (.v 10))])
abbrev wrB4 : IS := .ife (.and (.cmp .eq (.v 2) (.c (.str "upward"))) (.and (.cmp .lt (.v 6) (.v 0)) (.and (.cmp .eq (.ix (.v 8) (.v 6)) (.c (.int 1))) (.not (.val (.call "_law_is_first" [(.v 1), (.v 5)])))))) [.set (.n 14) (.comp false (.v 15) (.n 15) .seq [(.ix (.v 3) (.v 6))] (some (.cmp .eq (.ix (.v 8) (.v 15)) (.c (.int 0)))) [15]), .set (.n 6) (.ife (.cmp .ne (.v 14) (.lst false [])) (.ix (.v 14) (.c (.int 0))) (.v 0))] []
abbrev wrB5 : IS := .ex (.bm .append (.v 7) [(.v 6)])
abbrev wrB : List IS := [wrB1, wrB2, wrB3, wrB4, wrB5]
def envW (n : Nat) (ws : List Int) (o : Str) (os : List (List Int)) (r4 x5 x6 x7 x8 x9 x10 x11 x12 x13 x14 x15 : Option D) : Nv :=
  [some (.int n), some (.tup (ws.map D.int)), some (.str o), some (ovD os), r4, x5, x6, x7, x8, x9, x10, x11, x12, x13, x14, x15]
section
variable {k : Nat} {h : Hs} {p q : Nat} {n : Nat} {ws bs : List Int} {o : Str} {os : List (List Int)} {g : Int} {r4 x5 x6 x7 x8 x9 x10 x11 x12 x13 x14 x15 : Option D}
theorem int_i {i : Int} : biD .int h (.int i) = some (.int i) := rfl
theorem w1_ok (hp : p < ws.length) : ex (W k) 59 wrB1 (envW n ws o os r4 (some (.int p)) x6 x7 x8 x9 x10 x11 x12 x13 x14 x15) h = .nx (envW n ws o os r4 (some (.int p)) x6 x7 x8 (some (.int (gi ws p))) (some (.int ((p + 1) % ws.length : Nat))) x11 x12 x13 x14 x15) h := by
  have h0 : 0 < ws.length := by omega
  have m1 : binA h .mod (.int ((p : Int) + 1)) (.int (ws.length : Int)) = .ok (.int (((p + 1) % ws.length : Nat) : Int)) h := mod_nn h0
  have nx : (p + 1) % ws.length < ws.length := Nat.mod_lt _ h0
  generalize (p + 1) % ws.length = r at *
  have as : ∀ (a b : D) (env : Nv), asg (.t [(.n 9), (.n 10)]) (.tup [a, b]) env = some ((env.set 9 (some a)).set 10 (some b)) := fun _ _ _ => rfl
  simp [wrB1, envW, ix_tup hp, int_i, len_ws, m1, as]
theorem w3_ok (hp : p < ws.length) : ex (W k) 59 wrB3 (envW n ws o os r4 x5 x6 x7 x8 x9 (some (.int p)) x11 x12 x13 x14 x15) h = .nx (envW n ws o os r4 (some (.int p)) (some (.int (gi ws p))) x7 x8 x9 (some (.int p)) x11 x12 x13 x14 x15) h := by
  have as : ∀ (a b : D) (env : Nv), asg (.t [(.n 5), (.n 6)]) (.tup [a, b]) env = some ((env.set 5 (some a)).set 6 (some b)) := fun _ _ _ => rfl
  simp [wrB3, envW, ix_tup hp, as]
theorem w4_ok (P : PlOk n ws o os) (hb : bs.length = n) (b01 : ∀ b ∈ bs, 0 ≤ b ∧ b < 2) (hp : p < ws.length) : ∃ x, ex (W (k + 1)) 59 wrB4 (envW n ws o os r4 (some (.int p)) (some (.int (gi ws p))) x7 (some (.tup (bs.map D.int))) x9 x10 x11 x12 x13 x14 x15) h = .nx (envW n ws o os r4 (some (.int p)) (some (.int (goP n ws o os p bs))) x7 (some (.tup (bs.map D.int))) x9 x10 x11 x12 x13 x x15) h := by
  have bd := gi_bd P hp
  rcases wcases P with ⟨rfl, hn, _⟩ | ⟨rfl, hn, _⟩ | ⟨rfl, hol, hs⟩
  · refine ⟨x14, ?_⟩
    rw [goP_of hn]
    simp [wrB4, envW, eq_w1]
  · refine ⟨x14, ?_⟩
    rw [goP_of hn]
    simp [wrB4, envW, eq_w2]
  · have g0 : goP n ws "upward" os p bs = givP n ws os p bs := if_pos rfl
    rw [g0]
    have fk : (wr txt.pg (k + 1)).call "_law_is_first" [.tup (ws.map D.int), .int p] h = .ok (.bl (first ws p)) h := law_first_ok P hp
    unfold givP
    by_cases c1 : gi ws p = n
    · refine ⟨x14, ?_⟩
      simp [wrB4, envW, eq_w3, c1]
    · have lt : gi ws p < n := by omega
      have eb := ix_bit (h := h) bd.1 lt hb
      have b2 : 0 ≤ gbit bs (gi ws p) ∧ gbit bs (gi ws p) < 2 := by
        have hj : (gi ws p).toNat < bs.length := by omega
        have : gbit bs (gi ws p) ∈ bs := by
          unfold gbit
          rw [List.getD, List.getElem?_eq_getElem hj]
          exact List.getElem_mem hj
        exact b01 _ this
      by_cases c3 : gbit bs (gi ws p) = 0
      · refine ⟨x14, ?_⟩
        simp [wrB4, envW, eq_w3, lt, eb, c3]
      · have c4 : gbit bs (gi ws p) = 1 := by omega
        cases c2 : first ws p with
        | true => exact ⟨x14, by simp [wrB4, envW, eq_w3, lt, eb, c4, fk, c2]⟩
        | false =>
          have hz : (lot os (gi ws p)).length ≤ LINE := by
            have := (lot_sub (i := gi ws p) hs).length_le
            rw [ri_len] at this
            have h3 := P.n3
            show _ ≤ 16777216
            omega
          have cc : compLoop (turnF (.n 15) (ifsF (W (k + 1)) 56 (some (.cmp .eq (.ix (.v 8) (.v 15)) (.c (.int 0))))) (ev (W (k + 1)) 56 (.v 15)) (envW n ws "upward" os r4 (some (.int p)) (some (.int (gi ws p))) x7 (some (.tup (bs.map D.int))) x9 x10 x11 x12 x13 x14 none)) ((lot os (gi ws p)).map D.int) h = .ok ((fitsL os bs (gi ws p)).map D.int) h := by
            unfold fitsL
            rw [← filter_d, comp_pure]
            intro x hx
            obtain ⟨j, hj, rfl⟩ := List.mem_map.mp hx
            have hb1 := mem_ri ((lot_sub (i := gi ws p) hs).subset hj)
            have e := ix_bit (h := h) hb1.1 hb1.2 hb
            cases hz : gbit bs j == 0 <;> simp [turnF, envW, e, hz]
          have c := comp_run (G := W (k + 1)) (n := 56) (m := false) (e := .v 15) (t := .n 15) (k := .seq) (as := [(.ix (.v 3) (.v 6))]) (i := some (.cmp .eq (.ix (.v 8) (.v 15)) (.c (.int 0)))) (own := [15]) (env := envW n ws "upward" os r4 (some (.int p)) (some (.int (gi ws p))) x7 (some (.tup (bs.map D.int))) x9 x10 x11 x12 x13 x14 x15) (h := h) (h1 := h) (ds := [.tup ((lot os (gi ws p)).map D.int)]) (xs := (lot os (gi ws p)).map D.int)
            (by simp [envW, ix_lot bd.1 lt hol]) rfl (by simpa using hz) cc
          refine ⟨some (.lst ((fitsL os bs (gi ws p)).map D.int)), ?_⟩
          unfold envW at c
          simp [wrB4, envW, eq_w3, lt, eb, c4, fk, c2, c1]
          rw [c]
          have nn := ne_nil (h := h) (l := fitsL os bs (gi ws p))
          cases hf : fitsL os bs (gi ws p) with
          | nil => rw [hf] at nn; simp at nn; simp [nn]
          | cons a l => rw [hf] at nn; simp at nn; simp [nn, ix_0l]
end
end SI.K15
end
section
set_option Elab.async false
set_option linter.all false
set_option maxRecDepth 100000
set_option maxHeartbeats 1000000
namespace SI.K15
open PySem L2
section
variable {k : Nat} {h : Hs} {p q : Nat} {n : Nat} {ws bs : List Int} {o : Str} {os : List (List Int)} {g : Int} {r4 x5 x6 x7 x8 x9 x10 x11 x12 x13 x14 x15 : Option D}
def otherL (ws : List Int) (p : Nat) : List Nat := (behinds ws p).filter fun q => !(gi ws q == gi ws p)
theorem stretch_is : stretch ws p = (otherL ws p).head?.getD ((p + 1) % ws.length) := by
  unfold stretch otherL
  rw [List.head?_filter]
theorem filter_n {f : Nat → Bool} : ∀ l : List Nat, (l.map fun (j : Nat) => D.int j).filterMap (fun x => match x with
      | .int j => if f j.toNat = true then some (D.int j) else none
      | _ => none) = (l.filter f).map fun (j : Nat) => D.int j
  | [] => rfl
  | a :: l => by
    rw [List.map_cons, List.filterMap_cons, List.filter_cons]
    cases hz : f a with
    | true => simp [filter_n l, hz]
    | false => simp [filter_n l, hz]
theorem ints_nat (l : List Nat) : (l.map fun (j : Nat) => D.int j) = (l.map fun (j : Nat) => (j : Int)).map D.int := by
  rw [List.map_map]; rfl
theorem w2_ok (P : PlOk n ws o os) (hb : bs.length = n) (hp : p < ws.length) : ∃ x, ex (W (k + 1)) 59 wrB2 (envW n ws o os r4 (some (.int p)) x6 x7 (some (.tup (bs.map D.int))) (some (.int (gi ws p))) (some (.int ((p + 1) % ws.length : Nat))) x11 x12 x13 x14 x15) h = .nx (envW n ws o os r4 (some (.int p)) x6 x7 (some (.tup (bs.map D.int))) (some (.int (gi ws p))) (some (.int (nextP n ws o p bs : Nat))) x x12 x13 x14 x15) h := by
  have bd := gi_bd P hp
  have h0 : 0 < ws.length := by omega
  rcases wcases P with ⟨rfl, hn, _⟩ | ⟨rfl, hn, _⟩ | ⟨rfl, hol, hs⟩
  · refine ⟨x11, ?_⟩
    have n0 : nextP n ws "slots" p bs = (p + 1) % ws.length := if_neg (fun x => absurd x.1 (by decide +kernel))
    rw [n0]
    simp [wrB2, envW, eq_w7]
  · by_cases c1 : gi ws p < n
    · have eb := ix_bit (h := h) bd.1 c1 hb
      by_cases c2 : gbit bs (gi ws p) = 1
      · have n0 : nextP n ws "early" p bs = stretch ws p := if_pos ⟨rfl, c1, c2⟩
        rw [n0, stretch_is]
        have hl := P.l12
        refine ⟨some (.lst ((otherL ws p).map fun (j : Nat) => D.int j)), ?_⟩
        generalize hv : ((p + 1) % ws.length) = v
        have ca : ∀ e : Nv, e = envW n ws "early" os r4 (some (.int p)) x6 x7 (some (.tup (bs.map D.int))) (some (.int (gi ws p))) (some (.int (v : Nat))) x11 none x13 x14 x15 → compLoop (turnF (.n 12) (ifsF (W (k + 1)) 56 none) (ev (W (k + 1)) 56 (.bin .mod (.bi .int (.bin .add (.v 5) (.v 12))) (.bi .len (.v 1)))) e) ((List.range (ws.length - 1)).map fun j => D.int ((j + 1 : Nat) : Int)) h = .ok ((behinds ws p).map fun (j : Nat) => D.int j) h := fun e he => by
          subst he
          unfold behinds
          rw [comp_map (g := fun x => match x with
            | .int j => .int (((p + j.toNat) % ws.length : Nat) : Int)
            | d => d)]
          · rw [List.map_map, List.map_map]
            congr 1
          · intro x hx
            obtain ⟨j, hj, rfl⟩ := List.mem_map.mp hx
            have a1 : binA h .add (.int (p : Int)) (.int ((j + 1 : Nat) : Int)) = .ok (.int ((p + (j + 1) : Nat) : Int)) h := add_nn
            have m1 : binA h .mod (.int ((p + (j + 1) : Nat) : Int)) (.int (ws.length : Int)) = .ok (.int (((p + (j + 1)) % ws.length : Nat) : Int)) h := mod_nn h0
            show turnF _ _ _ _ (.int ((j + 1 : Nat) : Int)) h = .ok (some (.int (((p + ((j + 1 : Nat) : Int).toNat) % ws.length : Nat) : Int))) h
            rw [Int.toNat_natCast]
            generalize (p + (j + 1)) % ws.length = r at *
            generalize p + (j + 1) = s at *
            generalize ((j + 1 : Nat) : Int) = t at *
            simp only [turnF, envW, asg_n, List.set_cons_succ, List.set_cons_zero, ifsF_none, Res.bind_ok, if_true, ev_bin, ev_bi, ev_v, get_succ, get_zero, of_some, a1, int_i, len_ws, m1]
            rfl
        have c := comp_run (G := W (k + 1)) (n := 56) (m := false) (e := .bin .mod (.bi .int (.bin .add (.v 5) (.v 12))) (.bi .len (.v 1))) (t := .n 12) (k := .rng) (as := [(.c (.int 1)), (.bi .len (.v 1))]) (i := none) (own := [12]) (env := envW n ws "early" os r4 (some (.int p)) x6 x7 (some (.tup (bs.map D.int))) (some (.int (gi ws p))) (some (.int (v : Nat))) x11 x12 x13 x14 x15) (h := h) (h1 := h) (ds := [.int 1, .int ws.length])
          (by simp [envW, len_ws]) (rng1 ws.length h0 (by omega)) (by rw [List.length_map, List.length_range]; show _ ≤ 16777216; omega) (ca _ rfl)
        have cb : ∀ e : Nv, e = envW n ws "early" os r4 (some (.int p)) x6 x7 (some (.tup (bs.map D.int))) (some (.int (gi ws p))) (some (.int (v : Nat))) (some (.lst ((behinds ws p).map fun (j : Nat) => D.int j))) x12 none x14 x15 → compLoop (turnF (.n 13) (ifsF (W (k + 1)) 56 (some (.cmp .ne (.ix (.v 1) (.v 13)) (.v 9)))) (ev (W (k + 1)) 56 (.v 13)) e) ((behinds ws p).map fun (j : Nat) => D.int j) h = .ok ((otherL ws p).map fun (j : Nat) => D.int j) h := fun e he => by
          subst he
          unfold otherL
          rw [← filter_n, comp_pure]
          intro x hx
          obtain ⟨j, hj, rfl⟩ := List.mem_map.mp hx
          have hjl : j < ws.length := by
            obtain ⟨i, _, rfl⟩ := List.mem_map.mp hj
            exact Nat.mod_lt _ h0
          have e := ix_tup (h := h) hjl
          cases hz : gi ws j == gi ws p <;> simp [turnF, envW, e, hz]
        have hbl : (behinds ws p).length ≤ LINE := by unfold behinds; rw [List.length_map, List.length_range]; show _ ≤ 16777216; omega
        have c' := comp_run (G := W (k + 1)) (n := 56) (m := false) (e := .v 13) (t := .n 13) (k := .seq) (as := [(.v 11)]) (i := some (.cmp .ne (.ix (.v 1) (.v 13)) (.v 9))) (own := [13]) (env := envW n ws "early" os r4 (some (.int p)) x6 x7 (some (.tup (bs.map D.int))) (some (.int (gi ws p))) (some (.int (v : Nat))) (some (.lst ((behinds ws p).map fun (j : Nat) => D.int j))) x12 x13 x14 x15) (h := h) (h1 := h) (ds := [.lst ((behinds ws p).map fun (j : Nat) => D.int j)]) (xs := (behinds ws p).map fun (j : Nat) => D.int j)
          rfl rfl (by rw [List.length_map]; exact hbl) (cb _ rfl)
        unfold envW at c c'
        simp [wrB2, envW, eq_w8, c1, eb, c2]
        rw [c]
        simp
        rw [c']
        have nn := ne_nil (h := h) (l := (otherL ws p).map fun (j : Nat) => (j : Int))
        rw [← ints_nat] at nn
        cases hf : otherL ws p with
        | nil => rw [hf] at nn; simp at nn; simp [nn]
        | cons a l => rw [hf] at nn; simp at nn; simp [nn, ix_0l]
      · have n0 : nextP n ws "early" p bs = (p + 1) % ws.length := if_neg (fun x => c2 x.2.2)
        rw [n0]
        exact ⟨x11, by simp [wrB2, envW, eq_w8, c1, eb, c2]⟩
    · have n0 : nextP n ws "early" p bs = (p + 1) % ws.length := if_neg (fun x => c1 x.2.1)
      rw [n0]
      exact ⟨x11, by simp [wrB2, envW, eq_w8, c1]⟩
  · refine ⟨x11, ?_⟩
    have n0 : nextP n ws "upward" p bs = (p + 1) % ws.length := if_neg (fun x => absurd x.1 (by decide +kernel))
    rw [n0]
    simp [wrB2, envW, eq_w9]
end
end SI.K15
end
section
set_option Elab.async false
set_option linter.all false
set_option maxRecDepth 100000
set_option maxHeartbeats 1000000
namespace SI.K15
open PySem L2
section
variable {k : Nat} {h : Hs} {p q : Nat} {n : Nat} {ws bs : List Int} {o : Str} {os : List (List Int)} {g : Int} {r4 x5 x6 x7 x8 x9 x10 x11 x12 x13 x14 x15 : Option D}
theorem ex_frz {G : Wr} {m i : Nat} {env : Nv} : ex G (m + 1) (.frz i) env h = match get env i with
      | some (.ptr p) => match h[p]? with
        | some (.lst xs) => .nx (env.set i (some (.lst xs))) (h.set p .dead)
        | _ => .no
      | some (.lst xs) => .nx env h
      | _ => .no := rfl
theorem set_last {c d : Cell} : (h ++ [c]).set h.length d = h ++ [d] := by
  rw [List.set_append_right _ _ (Nat.le_refl _), Nat.sub_self]; rfl
def bitsD (bs : List Int) : D := .tup (bs.map D.int)
theorem wheel_loop2 (P : PlOk n ws o os) : ∀ (rs : List (List Int)) (p : Nat) (g : Int) (done : List Int) (x8 x9 x10 x11 x12 x13 x14 x15 : Option D), p < ws.length → (∀ bs ∈ rs, Bits n bs) → done.length + rs.length < 1000 →
    ∃ y5 y6 y8 y9 y10 y11 y12 y13 y14 y15, forLoop (bodyF (W (k + 1)) 59 (.n 8) wrB) (rs.map bitsD) (envW n ws o os r4 (some (.int p)) (some (.int g)) (some (.ptr h.length)) x8 x9 x10 x11 x12 x13 x14 x15) (h ++ [.lst (done.map D.int)]) =
      .nx (envW n ws o os r4 y5 y6 (some (.ptr h.length)) y8 y9 y10 y11 y12 y13 y14 y15) (h ++ [.lst ((done ++ goersF n ws o os p rs).map D.int)])
  | [], p, g, done, x8, x9, x10, x11, x12, x13, x14, x15, hp, hb, hl => ⟨_, _, _, _, _, _, _, _, _, _, by simp only [goersF, List.append_nil]; rfl⟩
  | bs :: rs, p, g, done, x8, x9, x10, x11, x12, x13, x14, x15, hp, hb, hl => by
    have hp' : nextP n ws o p bs < ws.length := nextP_lt (by omega)
    have B := hb bs List.mem_cons_self
    obtain ⟨z11, e2⟩ := w2_ok (k := k) (h := h ++ [.lst (done.map D.int)]) (r4 := r4) (x6 := some (.int g)) (x7 := some (.ptr h.length)) (x11 := x11) (x12 := x12) (x13 := x13) (x14 := x14) (x15 := x15) P B.1 hp
    obtain ⟨z14, e4⟩ := w4_ok (k := k) (h := h ++ [.lst (done.map D.int)]) (r4 := r4) (x7 := some (.ptr h.length)) (x9 := some (.int (gi ws p))) (x10 := some (.int (nextP n ws o p bs : Nat))) (x11 := z11) (x12 := x12) (x13 := x13) (x14 := x14) (x15 := x15) P B.1 B.2 hp'
    obtain ⟨y5, y6, y8, y9, y10, y11, y12, y13, y14, y15, ih⟩ := wheel_loop2 P rs (nextP n ws o p bs) (goP n ws o os (nextP n ws o p bs) bs) (done ++ [goP n ws o os (nextP n ws o p bs) bs]) (some (bitsD bs)) (some (.int (gi ws p))) (some (.int (nextP n ws o p bs : Nat))) z11 x12 x13 z14 x15 hp' (fun b m => hb b (List.mem_cons_of_mem _ m)) (by rw [List.length_append]; simp at hl ⊢; omega)
    refine ⟨y5, y6, y8, y9, y10, y11, y12, y13, y14, y15, ?_⟩
    have ap : ∀ y, meD .append (h ++ [.lst (done.map D.int)]) (.ptr h.length) [y] = .ok .non (h ++ [.lst (done.map D.int ++ [y])]) := fun y => app_d (by rw [List.length_map]; omega)
    have e5 : ex (W (k + 1)) 59 wrB5 (envW n ws o os r4 (some (.int (nextP n ws o p bs : Nat))) (some (.int (goP n ws o os (nextP n ws o p bs) bs))) (some (.ptr h.length)) (some (bitsD bs)) (some (.int (gi ws p))) (some (.int (nextP n ws o p bs : Nat))) z11 x12 x13 z14 x15) (h ++ [.lst (done.map D.int)]) =
        .nx (envW n ws o os r4 (some (.int (nextP n ws o p bs : Nat))) (some (.int (goP n ws o os (nextP n ws o p bs) bs))) (some (.ptr h.length)) (some (bitsD bs)) (some (.int (gi ws p))) (some (.int (nextP n ws o p bs : Nat))) z11 x12 x13 z14 x15) (h ++ [.lst ((done ++ [goP n ws o os (nextP n ws o p bs) bs]).map D.int)]) := by
      simp [wrB5, envW, app_ok, ap]
    have b1 : bodyF (W (k + 1)) 59 (.n 8) wrB (bitsD bs) (envW n ws o os r4 (some (.int p)) (some (.int g)) (some (.ptr h.length)) x8 x9 x10 x11 x12 x13 x14 x15) (h ++ [.lst (done.map D.int)]) = .nx (envW n ws o os r4 (some (.int (nextP n ws o p bs : Nat))) (some (.int (goP n ws o os (nextP n ws o p bs) bs))) (some (.ptr h.length)) (some (bitsD bs)) (some (.int (gi ws p))) (some (.int (nextP n ws o p bs : Nat))) z11 x12 x13 z14 x15) (h ++ [.lst ((done ++ [goP n ws o os (nextP n ws o p bs) bs]).map D.int)]) := by
      have a1 : asg (.n 8) (bitsD bs) (envW n ws o os r4 (some (.int p)) (some (.int g)) (some (.ptr h.length)) x8 x9 x10 x11 x12 x13 x14 x15) = some (envW n ws o os r4 (some (.int p)) (some (.int g)) (some (.ptr h.length)) (some (bitsD bs)) x9 x10 x11 x12 x13 x14 x15) := rfl
      simp only [bodyF, a1, wrB]
      unfold bitsD at e5 ⊢
      rw [exs_cons, w1_ok hp, then_nx, exs_cons, e2, then_nx, exs_cons, w3_ok hp', then_nx, exs_cons, e4, then_nx, exs_cons, e5, then_nx, exs_nil]
    rw [List.map_cons]
    unfold forLoop
    rw [b1]
    have ee : done ++ goersF n ws o os p (bs :: rs) = done ++ [goP n ws o os (nextP n ws o p bs) bs] ++ goersF n ws o os (nextP n ws o p bs) rs := by rw [List.append_assoc]; rfl
    rw [ee]
    exact ih
theorem wheel_run_ok (P : PlOk n ws o os) {rs : List (List Int)} (hr : ∀ bs ∈ rs, Bits n bs) (hl : rs.length ≤ 900) : (W (k + 2)).call "_law_wheel_run" [.int n, .tup (ws.map D.int), .str o, ovD os, .lst (rs.map bitsD)] h = .ok (.lst ((goers n ws o os rs).map D.int)) (h ++ [.dead]) := by
  have h0 : 0 < ws.length := List.length_pos_iff.mpr P.ne
  rw [q_l_wheel_run]
  obtain ⟨y5, y6, y8, y9, y10, y11, y12, y13, y14, y15, f⟩ := wheel_loop2 (k := k) (h := h) (r4 := some (.lst (rs.map bitsD))) P rs 0 (gi ws 0) [gi ws 0] none none none none none none none none h0 hr (by simp; omega)
  have l := loop_run (G := W (k + 1)) (n := 59) (t := .n 8) (k := .seq) (as := [(.v 4)]) (b := wrB) (h1 := h ++ [.lst ([gi ws 0].map D.int)]) (ds := [.lst (rs.map bitsD)]) (xs := rs.map bitsD) rfl rfl f
  have z0 : ixD h (.tup (ws.map D.int)) (.int 0) = some (.int (gi ws 0)) := ix_tup (p := 0) (by omega)
  have as : ∀ (a b : D) (env : Nv), asg (.t [(.n 5), (.n 6)]) (.tup [a, b]) env = some ((env.set 5 (some a)).set 6 (some b)) := fun _ _ _ => rfl
  unfold envW at l
  rw [List.map_singleton, show ((0 : Nat) : Int) = 0 from rfl] at l
  simp [i_l_wheel_run, z0, as, -ex_loop]
  rw [l]
  simp [goers, ex_frz, get_last, set_last]
end
end SI.K15
end
section
set_option Elab.async false
set_option linter.all false
set_option maxRecDepth 100000
set_option maxHeartbeats 1000000
namespace SI.K15
open PySem L2
section
variable {k : Nat} {h : Hs} {p q : Nat} {n : Nat} {ws bs : List Int} {o : Str} {os : List (List Int)} {g : Int}
theorem goP_bd (P : PlOk n ws o os) (hp : p < ws.length) : 0 ≤ goP n ws o os p bs ∧ goP n ws o os p bs ≤ n := by
  have bd := gi_bd P hp
  unfold goP givP
  split
  · split
    · exact bd
    · next ho hx =>
      rcases wcases P with ⟨rfl, hn, _⟩ | ⟨rfl, hn, _⟩ | ⟨rfl, hol, hs⟩
      · exact absurd ho hn
      · exact absurd ho hn
      · cases hf : fitsL os bs (gi ws p) with
        | nil => simp
        | cons a l =>
          have : a ∈ lot os (gi ws p) := (List.mem_filter.mp (show a ∈ fitsL os bs (gi ws p) by rw [hf]; exact List.mem_cons_self)).1
          have := mem_ri ((lot_sub (i := gi ws p) hs).subset this)
          simp
          omega
  · exact bd
theorem chain_ok {x s : Int} (h0 : 0 ≤ x) (h1 : x < s) : True := trivial
theorem isB {G : Wr} {i : Int} : isAny G h (.int i) [.inl "bool"] = some false := rfl
theorem is_state_ok (P : PlOk n ws o os) (hq : h[q]? = some (pl n ws o os)) (hp : p < ws.length) (hg : 0 ≤ g ∧ g ≤ n) : (W (k + 2)).call "_law_is_state" [.ptr q, stD o p g] h = .ok (.bl true) h := by
  rw [q_l_is_state]
  have hl := P.l12
  have n3 := P.n3
  have run : ∀ (xs : List Int) (ss : List Int), (xs.zip ss).all (fun w => decide (0 ≤ w.1) && decide (w.1 < w.2)) = true → xs.length = ss.length → xs.length ≤ 2 → fldD (wr txt.pg (k + 1)) h (.ptr q) "cells" = some (.tup (ss.map D.int)) →
      fin (exs (ex (wr txt.pg (k + 1)) 60) i_l_is_state [some (.ptr q), some (.tup (xs.map D.int)), none, none] h) = .ok (.bl true) h := fun xs ss hx hl h2 hf => by
    have zz : ∀ (xs ss : List Int), srcD .zip [.tup (xs.map D.int), .tup (ss.map D.int)] = some ((xs.zip ss).map fun w => D.tup [.int w.1, .int w.2]) := fun xs ss => by
      show some (zipD _ _) = _
      congr 1
      induction xs generalizing ss with
      | nil => cases ss <;> rfl
      | cons x xs ih =>
        cases ss with
        | nil => rfl
        | cons s ss =>
          simp only [List.map_cons, List.zip_cons_cons]
          unfold zipD
          rw [ih]
    have c := comp_run (G := W (k + 1)) (n := 57) (m := false) (e := .v 2) (t := .t [(.n 2), (.n 3)]) (k := .zip) (as := [(.v 1), (.fld (.v 0) "cells")]) (i := some (.or (.val (.isi (.v 2) [.inl "bool"])) (.not (.chain .le .lt (.c (.int 0)) (.v 2) (.v 3))))) (own := [2, 3]) (env := [some (.ptr q), some (.tup (xs.map D.int)), none, none]) (h := h) (h1 := h) (h2 := h) (ds := [.tup (xs.map D.int), .tup (ss.map D.int)]) (xs := (xs.zip ss).map fun w => D.tup [.int w.1, .int w.2]) (ys := [])
      (by simp [hf]) (zz xs ss) (by rw [List.length_map, List.length_zip]; show _ ≤ 16777216; omega) (by
        rw [comp_pure (g := fun _ => none)]
        · simp
        · intro x hm
          obtain ⟨w, hw, rfl⟩ := List.mem_map.mp hm
          have hw1 := List.all_eq_true.mp hx w hw
          simp only [Bool.and_eq_true, decide_eq_true_eq] at hw1
          have a1 : ∀ env : Nv, asg (.t [(.n 2), (.n 3)]) (.tup [.int w.1, .int w.2]) env = some ((env.set 2 (some (.int w.1))).set 3 (some (.int w.2))) := fun _ => rfl
          simp [turnF, a1, isB, hw1.1, hw1.2])
    have e1 := eq_nil (h := h) (l := []) (fun _ hx => nomatch hx) (by decide)
    simp [i_l_is_state, isT, len_tup, hf, hl]
    rw [c]
    simp at e1
    simp [e1]
  rcases wcases P with ⟨rfl, hn, _⟩ | ⟨rfl, hn, _⟩ | ⟨rfl, _⟩
  · rw [st_of hn]
    refine run [(p : Int)] [(ws.length : Int)] ?_ rfl (by simp) ?_
    · simp; omega
    · rw [fld_cells hq]; unfold celD; rw [if_neg hn]; rfl
  · rw [st_of hn]
    refine run [(p : Int)] [(ws.length : Int)] ?_ rfl (by simp) ?_
    · simp; omega
    · rw [fld_cells hq]; unfold celD; rw [if_neg hn]; rfl
  · rw [st_up]
    refine run [(p : Int), g] [(ws.length : Int), (n : Int) + 1] ?_ rfl (by simp) ?_
    · simp; omega
    · rw [fld_cells hq]; unfold celD; rw [if_pos rfl]; rfl
end
end SI.K15
end
section
set_option Elab.async false
set_option linter.all false
set_option maxRecDepth 100000
set_option maxHeartbeats 1000000
namespace SI.K15
open PySem L2
/-- upward, in plain words -/
def Up (n : Nat) (os : List (List Int)) : Prop := ∀ i : Int, 0 ≤ i → i < n → ∀ a ∈ lot os i, a ≠ i ∧ ∀ b ∈ lot os i, a < b → b ∈ lot os a
theorem find_sorted {f f' : Int → Bool} {i : Int} : ∀ {l : List Int}, l.Pairwise (· < ·) → i ∈ l → (∀ j ∈ l, j ≤ i → f j = f' j) → ((l.find? f = some i) ↔ (l.find? f' = some i))
  | [], _, hi, _ => nomatch hi
  | a :: l, hp, hi, hf => by
    rw [List.pairwise_cons] at hp
    have nl : ∀ {f : Int → Bool}, a = i → ¬ l.find? f = some i := fun e h => by
      have := hp.1 i (List.mem_of_find?_eq_some h)
      omega
    have fa : a ≤ i := by
      rcases List.mem_cons.mp hi with rfl | h
      · omega
      · have := hp.1 i h; omega
    have e := hf a List.mem_cons_self fa
    rw [List.find?_cons, List.find?_cons, ← e]
    cases f a with
    | true => exact Iff.rfl
    | false =>
      by_cases ha : a = i
      · simp only [nl ha]
      · refine find_sorted hp.2 ?_ fun j hj => hf j (List.mem_cons_of_mem _ hj)
        rcases List.mem_cons.mp hi with h | h
        · exact absurd h.symm ha
        · exact h
theorem ri_sorted (n : Nat) : (ri n).Pairwise (· < ·) := by
  unfold ri
  rw [List.pairwise_map]
  exact List.Pairwise.imp (fun h => by omega) List.pairwise_lt_range
inductive Paired2 {α : Type} (R : α → α → Prop) : List α → List α → Prop
  | nil : Paired2 R [] []
  | cons {x y : α} {xs ys : List α} : R x y → Paired2 R xs ys → Paired2 R (x :: xs) (y :: ys)
section
variable {k : Nat} {h : Hs} {p q : Nat} {n : Nat} {ws bs bs' : List Int} {o : Str} {os : List (List Int)} {g i : Int}
/-- what a process knows of a row -/
def Agree (n : Nat) (os : List (List Int)) (i : Int) (bs bs' : List Int) : Prop := ∀ j : Int, 0 ≤ j → j < n → (j = i ∨ i ∈ lot os j) → gbit bs j = gbit bs' j
theorem giv_same (bd : 0 ≤ gi ws p ∧ gi ws p ≤ n) (hs : ∀ l ∈ os, l.Sublist (ri n)) (U : Up n os) (h0 : 0 ≤ i) (h1 : i < n) (A : Agree n os i bs bs') : (givP n ws os p bs == i) = (givP n ws os p bs' == i) := by
  rw [Bool.eq_iff_iff]
  simp only [beq_iff_eq]
  unfold givP
  by_cases c0 : gi ws p = n ∨ first ws p = true
  · rw [if_pos (by rcases c0 with h | h <;> simp [h]), if_pos (by rcases c0 with h | h <;> simp [h])]
  · have c1 : ¬ gi ws p = n := fun h => c0 (.inl h)
    have c2 : ¬ first ws p = true := fun h => c0 (.inr h)
    have e : ∀ b : List Int, (gi ws p = n ∨ first ws p = true ∨ gbit b (gi ws p) = 0) ↔ gbit b (gi ws p) = 0 := fun b => by simp [c1, c2]
    have lt : gi ws p < n := by omega
    simp only [e]
    have srt : (lot os (gi ws p)).Pairwise (· < ·) := List.Pairwise.sublist (lot_sub hs) (ri_sorted n)
    have hd : ∀ b : List Int, ((fitsL os b (gi ws p)).head?.getD (n : Int) = i) ↔ ((lot os (gi ws p)).find? (fun j => gbit b j == 0) = some i) := fun b => by
      unfold fitsL
      rw [List.head?_filter]
      cases (lot os (gi ws p)).find? fun j => gbit b j == 0 with
      | none => simp; omega
      | some a => simp
    by_cases c3 : gi ws p = i
    · have ab := A i h0 h1 (.inl rfl)
      have ni : i ∉ lot os (gi ws p) := fun hm => by
        have := (U (gi ws p) bd.1 lt i hm).1
        omega
      have nf : ∀ b : List Int, ¬ ((fitsL os b (gi ws p)).head?.getD (n : Int) = i) := fun b hb => ni (List.mem_of_find?_eq_some ((hd b).mp hb))
      rw [c3] at nf ⊢
      rw [ab]
      by_cases z : gbit bs' i = 0
      · simp [z]
      · simp only [if_neg z, nf]
    · by_cases c4 : i ∈ lot os (gi ws p)
      · have ab := A (gi ws p) bd.1 lt (.inr c4)
        rw [ab]
        by_cases z : gbit bs' (gi ws p) = 0
        · simp [z]
        · simp only [if_neg z, hd]
          refine find_sorted srt c4 fun j hj hji => ?_
          have jb := mem_ri ((lot_sub (i := gi ws p) hs).subset hj)
          have : gbit bs j = gbit bs' j := A j jb.1 jb.2 (by
            by_cases hq : j = i
            · exact .inl hq
            · exact .inr ((U (gi ws p) bd.1 lt j hj).2 i c4 (by omega)))
          rw [this]
      · have nf : ∀ b : List Int, ¬ ((fitsL os b (gi ws p)).head?.getD (n : Int) = i) := fun b hb => c4 (List.mem_of_find?_eq_some ((hd b).mp hb))
        have : ∀ b : List Int, ¬ (if gbit b (gi ws p) = 0 then gi ws p else (fitsL os b (gi ws p)).head?.getD (n : Int)) = i := fun b => by
          by_cases z : gbit b (gi ws p) = 0
          · rw [if_pos z]; exact c3
          · rw [if_neg z]; exact nf b
        simp only [this]
theorem goersF_same (P : PlOk n ws "upward" os) (hs : ∀ l ∈ os, l.Sublist (ri n)) (U : Up n os) (h0 : 0 ≤ i) (h1 : i < n) : ∀ (rs rs' : List (List Int)) (p : Nat), Paired2 (Agree n os i) rs rs' → p < ws.length → (goersF n ws "upward" os p rs).map (· == i) = (goersF n ws "upward" os p rs').map (· == i)
  | _, _, p, .nil, _ => rfl
  | _, _, p, .cons (x := bs) (y := bs') (xs := rs) (ys := rs') A rest, hp => by
    have np : ∀ b, nextP n ws "upward" p b = (p + 1) % ws.length := fun b => if_neg (fun x => absurd x.1 (by decide +kernel))
    have hp' : (p + 1) % ws.length < ws.length := Nat.mod_lt _ (by omega)
    have go : ∀ q b, goP n ws "upward" os q b = givP n ws os q b := fun q b => if_pos rfl
    unfold goersF
    rw [np, np, go, go, List.map_cons, List.map_cons, giv_same (gi_bd P hp') hs U h0 h1 A, goersF_same P hs U h0 h1 rs rs' _ rest hp']
end
end SI.K15
end
section
set_option Elab.async false
set_option linter.all false
set_option maxRecDepth 100000
set_option maxHeartbeats 1000000
namespace SI.K15
open PySem L2
theorem eqv_ii {i j : Int} : PyData.eqv (.int i) (.int j) = (i == j) := rfl
theorem in_ints {h : Hs} {i : Int} {l : List Int} (t : Bool) : inD h (.int i) (if t then .tup (l.map D.int) else .lst (l.map D.int)) = some (l.contains i) := by
  have e : ∀ b : Bool, (match (some (b, l.map D.int) : Option (Bool × List D)) with
    | some (l, xs) => match deep h (.int i) with
      | some d => match pyL (ptrPy h 3) xs with
        | some ds => if SeqAt.shaped d && SeqAt.shaped (.list ds) then some (ds.any fun z => PyData.eqv z d) else none
        | none => none
      | none => none
    | none => none) = some (l.contains i) := fun b => by
    have e1 : deep h (.int i) = some (.int i) := rfl
    have e2 : pyL (ptrPy h 3) (l.map D.int) = some (l.map PyData.int) := pyL_pys (pys_ints l)
    have e3 : SeqAt.shaped (.int i) = true := rfl
    simp only [e1, e2, e3, shaped_is, Bool.and_self, if_true]
    congr 1
    rw [List.any_map, Bool.eq_iff_iff]
    simp [eqv_ii]
  cases t
  · exact e true
  · exact e false
theorem notin_t {h : Hs} {i : Int} {l : List Int} : cmpD h .notin (.int i) (.tup (l.map D.int)) = some (!l.contains i) := by
  show (inD h (.int i) (.tup (l.map D.int))).map _ = _
  rw [show inD h (.int i) (.tup (l.map D.int)) = _ from in_ints true]; rfl
theorem isin_t {h : Hs} {i : Int} {l : List Int} : cmpD h .isin (.int i) (.tup (l.map D.int)) = some (l.contains i) := in_ints true
theorem isin_l {h : Hs} {i : Int} {l : List Int} : cmpD h .isin (.int i) (.lst (l.map D.int)) = some (l.contains i) := in_ints false
def badL (os : List (List Int)) (i a : Int) : List Int := (lot os i).filter fun b => decide (a < b) && !(lot os a).contains b
def badA (os : List (List Int)) (i a : Int) : Bool := a == i || !(badL os i a).isEmpty
def badI (os : List (List Int)) (i : Int) : Bool := (lot os i).any (badA os i)
theorem up_of {n : Nat} {os : List (List Int)} (hb : (ri n).any (badI os) = false) : Up n os := fun i h0 h1 a ha => by
  obtain ⟨j, rfl⟩ := Int.eq_ofNat_of_zero_le h0
  have hm : (j : Int) ∈ ri n := List.mem_map.mpr ⟨j, List.mem_range.mpr (by omega), rfl⟩
  have h2 := List.any_eq_false.mp hb _ hm
  have h2' : badI os j = false := by simpa using h2
  unfold badI at h2'
  have h3 := List.any_eq_false.mp h2' a ha
  unfold badA at h3
  simp only [Bool.or_eq_true, beq_iff_eq, Bool.not_eq_true', not_or] at h3
  refine ⟨h3.1, fun b hb hab => ?_⟩
  have h4 : (badL os j a).isEmpty = true := by simpa using h3.2
  rw [List.isEmpty_iff] at h4
  have h5 := List.filter_eq_nil_iff.mp h4 b hb
  simpa [hab] using h5
section
variable {k : Nat} {h : Hs} {p q : Nat} {n : Nat} {ws bs bs' : List Int} {o : Str} {os : List (List Int)} {g i a : Int}
abbrev upC : IE := .comp false (.v 4) (.n 4) .seq [(.ix (.v 1) (.v 2))] (some (.and (.cmp .gt (.v 4) (.v 3)) (.cmp .notin (.v 4) (.ix (.v 1) (.v 3))))) [4]
abbrev upB : List IS := [.ife (.or (.cmp .eq (.v 3) (.v 2)) (.cmp .ne upC (.lst false []))) [.ret (.c (.bl false))] []]
abbrev upO : List IS := [.loop (.n 3) .seq [(.ix (.v 1) (.v 2))] upB]
def gI (f : Int → Bool) : D → Option D := fun x => match x with
  | .int a => if f a = true then some (.bl false) else none
  | _ => none
theorem gI_some {f : Int → Bool} : ∀ l : List Int, (l.map D.int).findSome? (gI f) = if l.any f = true then some (.bl false) else none
  | [] => rfl
  | a :: l => by
    rw [List.map_cons, List.findSome?_cons]
    have ih := gI_some (f := f) l
    have e : gI f (.int a) = if f a = true then some (.bl false) else none := rfl
    rw [e]
    cases hf : f a with
    | true => simp [hf]
    | false => simp [hf, ih]
theorem upC_ok {x4 : Option D} {m : Nat} (hol : os.length = n) (h3 : n ≤ 3) (hs : ∀ l ∈ os, l.Sublist (ri n)) (hi : i ∈ ri n) (ha : a ∈ lot os i) : ev (W k) (m + 9) upC [some (.int n), some (ovD os), some (.int i), some (.int a), x4] h = .ok (.lst ((badL os i a).map D.int)) h := by
  have ib := mem_ri hi
  have ab := mem_ri ((lot_sub (i := i) hs).subset ha)
  have hz : (lot os i).length ≤ LINE := by
    have := (lot_sub (i := i) hs).length_le
    rw [ri_len] at this
    show _ ≤ 16777216
    omega
  refine comp_run (n := m + 8) (h1 := h) (h2 := h) (ds := [.tup ((lot os i).map D.int)]) (xs := (lot os i).map D.int) (by simp [ix_lot ib.1 ib.2 hol]) rfl (by simpa using hz) ?_
  unfold badL
  rw [← filter_d, comp_pure]
  intro x hx
  obtain ⟨b, hb, rfl⟩ := List.mem_map.mp hx
  by_cases h1 : a < b
  · by_cases h2 : b ∈ lot os a <;> simp [turnF, h1, notin_t, ix_lot ab.1 ab.2 hol, h2]
  · simp [turnF, h1]
end
end SI.K15
end
section
set_option Elab.async false
set_option linter.all false
set_option maxRecDepth 100000
set_option maxHeartbeats 1000000
namespace SI.K15
open PySem L2
section
variable {k : Nat} {h : Hs} {p q : Nat} {n : Nat} {ws bs bs' : List Int} {o : Str} {os : List (List Int)} {g i a : Int}
theorem gI_at {f : Int → Bool} {a : Int} : gI f (.int a) = if f a = true then some (.bl false) else none := rfl
theorem upB_ok {x3 x4 : Option D} (hol : os.length = n) (h3 : n ≤ 3) (hs : ∀ l ∈ os, l.Sublist (ri n)) (hi : i ∈ ri n) (ha : a ∈ lot os i) : bodyF (W k) 58 (.n 3) upB (.int a) [some (.int n), some (ovD os), some (.int i), x3, x4] h = if badA os i a = true then .rt (.bl false) h else .nx [some (.int n), some (ovD os), some (.int i), some (.int a), x4] h := by
  have c := upC_ok (k := k) (h := h) (x4 := x4) (m := 45) hol h3 hs hi ha
  have nn := ne_nil (h := h) (l := badL os i a)
  unfold badA
  simp only [bodyF, asg_n, List.set_cons_succ, List.set_cons_zero, upB, exs_cons, exs_nil, ex_ife, evT_or, evT_cmp, ev_cmp, ev_v, get_succ, get_zero, of_some, Res.bind_ok, eq_ii, Option.map_some, truth_bl]
  cases hz : a == i with
  | true => simp
  | false =>
    simp only [if_false, Bool.false_eq_true]
    rw [c]
    simp only [ev_lst, evs_nil, Res.bind_ok, mkL_f, nn, Option.map_some, of_some, truth_bl, Res.sbind_ok]
    cases (badL os i a).isEmpty <;> simp
theorem upO_ok {x2 x3 x4 : Option D} (hol : os.length = n) (h3 : n ≤ 3) (hs : ∀ l ∈ os, l.Sublist (ri n)) (hi : i ∈ ri n) :
    (badI os i = true ∧ bodyF (W k) 59 (.n 2) upO (.int i) [some (.int n), some (ovD os), x2, x3, x4] h = .rt (.bl false) h) ∨ (badI os i = false ∧ ∃ y3 y4, bodyF (W k) 59 (.n 2) upO (.int i) [some (.int n), some (ovD os), x2, x3, x4] h = .nx [some (.int n), some (ovD os), some (.int i), y3, y4] h) := by
  have ib := mem_ri hi
  have key := for_find (f := bodyF (W k) 58 (.n 3) upB) (g := gI (badA os i)) (I := fun env => ∃ x3 x4, env = [some (.int n), some (ovD os), some (.int i), x3, x4]) (h := h) (xs := (lot os i).map D.int) (env := [some (.int n), some (ovD os), some (.int i), x3, x4]) ⟨x3, x4, rfl⟩
    (fun x hx env ⟨y3, y4, ee⟩ => by
      subst ee
      obtain ⟨a, ha, rfl⟩ := List.mem_map.mp hx
      have b := upB_ok (k := k) (h := h) (x3 := y3) (x4 := y4) hol h3 hs hi ha
      rw [b, gI_at]
      by_cases hb : badA os i a = true
      · rw [if_pos hb, if_pos hb]
        exact ⟨fun d hd => by cases hd; rfl, fun hd => nomatch hd⟩
      · rw [if_neg hb, if_neg hb]
        exact ⟨fun d hd => (nomatch hd), fun _ => ⟨_, rfl, _, _, rfl⟩⟩)
  have l : ∀ r, forLoop (bodyF (W k) 58 (.n 3) upB) ((lot os i).map D.int) [some (.int n), some (ovD os), some (.int i), x3, x4] h = r → ex (W k) 59 (.loop (.n 3) .seq [(.ix (.v 1) (.v 2))] upB) [some (.int n), some (ovD os), some (.int i), x3, x4] h = r := fun r hr =>
    loop_run (n := 58) (h1 := h) (ds := [.tup ((lot os i).map D.int)]) (by simp [ix_lot ib.1 ib.2 hol]) rfl hr
  rw [gI_some] at key
  have bo : bodyF (W k) 59 (.n 2) upO (.int i) [some (.int n), some (ovD os), x2, x3, x4] h = (ex (W k) 59 (.loop (.n 3) .seq [(.ix (.v 1) (.v 2))] upB) [some (.int n), some (ovD os), some (.int i), x3, x4] h).then (exs (ex (W k) 59) []) := rfl
  rw [bo]
  unfold badI
  rcases key with ⟨d, h1, h2⟩ | ⟨h1, env', h2, y3, y4, rfl⟩
  · rw [l _ h2]
    by_cases hb : (lot os i).any (badA os i) = true
    · rw [if_pos hb] at h1
      cases h1
      exact .inl ⟨hb, rfl⟩
    · rw [if_neg hb] at h1; cases h1
  · rw [l _ h2]
    by_cases hb : (lot os i).any (badA os i) = true
    · rw [if_pos hb] at h1; cases h1
    · exact .inr ⟨by simpa using hb, y3, y4, rfl⟩
theorem upward_ok (hol : os.length = n) (h3 : n ≤ 3) (hs : ∀ l ∈ os, l.Sublist (ri n)) : ∃ b, (W (k + 1)).call "_law_upward" [.int n, ovD os] h = .ok (.bl b) h ∧ (b = true → Up n os) := by
  rw [q_l_upward]
  have key := for_find (f := bodyF (W k) 59 (.n 2) upO) (g := gI (badI os)) (I := fun env => ∃ x2 x3 x4, env = [some (.int n), some (ovD os), x2, x3, x4]) (h := h) (xs := (ri n).map D.int) (env := [some (.int n), some (ovD os), none, none, none]) ⟨none, none, none, rfl⟩
    (fun x hx env ⟨y2, y3, y4, ee⟩ => by
      subst ee
      obtain ⟨i, hi, rfl⟩ := List.mem_map.mp hx
      rw [gI_at]
      rcases upO_ok (k := k) (h := h) (x2 := y2) (x3 := y3) (x4 := y4) hol h3 hs hi with ⟨hb, e⟩ | ⟨hb, z3, z4, e⟩
      · rw [if_pos hb]
        exact ⟨fun d hd => by cases hd; exact e, fun hd => nomatch hd⟩
      · rw [hb, if_neg (by decide)]
        exact ⟨fun d hd => (nomatch hd), fun _ => ⟨_, e, _, _, _, rfl⟩⟩)
  have l : ∀ r, forLoop (bodyF (W k) 59 (.n 2) upO) ((ri n).map D.int) [some (.int n), some (ovD os), none, none, none] h = r → ex (W k) 60 (.loop (.n 2) .rng [(.v 0)] upO) [some (.int n), some (ovD os), none, none, none] h = r := fun r hr =>
    loop_run (n := 59) (h1 := h) (ds := [.int n]) (by simp) (src_rng (by omega)) hr
  rw [gI_some] at key
  show ∃ b, fin ((ex (W k) 60 (.loop (.n 2) .rng [(.v 0)] upO) [some (.int n), some (ovD os), none, none, none] h).then (exs (ex (W k) 60) [.ret (.c (.bl true))])) = _ ∧ _
  rcases key with ⟨d, h1, h2⟩ | ⟨h1, env', h2, y2, y3, y4, rfl⟩
  · rw [l _ h2]
    refine ⟨false, ?_, fun z => nomatch z⟩
    by_cases hb : (ri n).any (badI os) = true
    · rw [if_pos hb] at h1
      cases h1
      rfl
    · rw [if_neg hb] at h1; cases h1
  · rw [l _ h2]
    refine ⟨true, rfl, fun _ => ?_⟩
    by_cases hb : (ri n).any (badI os) = true
    · rw [if_pos hb] at h1; cases h1
    · exact up_of (by simpa using hb)
end
end SI.K15
end
section
set_option Elab.async false
set_option linter.all false
set_option maxRecDepth 100000
set_option maxHeartbeats 1000000
namespace SI.K15
open PySem L2
section
variable {k : Nat} {h : Hs}
abbrev penB : List IS := [.set (.n 1) (.bin .mod (.bi .int (.bin .add (.bin .mul (.v 1) (.c (.int 151))) (.v 2))) (.c (.int 1000000033)))]
theorem pen_start (zs : List Int) : ∃ f, (W (k + 1)).call "_law_pen" [.ks true (zs.map D.int)] [] = .ok (.ptr 0) [pen (zs.map D.int) 0 0 0 f] ∧ 0 ≤ f ∧ f < 2 ^ 40 := by
  rw [q_l_pen]
  obtain ⟨env', h', f, t, x, rfl, rfl, ht0, ht1⟩ := for_inv (f := bodyF (W k) 59 (.n 2) penB) (I := fun _ env h' => ∃ t x, env = [some (.ks true (zs.map D.int)), some (.int t), x] ∧ h' = [] ∧ 0 ≤ t ∧ t < 2 ^ 40) (xs := zs.map D.int) (env := [some (.ks true (zs.map D.int)), some (.int 0), none]) (h := []) ⟨0, none, rfl, rfl, by decide, by decide⟩
    fun x hx _ env h' i => by
      obtain ⟨t, y, rfl, rfl, ht0, ht1⟩ := i
      obtain ⟨z, hz, rfl⟩ := List.mem_map.mp hx
      have b1 : big64 151 = true := by decide
      refine ⟨_, _, ?_, (t * 151 + z) % 1000000033, some (.int z), rfl, rfl, Int.emod_nonneg _ (by decide), ?_⟩
      · simp [bodyF, penB, mul_ic b1, int_i, mod_ii]
      · have := Int.emod_lt_of_pos (t * 151 + z) (show (0 : Int) < 1000000033 by decide)
        omega
  have l := loop_run (G := W k) (n := 59) (t := .n 2) (k := .seq) (as := [(.v 0)]) (b := penB) (h1 := []) (ds := [.ks true (zs.map D.int)]) (xs := zs.map D.int) rfl rfl f
  refine ⟨t, ?_, ht0, ht1⟩
  have li : biD .list [] (.ks true (zs.map D.int)) = some (.lst (zs.map D.int)) := rfl
  simp [i_l_pen, -ex_loop]
  rw [l]
  simp [li, fin, pen]
/-! ### names in a long environment -/
theorem get_set {env : Nv} {i j : Nat} {v : D} (hi : i < env.length) : get (env.set i (some v)) j = if i = j then some v else get env j := by
  unfold get
  rw [List.getElem?_set]
  by_cases e : i = j
  · subst e; simp [hi]
  · simp [e]
theorem len_set {env : Nv} {i : Nat} {v : Option D} : (env.set i v).length = env.length := List.length_set ..
theorem get_wipe {env : Nv} {i j : Nat} : i ≠ j → get (env.set i none) j = get env j := fun e => by
  unfold get
  rw [List.getElem?_set]
  simp [e]
end
end SI.K15
end
section
set_option Elab.async false
set_option linter.all false
set_option maxRecDepth 100000
set_option maxHeartbeats 1000000
namespace SI.K15
open PySem L2
theorem ok_app {a b : Str} (ha : PyData.strOk a = true) (hb : PyData.strOk b = true) : PyData.strOk (a ++ b) = true := by
  unfold PyData.strOk at *
  show ((a.cps ++ b.cps).all _) = true
  rw [Array.all_append, ha, hb]; rfl
theorem ok_from : ∀ (ts : List Str) (k : Nat) (acc : Str), PyData.strOk acc = true → (∀ t ∈ ts, PyData.strOk t = true) → PyData.strOk (textFrom k acc ts) = true
  | [], _, _, h, _ => h
  | t :: ts, k, acc, h, hs => by
    unfold textFrom
    refine ok_from ts _ _ (ok_app (ok_app h ?_) (hs t List.mem_cons_self)) fun u hu => hs u (List.mem_cons_of_mem _ hu)
    split <;> decide +kernel
theorem ok_list {ts : List Str} (hs : ∀ t ∈ ts, PyData.strOk t = true) : PyData.strOk (listText ts) = true := by
  unfold listText
  exact ok_app (ok_from ts 0 _ (by decide +kernel) hs) (by decide +kernel)
theorem ok_join {sep : Str} (h : PyData.strOk sep = true) : ∀ {ts : List Str}, (∀ t ∈ ts, PyData.strOk t = true) → PyData.strOk (Str.join sep ts) = true
  | [], _ => by show PyData.strOk Str.empty = true; decide +kernel
  | [x], hs => hs x List.mem_cons_self
  | x :: y :: r, hs => by
    unfold Str.join
    exact ok_app (ok_app (hs x List.mem_cons_self) h) (ok_join h fun u hu => hs u (List.mem_cons_of_mem _ hu))
theorem ok_tup {ts : List Str} (hs : ∀ t ∈ ts, PyData.strOk t = true) : PyData.strOk (tupleText ts) = true := by
  unfold tupleText
  refine ok_app (ok_app (by decide +kernel) (ok_join (by decide +kernel) hs)) ?_
  split <;> decide +kernel
theorem ok_digit {i : Int} (h : 0 ≤ i ∧ i < 10) : PyData.strOk (PyData.int i).shown = true := by
  have : i = 0 ∨ i = 1 ∨ i = 2 ∨ i = 3 ∨ i = 4 ∨ i = 5 ∨ i = 6 ∨ i = 7 ∨ i = 8 ∨ i = 9 := by omega
  rcases this with rfl | rfl | rfl | rfl | rfl | rfl | rfl | rfl | rfl | rfl <;> decide +kernel
theorem ok_word {x : Str} (h : x = "slots" ∨ x = "early" ∨ x = "upward") : PyData.strOk (PyData.str x).shown = true := by
  rcases h with rfl | rfl | rfl <;> decide +kernel
mutual
theorem ok_shown : ∀ d : PyData, good d = true → PyData.strOk d.shown = true
  | .none, _ => by decide +kernel
  | .bool b, _ => by cases b <;> decide +kernel
  | .int i, h => ok_digit (of_decide_eq_true h)
  | .str x, h => ok_word (of_decide_eq_true h)
  | .list xs, h => ok_list (ok_showns xs h)
  | .tuple xs, h => ok_tup (ok_showns xs h)
  | .dict _, h => nomatch h
theorem ok_showns : ∀ ds : List PyData, goods ds = true → ∀ t ∈ PyData.shownAll ds, PyData.strOk t = true
  | [], _, t, ht => by simp [PyData.shownAll] at ht
  | d :: ds, h, t, ht => by
    simp only [goods, Bool.and_eq_true] at h
    simp only [PyData.shownAll, List.mem_cons] at ht
    rcases ht with rfl | ht
    · exact ok_shown d h.1
    · exact ok_showns ds h.2 t ht
end
section
variable {k : Nat} {h : Hs} {p q : Nat} {n : Nat} {ws bs bs' : List Int} {o : Str} {os : List (List Int)} {g i a : Int}
/-- a list's text is the same text -/
theorem repr_same {d : D} {y : PyData} (e : py d = some y) (p : isPtr d = true) (g : good y = true) (z : siz y ≤ 10000) (z2 : y.depth ≤ 60) : ∃ s, reprD h d = some (.str s) ∧ cmpD h .ne (.str s) (.str s) = some false := by
  refine ⟨_, repr_ok e p g z z2, ?_⟩
  have s : (PyData.str y.shown).canLay0 = true := ok_shown y g
  have := ne_of_eq (eq_str (h := h) s s)
  rw [this]
  simp
def ports (n : Nat) (ws : List Int) (o : Str) (os : List (List Int)) : D := .lst [.tup [], insD n o, twos n, .int n, .tup (ws.map D.int), .str o, ovD os]
theorem py_tints (l : List Int) : py (.tup (l.map D.int)) = some (.tuple (l.map PyData.int)) := py_tup (pys_ints l)
theorem twos_is : twos n = .tup ((List.replicate n (2 : Int)).map D.int) := by unfold twos; rw [List.map_replicate]
theorem pys_cons {d : D} {y : PyData} {ds : List D} {ys : List PyData} (e : py d = some y) (f : pys ds = some ys) : pys (d :: ds) = some (y :: ys) := by
  show (match py d with
    | some d => match pys ds with
      | some ds => some (d :: ds)
      | none => none
    | none => none) = _
  rw [e, f]
theorem goods_map {α : Type} {f : α → PyData} : ∀ {l : List α}, (∀ a ∈ l, good (f a) = true) → goods (l.map f) = true
  | [], _ => rfl
  | a :: l, h => by
    rw [List.map_cons]
    unfold goods
    rw [h a List.mem_cons_self, goods_map fun b hb => h b (List.mem_cons_of_mem _ hb)]; rfl
theorem sizs_map {α : Type} {f : α → PyData} {m : Nat} : ∀ {l : List α}, (∀ a ∈ l, siz (f a) ≤ m) → sizs (l.map f) ≤ m * l.length
  | [], _ => by simp [sizs]
  | a :: l, h => by
    rw [List.map_cons]
    unfold sizs
    have h1 := h a List.mem_cons_self
    have h2 := sizs_map (f := f) (m := m) fun b hb => h b (List.mem_cons_of_mem _ hb)
    rw [List.length_cons, Nat.mul_succ]
    omega
theorem tints (l : List Int) (hx : ∀ x ∈ l, 0 ≤ x ∧ x < 10) : good (.tuple (l.map PyData.int)) = true ∧ siz (.tuple (l.map PyData.int)) = l.length + 1 := by
  refine ⟨goods_ints hx, ?_⟩
  show sizs _ + 1 = _
  rw [sizs_ints]
theorem ports_py (P : PlOk n ws o os) : ∃ y, py (ports n ws o os) = some y ∧ good y = true ∧ siz y ≤ 50 := by
  have n1 := P.n1
  have n3 := P.n3
  have l12 := P.l12
  have gw := tints ws fun x hx => by have := P.ws x hx; omega
  have g2 := tints (List.replicate n 2) fun x hx => by have := (List.mem_replicate.mp hx).2; omega
  rw [List.length_replicate] at g2
  obtain ⟨yi, e1, ei, si⟩ : ∃ y, py (insD n o) = some y ∧ good y = true ∧ siz y ≤ 4 := by
    unfold insD
    split
    · exact ⟨.tuple [], rfl, rfl, by decide⟩
    · rw [twos_is]
      exact ⟨_, py_tints _, g2.1, by omega⟩
  have e2 : py (twos n) = some (.tuple ((List.replicate n (2 : Int)).map PyData.int)) := by rw [twos_is]; exact py_tints _
  have hos : os.length ≤ 3 ∧ ∀ l ∈ os, l.Sublist (ri n) := by
    rcases P.op with ⟨_, rfl⟩ | ⟨_, h1, h2⟩
    · exact ⟨by simp, fun l hl => nomatch hl⟩
    · exact ⟨by omega, h2⟩
  have eo : py (ovD os) = some (.tuple (os.map fun l => .tuple (l.map PyData.int))) := py_tup (pys_map (fun l => py_tints l) os)
  have ho : ∀ l ∈ os, good (.tuple (l.map PyData.int)) = true ∧ siz (.tuple (l.map PyData.int)) ≤ 4 := fun l hl => by
    have hs := hos.2 l hl
    have h1 := tints l fun x hx => by have := mem_ri (hs.subset hx); omega
    have h2 := hs.length_le
    rw [ri_len] at h2
    exact ⟨h1.1, by omega⟩
  have go : good (.tuple (os.map fun l => .tuple (l.map PyData.int))) = true := goods_map fun l hl => (ho l hl).1
  have so : siz (.tuple (os.map fun l => .tuple (l.map PyData.int))) ≤ 13 := by
    have := sizs_map (f := fun l => .tuple (l.map PyData.int)) (m := 4) (l := os) fun l hl => (ho l hl).2
    show sizs _ + 1 ≤ 13
    omega
  have hw : good (.str o) = true := by
    refine decide_eq_true ?_
    rcases P.op with ⟨h | h, _⟩ | ⟨h, _⟩
    · exact .inl h
    · exact .inr (.inl h)
    · exact .inr (.inr h)
  refine ⟨_, py_lst (pys_cons (show py (.tup []) = some (.tuple []) from rfl) (pys_cons e1 (pys_cons e2 (pys_cons (show py (.int n) = some (.int n) from rfl) (pys_cons (py_tints ws) (pys_cons (show py (.str o) = some (.str o) from rfl) (pys_cons eo (show pys [] = some [] from rfl)))))))), ?_, ?_⟩
  · have gi : good (.int n) = true := decide_eq_true (by omega)
    have g0 : good (.tuple []) = true := rfl
    show goods _ = true
    simp only [goods, ei, g2.1, gi, gw.1, hw, go, g0, Bool.and_self]
  · show sizs _ + 1 ≤ 50
    have s0 : siz (.tuple []) = 1 := rfl
    have s1 : siz (.int n) = 1 := rfl
    have s2 : siz (.str o) = 1 := rfl
    simp only [sizs, s0, s1, s2, g2.2, gw.2]
    omega
theorem ports_repr (P : PlOk n ws o os) : ∃ s, biD .repr h (ports n ws o os) = some (.str s) ∧ cmpD h .ne (.str s) (.str s) = some false := by
  obtain ⟨y, e, g, z⟩ := ports_py P
  exact repr_same e rfl g (by omega) (by have := (good_ok y g).2.2.2.2; omega)
end
end SI.K15
end
section
set_option Elab.async false
set_option linter.all false
set_option maxRecDepth 100000
set_option maxHeartbeats 1000000
namespace SI.K15
open PySem L2
abbrev lap0 : IS := .set (.t [(.n 3), (.n 4), (.n 5), (.n 6)]) (.call "_law_planner" [(.v 1)])
abbrev lap1 : IS := .set (.n 7) (.make "Planner" [(.v 3), (.v 4), (.v 5), (.v 6)])
abbrev lap2 : IS := .set (.n 8) (.ife (.cmp .eq (.v 5) (.c (.str "slots"))) (.tup []) (.bin .mul (.tup [(.c (.int 2))]) (.v 3)))
abbrev lap3 : IS := .set (.n 9) (.lst false [(.fld (.v 7) "starts"), (.fld (.v 7) "ins"), (.fld (.v 7) "outs"), (.fld (.v 7) "many"), (.fld (.v 7) "wheel"), (.fld (.v 7) "option"), (.fld (.v 7) "over")])
abbrev lap4 : IS := .ife (.cmp .ne (.bi .repr (.v 9)) (.bi .repr (.lst false [(.tup []), (.v 8), (.bin .mul (.tup [(.c (.int 2))]) (.v 3)), (.v 3), (.v 4), (.v 5), (.v 6)]))) [.ret (.c (.bl false))] []
abbrev lap5 : IS := .set (.n 10) (.comp false (.call "_law_row" [(.v 1), (.bin .mul (.tup [(.c (.int 2))]) (.v 3))]) (.n 11) .rng [(.c (.int 20))] none [11])
abbrev lap6 : IS := .set (.n 12) (.comp false (.ife (.cmp .ne (.v 5) (.c (.str "slots"))) (.v 13) (.tup [])) (.n 13) .seq [(.v 10)] none [13])
abbrev lap7 : IS := .set (.n 14) (.call "_law_wheel_run" [(.v 3), (.v 4), (.v 5), (.v 6), (.v 10)])
abbrev lap8 : IS := .set (.n 15) (.call "run_box" [(.v 7), (.tup []), (.v 12)])
abbrev lap9 : IS := .ife (.cmp .ne (.v 15) (.bi .tuple (.comp false (.bi .tuple (.comp false (.bi .int (.cmp .eq (.v 16) (.v 17))) (.n 16) .rng [(.v 3)] none [16])) (.n 17) .seq [(.v 14)] none [17]))) [.ret (.c (.bl false))] []
abbrev lap10 : IS := .set (.n 18) (.meth (.v 7) "begin" [(.tup [])])
abbrev lap11 : IS := .loop (.n 13) .seq [(.v 12)] [.ife (.not (.val (.call "_law_is_state" [(.v 7), (.v 18)]))) [.ret (.c (.bl false))] [], .set (.n 18) (.meth (.v 7) "step" [(.v 18), (.v 13)])]
abbrev lap12 : IS := .ife (.and (.cmp .eq (.v 5) (.c (.str "upward"))) (.val (.call "_law_upward" [(.v 3), (.v 6)]))) [.set (.n 16) (.call "_law_draw" [(.v 1), (.v 3)]), .set (.n 19) (.comp false (.v 20) (.n 20) .rng [(.v 3)] (some (.or (.cmp .eq (.v 20) (.v 16)) (.cmp .isin (.v 16) (.ix (.v 6) (.v 20))))) [20]), .set (.n 21) (.lst true []), .loop (.n 13) .seq [(.v 10)] [.ex (.bm .append (.v 21) [(.bi .tuple (.comp false (.ife (.cmp .isin (.v 20) (.v 19)) (.ix (.v 13) (.v 20)) (.call "_law_draw" [(.v 1), (.c (.int 2))])) (.n 20) .rng [(.v 3)] none [20]))])], .frz 21, .set (.n 22) (.call "run_box" [(.v 7), (.tup []), (.v 21)]), .ife (.cmp .ne (.comp false (.ix (.v 13) (.v 16)) (.n 13) .seq [(.v 15)] none [13]) (.comp false (.ix (.v 13) (.v 16)) (.n 13) .seq [(.v 22)] none [13])) [.ret (.c (.bl false))] []] []
abbrev lapB : List IS := [lap0, lap1, lap2, lap3, lap4, lap5, lap6, lap7, lap8, lap9, lap10, lap11, lap12]
abbrev law0 : IS := .set (.n 1) (.call "_law_pen" [(.v 0)])
abbrev law2 : IS := .par 23 24 (.bin .mul (.lst false [(.tup [(.c (.int 0)), (.c (.int 0))])]) (.c (.int 3))) (.bin .mul (.lst false [(.tup [(.c (.int 1)), (.c (.int 0))])]) (.c (.int 3)))
abbrev law3 : IS := .set (.n 25) (.make "Planner" [(.c (.int 2)), (.tup [(.c (.int 0)), (.c (.int 0)), (.c (.int 1))]), (.c (.str "early")), (.tup [])])
abbrev law4 : IS := .set (.n 12) (.lst false [(.call "run_box" [(.v 25), (.tup []), (.v 23)]), (.call "run_box" [(.v 25), (.tup []), (.v 24)])])
abbrev law5 : IS := .ife (.cmp .ne (.v 12) (.lst false [(.tup [(.tup [(.c (.int 1)), (.c (.int 0))]), (.tup [(.c (.int 1)), (.c (.int 0))]), (.tup [(.c (.int 0)), (.c (.int 1))]), (.tup [(.c (.int 1)), (.c (.int 0))])]), (.tup [(.tup [(.c (.int 1)), (.c (.int 0))]), (.tup [(.c (.int 0)), (.c (.int 1))]), (.tup [(.c (.int 1)), (.c (.int 0))]), (.tup [(.c (.int 0)), (.c (.int 1))])])])) [.ret (.c (.bl false))] []
abbrev law6 : IS := .set (.n 26) (.make "Planner" [(.c (.int 2)), (.tup [(.c (.int 0)), (.c (.int 0)), (.c (.int 1))]), (.c (.str "upward")), (.tup [(.tup [(.c (.int 1))]), (.tup [])])])
abbrev law7 : IS := .ret (.cmp .eq (.call "run_box" [(.v 26), (.tup []), (.v 24)]) (.tup [(.tup [(.c (.int 1)), (.c (.int 0))]), (.tup [(.c (.int 0)), (.c (.int 1))]), (.tup [(.c (.int 0)), (.c (.int 1))]), (.tup [(.c (.int 1)), (.c (.int 0))])]))
theorem law_is : i_law = law0 :: .loop (.n 2) .rng [(.c (.int 4))] lapB :: [law2, law3, law4, law5, law6, law7] := rfl
section
variable {h : Hs} {p q : Nat} {n : Nat} {ws bs bs' : List Int} {o : Str} {os : List (List Int)} {g i a : Int}
/-- what stands in the law's names after the ports -/
structure LapA (p : Nat) (n : Nat) (ws : List Int) (o : Str) (os : List (List Int)) (q : Nat) (env : Nv) : Prop where
  len : env.length = 27
  g1 : get env 1 = some (.ptr p)
  g3 : get env 3 = some (.int n)
  g4 : get env 4 = some (.tup (ws.map D.int))
  g5 : get env 5 = some (.str o)
  g6 : get env 6 = some (ovD os)
  g7 : get env 7 = some (.ptr q)
theorem pen_app {r : Nat} {c : Cell} (x : PenAt r h p) : PenAt r (h ++ [c]) p := by
  obtain ⟨ns, a, g, n, f, h1, h2⟩ := x
  exact ⟨ns, a, g, n, f, get_app h1, h2⟩
theorem pen_lt {r : Nat} (x : PenAt r h p) : p < h.length := by
  obtain ⟨ns, a, g, n, f, h1, h2⟩ := x
  exact (List.getElem?_eq_some_iff.mp h1).1
theorem isS : cmpD h .eq (.str "slots") (.str "slots") = some true := eq_w4
theorem lapA_ok {r : Nat} {env : Nv} (hl : env.length = 27) (h1 : get env 1 = some (.ptr p)) (hp : PenAt (r + 60) h p) :
    ∃ n ws o os q env' h', exs (ex (W 12) 59) [lap0, lap1, lap2, lap3, lap4] env h = .nx env' h' ∧ PlOk n ws o os ∧ LapA p n ws o os q env' ∧ h'[q]? = some (pl n ws o os) ∧ q ≠ p ∧ PenAt r h' p := by
  obtain ⟨n, ws, o, os, h2, e1, P, hp2, sm⟩ := planner (k := 9) hp
  have e1 : (wr txt.pg 12).call "_law_planner" [.ptr p] h = _ := e1
  have e2 : (wr txt.pg 12).make "Planner" [.int n, .tup (ws.map D.int), .str o, ovD os] h2 = _ := make_ok (k := 4) P
  have hq : (h2 ++ [pl n ws o os])[h2.length]? = some (pl n ws o os) := get_last
  generalize hh : h2 ++ [pl n ws o os] = h3 at *
  have as : ∀ (a b c d : D) (env : Nv), asg (.t [(.n 3), (.n 4), (.n 5), (.n 6)]) (.tup [a, b, c, d]) env = some ((((env.set 3 (some a)).set 4 (some b)).set 5 (some c)).set 6 (some d)) := fun _ _ _ _ _ => rfl
  have e3 : ∀ env : Nv, get env 5 = some (.str o) → get env 3 = some (.int n) → ex (W 12) 59 lap2 env h3 = .nx (env.set 8 (some (insD n o))) h3 := fun env g5 g3 => by
    have t0 : binA h3 .mul (.tup [.int 2]) (.int n) = .ok (twos n) h3 := twos_mul P.n1 P.n3
    unfold insD
    rcases wcases P with ⟨rfl, hn, _⟩ | ⟨rfl, hn, _⟩ | ⟨rfl, _⟩
    · rw [if_pos rfl]; simp [lap2, g5, g3, eq_w4]
    · rw [if_neg (by decide +kernel)]; simp [lap2, g5, g3, eq_w5, t0]
    · rw [if_neg (by decide +kernel)]; simp [lap2, g5, g3, eq_w6, t0]
  obtain ⟨s, r1, r2⟩ := ports_repr (h := h3) P
  unfold ports at r1
  have t0 : binA h3 .mul (.tup [.int 2]) (.int n) = .ok (twos n) h3 := twos_mul P.n1 P.n3
  have s0 : ex (W 12) 59 lap0 env h = .nx ((((env.set 3 (some (.int n))).set 4 (some (.tup (ws.map D.int)))).set 5 (some (.str o))).set 6 (some (ovD os))) h2 := by
    simp [lap0, h1, e1, as]
  have gE : ∀ {E : Nv} {j : Nat}, E.length = 27 → get ((((E.set 3 (some (.int n))).set 4 (some (.tup (ws.map D.int)))).set 5 (some (.str o))).set 6 (some (ovD os))) j = if 6 = j then some (ovD os) else if 5 = j then some (.str o) else if 4 = j then some (.tup (ws.map D.int)) else if 3 = j then some (.int n) else get E j := fun hE => by
    rw [get_set (by simp [hE]), get_set (by simp [hE]), get_set (by simp [hE]), get_set (by simp [hE])]
  obtain ⟨E, hE⟩ : ∃ E, E = ((((env.set 3 (some (.int n))).set 4 (some (.tup (ws.map D.int)))).set 5 (some (.str o))).set 6 (some (ovD os))) := ⟨_, rfl⟩
  have gE' : ∀ j, get E j = if 6 = j then some (ovD os) else if 5 = j then some (.str o) else if 4 = j then some (.tup (ws.map D.int)) else if 3 = j then some (.int n) else get env j := fun j => by rw [hE]; exact gE hl
  have lE : E.length = 27 := by rw [hE]; simp [hl]
  rw [← hE] at s0
  have s1 : ex (W 12) 59 lap1 E h2 = .nx (E.set 7 (some (.ptr h2.length))) h3 := by
    simp [lap1, gE', e2]
  have g1 : ∀ j, get (E.set 7 (some (.ptr h2.length))) j = if 7 = j then some (.ptr h2.length) else get E j := fun j => get_set (by omega)
  have s2 := e3 (E.set 7 (some (.ptr h2.length))) (by rw [g1, gE']; rfl) (by rw [g1, gE']; rfl)
  have l2 : (E.set 7 (some (.ptr h2.length))).length = 27 := by rw [len_set]; exact lE
  generalize E.set 7 (some (.ptr h2.length)) = E1 at *
  have g2 : ∀ j, get (E1.set 8 (some (insD n o))) j = if 8 = j then some (insD n o) else get E1 j := fun j => get_set (by omega)
  have l3 : (E1.set 8 (some (insD n o))).length = 27 := by rw [len_set]; exact l2
  generalize E1.set 8 (some (insD n o)) = E2 at *
  have s3 : ex (W 12) 59 lap3 E2 h3 = .nx (E2.set 9 (some (ports n ws o os))) h3 := by
    simp [lap3, g2, g1, gE', fld_starts (k := 11) hq, fld_ins (k := 11) hq, fld_outs (k := 11) hq, fld_many (k := 11) hq, fld_wheel (k := 11) hq, fld_option (k := 11) hq, fld_over (k := 11) hq, ports]
  have g3 : ∀ j, get (E2.set 9 (some (ports n ws o os))) j = if 9 = j then some (ports n ws o os) else get E2 j := fun j => get_set (by omega)
  have l4 : (E2.set 9 (some (ports n ws o os))).length = 27 := by rw [len_set]; exact l3
  generalize E2.set 9 (some (ports n ws o os)) = E3 at *
  have s4 : ex (W 12) 59 lap4 E3 h3 = .nx E3 h3 := by
    have r1' : biD .repr h3 (ports n ws o os) = some (.str s) := r1
    simp [lap4, g3, g2, g1, gE', r1', t0, r1, r2]
  refine ⟨n, ws, o, os, h2.length, E3, h3, ?_, P, ⟨l4, ?_, ?_, ?_, ?_, ?_, ?_⟩, hq, ?_, ?_⟩
  · rw [exs_cons, s0, then_nx, exs_cons, s1, then_nx, exs_cons, s2, then_nx, exs_cons, s3, then_nx, exs_cons, s4, then_nx, exs_nil]
  · rw [g3, g2, g1, gE']; exact h1
  · rw [g3, g2, g1, gE']; rfl
  · rw [g3, g2, g1, gE']; rfl
  · rw [g3, g2, g1, gE']; rfl
  · rw [g3, g2, g1, gE']; rfl
  · rw [g3, g2, g1]; rfl
  · have := pen_lt hp2; omega
  · rw [← hh]; exact pen_app hp2
end
end SI.K15
end
section
set_option Elab.async false
set_option linter.all false
set_option maxRecDepth 100000
set_option maxHeartbeats 1000000
namespace SI.K15
open PySem L2
section
variable {h : Hs} {p q : Nat} {n : Nat} {ws bs bs' : List Int} {o : Str} {os : List (List Int)} {g i a : Int}
theorem bits_of {bs : List Int} (R : Row n bs) : Bits n bs := ⟨R.1, fun b hb => by rcases R.2 b hb with rfl | rfl <;> omega⟩
theorem paired_rows {xs ys : List D} (pr : Paired (fun _ y => ∃ bs, y = bitsD bs ∧ Bits n bs) xs ys) : ∃ rs : List (List Int), ys = rs.map bitsD ∧ (∀ bs ∈ rs, Bits n bs) ∧ rs.length = xs.length := by
  induction pr with
  | nil => exact ⟨[], rfl, (fun b hb => nomatch hb), rfl⟩
  | cons r _ ih =>
    obtain ⟨bs, rfl, hb⟩ := r
    obtain ⟨rs, rfl, h2, h3⟩ := ih
    refine ⟨bs :: rs, rfl, fun b hm => ?_, by simp [h3]⟩
    rcases List.mem_cons.mp hm with rfl | hm
    · exact hb
    · exact h2 b hm
/-- twenty rows -/
theorem lap5_ok {r : Nat} {env : Nv} (P : PlOk n ws o os) (L : LapA p n ws o os q env) (hp : PenAt (r + 60) h p) :
    ∃ (rs : List (List Int)) (h' : Hs), ex (W 12) 59 lap5 env h = .nx (env.set 10 (some (.lst (rs.map bitsD)))) h' ∧ (∀ bs ∈ rs, Bits n bs) ∧ rs.length = 20 ∧ PenAt r h' p ∧ Same p h h' := by
  have n3 := P.n3
  obtain ⟨ys, h', e, ⟨hp', sm⟩, hr⟩ := comp_inv (f := turnF (.n 11) (fun _ h => .ok true h) (ev (W 12) 57 (.call "_law_row" [(.v 1), (.bin .mul (.tup [(.c (.int 2))]) (.v 3))])) (wipeE env [11])) (R := fun _ y => ∃ bs, y = bitsD bs ∧ Bits n bs) (I := fun j g => PenAt (r + 3 * j) g p ∧ Same p h g) (xs := (ri 20).map D.int) (h := h)
    ⟨by simpa [ri_len] using hp, Same.refl p h⟩ (fun x hx j g ⟨hp, sm⟩ => by
      obtain ⟨bs, h', e, R, hp', sm'⟩ := row_ok (k := 10) (r := r + 3 * j) (n := n) (hp.mono (by omega)) (by omega)
      have e : (wr txt.pg 12).call "_law_row" [.ptr p, twos n] g = .ok (.tup (bs.map D.int)) h' := e
      have t0 : binA g .mul (.tup [.int 2]) (.int n) = .ok (twos n) g := twos_mul P.n1 P.n3
      have w1 : ∀ x : D, get (env.set 11 (some x)) 1 = _ := fun x => (get_set (by rw [L.len]; decide)).trans (by rw [if_neg (by decide), L.g1])
      have w3 : ∀ x : D, get (env.set 11 (some x)) 3 = _ := fun x => (get_set (by rw [L.len]; decide)).trans (by rw [if_neg (by decide), L.g3])
      exact ⟨bitsD bs, h', by simp [turnF, wipeE, w1, w3, t0, e, bitsD], ⟨hp', sm.trans sm'⟩, bs, rfl, bits_of R⟩)
  obtain ⟨rs, rfl, h2, h3⟩ := paired_rows hr
  refine ⟨rs, h', ?_, h2, by simpa [ri_len] using h3, by simpa using hp', sm⟩
  have c := comp_run (G := W 12) (n := 57) (m := false) (e := .call "_law_row" [(.v 1), (.bin .mul (.tup [(.c (.int 2))]) (.v 3))]) (t := .n 11) (k := .rng) (as := [(.c (.int 20))]) (i := none) (own := [11]) (env := env) (h := h) (h1 := h) (ds := [.int (20 : Nat)]) (xs := (ri 20).map D.int) rfl (src_rng (by decide)) (by rw [List.length_map, ri_len]; show _ ≤ 16777216; decide) e
  simp only [lap5, ex_set]
  rw [c]
  rfl
/-- what is told -/
theorem lap6_ok {env : Nv} {rs : List (List Int)} (P : PlOk n ws o os) (L : LapA p n ws o os q env) (g10 : get env 10 = some (.lst (rs.map bitsD))) (hl : rs.length = 20) :
    ex (W 12) 59 lap6 env h = .nx (env.set 12 (some (.lst (rs.map (rowD o))))) h := by
  have e : compLoop (turnF (.n 13) (fun _ h => .ok true h) (ev (W 12) 57 (.ife (.cmp .ne (.v 5) (.c (.str "slots"))) (.v 13) (.tup []))) (wipeE env [13])) (rs.map bitsD) h = .ok (rs.map (rowD o)) h := by
    have : rs.map (rowD o) = (rs.map bitsD).map fun d => if o = "slots" then .tup [] else d := by
      rw [List.map_map]
      apply List.map_congr_left
      intro bs _
      rfl
    rw [this, comp_map]
    intro x hx
    have w5 : get (env.set 13 (some x)) 5 = _ := (get_set (by rw [L.len]; decide)).trans (by rw [if_neg (by decide), L.g5])
    have w13 : get (env.set 13 (some x)) 13 = some x := (get_set (by rw [L.len]; decide)).trans (by rw [if_pos rfl])
    rcases wcases P with ⟨rfl, hn, _⟩ | ⟨rfl, hn, _⟩ | ⟨rfl, _⟩
    · rw [if_pos rfl]; simp [turnF, wipeE, w5, w13, ne_of_eq eq_w4]
    · rw [if_neg (by decide +kernel)]; simp [turnF, wipeE, w5, w13, ne_of_eq eq_w5]
    · rw [if_neg (by decide +kernel)]; simp [turnF, wipeE, w5, w13, ne_of_eq eq_w6]
  have c := comp_run (G := W 12) (n := 57) (m := false) (e := .ife (.cmp .ne (.v 5) (.c (.str "slots"))) (.v 13) (.tup [])) (t := .n 13) (k := .seq) (as := [(.v 10)]) (i := none) (own := [13]) (env := env) (h := h) (h1 := h) (ds := [.lst (rs.map bitsD)]) (xs := rs.map bitsD) (by simp [g10]) rfl (by rw [List.length_map]; show _ ≤ 16777216; omega) e
  simp only [lap6, ex_set]
  rw [c]
  rfl
end
end SI.K15
end
section
set_option Elab.async false
set_option linter.all false
set_option maxRecDepth 100000
set_option maxHeartbeats 1000000
namespace SI.K15
open PySem L2
theorem dep_map {α : Type} {f : α → PyData} {m : Nat} : ∀ {l : List α}, (∀ a ∈ l, (f a).depth ≤ m) → PyData.depthAll (l.map f) ≤ m
  | [], _ => by simp [PyData.depthAll]
  | a :: l, h => by
    have h1 := h a List.mem_cons_self
    have h2 := dep_map (f := f) (m := m) fun b hb => h b (List.mem_cons_of_mem _ hb)
    simp only [List.map_cons, PyData.depthAll]
    omega
theorem lay_map {α : Type} {f : α → PyData} : ∀ {l : List α}, (∀ a ∈ l, (f a).canLay0 = true) → PyData.canLayAll0 (l.map f) = true
  | [], _ => rfl
  | a :: l, h => by
    simp only [List.map_cons, PyData.canLayAll0, h a List.mem_cons_self, lay_map fun b hb => h b (List.mem_cons_of_mem _ hb), Bool.and_self]
def hotL (n : Nat) (g : Int) : List Int := (ri n).map fun i => if i == g then 1 else 0
theorem hot_is (n : Nat) (g : Int) : hot n g = .tup ((hotL n g).map D.int) := by
  unfold hot hotL
  rw [List.map_map]; rfl
theorem hots_same {h : Hs} {n : Nat} (gs : List Int) : cmpD h .ne (.tup (gs.map (hot n))) (.tup (gs.map (hot n))) = some false := by
  have e : py (.tup (gs.map (hot n))) = some (.tuple (gs.map fun g => .tuple ((hotL n g).map PyData.int))) := py_tup (pys_map (fun g => by rw [hot_is]; exact py_tints _) gs)
  have s : SeqAt.shaped (.tuple (gs.map fun g => .tuple ((hotL n g).map PyData.int))) = true := by
    have h1 : PyData.canLayAll0 (gs.map fun g => .tuple ((hotL n g).map PyData.int)) = true := lay_map fun g _ => lay_ints _
    have h2 : PyData.depthAll (gs.map fun g => .tuple ((hotL n g).map PyData.int)) ≤ 1 := dep_map fun g _ => by
      show PyData.depthAll _ + 1 ≤ 1
      rw [dep_ints]; exact Nat.le_refl _
    unfold SeqAt.shaped
    have h3 : PyData.depth (.tuple (gs.map fun g => .tuple ((hotL n g).map PyData.int))) ≤ 64 := by
      show PyData.depthAll _ + 1 ≤ 64
      omega
    rw [decide_eq_true h3]
    show (PyData.canLayAll0 _ && true) = true
    rw [h1]; rfl
  exact ne_of_eq (b := true) (eqD_same e s)
section
variable {h : Hs} {p q : Nat} {n : Nat} {ws bs bs' : List Int} {o : Str} {os : List (List Int)} {g i a : Int}
theorem goersF_len : ∀ (rs : List (List Int)) (p : Nat), (goersF n ws o os p rs).length = rs.length
  | [], _ => rfl
  | _ :: rs, _ => by unfold goersF; rw [List.length_cons, List.length_cons, goersF_len rs]
theorem lap7_ok {env : Nv} {rs : List (List Int)} (P : PlOk n ws o os) (L : LapA p n ws o os q env) (g10 : get env 10 = some (.lst (rs.map bitsD))) (hr : ∀ bs ∈ rs, Bits n bs) (hl : rs.length = 20) :
    ex (W 12) 59 lap7 env h = .nx (env.set 14 (some (.lst ((goers n ws o os rs).map D.int)))) (h ++ [.dead]) := by
  have e : (wr txt.pg 12).call "_law_wheel_run" [.int n, .tup (ws.map D.int), .str o, ovD os, .lst (rs.map bitsD)] h = _ := wheel_run_ok (k := 10) P hr (by omega)
  simp [lap7, L.g3, L.g4, L.g5, L.g6, g10, e]
theorem lap8_ok {env : Nv} {rs : List (List Int)} (P : PlOk n ws o os) (L : LapA p n ws o os q env) (hq : h[q]? = some (pl n ws o os)) (g12 : get env 12 = some (.lst (rs.map (rowD o)))) (hr : ∀ bs ∈ rs, Bits n bs) (hl : rs.length = 20) :
    ex (W 12) 59 lap8 env h = .nx (env.set 15 (some (.tup ((goers n ws o os rs).map (hot n))))) (h ++ [.lst ((goers n ws o os rs).map (hot n))]) := by
  have e : (wr txt.pg 12).call "run_box" [.ptr q, .tup [], .lst (rs.map (rowD o))] h = _ := run_box_ok (k := 6) P hq hr (by omega)
  simp [lap8, L.g7, g12, e]
theorem tup_l {xs : List D} : biD .tuple h (.lst xs) = some (.tup xs) := rfl
theorem lap9_ok {env : Nv} {gs : List Int} (P : PlOk n ws o os) (L : LapA p n ws o os q env) (g14 : get env 14 = some (.lst (gs.map D.int))) (g15 : get env 15 = some (.tup (gs.map (hot n)))) (hl : gs.length ≤ 1000) :
    ex (W 12) 59 lap9 env h = .nx env h := by
  have n3 := P.n3
  have e : compLoop (turnF (.n 17) (fun _ h => .ok true h) (ev (W 12) 54 (.bi .tuple (.comp false (.bi .int (.cmp .eq (.v 16) (.v 17))) (.n 16) .rng [(.v 3)] none [16]))) (wipeE env [17])) (gs.map D.int) h = .ok (gs.map (hot n)) h := by
    have : gs.map (hot n) = (gs.map D.int).map fun d => match d with
        | .int g => hot n g
        | d => d := by rw [List.map_map]; rfl
    rw [this, comp_map]
    intro x hx
    obtain ⟨g, hg, rfl⟩ := List.mem_map.mp hx
    have w3 : get (env.set 17 (some (.int g))) 3 = _ := (get_set (by rw [L.len]; decide)).trans (by rw [if_neg (by decide), L.g3])
    have e2 : compLoop (turnF (.n 16) (fun _ h => .ok true h) (ev (W 12) 52 (.bi .int (.cmp .eq (.v 16) (.v 17)))) (wipeE (env.set 17 (some (.int g))) [16])) ((ri n).map D.int) h = .ok ((hotL n g).map D.int) h := by
      have : (hotL n g).map D.int = ((ri n).map D.int).map fun d => match d with
        | .int i => .int (if i == g then 1 else 0)
        | d => d := by unfold hotL; rw [List.map_map, List.map_map]; rfl
      rw [this, comp_map]
      intro x hx
      obtain ⟨i, hi, rfl⟩ := List.mem_map.mp hx
      have l17 : (env.set 17 (some (.int g))).length = 27 := by rw [len_set, L.len]
      have v16 : get ((env.set 17 (some (.int g))).set 16 (some (.int i))) 16 = _ := (get_set (by rw [l17]; decide)).trans (if_pos rfl)
      have v17 : get ((env.set 17 (some (.int g))).set 16 (some (.int i))) 17 = some (.int g) := (get_set (by rw [l17]; decide)).trans (by rw [if_neg (by decide)]; exact (get_set (by rw [L.len]; decide)).trans (if_pos rfl))
      simp [turnF, wipeE, v16, v17, bl_int]
    have c := comp_run (G := W 12) (n := 52) (m := false) (e := .bi .int (.cmp .eq (.v 16) (.v 17))) (t := .n 16) (k := .rng) (as := [(.v 3)]) (i := none) (own := [16]) (env := env.set 17 (some (.int g))) (h := h) (h1 := h) (ds := [.int n]) (xs := (ri n).map D.int) (by simp [w3]) (src_rng (by omega)) (by rw [List.length_map, ri_len]; exact small3 n3) e2
    simp only [turnF, wipeE, asg_n, List.set_set, of_some, Res.bind_ok, if_true, ev_bi]
    rw [c]
    simp only [reL_f, Res.bind_ok, tup_l, of_some, hot_is]
    rfl
  have c := comp_run (G := W 12) (n := 54) (m := false) (e := .bi .tuple (.comp false (.bi .int (.cmp .eq (.v 16) (.v 17))) (.n 16) .rng [(.v 3)] none [16])) (t := .n 17) (k := .seq) (as := [(.v 14)]) (i := none) (own := [17]) (env := env) (h := h) (h1 := h) (ds := [.lst (gs.map D.int)]) (xs := gs.map D.int) (by simp [g14]) rfl (by rw [List.length_map]; show _ ≤ 16777216; omega) e
  simp only [lap9, ex_ife, evT_cmp, ev_cmp, ev_v, g15, of_some, Res.bind_ok, ev_bi]
  rw [c]
  simp [tup_l, hots_same]
end
end SI.K15
end
section
set_option Elab.async false
set_option linter.all false
set_option maxRecDepth 100000
set_option maxHeartbeats 1000000
namespace SI.K15
open PySem L2
section
variable {h : Hs} {p q : Nat} {n : Nat} {ws bs bs' : List Int} {o : Str} {os : List (List Int)} {g i a : Int}
theorem lap10_ok {env : Nv} (P : PlOk n ws o os) (L : LapA p n ws o os q env) (hq : h[q]? = some (pl n ws o os)) :
    ex (W 12) 59 lap10 env h = .nx (env.set 18 (some (stD o 0 (gi ws 0)))) h := by
  have cl : clsOf (wr txt.pg 12) h (.ptr q) "begin" = some ("Planner" : Str) := cls_of (k := 11) hq (by kernel_rfl)
  have e : (wr txt.pg 12).meth "Planner" "begin" [.ptr q, .tup []] h = _ := begin_ok (k := 10) P hq
  simp [lap10, L.g7, cl, e]
abbrev lap11B : List IS := [.ife (.not (.val (.call "_law_is_state" [(.v 7), (.v 18)]))) [.ret (.c (.bl false))] [], .set (.n 18) (.meth (.v 7) "step" [(.v 18), (.v 13)])]
theorem lap11_ok {env : Nv} {rs : List (List Int)} (P : PlOk n ws o os) (L : LapA p n ws o os q env) (hq : h[q]? = some (pl n ws o os)) (g12 : get env 12 = some (.lst (rs.map (rowD o)))) (g18 : get env 18 = some (stD o 0 (gi ws 0))) (hr : ∀ bs ∈ rs, Bits n bs) :
    ∃ env', ex (W 12) 59 lap11 env h = .nx env' h ∧ env'.length = 27 ∧ ∀ j, j ≠ 13 → j ≠ 18 → get env' j = get env j := by
  have h0 : 0 < ws.length := List.length_pos_iff.mpr P.ne
  obtain ⟨env', h', f, r, l', same, g18', -⟩ := for_inv (f := bodyF (W 12) 58 (.n 13) lap11B) (I := fun _ env' h' => h' = h ∧ env'.length = 27 ∧ (∀ j, j ≠ 13 → j ≠ 18 → get env' j = get env j) ∧ ∃ (p : Nat) (g : Int), get env' 18 = some (stD o p g) ∧ p < ws.length ∧ 0 ≤ g ∧ g ≤ n) (xs := rs.map (rowD o)) (env := env) (h := h)
    ⟨rfl, L.len, fun _ _ _ => rfl, 0, gi ws 0, g18, h0, (gi_bd P h0).1, (gi_bd P h0).2⟩ fun x hx _ E h' i => by
      obtain ⟨rfl, lE, same, p, g, gE, hp, hg0, hg1⟩ := i
      obtain ⟨bs, hm, rfl⟩ := List.mem_map.mp hx
      have B := hr bs hm
      have g7 : get (E.set 13 (some (rowD o bs))) 7 = some (.ptr q) := (get_set (by rw [lE]; decide)).trans (by rw [if_neg (by decide), same 7 (by decide) (by decide), L.g7])
      have g18 : get (E.set 13 (some (rowD o bs))) 18 = some (stD o p g) := (get_set (by rw [lE]; decide)).trans (by rw [if_neg (by decide), gE])
      have g13 : get (E.set 13 (some (rowD o bs))) 13 = some (rowD o bs) := (get_set (by rw [lE]; decide)).trans (if_pos rfl)
      have e1 : (wr txt.pg 12).call "_law_is_state" [.ptr q, stD o p g] h' = .ok (.bl true) h' := is_state_ok (k := 10) P hq hp ⟨hg0, hg1⟩
      have cl : clsOf (wr txt.pg 12) h' (.ptr q) "step" = some ("Planner" : Str) := cls_of (k := 11) hq (by kernel_rfl)
      have e2 : (wr txt.pg 12).meth "Planner" "step" [.ptr q, stD o p g, rowD o bs] h' = _ := step_ok (k := 9) P hq hp B.1
      have np := nextP_lt (n := n) (ws := ws) (o := o) (p := p) (bs := bs) h0
      have gb := goP_bd (bs := bs) P np
      refine ⟨(E.set 13 (some (rowD o bs))).set 18 (some (stD o (nextP n ws o p bs) (goP n ws o os (nextP n ws o p bs) bs))), h', ?_, rfl, by rw [len_set, len_set, lE], fun j h1 h2 => ?_, _, _, (get_set (by rw [len_set, lE]; decide)).trans (if_pos rfl), np, gb.1, gb.2⟩
      · simp [bodyF, lap11B, g7, g18, g13, e1, cl, e2]
      · rw [get_set (by rw [len_set, lE]; decide), if_neg (fun e => h2 e.symm), get_set (by rw [lE]; decide), if_neg (fun e => h1 e.symm)]
        exact same j h1 h2
  subst r
  exact ⟨env', loop_run (n := 58) (h1 := h') (ds := [.lst (rs.map (rowD o))]) (by simp [g12]) rfl f, l', same⟩
end
end SI.K15
end
section
set_option Elab.async false
set_option linter.all false
set_option maxRecDepth 100000
set_option maxHeartbeats 1000000
namespace SI.K15
open PySem L2
abbrev up0 : IS := .set (.n 16) (.call "_law_draw" [(.v 1), (.v 3)])
abbrev up1 : IS := .set (.n 19) (.comp false (.v 20) (.n 20) .rng [(.v 3)] (some (.or (.cmp .eq (.v 20) (.v 16)) (.cmp .isin (.v 16) (.ix (.v 6) (.v 20))))) [20])
abbrev up2 : IS := .set (.n 21) (.lst true [])
abbrev up3 : IS := .loop (.n 13) .seq [(.v 10)] [.ex (.bm .append (.v 21) [(.bi .tuple (.comp false (.ife (.cmp .isin (.v 20) (.v 19)) (.ix (.v 13) (.v 20)) (.call "_law_draw" [(.v 1), (.c (.int 2))])) (.n 20) .rng [(.v 3)] none [20]))])]
abbrev up4 : IS := .frz 21
abbrev up5 : IS := .set (.n 22) (.call "run_box" [(.v 7), (.tup []), (.v 21)])
abbrev up6 : IS := .ife (.cmp .ne (.comp false (.ix (.v 13) (.v 16)) (.n 13) .seq [(.v 15)] none [13]) (.comp false (.ix (.v 13) (.v 16)) (.n 13) .seq [(.v 22)] none [13])) [.ret (.c (.bl false))] []
theorem lap12_is : lap12 = .ife (.and (.cmp .eq (.v 5) (.c (.str "upward"))) (.val (.call "_law_upward" [(.v 3), (.v 6)]))) [up0, up1, up2, up3, up4, up5, up6] [] := rfl
def known (n : Nat) (os : List (List Int)) (i : Int) : List Int := (ri n).filter fun j => j == i || (lot os j).contains i
section
variable {h : Hs} {p q : Nat} {n : Nat} {ws bs bs' : List Int} {o : Str} {os : List (List Int)} {g i a : Int}
theorem get_eq {env : Nv} {m : Nat} {v : D} (hi : m < env.length) : get (env.set m (some v)) m = some v := (get_set hi).trans (if_pos rfl)
theorem get_ne {env : Nv} {m j : Nat} {v : D} (hi : m < env.length) (e : m ≠ j) : get (env.set m (some v)) j = get env j := (get_set hi).trans (if_neg e)
theorem up1_ok {env : Nv} (P : PlOk n ws o os) (hol : os.length = n) (L : LapA p n ws o os q env) (g16 : get env 16 = some (.int i)) :
    ex (W 12) 58 up1 env h = .nx (env.set 19 (some (.lst ((known n os i).map D.int)))) h := by
  have n3 := P.n3
  have e : compLoop (turnF (.n 20) (ifsF (W 12) 56 (some (.or (.cmp .eq (.v 20) (.v 16)) (.cmp .isin (.v 16) (.ix (.v 6) (.v 20)))))) (ev (W 12) 56 (.v 20)) (wipeE env [20])) ((ri n).map D.int) h = .ok ((known n os i).map D.int) h := by
    unfold known
    rw [← filter_d, comp_pure]
    intro x hx
    obtain ⟨j, hj, rfl⟩ := List.mem_map.mp hx
    have jb := mem_ri hj
    have v20 : get (env.set 20 (some (.int j))) 20 = _ := get_eq (by rw [L.len]; decide)
    have v16 : get (env.set 20 (some (.int j))) 16 = _ := (get_ne (by rw [L.len]; decide) (by decide)).trans g16
    have v6 : get (env.set 20 (some (.int j))) 6 = _ := (get_ne (by rw [L.len]; decide) (by decide)).trans L.g6
    have il := ix_lot (h := h) jb.1 jb.2 hol
    cases h1 : j == i with
    | true => simp [turnF, wipeE, v20, v16, h1]
    | false =>
      by_cases h2 : i ∈ lot os j <;> simp [turnF, wipeE, v20, v16, v6, h1, il, isin_t, h2]
  have c := comp_run (G := W 12) (n := 56) (m := false) (e := .v 20) (t := .n 20) (k := .rng) (as := [(.v 3)]) (i := some (.or (.cmp .eq (.v 20) (.v 16)) (.cmp .isin (.v 16) (.ix (.v 6) (.v 20))))) (own := [20]) (env := env) (h := h) (h1 := h) (ds := [.int n]) (xs := (ri n).map D.int) (by simp [L.g3]) (src_rng (by omega)) (by rw [List.length_map, ri_len]; exact small3 n3) e
  simp only [up1, ex_set]
  rw [c]
  rfl
end
end SI.K15
end
section
set_option Elab.async false
set_option linter.all false
set_option maxRecDepth 100000
set_option maxHeartbeats 1000000
namespace SI.K15
open PySem L2
section
variable {h : Hs} {p q : Nat} {n : Nat} {ws bs bs' : List Int} {o : Str} {os : List (List Int)} {g i a : Int}
theorem paired_row {R : Int → Int → Prop} : ∀ {l : List Int} {ys : List D}, Paired (fun x y => ∃ j b : Int, x = .int j ∧ y = .int b ∧ R j b) (l.map D.int) ys → ∃ b' : List Int, ys = b'.map D.int ∧ b'.length = l.length ∧ (∀ b ∈ b', ∃ j, R j b) ∧ ∀ m : Nat, m < l.length → R (gi l m) (gi b' m)
  | [], _, pr => by
    cases pr
    exact ⟨[], rfl, rfl, (fun b hb => nomatch hb), fun m hm => absurd hm (Nat.not_lt_zero m)⟩
  | x :: l, _, pr => by
    rw [List.map_cons] at pr
    cases pr with
    | cons r t =>
      obtain ⟨j, b, hx, rfl, hr⟩ := r
      cases hx
      obtain ⟨b', rfl, hl, hb, hm⟩ := paired_row t
      refine ⟨b :: b', rfl, by simp [hl], fun c hc => ?_, fun m hlt => ?_⟩
      · rcases List.mem_cons.mp hc with rfl | hc
        · exact ⟨_, hr⟩
        · exact hb c hc
      · cases m with
        | zero => exact hr
        | succ m => exact hm m (by simpa using hlt)
theorem gi_ri {m : Nat} (hm : m < n) : gi (ri n) m = m := by
  unfold gi ri
  simp [List.getD, hm]
abbrev rowE : IE := .ife (.cmp .isin (.v 20) (.v 19)) (.ix (.v 13) (.v 20)) (.call "_law_draw" [(.v 1), (.c (.int 2))])
/-- one row of the second run -/
theorem row2_ok {r m : Nat} {env : Nv} (n3 : n ≤ 3) (le : env.length = 27) (g1 : get env 1 = some (.ptr p)) (g3 : get env 3 = some (.int n)) (g13 : get env 13 = some (bitsD bs)) (g19 : get env 19 = some (.lst ((known n os i).map D.int))) (B : Bits n bs) (hp : PenAt (r + 3) h p) :
    ∃ bs' h', ev (W 12) (m + 30) (.comp false rowE (.n 20) .rng [(.v 3)] none [20]) env h = .ok (.lst (bs'.map D.int)) h' ∧ Bits n bs' ∧ Agree n os i bs bs' ∧ PenAt r h' p ∧ Same p h h' := by
  obtain ⟨ys, h', e, ⟨hp', sm⟩, hr⟩ := comp_inv (f := turnF (.n 20) (fun _ h => .ok true h) (ev (W 12) (m + 29) rowE) (wipeE env [20])) (R := fun x y => ∃ j b : Int, x = .int j ∧ y = .int b ∧ ((0 ≤ b ∧ b < 2) ∧ (j ∈ known n os i → b = gbit bs j))) (I := fun j g => PenAt (r + j) g p ∧ Same p h g) (xs := (ri n).map D.int) (h := h)
    ⟨by rw [List.length_map, ri_len]; exact hp.mono (by omega), Same.refl p h⟩ (fun x hx t g ⟨hp, sm⟩ => by
      obtain ⟨j, hj, rfl⟩ := List.mem_map.mp hx
      have jb := mem_ri hj
      have v20 : get (env.set 20 (some (.int j))) 20 = _ := get_eq (by rw [le]; decide)
      have v19 : get (env.set 20 (some (.int j))) 19 = _ := (get_ne (by rw [le]; decide) (by decide)).trans g19
      have v13 : get (env.set 20 (some (.int j))) 13 = _ := (get_ne (by rw [le]; decide) (by decide)).trans g13
      have v1 : get (env.set 20 (some (.int j))) 1 = _ := (get_ne (by rw [le]; decide) (by decide)).trans g1
      have ib : ixD g (bitsD bs) (.int j) = some (.int (gbit bs j)) := ix_bit jb.1 jb.2 B.1
      by_cases hk : j ∈ known n os i
      · have b2 : 0 ≤ gbit bs j ∧ gbit bs j < 2 := by
          have hl := B.1
          have hj2 : j.toNat < bs.length := by omega
          have : gbit bs j ∈ bs := by
            unfold gbit
            rw [List.getD, List.getElem?_eq_getElem hj2]
            exact List.getElem_mem hj2
          exact B.2 _ this
        exact ⟨.int (gbit bs j), g, by simp [turnF, wipeE, v20, v19, v13, isin_l, hk, ib], ⟨hp.mono (by omega), sm⟩, j, _, rfl, rfl, b2, fun _ => rfl⟩
      · obtain ⟨d, h', e, d0, d1, hp', sm'⟩ := draws (k := 11) (r + t) 2 g p hp (by decide) (by decide)
        have e : (wr txt.pg 12).call "_law_draw" [.ptr p, .int 2] g = .ok (.int d) h' := e
        exact ⟨.int d, h', by simp [turnF, wipeE, v20, v19, v1, isin_l, hk, e], ⟨hp', sm.trans sm'⟩, j, d, rfl, rfl, ⟨d0, d1⟩, fun hx => absurd hx hk⟩)
  obtain ⟨b', rfl, hl, hb, hm⟩ := paired_row hr
  rw [ri_len] at hl hm
  refine ⟨b', h', ?_, ⟨hl, fun b hb' => (hb b hb').elim fun _ x => x.1⟩, fun j j0 j1 hj => ?_, by simpa using hp', sm⟩
  · exact comp_run (n := m + 29) (h1 := h) (ds := [.int n]) (xs := (ri n).map D.int) (by simp [g3]) (src_rng (by omega)) (by rw [List.length_map, ri_len]; exact small3 n3) e
  · obtain ⟨t, rfl⟩ := Int.eq_ofNat_of_zero_le j0
    have ht : t < n := by omega
    have h2 := (hm t ht).2
    rw [gi_ri ht] at h2
    have hk : (t : Int) ∈ known n os i := by
      unfold known
      refine List.mem_filter.mpr ⟨List.mem_map.mpr ⟨t, List.mem_range.mpr ht, rfl⟩, ?_⟩
      rcases hj with h | h
      · simp [h]
      · simp [h]
    exact (h2 hk).symm
end
end SI.K15
end
section
set_option Elab.async false
set_option linter.all false
set_option maxRecDepth 100000
set_option maxHeartbeats 1000000
namespace SI.K15
open PySem L2
section
variable {h : Hs} {p q f : Nat} {n : Nat} {ws bs bs' : List Int} {o : Str} {os : List (List Int)} {g i a : Int}
theorem app_at {xs : List D} {y : D} (e : h[f]? = some (.lst xs)) (hl : xs.length < 1000) : meOk .append h (.ptr f) = true ∧ meD .append h (.ptr f) [y] = .ok .non (h.set f (.lst (xs ++ [y]))) := by
  have e2 : meC .append (.lst xs) [y] = some (.non, .lst (xs ++ [y])) := by
    show (if xs.length < LINE then some (D.non, Cell.lst (xs ++ [y])) else none) = _
    have z : xs.length < LINE := by show _ < 16777216; omega
    rw [if_pos z]
  constructor
  · unfold meOk
    simp only [e]
    rfl
  · unfold meD
    simp only [e, e2]
theorem set_at {c : Cell} (hf : f < h.length) : (h.set f c)[f]? = some c := by simp [hf]
theorem set_ne {c : Cell} (e : f ≠ q) : (h.set f c)[q]? = h[q]? := by rw [List.getElem?_set]; simp [e]
theorem pen_set_ne {r : Nat} {c : Cell} (x : PenAt r h p) (e : f ≠ p) : PenAt r (h.set f c) p := by
  obtain ⟨ns, a, g, n, t, h1, h2⟩ := x
  exact ⟨ns, a, g, n, t, by rw [set_ne e]; exact h1, h2⟩
theorem lt_of {c : Cell} (e : h[f]? = some c) : f < h.length := (List.getElem?_eq_some_iff.mp e).1
abbrev up3B : List IS := [.ex (.bm .append (.v 21) [(.bi .tuple (.comp false rowE (.n 20) .rng [(.v 3)] none [20]))])]
theorem up3_is : up3 = .loop (.n 13) .seq [(.v 10)] up3B := rfl
theorem up3_loop (n3 : n ≤ 3) (hfp : f ≠ p) (hfq : f ≠ q) (hqp : q ≠ p) {r : Nat} : ∀ (rs done : List (List Int)) (E : Nv) (h : Hs), E.length = 27 → get E 1 = some (.ptr p) → get E 3 = some (.int n) → get E 19 = some (.lst ((known n os i).map D.int)) → get E 21 = some (.ptr f) →
    (∀ bs ∈ rs, Bits n bs) → done.length + rs.length < 900 → h[f]? = some (.lst (done.map bitsD)) → h[q]? = some (pl n ws o os) → PenAt (r + 3 * rs.length) h p →
    ∃ rs' E' h', forLoop (bodyF (W 12) 57 (.n 13) up3B) (rs.map bitsD) E h = .nx E' h' ∧ E'.length = 27 ∧ (∀ j, j ≠ 13 → get E' j = get E j) ∧ Paired2 (Agree n os i) rs rs' ∧ (∀ bs ∈ rs', Bits n bs) ∧ rs'.length = rs.length ∧ h'[f]? = some (.lst ((done ++ rs').map bitsD)) ∧ h'[q]? = some (pl n ws o os) ∧ PenAt r h' p
  | [], done, E, h, lE, _, _, _, _, _, _, hf, hq, hp => ⟨[], E, h, rfl, lE, fun _ _ => rfl, .nil, (fun _ hb => nomatch hb), rfl, by simpa using hf, hq, by simpa using hp⟩
  | bs :: rs, done, E, h, lE, g1, g3, g19, g21, hb, hl, hf, hq, hp => by
    have B := hb bs List.mem_cons_self
    have v1 : get (E.set 13 (some (bitsD bs))) 1 = _ := (get_ne (by rw [lE]; decide) (by decide)).trans g1
    have v3 : get (E.set 13 (some (bitsD bs))) 3 = _ := (get_ne (by rw [lE]; decide) (by decide)).trans g3
    have v13 : get (E.set 13 (some (bitsD bs))) 13 = _ := get_eq (by rw [lE]; decide)
    have v19 : get (E.set 13 (some (bitsD bs))) 19 = _ := (get_ne (by rw [lE]; decide) (by decide)).trans g19
    have v21 : get (E.set 13 (some (bitsD bs))) 21 = _ := (get_ne (by rw [lE]; decide) (by decide)).trans g21
    have l13 : (E.set 13 (some (bitsD bs))).length = 27 := by rw [len_set, lE]
    obtain ⟨bs', h1, e, B', A, hp1, sm⟩ := row2_ok (m := 24) (r := r + 3 * rs.length) n3 l13 v1 v3 v13 v19 B (by simpa [Nat.mul_succ, Nat.add_assoc] using hp)
    have hf1 : h1[f]? = some (.lst (done.map bitsD)) := (sm.at_ f hfp).trans hf
    have hq1 : h1[q]? = some (pl n ws o os) := (sm.at_ q hqp).trans hq
    have dl : (done.map bitsD).length < 1000 := by rw [List.length_map]; omega
    have ok0 := (app_at (y := bitsD bs') hf dl).1
    have ap := app_at (y := bitsD bs') hf1 dl
    have b1 : bodyF (W 12) 57 (.n 13) up3B (bitsD bs) E h = .nx (E.set 13 (some (bitsD bs))) (h1.set f (.lst (done.map bitsD ++ [bitsD bs']))) := by
      simp only [bodyF, asg_n, up3B, exs_cons, exs_nil, ex_ex, ev_bm, ev_v, v21, of_some, Res.bind_ok, ok0, if_true, evs_cons, evs_nil, ev_bi]
      rw [e]
      simp only [Res.bind_ok, tup_l, of_some]
      rw [show D.tup (bs'.map D.int) = bitsD bs' from rfl, ap.2]
      rfl
    obtain ⟨rs', E', h', e', lE', same, pr, hb', hl', hf', hq', hp'⟩ := up3_loop n3 hfp hfq hqp rs (done ++ [bs']) (E.set 13 (some (bitsD bs))) (h1.set f (.lst (done.map bitsD ++ [bitsD bs']))) l13 v1 v3 v19 v21 (fun b hm => hb b (List.mem_cons_of_mem _ hm)) (by simp at hl ⊢; omega)
      (by rw [set_at (lt_of hf1)]; simp) (by rw [set_ne hfq]; exact hq1) (pen_set_ne hp1 hfp)
    refine ⟨bs' :: rs', E', h', ?_, lE', fun j hj => ?_, .cons A pr, ?_, by simp [hl'], by rw [hf', List.append_assoc]; rfl, hq', hp'⟩
    · rw [List.map_cons]
      unfold forLoop
      rw [b1]
      exact e'
    · rw [same j hj, get_ne (by rw [lE]; decide) (fun x => hj x.symm)]
    · intro b hm
      rcases List.mem_cons.mp hm with rfl | hm
      · exact B'
      · exact hb' b hm
end
end SI.K15
end
section
set_option Elab.async false
set_option linter.all false
set_option maxRecDepth 100000
set_option maxHeartbeats 1000000
namespace SI.K15
open PySem L2
section
variable {h : Hs} {p q f : Nat} {n : Nat} {ws bs bs' : List Int} {o : Str} {os : List (List Int)} {g i a : Int}
def colL (gs : List Int) (i : Int) : List Int := gs.map fun g => if g == i then 1 else 0
theorem ix_hot (h0 : 0 ≤ i) (h1 : i < n) : ixD h (hot n g) (.int i) = some (.int (if g == i then 1 else 0)) := by
  obtain ⟨t, rfl⟩ := Int.eq_ofNat_of_zero_le h0
  have ht : t < n := by omega
  rw [hot_is, ix_tup (by unfold hotL; rw [List.length_map, ri_len]; exact ht)]
  have e : gi (hotL n g) t = if (t : Int) == g then 1 else 0 := by
    unfold gi hotL ri
    simp [List.getD, ht]
  rw [e]
  congr 2
  by_cases hh : (t : Int) = g
  · simp [hh]
  · have h2 : ¬ g = (t : Int) := fun x => hh x.symm
    simp [hh, h2]
theorem col_ok {env : Nv} {m v : Nat} {gs : List Int} (le : env.length = 27) (g16 : get env 16 = some (.int i)) (gv : get env v = some (.tup (gs.map (hot n)))) (h0 : 0 ≤ i) (h1 : i < n) (hl : gs.length ≤ 1000) :
    ev (W 12) (m + 10) (.comp false (.ix (.v 13) (.v 16)) (.n 13) .seq [(.v v)] none [13]) env h = .ok (.lst ((colL gs i).map D.int)) h := by
  have e : ∀ gs : List Int, compLoop (turnF (.n 13) (fun _ h => .ok true h) (ev (W 12) (m + 9) (.ix (.v 13) (.v 16))) (wipeE env [13])) (gs.map (hot n)) h = .ok ((colL gs i).map D.int) h := fun gs => by
    induction gs with
    | nil => rfl
    | cons g gs ih =>
      have v13 : get (env.set 13 (some (hot n g))) 13 = _ := get_eq (by rw [le]; decide)
      have v16 : get (env.set 13 (some (hot n g))) 16 = _ := (get_ne (by rw [le]; decide) (by decide)).trans g16
      have t : turnF (.n 13) (fun _ h => .ok true h) (ev (W 12) (m + 9) (.ix (.v 13) (.v 16))) (wipeE env [13]) (hot n g) h = .ok (some (.int (if g == i then 1 else 0))) h := by
        simp [turnF, wipeE, v13, v16, ix_hot h0 h1]
      rw [List.map_cons]
      unfold compLoop
      rw [t, Res.bind_ok, ih, Res.bind_ok]
      rfl
  exact comp_run (n := m + 9) (h1 := h) (ds := [.tup (gs.map (hot n))]) (xs := gs.map (hot n)) (by simp [gv]) rfl (by rw [List.length_map]; show _ ≤ 16777216; omega) (e gs)
end
end SI.K15
end
section
set_option Elab.async false
set_option linter.all false
set_option maxRecDepth 100000
set_option maxHeartbeats 1000000
namespace SI.K15
open PySem L2
section
variable {h : Hs} {p q f : Nat} {n : Nat} {ws bs bs' : List Int} {o : Str} {os : List (List Int)} {g i a : Int}
theorem col_same {gs gs' : List Int} (e : gs.map (· == i) = gs'.map (· == i)) : colL gs i = colL gs' i := by
  have : ∀ gs : List Int, colL gs i = (gs.map (· == i)).map fun b => if b then 1 else 0 := fun gs => by
    unfold colL; rw [List.map_map]; rfl
  rw [this, this, e]
theorem ints_ne {l : List Int} : cmpD h .ne (.lst (l.map D.int)) (.lst (l.map D.int)) = some false :=
  ne_of_eq (b := true) (eqD_same (py_ints l) (shaped_is l))
theorem row_up : ∀ rs : List (List Int), rs.map (rowD "upward") = rs.map bitsD := fun rs => List.map_congr_left fun bs _ => by
  unfold rowD
  rw [if_neg (by decide +kernel)]; rfl
theorem lap12_ok {r : Nat} {env : Nv} {rs : List (List Int)} (P : PlOk n ws o os) (L : LapA p n ws o os q env) (hq : h[q]? = some (pl n ws o os)) (hqp : q ≠ p) (g10 : get env 10 = some (.lst (rs.map bitsD))) (g15 : get env 15 = some (.tup ((goers n ws o os rs).map (hot n)))) (hr : ∀ bs ∈ rs, Bits n bs) (hl : rs.length = 20) (hp : PenAt (r + 61) h p) :
    ∃ env' h', ex (W 12) 59 lap12 env h = .nx env' h' ∧ env'.length = 27 ∧ get env' 1 = some (.ptr p) ∧ PenAt r h' p := by
  have n3 := P.n3
  rcases wcases P with ⟨rfl, hn, _⟩ | ⟨rfl, hn, _⟩ | ⟨rfl, hol, hs⟩
  · exact ⟨env, h, by simp [lap12, L.g5, eq_w1], L.len, L.g1, hp.mono (by omega)⟩
  · exact ⟨env, h, by simp [lap12, L.g5, eq_w2], L.len, L.g1, hp.mono (by omega)⟩
  · obtain ⟨b, eb, hU⟩ := upward_ok (k := 11) (h := h) hol n3 hs
    have eb : (wr txt.pg 12).call "_law_upward" [.int n, ovD os] h = .ok (.bl b) h := eb
    rw [lap12_is]
    cases b with
    | false => exact ⟨env, h, by simp [L.g3, L.g5, L.g6, eq_w3, eb], L.len, L.g1, hp.mono (by omega)⟩
    | true =>
      have U := hU rfl
      obtain ⟨i, h1, e0, i0, i1, hp1, sm1⟩ := draws (k := 11) (r + 60) n h p hp (by have := P.n1; omega) (by omega)
      have e0 : (wr txt.pg 12).call "_law_draw" [.ptr p, .int n] h = .ok (.int i) h1 := e0
      have s0 : ex (W 12) 58 up0 env h = .nx (env.set 16 (some (.int i))) h1 := by simp [up0, L.g1, L.g3, e0]
      have hq1 : h1[q]? = some (pl n ws "upward" os) := (sm1.at_ q hqp).trans hq
      have k1 : (env.set 16 (some (.int i))).length = 27 := by rw [len_set, L.len]
      have gg1 : ∀ j, 16 ≠ j → get (env.set 16 (some (.int i))) j = get env j := fun j hj => get_ne (by rw [L.len]; decide) hj
      have gi1 : get (env.set 16 (some (.int i))) 16 = some (.int i) := get_eq (by rw [L.len]; decide)
      generalize env.set 16 (some (.int i)) = E1 at *
      have L1 : LapA p n ws "upward" os q E1 := ⟨k1, (gg1 1 (by decide)).trans L.g1, (gg1 3 (by decide)).trans L.g3, (gg1 4 (by decide)).trans L.g4, (gg1 5 (by decide)).trans L.g5, (gg1 6 (by decide)).trans L.g6, (gg1 7 (by decide)).trans L.g7⟩
      have s1 := up1_ok (h := h1) P hol L1 gi1
      have k2 : (E1.set 19 (some (.lst ((known n os i).map D.int)))).length = 27 := by rw [len_set, k1]
      have gg2 : ∀ j, 19 ≠ j → get (E1.set 19 (some (.lst ((known n os i).map D.int)))) j = get E1 j := fun j hj => get_ne (by rw [k1]; decide) hj
      have gi2 : get (E1.set 19 (some (.lst ((known n os i).map D.int)))) 19 = _ := get_eq (by rw [k1]; decide)
      generalize E1.set 19 (some (.lst ((known n os i).map D.int))) = E2 at *
      have s2 : ex (W 12) 58 up2 E2 h1 = .nx (E2.set 21 (some (.ptr h1.length))) (h1 ++ [.lst []]) := by simp [up2]
      have k3 : (E2.set 21 (some (.ptr h1.length))).length = 27 := by rw [len_set, k2]
      have gg3 : ∀ j, 21 ≠ j → get (E2.set 21 (some (.ptr h1.length))) j = get E2 j := fun j hj => get_ne (by rw [k2]; decide) hj
      have gi3 : get (E2.set 21 (some (.ptr h1.length))) 21 = _ := get_eq (by rw [k2]; decide)
      generalize E2.set 21 (some (.ptr h1.length)) = E3 at *
      have fp : h1.length ≠ p := by have := pen_lt hp1; omega
      have fq : h1.length ≠ q := by have := lt_of hq1; omega
      obtain ⟨rs', E4, h4, e4, k4, same, pr, hb', hl', hf', hq', hp'⟩ := up3_loop (r := r) (f := h1.length) (q := q) (ws := ws) (o := "upward") (os := os) (i := i) n3 fp fq hqp rs [] E3 (h1 ++ [.lst []]) k3
        (by rw [gg3 _ (by decide), gg2 _ (by decide), L1.g1]) (by rw [gg3 _ (by decide), gg2 _ (by decide), L1.g3]) (by rw [gg3 _ (by decide), gi2]) gi3 hr (by simp [hl]) (by rw [get_last]; rfl) (get_app hq1) (pen_app (by rw [hl]; exact hp1.mono (by omega)))
      have g10' : get E3 10 = some (.lst (rs.map bitsD)) := by rw [gg3 _ (by decide), gg2 _ (by decide), gg1 _ (by decide), g10]
      have s3 : ex (W 12) 58 up3 E3 (h1 ++ [.lst []]) = .nx E4 h4 := by
        rw [up3_is]
        exact loop_run (n := 57) (h1 := h1 ++ [.lst []]) (ds := [.lst (rs.map bitsD)]) (by simp [g10']) rfl e4
      rw [List.nil_append] at hf'
      have s4 : ex (W 12) 58 up4 E4 h4 = .nx (E4.set 21 (some (.lst (rs'.map bitsD)))) (h4.set h1.length .dead) := by
        rw [ex_frz, same 21 (by decide), gi3]
        simp only [hf']
      have k5 : (E4.set 21 (some (.lst (rs'.map bitsD)))).length = 27 := by rw [len_set, k4]
      have gg5 : ∀ j, 21 ≠ j → get (E4.set 21 (some (.lst (rs'.map bitsD)))) j = get E4 j := fun j hj => get_ne (by rw [k4]; decide) hj
      have gi5 : get (E4.set 21 (some (.lst (rs'.map bitsD)))) 21 = _ := get_eq (by rw [k4]; decide)
      have hq5 : (h4.set h1.length .dead)[q]? = some (pl n ws "upward" os) := by rw [set_ne fq]; exact hq'
      have hp5 : PenAt r (h4.set h1.length .dead) p := pen_set_ne hp' fp
      generalize E4.set 21 (some (.lst (rs'.map bitsD))) = E5 at *
      generalize h4.set h1.length .dead = h5 at *
      have old : ∀ j, j ≠ 13 → j ≠ 16 → j ≠ 19 → j ≠ 21 → get E5 j = get env j := fun j a b c d => by
        rw [gg5 j (fun x => d x.symm), same j a, gg3 j (fun x => d x.symm), gg2 j (fun x => c x.symm), gg1 j (fun x => b x.symm)]
      have rb : (wr txt.pg 12).call "run_box" [.ptr q, .tup [], .lst (rs'.map (rowD "upward"))] h5 = _ := run_box_ok (k := 6) P hq5 hb' (by omega)
      rw [row_up] at rb
      have s5 : ex (W 12) 58 up5 E5 h5 = .nx (E5.set 22 (some (.tup ((goers n ws "upward" os rs').map (hot n))))) (h5 ++ [.lst ((goers n ws "upward" os rs').map (hot n))]) := by
        have g7 : get E5 7 = some (.ptr q) := (old 7 (by decide) (by decide) (by decide) (by decide)).trans L.g7
        simp [up5, g7, gi5, rb]
      have k6 : (E5.set 22 (some (.tup ((goers n ws "upward" os rs').map (hot n))))).length = 27 := by rw [len_set, k5]
      have gg6 : ∀ j, 22 ≠ j → get (E5.set 22 (some (.tup ((goers n ws "upward" os rs').map (hot n))))) j = get E5 j := fun j hj => get_ne (by rw [k5]; decide) hj
      have gi6 : get (E5.set 22 (some (.tup ((goers n ws "upward" os rs').map (hot n))))) 22 = _ := get_eq (by rw [k5]; decide)
      have hp6 : PenAt r (h5 ++ [.lst ((goers n ws "upward" os rs').map (hot n))]) p := pen_app hp5
      generalize E5.set 22 (some (.tup ((goers n ws "upward" os rs').map (hot n)))) = E6 at *
      generalize h5 ++ [.lst ((goers n ws "upward" os rs').map (hot n))] = h6 at *
      have g16' : get E6 16 = some (.int i) := by rw [gg6 _ (by decide), gg5 _ (by decide), same _ (by decide), gg3 _ (by decide), gg2 _ (by decide), gi1]
      have g15' : get E6 15 = _ := (gg6 15 (by decide)).trans ((old 15 (by decide) (by decide) (by decide) (by decide)).trans g15)
      have g1' : get E6 1 = _ := (gg6 1 (by decide)).trans ((old 1 (by decide) (by decide) (by decide) (by decide)).trans L.g1)
      have ln : (goers n ws "upward" os rs).length ≤ 1000 := by unfold goers; rw [List.length_cons, goersF_len]; omega
      have ln' : (goers n ws "upward" os rs').length ≤ 1000 := by unfold goers; rw [List.length_cons, goersF_len]; omega
      have ca := col_ok (h := h6) (m := 45) (v := 15) k6 g16' g15' i0 i1 ln
      have cb := col_ok (h := h6) (m := 45) (v := 22) k6 g16' gi6 i0 i1 ln'
      have sm : colL (goers n ws "upward" os rs) i = colL (goers n ws "upward" os rs') i := col_same (by
        unfold goers
        rw [List.map_cons, List.map_cons, goersF_same P hs U i0 i1 rs rs' 0 pr (List.length_pos_iff.mpr P.ne)])
      have s6 : ex (W 12) 58 up6 E6 h6 = .nx E6 h6 := by
        simp only [up6, ex_ife, evT_cmp, ev_cmp]
        rw [ca, Res.bind_ok, cb, Res.bind_ok, sm, ints_ne]
        simp
      refine ⟨E6, h6, ?_, k6, g1', hp6⟩
      have all : exs (ex (W 12) 58) [up0, up1, up2, up3, up4, up5, up6] env h = .nx E6 h6 := by
        rw [exs_cons, s0, then_nx, exs_cons, s1, then_nx, exs_cons, s2, then_nx, exs_cons, s3, then_nx, exs_cons, s4, then_nx, exs_cons, s5, then_nx, exs_cons, s6, then_nx, exs_nil]
      rw [ex_ife]
      simp only [evT_and, evT_cmp, evT_val, ev_val, ev_cmp, ev_call, evs_cons, evs_nil, ev_v, ev_c, L.g3, L.g5, L.g6, of_some, Res.bind_ok, eq_w3, Option.map_some, truth_bl, if_true, eb, Res.sbind_ok]
      exact all
end
end SI.K15
end
section
set_option Elab.async false
set_option linter.all false
set_option maxRecDepth 100000
set_option maxHeartbeats 1000000
namespace SI.K15
open PySem L2
section
variable {h : Hs} {p : Nat}
theorem LapA.of {n : Nat} {ws : List Int} {o : Str} {os : List (List Int)} {q : Nat} {E E' : Nv} (L : LapA p n ws o os q E) (le : E'.length = 27) (s : ∀ j, j < 8 → get E' j = get E j) : LapA p n ws o os q E' :=
  ⟨le, (s 1 (by decide)).trans L.g1, (s 3 (by decide)).trans L.g3, (s 4 (by decide)).trans L.g4, (s 5 (by decide)).trans L.g5, (s 6 (by decide)).trans L.g6, (s 7 (by decide)).trans L.g7⟩
theorem LapA.set {n : Nat} {ws : List Int} {o : Str} {os : List (List Int)} {q m : Nat} {E : Nv} {v : D} (L : LapA p n ws o os q E) (h8 : 8 ≤ m) (hm : m < 27) : LapA p n ws o os q (E.set m (some v)) :=
  L.of (by rw [len_set, L.len]) fun j hj => get_ne (by rw [L.len]; exact hm) (by omega)
theorem lap_ok {r : Nat} {env : Nv} (hl : env.length = 27) (g1 : get env 1 = some (.ptr p)) (hp : PenAt (r + 200) h p) :
    ∃ env' h', exs (ex (W 12) 59) lapB env h = .nx env' h' ∧ env'.length = 27 ∧ get env' 1 = some (.ptr p) ∧ PenAt r h' p := by
  obtain ⟨n, ws, o, os, q, E0, h0, e0, P, L0, hq0, hqp, hp0⟩ := lapA_ok (r := r + 140) hl g1 (hp.mono (by omega))
  obtain ⟨rs, h1, e5, hr, hrl, hp1, sm1⟩ := lap5_ok (r := r + 80) P L0 (hp0.mono (by omega))
  have hq1 : h1[q]? = some (pl n ws o os) := (sm1.at_ q hqp).trans hq0
  have L1 := L0.set (m := 10) (v := .lst (rs.map bitsD)) (by decide) (by decide)
  have a10 : get (E0.set 10 (some (.lst (rs.map bitsD)))) 10 = _ := get_eq (by rw [L0.len]; decide)
  generalize E0.set 10 (some (.lst (rs.map bitsD))) = E1 at *
  have e6 := lap6_ok (h := h1) P L1 a10 hrl
  have L2 := L1.set (m := 12) (v := .lst (rs.map (rowD o))) (by decide) (by decide)
  have b12 : get (E1.set 12 (some (.lst (rs.map (rowD o))))) 12 = _ := get_eq (by rw [L1.len]; decide)
  have b10 : get (E1.set 12 (some (.lst (rs.map (rowD o))))) 10 = _ := (get_ne (by rw [L1.len]; decide) (by decide)).trans a10
  generalize E1.set 12 (some (.lst (rs.map (rowD o)))) = E2 at *
  have e7 := lap7_ok (h := h1) P L2 b10 hr hrl
  have L3 := L2.set (m := 14) (v := .lst ((goers n ws o os rs).map D.int)) (by decide) (by decide)
  have c14 : get (E2.set 14 (some (.lst ((goers n ws o os rs).map D.int)))) 14 = _ := get_eq (by rw [L2.len]; decide)
  have c12 : get (E2.set 14 (some (.lst ((goers n ws o os rs).map D.int)))) 12 = _ := (get_ne (by rw [L2.len]; decide) (by decide)).trans b12
  have c10 : get (E2.set 14 (some (.lst ((goers n ws o os rs).map D.int)))) 10 = _ := (get_ne (by rw [L2.len]; decide) (by decide)).trans b10
  generalize E2.set 14 (some (.lst ((goers n ws o os rs).map D.int))) = E3 at *
  have hq2 : (h1 ++ [.dead])[q]? = some (pl n ws o os) := get_app hq1
  have hp2 : PenAt (r + 80) (h1 ++ [.dead]) p := pen_app hp1
  generalize h1 ++ [.dead] = h2 at *
  have e8 := lap8_ok (h := h2) P L3 hq2 c12 hr hrl
  have L4 := L3.set (m := 15) (v := .tup ((goers n ws o os rs).map (hot n))) (by decide) (by decide)
  have d15 : get (E3.set 15 (some (.tup ((goers n ws o os rs).map (hot n))))) 15 = _ := get_eq (by rw [L3.len]; decide)
  have d14 : get (E3.set 15 (some (.tup ((goers n ws o os rs).map (hot n))))) 14 = _ := (get_ne (by rw [L3.len]; decide) (by decide)).trans c14
  have d12 : get (E3.set 15 (some (.tup ((goers n ws o os rs).map (hot n))))) 12 = _ := (get_ne (by rw [L3.len]; decide) (by decide)).trans c12
  have d10 : get (E3.set 15 (some (.tup ((goers n ws o os rs).map (hot n))))) 10 = _ := (get_ne (by rw [L3.len]; decide) (by decide)).trans c10
  generalize E3.set 15 (some (.tup ((goers n ws o os rs).map (hot n)))) = E4 at *
  have hq3 : (h2 ++ [.lst ((goers n ws o os rs).map (hot n))])[q]? = some (pl n ws o os) := get_app hq2
  have hp3 : PenAt (r + 80) (h2 ++ [.lst ((goers n ws o os rs).map (hot n))]) p := pen_app hp2
  generalize h2 ++ [.lst ((goers n ws o os rs).map (hot n))] = h3 at *
  have e9 := lap9_ok (h := h3) P L4 d14 d15 (by unfold goers; rw [List.length_cons, goersF_len]; omega)
  have e10 := lap10_ok (h := h3) P L4 hq3
  have L5 := L4.set (m := 18) (v := stD o 0 (gi ws 0)) (by decide) (by decide)
  have f18 : get (E4.set 18 (some (stD o 0 (gi ws 0)))) 18 = _ := get_eq (by rw [L4.len]; decide)
  have f15 : get (E4.set 18 (some (stD o 0 (gi ws 0)))) 15 = _ := (get_ne (by rw [L4.len]; decide) (by decide)).trans d15
  have f12 : get (E4.set 18 (some (stD o 0 (gi ws 0)))) 12 = _ := (get_ne (by rw [L4.len]; decide) (by decide)).trans d12
  have f10 : get (E4.set 18 (some (stD o 0 (gi ws 0)))) 10 = _ := (get_ne (by rw [L4.len]; decide) (by decide)).trans d10
  generalize E4.set 18 (some (stD o 0 (gi ws 0))) = E5 at *
  obtain ⟨E6, e11, l6, s6⟩ := lap11_ok (h := h3) P L5 hq3 f12 f18 hr
  have L6 := L5.of l6 fun j hj => s6 j (by omega) (by omega)
  obtain ⟨E7, h7, e12, l7, g7, hp7⟩ := lap12_ok (r := r) P L6 hq3 hqp ((s6 10 (by decide) (by decide)).trans f10) ((s6 15 (by decide) (by decide)).trans f15) hr hrl (hp3.mono (by omega))
  refine ⟨E7, h7, ?_, l7, g7, hp7⟩
  show exs (ex (W 12) 59) ([lap0, lap1, lap2, lap3, lap4] ++ [lap5, lap6, lap7, lap8, lap9, lap10, lap11, lap12]) env h = _
  rw [exs_app, e0, then_nx, exs_cons, e5, then_nx, exs_cons, e6, then_nx, exs_cons, e7, then_nx, exs_cons, e8, then_nx, exs_cons, e9, then_nx, exs_cons, e10, then_nx, exs_cons, e11, then_nx, exs_cons, e12, then_nx, exs_nil]
/-- the four laps -/
theorem laps_ok {r : Nat} {env : Nv} (hl : env.length = 27) (g1 : get env 1 = some (.ptr p)) (hp : PenAt (r + 800) h p) :
    ∃ env' h', ex (W 12) 60 (.loop (.n 2) .rng [(.c (.int 4))] lapB) env h = .nx env' h' ∧ env'.length = 27 := by
  obtain ⟨env', h', f, l', -⟩ := for_inv (f := bodyF (W 12) 59 (.n 2) lapB) (I := fun j env h => env.length = 27 ∧ get env 1 = some (.ptr p) ∧ PenAt (r + 200 * j) h p) (xs := (ri 4).map D.int) (env := env) (h := h) ⟨hl, g1, hp⟩
    fun x hx j E h ⟨hl, g1, hp⟩ => by
      obtain ⟨E', h', e, l', g', hp'⟩ := lap_ok (r := r + 200 * j) (env := E.set 2 (some x)) (h := h) (p := p) (by rw [len_set, hl]) ((get_ne (by rw [hl]; decide) (by decide)).trans g1) hp
      exact ⟨E', h', e, l', g', hp'⟩
  exact ⟨env', h', loop_run (n := 59) (h1 := h) (ds := [.int (4 : Nat)]) rfl (src_rng (by decide)) f, l'⟩
end
end SI.K15
end
section
set_option Elab.async false
set_option linter.all false
set_option maxRecDepth 100000
set_option maxHeartbeats 1000000
namespace SI.K15
open PySem L2
theorem P1 : PlOk 2 [0, 0, 1] "early" [] := ⟨by decide, by decide, by decide, by decide, by decide, .inl ⟨.inr rfl, rfl⟩⟩
theorem P2 : PlOk 2 [0, 0, 1] "upward" [[1], []] := ⟨by decide, by decide, by decide, by decide, by decide, .inr ⟨rfl, rfl, by decide⟩⟩
def busy : List (List Int) := [[0, 0], [0, 0], [0, 0]]
def idle : List (List Int) := [[1, 0], [1, 0], [1, 0]]
theorem bits_busy : ∀ bs ∈ busy, Bits 2 bs := by intro bs hb; simp [busy] at hb; subst hb; exact ⟨rfl, by decide⟩
theorem bits_idle : ∀ bs ∈ idle, Bits 2 bs := by intro bs hb; simp [idle] at hb; subst hb; exact ⟨rfl, by decide⟩
theorem go1 : goers 2 [0, 0, 1] "early" [] busy = [0, 0, 1, 0] := by decide +kernel
theorem go2 : goers 2 [0, 0, 1] "early" [] idle = [0, 1, 0, 1] := by decide +kernel
theorem go3 : goers 2 [0, 0, 1] "upward" [[1], []] idle = [0, 1, 1, 0] := by decide +kernel
end SI.K15
end
section
set_option Elab.async false
set_option linter.all false
set_option maxRecDepth 100000
set_option maxHeartbeats 1000000
namespace SI.K15
open PySem L2
def t10 : D := .tup [.int 1, .int 0]
def t01 : D := .tup [.int 0, .int 1]
theorem early_run {h : Hs} {q : Nat} (hq : h[q]? = some (pl 2 [0, 0, 1] "early" [])) :
    (wr txt.pg 12).call "run_box" [.ptr q, .tup [], .lst [.tup [.int 0, .int 0], .tup [.int 0, .int 0], .tup [.int 0, .int 0]]] h = .ok (.tup [t10, t10, t01, t10]) (h ++ [.lst [t10, t10, t01, t10]]) := by
  have e := run_box_ok (k := 6) P1 hq bits_busy (by decide)
  rw [go1] at e
  exact e
theorem early_run2 {h : Hs} {q : Nat} (hq : h[q]? = some (pl 2 [0, 0, 1] "early" [])) :
    (wr txt.pg 12).call "run_box" [.ptr q, .tup [], .lst [.tup [.int 1, .int 0], .tup [.int 1, .int 0], .tup [.int 1, .int 0]]] h = .ok (.tup [t10, t01, t10, t01]) (h ++ [.lst [t10, t01, t10, t01]]) := by
  have e := run_box_ok (k := 6) P1 hq bits_idle (by decide)
  rw [go2] at e
  exact e
theorem up_run {h : Hs} {q : Nat} (hq : h[q]? = some (pl 2 [0, 0, 1] "upward" [[1], []])) :
    (wr txt.pg 12).call "run_box" [.ptr q, .tup [], .lst [.tup [.int 1, .int 0], .tup [.int 1, .int 0], .tup [.int 1, .int 0]]] h = .ok (.tup [t10, t01, t01, t10]) (h ++ [.lst [t10, t01, t01, t10]]) := by
  have e := run_box_ok (k := 6) P2 hq bits_idle (by decide)
  rw [go3] at e
  exact e
theorem end_ok {env : Nv} {h : Hs} (hl : env.length = 27) : ∃ h', exs (ex (W 12) 60) [law2, law3, law4, law5, law6, law7] env h = .rt (.bl true) h' := by
  have m1 : ∀ a b : Int, binA h .mul (.lst [.tup [.int a, .int b]]) (.int 3) = .ok (.lst [.tup [.int a, .int b], .tup [.int a, .int b], .tup [.int a, .int b]]) h := fun a b => mul_lst (by decide) (by decide) (by simp)
  have s2 : ex (W 12) 60 law2 env h = .nx ((env.set 23 (some (.lst [.tup [.int 0, .int 0], .tup [.int 0, .int 0], .tup [.int 0, .int 0]]))).set 24 (some (.lst [.tup [.int 1, .int 0], .tup [.int 1, .int 0], .tup [.int 1, .int 0]]))) h := by
    simp [law2, m1]
  obtain ⟨E, l, g23, g24, s2⟩ : ∃ E : Nv, E.length = 27 ∧ get E 23 = some (.lst [.tup [.int 0, .int 0], .tup [.int 0, .int 0], .tup [.int 0, .int 0]]) ∧ get E 24 = some (.lst [.tup [.int 1, .int 0], .tup [.int 1, .int 0], .tup [.int 1, .int 0]]) ∧ ex (W 12) 60 law2 env h = .nx E h :=
    ⟨_, by rw [len_set, len_set, hl], (get_ne (by rw [len_set, hl]; decide) (by decide)).trans (get_eq (by rw [hl]; decide)), get_eq (by rw [len_set, hl]; decide), s2⟩
  have k1 : (wr txt.pg 12).make "Planner" [.int 2, .tup [.int 0, .int 0, .int 1], .str "early", .tup []] h = .ok (.ptr h.length) (h ++ [pl 2 [0, 0, 1] "early" []]) := Eq.trans (by kernel_rfl) (make_ok (k := 4) P1)
  have s3 : ex (W 12) 60 law3 E h = .nx (E.set 25 (some (.ptr h.length))) (h ++ [pl 2 [0, 0, 1] "early" []]) := by simp [law3, k1]
  have hq : (h ++ [pl 2 [0, 0, 1] "early" []])[h.length]? = some (pl 2 [0, 0, 1] "early" []) := get_last
  generalize h ++ [pl 2 [0, 0, 1] "early" []] = h1 at *
  have w25 : get (E.set 25 (some (.ptr h.length))) 25 = _ := get_eq (by rw [l]; decide)
  have w23 : get (E.set 25 (some (.ptr h.length))) 23 = _ := (get_ne (by rw [l]; decide) (by decide)).trans g23
  have w24 : get (E.set 25 (some (.ptr h.length))) 24 = _ := (get_ne (by rw [l]; decide) (by decide)).trans g24
  have l2 : (E.set 25 (some (.ptr h.length))).length = 27 := by rw [len_set, l]
  generalize E.set 25 (some (.ptr h.length)) = E2 at *
  have a1 := early_run hq
  have a2 := early_run2 (h := h1 ++ [.lst [t10, t10, t01, t10]]) (get_app hq)
  generalize h1 ++ [.lst [t10, t10, t01, t10]] = h2 at *
  generalize h2 ++ [.lst [t10, t01, t10, t01]] = h3 at *
  have s4 : ex (W 12) 60 law4 E2 h1 = .nx (E2.set 12 (some (.lst [.tup [t10, t10, t01, t10], .tup [t10, t01, t10, t01]]))) h3 := by
    simp [law4, w25, w23, w24, a1, a2]
  have x12 : get (E2.set 12 (some (.lst [.tup [t10, t10, t01, t10], .tup [t10, t01, t10, t01]]))) 12 = _ := get_eq (by rw [l2]; decide)
  have x24 : get (E2.set 12 (some (.lst [.tup [t10, t10, t01, t10], .tup [t10, t01, t10, t01]]))) 24 = _ := (get_ne (by rw [l2]; decide) (by decide)).trans w24
  have l3 : (E2.set 12 (some (.lst [.tup [t10, t10, t01, t10], .tup [t10, t01, t10, t01]]))).length = 27 := by rw [len_set, l2]
  generalize E2.set 12 (some (.lst [.tup [t10, t10, t01, t10], .tup [t10, t01, t10, t01]])) = E3 at *
  have cc : ∀ h : Hs, cmpD h .ne (.lst [.tup [t10, t10, t01, t10], .tup [t10, t01, t10, t01]]) (.lst [.tup [.tup [.int 1, .int 0], .tup [.int 1, .int 0], .tup [.int 0, .int 1], .tup [.int 1, .int 0]], .tup [.tup [.int 1, .int 0], .tup [.int 0, .int 1], .tup [.int 1, .int 0], .tup [.int 0, .int 1]]]) = some false := fun h => by kernel_rfl
  have s5 : ex (W 12) 60 law5 E3 h3 = .nx E3 h3 := by simp [law5, x12, cc]
  have k2 : (wr txt.pg 12).make "Planner" [.int 2, .tup [.int 0, .int 0, .int 1], .str "upward", .tup [.tup [.int 1], .tup []]] h3 = .ok (.ptr h3.length) (h3 ++ [pl 2 [0, 0, 1] "upward" [[1], []]]) := Eq.trans (by kernel_rfl) (make_ok (k := 4) P2)
  have s6 : ex (W 12) 60 law6 E3 h3 = .nx (E3.set 26 (some (.ptr h3.length))) (h3 ++ [pl 2 [0, 0, 1] "upward" [[1], []]]) := by simp [law6, k2]
  have y26 : get (E3.set 26 (some (.ptr h3.length))) 26 = _ := get_eq (by rw [l3]; decide)
  have y24 : get (E3.set 26 (some (.ptr h3.length))) 24 = _ := (get_ne (by rw [l3]; decide) (by decide)).trans x24
  have a3 := up_run (h := h3 ++ [pl 2 [0, 0, 1] "upward" [[1], []]]) (q := h3.length) get_last
  have cd : ∀ h : Hs, cmpD h .eq (.tup [t10, t01, t01, t10]) (.tup [.tup [.int 1, .int 0], .tup [.int 0, .int 1], .tup [.int 0, .int 1], .tup [.int 1, .int 0]]) = some true := fun h => by kernel_rfl
  refine ⟨(h3 ++ [pl 2 [0, 0, 1] "upward" [[1], []]]) ++ [.lst [t10, t01, t01, t10]], ?_⟩
  rw [exs_cons, s2, then_nx, exs_cons, s3, then_nx, exs_cons, s4, then_nx, exs_cons, s5, then_nx, exs_cons, s6, then_nx]
  simp only [exs_cons, exs_nil, law7, ex_ret, ev_cmp, ev_call, evs_cons, evs_nil, ev_v, ev_c, ev_tup, y26, y24, of_some, Res.bind_ok, a3, cd, Option.map_some, Res.sbind_ok, then_rt]
theorem plain (zs : List Int) (hz : zs.length ≤ 63) : ∃ h', runF (wr txt.pg 12) x_law.e [.ks true (zs.map D.int)] [] = .ok (.bl true) h' := by
  obtain ⟨f, e0, f0, f1⟩ := pen_start (k := 11) zs
  have e0 : (wr txt.pg 12).call "_law_pen" [.ks true (zs.map D.int)] [] = .ok (.ptr 0) [pen (zs.map D.int) 0 0 0 f] := e0
  have hp : PenAt (0 + 800) [pen (zs.map D.int) 0 0 0 f] 0 := ⟨zs, 0, 0, 0, f, rfl, by decide, by decide, by decide, by decide, f0, f1⟩
  obtain ⟨E0, h0, l0, g0⟩ : ∃ E : Nv, E = some (.ks true (zs.map D.int)) :: List.replicate 26 none ∧ E.length = 27 ∧ get E 0 = some (.ks true (zs.map D.int)) := ⟨_, rfl, rfl, rfl⟩
  have s0 : ex (W 12) 60 law0 E0 [] = .nx (E0.set 1 (some (.ptr 0))) [pen (zs.map D.int) 0 0 0 f] := by simp [law0, g0, e0]
  obtain ⟨E1, h1, e1, l1⟩ := laps_ok (env := E0.set 1 (some (.ptr 0))) (p := 0) (by rw [len_set, l0]) (get_eq (by rw [l0]; decide)) hp
  obtain ⟨h2, e2⟩ := end_ok (h := h1) l1
  refine ⟨h2, run_rt (e := x_law.e) (ds := [.ks true (zs.map D.int)]) rfl ?_⟩
  show exs (ex (W 12) 60) i_law (some (.ks true (zs.map D.int)) :: List.replicate 26 none) [] = _
  rw [← h0, law_is, exs_cons, s0, then_nx, exs_cons, e1, then_nx]
  exact e2
end SI.K15
end
section
set_option Elab.async false
set_option linter.all false
set_option maxRecDepth 100000
set_option maxHeartbeats 0
namespace SI.K15
open PySem PySem.Spec PyProof.Rows L2
def loose : List Str := ["HouseError", "BadRow", "BadBox", "is_whole", "is_count", "Box", "is_box", "need_box", "is_row_in", "need_row", "need_run", "run_box", "is_between", "is_lot_below", "are_planner_parts", "is_first_place", "next_stretch", "Planner", "_law_pen", "_law_draw", "_law_pick", "_law_row", "_law_is_state", "_law_planner", "_law_is_first", "_law_wheel_run", "_law_upward"]
abbrev row : PySem.W.OpenRow := PySem.W.OpenLaw.row PySem.Challenge.rw_silenthouses_k15_whole_planners
abbrev hook : PySem.W.Hook := hookX 5 txt.fx txt.fn
def seen (s : PySem.W.SharedT) : He.AlD := obsXG 5 txt.fx txt.fn (HandSHeadRun.getT s)
theorem seen_eq (s : PySem.W.SharedT) : seen s = hook.obs s.abs := obsXG_eq (HandSHeadRun.getT_eq s)
theorem ran (w : World) : HandSHeadRun.RunEq row (PySem.W.view row.prog [31]) hook seen 4000 loose w := by
  intro os
  kernel_rfl
theorem nameIs : (HandSHeadRun.topDef row.prog 31).name = ("law" : Str) := by kernel_rfl
end SI.K15
open PySem PySem.W PySem.Calls PyProof.Rows
theorem PySem.Challenge.cw_silenthouses_k15_whole_planners_holds : PySem.Challenge.rw_silenthouses_k15_whole_planners.Holds := by
  w_on; o_law
  refine HandSHeadRun.head_any (r := SI.K15.row) (q := view SI.K15.row.prog [31]) (H := SI.K15.hook) (ob := SI.K15.seen) (M := 4000) (loose := SI.K15.loose) (d := HandSHeadRun.topDef SI.K15.row.prog 31) (kwd := [])
    SI.K15.seen_eq (by kernel_rfl) (fun s => by kernel_rfl) SI.K15.ran (by kernel_rfl) (by kernel_rfl) (by kernel_rfl) (by rfl) (by first | assumption | decide +kernel) (by decide +kernel) ⟨rfl, rfl, rfl, rfl, rfl, by decide +kernel⟩ ?wit ?cal
  case wit => w_witness2
  case cal =>
    refine SI.walk_G (l := PySem.Challenge.rw_silenthouses_k15_whole_planners) (n := 63) (kk := 13) (y := "script") rfl (by decide) (by kernel_rfl) ⟨rfl, by decide, by decide⟩ fun w mg fa hp ⟨K, kin, says⟩ gl hm => ?_
    have hl : mg ("law" : PySem.Str) = some (.ref fa) := by
      rw [← SI.K15.nameIs]
      exact hm
    obtain ⟨fd, spr, h1, h2, h3⟩ := SI.law_end (t := SI.K15.txt) (k := 12) (P := PySem.Challenge.pw_silenthouses_k15_whole_planners) (w := w) (x := "script") SI.K15.txtOk (q := ("law", SI.K15.x_law)) (by kernel_rfl) rfl SI.K15.plain kin gl says fa hl
    exact ⟨K, fd, spr, kin, h1, h2, h3⟩
end
