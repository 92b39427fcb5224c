import PyProof.Rows.All
import Wide.All
import OpenK.AllK
import Wide.FinOn
import HandS.ForSpec
import HandS.Dict
import HandS.Iter
import HandS.Text
import HandS.Flow
import HandS.Comp
import HandS.IsInst
import HandS.Conv
import HandS.TupAny
import HandS.TupMul
import HandS.Zip
import HandS.Deep
import HandS.Defaults
import HandS.ExcInit
import HandS.ExcField
import HandS.ExcValue
import HandS.ExcIs
import KE.KExcInit
import HandS.HeadHook1
import KE.GoesEnum
import HandS.DictTup
import HandS.Walk
import HandS.Ends
import HandS.HeadEnd
import HandS.HeadHook2
import HandS.Head0
import HandS.Head1
import HandS.Head2
import PyProof.ReprLen
import PySem.Challenge.RW_silenthouses_k00_errors
import HandS.Words
import HandS.WordsExc
section
set_option Elab.async false
set_option linter.all false
set_option maxRecDepth 100000
set_option maxHeartbeats 4000000
/-! SI0: plain data, what they stand for in the layer's heap, transitions. -/
namespace SI
open PySem PySem.Spec PyProof.Rows L2

/-- plain data: tuples and unshared lists are values; ks: a list (tuple) that is only read (the script, a constant of the module); ptr: a changing object, by its number -/
inductive D where
  | non | bl (b : Bool) | int (i : Int) | str (s : Str)
  | tup (xs : List D) | lst (xs : List D)
  | ks (l : Bool) (xs : List D)
  | ptr (n : Nat) | glo (x : Str)
  | exv (C : Str) (ns : List Str) (ds : List D)
  deriving Inhabited

/-- a changing object -/
inductive Cell where
  | lst (xs : List D)
  | dK (kvs : List (Key × D))
  | dT (kvs : List (List Key × D))
  | ins (C : Str) (fs : List (Str × D))
  | dead
  deriving Inhabited
abbrev Hs := List Cell

/-- where the changing objects lie, and the objects that stay for ever as they are -/
structure Om where
  n : Nat
  φ : Nat → Addr
  F : Hp

abbrev Mg := Str → Option Value
section
variable (K : PySem.W.Frag) (mg : Mg)
mutual
inductive Rep (O : Om) : D → V → Prop
  | non : Rep O .non .non
  | bl (b : Bool) : Rep O (.bl b) (.bl b)
  | int (i : Int) : Rep O (.int i) (.int i)
  | str (s : Str) : Rep O (.str s) (.str s)
  | tup {p : Addr} {xs : List D} {vs : List V} : O.F p = some (.tup vs) → vs.length ≤ sizeLine → RepL O xs vs → Rep O (.tup xs) (.ref p)
  | lst {p : Addr} {xs : List D} {vs : List V} : O.F p = some (.lst vs) → vs.length ≤ sizeLine → RepL O xs vs → Rep O (.lst xs) (.ref p)
  | ksl {p : Addr} {xs : List D} {vs : List V} : SqL K O.F p vs → vs.length ≤ sizeLine → RepL O xs vs → Rep O (.ks true xs) (.ref p)
  | kst {p : Addr} {xs : List D} {vs : List V} : SqT K O.F p vs → vs.length ≤ sizeLine → RepL O xs vs → Rep O (.ks false xs) (.ref p)
  | ptr {n : Nat} : n < O.n → Rep O (.ptr n) (.ref (O.φ n))
  | glo {x : Str} {v : V} {u : Value} : mg x = some u → RelV v u → Rep O (.glo x) v
  | exv {p dx c : Addr} {C : Str} {ns : List Str} {ds : List D} {vs : List V} : mg C = some (.ref c) → O.F p = some (exo p c (some dx)) → O.F dx = some (exd dx (ns.zip vs)) → RepL O ds vs → ns.length = ds.length → Rep O (.exv C ns ds) (.ref p)
  | exz {p c : Addr} {C : Str} : mg C = some (.ref c) → O.F p = some (exo p c none) → Rep O (.exv C [] []) (.ref p)
inductive RepL (O : Om) : List D → List V → Prop
  | nil : RepL O [] []
  | cons {d : D} {v : V} {ds : List D} {vs : List V} : Rep O d v → RepL O ds vs → RepL O (d :: ds) (v :: vs)
end
/-- pairs: the keys alike, the values represented -/
inductive RepP {κ : Type} (O : Om) : List (κ × D) → List (κ × V) → Prop
  | nil : RepP O [] []
  | cons {k : κ} {d : D} {v : V} {ds : List (κ × D)} {vs : List (κ × V)} : Rep K mg O d v → RepP O ds vs → RepP O ((k, d) :: ds) ((k, v) :: vs)

def CellOk (O : Om) (H : Hp) (p : Addr) : Cell → Prop
  | .lst xs => ∃ vs, H p = some (.lst vs) ∧ vs.length ≤ sizeLine ∧ RepL K mg O xs vs
  | .dK kvs => ∃ ws, H p = some (.dK ws) ∧ RepP K mg O kvs ws
  | .dT kvs => ∃ ws, H p = some (.dT ws) ∧ RepP K mg O kvs ws
  | .ins C fs => ∃ (c dx : Addr) (ws : List (Str × V)), mg C = some (.ref c) ∧ H p = some (.ins c dx ws) ∧ RepP K mg O fs ws
  | .dead => True

/-- the plain heap h stands for the tracked heap H -/
structure SR (O : Om) (h : Hs) (H : Hp) : Prop where
  len : h.length = O.n
  sub : ∀ a o, O.F a = some o → H a = some o
  inj : ∀ i j, i < O.n → j < O.n → O.φ i = O.φ j → i = j
  old : ∀ i, i < O.n → ∃ o, H (O.φ i) = some o
  nof : ∀ (i : Nat) (c : Cell), h[i]? = some c → c ≠ .dead → O.F (O.φ i) = none
  cell : ∀ (i : Nat) (c : Cell), h[i]? = some c → CellOk K mg O H (O.φ i) c
end

/-- a tuple, which never changes -/
def tupO : HO → Bool
  | .tup _ => true
  | _ => false
/-- a transition -/
structure Stp (O : Om) (H : Hp) (O' : Om) (H' : Hp) : Prop where
  n : O.n ≤ O'.n
  φ : ∀ i, i < O.n → O'.φ i = O.φ i
  F : ∀ a o, O.F a = some o → O'.F a = some o
  fr : ∀ a o, H a = some o → (∀ i, i < O.n → O.φ i ≠ a) → H' a = some o ∧ (∀ i, i < O'.n → O'.φ i ≠ a) ∧ (O.F a = none → tupO o = false → O'.F a = none)
theorem Stp.refl (O : Om) (H : Hp) : Stp O H O H := ⟨Nat.le_refl _, fun _ _ => rfl, fun _ _ e => e, fun _ _ e k => ⟨e, k, fun q _ => q⟩⟩
theorem Stp.trans {O O1 O2 : Om} {H H1 H2 : Hp} (a : Stp O H O1 H1) (b : Stp O1 H1 O2 H2) : Stp O H O2 H2 :=
  ⟨Nat.le_trans a.n b.n, fun i hi => (b.φ i (Nat.lt_of_lt_of_le hi a.n)).trans (a.φ i hi), fun c o e => b.F c o (a.F c o e),
    fun c o e k =>
      have y := a.fr c o e k
      have z := b.fr c o y.1 y.2.1
      ⟨z.1, z.2.1, fun q t => z.2.2 (y.2.2 q t) t⟩⟩

section
variable {K : PySem.W.Frag} {mg : Mg} {O O' : Om} {H H' : Hp}
theorem sqL_up {F F' : Hp} (up : ∀ a o, F a = some o → F' a = some o) {p : Addr} {vs : List V} (q : SqL K F p vs) : SqL K F' p vs := Same.seq up q
theorem sqT_up {F F' : Hp} (up : ∀ a o, F a = some o → F' a = some o) {p : Addr} {vs : List V} (q : SqT K F p vs) : SqT K F' p vs := by
  rcases q with (q | ⟨ob, q⟩) | q
  · exact .inl (.inl (up _ _ q))
  · exact .inl (.inr ⟨ob, up _ _ q⟩)
  · exact .inr q
mutual
theorem Rep.up (hn : O.n ≤ O'.n) (hφ : ∀ i, i < O.n → O'.φ i = O.φ i) (hF : ∀ a o, O.F a = some o → O'.F a = some o) : ∀ {d : D} {v : V}, Rep K mg O d v → Rep K mg O' d v
  | _, _, .non => .non
  | _, _, .bl b => .bl b
  | _, _, .int i => .int i
  | _, _, .str s => .str s
  | _, _, .tup q z r => .tup (hF _ _ q) z (RepL.up hn hφ hF r)
  | _, _, .lst q z r => .lst (hF _ _ q) z (RepL.up hn hφ hF r)
  | _, _, .ksl q z r => .ksl (sqL_up hF q) z (RepL.up hn hφ hF r)
  | _, _, .kst q z r => .kst (sqT_up hF q) z (RepL.up hn hφ hF r)
  | _, _, .ptr (n := n) q => by
    rw [← hφ n q]
    exact .ptr (Nat.lt_of_lt_of_le q hn)
  | _, _, .glo e r => .glo e r
  | _, _, .exv e q z r l => .exv e (hF _ _ q) (hF _ _ z) (RepL.up hn hφ hF r) l
  | _, _, .exz e q => .exz e (hF _ _ q)
theorem RepL.up (hn : O.n ≤ O'.n) (hφ : ∀ i, i < O.n → O'.φ i = O.φ i) (hF : ∀ a o, O.F a = some o → O'.F a = some o) : ∀ {ds : List D} {vs : List V}, RepL K mg O ds vs → RepL K mg O' ds vs
  | _, _, .nil => .nil
  | _, _, .cons r t => .cons (Rep.up hn hφ hF r) (RepL.up hn hφ hF t)
end
theorem Rep.stp (s : Stp O H O' H') {d : D} {v : V} (r : Rep K mg O d v) : Rep K mg O' d v := r.up s.n s.φ s.F
theorem RepL.stp (s : Stp O H O' H') {d : List D} {v : List V} (r : RepL K mg O d v) : RepL K mg O' d v := r.up s.n s.φ s.F
theorem RepP.stp {κ : Type} (s : Stp O H O' H') {d : List (κ × D)} {v : List (κ × V)} (r : RepP K mg O d v) : RepP K mg O' d v := by
  induction r with
  | nil => exact .nil
  | cons q _ ih => exact .cons (q.stp s) ih
theorem RepL.length {ds : List D} {vs : List V} (r : RepL K mg O ds vs) : ds.length = vs.length := by
  induction vs generalizing ds with
  | nil => cases r; rfl
  | cons v vs ih => cases r with | cons q t => simp [ih t]
theorem RepL.app : ∀ {ds es : List D} {vs ws : List V}, RepL K mg O ds vs → RepL K mg O es ws → RepL K mg O (ds ++ es) (vs ++ ws)
  | _, _, _, _, .nil, s => s
  | _, _, _, _, .cons r t, s => .cons r (RepL.app t s)
theorem RepL.get : ∀ {ds : List D} {vs : List V} {i : Nat} {d : D}, RepL K mg O ds vs → ds[i]? = some d → ∃ v, vs[i]? = some v ∧ Rep K mg O d v
  | _, _, _, _, .nil, e => by simp at e
  | _, _, 0, _, .cons r _, e => by simp at e; subst e; exact ⟨_, rfl, r⟩
  | _, _, i + 1, d, .cons _ t, e => by
    obtain ⟨v, h1, h2⟩ := RepL.get (i := i) (d := d) t (by simpa using e)
    exact ⟨v, by simpa using h1, h2⟩
theorem RepL.getv : ∀ {ds : List D} {vs : List V} {i : Nat} {v : V}, RepL K mg O ds vs → vs[i]? = some v → ∃ d, ds[i]? = some d ∧ Rep K mg O d v
  | _, _, _, _, .nil, e => by simp at e
  | _, _, 0, _, .cons r _, e => by simp at e; subst e; exact ⟨_, rfl, r⟩
  | _, _, i + 1, d, .cons _ t, e => by
    obtain ⟨v, h1, h2⟩ := RepL.getv (i := i) (v := d) t (by simpa using e)
    exact ⟨v, by simpa using h1, h2⟩
theorem RepL.take : ∀ {ds : List D} {vs : List V} (n : Nat), RepL K mg O ds vs → RepL K mg O (ds.take n) (vs.take n)
  | _, _, 0, _ => .nil
  | _, _, _ + 1, .nil => .nil
  | _, _, n + 1, .cons r t => .cons r (RepL.take n t)
theorem RepL.drop : ∀ {ds : List D} {vs : List V} (n : Nat), RepL K mg O ds vs → RepL K mg O (ds.drop n) (vs.drop n)
  | _, _, 0, r => r
  | _, _, _ + 1, .nil => .nil
  | _, _, n + 1, .cons _ t => RepL.drop n t
theorem RepL.set : ∀ {ds : List D} {vs : List V} (n : Nat) {d : D} {v : V}, RepL K mg O ds vs → Rep K mg O d v → RepL K mg O (ds.set n d) (vs.set n v)
  | _, _, _, _, _, .nil, _ => .nil
  | _, _, 0, _, _, .cons _ t, r => .cons r t
  | _, _, n + 1, _, _, .cons q t, r => .cons q (RepL.set n t r)
theorem RepL.rev {ds : List D} {vs : List V} (r : RepL K mg O ds vs) : RepL K mg O ds.reverse vs.reverse := by
  induction vs generalizing ds with
  | nil => cases r; exact .nil
  | cons v vs ih =>
    cases r with
    | cons q t =>
      rw [List.reverse_cons, List.reverse_cons]
      exact (ih t).app (.cons q .nil)
theorem RepL.rep {ds : List D} {vs : List V} (r : RepL K mg O ds vs) : ∀ k : Nat, RepL K mg O (List.replicate k ds).flatten (List.replicate k vs).flatten
  | 0 => .nil
  | k + 1 => by
    rw [List.replicate_succ, List.replicate_succ, List.flatten_cons, List.flatten_cons]
    exact r.app (RepL.rep r k)
theorem RepL.ints (O : Om) : ∀ ns : List Int, RepL K mg O (ns.map D.int) (ns.map V.int)
  | [] => .nil
  | n :: ns => .cons (.int n) (RepL.ints O ns)

theorem CellOk.stp (s : Stp O H O' H') {p : Addr} {c : Cell} (k : CellOk K mg O H p c) (e : c ≠ .dead → ∀ o, H p = some o → H' p = some o) : CellOk K mg O' H' p c := by
  cases c with
  | lst xs => obtain ⟨vs, a, z, b⟩ := k; exact ⟨vs, e (by simp) _ a, z, b.stp s⟩
  | dK xs => obtain ⟨vs, a, b⟩ := k; exact ⟨vs, e (by simp) _ a, b.stp s⟩
  | dT xs => obtain ⟨vs, a, b⟩ := k; exact ⟨vs, e (by simp) _ a, b.stp s⟩
  | ins C fs => obtain ⟨c, dx, ws, m, a, b⟩ := k; exact ⟨c, dx, ws, m, e (by simp) _ a, b.stp s⟩
  | dead => trivial

/-- a new thing that stays for ever -/
def Om.frz (O : Om) (p : Addr) (o : HO) : Om := ⟨O.n, O.φ, upd O.F p o⟩
theorem SR.newF {h : Hs} (S : SR K mg O h H) {p : Addr} (hp : H p = none) (o : HO) :
    Stp O H (O.frz p o) (upd H p o) ∧ SR K mg (O.frz p o) h (upd H p o) := by
  have up : ∀ a ob, O.F a = some ob → upd O.F p o a = some ob := fun a ob e => by
    have ne : a ≠ p := ne_of_none (S.sub a ob e) hp
    rw [upd_ne ne]; exact e
  have st : Stp O H (O.frz p o) (upd H p o) := ⟨Nat.le_refl _, fun _ _ => rfl, up, fun a ob e k => ⟨by rw [upd_ne (ne_of_none e hp)]; exact e, k, fun q _ => by
    show upd O.F p o a = none
    rw [upd_ne (ne_of_none e hp)]; exact q⟩⟩
  have keep : ∀ a ob, H a = some ob → upd H p o a = some ob := fun a ob q => by rw [upd_ne (ne_of_none q hp)]; exact q
  refine ⟨st, S.len, fun a ob e => ?_, S.inj, fun i hi => ?_, fun i c e nd => ?_, fun i c e => ?_⟩
  · by_cases ha : a = p
    · subst ha
      have e' : upd O.F a o a = some ob := e
      rw [upd_same] at e' ⊢
      exact e'
    · have e' : upd O.F p o a = some ob := e
      rw [upd_ne ha] at e' ⊢
      exact S.sub a ob e'
  · obtain ⟨ob, q⟩ := S.old i hi
    exact ⟨ob, keep _ _ q⟩
  · obtain ⟨ob, q⟩ := S.old i (by rw [← S.len]; exact (List.getElem?_eq_some_iff.mp e).1)
    show upd O.F p o (O.φ i) = none
    rw [upd_ne (ne_of_none q hp)]
    exact S.nof i c e nd
  · exact (S.cell i c e).stp st fun _ ob q => keep _ _ q
/-- one changing object more -/
def Om.more (O : Om) (p : Addr) : Om := ⟨O.n + 1, fun i => if i = O.n then p else O.φ i, O.F⟩
theorem Om.more_old {p : Addr} {i : Nat} (hi : i < O.n) : (O.more p).φ i = O.φ i := if_neg (Nat.ne_of_lt hi)
theorem Om.more_new {p : Addr} : (O.more p).φ O.n = p := if_pos rfl
/-- a changing object is made at p: the new heap H' has it there, all else is as it was -/
theorem SR.newC {h : Hs} (S : SR K mg O h H) {p : Addr} (hp : H p = none) {c : Cell} (hk : ∀ a o, H a = some o → H' a = some o) (hpo : ∃ o, H' p = some o)
    (hc : CellOk K mg (O.more p) H' p c) : Stp O H (O.more p) H' ∧ SR K mg (O.more p) (h ++ [c]) H' := by
  have ne : ∀ i, i < O.n → O.φ i ≠ p := fun i hi e => by
    obtain ⟨ob, q⟩ := S.old i hi
    rw [e, hp] at q; cases q
  have st : Stp O H (O.more p) H' := by
    refine ⟨Nat.le_succ _, fun i hi => Om.more_old hi, fun a o e => e, fun a o e k => ⟨hk a o e, fun i hi => ?_, fun q _ => q⟩⟩
    by_cases hn : i = O.n
    · rw [hn, Om.more_new]
      intro z
      rw [z, e] at hp; cases hp
    · have hi' : i < O.n := by have : i < O.n + 1 := hi; omega
      rw [Om.more_old hi']
      exact k i hi'
  have hl := S.len
  refine ⟨st, by rw [List.length_append, hl]; rfl, fun a o e => hk a o (S.sub a o e), fun i j hi hj e => ?_, fun i hi => ?_, fun i d e nd => ?_, fun i d e => ?_⟩
  · have hi' : i < O.n + 1 := hi
    have hj' : j < O.n + 1 := hj
    by_cases h1 : i = O.n
    · by_cases h2 : j = O.n
      · rw [h1, h2]
      · rw [h1, Om.more_new, Om.more_old (by omega)] at e
        exact absurd e.symm (ne j (by omega))
    · by_cases h2 : j = O.n
      · rw [h2, Om.more_new, Om.more_old (by omega)] at e
        exact absurd e (ne i (by omega))
      · rw [Om.more_old (by omega), Om.more_old (by omega)] at e
        exact S.inj i j (by omega) (by omega) e
  · by_cases hn : i = O.n
    · rw [hn, Om.more_new]; exact hpo
    · have hi' : i < O.n := by have : i < O.n + 1 := hi; omega
      rw [Om.more_old hi']
      obtain ⟨ob, q⟩ := S.old i hi'
      exact ⟨ob, hk _ _ q⟩
  · have hb : i < h.length + 1 := by
      have z := (List.getElem?_eq_some_iff.mp e).1
      rw [List.length_append] at z; exact z
    by_cases hn : i = O.n
    · rw [hn, Om.more_new]
      cases q : O.F p with
      | none => exact q
      | some o =>
        have z := S.sub p o q
        rw [hp] at z; cases z
    · have hi : i < h.length := by omega
      rw [Om.more_old (by omega)]
      rw [List.getElem?_append_left hi] at e
      exact S.nof i d e nd
  · have hb : i < h.length + 1 := by
      have z := (List.getElem?_eq_some_iff.mp e).1
      rw [List.length_append] at z; exact z
    by_cases hn : i = O.n
    · rw [hn, ← hl, List.getElem?_append_right (Nat.le_refl _), Nat.sub_self] at e
      have e2 : c = d := by simpa using e
      rw [hn, Om.more_new, ← e2]; exact hc
    · have hi : i < h.length := by omega
      rw [Om.more_old (by omega)]
      rw [List.getElem?_append_left hi] at e
      exact (S.cell i d e).stp st fun _ ob q => hk _ _ q
/-- a changing object is changed -/
theorem SR.put {h : Hs} (S : SR K mg O h H) {n : Nat} {c0 c : Cell} {o : HO} (e0 : h[n]? = some c0) (nd : c0 ≠ .dead)
    (hc : CellOk K mg O (upd H (O.φ n) o) (O.φ n) c) : Stp O H O (upd H (O.φ n) o) ∧ SR K mg O (h.set n c) (upd H (O.φ n) o) := by
  have hn : n < O.n := by rw [← S.len]; exact (List.getElem?_eq_some_iff.mp e0).1
  have hnl : n < h.length := (List.getElem?_eq_some_iff.mp e0).1
  have nf := S.nof n c0 e0 nd
  have st : Stp O H O (upd H (O.φ n) o) := ⟨Nat.le_refl _, fun _ _ => rfl, fun _ _ e => e, fun a ob e k => ⟨by rw [upd_ne (fun z => k n hn z.symm)]; exact e, k, fun q _ => q⟩⟩
  refine ⟨st, by rw [List.length_set]; exact S.len, fun a ob e => ?_, S.inj, fun i hi => ?_, fun i d e nd' => ?_, fun i d e => ?_⟩
  · rw [upd_ne (fun z => by rw [z, nf] at e; cases e)]
    exact S.sub a ob e
  · by_cases hi2 : O.φ i = O.φ n
    · rw [hi2]; exact ⟨_, upd_same⟩
    · rw [upd_ne hi2]; exact S.old i hi
  · by_cases hi : i = n
    · rw [hi]; exact nf
    · rw [List.getElem?_set_ne (Ne.symm hi)] at e
      exact S.nof i d e nd'
  · by_cases hi : i = n
    · rw [hi, List.getElem?_set_self hnl] at e
      cases e
      rw [hi]; exact hc
    · rw [List.getElem?_set_ne (Ne.symm hi)] at e
      have hlt : i < O.n := by rw [← S.len]; exact (List.getElem?_eq_some_iff.mp e).1
      exact (S.cell i d e).stp st fun _ ob q => by
        rw [upd_ne (fun z => hi (S.inj i n hlt hn z))]; exact q
/-- a list that changes no more -/
theorem SR.freeze {h : Hs} (S : SR K mg O h H) {n : Nat} {xs : List D} (e0 : h[n]? = some (.lst xs)) :
    ∃ O', Stp O H O' H ∧ SR K mg O' (h.set n .dead) H ∧ Rep K mg O' (.lst xs) (.ref (O.φ n)) := by
  have hn : n < O.n := by rw [← S.len]; exact (List.getElem?_eq_some_iff.mp e0).1
  have hnl : n < h.length := (List.getElem?_eq_some_iff.mp e0).1
  obtain ⟨vs, hv, hz, hr⟩ := S.cell n _ e0
  have nf := S.nof n _ e0 (by simp)
  have up : ∀ a ob, O.F a = some ob → upd O.F (O.φ n) (.lst vs) a = some ob := fun a ob e => by
    rw [upd_ne (fun z => by rw [z, nf] at e; cases e)]; exact e
  have st : Stp O H (O.frz (O.φ n) (.lst vs)) H := ⟨Nat.le_refl _, fun _ _ => rfl, up, fun a ob e k => ⟨e, k, fun q _ => by
    show upd O.F (O.φ n) (.lst vs) a = none
    rw [upd_ne (fun z => k n hn z.symm)]; exact q⟩⟩
  refine ⟨O.frz (O.φ n) (.lst vs), st, ⟨by rw [List.length_set]; exact S.len, fun a ob e => ?_, S.inj, S.old, fun i d e nd' => ?_, fun i d e => ?_⟩, ?_⟩
  · have e' : upd O.F (O.φ n) (.lst vs) a = some ob := e
    by_cases ha : a = O.φ n
    · rw [ha, upd_same] at e'
      rw [ha, hv]; exact e'
    · rw [upd_ne ha] at e'
      exact S.sub a ob e'
  · by_cases hi : i = n
    · rw [hi, List.getElem?_set_self hnl] at e
      cases e
      exact absurd rfl nd'
    · rw [List.getElem?_set_ne (Ne.symm hi)] at e
      have hlt : i < O.n := by rw [← S.len]; exact (List.getElem?_eq_some_iff.mp e).1
      show upd O.F (O.φ n) (.lst vs) (O.φ i) = none
      rw [upd_ne (fun z => hi (S.inj i n hlt hn z))]
      exact S.nof i d e nd'
  · by_cases hi : i = n
    · rw [hi, List.getElem?_set_self hnl] at e
      cases e
      trivial
    · rw [List.getElem?_set_ne (Ne.symm hi)] at e
      exact (S.cell i d e).stp st fun _ ob q => q
  · refine .lst (p := O.φ n) (vs := vs) ?_ hz (hr.stp st)
    show upd O.F (O.φ n) (.lst vs) (O.φ n) = _
    rw [upd_same]
theorem SR.at {h : Hs} (S : SR K mg O h H) {n : Nat} {c : Cell} (e : h[n]? = some c) : n < O.n ∧ CellOk K mg O H (O.φ n) c :=
  ⟨by rw [← S.len]; exact (List.getElem?_eq_some_iff.mp e).1, S.cell n c e⟩
theorem Rep.more {p : Addr} {d : D} {v : V} (r : Rep K mg O d v) : Rep K mg (O.more p) d v := r.up (Nat.le_succ _) (fun i hi => Om.more_old hi) fun _ _ e => e
theorem RepL.more {p : Addr} {d : List D} {v : List V} (r : RepL K mg O d v) : RepL K mg (O.more p) d v := r.up (Nat.le_succ _) (fun i hi => Om.more_old hi) fun _ _ e => e
theorem RepP.upp {κ : Type} {d : List (κ × D)} {v : List (κ × V)} (r : RepP K mg O d v) (hn : O.n ≤ O'.n) (hφ : ∀ i, i < O.n → O'.φ i = O.φ i) (hF : ∀ a o, O.F a = some o → O'.F a = some o) : RepP K mg O' d v := by
  induction r with
  | nil => exact .nil
  | cons q _ ih => exact .cons (q.up hn hφ hF) ih
theorem RepP.more {κ : Type} {p : Addr} {d : List (κ × D)} {v : List (κ × V)} (r : RepP K mg O d v) : RepP K mg (O.more p) d v := r.upp (Nat.le_succ _) (fun i hi => Om.more_old hi) fun _ _ e => e
theorem CellOk.upd {p q : Addr} {c : Cell} {o : HO} (hn : O.n ≤ O'.n) (hφ : ∀ i, i < O.n → O'.φ i = O.φ i) (hF : ∀ a o, O.F a = some o → O'.F a = some o) (k : CellOk K mg O H p c) (ne : p ≠ q) : CellOk K mg O' (L2.upd H q o) p c := by
  cases c with
  | lst xs => obtain ⟨vs, a, z, b⟩ := k; exact ⟨vs, by rw [upd_ne ne]; exact a, z, b.up hn hφ hF⟩
  | dK xs => obtain ⟨vs, a, b⟩ := k; exact ⟨vs, by rw [upd_ne ne]; exact a, b.upp hn hφ hF⟩
  | dT xs => obtain ⟨vs, a, b⟩ := k; exact ⟨vs, by rw [upd_ne ne]; exact a, b.upp hn hφ hF⟩
  | ins C fs => obtain ⟨c, dx, ws, m, a, b⟩ := k; exact ⟨c, dx, ws, m, by rw [upd_ne ne]; exact a, b.upp hn hφ hF⟩
  | dead => trivial
/-- a thing at p that was new at H is still no part of the plain heap at H1 -/
structure Apart (O : Om) (H : Hp) (p : Addr) : Prop where
  at_ : ∃ o, H p = some o
  ne : ∀ i, i < O.n → O.φ i ≠ p
  nf : O.F p = none
theorem Apart.new {h : Hs} (S : SR K mg O h H) {p : Addr} (hp : H p = none) (o : HO) : Apart O (upd H p o) p ∧ SR K mg O h (upd H p o) := by
  have nf : O.F p = none := by
    cases q : O.F p with
    | none => rfl
    | some u =>
      have z := S.sub p u q
      rw [hp] at z; cases z
  have ne : ∀ i, i < O.n → O.φ i ≠ p := fun i hi e => by
    obtain ⟨ob, q⟩ := S.old i hi
    rw [e, hp] at q; cases q
  refine ⟨⟨⟨o, upd_same⟩, ne, nf⟩, S.len, fun a u e => ?_, S.inj, fun i hi => ?_, S.nof, fun i c e => ?_⟩
  · rw [upd_ne (fun z => by rw [z, nf] at e; cases e)]; exact S.sub a u e
  · rw [upd_ne (ne i hi)]; exact S.old i hi
  · exact (S.cell i c e).upd (Nat.le_refl _) (fun _ _ => rfl) (fun _ _ e => e) (ne i (by rw [← S.len]; exact (List.getElem?_eq_some_iff.mp e).1))
theorem Apart.stp {p : Addr} (a : Apart O H p) (s : Stp O H O' H') {o : HO} (e : H p = some o) (ht : tupO o = false := by rfl) : Apart O' H' p ∧ H' p = some o :=
  have z := s.fr p o e a.ne
  ⟨⟨⟨o, z.1⟩, z.2.1, z.2.2 a.nf ht⟩, z.1⟩
theorem Apart.upd {p : Addr} (a : Apart O H p) (o : HO) : Apart O (L2.upd H p o) p := ⟨⟨o, upd_same⟩, a.ne, a.nf⟩
theorem Apart.srU {h : Hs} (S : SR K mg O h H) {p : Addr} (a : Apart O H p) (o : HO) : SR K mg O h (L2.upd H p o) := by
  refine ⟨S.len, fun b u e => ?_, S.inj, fun i hi => ?_, S.nof, fun i c e => ?_⟩
  · rw [upd_ne (fun z => by rw [z, a.nf] at e; cases e)]; exact S.sub b u e
  · rw [upd_ne (a.ne i hi)]; exact S.old i hi
  · exact (S.cell i c e).upd (Nat.le_refl _) (fun _ _ => rfl) (fun _ _ e => e) (a.ne i (by rw [← S.len]; exact (List.getElem?_eq_some_iff.mp e).1))
theorem CellOk.gen {p : Addr} {c : Cell} (hn : O.n ≤ O'.n) (hφ : ∀ i, i < O.n → O'.φ i = O.φ i) (hF : ∀ a o, O.F a = some o → O'.F a = some o) (k : CellOk K mg O H p c) (e : ∀ o, H p = some o → H' p = some o) : CellOk K mg O' H' p c := by
  cases c with
  | lst xs => obtain ⟨vs, a, z, b⟩ := k; exact ⟨vs, e _ a, z, b.up hn hφ hF⟩
  | dK xs => obtain ⟨vs, a, b⟩ := k; exact ⟨vs, e _ a, b.upp hn hφ hF⟩
  | dT xs => obtain ⟨vs, a, b⟩ := k; exact ⟨vs, e _ a, b.upp hn hφ hF⟩
  | ins C fs => obtain ⟨c, dx, ws, m, a, b⟩ := k; exact ⟨c, dx, ws, m, e _ a, b.upp hn hφ hF⟩
  | dead => trivial
/-- a transition, p's object left out -/
structure StpX (p : Addr) (O : Om) (H : Hp) (O' : Om) (H' : Hp) : Prop where
  n : O.n ≤ O'.n
  φ : ∀ i, i < O.n → O'.φ i = O.φ i
  F : ∀ a o, O.F a = some o → O'.F a = some o
  fr : ∀ a o, a ≠ p → H a = some o → (∀ i, i < O.n → O.φ i ≠ a) → H' a = some o ∧ (∀ i, i < O'.n → O'.φ i ≠ a) ∧ (O.F a = none → tupO o = false → O'.F a = none)
theorem StpX.refl (p : Addr) (O : Om) (H : Hp) : StpX p O H O H := ⟨Nat.le_refl _, fun _ _ => rfl, fun _ _ e => e, fun _ _ _ e k => ⟨e, k, fun q _ => q⟩⟩
theorem Stp.x {p : Addr} (s : Stp O H O' H') : StpX p O H O' H' := ⟨s.n, s.φ, s.F, fun a o _ => s.fr a o⟩
theorem StpX.trans {p : Addr} {O O1 O2 : Om} {H H1 H2 : Hp} (a : StpX p O H O1 H1) (b : StpX p O1 H1 O2 H2) : StpX p O H O2 H2 :=
  ⟨Nat.le_trans a.n b.n, fun i hi => (b.φ i (Nat.lt_of_lt_of_le hi a.n)).trans (a.φ i hi), fun c o e => b.F c o (a.F c o e), fun c o ne e k =>
      have y := a.fr c o ne e k
      have z := b.fr c o ne y.1 y.2.1
      ⟨z.1, z.2.1, fun q t => z.2.2 (y.2.2 q t) t⟩⟩
theorem StpX.put (p : Addr) (O : Om) (H : Hp) (o : HO) : StpX p O H O (L2.upd H p o) := ⟨Nat.le_refl _, fun _ _ => rfl, fun _ _ e => e, fun a u ne e k => ⟨by rw [upd_ne ne]; exact e, k, fun q _ => q⟩⟩
theorem RepL.stpx {p : Addr} (s : StpX p O H O' H') {d : List D} {v : List V} (r : RepL K mg O d v) : RepL K mg O' d v := r.up s.n s.φ s.F
/-- it becomes a thing that stays -/
theorem Apart.frz {h : Hs} {O1 : Om} {H1 : Hp} (S : SR K mg O1 h H1) {p : Addr} (a : Apart O1 H1 p) {o : HO} (e : H1 p = some o) (hp : H p = none) (s : StpX p O H O1 H1) : Stp O H (O1.frz p o) H1 ∧ SR K mg (O1.frz p o) h H1 := by
  have up : ∀ b u, O1.F b = some u → (O1.frz p o).F b = some u := fun b u q => by
    show L2.upd O1.F p o b = some u
    rw [upd_ne (fun z => by rw [z, a.nf] at q; cases q)]; exact q
  refine ⟨⟨s.n, s.φ, fun b u q => up b u (s.F b u q), fun b u q k => ?_⟩, S.len, fun b u q => ?_, S.inj, S.old, fun i c q nd => ?_, fun i c q => ?_⟩
  · have ne : b ≠ p := fun z => by rw [z, hp] at q; cases q
    have y := s.fr b u ne q k
    refine ⟨y.1, y.2.1, fun z t => ?_⟩
    show L2.upd O1.F p o b = none
    rw [upd_ne ne]; exact y.2.2 z t
  · have q' : L2.upd O1.F p o b = some u := q
    by_cases hb : b = p
    · rw [hb, upd_same] at q'
      rw [hb, e]; exact q'
    · rw [upd_ne hb] at q'
      exact S.sub b u q'
  · have hi : i < O1.n := by rw [← S.len]; exact (List.getElem?_eq_some_iff.mp q).1
    show L2.upd O1.F p o (O1.φ i) = none
    rw [upd_ne (a.ne i hi)]
    exact S.nof i c q nd
  · exact CellOk.gen (O := O1) (O' := O1.frz p o) (Nat.le_refl _) (fun _ _ => rfl) up (S.cell i c q) fun _ z => z
/-- it becomes a changing object -/
theorem Apart.cell {h : Hs} {O1 : Om} {H1 : Hp} (S : SR K mg O1 h H1) {p : Addr} (a : Apart O1 H1 p) (hp : H p = none) (s : StpX p O H O1 H1) {c : Cell} (hc : CellOk K mg (O1.more p) H1 p c) : Stp O H (O1.more p) H1 ∧ SR K mg (O1.more p) (h ++ [c]) H1 := by
  have hl := S.len
  refine ⟨⟨Nat.le_trans s.n (Nat.le_succ _), fun i hi => (Om.more_old (Nat.lt_of_lt_of_le hi s.n)).trans (s.φ i hi), fun b u q => s.F b u q, fun b u q k => ?_⟩, by rw [List.length_append, hl]; rfl, S.sub, fun i j hi hj e => ?_, fun i hi => ?_, fun i d e nd => ?_, fun i d e => ?_⟩
  · have ne : b ≠ p := fun z => by rw [z, hp] at q; cases q
    have y := s.fr b u ne q k
    refine ⟨y.1, fun i hi => ?_, y.2.2⟩
    by_cases hn : i = O1.n
    · rw [hn, Om.more_new]; exact fun z => ne z.symm
    · have hi' : i < O1.n := by have : i < O1.n + 1 := hi; omega
      rw [Om.more_old hi']
      exact y.2.1 i hi'
  · have hi' : i < O1.n + 1 := hi
    have hj' : j < O1.n + 1 := hj
    by_cases h1 : i = O1.n
    · by_cases h2 : j = O1.n
      · rw [h1, h2]
      · rw [h1, Om.more_new, Om.more_old (by omega)] at e
        exact absurd e.symm (a.ne j (by omega))
    · by_cases h2 : j = O1.n
      · rw [h2, Om.more_new, Om.more_old (by omega)] at e
        exact absurd e (a.ne i (by omega))
      · rw [Om.more_old (by omega), Om.more_old (by omega)] at e
        exact S.inj i j (by omega) (by omega) e
  · by_cases hn : i = O1.n
    · rw [hn, Om.more_new]; exact a.at_
    · have hi' : i < O1.n := by have : i < O1.n + 1 := hi; omega
      rw [Om.more_old hi']
      exact S.old i hi'
  · have hb : i < h.length + 1 := by
      have z := (List.getElem?_eq_some_iff.mp e).1
      rw [List.length_append] at z; exact z
    by_cases hn : i = O1.n
    · rw [hn, Om.more_new]; exact a.nf
    · have hi : i < h.length := by omega
      rw [Om.more_old (by omega)]
      rw [List.getElem?_append_left hi] at e
      exact S.nof i d e nd
  · have hb : i < h.length + 1 := by
      have z := (List.getElem?_eq_some_iff.mp e).1
      rw [List.length_append] at z; exact z
    by_cases hn : i = O1.n
    · rw [hn, ← hl, List.getElem?_append_right (Nat.le_refl _), Nat.sub_self] at e
      have e2 : c = d := by simpa using e
      rw [hn, Om.more_new, ← e2]; exact hc
    · have hi : i < h.length := by omega
      rw [Om.more_old (by omega)]
      rw [List.getElem?_append_left hi] at e
      exact (S.cell i d e).gen (Nat.le_succ _) (fun i hi => Om.more_old hi) (fun _ _ q => q) fun _ z => z
/-! ### a tuple that is known; a dict that is locked while it is walked -/
theorem CellOk.notTup {p : Addr} {c : Cell} {vs : List V} (k : CellOk K mg O H p c) (nd : c ≠ .dead) : H p ≠ some (.tup vs) := fun e => by
  cases c with
  | lst xs => obtain ⟨_, a, _⟩ := k; rw [e] at a; cases a
  | dK xs => obtain ⟨_, a, _⟩ := k; rw [e] at a; cases a
  | dT xs => obtain ⟨_, a, _⟩ := k; rw [e] at a; cases a
  | ins C fs => obtain ⟨_, _, _, _, a, _⟩ := k; rw [e] at a; cases a
  | dead => exact nd rfl
theorem SR.tupF {h : Hs} (S : SR K mg O h H) {q : Addr} {vs : List V} (hq : H q = some (.tup vs)) : Stp O H (O.frz q (.tup vs)) H ∧ SR K mg (O.frz q (.tup vs)) h H ∧ (O.frz q (.tup vs)).F q = some (.tup vs) := by
  have up : ∀ a ob, O.F a = some ob → upd O.F q (.tup vs) a = some ob := fun a ob e => by
    by_cases ha : a = q
    · subst ha
      have z := S.sub a ob e
      rw [hq] at z
      cases z
      exact upd_same
    · rw [upd_ne ha]; exact e
  have st : Stp O H (O.frz q (.tup vs)) H := ⟨Nat.le_refl _, fun _ _ => rfl, up, fun a ob e k => ⟨e, k, fun z t => by
    show upd O.F q (.tup vs) a = none
    rw [upd_ne (fun y => by rw [y, hq] at e; cases e; cases t)]; exact z⟩⟩
  refine ⟨st, ⟨S.len, fun a ob e => ?_, S.inj, S.old, fun i c e nd => ?_, fun i c e => (S.cell i c e).stp st fun _ _ z => z⟩, by show upd O.F q _ q = _; rw [upd_same]⟩
  · have e' : upd O.F q (.tup vs) a = some ob := e
    by_cases ha : a = q
    · subst ha
      rw [upd_same] at e'
      rw [hq]; exact e'
    · rw [upd_ne ha] at e'
      exact S.sub a ob e'
  · show upd O.F q (.tup vs) (O.φ i) = none
    rw [upd_ne (fun y => (S.cell i c e).notTup nd (by rw [y]; exact hq))]
    exact S.nof i c e nd
def lkO : HO → Bool
  | .frz _ (.dK _) => true
  | .frz _ (.dT _) => true
  | _ => false
def Om.unl (O : Om) (a : Addr) : Om := ⟨O.n, O.φ, fun b => if b = a then none else O.F b⟩
theorem Om.unl_ne {a b : Addr} (h : b ≠ a) : (O.unl a).F b = O.F b := if_neg h
theorem sqL_unl {a p : Addr} {vs : List V} (hn : ∀ o, O.F a = some o → lkO o = true) (q : SqL K O.F p vs) : SqL K (O.unl a).F p vs := by
  rcases q with (q | ⟨ob, q⟩) | q
  · exact .inl (.inl (by rw [Om.unl_ne (fun z => by rw [z] at q; cases hn _ q)]; exact q))
  · exact .inl (.inr ⟨ob, by rw [Om.unl_ne (fun z => by rw [z] at q; cases hn _ q)]; exact q⟩)
  · exact .inr q
theorem sqT_unl {a p : Addr} {vs : List V} (hn : ∀ o, O.F a = some o → lkO o = true) (q : SqT K O.F p vs) : SqT K (O.unl a).F p vs := by
  rcases q with (q | ⟨ob, q⟩) | q
  · exact .inl (.inl (by rw [Om.unl_ne (fun z => by rw [z] at q; cases hn _ q)]; exact q))
  · exact .inl (.inr ⟨ob, by rw [Om.unl_ne (fun z => by rw [z] at q; cases hn _ q)]; exact q⟩)
  · exact .inr q
mutual
theorem Rep.unl {a : Addr} (hn : ∀ o, O.F a = some o → lkO o = true) : ∀ {d : D} {v : V}, Rep K mg O d v → Rep K mg (O.unl a) d v
  | _, _, .non => .non
  | _, _, .bl b => .bl b
  | _, _, .int i => .int i
  | _, _, .str s => .str s
  | _, _, .tup q z r => .tup (by rw [Om.unl_ne (fun y => by rw [y] at q; cases hn _ q)]; exact q) z (RepL.unl hn r)
  | _, _, .lst q z r => .lst (by rw [Om.unl_ne (fun y => by rw [y] at q; cases hn _ q)]; exact q) z (RepL.unl hn r)
  | _, _, .ksl q z r => .ksl (sqL_unl hn q) z (RepL.unl hn r)
  | _, _, .kst q z r => .kst (sqT_unl hn q) z (RepL.unl hn r)
  | _, _, .ptr q => .ptr q
  | _, _, .glo e r => .glo e r
  | _, _, .exv e q z r l => .exv e (by rw [Om.unl_ne (fun y => by rw [y] at q; exact absurd (show false = true from hn _ q) (by decide))]; exact q) (by rw [Om.unl_ne (fun y => by rw [y] at z; exact absurd (show false = true from hn _ z) (by decide))]; exact z) (RepL.unl hn r) l
  | _, _, .exz e q => .exz e (by rw [Om.unl_ne (fun y => by rw [y] at q; exact absurd (show false = true from hn _ q) (by decide))]; exact q)
theorem RepL.unl {a : Addr} (hn : ∀ o, O.F a = some o → lkO o = true) : ∀ {ds : List D} {vs : List V}, RepL K mg O ds vs → RepL K mg (O.unl a) ds vs
  | _, _, .nil => .nil
  | _, _, .cons r t => .cons (Rep.unl hn r) (RepL.unl hn t)
end
theorem RepP.unl {κ : Type} {a : Addr} (hn : ∀ o, O.F a = some o → lkO o = true) {d : List (κ × D)} {v : List (κ × V)} (r : RepP K mg O d v) : RepP K mg (O.unl a) d v := by
  induction r with
  | nil => exact .nil
  | cons q _ ih => exact .cons (q.unl hn) ih
theorem CellOk.unl {a p : Addr} {c : Cell} (hn : ∀ o, O.F a = some o → lkO o = true) (k : CellOk K mg O H p c) (e : ∀ o, H p = some o → H' p = some o) : CellOk K mg (O.unl a) H' p c := by
  cases c with
  | lst xs => obtain ⟨vs, a, z, b⟩ := k; exact ⟨vs, e _ a, z, b.unl hn⟩
  | dK xs => obtain ⟨vs, a, b⟩ := k; exact ⟨vs, e _ a, b.unl hn⟩
  | dT xs => obtain ⟨vs, a, b⟩ := k; exact ⟨vs, e _ a, b.unl hn⟩
  | ins C fs => obtain ⟨c, dx, ws, m, a, b⟩ := k; exact ⟨c, dx, ws, m, e _ a, b.unl hn⟩
  | dead => trivial
/-- the cell n is locked: what stands there is frozen for a while -/
theorem SR.lock {h : Hs} (S : SR K mg O h H) {n : Nat} {c : Cell} (e0 : h[n]? = some c) (nd : c ≠ .dead) (o : HO) : SR K mg (O.frz (O.φ n) o) (h.set n .dead) (upd H (O.φ n) o) := by
  have hn : n < O.n := by rw [← S.len]; exact (List.getElem?_eq_some_iff.mp e0).1
  have hnl : n < h.length := (List.getElem?_eq_some_iff.mp e0).1
  have nf := S.nof n _ e0 nd
  have up : ∀ a ob, O.F a = some ob → upd O.F (O.φ n) o a = some ob := fun a ob e => by
    rw [upd_ne (fun z => by rw [z, nf] at e; cases e)]; exact e
  refine ⟨by rw [List.length_set]; exact S.len, fun a ob e => ?_, S.inj, fun i hi => ?_, fun i d e nd' => ?_, fun i d e => ?_⟩
  · have e' : upd O.F (O.φ n) o a = some ob := e
    by_cases ha : a = O.φ n
    · rw [ha, upd_same] at e'
      rw [ha, upd_same]; exact e'
    · rw [upd_ne ha] at e'
      rw [upd_ne ha]; exact S.sub a ob e'
  · by_cases hi2 : O.φ i = O.φ n
    · exact ⟨o, by show upd H (O.φ n) o (O.φ i) = _; rw [hi2, upd_same]⟩
    · obtain ⟨u, hu⟩ := S.old i hi
      exact ⟨u, by show upd H (O.φ n) o (O.φ i) = _; rw [upd_ne hi2]; exact hu⟩
  · by_cases hi : i = n
    · rw [hi, List.getElem?_set_self hnl] at e
      cases e
      exact absurd rfl nd'
    · rw [List.getElem?_set_ne (Ne.symm hi)] at e
      have hlt : i < O.n := by rw [← S.len]; exact (List.getElem?_eq_some_iff.mp e).1
      show upd O.F (O.φ n) o (O.φ i) = none
      rw [upd_ne (fun z => hi (S.inj i n hlt hn z))]
      exact S.nof i d e nd'
  · by_cases hi : i = n
    · rw [hi, List.getElem?_set_self hnl] at e
      cases e
      trivial
    · rw [List.getElem?_set_ne (Ne.symm hi)] at e
      have hlt : i < O.n := by rw [← S.len]; exact (List.getElem?_eq_some_iff.mp e).1
      exact CellOk.gen (O := O) (O' := O.frz (O.φ n) o) (Nat.le_refl _) (fun _ _ => rfl) up (S.cell i d e) fun _ q => by
        show upd H (O.φ n) o (O.φ i) = _
        rw [upd_ne (fun z => hi (S.inj i n hlt hn z))]; exact q
/-- .. and let go again, the list at p under construction aside -/
theorem SR.unlock {h h2 : Hs} {O2 : Om} {H2 : Hp} {p : Addr} (S : SR K mg O h H) {n : Nat} {c : Cell} (e0 : h[n]? = some c) (nd : c ≠ .dead) {o u : HO} (ho : H (O.φ n) = some o) (hu : lkO u = true)
    (s : StpX p (O.frz (O.φ n) u) (upd H (O.φ n) u) O2 H2) (S2 : SR K mg O2 h2 H2) (hp : H p = none) :
    StpX p O H (O2.unl (O.φ n)) (upd H2 (O.φ n) o) ∧ SR K mg (O2.unl (O.φ n)) (h2.set n c) (upd H2 (O.φ n) o) ∧ (∀ v, O2.F (O.φ n) = some v → lkO v = true) ∧ O2.φ n = O.φ n ∧ n < O2.n := by
  have hn : n < O.n := by rw [← S.len]; exact (List.getElem?_eq_some_iff.mp e0).1
  have nf := S.nof n _ e0 nd
  have F2 : O2.F (O.φ n) = some u := s.F _ _ (by show upd O.F (O.φ n) u (O.φ n) = _; rw [upd_same])
  have lk : ∀ v, O2.F (O.φ n) = some v → lkO v = true := fun v e => by rw [F2] at e; cases e; exact hu
  have φ2 : O2.φ n = O.φ n := s.φ n hn
  have n2 : n < O2.n := Nat.lt_of_lt_of_le hn s.n
  have up : ∀ a ob, O.F a = some ob → (O2.unl (O.φ n)).F a = some ob := fun a ob e => by
    have ne : a ≠ O.φ n := fun z => by rw [z, nf] at e; cases e
    rw [Om.unl_ne ne]
    exact s.F a ob (by show upd O.F (O.φ n) u a = _; rw [upd_ne ne]; exact e)
  have hn2 : n < h2.length := by rw [S2.len]; exact n2
  refine ⟨⟨s.n, s.φ, up, fun a ob ne e k => ?_⟩, ⟨by rw [List.length_set]; exact S2.len, fun a ob e => ?_, S2.inj, fun i hi => ?_, fun i d e nd' => ?_, fun i d e => ?_⟩, lk, φ2, n2⟩
  · have na : a ≠ O.φ n := fun z => k n hn z.symm
    have y := s.fr a ob ne (by rw [upd_ne na]; exact e) k
    refine ⟨by rw [upd_ne na]; exact y.1, y.2.1, fun z t => ?_⟩
    rw [Om.unl_ne na]
    exact y.2.2 (by show upd O.F (O.φ n) u a = _; rw [upd_ne na]; exact z) t
  · have na : a ≠ O.φ n := fun z => by
      have e' : (if a = O.φ n then none else O2.F a) = some ob := e
      rw [if_pos z] at e'; cases e'
    rw [Om.unl_ne na] at e
    rw [upd_ne na]
    exact S2.sub a ob e
  · by_cases hi2 : O2.φ i = O.φ n
    · exact ⟨o, by show upd H2 (O.φ n) o (O2.φ i) = _; rw [hi2, upd_same]⟩
    · obtain ⟨v, hv⟩ := S2.old i hi
      exact ⟨v, by show upd H2 (O.φ n) o (O2.φ i) = _; rw [upd_ne hi2]; exact hv⟩
  · show (if O2.φ i = O.φ n then none else O2.F (O2.φ i)) = none
    by_cases hi : i = n
    · rw [hi, φ2, if_pos rfl]
    · rw [List.getElem?_set_ne (Ne.symm hi)] at e
      split
      · rfl
      · exact S2.nof i d e nd'
  · by_cases hi : i = n
    · rw [hi, List.getElem?_set_self hn2] at e
      cases e
      show CellOk K mg (O2.unl (O.φ n)) (upd H2 (O.φ n) o) (O2.φ i) c
      rw [hi, φ2]
      exact CellOk.gen (O := O) (O' := O2.unl (O.φ n)) s.n s.φ up (S.cell n c e0) fun v q => by
        rw [ho] at q
        cases q
        rw [upd_same]
    · rw [List.getElem?_set_ne (Ne.symm hi)] at e
      have hlt : i < O2.n := by rw [← S2.len]; exact (List.getElem?_eq_some_iff.mp e).1
      exact (S2.cell i d e).unl lk fun v q => by
        show upd H2 (O.φ n) o (O2.φ i) = _
        rw [upd_ne (fun z => hi (S2.inj i n hlt n2 (z.trans φ2.symm)))]; exact q
theorem Apart.unl {p : Addr} {n : Nat} {o : HO} {O2 : Om} {H2 : Hp} (a : Apart O2 H2 p) (h : O2.φ n = O.φ n) (hn : n < O2.n) : Apart (O2.unl (O.φ n)) (L2.upd H2 (O.φ n) o) p := by
  have ne : p ≠ O.φ n := fun z => a.ne n hn (h.trans z.symm)
  obtain ⟨u, hu⟩ := a.at_
  exact ⟨⟨u, by rw [upd_ne ne]; exact hu⟩, a.ne, by rw [Om.unl_ne ne]; exact a.nf⟩
end
end SI
end
section
set_option Elab.async false
set_option linter.all false
set_option maxRecDepth 100000
set_option maxHeartbeats 4000000
/-! SI1: the small language and what it does to plain data. -/
namespace SI
open PySem L2

inductive Bop | add | sub | mul | fdiv | mod | pow
  deriving DecidableEq, Inhabited
inductive Cop | eq | ne | lt | le | gt | ge | isin | notin | is_ | isnot
  deriving DecidableEq, Inhabited
inductive SrcK | seq | rng | zip | enum
  deriving DecidableEq, Inhabited
inductive Bi | len | all | any | tuple | list | int | bool | repr | abs
  deriving DecidableEq, Inhabited
inductive Me | append | extend | pop1 | get2
  deriving DecidableEq, Inhabited
inductive Tg | n (i : Nat) | t (ts : List Tg)
  deriving Inhabited
inductive IE
  | c (d : D) | v (i : Nat) | tup (es : List IE) | lst (m : Bool) (es : List IE)
  | bin (op : Bop) (a b : IE) | neg (a : IE) | cmp (op : Cop) (a b : IE) | chain (o p : Cop) (a b c : IE)
  | and (a b : IE) | or (a b : IE) | not (a : IE) | ife (c a b : IE)
  | call (x : Str) (es : List IE) | make (C : Str) (es : List IE) | meth (o : IE) (m : Str) (es : List IE) | cmeth (C m : Str) (es : List IE)
  | bi (f : Bi) (e : IE) | isi (e : IE) (ts : List (Sum String Str)) | bm (m : Me) (o : IE) (es : List IE)
  | fld (o : IE) (f : Str) | ix (o i : IE) | sl (o : IE) (lo hi : Option IE)
  | comp (m : Bool) (elt : IE) (tg : Tg) (k : SrcK) (args : List IE) (ifs : Option IE) (own : List Nat)
  | val (e : IE) | rngs (l m : Bool) (args : List IE) | dic (t : Bool) | dicd (ks : List Str) (es : List IE)
  | compK (m : Bool) (elt : IE) (tg : Tg) (i : Nat) (ifs : Option IE) (own : List Nat) | lstm (e : IE)
  deriving Inhabited
inductive IS
  | set (t : Tg) (e : IE) | par (i j : Nat) (a b : IE) | setix (o i e : IE) | setsl (o lo hi e : IE) | setf (o : IE) (f : Str) (e : IE)
  | aug (i : Nat) (op : Bop) (e : IE) | augix (o i : IE) (op : Bop) (e : IE) | ex (e : IE) | ret (e : IE) | retN
  | ife (c : IE) (a b : List IS) | loop (tg : Tg) (k : SrcK) (args : List IE) (body : List IS)
  | pass | brk | cnt | frz (i : Nat) | bad
  deriving Inhabited

/-! ### outcomes -/
structure Exc where
  cls : Str
  fs : List (Str × D)
inductive Res (α : Type) | ok (a : α) (h : Hs) | ex (e : Exc) (h : Hs) | no
abbrev Nv := List (Option D)
inductive SRes | nx (env : Nv) (h : Hs) | rt (d : D) (h : Hs) | bk (env : Nv) (h : Hs) | ct (env : Nv) (h : Hs) | ex (e : Exc) (env : Nv) (h : Hs) | no
def Res.bind {α β : Type} (r : Res α) (f : α → Hs → Res β) : Res β := match r with
  | .ok a h => f a h
  | .ex e h => .ex e h
  | .no => .no
def Res.sbind {α : Type} (r : Res α) (env : Nv) (f : α → Hs → SRes) : SRes := match r with
  | .ok a h => f a h
  | .ex e h => .ex e env h
  | .no => .no
def Res.of {α : Type} (o : Option α) (h : Hs) : Res α := match o with
  | some a => .ok a h
  | none => .no
/-- where no exception is served -/
def Res.calm {α : Type} (r : Res α) : Res α := match r with
  | .ok a h => .ok a h
  | _ => .no
@[simp] theorem Res.bind_ok {α β : Type} (a : α) (h : Hs) (f : α → Hs → Res β) : (Res.ok a h).bind f = f a h := rfl
@[simp] theorem Res.sbind_ok {α : Type} (a : α) (h : Hs) (env : Nv) (f : α → Hs → SRes) : (Res.ok a h).sbind env f = f a h := rfl

theorem Res.bind_assoc {α β γ : Type} (r : Res α) (f : α → Hs → Res β) (g : β → Hs → Res γ) : (r.bind f).bind g = r.bind fun a h => (f a h).bind g := by
  cases r <;> rfl

/-! ### plain data read -/
def LINE : Nat := 16777216
/-- a list (true) or a tuple (false) that is a value, its items -/
def valSeq : D → Option (Bool × List D)
  | .lst xs => some (true, xs)
  | .tup xs => some (false, xs)
  | .ks l xs => some (l, xs)
  | _ => none
/-- .. or a list that changes -/
def un (h : Hs) : D → Option (Bool × List D)
  | .lst xs => some (true, xs)
  | .tup xs => some (false, xs)
  | .ks l xs => some (l, xs)
  | .ptr n => match h[n]? with
    | some (.lst xs) => some (true, xs)
    | _ => none
  | _ => none
mutual
def pyD (g : Nat → Option PyData) : D → Option PyData
  | .non => some .none
  | .bl b => some (.bool b)
  | .int i => some (.int i)
  | .str s => some (.str s)
  | .tup xs => (pyL g xs).map .tuple
  | .lst xs => (pyL g xs).map .list
  | .ks l xs => (pyL g xs).map (if l then .list else .tuple)
  | .ptr n => g n
  | .glo _ => none
  | .exv _ _ _ => none
def pyL (g : Nat → Option PyData) : List D → Option (List PyData)
  | [] => some []
  | x :: xs => match pyD g x with
    | some d => match pyL g xs with
      | some ds => some (d :: ds)
      | none => none
    | none => none
end
def ptrPy (h : Hs) : Nat → Nat → Option PyData
  | 0, _ => none
  | k + 1, n => match h[n]? with
    | some (.lst xs) => (pyL (ptrPy h k) xs).map .list
    | _ => none
def deep (h : Hs) (d : D) : Option PyData := pyD (ptrPy h 3) d
def eqD (h : Hs) (a b : D) : Option Bool := match deep h a with
  | some x => match deep h b with
    | some y => if SeqAt.shaped x && SeqAt.shaped y then some (PyData.eqv x y) else none
    | none => none
  | none => none
def truth (h : Hs) : D → Option Bool
  | .non => some false
  | .bl b => some b
  | .int i => some (i != 0)
  | .str s => if s.length ≤ LINE then some ((s.length : Int) != 0) else none
  | .tup xs => some (!xs.isEmpty)
  | .lst xs => some (!xs.isEmpty)
  | .ks _ xs => some (!xs.isEmpty)
  | .ptr n => match h[n]? with
    | some (.lst xs) => some (!xs.isEmpty)
    | some (.dK kvs) => some (!kvs.isEmpty)
    | _ => none
  | .glo _ => none
  | .exv _ _ _ => none
def keyOf : D → Option Key
  | .int i => some (.inl i)
  | .str s => some (.inr s)
  | _ => none
def keysOf : List D → Option (List Key)
  | [] => some []
  | d :: ds => match keyOf d with
    | some k => match keysOf ds with
      | some ks => some (k :: ks)
      | none => none
    | none => none
def keyT : D → Option (List Key)
  | .tup xs => keysOf xs
  | _ => none
section
variable {κ : Type} [DecidableEq κ]
def getK (kvs : List (κ × D)) (k : κ) : Option D := (kvs.find? fun p => decide (p.1 = k)).map (·.2)
def putD (kvs : List (κ × D)) (k : κ) (v : D) : List (κ × D) :=
  if (kvs.any fun p => decide (p.1 = k)) = true then kvs.map (fun p => if p.1 = k then (p.1, v) else p) else kvs ++ [(k, v)]
def delD (kvs : List (κ × D)) (k : κ) : List (κ × D) := kvs.filter fun p => decide (p.1 ≠ k)
end
/-- d[k]: outer none: d is no dict that is served -/
def dget (c : Cell) (k : D) : Option (Option D) := match c with
  | .dK kvs => match keyOf k with
    | some x => some (getK kvs x)
    | none => none
  | .dT kvs => match keyT k with
    | some x => some (getK kvs x)
    | none => none
  | _ => none
def dput (c : Cell) (k v : D) : Option Cell := match c with
  | .dK kvs => match keyOf k with
    | some x => if kvs.length < LINE then some (.dK (putD kvs x v)) else none
    | none => none
  | .dT kvs => match keyT k with
    | some x => if kvs.length < LINE then some (.dT (putD kvs x v)) else none
    | none => none
  | _ => none
def inD (h : Hs) (x c : D) : Option Bool := match c with
  | .ptr n => match h[n]? with
    | some (.lst xs) => match deep h x with
      | some d => match pyL (ptrPy h 2) xs with
        | some ds => if SeqAt.shaped d && SeqAt.shaped (.list ds) then some (ds.any fun z => PyData.eqv z d) else none
        | none => none
      | none => none
    | some cell => (dget cell x).map (·.isSome)
    | none => none
  | c => match valSeq c with
    | some (l, xs) => match deep h x with
      | some d => match pyL (ptrPy h 3) xs with
        | some ds => if SeqAt.shaped d && SeqAt.shaped (.list ds) then some (ds.any fun z => PyData.eqv z d) else none
        | none => none
      | none => none
    | none => none

/-! ### operators -/
def big64 (i : Int) : Bool := decide (i.natAbs < 18446744073709551616)
def binD (h : Hs) (op : Bop) (x y : D) : Option D := match x, y with
  | .int i, .int j => match op with
    | .add => some (.int (i + j))
    | .sub => some (.int (i - j))
    | .mul => if big64 i || big64 j then some (.int (i * j)) else none
    | .fdiv => if decide (0 < j ∧ j.natAbs < 1073741824) then some (.int (i / j)) else none
    | .mod => if decide (0 < j) then some (.int (i % j)) else none
    | .pow => if decide (0 ≤ j ∧ j ≤ 1000000 ∧ i.natAbs < 2 ^ 64) then some (.int (i ^ j.toNat)) else none
  | .str a, .str b => match op with
    | .add => if a.length + b.length ≤ LINE then some (.str (a ++ b)) else none
    | _ => none
  | x, y => match op, x, y with
    | .add, .tup xs, .tup ys => if xs.length + ys.length ≤ LINE then some (.tup (xs ++ ys)) else none
    | .mul, .tup xs, .int k => if 1 ≤ k ∧ k ≤ 1000 ∧ xs.length ≤ 1000 then some (.tup (List.replicate k.toNat xs).flatten) else none
    | _, _, _ => none
/-- list + list, list * int: a new list -/
def binL (h : Hs) (op : Bop) (x y : D) : Option (List D) := match op with
  | .add => match un h x with
    | some (true, xs) => match un h y with
      | some (true, ys) => if xs.length + ys.length ≤ LINE then some (xs ++ ys) else none
      | _ => none
    | _ => none
  | .mul => match un h x with
    | some (true, xs) => match y with
      | .int k => if k.natAbs < 4611686018427387904 ∧ xs.length * k.toNat ≤ LINE then some (List.replicate k.toNat xs).flatten else none
      | _ => none
    | _ => none
  | _ => none
def isKs : D → Bool
  | .ks _ _ => true
  | _ => false
def binA (h : Hs) (op : Bop) (x y : D) : Res D := match binD h op x y with
  | some d => .ok d h
  | none => if isKs x || isKs y then .no else match binL h op x y with
    | some xs => .ok (.lst xs) h
    | none => .no
def intsOf : List D → Option (List Int)
  | [] => some []
  | .int i :: ds => (intsOf ds).map (i :: ·)
  | _ => none
def ltD (x y : D) : Option Bool := match x, y with
  | .int i, .int j => some (decide (i < j))
  | .tup xs, .tup ys => match intsOf xs with
    | some ns => match intsOf ys with
      | some ms => some (HT.lexLt ns ms)
      | none => none
    | none => none
  | _, _ => none
def isD (x y : D) : Option Bool := match y with
  | .non => match x with
    | .non => some true
    | .glo _ => none
    | _ => some false
  | _ => none
def cmpD (h : Hs) (op : Cop) (x y : D) : Option Bool := match op with
  | .eq => eqD h x y
  | .ne => (eqD h x y).map (!·)
  | .lt => ltD x y
  | .gt => match x, y with
    | .int i, .int j => some (decide (j < i))
    | _, _ => none
  | .le => match x, y with
    | .int i, .int j => some (decide (i ≤ j))
    | _, _ => none
  | .ge => match x, y with
    | .int i, .int j => some (decide (j ≤ i))
    | _, _ => none
  | .isin => inD h x y
  | .notin => (inD h x y).map (!·)
  | .is_ => isD x y
  | .isnot => (isD x y).map (!·)
def cutD (xs : List D) (lo hi : Option Int) : List D := (xs.drop (HT.sIx xs.length 0 lo)).take (HT.sIx xs.length xs.length hi - HT.sIx xs.length 0 lo)
def idx (y : D) (xs : List D) : Option D := match y with
  | .int k => atI xs k
  | _ => none
def ixD (h : Hs) (o i : D) : Option D := match o with
  | .ptr n => match h[n]? with
    | some (.lst xs) => idx i xs
    | some c => (dget c i).join
    | none => none
  | o => match valSeq o with
    | some (_, xs) => idx i xs
    | none => none
def slD (h : Hs) (o : D) (lo hi : Option Int) : Option D := match o with
  | .tup xs => some (.tup (cutD xs lo hi))
  | o => match un h o with
    | some (true, xs) => some (.lst (cutD xs lo hi))
    | _ => none

/-! ### built-ins -/
def boolsOf : List D → Option (List Bool)
  | [] => some []
  | .bl b :: ds => (boolsOf ds).map (b :: ·)
  | _ => none
def lenD (h : Hs) (d : D) : Option D := match d with
  | .str s => if s.length ≤ LINE then some (.int s.length) else none
  | .ptr n => match h[n]? with
    | some (.lst xs) => some (.int xs.length)
    | some (.dK kvs) => some (.int kvs.length)
    | _ => none
  | d => match valSeq d with
    | some (_, xs) => some (.int xs.length)
    | none => none
def tupD (h : Hs) (d : D) : Option D := match d with
  | .tup xs => some (.tup xs)
  | .ks false xs => some (.ks false xs)
  | d => match un h d with
    | some (true, xs) => some (.tup xs)
    | _ => none
def isSeqPy : PyData → Bool
  | .list _ => true
  | .tuple _ => true
  | _ => false
def isPtr : D → Bool
  | .non => false
  | .bl _ => false
  | .int _ => false
  | .str _ => false
  | .glo _ => false
  | _ => true
def reprD (h : Hs) (d : D) : Option D := match deep h d with
  | some x => if isPtr d && x.showable && !x.hasDict && decide (x.shown.length ≤ LINE) && decide (x.depth ≤ 60) then some (.str x.shown) else none
  | none => none
def biD (f : Bi) (h : Hs) (d : D) : Option D := match f with
  | .len => lenD h d
  | .all => match un h d with
    | some (true, xs) => (boolsOf xs).map fun bs => .bl (bs.all id)
    | _ => none
  | .any => match un h d with
    | some (true, xs) => (boolsOf xs).map fun bs => .bl (bs.any id)
    | _ => none
  | .tuple => tupD h d
  | .list => match un h d with
    | some (_, xs) => some (.lst xs)
    | _ => none
  | .int => match d with
    | .int i => some (.int i)
    | .bl b => some (.int (if b then 1 else 0))
    | _ => none
  | .bool => match d with
    | .int i => some (.bl (i != 0))
    | .bl b => some (.bl b)
    | _ => none
  | .repr => reprD h d
  | .abs => match d with
    | .int i => some (.int (if i < 0 then -i else i))
    | _ => none
structure Wr where
  call : Str → List D → Hs → Res D
  meth : Str → Str → List D → Hs → Res D
  make : Str → List D → Hs → Res D
  sub : Str → Str → Option Bool
  cls : Str → Bool
  mth : Str → Str → Bool
  exc : Str → Bool
/-- isinstance against one class: a built-in's name, an own class -/
def isOne (G : Wr) (h : Hs) (d : D) (t : Sum String Str) : Option Bool := match d with
  | .ptr n => match h[n]? with
    | some (.ins C _) => match t with
      | .inr T => if G.cls C then G.sub C T else none
      | .inl T => if ["int", "bool", "str", "list", "tuple", "dict"].contains T && G.cls C then some false else none
    | some (.lst _) => match t with
      | .inl T => kitB "list" T
      | .inr _ => some false
    | some (.dK _) => match t with
      | .inl T => kitB "dict" T
      | .inr _ => some false
    | some (.dT _) => match t with
      | .inl T => kitB "dict" T
      | .inr _ => some false
    | _ => none
  | .glo _ => none
  | .exv C _ _ => if G.exc C then (match t with
    | .inr T => G.sub C T
    | .inl T => if T = "ValueError" then some true else none) else none
  | d => match t with
    | .inr _ => some false
    | .inl T => match d with
      | .non => kitB "NoneType" T
      | .bl _ => kitB "bool" T
      | .int _ => kitB "int" T
      | .str _ => kitB "str" T
      | .tup _ => kitB "tuple" T
      | .lst _ => kitB "list" T
      | .ks l _ => kitB (if l then "list" else "tuple") T
      | _ => none
def isAny (G : Wr) (h : Hs) (d : D) : List (Sum String Str) → Option Bool
  | [] => some false
  | t :: ts => match isOne G h d t with
    | some true => some true
    | some false => isAny G h d ts
    | none => none

/-! ### what is walked -/
def rngD (lo hi : Int) : List D := (List.range (hi - lo).toNat).map fun i => .int (lo + (i : Nat))
def rngOk (i : Int) : Bool := decide (i.natAbs ≤ 2305843009213693952)
def rngA (ds : List D) : Option (List D) := match ds with
  | [.int j] => if rngOk j then some (rngD 0 j) else none
  | [.int i, .int j] => if rngOk i && rngOk j then some (rngD i j) else none
  | _ => none
def zipD : List D → List D → List D
  | x :: xs, y :: ys => .tup [x, y] :: zipD xs ys
  | _, _ => []
def enumD : Nat → List D → List D
  | _, [] => []
  | i, x :: xs => .tup [.int i, x] :: enumD (i + 1) xs
def srcD (k : SrcK) (ds : List D) : Option (List D) := match k with
  | .seq => match ds with
    | [d] => (valSeq d).map (·.2)
    | _ => none
  | .rng => rngA ds
  | .zip => match ds with
    | [a, b] => match valSeq a with
      | some (true, xs) => match valSeq b with
        | some (true, ys) => some (zipD xs ys)
        | _ => none
      | some (false, xs) => match valSeq b with
        | some (false, ys) => some (zipD xs ys)
        | _ => none
      | none => none
    | _ => none
  | .enum => match ds with
    | [d] => match valSeq d with
      | some (_, xs) => some (enumD 0 xs)
      | none => none
    | _ => none

/-- a dict's keys, as they are walked -/
def kD : Key → D
  | .inl i => .int i
  | .inr s => .str s
def keysD : Cell → Option (List D)
  | .dK kvs => some (kvs.map fun q => kD q.1)
  | .dT kvs => if kvs.all (fun q => decide (q.1.length ≤ 1000)) then some (kvs.map fun q => .tup (q.1.map kD)) else none
  | _ => none

/-! ### names -/
def get (env : Nv) (i : Nat) : Option D := (env[i]?).join
def wipeE (env : Nv) : List Nat → Nv
  | [] => env
  | v :: vs => (wipeE env vs).set v none
mutual
def asg : Tg → D → Nv → Option Nv
  | .n i, d, env => some (env.set i (some d))
  | .t ts, d, env => match valSeq d with
    | some (false, xs) => asgs ts xs env
    | _ => none
def asgs : List Tg → List D → Nv → Option Nv
  | [], [], env => some env
  | t :: ts, d :: ds, env => match asg t d env with
    | some env => asgs ts ds env
    | none => none
  | _, _, _ => none
end

/-! ### the world of defs and classes -/
/-- the receiver's class, where it has no field of the method's name -/
def clsOf (G : Wr) (h : Hs) (d : D) (m : Str) : Option Str := match d with
  | .ptr n => match h[n]? with
    | some (.ins C fs) => if G.cls C && G.mth C m && (fs.lookup m).isNone then some C else none
    | _ => none
  | _ => none
def fldD (G : Wr) (h : Hs) (d : D) (f : Str) : Option D := match d with
  | .ptr n => match h[n]? with
    | some (.ins C fs) => if G.cls C then fs.lookup f else none
    | _ => none
  | .exv C ns ds => if G.exc C then (ns.zip ds).lookup f else none
  | _ => none
def putFD (f : Str) (v : D) : List (Str × D) → List (Str × D)
  | [] => [(f, v)]
  | (g, w) :: r => if g = f then (f, v) :: r else (g, w) :: putFD f v r
def setFD (G : Wr) (h : Hs) (d : D) (f : Str) (v : D) : Option Hs := match d with
  | .ptr n => match h[n]? with
    | some (.ins C fs) => if G.cls C && decide (fs.length < 1000) then some (h.set n (.ins C (putFD f v fs))) else none
    | _ => none
  | _ => none
def setIxD (h : Hs) (o i v : D) : Option Hs := match o with
  | .ptr n => match h[n]? with
    | some (.lst xs) => match i with
      | .int k => match ixN xs.length k with
        | some j => some (h.set n (.lst (xs.set j v)))
        | none => none
      | _ => none
    | some c => match dput c i v with
      | some c' => some (h.set n c')
      | none => none
    | none => none
  | _ => none
def setSlD (h : Hs) (o : D) (lo hi : Option Int) (v : D) : Option Hs := match o with
  | .ptr n => match h[n]? with
    | some (.lst xs) => match lo, hi, v with
      | some a, some b, .lst ys => if 0 ≤ a ∧ a ≤ b ∧ b ≤ xs.length ∧ xs.length + ys.length ≤ LINE then some (h.set n (.lst (xs.take a.toNat ++ ys ++ xs.drop b.toNat))) else none
      | _, _, _ => none
    | _ => none
  | _ => none
def isLstC : Cell → Bool
  | .lst _ => true
  | _ => false
def isDKC : Cell → Bool
  | .dK _ => true
  | _ => false
def isDTC : Cell → Bool
  | .dT _ => true
  | _ => false
def kindC : Me → Cell → Bool
  | .append, c => isLstC c
  | .extend, c => isLstC c
  | .pop1, c => isDKC c || isDTC c
  | .get2, c => isDKC c || isDTC c
/-- the receiver is of the method's kind -/
def meOk (m : Me) (h : Hs) (o : D) : Bool := match o with
  | .ptr n => match h[n]? with
    | some c => kindC m c
    | none => false
  | _ => false
def appC : Cell → List D → Option (D × Cell)
  | .lst xs, [y] => if xs.length < LINE then some (.non, .lst (xs ++ [y])) else none
  | _, _ => none
def extC : Cell → List D → Option (D × Cell)
  | .lst xs, [.lst ys] => if xs.length + ys.length ≤ LINE then some (.non, .lst (xs ++ ys)) else none
  | _, _ => none
def popC : Cell → List D → Option (D × Cell)
  | .dK kvs, [k] => match keyOf k with
    | some x => match getK kvs x with
      | some v => some (v, .dK (delD kvs x))
      | none => none
    | none => none
  | .dT kvs, [k] => match keyT k with
    | some x => match getK kvs x with
      | some v => some (v, .dT (delD kvs x))
      | none => none
    | none => none
  | _, _ => none
def getC : Cell → List D → Option (D × Cell)
  | c, [k, e] => match dget c k with
    | some o => some (o.getD e, c)
    | none => none
  | _, _ => none
def meC : Me → Cell → List D → Option (D × Cell)
  | .append => appC
  | .extend => extC
  | .pop1 => popC
  | .get2 => getC
def meD (m : Me) (h : Hs) (o : D) (as : List D) : Res D := match o with
  | .ptr n => match h[n]? with
    | some c => match meC m c as with
      | some (v, c') => .ok v (h.set n c')
      | none => .no
    | none => .no
  | _ => .no
/-- a list of values as it is made: a value, or a changing object -/
def mkL (m : Bool) (xs : List D) (h : Hs) : Res D := if m then .ok (.ptr h.length) (h ++ [.lst xs]) else .ok (.lst xs) h
def reL (m : Bool) (r : Res D) : Res D := match m with
  | false => r
  | true => match r with
    | .ok (.lst xs) h => .ok (.ptr h.length) (h ++ [.lst xs])
    | .ok _ _ => .no
    | .ex e h => .ex e h
    | .no => .no

/-! ### expressions -/
def evs (f : IE → Nv → Hs → Res D) : List IE → Nv → Hs → Res (List D)
  | [], _, h => .ok [] h
  | e :: es, env, h => (f e env h).bind fun d h => (evs f es env h).bind fun ds h => .ok (d :: ds) h
def evo (f : IE → Nv → Hs → Res D) : Option IE → Nv → Hs → Res (Option Int)
  | none, _, h => .ok none h
  | some e, env, h => (f e env h).bind fun d h => match d with
    | .int i => .ok (some i) h
    | _ => .no
def compLoop (f : D → Hs → Res (Option D)) : List D → Hs → Res (List D)
  | [], h => .ok [] h
  | x :: xs, h => (f x h).bind fun o h => (compLoop f xs h).bind fun ys h => .ok (match o with
    | some y => y :: ys
    | none => ys) h
mutual
def ev (G : Wr) : Nat → IE → Nv → Hs → Res D
  | 0, _, _, _ => .no
  | n + 1, e, env, h => match e with
    | .c d => .ok d h
    | .v i => .of (get env i) h
    | .val e => ev G n e env h
    | .tup es => (evs (ev G n) es env h).bind fun ds h => .ok (.tup ds) h
    | .lst m es => (evs (ev G n) es env h).bind fun ds h => mkL m ds h
    | .bin op a b => (ev G n a env h).bind fun x h => (ev G n b env h).bind fun y h => binA h op x y
    | .neg a => (ev G n a env h).bind fun x h => match x with
      | .int i => .ok (.int (-i)) h
      | _ => .no
    | .cmp op a b => (ev G n a env h).bind fun x h => (ev G n b env h).bind fun y h => .of ((cmpD h op x y).map .bl) h
    | .chain o p a b c => (ev G n a env h).bind fun x h => (ev G n b env h).bind fun y h => (Res.of (cmpD h o x y) h).bind fun k h =>
        if k then (ev G n c env h).bind fun z h => .of ((cmpD h p y z).map .bl) h else .ok (.bl false) h
    | .and a b => (ev G n a env h).bind fun x h => (Res.of (truth h x) h).bind fun k h => if k then ev G n b env h else .ok x h
    | .or a b => (ev G n a env h).bind fun x h => (Res.of (truth h x) h).bind fun k h => if k then .ok x h else ev G n b env h
    | .not a => (ev G n a env h).bind fun x h => .of ((truth h x).map fun k => .bl (!k)) h
    | .ife c a b => (evT G n c env h).bind fun k h => if k then ev G n a env h else ev G n b env h
    | .call x es => (evs (ev G n) es env h).bind fun ds h => G.call x ds h
    | .make C es => (evs (ev G n) es env h).bind fun ds h => G.make C ds h
    | .meth o m es => (ev G n o env h).bind fun d h => match clsOf G h d m with
      | some C => (evs (ev G n) es env h).bind fun ds h => G.meth C m (d :: ds) h
      | none => .no
    | .cmeth C m es => (evs (ev G n) es env h).bind fun ds h => G.meth C m ds h
    | .bi f e => (ev G n e env h).bind fun d h => .of (biD f h d) h
    | .isi e ts => (ev G n e env h).bind fun d h => .of ((isAny G h d ts).map .bl) h
    | .bm m o es => (ev G n o env h).bind fun d h => if meOk m h d then (evs (ev G n) es env h).bind fun ds h => meD m h d ds else .no
    | .fld o f => (ev G n o env h).bind fun d h => .of (fldD G h d f) h
    | .ix o i => (ev G n o env h).bind fun x h => (ev G n i env h).bind fun y h => .of (ixD h x y) h
    | .sl o lo hi => (ev G n o env h).bind fun x h => (evo (ev G n) lo env h).bind fun l h => (evo (ev G n) hi env h).bind fun u h => .of (slD h x l u) h
    | .comp m elt tg k args ifs own => reL m ((evs (ev G n) args env h).bind fun ds h => (Res.of (srcD k ds) h).bind fun xs h => if xs.length ≤ LINE then
        (compLoop (fun x h => ((Res.of (asg tg x (wipeE env own)) h).bind fun env2 h =>
          match ifs with
          | none => (ev G n elt env2 h).bind fun y h => .ok (some y) h
          | some c => (evT G n c env2 h).bind fun b h => if b then (ev G n elt env2 h).bind fun y h => .ok (some y) h else .ok none h).calm) xs h).bind fun ys h => .ok (.lst ys) h else .no)
    | .rngs l m args => reL m ((evs (ev G n) args env h).bind fun ds h => (Res.of (rngA ds) h).bind fun xs h =>
        if xs.length ≤ LINE then .ok (if l then .lst xs else .tup xs) h else .no)
    | .dic t => .ok (.ptr h.length) (h ++ [if t then .dT [] else .dK []])
    | .dicd ks es => (evs (ev G n) es env h).calm.bind fun ds h =>
        if ks.length = ds.length then .ok (.ptr h.length) (h ++ [.dK ((ks.map Sum.inr).zip ds)]) else .no
    | .compK m elt tg i ifs own => match get env i with
      | some (.ptr p) => match h[p]? with
        | some c => match keysD c with
          | some xs => if xs.length ≤ LINE then reL m ((compLoop (fun x h => ((Res.of (asg tg x ((wipeE env own).set i none)) h).bind fun env2 h =>
              match ifs with
              | none => (ev G n elt env2 h).bind fun y h => .ok (some y) h
              | some c => (evT G n c env2 h).bind fun b h => if b then (ev G n elt env2 h).bind fun y h => .ok (some y) h else .ok none h).calm) xs (h.set p .dead)).bind fun ys h2 => .ok (.lst ys) (h2.set p c)) else .no
          | none => .no
        | none => .no
      | _ => .no
    | .lstm e => reL true ((ev G n e env h).bind fun d h => .of (biD .list h d) h)
def evT (G : Wr) : Nat → IE → Nv → Hs → Res Bool
  | 0, _, _, _ => .no
  | n + 1, e, env, h => match e with
    | .and a b => (evT G n a env h).bind fun k h => if k then evT G n b env h else .ok false h
    | .or a b => (evT G n a env h).bind fun k h => if k then .ok true h else evT G n b env h
    | .not a => (evT G n a env h).bind fun k h => .ok (!k) h
    | e => (ev G n e env h).bind fun x h => .of (truth h x) h
end

/-! ### statements -/
def forLoop (f : D → Nv → Hs → SRes) : List D → Nv → Hs → SRes
  | [], env, h => .nx env h
  | x :: xs, env, h => match f x env h with
    | .nx env h => forLoop f xs env h
    | .ct env h => forLoop f xs env h
    | .bk env h => .nx env h
    | .rt d h => .rt d h
    | .ex e env h => .ex e env h
    | .no => .no
def SRes.then (r : SRes) (f : Nv → Hs → SRes) : SRes := match r with
  | .nx env h => f env h
  | r => r
def exs (f : IS → Nv → Hs → SRes) : List IS → Nv → Hs → SRes
  | [], env, h => .nx env h
  | s :: ss, env, h => (f s env h).then (exs f ss)
def SRes.of (o : Option (Nv × Hs)) : SRes := match o with
  | some (env, h) => .nx env h
  | none => .no
def ex (G : Wr) : Nat → IS → Nv → Hs → SRes
  | 0, _, _, _ => .no
  | n + 1, s, env, h => match s with
    | .set t e => (ev G n e env h).sbind env fun d h => match asg t d env with
      | some env => .nx env h
      | none => .no
    | .par i j a b => (ev G n a env h).sbind env fun x h => (ev G n b env h).sbind env fun y h => .nx ((env.set i (some x)).set j (some y)) h
    | .setix o i e => (ev G n e env h).sbind env fun v h => (ev G n o env h).sbind env fun x h => (ev G n i env h).sbind env fun y h => match setIxD h x y v with
      | some h => .nx env h
      | none => .no
    | .setsl o lo hi e => (ev G n e env h).sbind env fun v h => (ev G n o env h).sbind env fun x h => (evo (ev G n) (some lo) env h).sbind env fun a h => (evo (ev G n) (some hi) env h).sbind env fun b h => match setSlD h x a b v with
      | some h => .nx env h
      | none => .no
    | .setf o f e => (ev G n e env h).sbind env fun v h => (ev G n o env h).sbind env fun x h => match setFD G h x f v with
      | some h => .nx env h
      | none => .no
    | .aug i op e => match get env i with
      | some (.int x) => (ev G n e env h).sbind env fun y h => match y with
        | .int z => match binD h op (.int x) (.int z) with
          | some z => .nx (env.set i (some z)) h
          | none => .no
        | _ => .no
      | _ => .no
    | .augix o i op e => (ev G n o env h).sbind env fun x h => (ev G n i env h).sbind env fun k h => match x, ixD h x k with
      | .ptr p, some (.int a) => (ev G n e env h).sbind env fun y h => match y with
        | .int b => match binD h op (.int a) (.int b) with
          | some z => match setIxD h (.ptr p) k z with
            | some h => .nx env h
            | none => .no
          | none => .no
        | _ => .no
      | _, _ => .no
    | .ex e => (ev G n e env h).sbind env fun _ h => .nx env h
    | .ret e => (ev G n e env h).sbind env fun d h => .rt d h
    | .retN => .rt .non h
    | .ife c a b => (evT G n c env h).sbind env fun k h => if k then exs (ex G n) a env h else exs (ex G n) b env h
    | .loop tg k args body => (evs (ev G n) args env h).sbind env fun ds h => match srcD k ds with
      | some xs => forLoop (fun x env h => match asg tg x env with
        | some env => exs (ex G n) body env h
        | none => .no) xs env h
      | none => .no
    | .pass => .nx env h
    | .brk => .bk env h
    | .cnt => .ct env h
    | .frz i => match get env i with
      | some (.ptr p) => match h[p]? with
        | some (.lst xs) => .nx (env.set i (some (.lst xs))) (h.set p .dead)
        | _ => .no
      | some (.lst xs) => .nx env h
      | _ => .no
    | .bad => .no
end SI
end
section
set_option Elab.async false
set_option linter.all false
set_option maxRecDepth 100000
set_option maxHeartbeats 4000000
/-! SI2: side conditions that hang on the text alone. -/
namespace SI
open PySem PySem.Spec PyProof.Rows L2

def starless : Expr → Bool
  | .Starred _ _ => false
  | _ => true
theorem star_cons {e : Expr} (h : starless e = true) (es : List Expr) (env : PySem.Env) : starEach (e :: es) env = (false, eval e env) :: starEach es env := by
  cases e <;> first | rfl | cases h
theorem star_any {pos : Pos} : ∀ {es : List Expr} {env : PySem.Env}, es.all starless = true → (backTo pos (starEach es env)).any (·.1) = false
  | [], _, _ => rfl
  | e :: es, env, h => by
    have h1 : starless e = true ∧ es.all starless = true := by simpa using h
    rw [star_cons h1.1]
    show (false || (backTo pos (starEach es env)).any (·.1)) = false
    rw [star_any h1.2]; rfl
/-- no comprehension -/
def compless : Expr → Bool
  | .ListComp .. => false
  | .SetComp .. => false
  | .DictComp .. => false
  | _ => true
theorem no_swap {e : Expr} (h : compless e = true) (t : Option Expr) (l : Nat) (env : PySem.Env) : swapsWith e t l env = pure false := by
  cases e <;> first | rfl | cases h
def sliceless : Expr → Bool
  | .Slice .. => false
  | _ => true
theorem plain_ix {e : Expr} (h : sliceless e = true) : PlainIx e := by
  intro o i
  cases e <;> first | rfl | cases h
/-- whose truth as a test is its value's -/
def plainT : Expr → Bool
  | .UnaryOp .Not _ _ => false
  | .BoolOp .. => false
  | .IfExp .. => false
  | .Compare .. => false
  | _ => true
theorem plain_true {e : Expr} (h : plainT e = true) (env : PySem.Env) (whole : Sem Value) : isTrue e env whole = (do let v ← whole; standAt e.pos; holding [v] (truthy v)) := by
  cases e with
  | UnaryOp op a p => cases op <;> first | rfl | cases h
  | BoolOp => cases h
  | IfExp => cases h
  | Compare => cases h
  | _ => rfl
/-- an attribute's base that is no super() -/
def superless : Expr → Bool
  | .Call (.Name _ _) [] [] _ => false
  | _ => true
theorem base_plain {e : Expr} (h : superless e = true) (f : Str) (env : PySem.Env) (w : Sem Value) : attributeBase e f env w = w := by
  unfold attributeBase
  split
  · cases h
  · rfl
def setless : Expr → Bool
  | .Set .. => false
  | _ => true
theorem fold_set {e : Expr} (h : setless e = true) (env : PySem.Env) (x : Value) : foldedSetIterable e env x = pure x := by
  cases e <;> first | rfl | cases h
theorem behind_plain {e : Expr} (h : setless e = true) (op : CmpOp) : behindInMarks op e = false := by
  cases e <;> first | rfl | cases h
theorem aug_ok {e : Expr} (h : sliceless e = true) : ∀ ov iv new, augStore e ov iv new = (do
    holding [new, ov, iv] (setItem ov iv new)
    release [new, ov, iv] []
    pure .next) := by
  intro a b c
  cases e <;> first | rfl | cases h
theorem few_ok {args : List Expr} {env : PySem.Env} {pos : Pos} (h : args.all starless = true) (hl : args.length < 30) : methodCallForm (args.length + ([] : List Keyword).length) (backTo pos (starEach args env)) (backToKw pos (keywordEach [] env)) = true := by
  have a : ∀ es : List Expr, es.all starless = true → (backTo pos (starEach es env)).all (!·.1) = true := by
    intro es
    induction es with
    | nil => intro _; rfl
    | cons e es ih =>
      intro h
      have h1 : starless e = true ∧ es.all starless = true := by simpa using h
      rw [star_cons h1.1]
      show (!false && (backTo pos (starEach es env)).all (!·.1)) = true
      rw [ih h1.2]; rfl
  show ((backTo pos (starEach args env)).all (!·.1) && true && decide (args.length + 0 + 0 < 30)) = true
  rw [a args h, decide_eq_true (by omega)]; rfl
theorem meth_eq {o : Expr} {m : Str} {apos pos : Pos} {args : List Expr} {env : PySem.Env} (h : args.all starless = true) (hl : args.length < 30) (ho : superless o = true) (hp : (apos.endLine == pos.line) = true) :
    ∃ pl : PySem.Sem Bool, eval (.Call (.Attribute o m apos) args [] pos) env = (do
      let ov ← eval o env
      standAt apos.atName
      let (f, first) ← holding [ov] (getMethod ov m pl)
      callWith pos f first (backTo pos (starEach args env)) (backToKw pos (keywordEach [] env))) := by
  refine ⟨(do return (← importBound o env).getD true), ?_⟩
  show (do
    let ov ← attributeBase o m env (eval o env)
    standAt apos.atName
    methodCall o m apos pos env ov (args.length + ([] : List Keyword).length) (backTo pos (starEach args env)) (backToKw pos (keywordEach [] env))) = _
  rw [base_plain ho]
  unfold methodCall
  rw [few_ok h hl]
  unfold methodCallPos calleeOf
  rw [if_pos (show (!true || apos.endLine == pos.line) = true by rw [hp]; rfl)]
  rfl
end SI
end
section
set_option Elab.async false
set_option linter.all false
set_option maxRecDepth 100000
set_option maxHeartbeats 4000000
/-! SI3: what the small language says is what the layer's readings ask: operators. -/
namespace SI
open PySem PySem.Spec PyProof.Rows L2

/-- the frame's names -/
structure NvOk (K : PySem.W.Frag) (mg : Mg) (O : Om) (env : Nv) (sg : L2.St) : Prop where
  len : env.length = sg.length
  val : ∀ (i : Nat) (d : D), env[i]? = some (some d) → ∃ v, sg[i]? = some (some v) ∧ Rep K mg O d v
theorem NvOk.stp {K : PySem.W.Frag} {mg : Mg} {O O' : Om} {H H' : Hp} {env : Nv} {sg : L2.St} (e : NvOk K mg O env sg) (s : Stp O H O' H') : NvOk K mg O' env sg :=
  ⟨e.len, fun i d q => let ⟨v, a, b⟩ := e.val i d q; ⟨v, a, b.stp s⟩⟩
theorem NvOk.set {K : PySem.W.Frag} {mg : Mg} {O : Om} {env : Nv} {sg : L2.St} (e : NvOk K mg O env sg) (i : Nat) {d : D} {v : V} (r : Rep K mg O d v) : NvOk K mg O (env.set i (some d)) (sg.set i (some v)) := by
  refine ⟨by rw [List.length_set, List.length_set]; exact e.len, fun j d' q => ?_⟩
  by_cases h : i = j
  · subst h
    by_cases hl : i < env.length
    · rw [List.getElem?_set_self hl] at q
      have q' : d = d' := by simpa using q
      subst q'
      exact ⟨v, List.getElem?_set_self (by rw [← e.len]; exact hl), r⟩
    · rw [List.getElem?_eq_none (by rw [List.length_set]; omega)] at q
      cases q
  · rw [List.getElem?_set_ne h] at q
    obtain ⟨w, a, b⟩ := e.val j d' q
    exact ⟨w, by rw [List.getElem?_set_ne h]; exact a, b⟩
theorem NvOk.clear {K : PySem.W.Frag} {mg : Mg} {O : Om} {env : Nv} {sg : L2.St} (e : NvOk K mg O env sg) (i : Nat) : NvOk K mg O (env.set i none) (sg.set i none) := by
  refine ⟨by rw [List.length_set, List.length_set]; exact e.len, fun j d' q => ?_⟩
  by_cases h : i = j
  · subst h
    by_cases hl : i < env.length
    · rw [List.getElem?_set_self hl] at q
      cases q
    · rw [List.getElem?_eq_none (by rw [List.length_set]; omega)] at q
      cases q
  · rw [List.getElem?_set_ne h] at q
    obtain ⟨w, a, b⟩ := e.val j d' q
    exact ⟨w, by rw [List.getElem?_set_ne h]; exact a, b⟩
theorem NvOk.wipe {K : PySem.W.Frag} {mg : Mg} {O : Om} {env : Nv} {sg : L2.St} (e : NvOk K mg O env sg) : ∀ l : List Nat, NvOk K mg O (wipeE env l) (L2.wipe sg l)
  | [] => e
  | v :: vs => (NvOk.wipe e vs).clear v

/-- an exception that flies: its class, its own dict -/
def ExOk (K : PySem.W.Frag) (mg : Mg) (O : Om) (e : Exc) (cls : Value) (d : Option Addr) : Prop :=
  ∃ (C dx : Addr) (fs : List (Str × V)), mg e.cls = some (.ref C) ∧ cls = .ref C ∧ d = some dx ∧ O.F dx = some (.xd fs) ∧ RepP K mg O e.fs fs

section
variable {α β γ δ : Type} (X : Cx) (W : WX)
/-- what is wanted behind a plain outcome -/
def Post (sg : L2.St) (O : Om) (H : Hp) (r : Res α) (rep : Om → α → β → Prop) (Q : β → Hp → Prop) : Prop := match r with
  | .ok a h' => ∀ (O' : Om) (b : β) (H' : Hp), Stp O H O' H' → SR X.K X.mg O' h' H' → rep O' a b → Q b H'
  | .ex e h' => ∀ (O' : Om) (cls : Value) (d : Option Addr) (H' : Hp), Stp O H O' H' → SR X.K X.mg O' h' H' → ExOk X.K X.mg O' e cls d → W cls d sg H'
  | .no => False
variable {X W}
theorem Post.weak {sg : L2.St} {O O1 : Om} {H H1 : Hp} {r : Res α} {rep : Om → α → β → Prop} {Q : β → Hp → Prop} (p : Post X W sg O H r rep Q) (s : Stp O H O1 H1) : Post X W sg O1 H1 r rep Q := by
  cases r with
  | ok a h => exact fun O' b H' t => p O' b H' (s.trans t)
  | ex e h => exact fun O' c d H' t => p O' c d H' (s.trans t)
  | no => exact p
theorem Post.bind {sg : L2.St} {O : Om} {H : Hp} {r : Res α} {g : α → Hs → Res γ} {rep : Om → α → β → Prop} {rep2 : Om → γ → δ → Prop} {Q : δ → Hp → Prop} {Q' : β → Hp → Prop} (p : Post X W sg O H (r.bind g) rep2 Q)
    (k : ∀ (a : α) (h1 : Hs) (O1 : Om) (b : β) (H1 : Hp), r = .ok a h1 → Stp O H O1 H1 → SR X.K X.mg O1 h1 H1 → rep O1 a b → Post X W sg O1 H1 (g a h1) rep2 Q → Q' b H1) : Post X W sg O H r rep Q' := by
  cases r with
  | ok a h => exact fun O' b H' s sr rb => k a h O' b H' rfl s sr rb (Post.weak p s)
  | ex e h => exact p
  | no => exact p
theorem Post.here {sg : L2.St} {O : Om} {H : Hp} {a : α} {h : Hs} {rep : Om → α → β → Prop} {Q : β → Hp → Prop} (p : Post X W sg O H (.ok a h) rep Q) (S : SR X.K X.mg O h H) {b : β} (r : rep O a b) : Q b H :=
  p O b H (Stp.refl O H) S r
theorem Post.mono {sg : L2.St} {O : Om} {H : Hp} {r : Res α} {rep : Om → α → β → Prop} {Q Q' : β → Hp → Prop} (p : Post X W sg O H r rep Q) (k : ∀ b H', Q b H' → Q' b H') : Post X W sg O H r rep Q' := by
  cases r with
  | ok a h => exact fun O' b H' s sr rb => k _ _ (p O' b H' s sr rb)
  | ex e h => exact p
  | no => exact p
/-- a pure look-up -/
theorem Post.of {sg : L2.St} {O : Om} {H : Hp} {o : Option α} {h : Hs} {rep : Om → α → β → Prop} {Q : β → Hp → Prop} (p : Post X W sg O H (Res.of o h) rep Q) (S : SR X.K X.mg O h H) : ∃ a, o = some a ∧ ∀ b, rep O a b → Q b H := by
  cases o with
  | none => exact (show False from p).elim
  | some a => exact ⟨a, rfl, fun b r => Post.here p S r⟩
theorem Post.ofb {sg : L2.St} {O : Om} {H : Hp} {o : Option α} {h : Hs} {g : α → Hs → Res γ} {rep2 : Om → γ → δ → Prop} {Q : δ → Hp → Prop} (p : Post X W sg O H ((Res.of o h).bind g) rep2 Q) : ∃ a, o = some a ∧ Post X W sg O H (g a h) rep2 Q := by
  cases o with
  | none => exact (show False from p).elim
  | some a => exact ⟨a, rfl, p⟩
/-- a thing that stays is made at p -/
theorem Post.new {sg : L2.St} {O : Om} {H : Hp} {a : α} {h : Hs} {rep : Om → α → β → Prop} {Q : β → Hp → Prop} (p : Post X W sg O H (.ok a h) rep Q) (S : SR X.K X.mg O h H) {q : Addr} (hq : H q = none) (o : HO) {b : β}
    (r : rep (O.frz q o) a b) : Q b (upd H q o) :=
  let ⟨s, sr⟩ := S.newF hq o
  p _ b _ s sr r
end

abbrev RepX (X : Cx) : Om → D → V → Prop := Rep X.K X.mg
abbrev RepLX (X : Cx) : Om → List D → List V → Prop := RepL X.K X.mg
abbrev RepB : Om → Bool → Bool → Prop := fun _ a b => a = b
section
variable (X : Cx) (W : WX)
def tE (f : Nv → Hs → Res D) : TE := fun sg H Q => ∃ (O : Om) (env : Nv) (h : Hs), NvOk X.K X.mg O env sg ∧ SR X.K X.mg O h H ∧ Post X W sg O H (f env h) (RepX X) Q
def tA (f : Nv → Hs → Res (List D)) : TA := fun sg H Q => ∃ (O : Om) (env : Nv) (h : Hs), NvOk X.K X.mg O env sg ∧ SR X.K X.mg O h H ∧ Post X W sg O H (f env h) (RepLX X) Q
def tT (f : Nv → Hs → Res Bool) : TT := fun sg H Q => ∃ (O : Om) (env : Nv) (h : Hs), NvOk X.K X.mg O env sg ∧ SR X.K X.mg O h H ∧ Post X W sg O H (f env h) RepB Q
variable {X W}
theorem PE.weak {e : Expr} {t t' : TE} (p : PE X e t) (k : ∀ sg H Q, t' sg H Q → t sg H Q) : PE X e t' := ⟨fun pn s sg H Q I w => p.run pn s sg H Q I (k sg H Q w)⟩
theorem PA.weak {e : List Expr} {t t' : TA} (p : PA X e t) (k : ∀ sg H Q, t' sg H Q → t sg H Q) : PA X e t' := ⟨fun ps pn s sg H Q I w => p.run ps pn s sg H Q I (k sg H Q w)⟩
theorem PT.weak {e : Expr} {t t' : TT} (p : PT X e t) (k : ∀ sg H Q, t' sg H Q → t sg H Q) : PT X e t' := ⟨fun pn s sg H Q I w => p.run pn s sg H Q I (k sg H Q w)⟩
theorem PW.weak {e : Expr} {t t' : TT} (p : PW X e t) (k : ∀ sg H Q, t' sg H Q → t sg H Q) : PW X e t' := ⟨fun wh pn s sg H Q I w => p.run wh pn s sg H Q I (k sg H Q w)⟩
theorem PI.weak {g e : Expr} {t t' : TI} (p : PI X g e t) (k : ∀ sg H R, t' sg H R → t sg H R) : PI X g e t' := ⟨fun pn s sg H R I w => p.run pn s sg H R I (k sg H R w)⟩
theorem PS.weak {e : Stmt} {t t' : TS} (p : PS X e t) (k : ∀ D sg H, t' D sg H → t D sg H) : PS X e t' := ⟨fun pn s sg H D I w => p.run pn s sg H D I (k D sg H w)⟩
theorem PSs.weak {e : List Stmt} {t t' : TS} (p : PSs X e t) (k : ∀ D sg H, t' D sg H → t D sg H) : PSs X e t' := ⟨fun pn s sg H D I w => p.run pn s sg H D I (k D sg H w)⟩

/-! ### what stands for a value -/
theorem Rep.int_inv {O : Om} {i : Int} {v : V} (r : RepX X O (.int i) v) : v = .int i := by cases r; rfl
theorem Rep.bl_inv {O : Om} {i : Bool} {v : V} (r : RepX X O (.bl i) v) : v = .bl i := by cases r; rfl
theorem Rep.str_inv {O : Om} {i : Str} {v : V} (r : RepX X O (.str i) v) : v = .str i := by cases r; rfl
theorem Rep.non_inv {O : Om} {v : V} (r : RepX X O .non v) : v = .non := by cases r; rfl
/-- a list or a tuple that may be read -/
theorem un_ok {O : Om} {h : Hs} {H : Hp} (S : SR X.K X.mg O h H) {d : D} {v : V} (r : RepX X O d v) {l : Bool} {xs : List D} (e : un h d = some (l, xs)) :
    ∃ (p : Addr) (vs : List V), v = .ref p ∧ (if l = true then SqL X.K H p vs else SqT X.K H p vs) ∧ RepLX X O xs vs ∧ vs.length ≤ sizeLine := by
  cases r with
  | tup q z t => cases e; exact ⟨_, _, rfl, SqT.of (S.sub _ _ q), t, z⟩
  | lst q z t => cases e; exact ⟨_, _, rfl, SqL.of (S.sub _ _ q), t, z⟩
  | ksl q z t => cases e; exact ⟨_, _, rfl, sqL_up S.sub q, t, z⟩
  | kst q z t => cases e; exact ⟨_, _, rfl, sqT_up S.sub q, t, z⟩
  | @ptr n q =>
    have e' : (match h[n]? with
      | some (.lst xs) => some (true, xs)
      | _ => none) = some (l, xs) := e
    split at e'
    · rename_i ys hn
      cases e'
      obtain ⟨vs, hv, z, t⟩ := S.cell _ _ hn
      exact ⟨_, vs, rfl, SqL.of hv, t, z⟩
    · cases e'
  | _ => cases e
theorem valSeq_un {h : Hs} {d : D} {p : Bool × List D} (e : valSeq d = some p) : un h d = some p := by
  cases d <;> first | exact e | cases e
/-- .. tracked, to be glued -/
theorem un_lst {O : Om} {h : Hs} {H : Hp} (S : SR X.K X.mg O h H) {d : D} {v : V} (r : RepX X O d v) (nk : isKs d = false) {xs : List D} (e : un h d = some (true, xs)) :
    ∃ (p : Addr) (vs : List V), v = .ref p ∧ H p = some (.lst vs) ∧ RepLX X O xs vs ∧ vs.length ≤ sizeLine := by
  cases r with
  | lst q z t => cases e; exact ⟨_, _, rfl, S.sub _ _ q, t, z⟩
  | ksl q z t => cases nk
  | kst q z t => cases nk
  | @ptr n q =>
    have e' : (match h[n]? with
      | some (.lst xs) => some (true, xs)
      | _ => none) = some (true, xs) := e
    split at e'
    · rename_i ys hn
      cases e'
      obtain ⟨vs, hv, z, t⟩ := S.cell _ _ hn
      exact ⟨_, vs, rfl, hv, t, z⟩
    · cases e'
  | _ => cases e
theorem LINE_eq : LINE = sizeLine := sizeLine_eq.symm

/-! ### operators -/
theorem big_ok {i : Int} (h : big64 i = true) : -(2 ^ 64) < i ∧ i < 2 ^ 64 := by
  have z := of_decide_eq_true h
  omega
/-- () * k, t * 1: the tuple itself, or the empty one -/
abbrev rAdd4 (X : Cx) : R2 := fun x y H Q => (∃ i j, x = .int i ∧ y = .int j ∧ Q (.int (i + j)) H) ∨ (∃ i j, x = .str i ∧ y = .str j ∧ i.length + j.length ≤ sizeLine ∧ Q (.str (i ++ j)) H) ∨ rCatA X.K x y H Q ∨ rCat x y H Q
theorem op_add4 : OpR X (binaryOp .Add) (rAdd4 X) := op_add.or (op_add_str.or (op_catA.or op_cat))
end
end SI
end
section
set_option Elab.async false
set_option linter.all false
set_option maxRecDepth 100000
set_option maxHeartbeats 4000000
/-! SI4: operators. -/
namespace SI
open PySem PySem.Spec PyProof.Rows L2
open PySem.AutoSeq1 (wpAny_loadPart')
/-- a tuple once, or the empty one: itself -/
theorem tup_mul_self (l : Addr) (its : Array Value) (n : Nat) (dd : Option Addr) (sl : Array (Option Value)) (x : Int) (u : Tok) (c0 : (decide (x < -(2 ^ 63)) || decide (x ≥ 2 ^ 63)) = false) (c1 : (its.isEmpty || x == 1) = true) :
    Meets (Builtin.«tuple.__mul__» ⟨[.ref l, .int x u], []⟩) (fun _ R s => s.heap.get? l = some { cls := .type "tuple", dict := dd, data := .seq its n, slots := sl } ∧ R (.ok (.ret (Value.ref l))) s) :=
  .of_wp fun prog w A R s h => by
    obtain ⟨hp, g, d, tk, os⟩ := s
    obtain ⟨hl, h⟩ := h
    have f1 := PySem.AutoSeq1.idx_int
    wp_walk using wpAny_loadPart' hl
    repeat (first
      | (refine wpAny_ite_false (decide_eq_false (by rw [c0]; exact Bool.false_ne_true)) ?_; wp_walk using wpAny_loadPart' hl)
      | (refine wpAny_ite_true (decide_eq_true c1) ?_; wp_walk using wpAny_loadPart' hl))
    exact ⟨_, rfl, h⟩
section
variable {X : Cx}
abbrev rRep1 (X : Cx) : R2 := fun x y H Q => ∃ l k xs, x = .ref l ∧ y = .int k ∧ SqT X.K H l xs ∧ 1 ≤ k ∧ k ≤ 1000 ∧ (xs = [] ∨ k = 1) ∧ Q (.ref l) H
theorem op_rep1 : OpR X (binaryOp .Mult) (rRep1 X) := by
  intro pn s sg H x y v u Q I rx ry h
  obtain ⟨l, k, xs, rfl, rfl, hT, h1, h2, hz, q⟩ := h
  cases rx
  obtain ⟨t, rfl⟩ := ry
  obtain ⟨its, r, ⟨⟨cls, dd, data, sl⟩, ho, hc, n, hd⟩, hs⟩ := I.tuple hT
  simp only at hc hd
  subst hc hd
  have c0 : (decide (k < -(2 ^ 63)) || decide (k ≥ 2 ^ 63)) = false := by
    rw [decide_eq_false (by omega), decide_eq_false (by omega)] <;> rfl
  have c1 : (its.toArray.isEmpty || k == 1) = true := by
    rcases hz with z | z
    · subst z
      cases r
      rfl
    · rw [z]; simp
  refine wpAny_binaryOp_repeat_ref (T := "tuple") (U := "int") (by decide) ⟨_, ho, rfl⟩ (fun s' => typeIs_int s' k t) noFill_tuple_mul F.fills_int_mul F.slot_int_rmul repeat_tuple F.slot_int_index.lookup
    (call_meets F.slot_int_rmul (typeIs_int s k t) F.entry_int_rmul (F.args_int_rmul_2 _ _) (int_rmul_tuple k t l its.toArray n dd sl)
      ⟨ho, rfl, ⟨_, ho, rfl⟩, call_meets F.slot_tuple_mul ⟨_, ho, rfl⟩ F.entry_tuple_mul (F.args_tuple_mul_2 _ _) (tup_mul_self l its.toArray n dd sl k t c0 c1) ⟨ho, ?_⟩⟩)
  exact ⟨.ref l, H, I, rfl, q⟩
abbrev rMul4 (X : Cx) : R2 := fun x y H Q => rI CMul (fun i j => .int (i * j)) x y H Q ∨ rRepT X.K x y H Q ∨ rRep1 X x y H Q ∨ rRep x y H Q
theorem op_mul4 : OpR X (binaryOp .Mult) (rMul4 X) := op_mul.or (op_repT.or (op_rep1.or op_rep))
end
end SI
end
section
set_option Elab.async false
set_option linter.all false
set_option maxRecDepth 100000
set_option maxHeartbeats 4000000
/-! SI5: operators on plain data. -/
namespace SI
open PySem PySem.Spec PyProof.Rows L2
section
variable {X : Cx} {W : WX}
theorem RepL.ne_nil {O : Om} {xs : List D} {vs : List V} (r : RepLX X O xs vs) : xs = [] ↔ vs = [] := by
  have z := r.length
  constructor
  · intro e; subst e; exact List.eq_nil_of_length_eq_zero z.symm
  · intro e; subst e; exact List.eq_nil_of_length_eq_zero z
theorem frz_tup {O : Om} {H : Hp} {h : Hs} (S : SR X.K X.mg O h H) {p : Addr} {xs : List D} {vs : List V} (hp : H p = none) (z : vs.length ≤ sizeLine) (r : RepLX X O xs vs) : RepX X (O.frz p (.tup vs)) (.tup xs) (.ref p) :=
  .tup (by show upd O.F p _ p = _; rw [upd_same]) z (r.stp (S.newF hp (.tup vs)).1)
theorem frz_lst {O : Om} {H : Hp} {h : Hs} (S : SR X.K X.mg O h H) {p : Addr} {xs : List D} {vs : List V} (hp : H p = none) (z : vs.length ≤ sizeLine) (r : RepLX X O xs vs) : RepX X (O.frz p (.lst vs)) (.lst xs) (.ref p) :=
  .lst (by show upd O.F p _ p = _; rw [upd_same]) z (r.stp (S.newF hp (.lst vs)).1)
/-- what an operator gives -/
def opR (X : Cx) : Bop → R2
  | .add => rAdd4 X
  | .sub => rI0 fun i j => .int (i - j)
  | .mul => rMul4 X
  | .fdiv => rI CDiv fun i j => .int (i / j)
  | .mod => rI (fun _ j => 0 < j) fun i j => .int (i % j)
  | .pow => rI CPow fun i j => .int (i ^ j.toNat)
def opOf : Bop → Operator
  | .add => .Add
  | .sub => .Sub
  | .mul => .Mult
  | .fdiv => .FloorDiv
  | .mod => .Mod
  | .pow => .Pow
theorem op_all (op : Bop) : OpR X (binaryOp (opOf op)) (opR X op) := by
  cases op with
  | add => exact op_add4
  | sub => exact op_sub
  | mul => exact op_mul4
  | fdiv => exact op_fdiv
  | mod => exact op_mod
  | pow => exact op_pow
theorem len_rep (xs : List V) (k : Nat) : (List.replicate k xs).flatten.length = k * xs.length := by
  rw [List.length_flatten, List.map_replicate, List.sum_replicate_nat]
theorem bin_ok {sg : L2.St} {O : Om} {H : Hp} {h : Hs} {op : Bop} {x y : D} {v u : V} {Q : VK} (S : SR X.K X.mg O h H) (rx : RepX X O x v) (ry : RepX X O y u) (p : Post X W sg O H (binA h op x y) (RepX X) Q) : opR X op v u H Q := by
  have LE := LINE_eq
  unfold binA at p
  split at p
  · rename_i d hd
    unfold binD at hd
    split at hd
    · rename_i i j
      rw [rx.int_inv, ry.int_inv]
      cases op with
      | add => cases hd; exact .inl ⟨i, j, rfl, rfl, p.here S (.int _)⟩
      | sub => cases hd; exact ⟨i, j, rfl, rfl, p.here S (.int _)⟩
      | mul =>
        simp only at hd
        split at hd
        · rename_i hb
          cases hd
          refine .inl ⟨i, j, rfl, rfl, ?_, p.here S (.int _)⟩
          rcases Bool.or_eq_true_iff.mp hb with z | z
          · exact .inl (big_ok z)
          · exact .inr (big_ok z)
        · cases hd
      | fdiv =>
        simp only at hd
        split at hd
        · rename_i hb
          cases hd
          exact ⟨i, j, rfl, rfl, (show 0 < j ∧ j < 1073741824 from by
            have z := of_decide_eq_true hb
            exact ⟨z.1, by omega⟩), p.here S (.int _)⟩
        · cases hd
      | mod =>
        simp only at hd
        split at hd
        · rename_i hb
          cases hd
          exact ⟨i, j, rfl, rfl, (show 0 < j from of_decide_eq_true hb), p.here S (.int _)⟩
        · cases hd
      | pow =>
        simp only at hd
        split at hd
        · rename_i hb
          cases hd
          exact ⟨i, j, rfl, rfl, (show 0 ≤ j ∧ j ≤ 1000000 ∧ i.natAbs < 2 ^ 64 from of_decide_eq_true hb), p.here S (.int _)⟩
        · cases hd
    · rename_i a b
      rw [rx.str_inv, ry.str_inv]
      cases op with
      | add =>
        simp only at hd
        split at hd
        · rename_i hb
          cases hd
          exact .inr (.inl ⟨a, b, rfl, rfl, by rw [← LE]; exact hb, p.here S (.str _)⟩)
        · cases hd
      | _ => cases hd
    · rename_i n1 n2
      split at hd
      · rename_i xs ys
        split at hd
        · rename_i hb
          cases hd
          cases rx with
          | @tup pa _ vs qa za ra =>
            cases ry with
            | @tup pb _ ws qb zb rb =>
              have la := ra.length
              have lb := rb.length
              refine .inr (.inr (.inl ⟨pa, pb, vs, ws, rfl, rfl, SqT.of (S.sub _ _ qa), SqT.of (S.sub _ _ qb), by omega, fun e => ?_, fun _ e => ?_, fun _ _ q hq => ?_⟩))
              · have e2 := ra.ne_nil.mpr e
                subst e2
                exact p.here S (.tup qb zb rb)
              · have e2 := rb.ne_nil.mpr e
                subst e2
                rw [List.append_nil] at p
                exact p.here S (.tup qa za ra)
              · exact p.new S hq _ (frz_tup S hq (by rw [List.length_append]; omega) (ra.app rb))
        · cases hd
      · rename_i xs k
        split at hd
        · rename_i hb
          obtain ⟨h1, h2, h3⟩ := hb
          cases hd
          rw [ry.int_inv]
          cases rx with
          | @tup pa _ vs qa za ra =>
            have la := ra.length
            by_cases hs : vs = [] ∨ k = 1
            · refine .inr (.inr (.inl ⟨pa, k, vs, rfl, rfl, SqT.of (S.sub _ _ qa), h1, h2, hs, ?_⟩))
              have e : (List.replicate k.toNat xs).flatten = xs := by
                rcases hs with z | z
                · have e2 := ra.ne_nil.mpr z
                  subst e2
                  simp
                · subst z; simp
              rw [e] at p
              exact p.here S (.tup qa za ra)
            · have hs1 : vs ≠ [] := fun z => hs (.inl z)
              have hs2 : k ≠ 1 := fun z => hs (.inr z)
              refine .inr (.inl ⟨pa, k, vs, rfl, rfl, SqT.of (S.sub _ _ qa), hs1, by omega, h2, by omega, fun q hq => ?_⟩)
              refine p.new S hq _ (frz_tup S hq ?_ (ra.rep k.toNat))
              rw [len_rep, ← LE]
              have m1 : k.toNat * vs.length ≤ 1000 * 1000 := Nat.mul_le_mul (by omega) (by omega)
              exact Nat.le_trans m1 (by decide)
        · cases hd
      · cases hd
  · split at p
    · exact (show False from p).elim
    · rename_i hk
      have hk1 : isKs x = false := by
        cases q : isKs x with
        | false => rfl
        | true => exact absurd (by rw [q]; rfl) hk
      have hk2 : isKs y = false := by
        cases q : isKs y with
        | false => rfl
        | true => exact absurd (by rw [q]; simp) hk
      split at p
      · rename_i zs hz
        unfold binL at hz
        split at hz
        · split at hz
          · rename_i xs hu
            split at hz
            · rename_i ys hu2
              split at hz
              · rename_i hb
                cases hz
                obtain ⟨pa, vs, rfl, ha, ra, za⟩ := un_lst S rx hk1 hu
                obtain ⟨pb, ws, rfl, hb2, rb, zb⟩ := un_lst S ry hk2 hu2
                have la := ra.length
                have lb := rb.length
                refine .inr (.inr (.inr ⟨pa, pb, vs, ws, rfl, rfl, ha, hb2, by omega, fun q hq => ?_⟩))
                exact p.new S hq _ (frz_lst S hq (by rw [List.length_append]; omega) (ra.app rb))
              · cases hz
            · cases hz
          · cases hz
        · split at hz
          · rename_i xs hu
            split at hz
            · rename_i k hk0
              split at hz
              · rename_i hb
                obtain ⟨h1, h3⟩ := hb
                cases hz
                obtain ⟨pa, vs, rfl, ha, ra, za⟩ := un_lst S rx hk1 hu
                rw [ry.int_inv]
                have la := ra.length
                refine .inr (.inr (.inr ⟨pa, k, vs, rfl, rfl, ha, by omega, by omega, by rw [← la, ← LE]; exact h3, fun q hq => ?_⟩))
                refine p.new S hq _ (frz_lst S hq ?_ (ra.rep k.toNat))
                rw [len_rep, Nat.mul_comm, ← la, ← LE]
                exact h3
              · cases hz
            · cases hz
          · cases hz
        · cases hz
      · exact (show False from p).elim
end
end SI
end
section
set_option Elab.async false
set_option linter.all false
set_option maxRecDepth 100000
set_option maxHeartbeats 4000000
/-! SI6: comparisons, keys, truth. -/
namespace SI
open PySem PySem.Spec PyProof.Rows L2
section
variable {X : Cx} {W : WX}
mutual
theorem pyD_ok {O : Om} {H : Hp} {h : Hs} (S : SR X.K X.mg O h H) {g : Nat → Option PyData} (hg : ∀ n x, g n = some x → Dp X.K H (.ref (O.φ n)) x) : ∀ (d : D) (x : PyData) (v : V), pyD g d = some x → RepX X O d v → Dp X.K H v x
  | .non, _, _, e, r => by cases e; rw [r.non_inv]; exact .non
  | .bl b, _, _, e, r => by cases e; rw [r.bl_inv]; exact .bl b
  | .int i, _, _, e, r => by cases e; rw [r.int_inv]; exact .int i
  | .str s, _, _, e, r => by cases e; rw [r.str_inv]; exact .str s
  | .tup xs, _, _, e, r => by
    simp only [pyD, Option.map_eq_some_iff] at e
    obtain ⟨ds, e, rfl⟩ := e
    cases r with
    | tup q z t => exact .tup (SqT.of (S.sub _ _ q)) (pyL_ok S hg xs ds _ e t)
  | .lst xs, _, _, e, r => by
    simp only [pyD, Option.map_eq_some_iff] at e
    obtain ⟨ds, e, rfl⟩ := e
    cases r with
    | lst q z t => exact .lst (SqL.of (S.sub _ _ q)) (pyL_ok S hg xs ds _ e t)
  | .ks l xs, _, _, e, r => by
    simp only [pyD, Option.map_eq_some_iff] at e
    obtain ⟨ds, e, rfl⟩ := e
    cases r with
    | ksl q z t => exact .lst (sqL_up S.sub q) (pyL_ok S hg xs ds _ e t)
    | kst q z t => exact .tup (sqT_up S.sub q) (pyL_ok S hg xs ds _ e t)
  | .ptr n, _, _, e, r => by
    cases r with
    | ptr q => exact hg n _ e
  | .glo x, _, _, e, r => by cases e
theorem pyL_ok {O : Om} {H : Hp} {h : Hs} (S : SR X.K X.mg O h H) {g : Nat → Option PyData} (hg : ∀ n x, g n = some x → Dp X.K H (.ref (O.φ n)) x) : ∀ (ds : List D) (xs : List PyData) (vs : List V), pyL g ds = some xs → RepLX X O ds vs → DpAll X.K H vs xs
  | [], _, _, e, r => by cases e; cases r; exact .nil
  | d :: ds, _, _, e, r => by
    simp only [pyL] at e
    split at e
    · rename_i x hx
      split at e
      · rename_i xs hxs
        cases e
        cases r with
        | cons r t => exact .cons (pyD_ok S hg d x _ hx r) (pyL_ok S hg ds xs _ hxs t)
      · cases e
    · cases e
end
theorem ptrPy_ok {O : Om} {H : Hp} {h : Hs} (S : SR X.K X.mg O h H) : ∀ (k n : Nat) (x : PyData), ptrPy h k n = some x → Dp X.K H (.ref (O.φ n)) x
  | 0, _, _, e => by cases e
  | k + 1, n, _, e => by
    simp only [ptrPy] at e
    split at e
    · rename_i xs hn
      simp only [Option.map_eq_some_iff] at e
      obtain ⟨ds, e, rfl⟩ := e
      obtain ⟨vs, hv, z, t⟩ := S.cell _ _ hn
      exact .lst (SqL.of hv) (pyL_ok S (ptrPy_ok S k) xs ds vs e t)
    · cases e
theorem deep_ok {O : Om} {H : Hp} {h : Hs} (S : SR X.K X.mg O h H) {d : D} {x : PyData} {v : V} (e : deep h d = some x) (r : RepX X O d v) : Dp X.K H v x := pyD_ok S (ptrPy_ok S 3) d x v e r
/-! ### keys -/
theorem keyOf_ok {O : Om} {d : D} {k : Key} {v : V} (e : keyOf d = some k) (r : RepX X O d v) : v = kV k := by
  cases d with
  | int i => cases e; rw [r.int_inv]; rfl
  | str s => cases e; rw [r.str_inv]; rfl
  | _ => cases e
theorem keysOf_ok {O : Om} : ∀ {ds : List D} {ks : List Key} {vs : List V}, keysOf ds = some ks → RepLX X O ds vs → vs = ks.map kV
  | [], _, _, e, r => by cases e; cases r; rfl
  | d :: ds, _, _, e, r => by
    simp only [keysOf] at e
    split at e
    · rename_i k hk
      split at e
      · rename_i ks hks
        cases e
        cases r with
        | cons r t => rw [keyOf_ok hk r, keysOf_ok hks t]; rfl
      · cases e
    · cases e
theorem keyT_ok {O : Om} {H : Hp} {h : Hs} (S : SR X.K X.mg O h H) {d : D} {k : List Key} {v : V} (e : keyT d = some k) (r : RepX X O d v) : ∃ b, v = .ref b ∧ H b = some (.tup (k.map kV)) := by
  cases d with
  | tup xs =>
    cases r with
    | tup q z t =>
      have e2 := keysOf_ok e t
      subst e2
      exact ⟨_, rfl, S.sub _ _ q⟩
  | _ => cases e
section
variable {κ : Type} [DecidableEq κ]
theorem getK_ok {O : Om} {kvs : List (κ × D)} {ws : List (κ × V)} (r : RepP X.K X.mg O kvs ws) (k : κ) : (getK kvs k = none ∧ valV ws k = none) ∨ ∃ d v, getK kvs k = some d ∧ valV ws k = some v ∧ RepX X O d v := by
  induction r with
  | nil => exact .inl ⟨rfl, rfl⟩
  | @cons k' d v ds vs q t ih =>
    by_cases e : k' = k
    · exact .inr ⟨d, v, by simp [getK, List.find?_cons, e], by simp [valV, List.find?_cons, e], q⟩
    · have e1 : getK ((k', d) :: ds) k = getK ds k := by simp [getK, List.find?_cons, e]
      have e2 : valV ((k', v) :: vs) k = valV vs k := by simp [valV, List.find?_cons, e]
      rw [e1, e2]; exact ih
theorem RepP.any {O : Om} {kvs : List (κ × D)} {ws : List (κ × V)} (r : RepP X.K X.mg O kvs ws) (k : κ) : (kvs.any fun p => decide (p.1 = k)) = (ws.any fun p => decide (p.1 = k)) := by
  induction r with
  | nil => rfl
  | cons q t ih => simp only [List.any_cons, ih]
theorem RepP.app {O : Om} {kvs kus : List (κ × D)} {ws us : List (κ × V)} (r : RepP X.K X.mg O kvs ws) (t : RepP X.K X.mg O kus us) : RepP X.K X.mg O (kvs ++ kus) (ws ++ us) := by
  induction r with
  | nil => exact t
  | cons q _ ih => exact .cons q ih
theorem RepP.len {O : Om} {kvs : List (κ × D)} {ws : List (κ × V)} (r : RepP X.K X.mg O kvs ws) : kvs.length = ws.length := by
  induction r with
  | nil => rfl
  | cons q _ ih => simp [ih]
theorem putM_ok {O : Om} {kvs : List (κ × D)} {ws : List (κ × V)} (r : RepP X.K X.mg O kvs ws) (k : κ) {d : D} {v : V} (q : RepX X O d v) :
    RepP X.K X.mg O (kvs.map (fun p => if p.1 = k then (p.1, d) else p)) (ws.map (fun p => if p.1 = k then (p.1, v) else p)) := by
  induction r with
  | nil => exact .nil
  | @cons k' d' v' ds vs q' t ih =>
    simp only [List.map_cons]
    by_cases e : k' = k
    · rw [if_pos e, if_pos e]; exact .cons q ih
    · rw [if_neg e, if_neg e]; exact .cons q' ih
theorem putK_ok {O : Om} {kvs : List (κ × D)} {ws : List (κ × V)} (r : RepP X.K X.mg O kvs ws) (k : κ) {d : D} {v : V} (q : RepX X O d v) : RepP X.K X.mg O (putD kvs k d) (putK ws k v) := by
  unfold putD putK
  rw [r.any k]
  split
  · exact putM_ok r k q
  · exact r.app (.cons q .nil)
theorem delK_ok {O : Om} {kvs : List (κ × D)} {ws : List (κ × V)} (r : RepP X.K X.mg O kvs ws) (k : κ) : RepP X.K X.mg O (delD kvs k) (dropK ws k) := by
  unfold delD dropK
  induction r with
  | nil => exact .nil
  | @cons k' d' v' ds vs q' t ih =>
    by_cases e : k' = k
    · have a : decide (k' ≠ k) = false := by simp [e]
      rw [List.filter_cons_of_neg (by simp [e]), List.filter_cons_of_neg (by simp [e])]
      exact ih
    · rw [List.filter_cons_of_pos (by simp [e]), List.filter_cons_of_pos (by simp [e])]
      exact .cons q' ih
end
theorem dget_ok {O : Om} {H : Hp} {h : Hs} (S : SR X.K X.mg O h H) {n : Nat} {c : Cell} (hn : h[n]? = some c) {k : D} {v : V} (r : RepX X O k v) {o : Option D} (e : dget c k = some o) :
    ∃ o', DGet H (O.φ n) v o' ∧ ((o = none ∧ o' = none) ∨ ∃ d w, o = some d ∧ o' = some w ∧ RepX X O d w) := by
  have co := S.cell n c hn
  cases c with
  | dK kvs =>
    simp only [dget] at e
    split at e
    · rename_i x hx
      cases e
      obtain ⟨ws, hw, rp⟩ := co
      rw [keyOf_ok hx r]
      exact ⟨_, DGet.k hw, getK_ok rp x⟩
    · cases e
  | dT kvs =>
    simp only [dget] at e
    split at e
    · rename_i x hx
      cases e
      obtain ⟨ws, hw, rp⟩ := co
      obtain ⟨b, rfl, hb⟩ := keyT_ok S hx r
      exact ⟨_, DGet.t hw hb, getK_ok rp x⟩
    · cases e
  | _ => cases e
theorem dput_ok {O : Om} {H : Hp} {h : Hs} (S : SR X.K X.mg O h H) {n : Nat} {c c' : Cell} (hn : h[n]? = some c) {k d : D} {v w : V} (r : RepX X O k v) (q : RepX X O d w) (e : dput c k d = some c') :
    ∃ H', DPut H (O.φ n) v w H' ∧ Stp O H O H' ∧ SR X.K X.mg O (h.set n c') H' := by
  have co := S.cell n c hn
  have LE := LINE_eq
  cases c with
  | dK kvs =>
    simp only [dput] at e
    split at e
    · rename_i x hx
      split at e
      · rename_i hl
        cases e
        obtain ⟨ws, hw, rp⟩ := co
        rw [keyOf_ok hx r]
        have lw := rp.len
        exact ⟨_, DPut.k hw (by omega), S.put hn (by simp) ⟨_, upd_same, putK_ok rp x q⟩⟩
      · cases e
    · cases e
  | dT kvs =>
    simp only [dput] at e
    split at e
    · rename_i x hx
      split at e
      · rename_i hl
        cases e
        obtain ⟨ws, hw, rp⟩ := co
        obtain ⟨b, rfl, hb⟩ := keyT_ok S hx r
        have lw := rp.len
        exact ⟨_, DPut.t hw hb (by omega), S.put hn (by simp) ⟨_, upd_same, putK_ok rp x q⟩⟩
      · cases e
    · cases e
  | _ => cases e
/-! ### in -/
abbrev rInT (X : Cx) (neg : Bool) : R2 := fun x y H Q => ∃ d ds, Dp X.K H x d ∧ Dp X.K H y (.tuple ds) ∧ SeqAt.shaped d = true ∧ SeqAt.shaped (.list ds) = true ∧ Q (.bl (neg != ds.any fun z => PyData.eqv z d)) H
theorem lay_list {ds : List PyData} (h : SeqAt.shaped (.list ds) = true) : PyData.canLayAll0 ds = true := SeqAt.canLay_of_shaped (d := .list ds) h
theorem op_inT (hu : X.A.units + 65 < cLine) : OpR X (compareOp .In) (rInT X false) := by
  intro pn s sg H x y v u Q I rx ry h
  obtain ⟨d, ds, hd, he, sd, se, q⟩ := h
  obtain ⟨as, r1⟩ := Dp.reads I d x v hd rx
  obtain ⟨bs, r2⟩ := Dp.reads I (.tuple ds) y u he ry
  refine SeqAt.in_tuple_reads r2 r1 (lay_list se) (SeqAt.canLay_of_shaped sd) (room_in_shaped sd hu) ⟨.bl _, H, I, rfl, ?_⟩
  simpa using q
theorem op_notInT (hu : X.A.units + 65 < cLine) : OpR X (compareOp .NotIn) (rInT X true) := by
  intro pn s sg H x y v u Q I rx ry h
  obtain ⟨d, ds, hd, he, sd, se, q⟩ := h
  obtain ⟨as, r1⟩ := Dp.reads I d x v hd rx
  obtain ⟨bs, r2⟩ := Dp.reads I (.tuple ds) y u he ry
  refine SeqAt.notIn_tuple_reads r2 r1 (lay_list se) (SeqAt.canLay_of_shaped sd) (room_in_shaped sd hu) ⟨.bl _, H, I, rfl, ?_⟩
  simpa using q
abbrev rInK (neg : Bool) : R2 := fun x y H Q => ∃ a o, y = .ref a ∧ DGet H a x o ∧ Q (.bl (neg != o.isSome)) H
theorem op_inK (hu : X.A.units + 1 < cLine) : OpR X (compareOp .In) (rInK false) := by
  intro pn s sg H x y v u Q I rx ry h
  obtain ⟨a, o, rfl, g, q⟩ := h
  cases ry
  exact d_in hu I g rx fun s' I' => ⟨.bl _, H, I', rfl, by simpa using q⟩
theorem op_notInK (hu : X.A.units + 1 < cLine) : OpR X (compareOp .NotIn) (rInK true) := by
  intro pn s sg H x y v u Q I rx ry h
  obtain ⟨a, o, rfl, g, q⟩ := h
  cases ry
  exact d_notIn hu I g rx fun s' I' => ⟨.bl _, H, I', rfl, by simpa using q⟩
/-! ### all comparisons -/
def cpOf : Cop → CmpOp
  | .eq => .Eq
  | .ne => .NotEq
  | .lt => .Lt
  | .le => .LtE
  | .gt => .Gt
  | .ge => .GtE
  | .isin => .In
  | .notin => .NotIn
  | .is_ => .Is
  | .isnot => .IsNot
def cmpR (X : Cx) : Cop → R2
  | .eq => rEqD X.K
  | .ne => rNeD X.K
  | .lt => fun x y H Q => rI0 (fun i j => .bl (decide (i < j))) x y H Q ∨ rLtT X.K x y H Q
  | .le => rI0 fun i j => .bl (decide (i ≤ j))
  | .gt => rI0 fun i j => .bl (decide (j < i))
  | .ge => rI0 fun i j => .bl (decide (j ≤ i))
  | .isin => fun x y H Q => rInD X.K x y H Q ∨ rInT X false x y H Q ∨ rInK false x y H Q
  | .notin => fun x y H Q => rNotInD X.K x y H Q ∨ rInT X true x y H Q ∨ rInK true x y H Q
  | .is_ => fun x y H Q => y = .non ∧ Q (.bl (decide (x = .non))) H
  | .isnot => fun x y H Q => y = .non ∧ Q (.bl (!decide (x = .non))) H
theorem cmp_all {k : Nat} (hr : Room k X.A) (op : Cop) : OpR X (compareOp (cpOf op)) (cmpR X op) := by
  have u64 := hr.units
  have u65 : X.A.units + 65 < cLine := by have := hr.un; omega
  cases op with
  | eq => exact op_eqD u64
  | ne => exact op_neD u64
  | lt => exact op_lt.or (op_ltT hr.units0)
  | le => exact op_le
  | gt => exact op_gt
  | ge => exact op_ge
  | isin => exact (op_inD u65).or ((op_inT u65).or (op_inK (by omega)))
  | notin => exact (op_notInD u65).or ((op_notInT u65).or (op_notInK (by omega)))
  | is_ => exact op_isN
  | isnot => exact op_notN
theorem intsOf_ok {O : Om} : ∀ {ds : List D} {ns : List Int} {vs : List V}, intsOf ds = some ns → RepLX X O ds vs → vs = ns.map V.int
  | [], _, _, e, r => by cases e; cases r; rfl
  | d :: ds, _, _, e, r => by
    cases d with
    | int i =>
      simp only [intsOf, Option.map_eq_some_iff] at e
      obtain ⟨ns, e, rfl⟩ := e
      cases r with
      | cons r t => rw [r.int_inv, intsOf_ok e t]; rfl
    | _ => cases e
theorem eq_ok {O : Om} {H : Hp} {h : Hs} (S : SR X.K X.mg O h H) {x y : D} {v u : V} (rx : RepX X O x v) (ry : RepX X O y u) {b : Bool} (e : eqD h x y = some b) :
    ∃ d f, Dp X.K H v d ∧ Dp X.K H u f ∧ SeqAt.shaped d = true ∧ SeqAt.shaped f = true ∧ PyData.eqv d f = b := by
  unfold eqD at e
  split at e
  · rename_i d hd
    split at e
    · rename_i f hf
      split at e
      · rename_i hs
        cases e
        exact ⟨d, f, deep_ok S hd rx, deep_ok S hf ry, (Bool.and_eq_true_iff.mp hs).1, (Bool.and_eq_true_iff.mp hs).2, rfl⟩
      · cases e
    · cases e
  · cases e
theorem in_ok {O : Om} {H : Hp} {h : Hs} (S : SR X.K X.mg O h H) {x y : D} {v u : V} (rx : RepX X O x v) (ry : RepX X O y u) {b : Bool} (e : inD h x y = some b) :
    (∃ d ds, Dp X.K H v d ∧ Dp X.K H u (.list ds) ∧ SeqAt.shaped d = true ∧ SeqAt.shaped (.list ds) = true ∧ (ds.any fun z => PyData.eqv z d) = b) ∨
    (∃ d ds, Dp X.K H v d ∧ Dp X.K H u (.tuple ds) ∧ SeqAt.shaped d = true ∧ SeqAt.shaped (.list ds) = true ∧ (ds.any fun z => PyData.eqv z d) = b) ∨
    ∃ a o, u = .ref a ∧ DGet H a v o ∧ o.isSome = b := by
  have val : ∀ (l : Bool) (xs : List D), valSeq y = some (l, xs) → (match deep h x with
      | some d => match pyL (ptrPy h 3) xs with
        | some ds => if SeqAt.shaped d && SeqAt.shaped (.list ds) then some (ds.any fun z => PyData.eqv z d) else none
        | none => none
      | none => none) = some b →
      (∃ d ds, Dp X.K H v d ∧ Dp X.K H u (.list ds) ∧ SeqAt.shaped d = true ∧ SeqAt.shaped (.list ds) = true ∧ (ds.any fun z => PyData.eqv z d) = b) ∨
      (∃ d ds, Dp X.K H v d ∧ Dp X.K H u (.tuple ds) ∧ SeqAt.shaped d = true ∧ SeqAt.shaped (.list ds) = true ∧ (ds.any fun z => PyData.eqv z d) = b) ∨
      ∃ a o, u = .ref a ∧ DGet H a v o ∧ o.isSome = b := by
    intro l xs hv e
    split at e
    · rename_i d hd
      split at e
      · rename_i ds hds
        split at e
        · rename_i hs
          cases e
          obtain ⟨p, vs, rfl, hq, rr, z⟩ := un_ok S ry (valSeq_un (h := h) hv)
          have hx := deep_ok S hd rx
          have hy := pyL_ok S (ptrPy_ok S 3) xs ds vs hds rr
          cases l with
          | true => exact .inl ⟨d, ds, hx, .lst hq hy, (Bool.and_eq_true_iff.mp hs).1, (Bool.and_eq_true_iff.mp hs).2, rfl⟩
          | false => exact .inr (.inl ⟨d, ds, hx, .tup hq hy, (Bool.and_eq_true_iff.mp hs).1, (Bool.and_eq_true_iff.mp hs).2, rfl⟩)
        · cases e
      · cases e
    · cases e
  unfold inD at e
  split at e
  · rename_i n
    cases ry with
    | ptr hn0 =>
    split at e
    · rename_i xs hn
      split at e
      · rename_i d hd
        split at e
        · rename_i ds hds
          split at e
          · rename_i hs
            cases e
            obtain ⟨vs, hv, z, t⟩ := S.cell _ _ hn
            exact .inl ⟨d, ds, deep_ok S hd rx, .lst (SqL.of hv) (pyL_ok S (ptrPy_ok S 2) xs ds vs hds t), (Bool.and_eq_true_iff.mp hs).1, (Bool.and_eq_true_iff.mp hs).2, rfl⟩
          · cases e
        · cases e
      · cases e
    · rename_i c hn hc
      simp only [Option.map_eq_some_iff] at e
      obtain ⟨o, e, rfl⟩ := e
      obtain ⟨o', g, k⟩ := dget_ok S hc rx e
      refine .inr (.inr ⟨_, o', rfl, g, ?_⟩)
      rcases k with ⟨rfl, rfl⟩ | ⟨d, w, rfl, rfl, _⟩ <;> rfl
    · cases e
  · split at e
    · rename_i l xs hv
      exact val l xs hv e
    · cases e
theorem lt_ok {O : Om} {H : Hp} {h : Hs} (S : SR X.K X.mg O h H) {x y : D} {v u : V} (rx : RepX X O x v) (ry : RepX X O y u) {b : Bool} {Q : VK} (e : ltD x y = some b) (q : Q (.bl b) H) : cmpR X .lt v u H Q := by
  unfold ltD at e
  split at e
  · rename_i i j
    cases e
    rw [rx.int_inv, ry.int_inv]
    exact .inl ⟨i, j, rfl, rfl, q⟩
  · rename_i xs ys
    split at e
    · rename_i ns hns
      split at e
      · rename_i ms hms
        cases e
        cases rx with
        | tup qa za ra =>
          cases ry with
          | tup qb zb rb =>
            have e1 := intsOf_ok hns ra
            have e2 := intsOf_ok hms rb
            subst e1 e2
            exact .inr ⟨_, _, ns, ms, rfl, rfl, SqT.of (S.sub _ _ qa), SqT.of (S.sub _ _ qb), q⟩
      · cases e
    · cases e
  · cases e
theorem cmp_ok {O : Om} {H : Hp} {h : Hs} {op : Cop} (S : SR X.K X.mg O h H) {x y : D} {v u : V} (rx : RepX X O x v) (ry : RepX X O y u) {b : Bool} {Q : VK} (e : cmpD h op x y = some b) (q : Q (.bl b) H) : cmpR X op v u H Q := by
  cases op with
  | eq =>
    obtain ⟨d, f, h1, h2, h3, h4, rfl⟩ := eq_ok S rx ry e
    exact ⟨d, f, h1, h2, h3, h4, q⟩
  | ne =>
    simp only [cmpD, Option.map_eq_some_iff] at e
    obtain ⟨b', e, rfl⟩ := e
    obtain ⟨d, f, h1, h2, h3, h4, rfl⟩ := eq_ok S rx ry e
    exact ⟨d, f, h1, h2, h3, h4, q⟩
  | lt => exact lt_ok S rx ry e q
  | le =>
    simp only [cmpD] at e
    split at e
    · rename_i i j
      cases e
      rw [rx.int_inv, ry.int_inv]
      exact ⟨i, j, rfl, rfl, q⟩
    · cases e
  | gt =>
    simp only [cmpD] at e
    split at e
    · rename_i i j
      cases e
      rw [rx.int_inv, ry.int_inv]
      exact ⟨i, j, rfl, rfl, q⟩
    · cases e
  | ge =>
    simp only [cmpD] at e
    split at e
    · rename_i i j
      cases e
      rw [rx.int_inv, ry.int_inv]
      exact ⟨i, j, rfl, rfl, q⟩
    · cases e
  | isin =>
    rcases in_ok S rx ry e with ⟨d, ds, h1, h2, h3, h4, rfl⟩ | ⟨d, ds, h1, h2, h3, h4, rfl⟩ | ⟨a, o, rfl, g, rfl⟩
    · exact .inl ⟨d, ds, h1, h2, h3, h4, q⟩
    · exact .inr (.inl ⟨d, ds, h1, h2, h3, h4, by simpa using q⟩)
    · exact .inr (.inr ⟨a, o, rfl, g, by simpa using q⟩)
  | notin =>
    simp only [cmpD, Option.map_eq_some_iff] at e
    obtain ⟨b', e, rfl⟩ := e
    rcases in_ok S rx ry e with ⟨d, ds, h1, h2, h3, h4, rfl⟩ | ⟨d, ds, h1, h2, h3, h4, rfl⟩ | ⟨a, o, rfl, g, rfl⟩
    · exact .inl ⟨d, ds, h1, h2, h3, h4, q⟩
    · exact .inr (.inl ⟨d, ds, h1, h2, h3, h4, by simpa using q⟩)
    · exact .inr (.inr ⟨a, o, rfl, g, by simpa using q⟩)
  | is_ =>
    simp only [cmpD, isD] at e
    split at e
    · rw [ry.non_inv]
      split at e
      · cases e
        rw [rx.non_inv]
        exact ⟨rfl, q⟩
      · cases e
      · rename_i hne hng
        cases e
        refine ⟨rfl, ?_⟩
        rw [decide_eq_false (fun z => by subst z; cases rx <;> first | exact hne rfl | exact hng _ rfl)]
        exact q
    · cases e
  | isnot =>
    simp only [cmpD, isD] at e
    split at e
    · rw [ry.non_inv]
      split at e
      · cases e
        rw [rx.non_inv]
        exact ⟨rfl, q⟩
      · cases e
      · rename_i hne hng
        cases e
        refine ⟨rfl, ?_⟩
        rw [decide_eq_false (fun z => by subst z; cases rx <;> first | exact hne rfl | exact hng _ rfl)]
        exact q
    · cases e
end
end SI
end
section
set_option Elab.async false
set_option linter.all false
set_option maxRecDepth 100000
set_option maxHeartbeats 4000000
/-! SI7: calls: a promise that also knows that no repr is under way; a call by what the receiver turns out to be. -/
namespace SI
open PySem PySem.Spec PyProof.Rows L2

/-- as FnOk, with no guard around -/
structure FnG (P : Program) (w : World) (K : PySem.W.Frag) (mg : Mg) (base : Heap) (k : Nat) (f : Addr) (fd : FuncData) (ps : List Str) (sp : Sp) : Prop where
  len : ∀ vs H Q E, sp vs H Q E → vs.length = ps.length
  run : ∀ (A : Around) (outer : List PySem.Env) (s : Shared) (H : Hp) (args : Args) (us : List Value) (vs : List V) (Q : VK) (E : XK), Room k A → A.guards = some [] → Env0 P w K mg base A outer s H →
    BindsTo s fd args (ps.zip us) → Vals vs us → sp vs H Q E → codeAny (model P w) A (.call (.ref f) args) (CR (L2.CX P w) outer P w H s Q E) s
section
variable {X : Cx} {k : Nat} {f C : Addr} {fd : FuncData} {ps : List Str} {sp : Sp} {x m : Str} {p pos apos : Pos} {e o : Expr} {es : List Expr} {W : WX}
variable {pn : List (Addr × Obj)} {sg : L2.St} {H : Hp} {s : Shared} {Q : VK} {us : List Value} {vs : List V}
theorem guards_make {A : Around} (g : A.guards = some []) (c : Addr) (us : List Value) (kw : List (Str × Value)) : (A.under (.builtin "type.__call__" ⟨.ref c :: us, kw⟩)).guards = some [] := by
  have e : (Code.builtin "type.__call__" ⟨.ref c :: us, kw⟩).guards = [] := by
    first | rfl | simp [Code.guards, Code.isGuard, guardIds]
  simp only [Around.under, e, g]
  rfl
theorem guards_deeper {A : Around} (g : A.guards = some []) (env : PySem.Env) : (A.deeper env).guards = some [] := g
/-- the callee runs -/
theorem run_g (F : FnG X.prog X.w X.K X.mg X.base k f fd ps sp) (hr : Room k X.A) (hg : X.A.guards = some []) (hb : Binds X.K fd ps []) (tk : Takes X W)
    (I : Inv X pn sg H s) (r : Vals vs us) (h : sp vs H Q fun c d H' => W c d sg H') : wpAny (model X.prog X.w) X.A (PySem.call (.ref f) us) (EP X pn sg Q) X.xe s := by
  have hl : us.length = ps.length := by rw [← r.length]; exact F.len _ _ _ _ h
  have b := hb s us I.kIn (by rw [List.append_nil]; exact hl)
  rw [List.append_nil] at b
  refine wpAny_call (codeAny_mono (F.run X.A X.stack s H ⟨us, []⟩ us vs Q _ hr hg I.env0 b r h) fun r' s' hq => ?_)
  cases r' with
  | error ex => exact passAt tk sg pn H s ex s' I hq
  | ok fl => cases fl with
    | ret u => exact I.after hq
    | next => exact False.elim hq
    | brk => exact False.elim hq
    | cont => exact False.elim hq
theorem run_gm (M : Mk X.K C f) (F : FnG X.prog X.w X.K X.mg X.base k f fd ps sp) (hr : Room (k + 1) X.A) (hg : X.A.guards = some []) (hb : Binds X.K fd ps []) (tk : Takes X W) (I : Inv X pn sg H s) (r : Vals vs us)
    (h : ∀ x dx, H x = none → H dx = none → dx ≠ x → sp (.ref x :: vs) (upd (upd H dx (.own x)) x (.ins C dx [])) (fun v H2 => v = .non ∧ Q (.ref x) H2) fun c d H' => W c d sg H') :
    wpAny (model X.prog X.w) X.A (PySem.call (.ref C) us) (EP X pn sg Q) X.xe s := by
  have hq := h (s.heap.objs.size + 1) s.heap.objs.size (I.hok.fresh (Nat.le_succ _)) (I.hok.fresh (Nat.le_refl _)) (Nat.ne_of_lt (Nat.lt_succ_self _))
  have I2 := Inv.made (C := C) I
  have r2 : Vals (V.ref (s.heap.objs.size + 1) :: vs) (Value.ref (s.heap.objs.size + 1) :: us) := .cons rfl r
  have hl : (Value.ref (s.heap.objs.size + 1) :: us).length = ps.length := by
    rw [← r2.length]
    exact F.len _ _ _ _ hq
  have b := hb _ (Value.ref (s.heap.objs.size + 1) :: us) I2.kIn (by rw [List.append_nil]; exact hl)
  rw [List.append_nil] at b
  refine wpAny_call (make_map (f := f) I.kIn M.makes M.init (beq_iff_eq.mp M.fn) (codeAny_mono (F.run _ X.stack _ _ ⟨Value.ref (s.heap.objs.size + 1) :: us, []⟩ _ _ _ _ (hr.make C us []) (guards_make hg C us [])
    (I2.env0.make C us []) b r2 hq) fun r' s' hq' => ?_))
  cases r' with
  | error ex => exact passAt tk sg pn _ _ ex s' I2 hq'
  | ok fl => cases fl with
    | ret u =>
      obtain ⟨v, H', I3, rv, ev, q3⟩ := I2.after hq'
      subst ev
      exact ⟨rv, ⟨V.ref (s.heap.objs.size + 1), H', I3, rfl, q3⟩⟩
    | next => exact False.elim hq'
    | brk => exact False.elim hq'
    | cont => exact False.elim hq'
/-- the arguments, then a call of what is known to keep its frame -/
theorem with_args {ta : TA} {first : List Value} {v : Value} (hk : PySem.W.keepIn X.K v = true) (ha : PA X es ta) (hs : es.all starless = true) (I : Inv X pn sg H s) {R : List V → Hp → Prop} (h : ta sg H R) (h0 : es = [] → R [] H) {Q' : Value → Shared → Prop}
    (hf : ∀ us vs H1 s1, Inv X pn sg H1 s1 → Vals vs us → R vs H1 → wpAny (model X.prog X.w) X.A (PySem.call v (first ++ us)) Q' X.xe s1) :
    wpAny (model X.prog X.w) X.A (callWith pos v first (backTo pos (starEach es X.env)) (backToKw pos (keywordEach [] X.env))) Q' X.xe s := by
  cases es with
  | nil =>
    refine PySem.W.callWith_K0 I.kIn hk ?_
    exact hf [] [] H s I .nil (h0 rfl)
  | cons e es =>
    have h1 : starless e = true ∧ es.all starless = true := by simpa using hs
    exact PySem.W.callWith_K (first := first) (h₀ := X.base) I.ok.mod.kin hk (thn (ha.run pos pn s sg H R I h) fun us s1 ⟨vs, H1, I1, r1, q1⟩ => ⟨I1.kIn, hf us vs H1 s1 I1 r1 q1⟩) (star_cons h1.1 es X.env) (star_any h1.2)
end
end SI
end
section
set_option Elab.async false
set_option linter.all false
set_option maxRecDepth 100000
set_option maxHeartbeats 4000000
/-! SIX3: own exceptions as values: made, their fields read, asked by isinstance. -/
namespace PySem.W
open PySem PySem.Spec PySem.Calls PyProof.Rows
section
variable {prog : Program} {w : World} {A : Around} {E : Value → Shared → Prop} {s : Shared} {K : Frag} {x D : Addr} {ox : Obj} {od : Option Obj}
theorem siFindD {C : Addr} {name : Str} {a g : Value} (hc : (clsIn K C).isSome = true) (ha : findIn K (.ref C) name = some (some a)) (hg : specialIn K a "__get__" = some (some g)) (ht : takesIn K a = some true) : findObj K C od name = some (.bind g a) := by
  obtain ⟨cd, hc⟩ := Option.isSome_iff_exists.mp hc
  unfold findObj
  rw [hc, Option.bind_some, ha, Option.bind_some]
  simp [hg, ht]
theorem siClassE {Q : Option Value → Shared → Prop} (hga : findIn K (.ref D) "__getattribute__" = some (some (.builtin "BaseException.__getattribute__"))) (hgt : findIn K (.ref D) "__getattr__" = some none) (hsub : subIn K (.ref D) (.type "BaseException") = some true)
    (hdct : hasDictIn K D = true) (ha : findIn K (.ref D) "__class__" = some (some (.builtin "object.__class__")))
    (hn : specialIn K (.builtin "object.__class__") "__get__" = some (some (.builtin "getset_descriptor.__get__"))) (htk : takesIn K (.builtin "object.__class__") = some true) (hm : mroIn K D (.type "object") = some true)
    (X : K.In s.heap) (I : InstAt s.heap x ox D od) (h : Q (some (.ref D)) { s with toks := s.toks + 1 }) : wpAny (model prog w) A (getAttr? (.ref x) "__class__") Q E s := by
  have hf : findObj K D od "__class__" = some (.bind (.builtin "getset_descriptor.__get__") (.builtin "object.__class__")) := siFindD (by obtain ⟨cd, hc, _⟩ := any_some hdct; rw [hc]; rfl) ha hn htk
  obtain ⟨hp, g, d, t, os⟩ := s
  have L0 := I.type (M := model prog w)
  have L1 := looks_findIn (M := model prog w) X hga
  have L2 := looks_findIn (M := model prog w) X hgt
  have L3 := looks_find (M := model prog w) X I hf
  have sub : Looks (model prog w) hp (isInstance (.ref x) (.type "BaseException")) true := L0.andThen (looks_subIn X hsub)
  have hx0 : (false && onTheHeap (Value.builtin "BaseException.__getattribute__")) = false := rfl
  have hx2 : (Value.builtin "BaseException.__getattribute__" == Value.builtin "object.__getattribute__") = false := by decide +kernel
  have hx1 : (onTheHeap (Value.ref D) && Value.builtin "BaseException.__getattribute__" == Value.builtin "object.__getattribute__") = false := by rw [hx2]; rfl
  unfold getAttr? getAttrBy? getAttrBy
  refine wpAny_bind (wpAny_mkText (wpAny_bind (wpAny_attempt (wpAny_holding (wpAny_bind (L0.at (wpAny_bind (L1.at ?_))))))))
  show wpAny _ _ (if (onTheHeap (Value.ref D) && Value.builtin "BaseException.__getattribute__" == Value.builtin "object.__getattribute__") = true then _ else _) _ _ _
  rw [hx1, if_neg Bool.false_ne_true]
  unfold getAttrByItsOwn hookBefore
  refine wpAny_bind ?_
  rw [if_pos (show onTheHeap (Value.ref D) = true from rfl)]
  refine L2.at ?_
  refine wpAny_bind (wpAny_attempt (wpAny_holding ?_))
  unfold callGetattribute
  rw [hx0, if_neg Bool.false_ne_true]
  unfold boundAndCalled
  rw [PySem.F.excAttr_ValueError.ga.bind (.ref x)]
  refine wpAny_bind (wpAny_pure ?_)
  show wpAny _ _ (call (.builtin "BaseException.__getattribute__") [.ref x, .str "__class__" t]) _ _ _
  refine wpAny_call (codeAny_call_builtin PySem.F.excAttr_ValueError.ga.plain PySem.F.entry_bexc_ga ?_)
  refine @check_slot (model prog w) _ _ ⟨hp, g, d, t + 1, os⟩ "BaseException.__getattribute__" "BaseException" "__getattribute__" (.ref x) [.str "__class__" t] [] _ (by decide +kernel) (by decide +kernel) sub (PySem.F.args_bexc_ga (.ref x) (.str "__class__" t)) ?_
  unfold Builtin.«object.__getattribute__»
  refine wpAny_bind (wpAny_of_eq (a := ((Value.ref x : Value), [Value.str "__class__" t])) (by first | rfl | (simp only [slotArgs]; rfl)) ?_)
  refine wpAny_bind (wpAny_pure (wpAny_bind (L0.at (wpAny_bind (L3.at ?_)))))
  show wpAny _ _ (holding [Value.builtin "object.__class__"] (call (.builtin "getset_descriptor.__get__") [.builtin "object.__class__", .ref x, .ref D]) >>= ret) _ _ _
  refine wpAny_bind (wpAny_holding (wpAny_call (class_get (s := ⟨hp, g, d, t + 1, os⟩) (ox := ox) (od := od) X I hm ?_)))
  refine wpAny_pure ?_
  show wpAny _ _ (handedOut (.ref D)) _ _ _
  rw [handedOut_of (v := .ref D) rfl]
  first
    | exact wpAny_pure (wpAny_pure h)
    | exact wpAny_pure h
    | exact wpAny_pure (wpAny_bind (wpAny_pure (wpAny_pure h)))
theorem siKitx (hga : findIn K (.ref D) "__getattribute__" = some (some (.builtin "BaseException.__getattribute__"))) (hgt : findIn K (.ref D) "__getattr__" = some none) (hsub : subIn K (.ref D) (.type "BaseException") = some true) (hdct : hasDictIn K D = true) (ha : findIn K (.ref D) "__class__" = some (some (.builtin "object.__class__")))
    (hn : specialIn K (.builtin "object.__class__") "__get__" = some (some (.builtin "getset_descriptor.__get__"))) (htk : takesIn K (.builtin "object.__class__") = some true) (hm : mroIn K D (.type "object") = some true) :
    KitX K (.ref x) (.ref D) (fun h => InstAt h x ox D od) where
  ty := fun _ _ _ I => I.type
  it := fun _ _ X _ => by
    obtain ⟨cdD, hcD, _⟩ := any_some hdct
    unfold clsIn at hcD
    split at hcD
    · rename_i c' d' cd' sl' ho
      intro A' Q' E' s' k q
      unfold isType loadHead
      exact wpAny_bind (wpAny_loadPart (k _ _ (X _ _ ho)) (wpAny_pure q))
    · cases hcD
  ne := fun h tp dd its n sl X htp => by
    obtain ⟨cdD, hcD, _⟩ := any_some hdct
    refine Bool.eq_false_iff.mpr fun q => ?_
    have e : D = tp := Value.ref.inj (beq_iff_eq.mp q)
    subst e
    unfold clsIn at hcD
    split at hcD
    · rename_i c' d' cd' sl' ho
      have z := (X _ _ ho).symm.trans htp
      cases z
    · cases hcD
  ca := fun X I k => siClassE hga hgt hsub hdct ha hn htk hm X I k
end
end PySem.W
namespace SI
open PySem PySem.Spec PyProof.Rows L2

/-- of what class a value is; of an own exception's, too -/
inductive TyZ (K : PySem.W.Frag) (H : Hp) : V → Value → Prop where
  | x {v : V} {t : Value} (h : TyX K H v t) : TyZ K H v t
  | n {p c : Addr} (e : H p = some (exo p c none)) (C : ExcC K c) : TyZ K H (.ref p) (.ref c)
  | d {p c dx : Addr} {fs : List (Str × V)} (e : H p = some (exo p c (some dx))) (f : H dx = some (exd dx fs)) (C : ExcC K c) : TyZ K H (.ref p) (.ref c)
section
variable {X : Cx} {pins : List (Addr × Obj)} {σ : L2.St} {H : Hp} {s : Shared} {C f : Addr} {W : WX} {k : Nat} {fd : FuncData} {ps : List Str} {sp : Sp} {Q : VK} {us : List Value} {vs : List V} {pn : List (Addr × Obj)} {sg : L2.St}
theorem inst_n {p c : Addr} (I : Inv X pins σ H s) (e : H p = some (exo p c none)) : ∃ ox, PySem.W.InstAt s.heap p ox c none := by
  obtain ⟨t1, h⟩ := exo_at I.hok e
  exact ⟨_, h, rfl, rfl, trivial⟩
theorem inst_d {p c dx : Addr} {fs : List (Str × V)} (I : Inv X pins σ H s) (e : H p = some (exo p c (some dx))) (f : H dx = some (exd dx fs)) : ∃ ox od, PySem.W.InstAt s.heap p ox c (some od) ∧ ∃ mA : Str → Option Value, s.heap.get? dx = some od ∧ (∀ n, PySem.W.lookIn n od = some (mA n)) ∧ ∀ n, RelO (fs.lookup n) (mA n) := by
  obtain ⟨t1, h⟩ := exo_at I.hok e
  obtain ⟨mA, hns, r⟩ := exd_at I.hok f
  obtain ⟨od, ho, hl⟩ := lookIn_ns hns
  exact ⟨_, od, ⟨h, rfl, rfl, ho⟩, mA, ho, hl, r⟩
theorem kit_ofZ {x : V} {u t : Value} (I : Inv X pins σ H s) (rx : RelV x u) (ty : TyZ X.K H x t) : ∃ P : Heap → Prop, PySem.W.KitX X.K u t P ∧ P s.heap ∧ u ≠ .builtin "__main__.__loader__#opaque" := by
  cases ty with
  | x h => exact kit_of I rx h
  | @n p c e C =>
    obtain rfl : u = Value.ref p := rx
    obtain ⟨ox, J⟩ := inst_n I e
    exact ⟨_, PySem.W.siKitx (ox := ox) (od := none) C.hg C.hk C.hs C.hd C.ha C.hn C.ht C.hm, J, fun z => nomatch z⟩
  | @d p c dx fs e f C =>
    obtain rfl : u = Value.ref p := rx
    obtain ⟨ox, od, J, _⟩ := inst_d I e f
    exact ⟨_, PySem.W.siKitx (ox := ox) (od := some od) C.hg C.hk C.hs C.hd C.ha C.hn C.ht C.hm, J, fun z => nomatch z⟩
def rIsiZ (K : PySem.W.Frag) : List V → Hp → VK → Prop := fun xs H Q => ∃ (x c : V) (t u : Value) (b : Bool), xs = [x, c] ∧ ClsV c u ∧ TyZ K H x t ∧ PySem.W.kitOne K t u = some b ∧ Q (.bl b) H
theorem call_isiZ : CallR X (.builtin "isinstance") (rIsiZ X.K) := by
  intro pins s σ H xs us Q I r h
  obtain ⟨x, c, t, u, b, rfl, k, ty, e, q⟩ := h
  obtain ⟨u1, u2, rfl, r1, r2⟩ := vals2 r
  have e2 := k.eq r2
  subst e2
  obtain ⟨P, Z, p, hx⟩ := kit_ofZ I r1 ty
  exact PySem.W.kia_one Z I.kIn p e hx fun tk => ⟨.bl b, H, I.tok tk, rfl, q⟩
/-- C(..), an own exception with its own __init__ -/
theorem run_gx (T : OexC X.K C) (iC : PySem.W.findIn X.K (.ref C) "__init__" = some (some (.ref f))) (tI : PySem.W.typeIn X.K (.ref f) = some (.type "function")) (F : FnG X.prog X.w X.K X.mg X.base k f fd ps sp) (hr : Room (k + 1) X.A) (hg : X.A.guards = some []) (hb : Binds X.K fd ps []) (tk : Takes X W)
    (I : Inv X pn sg H s) (r : Vals vs us) (hz : vs.length ≤ 1000) (h : ∀ x, H x = none → sp (.ref x :: vs) (upd H x (exo x C none)) (fun v H2 => v = .non ∧ Q (.ref x) H2) fun c d H' => W c d sg H') :
    wpAny (model X.prog X.w) X.A (PySem.call (.ref C) us) (EP X pn sg Q) X.xe s := by
  obtain ⟨nm, q, N, bs, bm, sn, sub, ab, col, dd, k0, k1, k2, k3, k5, hC, hbm⟩ := T.cls
  obtain ⟨hp, g, dr, tk', os⟩ := s
  have hsz : hp.objs.size ≤ hp.objs.size + 1 := Nat.le_succ _
  have hn : H (hp.objs.size + 1) = none := I.hok.fresh hsz
  have hq := h (hp.objs.size + 1) hn
  have kk : ∀ b o, hp.get? b = some o → ((hp.push (PySem.W.kdv_tup us)).push (PySem.HandSPX.excO C hp.objs.size)).get? b = some o := fun b o e => Heap.get?_push_of_some _ (Heap.get?_push_of_some _ e)
  have hget : ((hp.push (PySem.W.kdv_tup us)).push (PySem.HandSPX.excO C hp.objs.size)).get? (hp.objs.size + 1) = some (PySem.HandSPX.excO C hp.objs.size) := by heap_get
  have I2 : Inv X pn sg (upd H (hp.objs.size + 1) (exo (hp.objs.size + 1) C none)) ⟨(hp.push (PySem.W.kdv_tup us)).push (PySem.HandSPX.excO C hp.objs.size), g, dr, tk', os⟩ :=
    I.laid (t' := tk') (a := hp.objs.size + 1) (o := exo (hp.objs.size + 1) C none) (h' := (hp.push (PySem.W.kdv_tup us)).push (PySem.HandSPX.excO C hp.objs.size)) kk hsz (exo_ok hget)
  have r2 : Vals (V.ref (hp.objs.size + 1) :: vs) (Value.ref (hp.objs.size + 1) :: us) := .cons rfl r
  have hl : (Value.ref (hp.objs.size + 1) :: us).length = ps.length := by
    rw [← r2.length]
    exact F.len _ _ _ _ hq
  have hus : us.length ≤ sizeLine := by
    rw [← Paired.length r, sizeLine_eq]
    omega
  have b := hb _ (Value.ref (hp.objs.size + 1) :: us) I2.kIn (by rw [List.append_nil]; exact hl)
  rw [List.append_nil] at b
  refine wpAny_call (PySem.HandSPX.call_own PySem.F.excBase_ValueError (fun Y => PySem.HandSPX.refsVE_contains Y bm hbm) (I.kIn _ _ hC) (PySem.W.looks_findIn I.kIn iC) (fun self => PySem.W.bind_fn I.kIn self tI) hus
    (codeAny_mono (F.run _ X.stack _ _ ⟨Value.ref (hp.objs.size + 1) :: us, []⟩ _ _ _ _ (hr.make C us []) (guards_make hg C us []) (I2.env0.make C us []) b r2 hq) fun r' s' hq' => ?_))
  cases r' with
  | error ex => exact passAt tk sg pn _ _ ex s' I2 hq'
  | ok fl => cases fl with
    | ret u =>
      obtain ⟨v, H', I3, rv, ev, q3⟩ := I2.after hq'
      subst ev
      exact ⟨rv, ⟨V.ref (hp.objs.size + 1), H', I3, rfl, q3⟩⟩
    | next => exact False.elim hq'
    | brk => exact False.elim hq'
    | cont => exact False.elim hq'
/-- C(), an own exception without own __init__ -/
theorem run_g0 (q : PySem.W.excIn X.K C He.veBase "ValueError.__new__" = true) (I : Inv X pn sg H s) (h : ∀ x, H x = none → Q (.ref x) (upd H x (exo x C none))) :
    wpAny (model X.prog X.w) X.A (PySem.call (.ref C) []) (EP X pn sg Q) X.xe s := by
  obtain ⟨bm, N, nm, qn, bs, hdct, sn, sub, ab, col, dd, k0, k1, k2, k3, k5, mN, hC, hN, hni, T⟩ := exc_obj I.kIn q
  refine wpAny_call_exc_subT PySem.F.excBase_ValueError T hC hN hni (fun h' a hm => ?_) (by show 0 ≤ sizeLine; exact Nat.zero_le _)
  have hn : H a = none := I.hok.gone hm.new
  obtain ⟨t, ht, _, _⟩ := hm.there
  exact ⟨.ref a, upd H a (exo a C none), I.laidN hm.keeps hm.new hn (exo_ok ht), rfl, h a hn⟩
/-- e.f, e an own exception -/
theorem get_x {p c dx : Addr} {fs : List (Str × V)} {n : Str} {v : V} {Q' : Value → Shared → Prop} {E : Value → Shared → Prop} (T : XfC X.K c) (hno : PySem.W.findIn X.K (.ref c) n = some none) (I : Inv X pins σ H s) (e : H p = some (exo p c (some dx))) (f : H dx = some (exd dx fs)) (l : fs.lookup n = some v)
    (h : ∀ u s2, Inv X pins σ H s2 → RelV v u → Q' u s2) : wpAny (model X.prog X.w) X.A (getAttr (.ref p) n true) Q' E s := by
  obtain ⟨ox, od, J, mA, ho, hl, r⟩ := inst_d I e f
  obtain ⟨u, hu, ru⟩ := RelO.some_of (v := v) (o := mA n) (by rw [← l]; exact r n)
  exact HandSPX.exc_get I.kIn J T.ga T.gg T.exC (PySem.W.findObj_own T.hdC hno rfl (by rw [hl, hu])) (handed_of ru) (h u _ (I.tok _) ru)
end
/-- what the written part says of an own exception with its own __init__ -/
def oexB (K : PySem.W.Frag) (C : Addr) : Bool := (match K.lookup C with
  | some ⟨.type "type", _, .cls cd, sl⟩ => (match cd.mro, sl.toList with
    | .ref C' :: bm, [_, _, _, _, some (.builtin n), _] => C' == C && n == "ValueError.__new__" && !cd.hasDel && cd.hasDict && PySem.HandSPX.refsVE bm
    | _, _ => false)
  | _ => false) && (decide (PySem.W.findIn K (.ref C) "__setattr__" = some (some (.builtin "object.__setattr__"))) && (decide (PySem.W.subIn K (.ref C) (.type "BaseException") = some true) && (decide (PySem.W.typeIn K (.ref C) = some (.type "type")) && PySem.W.keepIn K (.ref C))))
theorem oexB_ok {K : PySem.W.Frag} {C : Addr} (q : oexB K C = true) : OexC K C := by
  unfold oexB at q
  obtain ⟨q, q2⟩ := Bool.and_eq_true_iff.mp q
  obtain ⟨h1, q2⟩ := Bool.and_eq_true_iff.mp q2
  obtain ⟨h2, q2⟩ := Bool.and_eq_true_iff.mp q2
  obtain ⟨h3, h4⟩ := Bool.and_eq_true_iff.mp q2
  refine ⟨?_, of_decide_eq_true h1, of_decide_eq_true h2, of_decide_eq_true h3, h4⟩
  split at q
  · rename_i dd cd sl ho
    split at q
    · rename_i C' bm k0 k1 k2 k3 n k5 hm hs
      simp only [Bool.and_eq_true, beq_iff_eq, Bool.not_eq_true'] at q
      obtain ⟨⟨⟨⟨rfl, rfl⟩, hdel⟩, hdi⟩, ht⟩ := q
      obtain ⟨nm, bs, mro, ns, qn, hd, sn, sub, ab, col, del⟩ := cd
      dsimp only at hm hdel hdi
      subst hm hdel hdi
      have hsl : sl = #[k0, k1, k2, k3, some (.builtin "ValueError.__new__"), k5] := by
        obtain ⟨l⟩ := sl
        simp only at hs
        rw [hs]
      subst hsl
      exact ⟨nm, qn, ns, bs, bm, sn, sub, ab, col, dd, k0, k1, k2, k3, k5, ho, ht⟩
    · cases q
  · cases q
end SI
end
section
set_option Elab.async false
set_option linter.all false
set_option maxRecDepth 100000
set_option maxHeartbeats 4000000
/-! SI8: expressions. -/
namespace SI
open PySem PySem.Spec PyProof.Rows L2

/-- what the walk of isinstance, of fields and of methods asks of an own class -/
structure ClsF (K : PySem.W.Frag) (c : Addr) : Prop where
  cl : Cls K c
  ha : PySem.W.findIn K (.ref c) "__class__" = some (some (.builtin "object.__class__"))
  hn : PySem.W.specialIn K (.builtin "object.__class__") "__get__" = some (some (.builtin "getset_descriptor.__get__"))
  ht : PySem.W.takesIn K (.builtin "object.__class__") = some true
  hm : PySem.W.mroIn K c (.type "object") = some true
def bTys : List String := ["int", "bool", "str", "list", "tuple", "dict", "ValueError"]
/-- an exception's own __init__, its fields being its parameters -/
def spE (K : PySem.W.Frag) (fs : List Str) : Sp := fun xs H Q _ => xs.length = fs.length + 1 ∧ ∃ (a c : Addr) (vs : List V), xs = .ref a :: vs ∧ OexC K c ∧ (∀ f ∈ fs, PySem.W.findIn K (.ref c) f = some none) ∧ H a = some (exo a c none) ∧
  ∀ dx, H dx = none → dx ≠ a → Q .non (upd (upd H dx (exd dx (fs.reverse.zip vs.reverse))) a (exo a c (some dx)))
/-- a def's promise: it does to the plain data what g does -/
def spF (K : PySem.W.Frag) (mg : Mg) (n : Nat) (g : List D → Hs → Res D) : Sp := fun vs H Q E => vs.length = n ∧ ∃ (O : Om) (ds : List D) (h : Hs), RepL K mg O ds vs ∧ SR K mg O h H ∧ match g ds h with
  | .ok d h' => ∀ (O' : Om) (v : V) (H' : Hp), Stp O H O' H' → SR K mg O' h' H' → Rep K mg O' d v → Q v H'
  | .ex e h' => ∀ (O' : Om) (cls : Value) (d : Option Addr) (H' : Hp), Stp O H O' H' → SR K mg O' h' H' → ExOk K mg O' e cls d → E cls d H'
  | .no => False
/-- names of the module -/
structure Tab where
  fns : List Str
  cls : List Str
  cst : List (Str × D)
  free : List Str
  attrs : List Str
  cms : List (Str × Str)
/-- what is known of the module where k calls may still go one in another -/
structure Wf (X : Cx) (G : Wr) (k : Nat) (T : Tab) : Prop where
  glo : ∀ x ∈ T.fns, ∃ f, X.mg x = some (.ref f) ∧ PySem.W.keepIn X.K (.ref f) = true
  call : ∀ x ds h, G.call x ds h ≠ .no → ∃ f fd ps, X.mg x = some (.ref f) ∧ Binds X.K fd ps [] ∧ ps.length = ds.length ∧ FnG X.prog X.w X.K X.mg X.base k f fd ps (spF X.K X.mg ps.length (G.call x))
  mth : ∀ C m, G.mth C m = true → ∃ c f, X.mg C = some (.ref c) ∧ Meth X.K c m f
  meth : ∀ C m ds h, G.meth C m ds h ≠ .no → ∃ c f fd ps, X.mg C = some (.ref c) ∧ Meth X.K c m f ∧ Binds X.K fd ps [] ∧ ps.length = ds.length ∧ FnG X.prog X.w X.K X.mg X.base k f fd ps (spF X.K X.mg ps.length (G.meth C m))
  make : ∀ C ds h, G.make C ds h ≠ .no → (∃ c f fd ps j g, X.mg C = some (.ref c) ∧ Mk X.K c f ∧ Binds X.K fd ps [] ∧ ps.length = ds.length + 1 ∧ j + 1 ≤ k ∧ FnG X.prog X.w X.K X.mg X.base j f fd ps (spF X.K X.mg ps.length g) ∧
    ∀ ds h, G.make C ds h = (g (.ptr h.length :: ds) (h ++ [.ins C []])).bind fun d h' => match d with
      | .non => .ok (.ptr h.length) h'
      | _ => .no) ∨ (∃ c fs, X.mg C = some (.ref c) ∧ fs.length = ds.length ∧ ds.length ≤ 1000 ∧ G.make C ds h = .ok (.exv C fs.reverse ds.reverse) h ∧ ((fs = [] ∧ PySem.W.excIn X.K c He.veBase "ValueError.__new__" = true) ∨
    (fs ≠ [] ∧ ∃ f fd ps, OexC X.K c ∧ (∀ f ∈ fs, PySem.W.findIn X.K (.ref c) f = some none) ∧ PySem.W.findIn X.K (.ref c) "__init__" = some (some (.ref f)) ∧ PySem.W.typeIn X.K (.ref f) = some (.type "function") ∧ Binds X.K fd ps [] ∧ 2 ≤ k ∧ FnG X.prog X.w X.K X.mg X.base 1 f fd ps (spE X.K fs))))
  exc : ∀ C, G.exc C = true → ∀ c, X.mg C = some (.ref c) → XfC X.K c ∧ ExcC X.K c ∧ (∀ f ∈ T.attrs, PySem.W.findIn X.K (.ref c) f = some none) ∧ PySem.W.kitOne X.K (.ref c) (.type "ValueError") = some true
  cls : ∀ C, G.cls C = true → ∀ c, X.mg C = some (.ref c) → ClsF X.K c ∧ (∀ f ∈ T.attrs, NoAttr X.K c f) ∧ ∀ B ∈ bTys, PySem.W.kitOne X.K (.ref c) (.type B) = some false
  clg : ∀ C ∈ T.cls, ∃ c, X.mg C = some (.ref c) ∧ PySem.W.keepIn X.K (.ref c) = true ∧ ∀ B ∈ ["NoneType", "bool", "int", "str", "tuple", "list", "dict"], PySem.W.kitOne X.K (.type B) (.ref c) = some false
  sub : ∀ C T' b, G.sub C T' = some b → ∀ c t, X.mg C = some (.ref c) → X.mg T' = some (.ref t) → PySem.W.kitOne X.K (.ref c) (.ref t) = some b
  cst : ∀ p ∈ T.cst, ∃ u v, X.mg p.1 = some u ∧ L2.RelV v u ∧ ∀ O, RepX X O p.2 v
  free : ∀ x ∈ T.free, X.mg x = none
  cms : ∀ p ∈ T.cms, ∃ c f, X.mg p.1 = some (.ref c) ∧ PySem.W.keepIn X.K (.ref f) = true ∧ Meth X.K c p.2 f ∧ PySem.W.readsIn X.K c (.type "type") = true ∧ PySem.W.specialIn X.K (.ref c) "__getattribute__" = some (some (.builtin "type.__getattribute__")) ∧
    PySem.W.findCls X.K (.ref c) (.type "type") p.2 = some (.val (.ref f))

section
variable {X : Cx} {W : WX} {a b c e o i : Expr} {es : List Expr} {pos : Pos} {fa fb fc : Nv → Hs → Res D} {fs : Nv → Hs → Res (List D)} {ft : Nv → Hs → Res Bool}
theorem sE_int {i : Int} {j : Nat} : PE X (.Constant (.int i) j pos) (tE X W fun _ h => .ok (.int i) h) := PE.weak pe_int fun sg H Q ⟨O, env, h, eo, S, p⟩ => p.here S (.int i)
theorem sE_bl {i : Bool} {j : Nat} : PE X (.Constant (.bool i) j pos) (tE X W fun _ h => .ok (.bl i) h) := PE.weak pe_bl fun sg H Q ⟨O, env, h, eo, S, p⟩ => p.here S (.bl i)
theorem sE_non {j : Nat} : PE X (.Constant .none j pos) (tE X W fun _ h => .ok .non h) := PE.weak pe_non fun sg H Q ⟨O, env, h, eo, S, p⟩ => p.here S .non
theorem sE_str {i : Str} {j : Nat} : PE X (.Constant (.str i) j pos) (tE X W fun _ h => .ok (.str i) h) := PE.weak pe_str fun sg H Q ⟨O, env, h, eo, S, p⟩ => p.here S (.str i)
theorem get_ok {O : Om} {env : Nv} {sg : L2.St} (eo : NvOk X.K X.mg O env sg) {i : Nat} {d : D} (e : get env i = some d) : ∃ v, sg[i]? = some (some v) ∧ RepX X O d v := by
  unfold get at e
  cases q : env[i]? with
  | none => rw [q] at e; cases e
  | some z => rw [q] at e; exact eo.val i d (by rw [q]; exact congrArg some e)
theorem sE_var {i : Nat} {x : Str} (hN : X.N[i]? = some x) (hv : Vis X.env.scope x) (hd : (x == ("__debug__" : Str)) = false) (hcd : (x == ("__classdict__" : Str)) = false) : PE X (.Name x pos) (tE X W fun env h => .of (get env i) h) :=
  PE.weak (pe_var hN hv hd hcd) fun sg H Q ⟨O, env, h, eo, S, p⟩ => by
    obtain ⟨d, e, k⟩ := p.of S
    obtain ⟨v, hv, r⟩ := get_ok eo e
    exact ⟨v, hv, k v r⟩
theorem sE_glob {x : Str} {d : D} (hg : Gl X x) (hd : (x == ("__debug__" : Str)) = false) (hc : ∃ u v, X.mg x = some u ∧ L2.RelV v u ∧ ∀ O, RepX X O d v) : PE X (.Name x pos) (tE X W fun _ h => .ok d h) := by
  obtain ⟨u, v, hm, r, q⟩ := hc
  exact PE.weak (pe_glob hg hm r hd) fun sg H Q ⟨O, env, h, eo, S, p⟩ => p.here S (q O)
theorem sA_nil : PA X [] (tA X W fun _ h => .ok [] h) := PA.weak pa_nil fun sg H Q ⟨O, env, h, eo, S, p⟩ => p.here S .nil
theorem sA_cons (hs : starless e = true) (ha : PE X e (tE X W fa)) (hr : PA X es (tA X W fs)) : PA X (e :: es) (tA X W fun env h => (fa env h).bind fun d h => (fs env h).bind fun ds h => .ok (d :: ds) h) :=
  PA.weak (pa_cons ha hr (star_cons hs es X.env)) fun sg H Q ⟨O, env, h, eo, S, p⟩ => ⟨O, env, h, eo, S, p.bind fun x h1 O1 v H1 _ s1 S1 r1 p1 => ⟨O1, env, h1, eo.stp s1, S1, p1.bind fun ds h2 O2 vs H2 _ s2 S2 r2 p2 => p2.here S2 (.cons (r1.stp s2) r2)⟩⟩
theorem sE_tup {x1 : Nat} (hl : ∀ env h ds h', fs env h = .ok ds h' → ds.length ≤ 1000) (ha : PA X es (tA X W fs)) : PE X (.Tuple es x1 pos) (tE X W fun env h => (fs env h).bind fun ds h => .ok (.tup ds) h) :=
  PE.weak (pe_tup ha) fun sg H Q ⟨O, env, h, eo, S, p⟩ => ⟨O, env, h, eo, S, p.bind fun ds h1 O1 vs H1 er s1 S1 r1 p1 => by
    have z : vs.length ≤ sizeLine := by rw [← r1.length, ← LINE_eq]; exact Nat.le_trans (hl _ _ _ _ er) (by decide)
    exact ⟨z, fun q hq => p1.new S1 hq _ (frz_tup S1 hq z r1)⟩⟩
/-- a list that was just made at q, as a value or as a changing object -/
theorem mk_ok {sg : L2.St} {O : Om} {H : Hp} {h : Hs} {m : Bool} {ds : List D} {vs : List V} {Q : VK} (S : SR X.K X.mg O h H) (r : RepLX X O ds vs) (z : vs.length ≤ sizeLine) (p : Post X W sg O H (mkL m ds h) (RepX X) Q) {q : Addr} (hq : H q = none) : Q (.ref q) (upd H q (.lst vs)) := by
  cases m with
  | false => exact Post.new (show Post X W sg O H (.ok (.lst ds) h) (RepX X) Q from p) S hq _ (frz_lst S hq z r)
  | true =>
    have p' : Post X W sg O H (.ok (.ptr h.length) (h ++ [.lst ds])) (RepX X) Q := p
    obtain ⟨s2, S2⟩ := S.newC (H' := upd H q (.lst vs)) (p := q) (c := .lst ds) hq (fun a ob e => by rw [upd_ne (ne_of_none e hq)]; exact e) ⟨_, upd_same⟩ ⟨vs, upd_same, z, r.more⟩
    refine p' _ _ _ s2 S2 ?_
    have y : RepX X (O.more q) (.ptr O.n) (.ref ((O.more q).φ O.n)) := .ptr (Nat.lt_succ_self _)
    rw [Om.more_new] at y
    rw [S.len]
    exact y
theorem sE_lst {m : Bool} (hl : ∀ env h ds h', fs env h = .ok ds h' → ds.length ≤ 1000) (ha : PA X es (tA X W fs)) : PE X (.List es pos) (tE X W fun env h => (fs env h).bind fun ds h => mkL m ds h) :=
  PE.weak (pe_lst ha) fun sg H Q ⟨O, env, h, eo, S, p⟩ => ⟨O, env, h, eo, S, p.bind fun ds h1 O1 vs H1 er s1 S1 r1 p1 => by
    have z : vs.length ≤ sizeLine := by rw [← r1.length, ← LINE_eq]; exact Nat.le_trans (hl _ _ _ _ er) (by decide)
    exact ⟨z, fun q hq => mk_ok S1 r1 z p1 hq⟩⟩
theorem sE_bin {op : Bop} (ha : PE X a (tE X W fa)) (hb : PE X b (tE X W fb)) : PE X (.BinOp a (opOf op) b pos) (tE X W fun env h => (fa env h).bind fun x h => (fb env h).bind fun y h => binA h op x y) :=
  PE.weak (pe_op (op_all op) ha hb) fun sg H Q ⟨O, env, h, eo, S, p⟩ => ⟨O, env, h, eo, S, p.bind fun x h1 O1 v H1 _ s1 S1 r1 p1 => ⟨O1, env, h1, eo.stp s1, S1, p1.bind fun y h2 O2 u H2 _ s2 S2 r2 p2 => bin_ok S2 (r1.stp s2) r2 p2⟩⟩
theorem sE_neg (ha : PE X a (tE X W fa)) : PE X (.UnaryOp .USub a pos) (tE X W fun env h => (fa env h).bind fun x h => match x with
      | .int i => .ok (.int (-i)) h
      | _ => .no) :=
  PE.weak (pe_un un_neg ha) fun sg H Q ⟨O, env, h, eo, S, p⟩ => ⟨O, env, h, eo, S, p.bind fun x h1 O1 v H1 _ s1 S1 r1 p1 => by
    cases x with
    | int i => rw [r1.int_inv]; exact ⟨i, rfl, p1.here S1 (.int _)⟩
    | _ => exact (show False from p1).elim⟩
theorem sE_cmp {k : Nat} (hr : Room k X.A) {op : Cop} (hm : setless b = true) (ha : PE X a (tE X W fa)) (hb : PE X b (tE X W fb)) : PE X (.Compare a [cpOf op] [b] pos) (tE X W fun env h => (fa env h).bind fun x h => (fb env h).bind fun y h => .of ((cmpD h op x y).map .bl) h) :=
  PE.weak (pe_cmpR (cmp_all hr op) ha hb (behind_plain hm _)) fun sg H Q ⟨O, env, h, eo, S, p⟩ => ⟨O, env, h, eo, S, p.bind fun x h1 O1 v H1 _ s1 S1 r1 p1 => ⟨O1, env, h1, eo.stp s1, S1, p1.bind fun y h2 O2 u H2 _ s2 S2 r2 p2 => by
    obtain ⟨d, e, q⟩ := p2.of S2
    simp only [Option.map_eq_some_iff] at e
    obtain ⟨t, e, rfl⟩ := e
    exact cmp_ok S2 (r1.stp s2) r2 e (q _ (.bl t))⟩⟩
theorem tru_of {O : Om} {H : Hp} {h : Hs} (S : SR X.K X.mg O h H) {d : D} {v : V} (r : RepX X O d v) {k : Bool} (e : truth h d = some k) : TruV X.K v H k := by
  have LE := LINE_eq
  cases r with
  | non => cases e; rfl
  | bl t => cases e; rfl
  | int i => cases e; rfl
  | str z =>
    simp only [truth] at e
    split at e
    · cases e; exact ⟨by omega, rfl⟩
    · cases e
  | tup q z t => cases e; exact .inr (.inl ⟨_, SqT.of (S.sub _ _ q), by cases t <;> rfl⟩)
  | lst q z t => cases e; exact .inl ⟨_, SqL.of (S.sub _ _ q), by cases t <;> rfl⟩
  | ksl q z t => cases e; exact .inl ⟨_, sqL_up S.sub q, by cases t <;> rfl⟩
  | kst q z t => cases e; exact .inr (.inl ⟨_, sqT_up S.sub q, by cases t <;> rfl⟩)
  | ptr q =>
    simp only [truth] at e
    split at e
    · rename_i xs hn
      cases e
      obtain ⟨vs, hv, z, t⟩ := S.cell _ _ hn
      exact .inl ⟨_, SqL.of hv, by cases t <;> rfl⟩
    · rename_i kvs hn
      cases e
      obtain ⟨ws, hv, t⟩ := S.cell _ _ hn
      exact .inr (.inr ⟨_, hv, by cases t <;> rfl⟩)
    · cases e
  | glo => cases e
  | exv => cases e
  | exz => cases e
theorem sE_one {op : PySem.BoolOp} (ha : PE X a (tE X W fa)) : PE X (.BoolOp op [a] pos) (tE X W fa) := pe_one ha
theorem sE_and {rest : List Expr} (ha : PE X a (tE X W fa)) (hb : PE X (.BoolOp .And (b :: rest) pos) (tE X W fb)) : PE X (.BoolOp .And (a :: b :: rest) pos) (tE X W fun env h => (fa env h).bind fun x h => (Res.of (truth h x) h).bind fun k h => if k then fb env h else .ok x h) :=
  PE.weak (pe_andT ha hb) fun sg H Q ⟨O, env, h, eo, S, p⟩ => ⟨O, env, h, eo, S, p.bind fun x h1 O1 v H1 _ s1 S1 r1 p1 => by
    obtain ⟨k, e, q⟩ := p1.ofb
    refine ⟨k, tru_of S1 r1 e, ?_⟩
    cases k with
    | true => rw [if_pos rfl] at q ⊢; exact ⟨O1, env, h1, eo.stp s1, S1, q⟩
    | false => rw [if_neg (by decide)] at q ⊢; exact q.here S1 r1⟩
theorem sE_or {rest : List Expr} (ha : PE X a (tE X W fa)) (hb : PE X (.BoolOp .Or (b :: rest) pos) (tE X W fb)) : PE X (.BoolOp .Or (a :: b :: rest) pos) (tE X W fun env h => (fa env h).bind fun x h => (Res.of (truth h x) h).bind fun k h => if k then .ok x h else fb env h) :=
  PE.weak (pe_orT ha hb) fun sg H Q ⟨O, env, h, eo, S, p⟩ => ⟨O, env, h, eo, S, p.bind fun x h1 O1 v H1 _ s1 S1 r1 p1 => by
    obtain ⟨k, e, q⟩ := p1.ofb
    refine ⟨k, tru_of S1 r1 e, ?_⟩
    cases k with
    | false => rw [if_neg (by decide)] at q ⊢; exact ⟨O1, env, h1, eo.stp s1, S1, q⟩
    | true => rw [if_pos rfl] at q ⊢; exact q.here S1 r1⟩
theorem sE_not (ha : PE X a (tE X W fa)) : PE X (.UnaryOp .Not a pos) (tE X W fun env h => (fa env h).bind fun x h => .of ((truth h x).map fun k => .bl (!k)) h) :=
  PE.weak (pe_notT ha) fun sg H Q ⟨O, env, h, eo, S, p⟩ => ⟨O, env, h, eo, S, p.bind fun x h1 O1 v H1 _ s1 S1 r1 p1 => by
    obtain ⟨d, e, q⟩ := p1.of S1
    simp only [Option.map_eq_some_iff] at e
    obtain ⟨k, e, rfl⟩ := e
    exact ⟨k, tru_of S1 r1 e, q _ (.bl _)⟩⟩
theorem sE_ife (hc : PT X c (tT X W ft)) (ha : PE X a (tE X W fa)) (hb : PE X b (tE X W fb)) : PE X (.IfExp c a b pos) (tE X W fun env h => (ft env h).bind fun k h => if k then fa env h else fb env h) :=
  PE.weak (pe_ifExp hc ha hb) fun sg H Q ⟨O, env, h, eo, S, p⟩ => ⟨O, env, h, eo, S, p.bind fun k h1 O1 v H1 _ s1 S1 r1 p1 => by
    cases (show k = v from r1)
    cases k with
    | false => rw [if_neg (by decide)] at p1 ⊢; exact ⟨O1, env, h1, eo.stp s1, S1, p1⟩
    | true => rw [if_pos rfl] at p1 ⊢; exact ⟨O1, env, h1, eo.stp s1, S1, p1⟩⟩
/-! ### tests -/
theorem sT_val (hp : plainT e = true) (ha : PE X e (tE X W fa)) : PT X e (tT X W fun env h => (fa env h).bind fun x h => .of (truth h x) h) :=
  PT.weak (pt_truth ha (plain_true hp X.env)) fun sg H Q ⟨O, env, h, eo, S, p⟩ => ⟨O, env, h, eo, S, p.bind fun x h1 O1 v H1 _ s1 S1 r1 p1 => by
    obtain ⟨k, e, q⟩ := p1.of S1
    exact ⟨k, tru_of S1 r1 e, q k rfl⟩⟩
theorem sT_not (ha : PT X a (tT X W ft)) : PT X (.UnaryOp .Not a pos) (tT X W fun env h => (ft env h).bind fun k h => .ok (!k) h) :=
  PT.weak (pt_not ha) fun sg H Q ⟨O, env, h, eo, S, p⟩ => ⟨O, env, h, eo, S, p.bind fun k h1 O1 v H1 _ s1 S1 r1 p1 => by
    cases (show k = v from r1)
    exact p1.here S1 rfl⟩
theorem sT_cmp {k : Nat} (hr : Room k X.A) {op : Cop} (hm : setless b = true) (ha : PE X a (tE X W fa)) (hb : PE X b (tE X W fb)) :
    PT X (.Compare a [cpOf op] [b] pos) (tT X W fun env h => ((fa env h).bind fun x h => (fb env h).bind fun y h => Res.of ((cmpD h op x y).map .bl) h).bind fun x h => .of (truth h x) h) :=
  PT.weak (pt_cmpR (cmp_all hr op) ha hb (behind_plain hm _)) fun sg H Q ⟨O, env, h, eo, S, p⟩ => ⟨O, env, h, eo, S, by
    have p0 : Post X W sg O H (((fa env h).bind fun x h => (fb env h).bind fun y h => Res.of ((cmpD h op x y).map .bl) h).bind fun x h => .of (truth h x) h) RepB Q := p
    rw [Res.bind_assoc] at p0
    refine p0.bind fun x h1 O1 v H1 _ s1 S1 r1 p1 => ⟨O1, env, h1, eo.stp s1, S1, ?_⟩
    rw [Res.bind_assoc] at p1
    refine p1.bind fun y h2 O2 u H2 _ s2 S2 r2 p2 => ?_
    obtain ⟨d, e, q⟩ := p2.ofb
    simp only [Option.map_eq_some_iff] at e
    obtain ⟨t, e, rfl⟩ := e
    exact cmp_ok S2 (r1.stp s2) r2 e ⟨t, rfl, Post.here (show Post X W sg O2 H2 (.ok t h2) RepB Q from q) S2 rfl⟩⟩
theorem sW_and1 (ha : PT X a (tT X W ft)) : PW X (.BoolOp .And [a] pos) (tT X W ft) := pw_and1 ha
theorem sW_or1 (ha : PT X a (tT X W ft)) : PW X (.BoolOp .Or [a] pos) (tT X W ft) := pw_or1 ha
theorem sW_and {rest : List Expr} {fu : Nv → Hs → Res Bool} (ha : PT X a (tT X W ft)) (hb : PW X (.BoolOp .And (b :: rest) pos) (tT X W fu)) : PW X (.BoolOp .And (a :: b :: rest) pos) (tT X W fun env h => (ft env h).bind fun k h => if k then fu env h else .ok false h) :=
  PW.weak (pw_and ha hb) fun sg H Q ⟨O, env, h, eo, S, p⟩ => ⟨O, env, h, eo, S, p.bind fun k h1 O1 v H1 _ s1 S1 r1 p1 => by
    cases (show k = v from r1)
    cases k with
    | true => rw [if_pos rfl] at p1 ⊢; exact ⟨O1, env, h1, eo.stp s1, S1, p1⟩
    | false => rw [if_neg (by decide)] at p1 ⊢; exact p1.here S1 rfl⟩
theorem sW_or {rest : List Expr} {fu : Nv → Hs → Res Bool} (ha : PT X a (tT X W ft)) (hb : PW X (.BoolOp .Or (b :: rest) pos) (tT X W fu)) : PW X (.BoolOp .Or (a :: b :: rest) pos) (tT X W fun env h => (ft env h).bind fun k h => if k then .ok true h else fu env h) :=
  PW.weak (pw_or ha hb) fun sg H Q ⟨O, env, h, eo, S, p⟩ => ⟨O, env, h, eo, S, p.bind fun k h1 O1 v H1 _ s1 S1 r1 p1 => by
    cases (show k = v from r1)
    cases k with
    | false => rw [if_neg (by decide)] at p1 ⊢; exact ⟨O1, env, h1, eo.stp s1, S1, p1⟩
    | true => rw [if_pos rfl] at p1 ⊢; exact p1.here S1 rfl⟩
/-- a < b < c -/
theorem sE_chain {k : Nat} (hr : Room k X.A) {op op' : Cop} (ha : PE X a (tE X W fa)) (hb : PE X b (tE X W fb)) (hc : PE X c (tE X W fc)) (hbm : setless b = true) (hcm : setless c = true) :
    PE X (.Compare a [cpOf op, cpOf op'] [b, c] pos) (tE X W fun env h => (fa env h).bind fun x h => (fb env h).bind fun y h => (Res.of (cmpD h op x y) h).bind fun k h => if k then (fc env h).bind fun z h => .of ((cmpD h op' y z).map .bl) h else .ok (.bl false) h) :=
  PE.weak (pe_chain (cmp_all hr op) (cmp_all hr op') ha hb hc (behind_plain hcm _)) fun sg H Q ⟨O, env, h, eo, S, p⟩ => ⟨O, env, h, eo, S, p.bind fun x h1 O1 v H1 _ s1 S1 r1 p1 => ⟨O1, env, h1, eo.stp s1, S1, p1.bind fun y h2 O2 u H2 _ s2 S2 r2 p2 => by
    obtain ⟨t, e, q⟩ := p2.ofb
    refine cmp_ok S2 (r1.stp s2) r2 e ⟨t, rfl, ?_⟩
    cases t with
    | true =>
      rw [if_pos rfl] at q ⊢
      refine ⟨O2, env, h2, (eo.stp s1).stp s2, S2, q.bind fun z h3 O3 w H3 _ s3 S3 r3 p3 => ?_⟩
      obtain ⟨d, e3, q3⟩ := p3.of S3
      simp only [Option.map_eq_some_iff] at e3
      obtain ⟨t3, e3, rfl⟩ := e3
      exact cmp_ok S3 (r2.stp s3) r3 e3 (q3 _ (.bl t3))
    | false => rw [if_neg (by decide)] at q ⊢; exact q.here S2 (.bl false)⟩⟩
end
end SI
end
section
set_option Elab.async false
set_option linter.all false
set_option maxRecDepth 100000
set_option maxHeartbeats 4000000
/-! SI9: calls, fields, methods. -/
namespace SI
open PySem PySem.Spec PyProof.Rows L2

/-- what a body's walk may lean on -/
structure XOk (X : Cx) (W : WX) (G : Wr) (k : Nat) (T : Tab) : Prop where
  room : Room k X.A
  grd : X.A.guards = some []
  tk : Takes X W
  wf : Wf X G k T
  nd : X.N.Nodup
  calm : X.calm = true
section
variable {X : Cx} {W : WX} {G : Wr} {k : Nat} {T : Tab} {a b c e o i : Expr} {es : List Expr} {p pos apos : Pos} {fa fb fc : Nv → Hs → Res D} {fs : Nv → Hs → Res (List D)} {ft : Nv → Hs → Res Bool} {x m : Str}
theorem Post.ne {α β : Type} {sg : L2.St} {O : Om} {H : Hp} {r : Res α} {rep : Om → α → β → Prop} {Q : β → Hp → Prop} (p : Post X W sg O H r rep Q) : r ≠ .no := fun e => by rw [e] at p; exact p
theorem Post.sp {sg : L2.St} {O : Om} {H : Hp} {g : List D → Hs → Res D} {ds : List D} {vs : List V} {h : Hs} {n : Nat} {Q : VK} (p : Post X W sg O H (g ds h) (RepX X) Q) (hn : vs.length = n) (r : RepLX X O ds vs) (S : SR X.K X.mg O h H) :
    spF X.K X.mg n g vs H Q fun c d H' => W c d sg H' := by
  refine ⟨hn, O, ds, h, r, S, ?_⟩
  unfold Post at p
  split <;> rename_i e <;> rw [e] at p <;> exact p
/-- f(..) -/
theorem sE_call (c : XOk X W G k T) (hx : x ∈ T.fns) (hg : Gl X x) (hdb : (x == ("__debug__" : Str)) = false) (hs : es.all starless = true) (ha : PA X es (tA X W fs)) (h0 : es = [] → fs = fun _ h => .ok [] h) :
    PE X (.Call (.Name x p) es [] pos) (tE X W fun env h => (fs env h).bind fun ds h => G.call x ds h) := ⟨fun pn s sg H Q I ⟨O, env, h, eo, S, w⟩ => by
  obtain ⟨f, hm, hk⟩ := c.wf.glo x hx
  refine wpAny_Call_Name_kw (ld_glob I hg hm ?_ hdb)
  refine with_args (first := []) (R := fun vs H1 => ∃ O1 ds h1, RepLX X O1 ds vs ∧ SR X.K X.mg O1 h1 H1 ∧ Post X W sg O1 H1 (G.call x ds h1) (RepX X) Q) hk ha hs I
    ⟨O, env, h, eo, S, w.bind fun ds h1 O1 vs H1 _ s1 S1 r1 p1 => ⟨O1, ds, h1, r1, S1, p1⟩⟩ (fun e0 => ?_) fun us vs H1 s1 I1 r1 ⟨O1, ds, h1, rl, S1, p1⟩ => ?_
  · rw [h0 e0] at w
    exact ⟨O, [], h, .nil, S, w⟩
  · obtain ⟨f', fd, ps, hm', hb, hl, F⟩ := c.wf.call x ds h1 p1.ne
    rw [hm] at hm'
    cases hm'
    exact run_g F c.room c.grd hb c.tk I1 r1 (p1.sp (by rw [hl]; exact rl.length.symm) rl S1)⟩
theorem SR.newI {O : Om} {h : Hs} {H : Hp} (S : SR X.K X.mg O h H) {x dx cl : Addr} {C : Str} (hx : H x = none) (hdx : H dx = none) (ne : dx ≠ x) (hm : X.mg C = some (.ref cl)) :
    Stp O H (O.more x) (upd (upd H dx (.own x)) x (.ins cl dx [])) ∧ SR X.K X.mg (O.more x) (h ++ [.ins C []]) (upd (upd H dx (.own x)) x (.ins cl dx [])) :=
  S.newC hx (fun a ob e => by
    rw [upd_ne (ne_of_none e hx), upd_ne (ne_of_none e hdx)]; exact e) ⟨_, upd_same⟩ ⟨cl, dx, [], hm, upd_same, .nil⟩
theorem zip_rev {α β : Type} : ∀ {xs : List α} {ys : List β}, xs.length = ys.length → (xs.zip ys).reverse = xs.reverse.zip ys.reverse
  | [], [], _ => rfl
  | x :: xs, y :: ys, h => by
    have h : xs.length = ys.length := by simpa using h
    rw [List.zip_cons_cons, List.reverse_cons, List.reverse_cons, List.reverse_cons, List.zip_append (by simp [h]), zip_rev h]
    rfl
  | [], _ :: _, h => by simp at h
  | _ :: _, [], h => by simp at h
/-- an own exception, made -/
theorem exv_ok {pn : List (Addr × Obj)} {sg : L2.St} {O1 : Om} {H1 : Hp} {h1 : Hs} {cl : Addr} {C : Str} {fl : List Str} {ds : List D} {vs : List V} {us : List Value} {s1 : Shared} {Q : VK} (c : XOk X W G k T) (hm : X.mg C = some (.ref cl)) (hl : fl.length = ds.length) (hz : ds.length ≤ 1000)
    (alt : (fl = [] ∧ PySem.W.excIn X.K cl He.veBase "ValueError.__new__" = true) ∨
      (fl ≠ [] ∧ ∃ f fd ps, OexC X.K cl ∧ (∀ f ∈ fl, PySem.W.findIn X.K (.ref cl) f = some none) ∧ PySem.W.findIn X.K (.ref cl) "__init__" = some (some (.ref f)) ∧ PySem.W.typeIn X.K (.ref f) = some (.type "function") ∧ Binds X.K fd ps [] ∧ 2 ≤ k ∧ FnG X.prog X.w X.K X.mg X.base 1 f fd ps (spE X.K fl)))
    (I1 : Inv X pn sg H1 s1) (r1 : Vals vs us) (rl : RepLX X O1 ds vs) (S1 : SR X.K X.mg O1 h1 H1) (p1 : Post X W sg O1 H1 (.ok (.exv C fl.reverse ds.reverse) h1) (RepX X) Q) :
    wpAny (model X.prog X.w) X.A (PySem.call (.ref cl) us) (EP X pn sg Q) X.xe s1 := by
  rcases alt with ⟨rfl, q⟩ | ⟨hne, f, fd, ps, T', hno, iC, tI, hb, hk, F⟩
  · have hd : ds = [] := List.length_eq_zero_iff.mp hl.symm
    subst hd
    cases rl
    cases r1
    exact run_g0 q I1 fun y hy => p1.new S1 hy _ (.exz hm (by show upd O1.F y _ y = _; rw [upd_same]))
  · have hv : vs.length = ds.length := rl.length.symm
    refine run_gx T' iC tI F (c.room.mono hk) c.grd hb c.tk I1 r1 (by omega) fun y hy => ⟨by rw [List.length_cons]; omega, y, cl, vs, rfl, T', hno, upd_same, fun dx hdx ne => ⟨rfl, ?_⟩⟩
    rw [upd_ne ne] at hdx
    have eu : upd (upd (upd H1 y (exo y cl none)) dx (exd dx (fl.reverse.zip vs.reverse))) y (exo y cl (some dx)) = upd (upd H1 dx (exd dx (fl.reverse.zip vs.reverse))) y (exo y cl (some dx)) := by
      funext b
      by_cases hb1 : b = y
      · rw [hb1, upd_same, upd_same]
      · rw [upd_ne hb1, upd_ne hb1]
        by_cases hb2 : b = dx
        · rw [hb2, upd_same, upd_same]
        · rw [upd_ne hb2, upd_ne hb2, upd_ne hb1]
    rw [eu]
    obtain ⟨s2, S2⟩ := S1.newF hdx (exd dx (fl.reverse.zip vs.reverse))
    have hy2 : upd H1 dx (exd dx (fl.reverse.zip vs.reverse)) y = none := by rw [upd_ne (Ne.symm ne)]; exact hy
    obtain ⟨s3, S3⟩ := S2.newF hy2 (exo y cl (some dx))
    refine p1 _ _ _ (s2.trans s3) S3 (.exv hm (by show upd _ y _ y = _; rw [upd_same]) (by show upd _ y _ dx = _; rw [upd_ne ne]; show upd _ dx _ dx = _; rw [upd_same]) ((rl.rev.stp s2).stp s3) (by rw [List.length_reverse, List.length_reverse]; exact hl))
/-- C(..) -/
theorem sE_make (c : XOk X W G k T) (hx : x ∈ T.cls) (hg : Gl X x) (hdb : (x == ("__debug__" : Str)) = false) (hs : es.all starless = true) (ha : PA X es (tA X W fs)) (h0 : es = [] → fs = fun _ h => .ok [] h) :
    PE X (.Call (.Name x p) es [] pos) (tE X W fun env h => (fs env h).bind fun ds h => G.make x ds h) := ⟨fun pn s sg H Q I ⟨O, env, h, eo, S, w⟩ => by
  obtain ⟨cl, hm, hk, _⟩ := c.wf.clg x hx
  refine wpAny_Call_Name_kw (ld_glob I hg hm ?_ hdb)
  refine with_args (first := []) (R := fun vs H1 => ∃ O1 ds h1, RepLX X O1 ds vs ∧ SR X.K X.mg O1 h1 H1 ∧ Post X W sg O1 H1 (G.make x ds h1) (RepX X) Q) hk ha hs I
    ⟨O, env, h, eo, S, w.bind fun ds h1 O1 vs H1 _ s1 S1 r1 p1 => ⟨O1, ds, h1, r1, S1, p1⟩⟩ (fun e0 => ?_) fun us vs H1 s1 I1 r1 ⟨O1, ds, h1, rl, S1, p1⟩ => ?_
  · rw [h0 e0] at w
    exact ⟨O, [], h, .nil, S, w⟩
  · rcases c.wf.make x ds h1 p1.ne with ⟨c', f, fd, ps, j, g, hm', M, hb, hl, hj, F, eg⟩ | ⟨c', fl, hm', hl, hz, eg, alt⟩
    rotate_left
    · rw [hm] at hm'
      cases hm'
      rw [eg] at p1
      exact exv_ok c hm hl hz alt I1 r1 rl S1 p1
    rw [hm] at hm'
    cases hm'
    rw [eg] at p1
    refine run_gm M F (c.room.mono hj) c.grd hb c.tk I1 r1 fun y dx hy hdx ne => ?_
    obtain ⟨s2, S2⟩ := S1.newI hy hdx ne hm
    have rp : RepX X (O1.more y) (.ptr h1.length) (.ref y) := by
      have z : RepX X (O1.more y) (.ptr O1.n) (.ref ((O1.more y).φ O1.n)) := .ptr (Nat.lt_succ_self _)
      rw [Om.more_new] at z
      rw [S1.len]; exact z
    have p2 := Post.weak p1 s2
    refine Post.sp (g := g) (p2.bind (rep := RepX X) (Q' := fun v H2 => v = .non ∧ Q (.ref y) H2) fun d h3 O3 v H3 _ s3 S3 r3 p3 => ?_) (by rw [hl, List.length_cons, rl.length]) (.cons rp rl.more) S2
    cases d with
    | non => exact ⟨r3.non_inv, p3.here S3 (rp.stp s3)⟩
    | _ => exact (show False from p3).elim⟩
theorem Meth.uniq {K : PySem.W.Frag} {C : Addr} {m : Str} {f g : Addr} (a : Meth K C m f) (b : Meth K C m g) : f = g := by
  have z := a.at_.symm.trans b.at_
  simpa using z
theorem Meth.mem {ds : List D} {h : Hs} {f cl : Addr} {C : Str} (wf : Wf X G k T) (hm : X.mg C = some (.ref cl)) (M : Meth X.K cl m f) (ne : G.meth C m ds h ≠ .no) :
    ∃ fd ps, Binds X.K fd ps [] ∧ ps.length = ds.length ∧ FnG X.prog X.w X.K X.mg X.base k f fd ps (spF X.K X.mg ps.length (G.meth C m)) := by
  obtain ⟨c', f', fd, ps, hm', M', hb, hl, F⟩ := wf.meth C m ds h ne
  rw [hm] at hm'
  cases hm'
  obtain rfl : f = f' := Meth.uniq M M'
  exact ⟨fd, ps, hb, hl, F⟩
theorem RepP.lookN {O : Om} {f : Str} : ∀ {ds : List (Str × D)} {ws : List (Str × V)}, RepP X.K X.mg O ds ws → (ds.lookup f).isNone = true → ws.lookup f = none
  | _, _, .nil, _ => rfl
  | _, _, .cons (k := k) r t, e => by
    simp only [List.lookup_cons] at e ⊢
    split at e
    · cases e
    · exact RepP.lookN t e
/-- o.m(..) -/
theorem sE_meth (c : XOk X W G k T) (hl : es.length < 30) (ho : superless o = true) (hp : (apos.endLine == pos.line) = true) (hs : es.all starless = true) (he : PE X o (tE X W fa)) (ha : PA X es (tA X W fs)) (h0 : es = [] → fs = fun _ h => .ok [] h) :
    PE X (.Call (.Attribute o m apos) es [] pos) (tE X W fun env h => (fa env h).bind fun d h => match clsOf G h d m with
      | some C => (fs env h).bind fun ds h => G.meth C m (d :: ds) h
      | none => .no) := ⟨fun pn s sg H Q I ⟨O, env, h, eo, S, w⟩ => by
  obtain ⟨pl, ht⟩ := meth_eq (m := m) (env := X.env) hs hl ho hp
  refine PySem.W.methodCall_KW (pl := pl) (thn (he.run pn s sg H (fun v H1 => ∃ O1 d h1, RepX X O1 d v ∧ SR X.K X.mg O1 h1 H1 ∧ NvOk X.K X.mg O1 env sg ∧ Post X W sg O1 H1 (match clsOf G h1 d m with
      | some C => (fs env h1).bind fun ds h => G.meth C m (d :: ds) h
      | none => .no) (RepX X) Q) I ⟨O, env, h, eo, S, w.bind fun d h1 O1 v H1 _ s1 S1 r1 p1 => ⟨O1, d, h1, r1, S1, eo.stp s1, p1⟩⟩) fun u s1 ⟨v, H1, I1, rx, O1, d, h1, r1, S1, eo1, p1⟩ => ?_) ht
  cases hc : clsOf G h1 d m with
  | none => rw [hc] at p1; exact (show False from p1).elim
  | some C =>
    rw [hc] at p1
    cases d with
    | ptr n =>
      simp only [clsOf] at hc
      split at hc
      · rename_i C' fl hn
        split at hc
        · rename_i hg
          cases hc
          simp only [Bool.and_eq_true] at hg
          obtain ⟨cl, f, hm, M⟩ := c.wf.mth C m hg.1.2
          obtain ⟨hlt, cl', dx, ws, hm', ha', rp⟩ := S1.at hn
          rw [hm] at hm'
          cases hm'
          have q := (c.wf.cls C hg.1.1 cl hm).1
          cases r1
          obtain rfl : u = Value.ref _ := rx
          have lk : ws.lookup m = none := RepP.lookN rp hg.2
          refine getmeth_ok I1 ha' q.cl M lk ?_
          refine with_args (first := [.ref (O1.φ n)]) (R := fun vs H2 => ∃ O2 ds h2, RepLX X O2 (.ptr n :: ds) (.ref (O1.φ n) :: vs) ∧ SR X.K X.mg O2 h2 H2 ∧ Post X W sg O2 H2 (G.meth C m (.ptr n :: ds) h2) (RepX X) Q) M.kp ha hs I1
            ⟨O1, env, h1, eo1, S1, p1.bind fun ds h2 O2 vs H2 _ s2 S2 r2 p2 => ⟨O2, ds, h2, .cons ((Rep.ptr hlt).stp s2) r2, S2, p2⟩⟩ (fun e0 => ?_) fun us vs H2 s2 I2 r2 ⟨O2, ds, h2, rl, S2, p2⟩ => ?_
          · rw [h0 e0] at p1
            exact ⟨O1, [], h1, .cons (.ptr hlt) .nil, S1, p1⟩
          · obtain ⟨fd, ps, hb, hl', F⟩ := Meth.mem c.wf hm M p2.ne
            exact run_g F c.room c.grd hb c.tk I2 (.cons (show RelV (.ref _) (.ref _) from rfl) r2) (p2.sp (by rw [hl']; exact rl.length.symm) rl S2)
        · cases hc
      · cases hc
    | _ => cases hc⟩
/-- C.m(self, ..) -/
theorem sE_cmeth {C : Str} (c : XOk X W G k T) (hx : (C, m) ∈ T.cms) (hg : Gl X C) (hdb : (C == ("__debug__" : Str)) = false) (hl : es.length < 30) (hp : (apos.endLine == pos.line) = true) (hs : es.all starless = true) (ha : PA X es (tA X W fs)) (h0 : es = [] → fs = fun _ h => .ok [] h) :
    PE X (.Call (.Attribute (.Name C p) m apos) es [] pos) (tE X W fun env h => (fs env h).bind fun ds h => G.meth C m ds h) := ⟨fun pn s sg H Q I ⟨O, env, h, eo, S, w⟩ => by
  obtain ⟨cl, f, hm, hk, M, h1, h2, h3⟩ := c.wf.cms _ hx
  obtain ⟨pl, ht⟩ := meth_eq (o := .Name C p) (m := m) (env := X.env) hs hl rfl hp
  refine PySem.W.methodCall_KW (pl := pl) (ld_glob I hg hm ?_ hdb) ht
  refine PySem.W.method_cls I.kIn h2 (PySem.W.cls_value I.kIn h1 h3 rfl ?_)
  have I0 := I.tok (s.toks + 1)
  refine with_args (first := []) (R := fun vs H1 => ∃ O1 ds h1, RepLX X O1 ds vs ∧ SR X.K X.mg O1 h1 H1 ∧ Post X W sg O1 H1 (G.meth C m ds h1) (RepX X) Q) hk ha hs I0
    ⟨O, env, h, eo, S, w.bind fun ds h1 O1 vs H1 _ s1 S1 r1 p1 => ⟨O1, ds, h1, r1, S1, p1⟩⟩ (fun e0 => ?_) fun us vs H1 s1 I1 r1 ⟨O1, ds, h1, rl, S1, p1⟩ => ?_
  · rw [h0 e0] at w
    exact ⟨O, [], h, .nil, S, w⟩
  · obtain ⟨fd, ps, hb, hl', F⟩ := Meth.mem c.wf hm M p1.ne
    exact run_g F c.room c.grd hb c.tk I1 r1 (p1.sp (by rw [hl']; exact rl.length.symm) rl S1)⟩
theorem RepP.look {O : Om} {f : Str} {d : D} : ∀ {ds : List (Str × D)} {ws : List (Str × V)}, RepP X.K X.mg O ds ws → ds.lookup f = some d → ∃ v, ws.lookup f = some v ∧ RepX X O d v
  | _, _, .nil, e => by cases e
  | _, _, .cons (k := k) r t, e => by
    simp only [List.lookup_cons] at e ⊢
    split at e
    · rename_i he
      cases e
      exact ⟨_, rfl, r⟩
    · exact RepP.look t e
theorem zip_look {O : Om} {f : Str} {d : D} : ∀ {ns : List Str} {ds : List D} {vs : List V}, RepLX X O ds vs → (ns.zip ds).lookup f = some d → ∃ v, (ns.zip vs).lookup f = some v ∧ RepX X O d v
  | [], _, _, _, e => by cases e
  | _ :: _, _, _, .nil, e => by cases e
  | n :: ns, _, _, .cons r t, e => by
    simp only [List.zip_cons_cons, List.lookup_cons] at e ⊢
    split at e
    · cases e
      exact ⟨_, rfl, r⟩
    · exact zip_look t e
/-- o.f -/
theorem sE_fld {f : Str} (c : XOk X W G k T) (hf : f ∈ T.attrs) (ho : superless o = true) (he : PE X o (tE X W fa)) : PE X (.Attribute o f pos) (tE X W fun env h => (fa env h).bind fun d h => .of (fldD G h d f) h) := ⟨fun pn s sg H Q I ⟨O, env, h, eo, S, w⟩ => by
  refine attr_of (base_plain ho f X.env _) (thn (he.run pn s sg H (fun v H1 => ∃ O1 d h1, RepX X O1 d v ∧ SR X.K X.mg O1 h1 H1 ∧ Post X W sg O1 H1 (.of (fldD G h1 d f) h1) (RepX X) Q) I ⟨O, env, h, eo, S, w.bind fun d h1 O1 v H1 _ s1 S1 r1 p1 => ⟨O1, d, h1, r1, S1, p1⟩⟩) fun u s1 ⟨v, H1, I1, rx, O1, d, h1, r1, S1, p1⟩ => ?_)
  obtain ⟨z, e, q⟩ := p1.of S1
  cases d with
  | ptr n =>
    simp only [fldD] at e
    split at e
    · rename_i C' fl hn
      split at e
      · rename_i hg
        obtain ⟨hlt, cl, dx, ws, hm, ha, rp⟩ := S1.at hn
        obtain ⟨w1, l, r⟩ := RepP.look rp e
        have k := c.wf.cls C' hg cl hm
        cases r1
        obtain rfl : u = Value.ref _ := rx
        exact getattr_ok I1 ha k.1.cl (k.2.1 f hf) l fun u' s2 I2 ru => ⟨w1, H1, I2, ru, q w1 r⟩
      · cases e
    · cases e
  | exv C ns ds =>
    simp only [fldD] at e
    split at e
    · rename_i hg
      cases r1 with
      | exz hm hF => cases e
      | @exv p dx cl _ _ _ vs hm h2 h3 rl hl =>
        obtain ⟨w1, l, r⟩ := zip_look rl e
        have k := c.wf.exc C hg cl hm
        obtain rfl : u = Value.ref _ := rx
        exact get_x k.1 (k.2.2.1 f hf) I1 (S1.sub _ _ h2) (S1.sub _ _ h3) l fun u' s2 I2 ru => ⟨w1, H1, I2, ru, q w1 r⟩
    · cases e
  | _ => cases e⟩
/-! ### index -/
def rIxD : R2 := fun x y H Q => ∃ a v, x = .ref a ∧ DGet H a y (some v) ∧ Q v H
theorem ix_dict (hu : X.A.units + 1 < cLine) : IxR X rIxD := by
  intro value slice pn s sg H x y v u Q I rx ry ⟨a, w, ex, g, q⟩ hs
  subst ex
  obtain rfl : v = Value.ref a := rx
  exact tail_any (dict_typeIs I g) PySem.F.slot_dict_getitem.lookup (d_getItem hu I g ry fun w' s' I' r' => ⟨w, H, I', r', q⟩) hs
theorem atI_ok {O : Om} {xs : List D} {vs : List V} (r : RepLX X O xs vs) {i : Int} {d : D} (e : atI xs i = some d) : ∃ v, atI vs i = some v ∧ RepX X O d v := by
  unfold atI at e ⊢
  rw [← r.length]
  cases q : ixN xs.length i with
  | none => rw [q] at e; cases e
  | some j => rw [q] at e; exact r.get e
theorem sE_ix (c : XOk X W G k T) (hi : sliceless b = true) (ha : PE X a (tE X W fa)) (hb : PE X b (tE X W fb)) : PE X (.Subscript a b pos) (tE X W fun env h => (fa env h).bind fun x h => (fb env h).bind fun y h => .of (ixD h x y) h) :=
  PE.weak (pe_ix ((ix_list.or ix_tup).or (ix_dict (by have := c.room.units; omega))) ha hb (plain_ix hi)) fun sg H Q ⟨O, env, h, eo, S, w⟩ => ⟨O, env, h, eo, S, w.bind fun x h1 O1 v H1 _ s1 S1 r1 p1 => ⟨O1, env, h1, eo.stp s1, S1, p1.bind fun y h2 O2 u H2 _ s2 S2 r2 p2 => by
    obtain ⟨z, e, q⟩ := p2.of S2
    have r1' := r1.stp s2
    have go : ∀ l xs, un h2 x = some (l, xs) → idx y xs = some z → (rIxL X.K v u H2 Q ∨ rIxT X.K v u H2 Q) := fun l xs hu hz => by
      obtain ⟨p, vs, rfl, hq, rl, _⟩ := un_ok S2 r1' hu
      cases y with
      | int j =>
        cases r2.int_inv
        obtain ⟨w', hw, rw'⟩ := atI_ok rl hz
        cases l with
        | true => exact .inl ⟨p, vs, j, w', rfl, rfl, hq, hw, q w' rw'⟩
        | false => exact .inr ⟨p, vs, j, w', rfl, rfl, hq, hw, q w' rw'⟩
      | _ => cases hz
    unfold ixD at e
    split at e
    · rename_i n
      split at e
      · rename_i xs hn
        exact .inl (go true xs (by simp only [un, hn]) e)
      · rename_i _ cell _ hn
        cases hg : dget cell y with
        | none => rw [hg] at e; cases e
        | some o =>
          rw [hg] at e
          obtain rfl : o = some z := e
          obtain ⟨o', g, r⟩ := dget_ok S2 hn r2 hg
          rcases r with ⟨e1, _⟩ | ⟨d, w', e1, e2, r⟩
          · cases e1
          · cases e1
            subst e2
            cases r1'
            exact .inr ⟨_, w', rfl, g, q w' r⟩
      · cases e
    · split at e
      · rename_i l xs hv
        exact .inl (go l xs (valSeq_un hv) e)
      · cases e⟩⟩
/-! ### slices -/
abbrev tO (X : Cx) (W : WX) (f : Nv → Hs → Res (Option Int)) : TO := fun sg H Q => ∃ (O : Om) (env : Nv) (h : Hs), NvOk X.K X.mg O env sg ∧ SR X.K X.mg O h H ∧ Post X W sg O H (f env h) (fun _ (a b : Option Int) => a = b) Q
theorem PO.weak {e : Option Expr} {t t' : TO} (p : PO X e t) (k : ∀ sg H Q, t' sg H Q → t sg H Q) : PO X e t' := ⟨fun pn s sg H Q I w => p.run pn s sg H Q I (k sg H Q w)⟩
theorem sO_none : PO X none (tO X W fun _ h => .ok none h) := PO.weak po_none fun sg H Q ⟨O, env, h, eo, S, w⟩ => w.here S rfl
theorem sO_some (ha : PE X a (tE X W fa)) : PO X (some a) (tO X W fun env h => (fa env h).bind fun d h => match d with
    | .int i => .ok (some i) h
    | _ => .no) := PO.weak (po_some ha) fun sg H Q ⟨O, env, h, eo, S, w⟩ => ⟨O, env, h, eo, S, w.bind fun d h1 O1 v H1 _ s1 S1 r1 p1 => by
  cases d with
  | int i => exact ⟨i, r1.int_inv, p1.here S1 rfl⟩
  | _ => exact (show False from p1).elim⟩
theorem cut_ok {O : Om} {xs : List D} {vs : List V} (r : RepLX X O xs vs) (lo hi : Option Int) : RepLX X O (cutD xs lo hi) (cutV vs lo hi) := by
  unfold cutD cutV
  rw [← r.length]
  exact (r.drop _).take _
theorem sE_sl {lo hi : Option Expr} {fl fh : Nv → Hs → Res (Option Int)} {p2 : Pos} (ha : PE X a (tE X W fa)) (hl : PO X lo (tO X W fl)) (hh : PO X hi (tO X W fh)) :
    PE X (.Subscript a (.Slice lo hi none p2) pos) (tE X W fun env h => (fa env h).bind fun x h => (fl env h).bind fun l h => (fh env h).bind fun u h => .of (slD h x l u) h) :=
  PE.weak (pe_slice (sl_list.or sl_tupA) ha hl hh) fun sg H Q ⟨O, env, h, eo, S, w⟩ => ⟨O, env, h, eo, S, w.bind fun x h1 O1 v H1 _ s1 S1 r1 p1 => ⟨O1, env, h1, eo.stp s1, S1, p1.bind fun l h2 O2 l' H2 _ s2 S2 r2 p2 => ⟨O2, env, h2, (eo.stp s1).stp s2, S2, p2.bind fun u h3 O3 u' H3 _ s3 S3 r3 p3 => by
    cases (show l = l' from r2)
    cases (show u = u' from r3)
    obtain ⟨z, e, q⟩ := p3.of S3
    have r1' := (r1.stp s2).stp s3
    have p3 : Post X W sg O3 H3 (.ok z h3) (RepX X) Q := by
      have t : Post X W sg O3 H3 (Res.of (slD h3 x l u) h3) (RepX X) Q := p3
      rw [e] at t; exact t
    have lst : ∀ xs, un h3 x = some (true, xs) → z = .lst (cutD xs l u) → rSlL X.K v l u H3 Q := fun xs hu hz => by
      subst hz
      obtain ⟨p, vs, rfl, hq, rl, zl⟩ := un_ok S3 r1' hu
      have zc : (cutV vs l u).length ≤ sizeLine := Nat.le_trans (cutV_length vs l u) zl
      exact ⟨p, vs, rfl, hq, fun t ht => p3.new S3 ht _ (frz_lst S3 ht zc (cut_ok rl l u))⟩
    unfold slD at e
    split at e
    · rename_i xs _
      cases e
      obtain ⟨p, vs, rfl, hq, rl, zl⟩ := un_ok (l := false) S3 r1' rfl
      have zc : (cutV vs l u).length ≤ sizeLine := Nat.le_trans (cutV_length vs l u) zl
      refine .inr ⟨p, vs, rfl, hq, fun hw => ?_, fun _ t ht => p3.new S3 ht _ (frz_tup S3 ht zc (cut_ok rl l u))⟩
      have ec : cutD xs l u = xs := by
        unfold cutD
        rw [rl.length, hw.1, hw.2, Nat.sub_zero, List.drop_zero, ← rl.length, List.take_length]
      refine q _ ?_
      rw [ec]; exact r1'
    · split at e
      · rename_i xs hu
        exact .inl (lst xs hu (by simpa using e.symm))
      · cases e⟩⟩⟩
end
end SI
end
section
set_option Elab.async false
set_option linter.all false
set_option maxRecDepth 100000
set_option maxHeartbeats 4000000
/-! SI10: built-ins. -/
namespace SI
open PySem PySem.Spec PyProof.Rows L2

section
variable {X : Cx} {W : WX} {G : Wr} {k : Nat} {T : Tab} {a b e o i : Expr} {es : List Expr} {p pos apos : Pos} {fa fb fc : Nv → Hs → Res D} {fs : Nv → Hs → Res (List D)} {ft : Nv → Hs → Res Bool} {x m : Str}
theorem CallR.weak {f : Value} {r r' : List V → Hp → VK → Prop} (c : CallR X f r) (k : ∀ xs H Q, r' xs H Q → r xs H Q) : CallR X f r' := fun pn s sg H xs us Q I v h => c pn s sg H xs us Q I v (k xs H Q h)
/-- what a built-in's call asks -/
def biR (X : Cx) (W : WX) (f : Bi) : List V → Hp → VK → Prop := fun vs H Q => ∃ (sg : L2.St) (O : Om) (h : Hs) (d : D) (v : V), vs = [v] ∧ SR X.K X.mg O h H ∧ RepX X O d v ∧ Post X W sg O H (Res.of (biD f h d) h) (RepX X) Q
theorem un_list {O : Om} {h : Hs} {H : Hp} (S : SR X.K X.mg O h H) {d : D} {v : V} (r : RepX X O d v) {xs : List D} (e : un h d = some (true, xs)) : ∃ (p : Addr) (vs : List V), v = .ref p ∧ SqL X.K H p vs ∧ RepLX X O xs vs ∧ vs.length ≤ sizeLine := by
  obtain ⟨p, vs, h1, h2, h3, h4⟩ := un_ok S r e
  exact ⟨p, vs, h1, h2, h3, h4⟩
theorem bools_ok {O : Om} : ∀ {ds : List D} {bs : List Bool} {vs : List V}, boolsOf ds = some bs → RepLX X O ds vs → vs = bs.map V.bl
  | [], _, _, e, .nil => by cases e; rfl
  | .bl b :: ds, _, _, e, .cons r t => by
    simp only [boolsOf, Option.map_eq_some_iff] at e
    obtain ⟨bs, e, rfl⟩ := e
    rw [r.bl_inv, bools_ok e t]; rfl
  | .non :: _, _, _, e, _ => by cases e
  | .int _ :: _, _, _, e, _ => by cases e
  | .str _ :: _, _, _, e, _ => by cases e
  | .tup _ :: _, _, _, e, _ => by cases e
  | .lst _ :: _, _, _, e, _ => by cases e
  | .ks _ _ :: _, _, _, e, _ => by cases e
  | .ptr _ :: _, _, _, e, _ => by cases e
  | .glo _ :: _, _, _, e, _ => by cases e
theorem call_lenK : CallR X (.builtin "len") (fun xs H Q => ∃ a kvs, xs = [V.ref a] ∧ H a = some (.dK kvs) ∧ Q (.int kvs.length) H) := fun pn s sg H xs us Q I r ⟨a, kvs, e1, ha, q⟩ => by
  subst e1
  obtain ⟨u, rfl, ru⟩ := vals1 r
  obtain rfl : u = Value.ref a := ru
  exact d_len I (Rd.of ha) fun t s' I' => ⟨.int kvs.length, H, I', ⟨t, rfl⟩, q⟩
theorem bi_len : CallR X (.builtin "len") (biR X W .len) := CallR.weak (CallR.or call_len call_lenK) fun xs H Q ⟨sg, O, h, d, v, e, S, r, w⟩ => by
  subst e
  obtain ⟨z, e, q⟩ := w.of S
  have e : lenD h d = some z := e
  have LE := LINE_eq
  have seq : ∀ l ys, un h d = some (l, ys) → z = .int ys.length → ∃ x n, [v] = [x] ∧ LenV X.K x H n ∧ Q (.int n) H := fun l ys hu hz => by
    obtain ⟨p, vs, rfl, hq, rl, _⟩ := un_ok S r hu
    refine ⟨.ref p, vs.length, rfl, ?_, by rw [← rl.length]; exact q _ (by rw [hz]; exact .int _)⟩
    cases l with
    | true => exact .inl ⟨vs, hq, rfl⟩
    | false => exact .inr ⟨vs, hq, rfl⟩
  unfold lenD at e
  split at e
  · rename_i y _
    split at e
    · rename_i hy
      cases e
      rw [r.str_inv]
      exact .inl ⟨.str y, y.length, rfl, ⟨by omega, rfl⟩, q _ (.int _)⟩
    · cases e
  · rename_i n
    split at e
    · rename_i ys hn
      cases e
      exact .inl (seq true ys (by simp only [un, hn]) rfl)
    · rename_i kvs hn
      cases e
      obtain ⟨ws, hw, rp⟩ := S.cell _ _ hn
      cases r
      exact .inr ⟨_, ws, rfl, hw, q _ (by rw [rp.len]; exact .int _)⟩
    · cases e
  · split at e
    · rename_i l ys hv
      cases e
      exact .inl (seq l ys (valSeq_un hv) rfl)
    · cases e
theorem bi_all (hc : X.calm = true) : CallR X (.builtin "all") (biR X W .all) := CallR.weak (cr_all hc) fun xs H Q ⟨sg, O, h, d, v, e, S, r, w⟩ => by
  obtain ⟨z, e2, q⟩ := w.of S
  have e2 : (match un h d with
    | some (true, xs) => (boolsOf xs).map fun bs => D.bl (bs.all id)
    | _ => none) = some z := e2
  split at e2
  · rename_i ys hu
    simp only [Option.map_eq_some_iff] at e2
    obtain ⟨bs, eb, rfl⟩ := e2
    obtain ⟨p, vs, rfl, hq, rl, _⟩ := un_list S r hu
    rw [bools_ok eb rl] at hq
    exact ⟨p, bs, e, hq, q _ (.bl _)⟩
  · cases e2
theorem bi_any (hc : X.calm = true) : CallR X (.builtin "any") (biR X W .any) := CallR.weak (cr_any hc) fun xs H Q ⟨sg, O, h, d, v, e, S, r, w⟩ => by
  obtain ⟨z, e2, q⟩ := w.of S
  have e2 : (match un h d with
    | some (true, xs) => (boolsOf xs).map fun bs => D.bl (bs.any id)
    | _ => none) = some z := e2
  split at e2
  · rename_i ys hu
    simp only [Option.map_eq_some_iff] at e2
    obtain ⟨bs, eb, rfl⟩ := e2
    obtain ⟨p, vs, rfl, hq, rl, _⟩ := un_list S r hu
    rw [bools_ok eb rl] at hq
    exact ⟨p, bs, e, hq, q _ (.bl _)⟩
  · cases e2
theorem Post.ofk {sg : L2.St} {O : Om} {H : Hp} {h : Hs} {o : Option D} {z : D} {Q : VK} (w : Post X W sg O H (Res.of o h) (RepX X) Q) (e : o = some z) : Post X W sg O H (.ok z h) (RepX X) Q := by
  rw [e] at w; exact w
theorem bi_list : CallR X (.type "list") (biR X W .list) := CallR.weak call_list_of fun xs H Q ⟨sg, O, h, d, v, e, S, r, w⟩ => by
  obtain ⟨z, e2, q⟩ := w.of S
  have w1 := w.ofk e2
  have e2 : (match un h d with
    | some (_, xs) => some (D.lst xs)
    | _ => none) = some z := e2
  split at e2
  · rename_i l ys hu
    cases e2
    obtain ⟨p, vs, rfl, hq, rl, zl⟩ := un_ok S r hu
    refine ⟨p, vs, e, ?_, fun t ht => w1.new S ht _ (frz_lst S ht zl rl)⟩
    cases l with
    | true => exact .inl hq
    | false => exact .inr hq
  · cases e2
theorem bi_tuple : CallR X (.type "tuple") (biR X W .tuple) := CallR.weak call_tuple_of fun xs H Q ⟨sg, O, h, d, v, e, S, r, w⟩ => by
  obtain ⟨z, e2, q⟩ := w.of S
  have w1 := w.ofk e2
  have e2 : tupD h d = some z := e2
  have same : ∀ ys, un h d = some (false, ys) → z = d → ∃ p ys, xs = [V.ref p] ∧ ((SqL X.K H p ys ∧ ∀ l, H l = none → Q (.ref l) (upd H l (.tup ys))) ∨ (SqT X.K H p ys ∧ Q (.ref p) H)) := fun ys hu hz => by
    obtain ⟨p, vs, rfl, hq, rl, zl⟩ := un_ok S r hu
    exact ⟨p, vs, e, .inr ⟨hq, q _ (by rw [hz]; exact r)⟩⟩
  unfold tupD at e2
  split at e2
  · cases e2; exact same _ rfl rfl
  · cases e2; exact same _ rfl rfl
  · split at e2
    · rename_i ys hu
      cases e2
      obtain ⟨p, vs, rfl, hq, rl, zl⟩ := un_list S r hu
      exact ⟨p, vs, e, .inl ⟨hq, fun t ht => w1.new S ht _ (frz_tup S ht zl rl)⟩⟩
    · cases e2
theorem bi_int : CallR X (.type "int") (biR X W .int) := CallR.weak call_int1 fun xs H Q ⟨sg, O, h, d, v, e, S, r, w⟩ => by
  obtain ⟨z, e2, q⟩ := w.of S
  cases d with
  | int j => cases e2; rw [r.int_inv] at e; exact .inl ⟨j, e, q _ (.int _)⟩
  | bl j => cases e2; rw [r.bl_inv] at e; exact .inr ⟨j, e, q _ (.int _)⟩
  | _ => cases e2
theorem bi_bool : CallR X (.type "bool") (biR X W .bool) := CallR.weak call_bool1 fun xs H Q ⟨sg, O, h, d, v, e, S, r, w⟩ => by
  obtain ⟨z, e2, q⟩ := w.of S
  cases d with
  | int j => cases e2; rw [r.int_inv] at e; exact .inl ⟨j, e, q _ (.bl _)⟩
  | bl j => cases e2; rw [r.bl_inv] at e; exact .inr ⟨j, e, q _ (.bl _)⟩
  | _ => cases e2
theorem bi_abs : CallR X (.builtin "abs") (biR X W .abs) := CallR.weak call_abs fun xs H Q ⟨sg, O, h, d, v, e, S, r, w⟩ => by
  obtain ⟨z, e2, q⟩ := w.of S
  cases d with
  | int j => cases e2; rw [r.int_inv] at e; exact ⟨j, e, q _ (.int _)⟩
  | _ => cases e2
theorem ref_of {O : Om} {d : D} {v : V} (r : RepX X O d v) (h : isPtr d = true) : ∃ p, v = .ref p := by
  cases r <;> first | exact ⟨_, rfl⟩ | cases h
theorem bi_repr (hr : Room k X.A) (hg : X.A.guards = some []) : CallR X (.builtin "repr") (biR X W .repr) := fun pn s sg H xs us Q I rv ⟨sg', O, h, d, v, e, S, r, w⟩ => by
  obtain ⟨z, e2, q⟩ := w.of S
  have LE := LINE_eq
  have e2 : reprD h d = some z := e2
  unfold reprD at e2
  split at e2
  · rename_i y hd
    split at e2
    · rename_i hc
      cases e2
      simp only [Bool.and_eq_true, decide_eq_true_eq, Bool.not_eq_true'] at hc
      subst e
      obtain ⟨u, rfl, ru⟩ := vals1 rv
      obtain ⟨as, rd⟩ := Dp.reads I y v u (deep_ok S hd r) ru
      obtain ⟨p, rfl⟩ := ref_of r hc.1.1.1.1
      obtain rfl : u = Value.ref p := ru
      have un := hr.un
      exact repr_of_reads' rd hc.1.1.1.2 (fun z => by rw [hc.1.1.2] at z; cases z) hg (by omega) (fun b ob eb => eb) (fun h' u tk hk => ⟨.str _, H, I.kept (t' := tk) hk, ⟨_, rfl⟩, q _ (.str _)⟩) (by omega)
    · cases e2
  · cases e2
def nmBi : Bi → Str
  | .len => "len"
  | .all => "all"
  | .any => "any"
  | .tuple => "tuple"
  | .list => "list"
  | .int => "int"
  | .bool => "bool"
  | .repr => "repr"
  | .abs => "abs"
theorem sA_one (hs : starless e = true) (ha : PE X e (tE X W fa)) : PA X [e] (tA X W fun env h => (fa env h).bind fun d h => .ok [d] h) := sA_cons hs ha sA_nil
theorem sE_bi (c : XOk X W G k T) (f : Bi) (hg : Gl X (nmBi f)) (hm : X.mg (nmBi f) = none) (hs : starless e = true) (ha : PE X e (tE X W fa)) :
    PE X (.Call (.Name (nmBi f) p) [e] [] pos) (tE X W fun env h => (fa env h).bind fun d h => .of (biD f h d) h) := by
  have h1 := star_cons (env := X.env) hs []
  have go : ∀ sg H Q, tE X W (fun env h => (fa env h).bind fun d h => .of (biD f h d) h) sg H Q → tCB (biR X W f) (tA X W fun env h => (fa env h).bind fun d h => .ok [d] h) sg H Q := fun sg H Q ⟨O, env, h, eo, S, w⟩ =>
    ⟨O, env, h, eo, S, by
      have w : Post X W sg O H ((fa env h).bind fun d h => .of (biD f h d) h) (RepX X) Q := w
      show Post X W sg O H ((fa env h).bind fun d h => .ok [d] h) (RepLX X) _
      cases q : fa env h with
      | no => rw [q] at w; exact w
      | ex e' h' => rw [q] at w; exact w
      | ok d h1 =>
        rw [q] at w
        intro O1 vs H1 s1 S1 r1
        cases r1 with
        | cons r t => cases t; exact ⟨sg, O1, h1, d, _, rfl, S1, r, Post.weak w s1⟩⟩
  cases f with
  | len => exact PE.weak (pe_callB bi_len hg hm (by decide +kernel) (sA_one hs ha) (by decide) (by decide) h1 rfl) go
  | all => exact PE.weak (pe_callB (bi_all c.calm) hg hm (by decide +kernel) (sA_one hs ha) (by decide) (by decide) h1 rfl) go
  | any => exact PE.weak (pe_callB (bi_any c.calm) hg hm (by decide +kernel) (sA_one hs ha) (by decide) (by decide) h1 rfl) go
  | tuple => exact PE.weak (pe_callTy bi_tuple hg hm (by decide +kernel) (sA_one hs ha) (by decide) (by decide) h1 rfl) go
  | list => exact PE.weak (pe_callTy bi_list hg hm (by decide +kernel) (sA_one hs ha) (by decide) (by decide) h1 rfl) go
  | int => exact PE.weak (pe_callTy bi_int hg hm (by decide +kernel) (sA_one hs ha) (by decide) (by decide) h1 rfl) go
  | bool => exact PE.weak (pe_callTy bi_bool hg hm (by decide +kernel) (sA_one hs ha) (by decide) (by decide) h1 rfl) go
  | repr => exact PE.weak (pe_callB (bi_repr c.room c.grd) hg hm (by decide +kernel) (sA_one hs ha) (by decide) (by decide) h1 rfl) go
  | abs => exact PE.weak (pe_callB bi_abs hg hm (by decide +kernel) (sA_one hs ha) (by decide) (by decide) h1 rfl) go
end
end SI
end
section
set_option Elab.async false
set_option linter.all false
set_option maxRecDepth 100000
set_option maxHeartbeats 4000000
/-! SI11: isinstance, methods, dicts. -/
namespace SI
open PySem PySem.Spec PyProof.Rows L2

section
variable {X : Cx} {W : WX} {G : Wr} {k : Nat} {T : Tab} {a b e o i : Expr} {es : List Expr} {p pos apos : Pos} {fa fb fc : Nv → Hs → Res D} {fs : Nv → Hs → Res (List D)} {ft : Nv → Hs → Res Bool} {x m : Str}
/-- the value of a class's name -/
def TVal (X : Cx) (T : Tab) (t : Sum String Str) (v : V) (u : Value) : Prop := match t with
  | .inl n => v = .ty n ∧ u = .type n ∧ n ∈ bTys
  | .inr C => ∃ c, X.mg C = some (.ref c) ∧ v = .ref c ∧ u = .ref c ∧ C ∈ T.cls
theorem TVal.cls {t : Sum String Str} {v : V} {u : Value} (h : TVal X T t v u) : ClsV v u := by
  cases t with
  | inl n => obtain ⟨rfl, rfl, _⟩ := h; exact .ty n
  | inr C => obtain ⟨c, _, rfl, rfl, _⟩ := h; exact .own c
theorem one_base (wf : Wf X G k T) {B : String} (hB : B ∈ ["NoneType", "bool", "int", "str", "tuple", "list", "dict"]) {t : Sum String Str} {v : V} {u : Value} {r : Bool} (ht : TVal X T t v u)
    (e : (match t with
      | .inl n => kitB B n
      | .inr _ => some false) = some r) : PySem.W.kitOne X.K (.type B) u = some r := by
  cases t with
  | inl n => obtain ⟨_, rfl, _⟩ := ht; exact kit_ty e
  | inr C =>
    obtain ⟨c, hm, _, rfl, hc⟩ := ht
    cases e
    obtain ⟨c', hm', _, h⟩ := wf.clg C hc
    rw [hm] at hm'
    cases hm'
    exact h B hB
theorem sq_ty {H : Hp} {q : Addr} {vs : List V} (h : SqL X.K H q vs) : TyX X.K H (.ref q) (.type "list") := by
  rcases h with (h | ⟨ob, h⟩) | ⟨ob, h⟩
  · exact .base (.lst h)
  · exact .base (.frz h)
  · obtain ⟨_, _, h1, h2, _⟩ := h
    exact .kList h1 h2
theorem sqt_ty {H : Hp} {q : Addr} {vs : List V} (h : SqT X.K H q vs) : TyX X.K H (.ref q) (.type "tuple") := by
  rcases h with (h | ⟨ob, h⟩) | ⟨ob, h⟩
  · exact .base (.tup h)
  · exact .fTuple h
  · obtain ⟨_, _, h1, h2, _⟩ := h
    exact .kTuple h1 h2
theorem isOne_ok0 (wf : Wf X G k T) {O : Om} {h : Hs} {H : Hp} (S : SR X.K X.mg O h H) {d : D} {v : V} (r : RepX X O d v) {t0 : Sum String Str} {b0 : Bool} (e0 : isOne G h d t0 = some b0) (hx : ∀ C ns ds, d ≠ .exv C ns ds) :
    ∃ tv, TyX X.K H v tv ∧ ∀ t w u b, TVal X T t w u → isOne G h d t = some b → PySem.W.kitOne X.K tv u = some b := by
  cases r with
  | non => exact ⟨_, .base .non, fun t w u b ht e => one_base wf (by simp) ht (by cases t <;> exact e)⟩
  | bl z => exact ⟨_, .base (.bl z), fun t w u b ht e => one_base wf (by simp) ht (by cases t <;> exact e)⟩
  | int z => exact ⟨_, .base (.int z), fun t w u b ht e => one_base wf (by simp) ht (by cases t <;> exact e)⟩
  | str z => exact ⟨_, .base (.str z), fun t w u b ht e => one_base wf (by simp) ht (by cases t <;> exact e)⟩
  | tup q z rl => exact ⟨_, .base (.tup (S.sub _ _ q)), fun t w u b ht e => one_base wf (by simp) ht (by cases t <;> exact e)⟩
  | lst q z rl => exact ⟨_, .base (.lst (S.sub _ _ q)), fun t w u b ht e => one_base wf (by simp) ht (by cases t <;> exact e)⟩
  | ksl q z rl => exact ⟨_, sq_ty (sqL_up S.sub q), fun t w u b ht e => one_base wf (B := "list") (by simp) ht (by cases t <;> exact e)⟩
  | kst q z rl => exact ⟨_, sqt_ty (sqT_up S.sub q), fun t w u b ht e => one_base wf (B := "tuple") (by simp) ht (by cases t <;> exact e)⟩
  | @ptr n hn =>
    cases hc : h[n]? with
    | none => simp only [isOne, hc] at e0; cases e0
    | some cell =>
      have co := S.cell n cell hc
      cases cell with
      | lst xs =>
        obtain ⟨vs, hv, _, _⟩ := co
        exact ⟨_, .base (.lst hv), fun t w u b ht e => one_base wf (by simp) ht (by simp only [isOne, hc] at e; cases t <;> exact e)⟩
      | dK xs =>
        obtain ⟨vs, hv, _⟩ := co
        exact ⟨_, .base (.dK hv), fun t w u b ht e => one_base wf (by simp) ht (by simp only [isOne, hc] at e; cases t <;> exact e)⟩
      | dT xs =>
        obtain ⟨vs, hv, _⟩ := co
        exact ⟨_, .base (.dT hv), fun t w u b ht e => one_base wf (by simp) ht (by simp only [isOne, hc] at e; cases t <;> exact e)⟩
      | ins C fs =>
        obtain ⟨cl, dx, ws, hm, hv, _⟩ := co
        have gc : G.cls C = true := by
          simp only [isOne, hc] at e0
          cases t0 with
          | inl n =>
            simp only at e0
            split at e0
            · rename_i hh
              simp only [Bool.and_eq_true] at hh
              exact hh.2
            · cases e0
          | inr n =>
            simp only at e0
            split at e0
            · rename_i hh; exact hh
            · cases e0
        obtain ⟨q, _, kb⟩ := wf.cls C gc cl hm
        refine ⟨_, .base (.ins hv q.cl q.ha q.hn q.ht q.hm), fun t w u b ht e => ?_⟩
        simp only [isOne, hc] at e
        cases t with
        | inl n =>
          obtain ⟨_, rfl, hb⟩ := ht
          simp only at e
          split at e
          · cases e; exact kb n hb
          · cases e
        | inr C2 =>
          obtain ⟨c2, hm2, _, rfl, _⟩ := ht
          simp only [gc, if_true] at e
          exact wf.sub C C2 b e cl c2 hm hm2
      | dead => simp only [isOne, hc] at e0; cases e0
  | glo => cases e0
  | exv => exact absurd rfl (hx _ _ _)
  | exz => exact absurd rfl (hx _ _ _)
theorem isOne_ok (wf : Wf X G k T) {O : Om} {h : Hs} {H : Hp} (S : SR X.K X.mg O h H) {d : D} {v : V} (r : RepX X O d v) {t0 : Sum String Str} {b0 : Bool} (e0 : isOne G h d t0 = some b0) :
    ∃ tv, TyZ X.K H v tv ∧ ∀ t w u b, TVal X T t w u → isOne G h d t = some b → PySem.W.kitOne X.K tv u = some b := by
  by_cases hx : ∃ C ns ds, d = .exv C ns ds
  · obtain ⟨C, ns, ds, rfl⟩ := hx
    have gc : G.exc C = true := by
      simp only [isOne] at e0
      split at e0
      · assumption
      · cases e0
    have fin : ∀ cl, X.mg C = some (.ref cl) → ∀ t w u b, TVal X T t w u → isOne G h (.exv C ns ds) t = some b → PySem.W.kitOne X.K (.ref cl) u = some b := fun cl hm t w u b ht e => by
      simp only [isOne, gc, if_true] at e
      cases t with
      | inl n =>
        obtain ⟨_, rfl, hb⟩ := ht
        simp only at e
        split at e
        · rename_i hn
          cases e
          rw [hn]
          exact (wf.exc C gc cl hm).2.2.2
        · cases e
      | inr C2 =>
        obtain ⟨c2, hm2, _, rfl, _⟩ := ht
        exact wf.sub C C2 b e cl c2 hm hm2
    cases r with
    | @exv p dx cl _ _ _ vs hm h2 h3 rl hl => exact ⟨_, .d (S.sub _ _ h2) (S.sub _ _ h3) (wf.exc C gc cl hm).2.1, fin cl hm⟩
    | @exz p cl _ hm h2 => exact ⟨_, .n (S.sub _ _ h2) (wf.exc C gc cl hm).2.1, fin cl hm⟩
  · obtain ⟨tv, h1, h2⟩ := isOne_ok0 wf S r e0 fun C ns ds z => hx ⟨C, ns, ds, z⟩
    exact ⟨tv, .x h1, h2⟩
theorem isAny_ok {h : Hs} {d : D} {tv : Value} {b : Bool} (K1 : ∀ t w u b, TVal X T t w u → isOne G h d t = some b → PySem.W.kitOne X.K tv u = some b) :
    ∀ {ts : List (Sum String Str)} {qs : List (V × Value)}, Paired (fun t (q : V × Value) => TVal X T t q.1 q.2) ts qs → isAny G h d ts = some b → PySem.W.kitAny X.K tv (qs.map (·.2)) = some b
  | [], _, .nil, e => by
    cases e
    exact kitAny_nil
  | t :: ts, _, .cons (b := q) h1 h2, e => by
    unfold isAny at e
    split at e
    · rename_i q1
      cases e
      exact kitAny_cons (K1 t q.1 q.2 true h1 q1) (fun z => by cases z) fun _ => rfl
    · rename_i q1
      exact kitAny_cons (K1 t q.1 q.2 false h1 q1) (fun _ => isAny_ok K1 h2 e) fun z => by cases z
    · cases e
/-- the written name of a class -/
def tName : Sum String Str → Str
  | .inl n => .ofString n
  | .inr C => C
structure TOk (X : Cx) (T : Tab) (t : Sum String Str) : Prop where
  gl : Gl X (tName t)
  ok : match t with
    | .inl n => n ∈ bTys ∧ X.mg (tName t) = none
    | .inr C => C ∈ T.cls ∧ (C == ("__debug__" : Str)) = false
theorem boot_b {n : String} (h : n ∈ bTys) : bootBuiltins (Str.ofString n) = some (.type n) ∧ Str.ofString n ≠ "__name__" ∧ (Str.ofString n == ("__debug__" : Str)) = false := by
  simp only [bTys, List.mem_cons, List.not_mem_nil, or_false] at h
  rcases h with rfl | rfl | rfl | rfl | rfl | rfl | rfl <;> exact ⟨by decide +kernel, by decide +kernel, by decide +kernel⟩
theorem sC_name (wf : Wf X G k T) {t : Sum String Str} (h : TOk X T t) : ∃ v u, TVal X T t v u ∧ ∀ pos, PE X (.Name (tName t) pos) (tC v) := by
  cases t with
  | inl n =>
    obtain ⟨h1, h2⟩ := h.ok
    obtain ⟨b1, b2, b3⟩ := boot_b h1
    exact ⟨.ty n, .type n, ⟨rfl, rfl, h1⟩, fun pos => pe_bltn h.gl h2 b1 rfl b2 b3⟩
  | inr C =>
    obtain ⟨h1, h2⟩ := h.ok
    obtain ⟨c, hm, hk, _⟩ := wf.clg C h1
    exact ⟨.ref c, .ref c, ⟨c, hm, rfl, rfl, h1⟩, fun pos => pe_glob h.gl hm rfl h2⟩
/-- isinstance(e, T) -/
theorem sE_isi1 (c : XOk X W G k T) {t : Sum String Str} {p2 : Pos} (ht : TOk X T t) (hg : Gl X "isinstance") (hm : X.mg "isinstance" = none) (hs : starless e = true) (ha : PE X e (tE X W fa)) :
    PE X (.Call (.Name "isinstance" p) [e, .Name (tName t) p2] [] pos) (tE X W fun env h => (fa env h).bind fun d h => .of ((isAny G h d [t]).map .bl) h) := by
  obtain ⟨v, u, tv, pn⟩ := sC_name c.wf ht
  refine PE.weak (pe_callB call_isiZ hg hm (by decide +kernel) (pa_cons ha (pa_cons (pn p2) pa_nil (by rfl)) (star_cons hs _ _)) (by decide) (by decide) (star_cons hs _ _) (by rfl)) fun sg H Q ⟨O, env, h, eo, S, w⟩ => ⟨O, env, h, eo, S, w.bind fun d h1 O1 y H1 _ s1 S1 r1 p1 => ?_⟩
  obtain ⟨z, e, q⟩ := p1.of S1
  simp only [Option.map_eq_some_iff] at e
  obtain ⟨b, e, rfl⟩ := e
  have e1 : isOne G h1 d t = some b := by
    unfold isAny at e
    split at e
    · rename_i q1; cases e; exact q1
    · rename_i q1; cases e; exact q1
    · cases e
  obtain ⟨ty, ht1, K1⟩ := isOne_ok c.wf S1 r1 e1
  exact ⟨y, v, ty, u, b, rfl, tv.cls, ht1, K1 t v u b tv e1, q _ (.bl b)⟩
/-- the receiver of a method of a list -/
theorem lst_ty {H : Hp} {q : Addr} {vs : List V} (h : H q = some (.lst vs)) : tyV X.K "list" (.ref q) H := .inl ⟨rfl, vs, .of h⟩
theorem meOk_ptr {mm : Me} {h : Hs} {d : D} (e : meOk mm h d = true) : ∃ n c, d = .ptr n ∧ h[n]? = some c ∧ kindC mm c = true := by
  cases d with
  | ptr n =>
    unfold meOk at e
    cases hc : h[n]? with
    | none => simp only [hc] at e; cases e
    | some c => simp only [hc] at e; exact ⟨n, c, rfl, hc, e⟩
  | _ => cases e
theorem meD_inv {sg : L2.St} {O : Om} {H : Hp} {mm : Me} {h : Hs} {n : Nat} {ds : List D} {Q : VK} (w : Post X W sg O H (meD mm h (.ptr n) ds) (RepX X) Q) :
    ∃ c v c', h[n]? = some c ∧ meC mm c ds = some (v, c') ∧ Post X W sg O H (.ok v (h.set n c')) (RepX X) Q := by
  unfold meD at w
  cases hc : h[n]? with
  | none => simp only [hc] at w; exact (show False from w).elim
  | some c =>
    simp only [hc] at w
    cases hm : meC mm c ds with
    | none => simp only [hm] at w; exact (show False from w).elim
    | some q => simp only [hm] at w; exact ⟨c, q.1, q.2, rfl, hm, w⟩
theorem isLst_inv {c : Cell} (h : isLstC c = true) : ∃ xs, c = .lst xs := by cases c <;> first | exact ⟨_, rfl⟩ | cases h
/-- the list's own methods: append, extend -/
theorem sM_list {mm : Me} {r : V → List V → Hp → VK → Prop} {nm : Str} {id : String} (hk0 : ∀ c, kindC mm c = isLstC c) (slot : Slot "list" nm id) (hty : typeOf (.builtin id) = pure (.type "method_descriptor")) (mt : MtM X id r)
    (hr : ∀ (sg : L2.St) (O : Om) (h : Hs) (H : Hp) (n : Nat) (xs ds : List D) (us : List V) (v : D) (c' : Cell) (Q : VK), SR X.K X.mg O h H → h[n]? = some (.lst xs) → RepLX X O ds us → meC mm (.lst xs) ds = some (v, c') → Post X W sg O H (.ok v (h.set n c')) (RepX X) Q → r (.ref (O.φ n)) us H Q)
    (hkd : ∀ c ds v c', meC mm c ds = some (v, c') → isLstC c = true)
    (hb : superless o = true) (hp : (apos.endLine == pos.line) = true) (hs : starless e = true) (ho : PE X o (tE X W fa)) (he : PE X e (tE X W fb)) :
    PE X (.Call (.Attribute o nm apos) [e] [] pos) (tE X W fun env h => (fa env h).bind fun d h => if meOk mm h d then ((fb env h).bind fun y h => Res.ok [y] h).bind fun ds h => meD mm h d ds else .no) := by
  refine PE.weak (pe_bm PySem.F.plainAttrs_list slot hty mt ho (sA_one hs he) (base_plain hb _ X.env _) ?_ hp (star_cons hs _ _) (by rfl)) fun sg H Q ⟨O, env, h, eo, S, w⟩ => ⟨O, env, h, eo, S, w.bind fun d h1 O1 v H1 _ s1 S1 r1 p1 => ?_⟩
  · rw [star_cons hs]; rfl
  by_cases hk : meOk mm h1 d = true
  · rw [if_pos hk] at p1
    obtain ⟨n, cl, rfl, hn, hkc⟩ := meOk_ptr hk
    rw [hk0] at hkc
    obtain ⟨xs0, rfl⟩ := isLst_inv hkc
    obtain ⟨hlt, vs, hv, _, _⟩ := S1.at hn
    cases r1
    refine ⟨lst_ty hv, O1, env, h1, eo.stp s1, S1, p1.bind fun ds h2 O2 us H2 er s2 S2 r2 p2 => ?_⟩
    obtain ⟨c, v, c', hc, hm, p3⟩ := meD_inv p2
    obtain ⟨xs, rfl⟩ := isLst_inv (hkd _ _ _ _ hm)
    rw [← s2.φ n hlt]
    exact hr sg O2 h2 H2 n xs ds us v c' Q S2 hc r2 hm p3
  · rw [if_neg hk] at p1; exact (show False from p1).elim
theorem app_inv {c : Cell} {ds : List D} {v : D} {c' : Cell} (e : appC c ds = some (v, c')) : ∃ xs y, c = .lst xs ∧ ds = [y] ∧ xs.length < LINE ∧ v = .non ∧ c' = .lst (xs ++ [y]) := by
  unfold appC at e
  split at e
  · split at e
    · cases e; exact ⟨_, _, rfl, rfl, by assumption, rfl, rfl⟩
    · cases e
  · cases e
theorem ext_inv {c : Cell} {ds : List D} {v : D} {c' : Cell} (e : extC c ds = some (v, c')) : ∃ xs ys, c = .lst xs ∧ ds = [.lst ys] ∧ xs.length + ys.length ≤ LINE ∧ v = .non ∧ c' = .lst (xs ++ ys) := by
  unfold extC at e
  split at e
  · split at e
    · cases e; exact ⟨_, _, rfl, rfl, by assumption, rfl, rfl⟩
    · cases e
  · cases e
theorem sM_append (hb : superless o = true) (hp : (apos.endLine == pos.line) = true) (hs : starless e = true) (ho : PE X o (tE X W fa)) (he : PE X e (tE X W fb)) :
    PE X (.Call (.Attribute o "append" apos) [e] [] pos) (tE X W fun env h => (fa env h).bind fun d h => if meOk .append h d then ((fb env h).bind fun y h => Res.ok [y] h).bind fun ds h => meD .append h d ds else .no) := by
  refine sM_list (fun _ => rfl) PySem.F.slot_list_append (by rfl) mt_append (fun sg O h H n xs ds us v c' Q S hn rl hm w => ?_) (fun c ds v c' hm => ?_) hb hp hs ho he
  · obtain ⟨xs', y, e1, rfl, hz, rfl, rfl⟩ := app_inv hm
    cases e1
    have LE := LINE_eq
    obtain ⟨hlt, vs, hv, z, rx⟩ := S.at hn
    cases rl with
    | @cons _ u _ _ ry t =>
      cases t
      have z : vs.length < sizeLine := by rw [← rx.length]; omega
      obtain ⟨s3, S3⟩ := S.put (o := .lst (vs ++ [u])) hn (by simp) (c := .lst (xs ++ [y])) ⟨_, upd_same, by rw [List.length_append]; exact z, rx.app (.cons ry .nil)⟩
      exact ⟨_, vs, u, rfl, rfl, hv, z, w _ _ _ s3 S3 .non⟩
  · obtain ⟨_, _, rfl, _⟩ := app_inv hm; rfl
theorem sM_extend (hb : superless o = true) (hp : (apos.endLine == pos.line) = true) (hs : starless e = true) (ho : PE X o (tE X W fa)) (he : PE X e (tE X W fb)) :
    PE X (.Call (.Attribute o "extend" apos) [e] [] pos) (tE X W fun env h => (fa env h).bind fun d h => if meOk .extend h d then ((fb env h).bind fun y h => Res.ok [y] h).bind fun ds h => meD .extend h d ds else .no) := by
  refine sM_list (fun _ => rfl) PySem.F.slot_list_extend (by rfl) mt_extend (fun sg O h H n xs ds us v c' Q S hn rl hm w => ?_) (fun c ds v c' hm => ?_) hb hp hs ho he
  · obtain ⟨xs', ys, e1, rfl, hz, rfl, rfl⟩ := ext_inv hm
    cases e1
    have LE := LINE_eq
    obtain ⟨hlt, vs, hv, z, rx⟩ := S.at hn
    cases rl with
    | @cons _ u _ _ ry t =>
      cases t
      cases ry with
      | @lst q _ ws hq zq rq =>
        have z : vs.length + ws.length ≤ sizeLine := by rw [← rx.length, ← rq.length]; omega
        obtain ⟨s3, S3⟩ := S.put (o := .lst (vs ++ ws)) hn (by simp) (c := .lst (xs ++ ys)) ⟨_, upd_same, by rw [List.length_append]; exact z, rx.app rq⟩
        exact ⟨_, q, vs, ws, rfl, rfl, hv, S.sub _ _ hq, z, w _ _ _ s3 S3 .non⟩
  · obtain ⟨_, _, rfl, _⟩ := ext_inv hm; rfl
end
end SI
end
section
set_option Elab.async false
set_option linter.all false
set_option maxRecDepth 100000
set_option maxHeartbeats 4000000
/-! SIX0: enumerate of a tuple; d.pop(k) of a dict with tuple keys. -/
namespace SI
open PySem PySem.Spec PyProof.Rows L2
section
open PySem.Sem (wp)
theorem meets_enum1 {v : Value} {o : Obj} {H : Heap → Prop} (B : Begins v o H) :
    Meets (Builtin.«enumerate.__new__» ⟨[.type "enumerate", v], []⟩) (fun _ R s => H s.heap ∧
      R (.ok (.ret (.ref (s.heap.push o).objs.size))) { s with heap := (s.heap.push o).push { cls := .type "enumerate", data := .fields #[.none, .bool false, .ref s.heap.objs.size, rawInt 0, .none, .none] } }) :=
  .of_wp fun prog w A R s h => by
    obtain ⟨hp, g, d, tk, os⟩ := s; obtain ⟨h1, h⟩ := h
    have hsub := sub_enumerate
    have q1 : ∀ {A' : Around} {E : Value → Shared → Prop} {Q : Value → Shared → Prop}, Q (.ref hp.objs.size) ⟨hp.push o, g, d, tk, os⟩ → wpAny (model prog w) A' (pyIter v) Q E ⟨hp, g, d, tk, os⟩ :=
      fun q => B.iter prog w _ _ ⟨hp, g, d, tk, os⟩ _ h1 q
    wp_walk using q1
    refine wpAny_stack_any fun st => wpAny_pure ?_
    split
    · rename_i c _ _ _ _ _
      cases (c == Value.type "enumerate")
      · wp_walk using q1
        exact ⟨_, rfl, h⟩
      · wp_walk using q1
        exact ⟨_, rfl, h⟩
    · wp_walk using q1
      exact ⟨_, rfl, h⟩
variable {prog : Program} {w : World} {A : Around} {E : Value → Shared → Prop} {s : Shared}
theorem call_enum1 {v : Value} {o : Obj} {H : Heap → Prop} {Q : Value → Shared → Prop} (B : Begins v o H) (h1 : H s.heap)
    (h : ∀ h', IsEnum h' (s.heap.objs.size + 1) s.heap.objs.size 0 .none → h'.get? s.heap.objs.size = some o → h'.objs.size = s.heap.objs.size + 2 →
      (∀ b o, s.heap.get? b = some o → h'.get? b = some o) → Q (.ref (s.heap.objs.size + 1)) { s with heap := h' }) :
    wpAny (model prog w) A (call (.type "enumerate") [v]) Q E s := by
  refine callType_new F.called_enumerate (by decide) (F.typeCall_enumerate_1 _) (F.newCall_enumerate_1 _) (fun obj => F.args_object_init_2 obj _) F.entry_enumerate_new
    (meets_enum1 B) ⟨h1, ?_⟩
  have hz : (s.heap.push o).objs.size = s.heap.objs.size + 1 := Heap.size_push ..
  show _ ∧ _
  rw [hz]
  have he : IsEnum ((s.heap.push o).push { cls := .type "enumerate", data := .fields #[.none, .bool false, .ref s.heap.objs.size, rawInt 0, .none, .none] }) (s.heap.objs.size + 1) s.heap.objs.size 0 .none := by
    have := Heap.get?_push_size (s.heap.push o) (o := { cls := .type "enumerate", data := .fields #[.none, .bool false, .ref s.heap.objs.size, rawInt 0, .none, .none] }) rfl
    rw [hz] at this; exact this
  refine ⟨⟨_, he, rfl⟩, h _ he (Heap.get?_push_of_some _ (Heap.get?_push_size _ B.free)) (by rw [Heap.size_push, hz]) fun b o x => Heap.get?_push_of_some _ (Heap.get?_push_of_some _ x)⟩
end
/-- the tuple at a as it stands at each turn, each item in a new pair -/
def IteT (K : PySem.W.Frag) (a : Addr) : It :=
  ⟨fun i H => ∃ (xs : List V) (x : V), SqT K H a xs ∧ xs[i]? = some x, fun i H v H' => ∃ T x, v = .ref T ∧ H T = none ∧ H' = upd H T (.tup [.int (i : Nat), x]) ∧ ∀ xs, SqT K H a xs → xs[i]? = some x, fun i H => ∃ xs : List V, SqT K H a xs ∧ xs.length ≤ i⟩
theorem turn_enumT {P : Program} {w : World} {K : PySem.W.Frag} {elts : List Expr} {kk : Nat} {tpos : Pos} (a e it : Addr) :
    Turn P w K (.Tuple elts kk tpos) (IteT K a) [e, it] e (fun i h => (∃ old, IsEnum h e it ((i : Nat) : Int) old) ∧ h.IsTupleIter it a i ∧ e ≠ it) where
  mem := by simp
  obj := fun i h st b hb => by
    obtain ⟨⟨old, he⟩, ⟨o, ho, hc, hd⟩, _⟩ := st
    have e' : b = e ∨ b = it := by simpa using hb
    rcases e' with z | z
    · rw [z]; exact ⟨_, he, fun v q => nomatch q⟩
    · rw [z]; exact ⟨o, ho, fun v q => by rw [hd] at q; cases q⟩
  keep := fun i h h' st k => let ⟨⟨old, he⟩, hi, hne⟩ := st; ⟨⟨old, k e (by simp) _ he⟩, hi.at fun o q => k it (by simp) o q, hne⟩
  item := by
    intro X hP hw hK hc i pins s σ H E I hf st hg
    subst hP hw hK
    obtain ⟨⟨old, he⟩, hit, hne⟩ := st
    obtain ⟨xs, x, hq, hx⟩ := hg
    obtain ⟨its, rv, p, hz⟩ := I.tuple hq
    obtain ⟨u, hu, ru⟩ := rv.get hx
    have hel : e < s.heap.objs.size := Heap.lt_size he
    have hil : it < s.heap.objs.size := by obtain ⟨_, q, _⟩ := hit; exact Heap.lt_size q
    have hai : a ≠ it := fun z => by
      obtain ⟨o, ho, hc1, _⟩ := id p
      obtain ⟨o2, ho2, hc2, _⟩ := id hit
      rw [z, ho2] at ho
      cases ho
      rw [hc1] at hc2
      exact absurd hc2 (by simp)
    have hae : e ≠ a := fun z => by
      obtain ⟨o, ho, hc1, _⟩ := id p
      rw [← z, show s.heap.get? e = _ from he] at ho
      cases ho
      exact absurd hc1 (by simp)
    have D := Draws.tuple (prog := X.prog) (w := X.w) (A := X.A.in1) (show X.A.in1.handled = none from I.ok.hd hc) it a hai its.toArray
    have hi : i < its.toArray.size := by
      have := (List.getElem?_eq_some_iff.mp hu).1
      simpa using this
    refine wpAny_pyNext_enum_itemC D he ⟨hit, show s.heap.IsTuple a its.toArray from p⟩ hi hne (by simp [hne, hae]) fun x' h' tk hP ho hit' hT hsz hk => ?_
    have ex : x' = u := by
      have hP : its.toArray[i]? = some x' := hP
      have hu' : its.toArray[i]? = some u := by simpa using hu
      rw [hP] at hu'
      exact Option.some.inj hu'
    subst ex
    refine ⟨_, rfl, wpAny_letOwnedTupleGo_enum (s := { s with heap := h', toks := tk + 1 }) ho fun h'' he' sb => ?_⟩
    have hT2 : h''.get? s.heap.objs.size = some { cls := .type "tuple", data := .seq #[.int i tk, x'] } := (sb.2 _ (Nat.ne_of_gt hel)).trans hT
    have new : ObjOk X.prog X.w (upd H s.heap.objs.size (.tup [.int (i : Nat), x])) h'' s.heap.objs.size (.tup [.int (i : Nat), x]) :=
      ⟨by show 2 ≤ sizeLine; decide, [.int i tk, x'], .cons ⟨_, rfl⟩ (.cons ru .nil), ⟨_, hT2, rfl, _, rfl⟩⟩
    have I1 : Inv X pins σ (upd H s.heap.objs.size (.tup [.int (i : Nat), x])) { s with heap := h'', toks := tk + 1 } :=
      I.turnedNew (ch := [e, it]) (fun b ob hb q => (sb.2 b (fun z => hb (by simp [z]))).trans (hk b ob (fun z => hb (by simp [z])) (fun z => hb (by simp [z])) q)) hf (Nat.le_refl _) new
    refine ⟨.ref s.heap.objs.size, _, I1, rfl, ⟨_, x, rfl, I.hok.fresh (Nat.le_refl _), rfl, fun ys hy => by rw [I.tuple_inj hy hq]; exact hx⟩, ⟨⟨x', ?_⟩, hit'.1.at fun o q => (sb.2 it (Ne.symm hne)).trans q, hne⟩, fun b hb => ?_⟩
    · have e1 : ((i + 1 : Nat) : Int) = (i : Int) + 1 := by omega
      rw [e1]; exact he'
    · have hb' : b < s.heap.objs.size := by
        have e' : b = e ∨ b = it := by simpa using hb
        rcases e' with z | z
        · rw [z]; exact hel
        · rw [z]; exact hil
      rw [upd_ne (Nat.ne_of_lt hb')]
      exact (hf b hb).1
  done := by
    intro X hP hw hK hc i pins s σ H E I hf st hg
    subst hP hw hK
    obtain ⟨⟨old, he⟩, hit, hne⟩ := st
    obtain ⟨xs, hq, hx⟩ := hg
    obtain ⟨its, rv, p, hz⟩ := I.tuple hq
    obtain ⟨f0, f1, f2, f3, f4, f5⟩ := hf it (by simp)
    have hl := rv.length
    have hT : s.TypeIs (.ref e) "enumerate" := ⟨_, he, rfl⟩
    unfold pyNext
    refine wpAny_bind (wpAny_attempt (wpAny_callSpecial?_slot (name := Str.ofString "__next__") hT F.slot_enumerate_next
      (wpAny_call_entry F.slot_enumerate_next hT F.entry_enumerate_next ?_ (F.args_enumerate_next_1 _))))
    show wpAny _ _ (field (.ref e) 2 >>= _) _ _ _
    refine wpAny_bind (wpAny_field he rfl (x := .ref it) rfl ?_)
    refine wpAny_bind (wpAny_nextOf_tuple_end (A := X.A.in1) (show X.A.in1.handled = none from I.ok.hd hc) hit (show s.heap.IsTuple a its.toArray from p) (by simp; omega) fun h' x he' hx' => ?_)
    obtain ⟨o, ho, hc'⟩ := hx'
    refine wpAny_bind (wpAny_isInstance (T := "StopIteration") (b := true) ⟨o, ho, hc'⟩ isSubtype_stop ?_)
    exact wpAny_pure ⟨rfl, I.turned (t' := s.toks) (fun b o hb q => he' b o hb q) f0 f1 f3 f4 f5⟩
  self := fun A i s Q E st h => let ⟨⟨_, he⟩, _⟩ := st; wpAny_pyIter_enum he h
theorem walk_enumT {K : PySem.W.Frag} {a : Addr} {xs : List V} : Walk (IteT K a) xs.length (fun H => SqT K H a xs) (YPair (fun i => some (.int (i : Nat))) (fun i => xs[i]?)) := by
  refine ⟨fun i _ hi q => ⟨xs, xs[i], q, by simp [hi]⟩, fun _ q => ⟨xs, q, Nat.le_refl _⟩, fun i H v H' _ q y => ?_⟩
  obtain ⟨T, x, h1, h2, h3, h4⟩ := y
  exact ⟨T, .int (i : Nat), x, h1, h2, h3, rfl, h4 xs q⟩
/-- enumerate(list or tuple) -/
def iEnumA (K : PySem.W.Frag) (ta : TA) : TI := fun σ H R => ta σ H fun vs H1 => ∃ a xs, vs = [.ref a] ∧ ((SqL K H1 a xs ∧ R (Ite K a) H1) ∨ (SqT K H1 a xs ∧ R (IteT K a) H1))
theorem pi_enumA {X : Cx} {e : Expr} {ta : TA} {p pos tpos : Pos} {elts : List Expr} {kk : Nat} (hg : Gl X "enumerate") (hm : X.mg "enumerate" = none) (ha : PA X [e] ta) (hs : starEach [e] X.env = [(false, eval e X.env)] := by rfl) :
    PI X (.Tuple elts kk tpos) (.Call (.Name "enumerate" p) [e] [] pos) (iEnumA X.K ta) := by
  refine ⟨fun pins s σ H R I h => ?_⟩
  refine Call_ (ld_blt I hg hm boot_enumerate (PyProof.Rows.callWith_type1 (thn (ha.run pos pins s σ H _ I h) fun us s1 ⟨vs, H1, I1, r1, q1⟩ => ?_) hs rfl))
  obtain ⟨a, xs, ex, q⟩ := q1
  subst ex
  cases r1 with
  | cons r rr =>
    cases rr
    cases r
    have fin : ∀ (h' : Heap) (hk : ∀ b o, s1.heap.get? b = some o → h'.get? b = some o), Inv X pins σ H1 { s1 with heap := h' } ∧ ∀ b ∈ [s1.heap.objs.size + 1, s1.heap.objs.size], FpOk X pins H1 b := fun h' hk => by
      refine ⟨I1.kept (t' := s1.toks) hk, fun b hb => ?_⟩
      have e' : b = s1.heap.objs.size + 1 ∨ b = s1.heap.objs.size := by simpa using hb
      have hle : s1.heap.objs.size ≤ b := by
        rcases e' with z | z
        · rw [z]; exact Nat.le_add_right _ _
        · rw [z]; exact Nat.le_refl _
      exact I1.fpOk hle (I1.hok.fresh hle)
    rcases q with ⟨hq, q⟩ | ⟨hq, q⟩
    · obtain ⟨its, rv, p', hz⟩ := I1.list hq
      refine call_enumerate_list p'.isList fun h' he hit hsz hk => wpAny_pyIter_enum he ?_
      obtain ⟨I2, fp⟩ := fin h' hk
      exact ⟨s1.heap.objs.size + 1, [s1.heap.objs.size + 1, s1.heap.objs.size], _, _, H1, rfl, I2, turn_enum a (s1.heap.objs.size + 1) s1.heap.objs.size, ⟨⟨.none, he⟩, hit, Nat.succ_ne_self _⟩, fp, q⟩
    · obtain ⟨its, rv, p', hz⟩ := I1.tuple hq
      refine call_enum1 (begins_tuple a its.toArray) (show s1.heap.IsTuple a its.toArray from p') fun h' he hit hsz hk => wpAny_pyIter_enum he ?_
      obtain ⟨I2, fp⟩ := fin h' hk
      exact ⟨s1.heap.objs.size + 1, [s1.heap.objs.size + 1, s1.heap.objs.size], _, _, H1, rfl, I2, turn_enumT a (s1.heap.objs.size + 1) s1.heap.objs.size, ⟨⟨.none, he⟩, ⟨_, hit, rfl, rfl⟩, Nat.succ_ne_self _⟩, fp, q⟩
/-! ### d.pop(k), the keys tuples -/
section
variable {Kk : Type} [DecidableEq Kk] {prog : Program} {w : World} {knd : HeapKind prog w Kk} {A : Around} {E : Value → Shared → Prop} {s : Shared}
theorem meetsPop1 {d b : Addr} {k : Kk} (hd : (d == sysModules) = false) :
    MeetsIn prog w (Builtin.«dict.pop» ⟨[.ref d, .ref b], []⟩) (fun A R s => ∃ xs p, knd.room A.in1 ∧ knd.is s.heap k b ∧ s.heap.DictOfH knd d xs ∧ xs.length ≤ sizeLine ∧ atKey xs k = some p ∧
      ∀ h' tk, h'.DictOfH knd d (DT.dropH xs k) → Heap.SameBut d s.heap h' → R (.ok (.ret p.2)) { s with heap := h', toks := tk }) :=
  .of_wp fun A R s ⟨xs, p0, hu, hkey, hm, hsz, hp0, hsome⟩ => by
    obtain ⟨o, es, ep, ho, hc, hdat, he, his, hn⟩ := id hm
    have hes : es.size = xs.length := size_of_entries he
    have hpart : (keyPart (Value.ref b)).isSome = false := rfl
    unfold Builtin.«dict.pop»
    refine wpAny_bind ?_
    unfold Builtin.Dict.keyAndDefault
    refine wpAny_bind (wpAny_notOrdered_dict hm.typeIs ?_)
    show wpAny _ _ (pure (d, Value.ref b, none)) _ _ s
    refine wpAny_pure ?_
    simp only [hpart, Bool.false_eq_true, if_false]
    refine wpAny_bind (wpAny_dictEntries ho hdat (wpAny_bind (wpAny_pure ?_)))
    cases hem : es.isEmpty with
    | true =>
      have h0 : xs = [] := by
        have z : es.size = 0 := by simpa using hem
        exact List.length_eq_zero_iff.mp (by omega)
      rw [h0] at hp0
      cases hp0
    | false =>
      simp only [Bool.false_eq_true, if_false]
      refine wpAny_bind (DT.takeH hu hkey hm hsz (fun hno => ?_) fun p e hp hev h' hm' hs' => ?_)
      · rw [hp0] at hno; cases hno
      · rw [hp0] at hp
        cases hp
        simp only [Option.isNone_some, Bool.false_eq_true, if_false]
        exact wpAny_bind (wpAny_letGo (wpAny_pure ⟨e.val, rfl, by rw [hev]; exact hsome h' _ hm' hs'⟩))
end
section
variable {X : Cx} {pn : List (Addr × Obj)} {sg : L2.St} {H : Hp} {s : Shared}
theorem d_popT (hu : X.A.units + 1 < cLine) (I : Inv X pn sg H s) {a b : Addr} {kvs : List (List Key × V)} {k : List Key} {v : V} {Q : VK} (ha : H a = some (.dT kvs)) (hb : H b = some (.tup (k.map kV))) (hv : valV kvs k = some v) (q : Q v (upd H a (.dT (dropK kvs k)))) :
    wpAny (model X.prog X.w) X.A (call (.builtin "dict.pop") [.ref a, .ref b]) (EP X pn sg Q) X.xe s := by
  obtain ⟨z, hd, xs', rel, dd⟩ := dt_of I.hok ha
  have hz : xs'.length ≤ sizeLine := by rw [← Paired.length rel]; exact z
  have r := rel.val k
  rw [hv] at r
  obtain ⟨p, hp, rv⟩ : ∃ p, atKey xs' k = some p ∧ RelV v p.2 := by
    cases ev : atKey xs' k with
    | none =>
      rw [ev] at r
      exact (show False from r).elim
    | some p =>
      rw [ev] at r
      exact ⟨p, rfl, r⟩
  refine call_meetsIn PySem.F.slot_dict_pop dd.typeIs PySem.F.entry_dict_pop (PySem.F.args_dict_pop_2 _ _) (meetsPop1 (knd := tupleKind (mixKind X.prog X.w)) (k := k) hd)
    ⟨xs', p, tupleKind_room_in1 hu, key_of I.hok hb, dd, hz, hp, fun h' tk dd' hs => ?_⟩
  obtain ⟨o, es, ep, hq, h2, h3, h4, _, h5⟩ := dd'
  have I2 : Inv X pn sg (upd H a (.dT (dropK kvs k))) { s with heap := h', toks := tk } :=
    d_write I (by rw [ha]; exact True.intro) hs ⟨o, hq⟩ ⟨Nat.le_trans (dropK_le kvs k) z, hd, _, (L2.DX.KT_drop k rel).keeps (fun c ys ec => (by rw [upd_ne (ne_of ec ha (fun z => nomatch z))]; exact ec)), o, es, ep, hq, h2, h3, h4, h5⟩
  show EP X pn sg Q p.2 _
  exact ⟨v, _, I2, rv, q⟩
variable {o e : Expr} {apos cpos : Pos} {td ty : TE}
def tDPopA (td ty : TE) : TE := fun σ H Q => td σ H fun x H1 => ∃ a, x = .ref a ∧ IsD H1 a ∧ ty σ H1 fun y H2 => (∃ kvs k v, H2 a = some (.dK kvs) ∧ y = kV k ∧ valV kvs k = some v ∧ Q v (upd H2 a (.dK (dropK kvs k)))) ∨
  ∃ kvs k b v, H2 a = some (.dT kvs) ∧ y = .ref b ∧ H2 b = some (.tup (k.map kV)) ∧ valV kvs k = some v ∧ Q v (upd H2 a (.dT (dropK kvs k)))
theorem pe_dpopA (hu : X.A.units + 1 < cLine) (ho : PE X o td) (he : PE X e ty) (m : M1 X o "pop" apos e cpos) : PE X (.Call (.Attribute o "pop" apos) [e] [] cpos) (tDPopA td ty) := by
  refine ⟨fun pins s σ H Q I h => ?_⟩
  refine wpAny_Call_method m.base m.few m.line PySem.F.plainAttrs_dict PySem.F.slot_dict_pop PySem.F.type_dict_pop (thn (ho.run pins s σ H _ I h) fun u s1 ⟨x, H1, I1, rx, a, ex, d, q1⟩ => ?_)
  subst ex
  obtain rfl : u = Value.ref a := rx
  obtain ⟨t1, t2, _⟩ := isD_at I1 d
  refine ⟨t1, t2, ?_⟩
  rw [m.trees]
  refine Calls.callWith_builtin rfl (Calls.evalArgs_plain (Calls.spliced_cons (thn (he.run pins s1 σ H1 _ I1 q1) fun iv s2 ⟨y, H2, I2, ry, q2⟩ => Calls.spliced_nil ?_)))
  rcases q2 with ⟨kvs, k, v, ea, ey, l, q2⟩ | ⟨kvs, k, b, v, ea, ey, eb, l, q2⟩
  · subst ey
    exact d_pop I2 ea ry l (.inl rfl) fun w' s3 I3 rw' => ⟨v, _, I3, rw', q2⟩
  · subst ey
    obtain rfl : iv = Value.ref b := ry
    exact d_popT hu I2 ea eb l q2
end
end SI
end
section
set_option Elab.async false
set_option linter.all false
set_option maxRecDepth 100000
set_option maxHeartbeats 4000000
/-! SI12: dicts, displays, ranges. -/
namespace SI
open PySem PySem.Spec PyProof.Rows L2

section
variable {X : Cx} {W : WX} {G : Wr} {k : Nat} {T : Tab} {a b e o i : Expr} {es : List Expr} {p pos apos : Pos} {fa fb fc : Nv → Hs → Res D} {fs : Nv → Hs → Res (List D)} {ft : Nv → Hs → Res Bool} {x m : Str}
theorem m1_of (hb : superless o = true) (hp : (apos.endLine == pos.line) = true) (hs : starless e = true) : M1 X o m apos e pos :=
  ⟨base_plain hb _ _ _, by rw [star_cons hs]; rfl, hp, by rw [star_cons hs]; rfl⟩
theorem m2_of (hb : superless o = true) (hp : (apos.endLine == pos.line) = true) (hs : starless e = true) (ht : starless i = true) : M2 X o m apos e i pos :=
  ⟨base_plain hb _ _ _, by rw [star_cons hs, star_cons ht]; rfl, hp, by rw [star_cons hs, star_cons ht]; rfl⟩
theorem isDK_inv {c : Cell} (h : isDKC c = true) : ∃ xs, c = .dK xs := by cases c <;> first | exact ⟨_, rfl⟩ | cases h
theorem isDT_inv {c : Cell} (h : isDTC c = true) : ∃ xs, c = .dT xs := by cases c <;> first | exact ⟨_, rfl⟩ | cases h
theorem pop_inv {c : Cell} {ds : List D} {v : D} {c' : Cell} (e : popC c ds = some (v, c')) : (∃ kvs kd x, c = .dK kvs ∧ ds = [kd] ∧ keyOf kd = some x ∧ getK kvs x = some v ∧ c' = .dK (delD kvs x)) ∨ ∃ kvs kd x, c = .dT kvs ∧ ds = [kd] ∧ keyT kd = some x ∧ getK kvs x = some v ∧ c' = .dT (delD kvs x) := by
  unfold popC at e
  split at e
  · split at e
    · rename_i x hx
      split at e
      · rename_i w hw
        cases e; exact .inl ⟨_, _, x, rfl, rfl, hx, hw, rfl⟩
      · cases e
    · cases e
  · split at e
    · rename_i x hx
      split at e
      · rename_i w hw
        cases e; exact .inr ⟨_, _, x, rfl, rfl, hx, hw, rfl⟩
      · cases e
    · cases e
  · cases e
theorem get_inv {c : Cell} {ds : List D} {v : D} {c' : Cell} (e : getC c ds = some (v, c')) : ∃ kd ed o, ds = [kd, ed] ∧ dget c kd = some o ∧ v = o.getD ed ∧ c' = c := by
  unfold getC at e
  split at e
  · split at e
    · rename_i o ho
      cases e; exact ⟨_, _, o, rfl, ho, rfl, rfl⟩
    · cases e
  · cases e
theorem set_same {h : Hs} {n : Nat} {c : Cell} (e : h[n]? = some c) : h.set n c = h := by
  apply List.ext_getElem?
  intro j
  by_cases hj : n = j
  · subst hj
    rw [List.getElem?_set_self (List.getElem?_eq_some_iff.mp e).1, e]
  · rw [List.getElem?_set_ne hj]
/-- d.pop(e) -/
theorem sM_pop (hr : Room k X.A) (hb : superless o = true) (hp : (apos.endLine == pos.line) = true) (hs : starless e = true) (ho : PE X o (tE X W fa)) (he : PE X e (tE X W fb)) :
    PE X (.Call (.Attribute o "pop" apos) [e] [] pos) (tE X W fun env h => (fa env h).bind fun d h => if meOk .pop1 h d then ((fb env h).bind fun y h => Res.ok [y] h).bind fun ds h => meD .pop1 h d ds else .no) :=
  PE.weak (pe_dpopA (by have := hr.units; omega) ho he (m1_of hb hp hs)) fun sg H Q ⟨O, env, h, eo, S, w⟩ => ⟨O, env, h, eo, S, w.bind fun d h1 O1 v H1 _ s1 S1 r1 p1 => by
    by_cases hk : meOk .pop1 h1 d = true
    · rw [if_pos hk] at p1
      obtain ⟨n, cl, rfl, hn, hkc⟩ := meOk_ptr hk
      obtain ⟨hlt, co⟩ := S1.at hn
      have hd : IsD H1 (O1.φ n) := by
        simp only [kindC, Bool.or_eq_true] at hkc
        rcases hkc with q | q
        · obtain ⟨kvs0, rfl⟩ := isDK_inv q
          obtain ⟨ws0, hv0, _⟩ := co
          exact .inl ⟨ws0, .of hv0⟩
        · obtain ⟨kvs0, rfl⟩ := isDT_inv q
          obtain ⟨ws0, hv0, _⟩ := co
          exact .inr ⟨ws0, .of hv0⟩
      cases r1
      refine ⟨_, rfl, hd, O1, env, h1, eo.stp s1, S1, ?_⟩
      rw [Res.bind_assoc] at p1
      refine p1.bind fun y h2 O2 u H2 er s2 S2 r2 p2 => ?_
      obtain ⟨c, v, c', hc, hm, p3⟩ := meD_inv (ds := [y]) p2
      rcases pop_inv hm with ⟨kvs, kd, x, rfl, e1, hx, hg, rfl⟩ | ⟨kvs, kd, x, rfl, e1, hx, hg, rfl⟩
      · cases e1
        obtain ⟨hlt2, ws, hv, rp⟩ := S2.at hc
        rw [← s2.φ n hlt]
        rcases getK_ok rp x with ⟨z, _⟩ | ⟨d', w', z, z2, rv⟩
        · rw [hg] at z; cases z
        · rw [hg] at z; cases z
          obtain ⟨s3, S3⟩ := S2.put (o := .dK (dropK ws x)) hc (by simp) (c := .dK (delD kvs x)) ⟨_, upd_same, delK_ok rp x⟩
          exact .inl ⟨ws, x, w', hv, keyOf_ok hx r2, z2, p3 _ _ _ s3 S3 (rv.stp s3)⟩
      · cases e1
        obtain ⟨hlt2, ws, hv, rp⟩ := S2.at hc
        rw [← s2.φ n hlt]
        rcases getK_ok rp x with ⟨z, _⟩ | ⟨d', w', z, z2, rv⟩
        · rw [hg] at z; cases z
        · rw [hg] at z; cases z
          obtain ⟨s3, S3⟩ := S2.put (o := .dT (dropK ws x)) hc (by simp) (c := .dT (delD kvs x)) ⟨_, upd_same, delK_ok rp x⟩
          obtain ⟨b, rfl, hb⟩ := keyT_ok S2 hx r2
          exact .inr ⟨ws, x, b, w', hv, rfl, hb, z2, p3 _ _ _ s3 S3 (rv.stp s3)⟩
    · rw [if_neg hk] at p1; exact (show False from p1).elim⟩
/-- d.get(e, i) -/
theorem sM_get (hr : Room k X.A) (hb : superless o = true) (hp : (apos.endLine == pos.line) = true) (hs : starless e = true) (ht : starless i = true) (ho : PE X o (tE X W fa)) (he : PE X e (tE X W fb)) (hi : PE X i (tE X W fc)) :
    PE X (.Call (.Attribute o "get" apos) [e, i] [] pos) (tE X W fun env h => (fa env h).bind fun d h => if meOk .get2 h d then ((fb env h).bind fun y h => ((fc env h).bind fun z h => Res.ok [z] h).bind fun zs h => Res.ok (y :: zs) h).bind fun ds h => meD .get2 h d ds else .no) :=
  PE.weak (pe_dget2 (by have := hr.units; omega) ho he hi (m2_of hb hp hs ht)) fun sg H Q ⟨O, env, h, eo, S, w⟩ => ⟨O, env, h, eo, S, w.bind fun d h1 O1 v H1 _ s1 S1 r1 p1 => by
    by_cases hk : meOk .get2 h1 d = true
    · rw [if_pos hk] at p1
      obtain ⟨n, cl, rfl, hn, hkc⟩ := meOk_ptr hk
      obtain ⟨hlt, co⟩ := S1.at hn
      have hd : IsD H1 (O1.φ n) := by
        simp only [kindC, Bool.or_eq_true] at hkc
        rcases hkc with q | q
        · obtain ⟨kvs0, rfl⟩ := isDK_inv q
          obtain ⟨ws0, hv0, _⟩ := co
          exact .inl ⟨ws0, .of hv0⟩
        · obtain ⟨kvs0, rfl⟩ := isDT_inv q
          obtain ⟨ws0, hv0, _⟩ := co
          exact .inr ⟨ws0, .of hv0⟩
      cases r1
      refine ⟨_, rfl, hd, O1, env, h1, eo.stp s1, S1, ?_⟩
      rw [Res.bind_assoc] at p1
      refine p1.bind fun y h2 O2 u H2 er s2 S2 r2 p2 => ⟨O2, env, h2, (eo.stp s1).stp s2, S2, ?_⟩
      rw [Res.bind_assoc, Res.bind_assoc] at p2
      refine p2.bind fun z h3 O3 u3 H3 er s3 S3 r3 p3 => ?_
      obtain ⟨c, v, c', hc, hm, p4⟩ := meD_inv (ds := [y, z]) p3
      obtain ⟨kd, ed, o', e1, hg, rfl, rfl⟩ := get_inv (show getC c [y, z] = some (v, c') from hm)
      cases e1
      rw [set_same hc] at p4
      obtain ⟨o2, g, q⟩ := dget_ok S3 hc (r2.stp s3) hg
      rw [← s2.φ n hlt, ← s3.φ n (Nat.lt_of_lt_of_le hlt s2.n)]
      refine ⟨o2, g, ?_⟩
      rcases q with ⟨rfl, rfl⟩ | ⟨d', w', rfl, rfl, rv⟩
      · exact p4.here S3 r3
      · exact p4.here S3 rv
    · rw [if_neg hk] at p1; exact (show False from p1).elim⟩
/-- {} -/
theorem new_ok {sg : L2.St} {O : Om} {H : Hp} {h : Hs} {c : Cell} {ob : HO} {Q : VK} (S : SR X.K X.mg O h H) {q : Addr} (hq : H q = none) (w : Post X W sg O H (.ok (.ptr h.length) (h ++ [c])) (RepX X) Q) (hc : CellOk X.K X.mg (O.more q) (upd H q ob) q c) : Q (.ref q) (upd H q ob) := by
  obtain ⟨s2, S2⟩ := S.newC (H' := upd H q ob) (p := q) (c := c) hq (fun a o e => by rw [upd_ne (ne_of_none e hq)]; exact e) ⟨_, upd_same⟩ hc
  refine w _ _ _ s2 S2 ?_
  have y : RepX X (O.more q) (.ptr O.n) (.ref ((O.more q).φ O.n)) := .ptr (Nat.lt_succ_self _)
  rw [Om.more_new] at y
  rw [S.len]
  exact y
theorem sE_dic {t : Bool} : PE X (.Dict [] [] pos) (tE X W fun _ h => .ok (.ptr h.length) (h ++ [if t then .dT [] else .dK []])) := by
  cases t with
  | false => exact PE.weak pe_dnewK fun sg H Q ⟨O, env, h, eo, S, w⟩ q hq => new_ok S hq w ⟨[], upd_same, .nil⟩
  | true => exact PE.weak pe_dnewT fun sg H Q ⟨O, env, h, eo, S, w⟩ q hq => new_ok S hq w ⟨[], upd_same, .nil⟩
/-- the pairs of a display -/
structure DPs (X : Cx) (W : WX) (pos : Pos) (keys : List (Option Expr)) (values : List Expr) (ks : List Str) (fs : Nv → Hs → Res (List D)) : Prop where
  run : ∃ trs, PPs X pos keys values trs ∧ ∀ sg H (Q : List (V × V) → Hp → Prop), tA X W fs sg H (fun vs H' => Q ((ks.map V.str).zip vs) H') → tPairs trs sg H Q
  all : keys.all (·.isSome) = true
  len : keys.length = values.length
  lk : keys.length = ks.length
theorem dps_nil : DPs X W pos [] [] [] (fun _ h => .ok [] h) := ⟨⟨[], pps_nil, fun sg H Q ⟨O, env, h, eo, S, w⟩ => w.here S .nil⟩, rfl, rfl, rfl⟩
theorem dps_cons {keys : List (Option Expr)} {values : List Expr} {ks : List Str} {j : Nat} {kp : Pos} {z : Str} (he : PE X e (tE X W fa)) (hr : DPs X W pos keys values ks fs) :
    DPs X W pos (some (.Constant (.str z) j kp) :: keys) (e :: values) (z :: ks) (fun env h => (fa env h).bind fun d h => (fs env h).bind fun ds h => .ok (d :: ds) h) := by
  obtain ⟨trs, pp, hq⟩ := hr.run
  refine ⟨⟨_, pps_cons pe_str he pp, fun sg H Q ⟨O, env, h, eo, S, w⟩ => ?_⟩, ?_, ?_, ?_⟩
  · show tE X W fa sg H fun y H2 => tPairs trs sg H2 fun ps H3 => Q ((V.str z, y) :: ps) H3
    exact ⟨O, env, h, eo, S, w.bind fun d h1 O1 v H1 _ s1 S1 r1 p1 => hq sg H1 _ ⟨O1, env, h1, eo.stp s1, S1, p1.bind fun ds h2 O2 vs H2 _ s2 S2 r2 p2 => p2.here S2 (.cons (r1.stp s2) r2)⟩⟩
  · simpa using hr.all
  · simp [hr.len]
  · simp [hr.lk]
theorem merge_new : ∀ (more kvs : List (Key × V)), ((kvs ++ more).map (·.1)).Nodup → mergeK kvs more = kvs ++ more
  | [], kvs, _ => by show kvs = _; simp
  | q :: r, kvs, h => by
    have hn : valV kvs q.1 = none := by
      cases z : valV kvs q.1 with
      | none => rfl
      | some v =>
        have hm : (kvs.any fun kv => decide (kv.1 = q.1)) = true := by rw [valV_any, z]; rfl
        obtain ⟨y, hy, e⟩ := List.any_eq_true.mp hm
        rw [List.map_append] at h
        exact absurd (of_decide_eq_true e) ((List.nodup_append.mp h).2.2 y.1 (List.mem_map_of_mem hy) q.1 (by simp))
    show mergeK (putK kvs q.1 q.2) r = _
    rw [putK_new q.2 hn, merge_new r (kvs ++ [(q.1, q.2)]) (by simpa using h)]
    simp
theorem zip_rep {O : Om} : ∀ {ks : List Str} {ds : List D} {vs : List V}, RepLX X O ds vs → RepP X.K X.mg O ((ks.map Sum.inr : List Key).zip ds) ((ks.map Sum.inr : List Key).zip vs)
  | [], _, _, _ => by simp; exact .nil
  | _ :: _, _, _, .nil => by simp; exact .nil
  | _ :: _, _, _, .cons r t => .cons r (zip_rep t)
theorem zip_kv : ∀ (ks : List Str) (vs : List V), (ks.map V.str).zip vs = (((ks.map Sum.inr : List Key).zip vs)).map fun kv => (kV kv.1, kv.2)
  | [], _ => rfl
  | _ :: _, [] => rfl
  | k :: ks, v :: vs => by
    show (V.str k, v) :: (ks.map V.str).zip vs = (V.str k, v) :: _
    rw [zip_kv ks vs]; rfl
theorem sE_dicd {keys : List (Option Expr)} {values : List Expr} {ks : List Str} (hr : DPs X W pos keys values ks fs) (h0 : keys ≠ []) (h15 : keys.length ≤ 15) (hn : ks.Nodup) :
    PE X (.Dict keys values pos) (tE X W fun env h => (fs env h).calm.bind fun ds h => if ks.length = ds.length then .ok (.ptr h.length) (h ++ [.dK ((ks.map Sum.inr).zip ds)]) else .no) := by
  obtain ⟨trs, pp, hq⟩ := hr.run
  refine PE.weak (pe_disp pp hr.all hr.len h0 h15) fun sg H Q ⟨O, env, h, eo, S, w⟩ q hp => hq sg _ _ ?_
  obtain ⟨A0, S0⟩ := Apart.new S hp (.dK [])
  refine ⟨O, env, h, eo, S0, ?_⟩
  have w : Post X W sg O H ((fs env h).calm.bind fun ds h => if ks.length = ds.length then .ok (.ptr h.length) (h ++ [.dK ((ks.map Sum.inr).zip ds)]) else .no) (RepX X) Q := w
  cases er : fs env h with
  | no => rw [er] at w; exact w
  | ex e' h' => rw [er] at w; exact (show False from w).elim
  | ok ds h1 =>
    rw [er] at w
    intro O1 vs H1 s1 S1 r1
    obtain ⟨A1, hH1⟩ := A0.stp s1 upd_same
    have w : Post X W sg O H (if ks.length = ds.length then .ok (.ptr h1.length) (h1 ++ [.dK ((ks.map Sum.inr).zip ds)]) else .no) (RepX X) Q := w
    split at w
    · rename_i hl
      have lv : ((ks.map Sum.inr : List Key).zip vs).length ≤ 15 := by
        rw [List.length_zip, List.length_map, ← r1.length, ← hl, Nat.min_self, ← hr.lk]; exact h15
      refine ⟨hH1, (ks.map Sum.inr : List Key).zip vs, zip_kv ks vs, lv, ?_⟩
      have nd : ((([] : List (Key × V)) ++ (ks.map Sum.inr : List Key).zip vs).map (·.1)).Nodup := by
        rw [List.nil_append, List.map_fst_zip (by rw [List.length_map, hl, r1.length]; exact Nat.le_refl _)]
        exact List.Pairwise.map Sum.inr (fun a b e z => e (by cases z; rfl)) hn
      rw [merge_new _ _ nd, List.nil_append]
      have sx : StpX q O H O1 (upd H1 q (.dK ((ks.map Sum.inr : List Key).zip vs))) := (StpX.put q O H _).trans (s1.x.trans (StpX.put q O1 H1 _))
      obtain ⟨s3, S3⟩ := Apart.cell (c := .dK ((ks.map Sum.inr).zip ds)) (A1.srU S1 (.dK ((ks.map Sum.inr : List Key).zip vs))) (A1.upd _) hp sx ⟨_, upd_same, (zip_rep r1).more⟩
      refine w _ _ _ s3 S3 ?_
      have y : RepX X (O1.more q) (.ptr O1.n) (.ref ((O1.more q).φ O1.n)) := .ptr (Nat.lt_succ_self _)
      rw [Om.more_new] at y
      rw [S1.len]
      exact y
    · exact (show False from w).elim
end
end SI
end
section
set_option Elab.async false
set_option linter.all false
set_option maxRecDepth 100000
set_option maxHeartbeats 4000000
/-! SI13: what is walked. -/
namespace SI
open PySem PySem.Spec PyProof.Rows L2

/-- later objects -/
structure Om.Le (O O' : Om) : Prop where
  n : O.n ≤ O'.n
  φ : ∀ i, i < O.n → O'.φ i = O.φ i
  F : ∀ a o, O.F a = some o → O'.F a = some o
theorem Om.Le.refl (O : Om) : O.Le O := ⟨Nat.le_refl _, fun _ _ => rfl, fun _ _ e => e⟩
theorem StpX.le {p : Addr} {O O' : Om} {H H' : Hp} (s : StpX p O H O' H') : O.Le O' := ⟨s.n, s.φ, s.F⟩
theorem Stp.le {O O' : Om} {H H' : Hp} (s : Stp O H O' H') : O.Le O' := ⟨s.n, s.φ, s.F⟩
theorem Om.Le.trans {O O1 O2 : Om} (a : O.Le O1) (b : O1.Le O2) : O.Le O2 := ⟨Nat.le_trans a.n b.n, fun i hi => (b.φ i (Nat.lt_of_lt_of_le hi a.n)).trans (a.φ i hi), fun c o e => b.F c o (a.F c o e)⟩
/-- the iterator J gives the things of xs in turn -/
def SrcOk (X : Cx) (O : Om) (xs : List D) (J : It) : Prop := ∃ (Gd : Hp → Prop) (Y : Nat → Hp → V → Hp → Prop), Walk J xs.length Gd Y ∧
  (∀ (O1 : Om) (h1 : Hs) (H1 : Hp), O.Le O1 → SR X.K X.mg O1 h1 H1 → Gd H1) ∧
  ∀ (O1 : Om) (h1 : Hs) (H1 : Hp) (i : Nat) (d : D) (x : V) (H2 : Hp), O.Le O1 → SR X.K X.mg O1 h1 H1 → xs[i]? = some d → Y i H1 x H2 → ∃ O2, Stp O1 H1 O2 H2 ∧ SR X.K X.mg O2 h1 H2 ∧ RepX X O2 d x
def tI (X : Cx) (W : WX) (k : SrcK) (fs : Nv → Hs → Res (List D)) : TI := fun sg H R => ∃ (O : Om) (env : Nv) (h : Hs), NvOk X.K X.mg O env sg ∧ SR X.K X.mg O h H ∧ Post X W sg O H ((fs env h).bind fun ds h => Res.of (srcD k ds) h) (SrcOk X) R
section
variable {X : Cx} {W : WX} {G : Wr} {k : Nat} {T : Tab} {a b e o i : Expr} {es : List Expr} {p pos apos : Pos} {fa fb fc : Nv → Hs → Res D} {fs : Nv → Hs → Res (List D)} {ft : Nv → Hs → Res Bool} {x m : Str}
theorem seq_at {O O1 : Om} (l : O.Le O1) {h1 : Hs} {H1 : Hp} (S : SR X.K X.mg O1 h1 H1) {d : D} {q : Addr} (r : RepX X O d (.ref q)) {vs : List V} {xs : List D} {b : Bool} (e : valSeq d = some (b, xs)) (rl : RepLX X O xs vs)
    (h : if b = true then SqL X.K O.F q vs else SqT X.K O.F q vs) : if b = true then SqL X.K H1 q vs else SqT X.K H1 q vs := by
  cases b with
  | true => exact sqL_up (fun a o z => S.sub a o (l.F a o z)) h
  | false => exact sqT_up (fun a o z => S.sub a o (l.F a o z)) h
/-- a value that is a sequence -/
theorem valSeq_ok {O : Om} {d : D} {v : V} (r : RepX X O d v) {b : Bool} {xs : List D} (e : valSeq d = some (b, xs)) :
    ∃ (q : Addr) (vs : List V), v = .ref q ∧ (if b = true then SqL X.K O.F q vs else SqT X.K O.F q vs) ∧ RepLX X O xs vs ∧ vs.length ≤ sizeLine := by
  cases r with
  | tup q z t => cases e; exact ⟨_, _, rfl, SqT.of q, t, z⟩
  | lst q z t => cases e; exact ⟨_, _, rfl, SqL.of q, t, z⟩
  | ksl q z t => cases e; exact ⟨_, _, rfl, q, t, z⟩
  | kst q z t => cases e; exact ⟨_, _, rfl, q, t, z⟩
  | _ => cases e
theorem src_list {O : Om} {xs : List D} {vs : List V} {q : Addr} (h : SqL X.K O.F q vs) (rl : RepLX X O xs vs) : SrcOk X O xs (Itl X.K q) := by
  refine ⟨fun H => SqL X.K H q vs, YAt vs, by rw [rl.length]; exact walk_list, fun O1 h1 H1 l S => sqL_up (fun a o z => S.sub a o (l.F a o z)) h, fun O1 h1 H1 i d x H2 l S e ⟨eH, ex⟩ => ?_⟩
  subst eH
  obtain ⟨v, hv, r⟩ := rl.get e
  rw [ex] at hv
  cases hv
  exact ⟨O1, Stp.refl _ _, S, r.up l.n l.φ l.F⟩
theorem src_tup {O : Om} {xs : List D} {vs : List V} {q : Addr} (h : SqT X.K O.F q vs) (rl : RepLX X O xs vs) : SrcOk X O xs (Itt X.K q) := by
  refine ⟨fun H => SqT X.K H q vs, YAt vs, by rw [rl.length]; exact walk_tup, fun O1 h1 H1 l S => sqT_up (fun a o z => S.sub a o (l.F a o z)) h, fun O1 h1 H1 i d x H2 l S e ⟨eH, ex⟩ => ?_⟩
  subst eH
  obtain ⟨v, hv, r⟩ := rl.get e
  rw [ex] at hv
  cases hv
  exact ⟨O1, Stp.refl _ _, S, r.up l.n l.φ l.F⟩
/-- a sequence that is no other thing -/
theorem sI_seq {tg : Expr} (he : PE X e (tE X W fa)) : PI X tg e (tI X W .seq fun env h => (fa env h).bind fun d h => .ok [d] h) := ⟨fun pn s sg H R I ⟨O, env, h, eo, S, w⟩ => by
  have w : Post X W sg O H (((fa env h).bind fun d h => Res.ok [d] h).bind fun ds h => Res.of (srcD .seq ds) h) (SrcOk X) R := w
  rw [Res.bind_assoc] at w
  refine thn (he.run pn s sg H (fun v H1 => ∃ O1 d h1, RepX X O1 d v ∧ SR X.K X.mg O1 h1 H1 ∧ Post X W sg O1 H1 (Res.of (srcD .seq [d]) h1) (SrcOk X) R) I ⟨O, env, h, eo, S, w.bind fun d h1 O1 v H1 _ s1 S1 r1 p1 => ⟨O1, d, h1, r1, S1, p1⟩⟩) fun u s1 ⟨v, H1, I1, rx, O1, d, h1, r1, S1, p1⟩ => ?_
  obtain ⟨xs, ex, q⟩ := p1.of S1
  simp only [srcD, Option.map_eq_some_iff] at ex
  obtain ⟨⟨l, ys⟩, ev, rfl⟩ := ex
  obtain ⟨t, vs, rfl, hq, rl, _⟩ := valSeq_ok r1 ev
  obtain rfl : u = Value.ref t := rx
  cases l with
  | true =>
    obtain ⟨its, _, pl, _⟩ := I1.list (sqL_up S1.sub hq)
    refine wpAny_pyIter_list pl.isList ⟨_, [s1.heap.objs.size], _, _, H1, rfl, I1.kept (t' := s1.toks) fun _ _ z => Heap.get?_push_of_some _ z, turn_list t s1.heap.objs.size, ⟨_, Heap.get?_push_size _ rfl, rfl, rfl⟩, fun c hc => ?_, q _ (src_list hq rl)⟩
    rw [List.mem_singleton.mp hc]
    exact I1.fpOk (Nat.le_refl _) I1.fresh
  | false =>
    obtain ⟨its, _, pl, _⟩ := I1.tuple (sqT_up S1.sub hq)
    refine wpAny_pyIter_tuple pl ⟨_, [s1.heap.objs.size], _, _, H1, rfl, I1.kept (t' := s1.toks) fun _ _ z => Heap.get?_push_of_some _ z, turn_tuple t s1.heap.objs.size, ⟨_, Heap.get?_push_size _ rfl, rfl, rfl⟩, fun c hc => ?_, q _ (src_tup hq rl)⟩
    rw [List.mem_singleton.mp hc]
    exact I1.fpOk (Nat.le_refl _) I1.fresh⟩
theorem one_len {r : Res D} {ds : List D} {h1 : Hs} (e : (r.bind fun d h => Res.ok [d] h) = .ok ds h1) : ds.length = 1 := by
  cases r with
  | ok d h => cases e; rfl
  | ex x h => cases e
  | no => cases e
theorem two_len {r : Res D} {g : Hs → Res D} {ds : List D} {h1 : Hs} (e : (r.bind fun d h => ((g h).bind fun d2 h => Res.ok [d2] h).bind fun ds h => Res.ok (d :: ds) h) = .ok ds h1) : ds.length = 2 := by
  cases r with
  | ok d h =>
    have e : (((g h).bind fun d2 h => Res.ok [d2] h).bind fun ds h => Res.ok (d :: ds) h) = .ok ds h1 := e
    cases q : g h with
    | ok d2 h2 => rw [q] at e; cases e; rfl
    | ex x h => rw [q] at e; cases e
    | no => rw [q] at e; cases e
  | ex x h => cases e
  | no => cases e
theorem rng_get {lo : Int} {n i : Nat} {d : D} (e : ((List.range n).map fun i => D.int (lo + (i : Nat)))[i]? = some d) : d = .int (lo + (i : Nat)) := by
  rw [List.getElem?_map] at e
  cases q : (List.range n)[i]? with
  | none => rw [q] at e; cases e
  | some j =>
    rw [q] at e
    have : j = i := by rw [List.getElem?_range (by have := (List.getElem?_eq_some_iff.mp q).1; simpa using this)] at q; exact (Option.some.inj q).symm
    subst this
    exact (Option.some.inj e).symm
theorem src_rng {O : Om} {lo hi : Int} : SrcOk X O (rngD lo hi) (Itr lo (hi - lo).toNat) := by
  refine ⟨fun _ => True, YFn fun i => .int (lo + (i : Nat)), ?_, fun _ _ _ _ _ => trivial, fun O1 h1 H1 i d x H2 l S e ⟨eH, ex⟩ => ?_⟩
  · rw [show (rngD lo hi).length = (hi - lo).toNat by simp [rngD]]
    exact walk_range
  · subst eH
    rw [rng_get e, ex]
    exact ⟨O1, Stp.refl _ _, S, .int _⟩
theorem rngOk_ok {i : Int} (h : rngOk i = true) : -(2 ^ 62) ≤ i ∧ i < 2 ^ 62 := by
  have z := of_decide_eq_true h
  omega
theorem sI_rng1 {tg : Expr} (hg : Gl X "range") (hm : X.mg "range" = none) (hs : starless a = true) (ha : PE X a (tE X W fa)) : PI X tg (.Call (.Name "range" p) [a] [] pos) (tI X W .rng fun env h => (fa env h).bind fun d h => .ok [d] h) :=
  PI.weak (pi_range1 hg hm (sA_one hs ha) (star_cons hs [] X.env)) fun sg H R ⟨O, env, h, eo, S, w⟩ => ⟨O, env, h, eo, S, w.bind fun ds h1 O1 vs H1 er s1 S1 r1 p1 => by
    obtain ⟨xs, ex, q⟩ := p1.of S1
    have ex : rngA ds = some xs := ex
    unfold rngA at ex
    split at ex
    · rename_i j _
      split at ex
      · rename_i hj
        cases ex
        cases r1 with
        | cons r t =>
          cases t
          have hj := rngOk_ok hj
          refine ⟨j, by rw [r.int_inv], hj.1, hj.2, ?_⟩
          have z := q _ (src_rng (X := X) (O := O1) (lo := 0) (hi := j))
          rwa [Int.sub_zero] at z
      · cases ex
    · have z := one_len er
      cases z
    · cases ex⟩
theorem sI_rng2 {tg : Expr} (hg : Gl X "range") (hm : X.mg "range" = none) (hs : starless a = true) (ht : starless b = true) (ha : PE X a (tE X W fa)) (hb : PE X b (tE X W fb)) :
    PI X tg (.Call (.Name "range" p) [a, b] [] pos) (tI X W .rng fun env h => (fa env h).bind fun d h => ((fb env h).bind fun d2 h => Res.ok [d2] h).bind fun ds h => .ok (d :: ds) h) :=
  PI.weak (pi_range2 hg hm (sA_cons hs ha (sA_one ht hb)) (by rw [star_cons hs, star_cons ht]; rfl) (star_cons ht [] X.env)) fun sg H R ⟨O, env, h, eo, S, w⟩ => ⟨O, env, h, eo, S, w.bind fun ds h1 O1 vs H1 er s1 S1 r1 p1 => by
    obtain ⟨xs, ex, q⟩ := p1.of S1
    have ex : rngA ds = some xs := ex
    unfold rngA at ex
    split at ex
    · have z := two_len (g := fun h => fb env h) er
      cases z
    · rename_i i j _
      split at ex
      · rename_i hj
        simp only [Bool.and_eq_true] at hj
        cases ex
        cases r1 with
        | cons r t =>
          cases t with
          | cons r2 t =>
            cases t
            have h1 := rngOk_ok hj.1
            have h2 := rngOk_ok hj.2
            exact ⟨i, j, by rw [r.int_inv, r2.int_inv], ⟨h1.1, h1.2, h2.1, h2.2⟩, q _ src_rng⟩
      · cases ex
    · cases ex⟩
theorem zip_len : ∀ xs ys : List D, (zipD xs ys).length = min xs.length ys.length
  | [], _ => by simp [zipD]
  | _ :: _, [] => by simp [zipD]
  | x :: xs, y :: ys => by simp [zipD, zip_len xs ys, Nat.succ_min_succ]
theorem zip_get : ∀ {xs ys : List D} {i : Nat} {d : D}, (zipD xs ys)[i]? = some d → ∃ x y, xs[i]? = some x ∧ ys[i]? = some y ∧ d = .tup [x, y]
  | [], _, _, _, e => by simp [zipD] at e
  | _ :: _, [], _, _, e => by simp [zipD] at e
  | x :: xs, y :: ys, 0, d, e => by simp [zipD] at e; exact ⟨x, y, rfl, rfl, e.symm⟩
  | x :: xs, y :: ys, i + 1, d, e => by
    have e : (zipD xs ys)[i]? = some d := by simpa [zipD] using e
    obtain ⟨u, v, h1, h2, h3⟩ := zip_get e
    exact ⟨u, v, by simpa using h1, by simpa using h2, h3⟩
theorem small2 : (2 : Nat) ≤ sizeLine := by rw [sizeLine_eq]; decide
theorem pair_ok {O O1 : Om} {h1 : Hs} {H1 H2 : Hp} {x y : D} {v w z : V} {t : Addr} (l : O.Le O1) (S : SR X.K X.mg O1 h1 H1) (rx : RepX X O x v) (ry : RepX X O y w) (ht : H1 t = none) (e : H2 = upd H1 t (.tup [v, w])) (ez : z = .ref t) :
    ∃ O2, Stp O1 H1 O2 H2 ∧ SR X.K X.mg O2 h1 H2 ∧ RepX X O2 (.tup [x, y]) z := by
  subst e ez
  obtain ⟨s2, S2⟩ := S.newF ht (.tup [v, w])
  exact ⟨_, s2, S2, frz_tup S ht small2 (.cons (rx.up l.n l.φ l.F) (.cons (ry.up l.n l.φ l.F) .nil))⟩
theorem walk_zipT {K : PySem.W.Frag} {a b : Addr} {xs ys : List V} {n : Nat} (hn : n = min xs.length ys.length) : Walk (RZ.ItzT K a b) n (fun H => SqT K H a xs ∧ SqT K H b ys) (YPair (fun i => xs[i]?) (fun i => ys[i]?)) := by
  subst hn
  refine ⟨fun i _ hi q => ?_, fun _ q => ⟨xs, ys, q.1, q.2, by omega⟩, fun i H v H' _ q ⟨T, x, z, h1, h2, h3, h4, h5⟩ => ⟨T, x, z, h1, h2, h3, h4 xs q.1, h5 ys q.2⟩⟩
  have i1 : i < xs.length := by omega
  have i2 : i < ys.length := by omega
  exact ⟨xs, ys, xs[i], ys[i], q.1, q.2, List.getElem?_eq_getElem i1, List.getElem?_eq_getElem i2⟩
theorem sI_zip {elts : List Expr} {kk : Nat} {tpos : Pos} (hg : Gl X "zip") (hm : X.mg "zip" = none) (hs : starless a = true) (ht : starless b = true) (ha : PE X a (tE X W fa)) (hb : PE X b (tE X W fb)) :
    PI X (.Tuple elts kk tpos) (.Call (.Name "zip" p) [a, b] [] pos) (tI X W .zip fun env h => (fa env h).bind fun d h => ((fb env h).bind fun d2 h => Res.ok [d2] h).bind fun ds h => .ok (d :: ds) h) :=
  PI.weak (RZ.pi_zipA hg hm (sA_cons hs ha (sA_one ht hb)) (star_cons hs _ _) (by rw [star_cons ht]; rfl)) fun sg H R ⟨O, env, h, eo, S, w⟩ => ⟨O, env, h, eo, S, w.bind fun ds h1 O1 vs H1 er s1 S1 r1 p1 => by
    obtain ⟨zs, ex, q⟩ := p1.of S1
    have one : ∀ (l : Bool) (x y : D) (xs ys : List D), ds = [x, y] → valSeq x = some (l, xs) → valSeq y = some (l, ys) → zs = zipD xs ys →
        ∃ a b ws us, vs = [.ref a, .ref b] ∧ ((SqL X.K H1 a ws ∧ SqL X.K H1 b us ∧ R (Itz X.K a b) H1) ∨ (SqT X.K H1 a ws ∧ SqT X.K H1 b us ∧ R (RZ.ItzT X.K a b) H1)) := fun l x y xs ys ed ea eb ez => by
      subst ed
      cases r1 with
      | cons rx t =>
        cases t with
        | cons ry t =>
          cases t
          obtain ⟨q1, ws, rfl, h1, rw1, _⟩ := valSeq_ok rx ea
          obtain ⟨q2, us, rfl, h2, rw2, _⟩ := valSeq_ok ry eb
          refine ⟨q1, q2, ws, us, rfl, ?_⟩
          have hn : zs.length = min ws.length us.length := by rw [ez, zip_len, rw1.length, rw2.length]
          cases l with
          | true =>
            refine .inl ⟨sqL_up S1.sub h1, sqL_up S1.sub h2, q _ ⟨fun H => SqL X.K H q1 ws ∧ SqL X.K H q2 us, _, walk_zip hn, fun O2 h2' H2 l S => ⟨sqL_up (fun a o z => S.sub a o (l.F a o z)) h1, sqL_up (fun a o z => S.sub a o (l.F a o z)) h2⟩, fun O2 h2' H2 i d x' H3 l S e ⟨t, x1, y1, e1, e2, e3, e4, e5⟩ => ?_⟩⟩
            rw [ez] at e
            obtain ⟨u1, u2, g1, g2, rfl⟩ := zip_get e
            obtain ⟨v1, k1, r1⟩ := rw1.get g1
            obtain ⟨v2, k2, r2⟩ := rw2.get g2
            have e4 : ws[i]? = some x1 := e4
            have e5 : us[i]? = some y1 := e5
            rw [k1] at e4
            rw [k2] at e5
            cases e4
            cases e5
            exact pair_ok l S r1 r2 e2 e3 e1
          | false =>
            refine .inr ⟨sqT_up S1.sub h1, sqT_up S1.sub h2, q _ ⟨fun H => SqT X.K H q1 ws ∧ SqT X.K H q2 us, _, walk_zipT hn, fun O2 h2' H2 l S => ⟨sqT_up (fun a o z => S.sub a o (l.F a o z)) h1, sqT_up (fun a o z => S.sub a o (l.F a o z)) h2⟩, fun O2 h2' H2 i d x' H3 l S e ⟨t, x1, y1, e1, e2, e3, e4, e5⟩ => ?_⟩⟩
            rw [ez] at e
            obtain ⟨u1, u2, g1, g2, rfl⟩ := zip_get e
            obtain ⟨v1, k1, r1⟩ := rw1.get g1
            obtain ⟨v2, k2, r2⟩ := rw2.get g2
            have e4 : ws[i]? = some x1 := e4
            have e5 : us[i]? = some y1 := e5
            rw [k1] at e4
            rw [k2] at e5
            cases e4
            cases e5
            exact pair_ok l S r1 r2 e2 e3 e1
    have ex : srcD .zip ds = some zs := ex
    simp only [srcD] at ex
    split at ex
    · rename_i x y _
      split at ex
      · rename_i xs hx
        split at ex
        · rename_i ys hy
          cases ex; exact one true x y xs ys rfl hx hy rfl
        · cases ex
      · rename_i xs hx
        split at ex
        · rename_i ys hy
          cases ex; exact one false x y xs ys rfl hx hy rfl
        · cases ex
      · cases ex
    · cases ex⟩
theorem enum_len : ∀ (xs : List D) (i : Nat), (enumD i xs).length = xs.length
  | [], _ => rfl
  | x :: xs, i => by simp [enumD, enum_len xs (i + 1)]
theorem enum_get : ∀ {xs : List D} {j i : Nat} {d : D}, (enumD j xs)[i]? = some d → ∃ x, xs[i]? = some x ∧ d = .tup [.int ((j + i : Nat) : Int), x]
  | [], _, _, _, e => by simp [enumD] at e
  | x :: xs, j, 0, d, e => by simp [enumD] at e; exact ⟨x, rfl, e.symm⟩
  | x :: xs, j, i + 1, d, e => by
    have e : (enumD (j + 1) xs)[i]? = some d := by simpa [enumD] using e
    obtain ⟨u, h1, h3⟩ := enum_get e
    exact ⟨u, by simpa using h1, by rw [h3, show j + 1 + i = j + (i + 1) by omega]⟩
theorem sI_enum {elts : List Expr} {kk : Nat} {tpos : Pos} (hg : Gl X "enumerate") (hm : X.mg "enumerate" = none) (hs : starless a = true) (ha : PE X a (tE X W fa)) :
    PI X (.Tuple elts kk tpos) (.Call (.Name "enumerate" p) [a] [] pos) (tI X W .enum fun env h => (fa env h).bind fun d h => .ok [d] h) :=
  PI.weak (pi_enumA hg hm (sA_one hs ha) (star_cons hs [] X.env)) fun sg H R ⟨O, env, h, eo, S, w⟩ => ⟨O, env, h, eo, S, w.bind fun ds h1 O1 vs H1 er s1 S1 r1 p1 => by
    obtain ⟨zs, ex, q⟩ := p1.of S1
    have ex : srcD .enum ds = some zs := ex
    simp only [srcD] at ex
    split at ex
    · rename_i d _
      split at ex
      · rename_i l xs hx
        cases ex
        cases r1 with
        | cons rx t =>
          cases t
          obtain ⟨q1, ws, rfl, h1, rw1, _⟩ := valSeq_ok rx hx
          cases l with
          | true =>
            refine ⟨q1, ws, rfl, .inl ⟨sqL_up S1.sub h1, q _ ⟨fun H => SqL X.K H q1 ws, YPair (fun i => some (.int (i : Nat))) (fun i => ws[i]?), by rw [enum_len, rw1.length]; exact walk_enum, fun O2 h2' H2 l S => sqL_up (fun a o z => S.sub a o (l.F a o z)) h1, fun O2 h2' H2 i d x' H3 l S e ⟨t, x1, y1, e1, e2, e3, e4, e5⟩ => ?_⟩⟩⟩
            obtain ⟨u1, g1, rfl⟩ := enum_get e
            obtain ⟨v1, k1, r1⟩ := rw1.get g1
            have e4 : some (V.int (i : Nat)) = some x1 := e4
            have e5 : ws[i]? = some y1 := e5
            rw [k1] at e5
            cases e4
            cases e5
            rw [Nat.zero_add]
            exact pair_ok l S (.int _) r1 e2 e3 e1
          | false =>
            refine ⟨q1, ws, rfl, .inr ⟨sqT_up S1.sub h1, q _ ⟨fun H => SqT X.K H q1 ws, YPair (fun i => some (.int (i : Nat))) (fun i => ws[i]?), by rw [enum_len, rw1.length]; exact walk_enumT, fun O2 h2' H2 l S => sqT_up (fun a o z => S.sub a o (l.F a o z)) h1, fun O2 h2' H2 i d x' H3 l S e ⟨t, x1, y1, e1, e2, e3, e4, e5⟩ => ?_⟩⟩⟩
            obtain ⟨u1, g1, rfl⟩ := enum_get e
            obtain ⟨v1, k1, r1⟩ := rw1.get g1
            have e4 : some (V.int (i : Nat)) = some x1 := e4
            have e5 : ws[i]? = some y1 := e5
            rw [k1] at e5
            cases e4
            cases e5
            rw [Nat.zero_add]
            exact pair_ok l S (.int _) r1 e2 e3 e1
      · cases ex
    · cases ex⟩
end
end SI
end
section
set_option Elab.async false
set_option linter.all false
set_option maxRecDepth 100000
set_option maxHeartbeats 4000000
/-! SI14: targets, comprehensions, ranges. -/
namespace SI
open PySem PySem.Spec PyProof.Rows L2

mutual
def ids : Tg → List Nat
  | .n i => [i]
  | .t ts => idsL ts
def idsL : List Tg → List Nat
  | [] => []
  | t :: ts => ids t ++ idsL ts
end
/-- nothing but these slots is new -/
def OnlyAt (l : List Nat) (sg sg' : L2.St) : Prop := ∀ j, j ∉ l → sg'[j]? = sg[j]?
section
variable (X : Cx)
def gT (tg : Tg) : TG := fun v sg H Q => ∃ (O : Om) (h : Hs) (d : D) (env env' : Nv), SR X.K X.mg O h H ∧ NvOk X.K X.mg O env sg ∧ RepX X O d v ∧ asg tg d env = some env' ∧ ∀ sg', NvOk X.K X.mg O env' sg' → OnlyAt (ids tg) sg sg' → Q sg' H
def gTs (ts : List Tg) : TGs := fun vs sg H Q => ∃ (O : Om) (h : Hs) (ds : List D) (env env' : Nv), SR X.K X.mg O h H ∧ NvOk X.K X.mg O env sg ∧ RepLX X O ds vs ∧ asgs ts ds env = some env' ∧ ∀ sg', NvOk X.K X.mg O env' sg' → OnlyAt (idsL ts) sg sg' → Q sg' H
end
section
variable {X : Cx} {W : WX} {G : Wr} {k : Nat} {T : Tab} {a b e o i : Expr} {es : List Expr} {p pos apos : Pos} {fa fb fc : Nv → Hs → Res D} {fs : Nv → Hs → Res (List D)} {ft : Nv → Hs → Res Bool} {x m : Str}
theorem PG.weak {t : Expr} {g g' : TG} (p : PG X t g) (k : ∀ v sg H Q, g' v sg H Q → g v sg H Q) : PG X t g' := ⟨fun pn s sg H v u Q I r w => p.run pn s sg H v u Q I r (k v sg H Q w)⟩
theorem PGs.weak {t : List Expr} {g g' : TGs} (p : PGs X t g) (k : ∀ v sg H Q, g' v sg H Q → g v sg H Q) : PGs X t g' := ⟨fun pn s sg H v u Q I r w => p.run pn s sg H v u Q I r (k v sg H Q w)⟩
theorem sG_name {i : Nat} (hN : X.N.Nodup) (hi : X.N[i]? = some x) (hx : Loc X.env.scope x) (hf : X.fn x = true ∨ X.env.scope.names.lookup x = some .local) : PG X (.Name x pos) (gT X (.n i)) :=
  PG.weak (pg_name hN hi hx hf) fun v sg H Q ⟨O, h, d, env, env', S, eo, r, ea, q⟩ => by
    cases ea
    exact q _ (eo.set i r) fun j hj => List.getElem?_set_ne (fun z => hj (by rw [← z]; exact List.mem_singleton.mpr rfl))
theorem asgE_cons {e : Expr} (h : starless e = true) (es : List Expr) (env : PySem.Env) : assignEach (e :: es) env = (false, assign e env) :: assignEach es env := by
  cases e <;> first | rfl | cases h
theorem sG_nil : PGs X [] (gTs X []) := PGs.weak pgs_nil fun v sg H Q ⟨O, h, ds, env, env', S, eo, r, ea, q⟩ => by
  cases ds with
  | nil => cases r; cases ea; exact ⟨rfl, q sg eo fun _ _ => rfl⟩
  | cons => cases ea
theorem sG_cons {t : Tg} {ts : List Tg} (hs : starless e = true) (h1 : PG X e (gT X t)) (h2 : PGs X es (gTs X ts)) : PGs X (e :: es) (gTs X (t :: ts)) :=
  PGs.weak (pgs_cons h1 h2 (by rw [asgE_cons hs]; rfl)) fun v sg H Q ⟨O, h, ds, env, env', S, eo, r, ea, q⟩ => by
    cases ds with
    | nil => cases ea
    | cons d ds =>
      cases r with
      | cons r rr =>
        simp only [asgs] at ea
        split at ea
        · rename_i env1 h1
          exact ⟨_, _, rfl, O, h, d, env, env1, S, eo, r, h1, fun sg1 e1 o1 => ⟨O, h, ds, env1, env', S, e1, rr, ea, fun sg2 e2 o2 => q sg2 e2 fun j hj => by
            rw [o2 j (fun z => hj (by show j ∈ ids t ++ idsL ts; exact List.mem_append_right _ z)), o1 j (fun z => hj (by show j ∈ ids t ++ idsL ts; exact List.mem_append_left _ z))]⟩⟩
        · cases ea
theorem asgE_len : ∀ {es : List Expr} {env : PySem.Env}, es.all starless = true → (assignEach es env).length = es.length ∧ (assignEach es env).findIdx? (·.1) = none
  | [], _, _ => ⟨rfl, rfl⟩
  | e :: es, env, h => by
    have h1 : starless e = true ∧ es.all starless = true := by simpa using h
    obtain ⟨l, n⟩ := asgE_len (env := env) h1.2
    rw [asgE_cons h1.1]
    exact ⟨by simp [l], by simp [List.findIdx?_cons, n]⟩
theorem asgs_len : ∀ {ts : List Tg} {ds : List D} {env env' : Nv}, asgs ts ds env = some env' → ds.length = ts.length
  | [], [], _, _, _ => rfl
  | [], _ :: _, _, _, e => by cases e
  | _ :: _, [], _, _, e => by cases e
  | t :: ts, d :: ds, env, env', e => by
    simp only [asgs] at e
    split at e
    · simp [asgs_len e]
    · cases e
theorem sG_tup {ts : List Tg} {j : Nat} (hc : X.calm = true) (hs : es.all starless = true) (hl : es.length = ts.length) (h : PGs X es (gTs X ts)) : PG X (.Tuple es j pos) (gT X (.t ts)) :=
  PG.weak (pg_tup (n := es.length) hc h (asgE_len hs).1 (asgE_len hs).2) fun v sg H Q ⟨O, h, d, env, env', S, eo, r, ea, q⟩ => by
    simp only [asg] at ea
    split at ea
    · rename_i xs hx
      obtain ⟨t, vs, rfl, hq, rl, _⟩ := valSeq_ok r hx
      exact ⟨t, vs, rfl, sqT_up S.sub hq, by rw [← rl.length, asgs_len ea, hl], O, h, xs, env, env', S, eo, rl, ea, q⟩
    · cases ea

mutual
theorem asg_length : ∀ {t : Tg} {d : D} {env env' : Nv}, asg t d env = some env' → env'.length = env.length
  | .n i, d, env, env', e => by cases e; simp
  | .t ts, d, env, env', e => by
    simp only [asg] at e
    split at e
    · exact asgs_length e
    · cases e
theorem asgs_length : ∀ {ts : List Tg} {ds : List D} {env env' : Nv}, asgs ts ds env = some env' → env'.length = env.length
  | [], [], _, _, e => by cases e; rfl
  | [], _ :: _, _, _, e => by cases e
  | _ :: _, [], _, _, e => by cases e
  | t :: ts, d :: ds, env, env', e => by
    simp only [asgs] at e
    split at e
    · rename_i env1 h1
      rw [asgs_length e, asg_length h1]
    · cases e
end
theorem wipeE_length : ∀ (l : List Nat) (env : Nv), (wipeE env l).length = env.length
  | [], _ => rfl
  | v :: vs, env => by unfold wipeE; rw [List.length_set, wipeE_length vs env]
/-! ### comprehensions -/
theorem wipe_get {σ : L2.St} {j : Nat} : ∀ {vs : List Nat}, (wipe σ vs)[j]? = if j ∈ vs then (σ[j]?).map (fun _ => none) else σ[j]?
  | [] => by simp [wipe]
  | v :: vs => by
    show ((wipe σ vs).set v none)[j]? = _
    by_cases hj : v = j
    · subst hj
      rw [if_pos (by simp)]
      by_cases hl : v < (wipe σ vs).length
      · rw [List.getElem?_set_self hl]
        rw [wipe_length] at hl
        rw [List.getElem?_eq_getElem hl]; rfl
      · rw [List.getElem?_eq_none (by rw [List.length_set]; omega)]
        rw [wipe_length] at hl
        rw [List.getElem?_eq_none (by omega)]; rfl
    · rw [List.getElem?_set_ne hj, wipe_get]
      have : (j ∈ v :: vs) ↔ j ∈ vs := by simp [Ne.symm hj]
      by_cases h : j ∈ vs
      · rw [if_pos h, if_pos (this.mpr h)]
      · rw [if_neg h, if_neg (fun z => h (this.mp z))]
theorem wipe_eq {σ σ2 : L2.St} {l vs : List Nat} (hl : σ2.length = σ.length) (h : OnlyAt l (wipe σ vs) σ2) (sub : ∀ j ∈ l, j ∈ vs) : wipe σ2 vs = wipe σ vs := by
  apply List.ext_getElem?
  intro j
  rw [wipe_get, wipe_get]
  by_cases hj : j ∈ vs
  · rw [if_pos hj, if_pos hj]
    by_cases hb : j < σ.length
    · rw [List.getElem?_eq_getElem hb, List.getElem?_eq_getElem (by omega)]; rfl
    · rw [List.getElem?_eq_none (by omega), List.getElem?_eq_none (by omega)]
  · rw [if_neg hj, if_neg hj, h j (fun z => hj (sub j z)), wipe_get, if_neg hj]
theorem NvOk.le {O O' : Om} {env : Nv} {sg : L2.St} (e : NvOk X.K X.mg O env sg) (s : O.Le O') : NvOk X.K X.mg O' env sg :=
  ⟨e.len, fun i d q => let ⟨v, a, b⟩ := e.val i d q; ⟨v, a, b.up s.n s.φ s.F⟩⟩
def W0 : WX := fun _ _ _ _ => False
/-- one turn of a comprehension -/
def turnF (tg : Tg) (ft : Nv → Hs → Res Bool) (fe : Nv → Hs → Res D) (env : Nv) : D → Hs → Res (Option D) := fun x h => ((Res.of (asg tg x env) h).bind fun env2 h => (ft env2 h).bind fun b h => if b then (fe env2 h).bind fun y h => .ok (some y) h else .ok none h).calm
theorem reL_end {sg : L2.St} {O1 O' : Om} {H1 H' : Hp} {h' : Hs} {mm : Bool} {acc : List D} {vs : List V} {Q : VK} {q : Addr} (S : SR X.K X.mg O' h' H') (A : Apart O' H' q) (e : H' q = some (.lst vs)) (rl : RepLX X O' acc vs) (z : vs.length ≤ sizeLine)
    (hq : H1 q = none) (sx : StpX q O1 H1 O' H') (w : Post X W sg O1 H1 (reL mm (.ok (.lst acc) h')) (RepX X) Q) : Q (.ref q) H' := by
  cases mm with
  | false =>
    obtain ⟨s3, S3⟩ := A.frz S e hq sx
    refine (show Post X W sg O1 H1 (.ok (.lst acc) h') (RepX X) Q from w) _ _ _ s3 S3 (.lst (vs := vs) ?_ z (RepL.up (O := O') (O' := O'.frz q (.lst vs)) (Nat.le_refl _) (fun _ _ => rfl) (fun b u t => ?_) rl))
    · show upd O'.F q (.lst vs) q = _
      rw [upd_same]
    · show upd O'.F q (.lst vs) b = _
      rw [upd_ne (fun y => by rw [y, A.nf] at t; cases t)]; exact t
  | true =>
    obtain ⟨s3, S3⟩ := A.cell S hq sx (c := .lst acc) ⟨vs, e, z, rl.more⟩
    refine (show Post X W sg O1 H1 (.ok (.ptr h'.length) (h' ++ [.lst acc])) (RepX X) Q from w) _ _ _ s3 S3 ?_
    have y : RepX X (O'.more q) (.ptr O'.n) (.ref ((O'.more q).φ O'.n)) := .ptr (Nat.lt_succ_self _)
    rw [Om.more_new] at y
    rw [S.len]; exact y
theorem sE_comp {tg : Tg} {tgE iter elt : Expr} {ifs : List Expr} {scope : Scope} {own : List (Str × Nat)} {kS : SrcK} {fe : Nv → Hs → Res D} {mm : Bool} (c : XOk X W G k T) (hi : PI X tgE iter (tI X W kS fs)) (ok : BlkOk X.N X.env.scope scope own)
    (hg : ∀ (s : Shared) (H : Hp) (C : Addr) (cl : List (Str × Addr)) (fp : List Addr), PG (X.blk s H scope (compEnvC scope cl C X.env) fp) tgE (gT X tg))
    (ht : ∀ (s : Shared) (H : Hp) (C : Addr) (cl : List (Str × Addr)) (fp : List Addr), PTs (X.blk s H scope (compEnvC scope cl C X.env) fp) ifs (tT X W0 ft))
    (he : ∀ (s : Shared) (H : Hp) (C : Addr) (cl : List (Str × Addr)) (fp : List Addr), PE (X.blk s H scope (compEnvC scope cl C X.env) fp) elt (tE X W0 fe))
    (hs : setless iter = true) (hsub : ∀ j ∈ ids tg, j ∈ own.map (·.2)) :
    ∃ t, PE X (.ListComp elt [⟨tgE, iter, ifs, 0⟩] scope pos) t ∧ t = tLc (tI X W kS fs) (gT X tg) (tT X W0 ft) (tE X W0 fe) (own.map (·.2)) ∧
      ∀ sg H Q, tE X W (fun env h => reL mm ((fs env h).bind fun ds h => (Res.of (srcD kS ds) h).bind fun xs h => if xs.length ≤ LINE then (compLoop (turnF tg ft fe (wipeE env (own.map (·.2)))) xs h).bind fun ys h => .ok (.lst ys) h else .no)) sg H Q → t sg H Q := by
  refine ⟨_, pe_lc c.calm c.nd hi ok hg ht he (fold_set hs X.env), rfl, fun sg H Q ⟨O, env, h, eo, S, w⟩ => ⟨O, env, h, eo, S, ?_⟩⟩
  have w : Post X W sg O H (reL mm ((fs env h).bind fun ds h => (Res.of (srcD kS ds) h).bind fun xs h => if xs.length ≤ LINE then (compLoop (turnF tg ft fe (wipeE env (own.map (·.2)))) xs h).bind fun ys h => .ok (.lst ys) h else .no)) (RepX X) Q := w
  cases er : fs env h with
  | no => rw [er] at w; cases mm <;> exact (show False from w).elim
  | ex e1 h1 => rw [er] at w; cases mm <;> exact w
  | ok ds h1 =>
    rw [er] at w
    have w : Post X W sg O H (reL mm ((Res.of (srcD kS ds) h1).bind fun xs h => if xs.length ≤ LINE then (compLoop (turnF tg ft fe (wipeE env (own.map (·.2)))) xs h).bind fun ys h => .ok (.lst ys) h else .no)) (RepX X) Q := w
    show Post X W sg O H (Res.of (srcD kS ds) h1) (SrcOk X) _
    cases ex : srcD kS ds with
    | none => rw [ex] at w; cases mm <;> exact (show False from w).elim
    | some xs =>
      rw [ex] at w
      have w : Post X W sg O H (reL mm (if xs.length ≤ LINE then (compLoop (turnF tg ft fe (wipeE env (own.map (·.2)))) xs h1).bind fun ys h => .ok (.lst ys) h else .no)) (RepX X) Q := w
      intro O1 J H1 s1 S1 ⟨Gd, Y, wk, hG, hY⟩ q hq
      split at w
      · rename_i hz
        have LE := LINE_eq
        refine lc_it wk (fun i H' => ∃ O' h' acc vs, SR X.K X.mg O' h' H' ∧ Apart O' H' q ∧ H' q = some (.lst vs) ∧ RepLX X O' acc vs ∧ vs.length ≤ i ∧ StpX q O1 H1 O' H' ∧
          Post X W sg O1 H1 (reL mm ((compLoop (turnF tg ft fe (wipeE env (own.map (·.2)))) (xs.drop i) h').bind fun ys h => .ok (.lst (acc ++ ys)) h)) (RepX X) Q) ?_ (fun i H' hi ⟨O', h', acc, vs, S', A', e', rl, lz, sx, p'⟩ => hG O' h' H' sx.le S') ?_ ?_
        · obtain ⟨A0, S0⟩ := Apart.new S1 hq (.lst [])
          exact ⟨O1, h1, [], [], S0, A0, upd_same, .nil, Nat.le_refl _, StpX.put q O1 H1 _, Post.weak w s1⟩
        · intro i x Ha H' hi ⟨O', h', acc, vs, S', A', e', rl, lz, sx, p'⟩ hy
          have hd : xs[i]? = some xs[i] := List.getElem?_eq_getElem hi
          obtain ⟨O2, s2, S2, r2⟩ := hY O' h' Ha i _ x H' sx.le S' hd hy
          rw [List.drop_eq_getElem_cons hi] at p'
          generalize xs[i] = d at p' r2
          have p' : Post X W sg O1 H1 (reL mm (((turnF tg ft fe (wipeE env (own.map (·.2))) d h').bind fun o h => (compLoop (turnF tg ft fe (wipeE env (own.map (·.2)))) (xs.drop (i + 1)) h).bind fun ys h => .ok (match o with
            | some y => y :: ys
            | none => ys) h).bind fun ys h => .ok (.lst (acc ++ ys)) h)) (RepX X) Q := p'
          have le2 : O.Le O2 := (s1.le.trans sx.le).trans s2.le
          obtain ⟨A2, e2⟩ := A'.stp s2 e'
          cases ea : asg tg d (wipeE env (own.map (·.2))) with
          | none => rw [show turnF tg ft fe (wipeE env (own.map (·.2))) d h' = .no by unfold turnF; rw [ea]; rfl] at p'; cases mm <;> exact (show False from p').elim
          | some env2 =>
            have et : turnF tg ft fe (wipeE env (own.map (·.2))) d h' = ((ft env2 h').bind fun b h => if b then (fe env2 h).bind fun y h => .ok (some y) h else .ok none h).calm := by unfold turnF; rw [ea]; rfl
            rw [et] at p'
            refine ⟨O2, h', d, _, env2, S2, (eo.le le2).wipe _, r2, ea, fun σ2 nv2 only => ⟨wipe_eq (by rw [← nv2.len, ← eo.len, asg_length ea, wipeE_length]) only hsub, O2, env2, h', nv2, S2, ?_⟩⟩
            cases ef : ft env2 h' with
            | no => rw [ef] at p'; cases mm <;> exact (show False from p').elim
            | ex e1 h1 => rw [ef] at p'; cases mm <;> exact (show False from p').elim
            | ok b h3 =>
              rw [ef] at p'
              intro O3 b' H3 s3 S3 (rb : b = b')
              subst rb
              obtain ⟨A3, e3⟩ := A2.stp s3 e2
              cases b with
              | false =>
                rw [if_neg (by decide)]
                have p' : Post X W sg O1 H1 (reL mm (((compLoop (turnF tg ft fe (wipeE env (own.map (·.2)))) (xs.drop (i + 1)) h3).bind fun ys h => .ok ys h).bind fun ys h => .ok (.lst (acc ++ ys)) h)) (RepX X) Q := p'
                rw [Res.bind_assoc] at p'
                exact ⟨O3, h3, acc, vs, S3, A3, e3, (rl.stp s2).stp s3, by omega, (sx.trans s2.x).trans s3.x, p'⟩
              | true =>
                rw [if_pos rfl]
                refine ⟨O3, env2, h3, nv2.stp s3, S3, ?_⟩
                have p' : Post X W sg O1 H1 (reL mm (((((fe env2 h3).bind fun y h => Res.ok (some y) h).calm).bind fun o h => (compLoop (turnF tg ft fe (wipeE env (own.map (·.2)))) (xs.drop (i + 1)) h).bind fun ys h => .ok (match o with
                  | some y => y :: ys
                  | none => ys) h).bind fun ys h => .ok (.lst (acc ++ ys)) h)) (RepX X) Q := p'
                cases eg : fe env2 h3 with
                | no => rw [eg] at p'; cases mm <;> exact (show False from p').elim
                | ex e1 h1 => rw [eg] at p'; cases mm <;> exact (show False from p').elim
                | ok y h4 =>
                  rw [eg] at p'
                  intro O4 vy H4 s4 S4 ry
                  obtain ⟨A4, e4⟩ := A3.stp s4 e3
                  refine ⟨vs, e4, by omega, O4, h4, acc ++ [y], vs ++ [vy], A4.srU S4 _, A4.upd _, upd_same, (((rl.stp s2).stp s3).stp s4).app (.cons ry .nil), by simp; omega, (((sx.trans s2.x).trans s3.x).trans s4.x).trans (StpX.put q O4 H4 _), ?_⟩
                  have p' : Post X W sg O1 H1 (reL mm (((compLoop (turnF tg ft fe (wipeE env (own.map (·.2)))) (xs.drop (i + 1)) h4).bind fun ys h => .ok (y :: ys) h).bind fun ys h => .ok (.lst (acc ++ ys)) h)) (RepX X) Q := p'
                  rw [Res.bind_assoc] at p'
                  have : (fun ys h => Res.ok (D.lst ((acc ++ [y]) ++ ys)) h : List D → Hs → Res D) = fun ys h => (Res.ok (y :: ys) h).bind fun ys h => .ok (.lst (acc ++ ys)) h := by
                    funext ys h
                    simp
                  rw [this]
                  exact p'
        · intro H' ⟨O', h', acc, vs, S', A', e', rl, lz, sx, p'⟩
          rw [List.drop_length] at p'
          have p' : Post X W sg O1 H1 (reL mm (.ok (.lst (acc ++ [])) h')) (RepX X) Q := p'
          rw [List.append_nil] at p'
          exact reL_end S' A' e' rl (by omega) hq sx p'
      · cases mm <;> exact (show False from w).elim
theorem ts_nil : PTs X [] (tT X W fun _ h => .ok true h) := ⟨fun pn s sg H Q I ⟨O, env, h, eo, S, w⟩ => pts_nil.run pn s sg H Q I (w.here S rfl)⟩
/-! ### ranges -/
theorem rg_ok (O : Om) (lo hi : Int) : RepLX X O (rngD lo hi) (rgV lo hi) := by
  have z : ∀ l : List Nat, RepLX X O (l.map fun i => D.int (lo + (i : Nat))) (l.map fun i => V.int (lo + (i : Nat))) := fun l => by
    induction l with
    | nil => exact .nil
    | cons a l ih => exact .cons (.int _) ih
  exact z _
theorem reL_new {sg : L2.St} {O : Om} {H : Hp} {h : Hs} {mm : Bool} {ds : List D} {vs : List V} {Q : VK} (S : SR X.K X.mg O h H) (r : RepLX X O ds vs) (z : vs.length ≤ sizeLine) (w : Post X W sg O H (reL mm (.ok (.lst ds) h)) (RepX X) Q) {q : Addr} (hq : H q = none) : Q (.ref q) (upd H q (.lst vs)) := by
  refine mk_ok (W := W) (sg := sg) (m := mm) S r z ?_ hq
  cases mm <;> exact w
def tRg (X : Cx) (W : WX) (fs : Nv → Hs → Res (List D)) : L2.St → Hp → (Int → Int → Hp → Prop) → Prop := fun sg H Q => ∃ (O : Om) (env : Nv) (h : Hs), NvOk X.K X.mg O env sg ∧ SR X.K X.mg O h H ∧ Post X W sg O H ((fs env h).bind fun ds h => Res.of (rngA ds) h) (fun _ xs (ab : Int × Int) => xs = rngD ab.1 ab.2 ∧ rngOk ab.1 = true ∧ rngOk ab.2 = true) fun ab H' => Q ab.1 ab.2 H'
theorem sR_1 (hg : Gl X "range") (hm : X.mg "range" = none) (hs : starless a = true) (ha : PE X a (tE X W fa)) : PRg X (.Call (.Name "range" p) [a] [] pos) (tRg X W fun env h => (fa env h).bind fun d h => .ok [d] h) :=
  fun pn s sg H Q I ⟨O, env, h, eo, S, w⟩ => prg_1 hg hm ha (star_cons hs [] X.env) pn s sg H Q I ⟨O, env, h, eo, S, by
    have w : Post X W sg O H (((fa env h).bind fun d h => Res.ok [d] h).bind fun ds h => Res.of (rngA ds) h) (fun _ xs (ab : Int × Int) => xs = rngD ab.1 ab.2 ∧ rngOk ab.1 = true ∧ rngOk ab.2 = true) fun ab H' => Q ab.1 ab.2 H' := w
    rw [Res.bind_assoc] at w
    refine w.bind fun d h1 O1 v H1 _ s1 S1 r1 p1 => ?_
    obtain ⟨xs, ex, q⟩ := Post.of (o := rngA [d]) p1 S1
    cases d with
    | int j =>
      simp only [rngA] at ex
      split at ex
      · rename_i hj; cases ex; exact ⟨j, r1.int_inv, q (0, j) ⟨rfl, (by decide : rngOk 0 = true), hj⟩⟩
      · cases ex
    | _ => cases ex⟩
theorem sR_2 (hg : Gl X "range") (hm : X.mg "range" = none) (hs : starless a = true) (ht : starless b = true) (ha : PE X a (tE X W fa)) (hb : PE X b (tE X W fb)) : PRg X (.Call (.Name "range" p) [a, b] [] pos) (tRg X W fun env h => (fa env h).bind fun d h => ((fb env h).bind fun d2 h => Res.ok [d2] h).bind fun ds h => .ok (d :: ds) h) :=
  fun pn s sg H Q I ⟨O, env, h, eo, S, w⟩ => prg_2 hg hm ha hb (star_cons hs _ X.env) (star_cons ht [] X.env) (by rw [star_cons ht]; rfl) pn s sg H Q I ⟨O, env, h, eo, S, by
    have w : Post X W sg O H (((fa env h).bind fun d h => ((fb env h).bind fun d2 h => Res.ok [d2] h).bind fun ds h => Res.ok (d :: ds) h).bind fun ds h => Res.of (rngA ds) h) (fun _ xs (ab : Int × Int) => xs = rngD ab.1 ab.2 ∧ rngOk ab.1 = true ∧ rngOk ab.2 = true) fun ab H' => Q ab.1 ab.2 H' := w
    rw [Res.bind_assoc] at w
    refine w.bind fun d h1 O1 v H1 _ s1 S1 r1 p1 => ⟨O1, env, h1, eo.stp s1, S1, ?_⟩
    rw [Res.bind_assoc, Res.bind_assoc] at p1
    refine p1.bind fun d2 h2 O2 v2 H2 _ s2 S2 r2 p2 => ?_
    obtain ⟨xs, ex, q⟩ := Post.of (o := rngA [d, d2]) p2 S2
    cases d with
    | int i =>
      cases d2 with
      | int j =>
        simp only [rngA] at ex
        split at ex
        · rename_i hj
          simp only [Bool.and_eq_true] at hj
          cases ex; exact ⟨i, j, r1.int_inv, r2.int_inv, q (i, j) ⟨rfl, hj.1, hj.2⟩⟩
        · cases ex
      | _ => cases ex
    | _ => cases ex⟩
theorem rgOk_of {lo hi : Int} (h1 : rngOk lo = true) (h2 : rngOk hi = true) (h3 : (rngD lo hi).length ≤ LINE) : RgOk lo hi ∧ (rgV lo hi).length ≤ sizeLine := by
  have a1 := rngOk_ok h1
  have a2 := rngOk_ok h2
  have e : (rngD lo hi).length = (hi - lo).toNat := by simp [rngD]
  have e2 := rgV_length lo hi
  have LE := LINE_eq
  have e3 : LINE = 2 ^ 24 := rfl
  exact ⟨⟨a1.1, a1.2, a2.1, a2.2, by omega⟩, by omega⟩
theorem rg_post {sg : L2.St} {O : Om} {H : Hp} {h : Hs} {fs : Nv → Hs → Res (List D)} {env : Nv} {mm : Bool} {F : List D → Hs → Res D} {Q : VK} {R : Int → Int → Hp → Prop} (w : Post X W sg O H (reL mm ((fs env h).bind fun ds h => (Res.of (rngA ds) h).bind fun xs h => if xs.length ≤ LINE then F xs h else .no)) (RepX X) Q)
    (k : ∀ (lo hi : Int) (O1 : Om) (h1 : Hs) (H1 : Hp), SR X.K X.mg O1 h1 H1 → RgOk lo hi ∧ (rgV lo hi).length ≤ sizeLine → Post X W sg O1 H1 (reL mm (F (rngD lo hi) h1)) (RepX X) Q → R lo hi H1) :
    Post X W sg O H ((fs env h).bind fun ds h => Res.of (rngA ds) h) (fun _ xs (ab : Int × Int) => xs = rngD ab.1 ab.2 ∧ rngOk ab.1 = true ∧ rngOk ab.2 = true) fun ab H' => R ab.1 ab.2 H' := by
  cases er : fs env h with
  | no => rw [er] at w; cases mm <;> exact w
  | ex e1 h1 => rw [er] at w; cases mm <;> exact w
  | ok ds h1 =>
    rw [er] at w
    have w : Post X W sg O H (reL mm ((Res.of (rngA ds) h1).bind fun xs h => if xs.length ≤ LINE then F xs h else .no)) (RepX X) Q := w
    show Post X W sg O H (Res.of (rngA ds) h1) _ _
    cases ex : rngA ds with
    | none => rw [ex] at w; cases mm <;> exact w
    | some xs =>
      rw [ex] at w
      have w : Post X W sg O H (reL mm (if xs.length ≤ LINE then F xs h1 else .no)) (RepX X) Q := w
      intro O1 ab H1 s1 S1 ⟨e, g1, g2⟩
      subst e
      split at w
      · rename_i hz
        exact k _ _ O1 h1 H1 S1 (rgOk_of g1 g2 hz) (Post.weak w s1)
      · cases mm <;> exact (show False from w).elim
theorem sE_lrg {mm : Bool} {e : Expr} (hc : X.calm = true) (hg : Gl X "list") (hm : X.mg "list" = none) (hs : starless e = true) (he : PRg X e (tRg X W fs)) :
    PE X (.Call (.Name "list" p) [e] [] pos) (tE X W fun env h => reL mm ((fs env h).bind fun ds h => (Res.of (rngA ds) h).bind fun xs h => if xs.length ≤ LINE then .ok (.lst xs) h else .no)) :=
  PE.weak (pe_listRg hc hg hm he (star_cons hs [] X.env)) fun sg H Q ⟨O, env, h, eo, S, w⟩ => ⟨O, env, h, eo, S, rg_post (R := fun a b H1 => RgOk a b ∧ ∀ q, H1 q = none → Q (.ref q) (upd H1 q (.lst (rgV a b)))) w fun lo hi O1 h1 H1 S1 hr w1 => ⟨hr.1, fun q hq => reL_new S1 (rg_ok O1 lo hi) hr.2 w1 hq⟩⟩
theorem sE_trg {e : Expr} (hc : X.calm = true) (hg : Gl X "tuple") (hm : X.mg "tuple" = none) (hs : starless e = true) (he : PRg X e (tRg X W fs)) :
    PE X (.Call (.Name "tuple" p) [e] [] pos) (tE X W fun env h => reL false ((fs env h).bind fun ds h => (Res.of (rngA ds) h).bind fun xs h => if xs.length ≤ LINE then .ok (.tup xs) h else .no)) :=
  PE.weak (pe_tupRg hc hg hm he (star_cons hs [] X.env)) fun sg H Q ⟨O, env, h, eo, S, w⟩ => ⟨O, env, h, eo, S, rg_post (R := fun a b H1 => RgOk a b ∧ ∀ q, H1 q = none → Q (.ref q) (upd H1 q (.tup (rgV a b)))) w fun lo hi O1 h1 H1 S1 hr w1 => ⟨hr.1, fun q hq => Post.new (show Post X W sg O1 H1 (.ok (.tup (rngD lo hi)) h1) (RepX X) Q from w1) S1 hq _ (frz_tup S1 hq hr.2 (rg_ok O1 lo hi))⟩⟩
end
end SI
end
section
set_option Elab.async false
set_option linter.all false
set_option maxRecDepth 100000
set_option maxHeartbeats 4000000
/-! SI15: statements. -/
namespace SI
open PySem PySem.Spec PyProof.Rows L2

section
variable (X : Cx) (W : WX)
/-- what is wanted behind a plain outcome of statements -/
def PostS (Dn : Ends) (O : Om) (H : Hp) (r : SRes) : Prop := match r with
  | .nx env' h' => ∀ (O' : Om) (sg' : L2.St) (H' : Hp), Stp O H O' H' → SR X.K X.mg O' h' H' → NvOk X.K X.mg O' env' sg' → Dn.nx sg' H'
  | .bk env' h' => ∀ (O' : Om) (sg' : L2.St) (H' : Hp), Stp O H O' H' → SR X.K X.mg O' h' H' → NvOk X.K X.mg O' env' sg' → Dn.bk sg' H'
  | .ct env' h' => ∀ (O' : Om) (sg' : L2.St) (H' : Hp), Stp O H O' H' → SR X.K X.mg O' h' H' → NvOk X.K X.mg O' env' sg' → Dn.ct sg' H'
  | .rt d h' => ∀ (O' : Om) (v : V) (H' : Hp), Stp O H O' H' → SR X.K X.mg O' h' H' → RepX X O' d v → Dn.rt v H'
  | .ex e env' h' => ∀ (O' : Om) (cls : Value) (d : Option Addr) (sg' : L2.St) (H' : Hp), Stp O H O' H' → SR X.K X.mg O' h' H' → NvOk X.K X.mg O' env' sg' → ExOk X.K X.mg O' e cls d → W cls d sg' H'
  | .no => False
def tS (f : Nv → Hs → SRes) : TS := fun Dn sg H => ∃ (O : Om) (env : Nv) (h : Hs), NvOk X.K X.mg O env sg ∧ SR X.K X.mg O h H ∧ PostS X W Dn O H (f env h)
end
section
variable {X : Cx} {W : WX} {G : Wr} {k : Nat} {T : Tab} {a b e o i : Expr} {es : List Expr} {p pos apos : Pos} {fa fb fc : Nv → Hs → Res D} {fs : Nv → Hs → Res (List D)} {ft : Nv → Hs → Res Bool} {x m : Str} {f g : Nv → Hs → SRes} {st : Stmt} {sts : List Stmt}
theorem PostS.weak {Dn : Ends} {O O1 : Om} {H H1 : Hp} {r : SRes} (p : PostS X W Dn O H r) (s : Stp O H O1 H1) : PostS X W Dn O1 H1 r := by
  cases r with
  | nx env h => exact fun O' sg' H' t => p O' sg' H' (s.trans t)
  | bk env h => exact fun O' sg' H' t => p O' sg' H' (s.trans t)
  | ct env h => exact fun O' sg' H' t => p O' sg' H' (s.trans t)
  | rt d h => exact fun O' v H' t => p O' v H' (s.trans t)
  | ex e env h => exact fun O' c d sg' H' t => p O' c d sg' H' (s.trans t)
  | no => exact p
/-- an expression, then what comes of it -/
theorem PostS.bind {α β : Type} {Dn : Ends} {O : Om} {H : Hp} {env : Nv} {sg : L2.St} {r : Res α} {g : α → Hs → SRes} {rep : Om → α → β → Prop} {Q' : β → Hp → Prop} (p : PostS X W Dn O H (r.sbind env g)) (eo : NvOk X.K X.mg O env sg)
    (k : ∀ (a : α) (h1 : Hs) (O1 : Om) (b : β) (H1 : Hp), r = .ok a h1 → Stp O H O1 H1 → SR X.K X.mg O1 h1 H1 → rep O1 a b → PostS X W Dn O1 H1 (g a h1) → Q' b H1) : Post X W sg O H r rep Q' := by
  cases r with
  | ok a h => exact fun O' b H' s sr rb => k a h O' b H' rfl s sr rb (PostS.weak p s)
  | ex e h => exact fun O' c d H' s sr x => p O' c d sg H' s sr (eo.stp s) x
  | no => exact p
theorem sS_never : PS X st (tS X W fun _ _ => .no) := PS.weak ps_never fun Dn sg H ⟨O, env, h, eo, S, w⟩ => w
/-- what a stored value comes to -/
theorem asg_post {Dn : Ends} {O : Om} {H : Hp} {h : Hs} {env : Nv} {sg : L2.St} {d : D} {v : V} {tg : Tg} (S : SR X.K X.mg O h H) (eo : NvOk X.K X.mg O env sg) (r : RepX X O d v) (w : PostS X W Dn O H (match asg tg d env with
      | some env => .nx env h
      | none => .no)) : gT X tg v sg H Dn.nx := by
  cases ea : asg tg d env with
  | none => rw [ea] at w; exact w.elim
  | some env' =>
    rw [ea] at w
    exact ⟨O, h, d, env, env', S, eo, r, ea, fun sg' e' _ => w O sg' H (Stp.refl _ _) S e'⟩
/-- t = e -/
theorem sS_set {tg : Tg} {t : Expr} (ha : PE X e (tE X W fa)) (hg : PG X t (gT X tg)) (hs : swapsWithSole [t] e pos.line X.env = pure false) (hw : swappedStores [t] e X.env = pure none) (ht : starless t = true) :
    PS X (.Assign [t] e pos) (tS X W fun env h => (fa env h).sbind env fun d h => match asg tg d env with
      | some env => .nx env h
      | none => .no) :=
  PS.weak (ps_asg ha hg hs hw (by rw [asgE_cons ht]; rfl)) fun Dn sg H ⟨O, env, h, eo, S, w⟩ => ⟨O, env, h, eo, S, PostS.bind w eo fun d h1 O1 v H1 _ s1 S1 r1 p1 => asg_post S1 (eo.stp s1) r1 p1⟩
/-- a, b = e, f -/
theorem sS_par {i j : Nat} {y : Str} {px py pt : Pos} {kt k2 : Nat} {pt2 : Pos} (hc : X.calm = true) (hN : X.N.Nodup) (hi : X.N[i]? = some x) (hj : X.N[j]? = some y) (hij : i ≠ j) (hx : X.env.scope.names.lookup x = some .local) (hy : X.env.scope.names.lookup y = some .local)
    (hs : starless a = true) (ht : starless b = true) (ha : PE X a (tE X W fa)) (hb : PE X b (tE X W fb)) (hw : swappedStores [.Tuple [.Name x px, .Name y py] kt pt] (.Tuple [a, b] k2 pt2) X.env = pure (some [x, y])) :
    PS X (.Assign [.Tuple [.Name x px, .Name y py] kt pt] (.Tuple [a, b] k2 pt2) pos) (tS X W fun env h => (fa env h).sbind env fun x h => (fb env h).sbind env fun y h => .nx ((env.set i (some x)).set j (some y)) h) :=
  PS.weak (ps_par hc hN hi hj hij hx hy (sA_cons hs ha (sA_one ht hb)) hw) fun Dn sg H ⟨O, env, h, eo, S, w⟩ => ⟨O, env, h, eo, S, by
    show Post X W sg O H ((fa env h).bind fun d h => ((fb env h).bind fun d2 h => Res.ok [d2] h).bind fun ds h => .ok (d :: ds) h) (RepLX X) _
    have w : PostS X W Dn O H ((fa env h).sbind env fun x h => (fb env h).sbind env fun y h => .nx ((env.set i (some x)).set j (some y)) h) := w
    cases er : fa env h with
    | no => rw [er] at w; exact w
    | ex e1 h1 => rw [er] at w; exact fun O' c d H' s sr x => w O' c d sg H' s sr (eo.stp s) x
    | ok d h1 =>
      rw [er] at w
      have w : PostS X W Dn O H ((fb env h1).sbind env fun y h => .nx ((env.set i (some d)).set j (some y)) h) := w
      show Post X W sg O H (((fb env h1).bind fun d2 h => Res.ok [d2] h).bind fun ds h => .ok (d :: ds) h) (RepLX X) _
      cases er2 : fb env h1 with
      | no => rw [er2] at w; exact w
      | ex e1 h1 => rw [er2] at w; exact fun O' c d H' s sr x => w O' c d sg H' s sr (eo.stp s) x
      | ok d2 h2 =>
        rw [er2] at w
        intro O2 vs H2 s2 S2 r2
        cases r2 with
        | cons ra t =>
          cases t with
          | cons rb t =>
            cases t
            exact ⟨_, _, rfl, w O2 _ H2 s2 S2 (((eo.stp s2).set i ra).set j rb)⟩⟩
/-! ### o[i] = e -/
def rSetD : TSet := fun o i v H Q => ∃ a H', o = .ref a ∧ DPut H a i v H' ∧ Q H'
theorem set_dict (hu : X.A.units + 1 < cLine) : PSet X rSetD := fun pn s sg H o i v ov iv u Q I ro ri rv ⟨a, H', e, g, q⟩ => by
  subst e
  obtain rfl : ov = Value.ref a := ro
  exact d_setItem hu I g ri rv fun s' I' => ⟨H', I', q⟩
theorem PSet.or {t t' : TSet} (h : PSet X t) (h' : PSet X t') : PSet X fun o i v H Q => t o i v H Q ∨ t' o i v H Q := fun pn s sg H o i v ov iv u Q I ro ri rv q => by
  rcases q with q | q
  · exact h pn s sg H o i v ov iv u Q I ro ri rv q
  · exact h' pn s sg H o i v ov iv u Q I ro ri rv q
theorem set_ok {O : Om} {H : Hp} {h h' : Hs} (S : SR X.K X.mg O h H) {o i v : D} {ov iv u : V} (ro : RepX X O o ov) (ri : RepX X O i iv) (rv : RepX X O v u) (e : setIxD h o i v = some h') {Q : Hp → Prop} (q : ∀ H', Stp O H O H' → SR X.K X.mg O h' H' → Q H') :
    rSetL ov iv u H Q ∨ rSetD ov iv u H Q := by
  unfold setIxD at e
  split at e
  · rename_i n
    split at e
    · rename_i xs hn
      split at e
      · rename_i j
        split at e
        · rename_i j' hj
          cases e
          obtain ⟨hlt, vs, hv, z, rl⟩ := S.at hn
          cases ro
          rw [ri.int_inv]
          rw [rl.length] at hj
          obtain ⟨s3, S3⟩ := S.put (o := .lst (vs.set j' u)) hn (by simp) (c := .lst (xs.set j' v)) ⟨_, upd_same, by rw [List.length_set]; exact z, rl.set j' rv⟩
          exact .inl ⟨_, vs, j, j', rfl, rfl, hv, hj, q _ s3 S3⟩
        · cases e
      · cases e
    · rename_i c _ hn
      split at e
      · rename_i c' hp
        cases e
        obtain ⟨H', g, s3, S3⟩ := dput_ok S hn ri rv hp
        cases ro
        exact .inr ⟨_, H', rfl, g, q _ s3 S3⟩
      · cases e
    · cases e
  · cases e
theorem assign_ix (h : sliceless i = true) {opos : Pos} {env : PySem.Env} : ∀ v, assign (.Subscript o i opos) env v = (do
      let ov ← holding [v] (eval o env)
      let iv ← holding [v, ov] (eval i env)
      standAt opos
      holding [v, ov, iv] (setItem ov iv v)
      release [v, ov, iv] []) := by
  intro v
  cases i <;> first | rfl | cases h
theorem no_swapS (hs : compless e = true) (t : Expr) (l : Nat) (env : PySem.Env) : swapsWithSole [t] e l env = pure false := no_swap hs _ _ _
theorem sS_setix {opos : Pos} (c : XOk X W G k T) (hi : sliceless i = true) (ho : PE X o (tE X W fa)) (hx : PE X i (tE X W fb)) (he : PE X e (tE X W fc)) (hs : compless e = true) :
    PS X (.Assign [.Subscript o i opos] e pos) (tS X W fun env h => (fc env h).sbind env fun v h => (fa env h).sbind env fun x h => (fb env h).sbind env fun y h => match setIxD h x y v with
      | some h => .nx env h
      | none => .no) :=
  PS.weak (ps_asg he (pg_sub ho hx (PSet.or set_list (set_dict (by have := c.room.units; omega))) (assign_ix hi)) (no_swapS hs _ _ _) (by cases e <;> rfl) (by rfl)) fun Dn sg H ⟨O, env, h, eo, S, w⟩ =>
    ⟨O, env, h, eo, S, PostS.bind w eo fun v h1 O1 vv H1 _ s1 S1 r1 p1 => ⟨O1, env, h1, eo.stp s1, S1, PostS.bind p1 (eo.stp s1) fun x h2 O2 xv H2 _ s2 S2 r2 p2 => ⟨O2, env, h2, (eo.stp s1).stp s2, S2, PostS.bind p2 ((eo.stp s1).stp s2) fun y h3 O3 yv H3 _ s3 S3 r3 p3 => by
      cases es : setIxD h3 x y v with
      | none => rw [es] at p3; exact p3.elim
      | some h' =>
        rw [es] at p3
        exact set_ok S3 (r2.stp s3) r3 ((r1.stp s2).stp s3) es fun H' s4 S4 => p3 O3 sg H' s4 S4 ((((eo.stp s1).stp s2).stp s3).stp s4)⟩⟩⟩
/-! ### o.f = e -/
theorem putF_ok {O : Om} {f : Str} {d : D} {v : V} (q : RepX X O d v) : ∀ {ds : List (Str × D)} {ws : List (Str × V)}, RepP X.K X.mg O ds ws → RepP X.K X.mg O (putFD f d ds) (putF f v ws)
  | _, _, .nil => .cons q .nil
  | _, _, .cons (k := k) r t => by
    unfold putFD putF
    by_cases h : k = f
    · simp only [h, if_true]; exact .cons q t
    · simp only [h, if_false]; exact .cons r (putF_ok q t)
theorem sS_setf {f : Str} {opos : Pos} (c : XOk X W G k T) (hf : f ∈ T.attrs) (ho : PE X o (tE X W fa)) (he : PE X e (tE X W fc)) (hs : compless e = true) :
    PS X (.Assign [.Attribute o f opos] e pos) (tS X W fun env h => (fc env h).sbind env fun v h => (fa env h).sbind env fun x h => match setFD G h x f v with
      | some h => .nx env h
      | none => .no) :=
  PS.weak (ps_fld ho he (no_swap hs _ _ _)) fun Dn sg H ⟨O, env, h, eo, S, w⟩ =>
    ⟨O, env, h, eo, S, PostS.bind w eo fun v h1 O1 vv H1 _ s1 S1 r1 p1 => ⟨O1, env, h1, eo.stp s1, S1, PostS.bind p1 (eo.stp s1) fun x h2 O2 xv H2 _ s2 S2 r2 p2 => by
      cases es : setFD G h2 x f v with
      | none => rw [es] at p2; exact p2.elim
      | some h' =>
        rw [es] at p2
        cases x with
        | ptr n =>
          simp only [setFD] at es
          split at es
          · rename_i C fl hn
            split at es
            · rename_i hg
              cases es
              simp only [Bool.and_eq_true, decide_eq_true_eq] at hg
              obtain ⟨hlt, cl, dx, ws, hm, ha, rp⟩ := S2.at hn
              have q := c.wf.cls C hg.1 cl hm
              cases r2
              obtain ⟨s3, S3⟩ := S2.put (o := .ins cl dx (putF f vv ws)) hn (by simp) (c := .ins C (putFD f v fl)) ⟨cl, dx, _, hm, upd_same, putF_ok (r1.stp s2) rp⟩
              exact ⟨_, cl, dx, ws, rfl, ha, q.1.cl, q.2.1 f hf, by rw [← rp.len]; exact hg.2, p2 O2 sg _ s3 S3 (((eo.stp s1).stp s2).stp s3)⟩
            · cases es
          · cases es
        | _ => cases es⟩⟩
/-! ### the rest -/
theorem sS_ex (ha : PE X e (tE X W fa)) (hs : compless e = true) : PS X (.Expr e pos) (tS X W fun env h => (fa env h).sbind env fun _ h => .nx env h) :=
  PS.weak (ps_expr ha (no_swap hs _ _ _)) fun Dn sg H ⟨O, env, h, eo, S, w⟩ => ⟨O, env, h, eo, S, PostS.bind w eo fun d h1 O1 v H1 _ s1 S1 r1 p1 => p1 O1 sg H1 (Stp.refl _ _) S1 (eo.stp s1)⟩
theorem sS_ret (ha : PE X e (tE X W fa)) : PS X (.Return (some e) pos) (tS X W fun env h => (fa env h).sbind env fun d h => .rt d h) :=
  PS.weak (ps_ret ha) fun Dn sg H ⟨O, env, h, eo, S, w⟩ => ⟨O, env, h, eo, S, PostS.bind w eo fun d h1 O1 v H1 _ s1 S1 r1 p1 => p1 O1 v H1 (Stp.refl _ _) S1 r1⟩
theorem sS_retN : PS X (.Return none pos) (tS X W fun _ h => .rt .non h) := PS.weak ps_retN fun Dn sg H ⟨O, env, h, eo, S, w⟩ => w O _ H (Stp.refl _ _) S .non
theorem sS_pass : PS X (.Pass pos) (tS X W fun env h => .nx env h) := PS.weak ps_pass fun Dn sg H ⟨O, env, h, eo, S, w⟩ => w O sg H (Stp.refl _ _) S eo
theorem sS_brk : PS X (.Break pos) (tS X W fun env h => .bk env h) := PS.weak ps_break fun Dn sg H ⟨O, env, h, eo, S, w⟩ => w O sg H (Stp.refl _ _) S eo
theorem sS_cnt : PS X (.Continue pos) (tS X W fun env h => .ct env h) := PS.weak ps_continue fun Dn sg H ⟨O, env, h, eo, S, w⟩ => w O sg H (Stp.refl _ _) S eo
theorem sS_doc {z : Str} {j : Nat} {p2 : Pos} : PS X (.Expr (.Constant (.str z) j p2) pos) (tS X W fun env h => .nx env h) := PS.weak ps_doc fun Dn sg H ⟨O, env, h, eo, S, w⟩ => w O sg H (Stp.refl _ _) S eo
theorem sSs_nil : PSs X [] (tS X W fun env h => .nx env h) := PSs.weak pss_nil fun Dn sg H ⟨O, env, h, eo, S, w⟩ => w O sg H (Stp.refl _ _) S eo
theorem then_post {Dn : Ends} {O : Om} {H : Hp} {r : SRes} (w : PostS X W Dn O H (r.then g)) : PostS X W { Dn with nx := tS X W g Dn } O H r := by
  cases r with
  | nx env h => exact fun O' sg' H' s S e => ⟨O', env, h, e, S, PostS.weak w s⟩
  | _ => exact w
theorem sSs_cons (h1 : PS X st (tS X W f)) (h2 : PSs X sts (tS X W g)) : PSs X (st :: sts) (tS X W fun env h => (f env h).then g) :=
  PSs.weak (pss_cons h1 h2) fun Dn sg H ⟨O, env, h, eo, S, w⟩ => ⟨O, env, h, eo, S, then_post w⟩
/-- a note of the reader's: the list changes no more -/
theorem sSs_frz {j : Nat} (h2 : PSs X sts (tS X W g)) : PSs X sts (tS X W fun env h => (match get env j with
      | some (.ptr p) => match h[p]? with
        | some (.lst xs) => .nx (env.set j (some (.lst xs))) (h.set p .dead)
        | _ => .no
      | some (.lst xs) => .nx env h
      | _ => .no : SRes).then g) :=
  PSs.weak h2 fun Dn sg H ⟨O, env, h, eo, S, w⟩ => by
    have w : PostS X W Dn O H ((match get env j with
      | some (.ptr p) => match h[p]? with
        | some (.lst xs) => .nx (env.set j (some (.lst xs))) (h.set p .dead)
        | _ => .no
      | some (.lst xs) => .nx env h
      | _ => .no : SRes).then g) := w
    split at w
    · rename_i n hg
      split at w
      · rename_i xs hn
        obtain ⟨O2, s2, S2, r2⟩ := S.freeze hn
        obtain ⟨v, hv, rv⟩ := get_ok eo hg
        cases rv
        refine ⟨O2, _, _, ?_, S2, PostS.weak w s2⟩
        have z := (eo.stp s2).set j r2
        rwa [show sg.set j (some (.ref (O.φ n))) = sg by
          apply List.ext_getElem?
          intro q
          by_cases hq : j = q
          · subst hq
            rw [List.getElem?_set_self (List.getElem?_eq_some_iff.mp hv).1, hv]
          · rw [List.getElem?_set_ne hq]] at z
      · exact w.elim
    · exact ⟨O, env, h, eo, S, w⟩
    · exact w.elim
theorem sS_ife {ss ts : List Stmt} (hc : PT X e (tT X W ft)) (ha : PSs X ss (tS X W f)) (hb : PSs X ts (tS X W g)) : PS X (.If e ss ts pos) (tS X W fun env h => (ft env h).sbind env fun k h => if k then f env h else g env h) :=
  PS.weak (ps_if hc ha hb) fun Dn sg H ⟨O, env, h, eo, S, w⟩ => ⟨O, env, h, eo, S, PostS.bind w eo fun c h1 O1 c' H1 _ s1 S1 r1 p1 => by
    cases (show c = c' from r1)
    cases c with
    | true => rw [if_pos rfl] at p1 ⊢; exact ⟨O1, env, h1, eo.stp s1, S1, p1⟩
    | false => rw [if_neg (by decide)] at p1 ⊢; exact ⟨O1, env, h1, eo.stp s1, S1, p1⟩⟩
/-- for t in ..: -/
theorem sS_loop {tg : Tg} {t iter : Expr} {body : List Stmt} {kS : SrcK} (c : XOk X W G k T) (hp : PassesOwn (model X.prog X.w) X.A X.env X.xe) (hi : PI X t iter (tI X W kS fs)) (hg : PG X t (gT X tg)) (hb : PSs X body (tS X W f)) (hs : setless iter = true) :
    PS X (.For t iter body [] pos) (tS X W fun env h => (fs env h).sbind env fun ds h => match srcD kS ds with
      | some xs => forLoop (fun x env h => match asg tg x env with
        | some env => f env h
        | none => .no) xs env h
      | none => .no) :=
  PS.weak (ps_for hp c.calm hi hg hb (fold_set hs X.env)) fun Dn sg H ⟨O, env, h, eo, S, w⟩ => ⟨O, env, h, eo, S, by
    have w : PostS X W Dn O H ((fs env h).sbind env fun ds h => match srcD kS ds with
      | some xs => forLoop (fun x env h => match asg tg x env with
        | some env => f env h
        | none => .no) xs env h
      | none => .no) := w
    cases er : fs env h with
    | no => rw [er] at w; exact w.elim
    | ex e1 h1 => rw [er] at w; exact fun O' c d H' s sr x => w O' c d sg H' s sr (eo.stp s) x
    | ok ds h1 =>
      rw [er] at w
      have w : PostS X W Dn O H (match srcD kS ds with
        | some xs => forLoop (fun x env h => match asg tg x env with
          | some env => f env h
          | none => .no) xs env h1
        | none => .no) := w
      show Post X W sg O H (Res.of (srcD kS ds) h1) (SrcOk X) _
      cases ex : srcD kS ds with
      | none => rw [ex] at w; exact w.elim
      | some xs =>
        rw [ex] at w
        intro O1 J H1 s1 S1 ⟨Gd, Y, wk, hG, hY⟩
        refine for_it wk (fun i sg' H' => ∃ O' env' h', SR X.K X.mg O' h' H' ∧ NvOk X.K X.mg O' env' sg' ∧ Stp O1 H1 O' H' ∧ PostS X W Dn O' H' (forLoop (fun x env h => match asg tg x env with
        | some env => f env h
        | none => .no) (xs.drop i) env' h')) ⟨O1, env, h1, S1, eo.stp s1, Stp.refl _ _, PostS.weak w s1⟩ (fun i sg' H' hi ⟨O', env', h', S', e', st, p'⟩ => hG O' h' H' st.le S') ?_ ?_
        · intro i x sg' Ha H' hi ⟨O', env', h', S', e', st, p'⟩ hy
          have hd : xs[i]? = some xs[i] := List.getElem?_eq_getElem hi
          obtain ⟨O2, s2, S2, r2⟩ := hY O' h' Ha i _ x H' st.le S' hd hy
          rw [List.drop_eq_getElem_cons hi] at p'
          generalize xs[i] = d at p' r2
          have p2 := PostS.weak p' s2
          cases ea : asg tg d env' with
          | none => simp only [forLoop, ea] at p2; exact p2.elim
          | some env2 =>
            simp only [forLoop, ea] at p2
            refine ⟨O2, h', d, env', env2, S2, e'.stp s2, r2, ea, fun sg2 e2 _ => ⟨O2, env2, h', e2, S2, ?_⟩⟩
            cases ef : f env2 h' with
            | nx env3 h3 => rw [ef] at p2; exact fun O3 sg3 H3 s3 S3 e3 => ⟨O3, env3, h3, S3, e3, (st.trans s2).trans s3, PostS.weak p2 s3⟩
            | ct env3 h3 => rw [ef] at p2; exact fun O3 sg3 H3 s3 S3 e3 => ⟨O3, env3, h3, S3, e3, (st.trans s2).trans s3, PostS.weak p2 s3⟩
            | bk env3 h3 => rw [ef] at p2; exact p2
            | rt d3 h3 => rw [ef] at p2; exact p2
            | ex e3 env3 h3 => rw [ef] at p2; exact p2
            | no => rw [ef] at p2; exact p2
        · intro sg' H' ⟨O', env', h', S', e', st, p'⟩
          rw [List.drop_length] at p'
          exact p' O' sg' H' (Stp.refl _ _) S' e'⟩
end
end SI
end
section
set_option Elab.async false
set_option linter.all false
set_option maxRecDepth 100000
set_option maxHeartbeats 4000000
/-! SIX1: a comprehension over a dict's keys. -/
namespace SI
open PySem PySem.Spec PyProof.Rows L2
section
variable {X : Cx} {W : WX} {G : Wr} {k : Nat} {T : Tab} {a b e o i : Expr} {es : List Expr} {p pos apos : Pos} {fe : Nv → Hs → Res D} {ft : Nv → Hs → Res Bool} {x m : Str}
/-- the turns of a comprehension that runs through -/
theorem lc_core {J : It} {tg : Tg} {vs : List Nat} {envw : Nv} {sg : L2.St} {O1 : Om} {h1 : Hs} {H1 : Hp} {xs yF : List D} {hF : Hs} {q : Addr} {Fin : Hp → Prop} (S1 : SR X.K X.mg O1 h1 H1) (src : SrcOk X O1 xs J) (eo : NvOk X.K X.mg O1 envw (wipe sg vs))
    (hz : xs.length ≤ LINE) (hq : H1 q = none) (hsub : ∀ j ∈ ids tg, j ∈ vs) (run : compLoop (turnF tg ft fe envw) xs h1 = .ok yF hF)
    (fin : ∀ O' ws H', SR X.K X.mg O' hF H' → Apart O' H' q → H' q = some (.lst ws) → RepLX X O' yF ws → ws.length ≤ sizeLine → StpX q O1 H1 O' H' → Fin H') :
    ∃ Wk : Nat → Nat → Hp → Prop, (∃ m, Wk 0 m (upd H1 q (.lst []))) ∧ ∀ i m H, Wk i m H →
      (J.stop i H ∧ Fin H) ∨ (J.go i H ∧ ∃ Nx : Hp → Prop, (∀ H', Nx H' → ∃ m', m' < m ∧ Wk (i + 1) m' H') ∧ ∀ x H', J.yld i H x H' → gT X tg x (wipe sg vs) H' fun σ2 H2 => wipe σ2 vs = wipe sg vs ∧ tT X W0 ft σ2 H2 fun b H3 =>
        if b = true then tE X W0 fe σ2 H3 fun y H4 => ∃ acc, H4 q = some (.lst acc) ∧ acc.length < sizeLine ∧ Nx (upd H4 q (.lst (acc ++ [y]))) else Nx H3) := by
  obtain ⟨Gd, Y, wk, hG, hY⟩ := src
  have LE := LINE_eq
  refine lc_it wk (fun i H' => ∃ O' h' acc ws ys, SR X.K X.mg O' h' H' ∧ Apart O' H' q ∧ H' q = some (.lst ws) ∧ RepLX X O' acc ws ∧ ws.length ≤ i ∧ StpX q O1 H1 O' H' ∧
    compLoop (turnF tg ft fe envw) (xs.drop i) h' = .ok ys hF ∧ yF = acc ++ ys) ?_ (fun i H' hi ⟨O', h', acc, ws, ys, S', A', e', rl, lz, sx, c', _⟩ => hG O' h' H' sx.le S') ?_ ?_
  · obtain ⟨A0, S0⟩ := Apart.new S1 hq (.lst [])
    exact ⟨O1, h1, [], [], yF, S0, A0, upd_same, .nil, Nat.le_refl _, StpX.put q O1 H1 _, run, rfl⟩
  · intro i x Ha H' hi ⟨O', h', acc, ws, ys, S', A', e', rl, lz, sx, c', ey⟩ hy
    have hd : xs[i]? = some xs[i] := List.getElem?_eq_getElem hi
    obtain ⟨O2, s2, S2, r2⟩ := hY O' h' Ha i _ x H' sx.le S' hd hy
    rw [List.drop_eq_getElem_cons hi] at c'
    generalize xs[i] = d at c' r2
    have c' : ((turnF tg ft fe envw d h').bind fun o h => (compLoop (turnF tg ft fe envw) (xs.drop (i + 1)) h).bind fun ys h => .ok (match o with
      | some y => y :: ys
      | none => ys) h) = .ok ys hF := c'
    have le2 : O1.Le O2 := sx.le.trans s2.le
    obtain ⟨A2, e2⟩ := A'.stp s2 e'
    cases ea : asg tg d envw with
    | none => rw [show turnF tg ft fe envw d h' = .no by unfold turnF; rw [ea]; rfl] at c'; cases c'
    | some env2 =>
      have et : turnF tg ft fe envw d h' = ((ft env2 h').bind fun b h => if b then (fe env2 h).bind fun y h => .ok (some y) h else .ok none h).calm := by unfold turnF; rw [ea]; rfl
      rw [et] at c'
      refine ⟨O2, h', d, _, env2, S2, eo.le le2, r2, ea, fun σ2 nv2 only => ⟨?_, O2, env2, h', nv2, S2, ?_⟩⟩
      · have z := wipe_eq (σ := sg) (σ2 := σ2) (l := ids tg) (vs := vs) (by rw [← nv2.len, asg_length ea, eo.len, wipe_length]) only hsub
        exact z
      cases ef : ft env2 h' with
      | no => rw [ef] at c'; cases c'
      | ex e1 h1 => rw [ef] at c'; cases c'
      | ok b h3 =>
        rw [ef] at c'
        intro O3 b' H3 s3 S3 (rb : b = b')
        subst rb
        obtain ⟨A3, e3⟩ := A2.stp s3 e2
        cases b with
        | false =>
          rw [if_neg (by decide)]
          have c' : ((compLoop (turnF tg ft fe envw) (xs.drop (i + 1)) h3).bind fun ys h => .ok ys h) = .ok ys hF := c'
          cases eq : compLoop (turnF tg ft fe envw) (xs.drop (i + 1)) h3 with
          | ok zs hh => rw [eq] at c'; cases c'; exact ⟨O3, h3, acc, ws, ys, S3, A3, e3, (rl.stp s2).stp s3, by omega, (sx.trans s2.x).trans s3.x, eq, ey⟩
          | ex _ _ => rw [eq] at c'; cases c'
          | no => rw [eq] at c'; cases c'
        | true =>
          rw [if_pos rfl]
          refine ⟨O3, env2, h3, nv2.stp s3, S3, ?_⟩
          have c' : ((((fe env2 h3).bind fun y h => Res.ok (some y) h).calm).bind fun o h => (compLoop (turnF tg ft fe envw) (xs.drop (i + 1)) h).bind fun ys h => .ok (match o with
            | some y => y :: ys
            | none => ys) h) = .ok ys hF := c'
          cases eg : fe env2 h3 with
          | no => rw [eg] at c'; cases c'
          | ex e1 h1 => rw [eg] at c'; cases c'
          | ok y h4 =>
            rw [eg] at c'
            intro O4 vy H4 s4 S4 ry
            obtain ⟨A4, e4⟩ := A3.stp s4 e3
            have c' : ((compLoop (turnF tg ft fe envw) (xs.drop (i + 1)) h4).bind fun ys h => .ok (y :: ys) h) = .ok ys hF := c'
            cases eq : compLoop (turnF tg ft fe envw) (xs.drop (i + 1)) h4 with
            | ok zs hh =>
              rw [eq] at c'; cases c'
              exact ⟨ws, e4, by omega, O4, h4, acc ++ [y], ws ++ [vy], zs, A4.srU S4 _, A4.upd _, upd_same, (((rl.stp s2).stp s3).stp s4).app (.cons ry .nil), by simp; omega, (((sx.trans s2.x).trans s3.x).trans s4.x).trans (StpX.put q O4 H4 _), eq, by simp [ey]⟩
            | ex _ _ => rw [eq] at c'; cases c'
            | no => rw [eq] at c'; cases c'
  · intro H' ⟨O', h', acc, ws, ys, S', A', e', rl, lz, sx, c', ey⟩
    rw [List.drop_length] at c'
    cases c'
    rw [List.append_nil] at ey
    subst ey
    exact fin O' ws H' S' A' e' rl (by omega) sx
theorem turn_calm {tg : Tg} {envw : Nv} {d : D} {h : Hs} {e1 : Exc} {h1 : Hs} : turnF tg ft fe envw d h ≠ .ex e1 h1 := fun z => by
  unfold turnF Res.calm at z
  split at z <;> cases z
theorem loop_calm {tg : Tg} {envw : Nv} : ∀ {xs : List D} {h : Hs} {e1 : Exc} {h1 : Hs}, compLoop (turnF tg ft fe envw) xs h = .ex e1 h1 → False
  | [], _, _, _, z => by cases z
  | d :: xs, h, e1, h1, z => by
    have z : ((turnF tg ft fe envw d h).bind fun o h => (compLoop (turnF tg ft fe envw) xs h).bind fun ys h => .ok (match o with
      | some y => y :: ys
      | none => ys) h) = .ex e1 h1 := z
    cases q : turnF tg ft fe envw d h with
    | no => rw [q] at z; cases z
    | ex e2 h2 => exact turn_calm q
    | ok o h2 =>
      rw [q] at z
      have z : ((compLoop (turnF tg ft fe envw) xs h2).bind fun ys h => .ok (match o with
        | some y => y :: ys
        | none => ys) h) = .ex e1 h1 := z
      cases q2 : compLoop (turnF tg ft fe envw) xs h2 with
      | no => rw [q2] at z; cases z
      | ok ys h3 => rw [q2] at z; cases z
      | ex e2 h3 => exact loop_calm q2
theorem NvOk.forget {O : Om} {env : Nv} {sg : L2.St} (e : NvOk X.K X.mg O env sg) (j : Nat) : NvOk X.K X.mg O (env.set j none) sg := by
  refine ⟨by rw [List.length_set]; exact e.len, fun i d q => ?_⟩
  by_cases h : j = i
  · subst h
    by_cases hl : j < env.length
    · rw [List.getElem?_set_self hl] at q; cases q
    · rw [List.getElem?_eq_none (by rw [List.length_set]; omega)] at q; cases q
  · rw [List.getElem?_set_ne h] at q
    exact e.val i d q
theorem kD_ok {O : Om} (k : Key) : RepX X O (kD k) (kV k) := by
  cases k with
  | inl i => exact .int i
  | inr s => exact .str s
theorem kDs_ok {O : Om} : ∀ ks : List Key, RepLX X O (ks.map kD) (ks.map kV)
  | [] => .nil
  | k :: ks => .cons (kD_ok k) (kDs_ok ks)
/-- the keys of a locked dict -/
theorem src_keysK {O : Om} {d : Addr} {o : Obj} {kvs : List (Key × D)} {ws : List (Key × V)} (rp : RepP X.K X.mg O kvs ws) (hF : O.F d = some (.frz o (.dK ws))) : SrcOk X O (kvs.map fun q => kD q.1) (Itk d o ws) := by
  refine ⟨fun H => H d = some (.frz o (.dK ws)), fun i H x H' => H' = H ∧ ∃ k v, ws[i]? = some (k, v) ∧ x = kV k, by rw [List.length_map, rp.len]; exact walk_keys, fun O1 h1 H1 l S => S.sub _ _ (l.F _ _ hF), fun O1 h1 H1 i d x H2 l S e ⟨eH, k, v, e2, ex⟩ => ?_⟩
  subst eH ex
  have go : ∀ {kvs : List (Key × D)} {ws : List (Key × V)} {i : Nat}, RepP X.K X.mg O kvs ws → ws[i]? = some (k, v) → ∃ d, kvs[i]? = some (k, d) := by
    intro kvs ws i r
    induction r generalizing i with
    | nil => intro e; simp at e
    | @cons k1 d1 v1 ds vs q t ih =>
      intro e
      cases i with
      | zero => simp at e; exact ⟨d1, by simp [e.1]⟩
      | succ i => obtain ⟨d, hd⟩ := ih (i := i) (by simpa using e); exact ⟨d, by simpa using hd⟩
  obtain ⟨d', hd'⟩ := go rp e2
  rw [List.getElem?_map, hd'] at e
  cases e
  exact ⟨O1, Stp.refl _ _, S, kD_ok k⟩
theorem src_keysT {O : Om} {d : Addr} {o : Obj} {kvs : List (List Key × D)} {ws : List (List Key × V)} (rp : RepP X.K X.mg O kvs ws) (hs : ∀ q ∈ kvs, q.1.length ≤ 1000) (hF : O.F d = some (.frz o (.dT ws))) : SrcOk X O (kvs.map fun q => .tup (q.1.map kD)) (Itkt d o ws) := by
  refine ⟨fun H => H d = some (.frz o (.dT ws)), fun i H x H' => H' = H ∧ ∃ (k : List Key) (v : V) (q : Addr), ws[i]? = some (k, v) ∧ x = .ref q ∧ H q = some (.tup (k.map kV)), by rw [List.length_map, rp.len]; exact walk_keysT, fun O1 h1 H1 l S => S.sub _ _ (l.F _ _ hF), fun O1 h1 H1 i d x H2 l S e ⟨eH, k, v, q, e2, ex, eq⟩ => ?_⟩
  subst eH ex
  have go : ∀ {kvs : List (List Key × D)} {ws : List (List Key × V)} {i : Nat}, RepP X.K X.mg O kvs ws → ws[i]? = some (k, v) → ∃ d, kvs[i]? = some (k, d) := by
    intro kvs ws i r
    induction r generalizing i with
    | nil => intro e; simp at e
    | @cons k1 d1 v1 ds vs q t ih =>
      intro e
      cases i with
      | zero => simp at e; exact ⟨d1, by simp [e.1]⟩
      | succ i => obtain ⟨d, hd⟩ := ih (i := i) (by simpa using e); exact ⟨d, by simpa using hd⟩
  obtain ⟨d', hd'⟩ := go rp e2
  rw [List.getElem?_map, hd'] at e
  cases e
  obtain ⟨s2, S2, f2⟩ := S.tupF eq
  exact ⟨_, s2, S2, .tup f2 (by
    have z : k.length ≤ 1000 := hs (k, d') (List.mem_of_getElem? hd')
    have LE := LINE_eq
    have : LINE = 16777216 := rfl
    rw [List.length_map]; omega) (kDs_ok k)⟩
def compKF (tg : Tg) (ft : Nv → Hs → Res Bool) (fe : Nv → Hs → Res D) (own : List Nat) (i : Nat) (mm : Bool) : Nv → Hs → Res D := fun env h => match get env i with
      | some (.ptr p) => match h[p]? with
        | some ce => match keysD ce with
          | some xs => if xs.length ≤ LINE then reL mm ((compLoop (turnF tg ft fe ((wipeE env own).set i none)) xs (h.set p .dead)).bind fun ys h2 => .ok (.lst ys) (h2.set p ce)) else .no
          | none => .no
        | none => .no
      | _ => .no
theorem compK_im {tg : Tg} {own : List Nat} {mm : Bool} {i : Nat} {sg : L2.St} {H : Hp} {Q : VK} (hsub : ∀ j ∈ ids tg, j ∈ own) (w : tE X W (compKF tg ft fe own i mm) sg H Q) :
    tLockE (tLc (iKeys (tVar i)) (gT X tg) (tT X W0 ft) (tE X W0 fe) own) sg H Q := by
  obtain ⟨O, env, h, eo, S, w⟩ := w
  have w : Post X W sg O H (match get env i with
      | some (.ptr p) => match h[p]? with
        | some ce => match keysD ce with
          | some xs => if xs.length ≤ LINE then reL mm ((compLoop (turnF tg ft fe ((wipeE env own).set i none)) xs (h.set p .dead)).bind fun ys h2 => .ok (.lst ys) (h2.set p ce)) else .no
          | none => .no
        | none => .no
      | _ => .no) (RepX X) Q := w
  split at w
  · rename_i n hget
    obtain ⟨v, hv1, rv⟩ := get_ok eo hget
    cases rv with
    | ptr hn =>
    split at w
    · rename_i ce hc
      split at w
      · rename_i xs hx
        split at w
        · rename_i hz
          have cell := S.cell n ce hc
          have main : ∀ (u : HO) (J : It) (od : Obj), ce ≠ .dead → H (O.φ n) = some u → lkO (.frz od u) = true → SrcOk X (O.frz (O.φ n) (.frz od u)) xs J →
              ∀ q, upd H (O.φ n) (.frz od u) q = none → ∃ Wk : Nat → Nat → Hp → Prop, (∃ m, Wk 0 m (upd (upd H (O.φ n) (.frz od u)) q (.lst []))) ∧ ∀ i m H', Wk i m H' →
                (J.stop i H' ∧ (H' (O.φ n) = some (.frz od u) ∧ Q (.ref q) (upd H' (O.φ n) u))) ∨ (J.go i H' ∧ ∃ Nx : Hp → Prop, (∀ H', Nx H' → ∃ m', m' < m ∧ Wk (i + 1) m' H') ∧ ∀ x H2, J.yld i H' x H2 → gT X tg x (wipe sg own) H2 fun σ2 H2 => wipe σ2 own = wipe sg own ∧ tT X W0 ft σ2 H2 fun b H3 =>
                  if b = true then tE X W0 fe σ2 H3 fun y H4 => ∃ acc, H4 q = some (.lst acc) ∧ acc.length < sizeLine ∧ Nx (upd H4 q (.lst (acc ++ [y]))) else Nx H3) := fun u J od nd hu lk src q hq => by
            have SL := S.lock hc nd (.frz od u)
            have hqn : q ≠ O.φ n := fun z => by rw [z, upd_same] at hq; cases hq
            have hq0 : H q = none := by rw [upd_ne hqn] at hq; exact hq
            cases run : compLoop (turnF tg ft fe ((wipeE env own).set i none)) xs (h.set n .dead) with
            | no => rw [run] at w; cases mm <;> exact (show False from w).elim
            | ex e1 h1 =>
              exfalso
              exact loop_calm run
            | ok yF hF =>
              rw [run] at w
              have eoL : NvOk X.K X.mg (O.frz (O.φ n) (.frz od u)) env sg := NvOk.le (O := O) (O' := O.frz (O.φ n) (.frz od u)) eo ⟨Nat.le_refl _, fun _ _ => rfl, fun a o e => by
                show upd O.F (O.φ n) (.frz od u) a = some o
                rw [upd_ne (fun z => by rw [z, S.nof n ce hc nd] at e; cases e)]; exact e⟩
              refine lc_core SL src ((eoL.wipe _).forget i) hz hq hsub run fun O' ws H' S' A' e' rl lz sx => ?_
              · obtain ⟨sx2, S2, lk2, φ2, n2⟩ := S.unlock hc nd hu lk sx S' hq0
                refine ⟨S'.sub _ _ (sx.F _ _ (by show upd O.F (O.φ n) _ (O.φ n) = _; rw [upd_same])), ?_⟩
                refine reL_end (sg := sg) (W := W) (mm := mm) S2 (A'.unl φ2 n2) (by rw [upd_ne hqn]; exact e') (rl.unl lk2) lz hq0 sx2 w
          cases ce with
          | dK kvs =>
            obtain ⟨ws, hw, rp⟩ := cell
            cases hx
            refine ⟨O.φ n, .dK ws, hw, trivial, fun od => ⟨.ref (O.φ n), hv1, O.φ n, od, rfl, .inl ⟨ws, upd_same, fun q hq => main (.dK ws) _ od (by simp) hw rfl (src_keysK (rp.upp (O' := O.frz (O.φ n) (.frz od (.dK ws))) (Nat.le_refl _) (fun _ _ => rfl) fun a o e => ?_) ?_) q hq⟩⟩⟩
            · show upd O.F (O.φ n) _ a = some o
              rw [upd_ne (fun z => by rw [z, S.nof n _ hc (by simp)] at e; cases e)]; exact e
            · show upd O.F (O.φ n) _ (O.φ n) = _
              rw [upd_same]
          | dT kvs =>
            obtain ⟨ws, hw, rp⟩ := cell
            simp only [keysD] at hx
            split at hx
            · rename_i hs
              cases hx
              refine ⟨O.φ n, .dT ws, hw, trivial, fun od => ⟨.ref (O.φ n), hv1, O.φ n, od, rfl, .inr ⟨ws, upd_same, fun q hq => main (.dT ws) _ od (by simp) hw rfl (src_keysT (rp.upp (O' := O.frz (O.φ n) (.frz od (.dT ws))) (Nat.le_refl _) (fun _ _ => rfl) fun a o e => ?_) (fun q hq => by simpa using List.all_eq_true.mp hs q hq) ?_) q hq⟩⟩⟩
              · show upd O.F (O.φ n) _ a = some o
                rw [upd_ne (fun z => by rw [z, S.nof n _ hc (by simp)] at e; cases e)]; exact e
              · show upd O.F (O.φ n) _ (O.φ n) = _
                rw [upd_same]
            · cases hx
          | lst xs => cases hx
          | ins C fs => cases hx
          | dead => cases hx
        · exact (show False from w).elim
      · exact (show False from w).elim
    · exact (show False from w).elim
  · exact (show False from w).elim
/-- [.. for x in d] -/
theorem sE_compK {tg : Tg} {tgE elt : Expr} {ifs : List Expr} {scope : Scope} {own : List (Str × Nat)} {mm : Bool} {i : Nat} (c : XOk X W G k T) (hN : X.N[i]? = some x) (hv : Vis X.env.scope x) (hd : (x == ("__debug__" : Str)) = false) (hcd : (x == ("__classdict__" : Str)) = false) (ok : BlkOk X.N X.env.scope scope own)
    (hg : ∀ (s : Shared) (H : Hp) (C : Addr) (cl : List (Str × Addr)) (fp : List Addr), PG (X.blk s H scope (compEnvC scope cl C X.env) fp) tgE (gT X tg))
    (ht : ∀ (s : Shared) (H : Hp) (C : Addr) (cl : List (Str × Addr)) (fp : List Addr), PTs (X.blk s H scope (compEnvC scope cl C X.env) fp) ifs (tT X W0 ft))
    (he : ∀ (s : Shared) (H : Hp) (C : Addr) (cl : List (Str × Addr)) (fp : List Addr), PE (X.blk s H scope (compEnvC scope cl C X.env) fp) elt (tE X W0 fe))
    (hsub : ∀ j ∈ ids tg, j ∈ own.map (·.2)) :
    PE X (.ListComp elt [⟨tgE, .Name x p, ifs, 0⟩] scope pos) (tE X W (compKF tg ft fe (own.map (·.2)) i mm)) :=
  PE.weak (pe_lock (pe_lc c.calm c.nd (pi_keys (pe_var hN hv hd hcd)) ok hg ht he (fold_set (e := .Name x p) rfl X.env))) fun sg H Q w => compK_im hsub w
end
end SI
end
section
set_option Elab.async false
set_option linter.all false
set_option maxRecDepth 100000
set_option maxHeartbeats 4000000
/-! SIX2: x op= e, o[i] op= e, o[a:b] = e, list(e) that changes. -/
namespace SI
open PySem PySem.Spec PyProof.Rows L2
section
variable {X : Cx} {W : WX} {G : Wr} {k : Nat} {T : Tab} {a b e o i : Expr} {es : List Expr} {p pos apos : Pos} {fa fb fc fd : Nv → Hs → Res D} {x m : Str}
/-- o[i] by values -/
theorem get_list : PGet X (rIxL X.K) := by
  intro pins s σ H x y v u Q I rx ry h
  obtain ⟨p, xs, i, z, rfl, rfl, hq, he, q⟩ := h
  cases rx
  obtain ⟨t, rfl⟩ := ry
  obtain ⟨its, r, pl, hz⟩ := I.list hq
  obtain ⟨j, h1, h2, h3, h4, h5⟩ := atI_get he
  obtain ⟨w, ew, rw'⟩ := r.get h2
  have hl := r.length
  have hn := line63
  have fin : EP X pins σ Q w s := ⟨z, H, I, rw', q⟩
  by_cases h0 : 0 ≤ i
  · have hj : i.toNat = j := by
      rw [seqIndex_of h0 h5] at h1
      exact Option.some.inj h1
    exact wpAny_getItem_list pl.isList h0 (by omega) (by rw [hj]; simpa using ew) fin
  · have hj : (i + (its.toArray.size : Int)).toNat = j := by
      rw [seqIndex_neg (by omega) h4] at h1
      rw [List.size_toArray, ← hl]
      exact Option.some.inj h1
    exact wpAny_getItem_list_neg pl.isList (by omega) (by rw [List.size_toArray] <;> omega) (by omega) (by rw [hj]; simpa using ew) fin
theorem get_dict (hu : X.A.units + 1 < cLine) : PGet X rIxD := by
  intro pn s sg H x y v u Q I rx ry ⟨a, w, ex, g, q⟩
  subst ex
  obtain rfl : v = Value.ref a := rx
  exact d_getItem hu I g ry fun w' s' I' r' => ⟨w, H, I', r', q⟩
theorem PGet.or {t t' : V → V → Hp → VK → Prop} (h : PGet X t) (h' : PGet X t') : PGet X fun x y H Q => t x y H Q ∨ t' x y H Q := fun pins s σ H o i ov iv Q I ro ri q => by
  rcases q with q | q
  · exact h pins s σ H o i ov iv Q I ro ri q
  · exact h' pins s σ H o i ov iv Q I ro ri q
def augOk : Bop → Bool
  | .add => true
  | .sub => true
  | _ => false
def augF : Bop → Int → Int → Int
  | .add => fun i j => i + j
  | _ => fun i j => i - j
theorem ip_aug {op : Bop} (h : augOk op = true) : PIp X (opOf op) (ipI (augF op)) := by
  cases op with
  | add => exact ip_add
  | sub => exact ip_sub
  | _ => cases h
theorem aug_binD {h : Hs} {op : Bop} (ho : augOk op = true) {i j : Int} : binD h op (.int i) (.int j) = some (.int (augF op i j)) := by
  cases op with
  | add => rfl
  | sub => rfl
  | _ => cases ho
theorem ix_of {O : Om} {h : Hs} {H : Hp} (S : SR X.K X.mg O h H) {d y z : D} {v u : V} (r1 : RepX X O d v) (r2 : RepX X O y u) (e : ixD h d y = some z) {n : Nat} (ed : d = .ptr n) {Q : VK} (q : ∀ w, RepX X O z w → Q w H) : rIxL X.K v u H Q ∨ rIxD v u H Q := by
  subst ed
  unfold ixD at e
  split at e
  · rename_i n' hd'
    cases hd'
    split at e
    · rename_i xs hn
      obtain ⟨p, vs, rfl, hq, rl, _⟩ := un_ok (l := true) (xs := xs) S r1 (by simp only [un, hn])
      cases y with
      | int j =>
        cases r2.int_inv
        obtain ⟨w', hw, rw'⟩ := atI_ok rl e
        exact .inl ⟨p, vs, j, w', rfl, rfl, hq, hw, q w' rw'⟩
      | _ => cases e
    · rename_i _ cell _ hn
      cases hg : dget cell y with
      | none => rw [hg] at e; cases e
      | some o =>
        rw [hg] at e
        obtain rfl : o = some z := e
        obtain ⟨o', g, r⟩ := dget_ok S hn r2 hg
        rcases r with ⟨e1, _⟩ | ⟨d, w', e1, e2, r⟩
        · cases e1
        · cases e1
          subst e2
          cases r1
          exact .inr ⟨_, w', rfl, g, q w' r⟩
    · cases e
  · rename_i hne
    exact absurd rfl (hne n)
/-- x op= e -/
theorem sS_aug {op : Bop} {j : Nat} {px : Pos} (hop : augOk op = true) (hN : X.N.Nodup) (hi : X.N[j]? = some x) (hx : Loc X.env.scope x) (hf : X.fn x = true ∨ X.env.scope.names.lookup x = some .local) (he : PE X e (tE X W fc)) :
    PS X (.AugAssign (.Name x px) (opOf op) e pos) (tS X W fun env h => match get env j with
      | some (.int x) => (fc env h).sbind env fun y h => match y with
        | .int z => match binD h op (.int x) (.int z) with
          | some z => .nx (env.set j (some z)) h
          | none => .no
        | _ => .no
      | _ => .no) :=
  PS.weak (ps_aug hN hi hx he (ip_aug hop) hf) fun Dn sg H ⟨O, env, h, eo, S, w⟩ => by
    have w : PostS X W Dn O H (match get env j with
      | some (.int x) => (fc env h).sbind env fun y h => match y with
        | .int z => match binD h op (.int x) (.int z) with
          | some z => .nx (env.set j (some z)) h
          | none => .no
        | _ => .no
      | _ => .no) := w
    split at w
    · rename_i a hg
      obtain ⟨v, hv, rv⟩ := get_ok eo hg
      obtain rfl := rv.int_inv
      refine ⟨.int a, hv, O, env, h, eo, S, PostS.bind w eo fun y h3 O3 yv H3 _ s3 S3 r3 p3 => ?_⟩
      split at p3
      · rename_i b _
        rw [aug_binD hop] at p3
        exact ⟨a, b, rfl, r3.int_inv, p3 O3 _ H3 (Stp.refl _ _) S3 ((eo.stp s3).set j (.int _))⟩
      · exact p3.elim
    · exact w.elim
/-- o[i] op= e -/
theorem sS_augix {op : Bop} {tpos : Pos} (c : XOk X W G k T) (hop : augOk op = true) (hi : sliceless i = true) (ho : PE X o (tE X W fa)) (hx : PE X i (tE X W fb)) (he : PE X e (tE X W fc)) :
    PS X (.AugAssign (.Subscript o i tpos) (opOf op) e pos) (tS X W fun env h => (fa env h).sbind env fun x h => (fb env h).sbind env fun k h => match x, ixD h x k with
      | .ptr p, some (.int a) => (fc env h).sbind env fun y h => match y with
        | .int b => match binD h op (.int a) (.int b) with
          | some z => match setIxD h (.ptr p) k z with
            | some h => .nx env h
            | none => .no
          | none => .no
        | _ => .no
      | _, _ => .no) :=
  PS.weak (ps_augS ho hx (PGet.or get_list (get_dict (by have := c.room.units; omega))) he (ip_aug hop) (PSet.or set_list (set_dict (by have := c.room.units; omega))) (aug_ok hi)) fun Dn sg H ⟨O, env, h, eo, S, w⟩ =>
    ⟨O, env, h, eo, S, PostS.bind w eo fun x h1 O1 xv H1 _ s1 S1 r1 p1 => ⟨O1, env, h1, eo.stp s1, S1, PostS.bind p1 (eo.stp s1) fun ky h2 O2 kv H2 _ s2 S2 r2 p2 => by
      have r1' := r1.stp s2
      have eo2 := (eo.stp s1).stp s2
      split at p2
      · rename_i n a _ ei
        refine ix_of S2 r1' r2 ei rfl fun ov ro => ⟨O2, env, h2, eo2, S2, PostS.bind p2 eo2 fun y h3 O3 yv H3 _ s3 S3 r3 p3 => ?_⟩
        split at p3
        · rename_i b _
          rw [aug_binD hop] at p3
          refine ⟨a, b, ro.int_inv, r3.int_inv, ?_⟩
          have p3 : PostS X W Dn O3 H3 (match setIxD h3 (.ptr n) ky (.int (augF op a b)) with
            | some h => .nx env h
            | none => .no) := p3
          cases es : setIxD h3 (.ptr n) ky (.int (augF op a b)) with
          | none => rw [es] at p3; exact p3.elim
          | some h' =>
            rw [es] at p3
            exact set_ok S3 (r1'.stp s3) (r2.stp s3) (.int _) es fun H' s4 S4 => p3 O3 sg H' s4 S4 ((eo2.stp s3).stp s4)
        · exact p3.elim
      · exact p2.elim⟩⟩
/-! ### o[a:b] = e -/
def gSl (to : TE) (ta tb : TO) : TG := fun v σ H Q => to σ H fun o H1 => ta σ H1 fun i H2 => tb σ H2 fun j H3 => ∃ (l t : Addr) (xs ys : List V) (a c : Int), o = .ref l ∧ v = .ref t ∧ i = some a ∧ j = some c ∧ H3 l = some (.lst xs) ∧ H3 t = some (.lst ys) ∧ l ≠ t ∧
  0 ≤ a ∧ a ≤ c ∧ c ≤ xs.length ∧ xs.length + ys.length ≤ sizeLine ∧ Q σ (upd H3 l (.lst (xs.take a.toNat ++ ys ++ xs.drop c.toNat)))
theorem pg_sl {lo hi : Expr} {to : TE} {ta tb : TO} {p2 : Pos} (ho : PE X o to) (hl : PO X (some lo) ta) (hu : PO X (some hi) tb) : PG X (.Subscript o (.Slice (some lo) (some hi) none p2) pos) (gSl to ta tb) := by
  refine ⟨fun pins s σ H v u Q I r h => ?_⟩
  have e : assign (.Subscript o (.Slice (some lo) (some hi) none p2) pos) X.env u = (do
    let ov ← holding [u] (eval o X.env)
    let iv ← holding [u, ov] (eval (.Slice (some lo) (some hi) none p2) X.env)
    standAt pos
    holding [u, ov, iv] (setItem ov iv u)
    release [iv, u, ov] []) := by rfl
  rw [e]
  refine wpAny_bind (wpAny_holding (thn (ho.run pins s σ H _ I h) fun ov s1 ⟨x, H1, I1, r1, q1⟩ => ?_))
  refine wpAny_bind (wpAny_holding (wpAny_Slice (thn (hl.run pins s1 σ H1 _ I1 q1) fun vl s2 ⟨i0, H2, I2, pl, q2⟩ => thn (hu.run pins s2 σ H2 _ I2 q2) fun vu s3 ⟨j0, H3, I3, pu, l, t, xs, ys, a, c, ex, ev, ei, ej, hl1, ht1, hne, c0, c1, c2, c3, q⟩ => ?_)))
  rw [evalPart_none]
  refine wpAny_pure ?_
  subst ex ev ei ej
  obtain rfl : ov = Value.ref l := r1
  obtain rfl : u = Value.ref t := r
  have ra : RelV (.int a) vl := by cases pl; exact ⟨_, rfl⟩
  have rc : RelV (.int c) vu := by cases pu; exact ⟨_, rfl⟩
  have I4 : Inv X pins σ H3 { s3 with heap := s3.heap.push { cls := .type "slice", data := .fields #[vl, vu, .none] } } := I3.kept (t' := s3.toks) fun b ob q => Heap.get?_push_of_some _ q
  refine wpAny_bind (wpAny_standAt (wpAny_bind (wpAny_holding (set_slice (sl := s3.heap.objs.size) I4 hl1 ht1 hne (Heap.IsSliceOf.new ..) ra rc c0 c1 c2 c3 fun s' I' => ?_))))
  exact wpAny_release ⟨σ, _, I', q⟩
theorem slSet_ok {O : Om} {h h' : Hs} {H : Hp} (S : SR X.K X.mg O h H) {o v : D} {ov u : V} {lo hi : Option Int} (ro : RepX X O o ov) (rv : RepX X O v u) (e : setSlD h o lo hi v = some h') {Q : Hp → Prop} (q : ∀ H', Stp O H O H' → SR X.K X.mg O h' H' → Q H') :
    ∃ (l t : Addr) (xs ys : List V) (a c : Int), ov = .ref l ∧ u = .ref t ∧ lo = some a ∧ hi = some c ∧ H l = some (.lst xs) ∧ H t = some (.lst ys) ∧ l ≠ t ∧ 0 ≤ a ∧ a ≤ c ∧ c ≤ xs.length ∧ xs.length + ys.length ≤ sizeLine ∧ Q (upd H l (.lst (xs.take a.toNat ++ ys ++ xs.drop c.toNat))) := by
  have LE := LINE_eq
  unfold setSlD at e
  split at e
  · rename_i n
    split at e
    · rename_i xs hn
      split at e
      · rename_i a b ys
        split at e
        · rename_i hb
          obtain ⟨b0, b1, b2, b3⟩ := hb
          cases e
          obtain ⟨hlt, vs, hv, z, rl⟩ := S.at hn
          cases ro
          cases rv with
          | @lst t _ us qt zt rt =>
            have l1 := rl.length
            have l2 := rt.length
            have nf := S.nof n _ hn (by simp)
            obtain ⟨s3, S3⟩ := S.put (o := .lst (vs.take a.toNat ++ us ++ vs.drop b.toNat)) hn (by simp) (c := .lst (xs.take a.toNat ++ ys ++ xs.drop b.toNat)) ⟨_, upd_same, by
              rw [List.length_append, List.length_append, List.length_take, List.length_drop]; omega, ((rl.take _).app rt).app (rl.drop _)⟩
            exact ⟨_, t, vs, us, a, b, rfl, rfl, rfl, rfl, hv, S.sub _ _ qt, fun z => (by rw [z, qt] at nf; cases nf), b0, b1, by omega, by omega, q _ s3 S3⟩
        · cases e
      · cases e
    · cases e
  · cases e
theorem sS_setsl {lo hi : Expr} {opos p2 : Pos} {fl fu : Nv → Hs → Res (Option Int)} (ho : PE X o (tE X W fa)) (hl : PO X (some lo) (tO X W fl)) (hu : PO X (some hi) (tO X W fu)) (he : PE X e (tE X W fc)) (hs : compless e = true) :
    PS X (.Assign [.Subscript o (.Slice (some lo) (some hi) none p2) opos] e pos) (tS X W fun env h => (fc env h).sbind env fun v h => (fa env h).sbind env fun x h => (fl env h).sbind env fun a h => (fu env h).sbind env fun b h => match setSlD h x a b v with
      | some h => .nx env h
      | none => .no) :=
  PS.weak (ps_asg he (pg_sl ho hl hu) (no_swapS hs _ _ _) (by cases e <;> rfl) (by rfl)) fun Dn sg H ⟨O, env, h, eo, S, w⟩ =>
    ⟨O, env, h, eo, S, PostS.bind w eo fun v h1 O1 vv H1 _ s1 S1 r1 p1 => ⟨O1, env, h1, eo.stp s1, S1, PostS.bind p1 (eo.stp s1) fun x h2 O2 xv H2 _ s2 S2 r2 p2 => ⟨O2, env, h2, (eo.stp s1).stp s2, S2, PostS.bind p2 ((eo.stp s1).stp s2) fun a h3 O3 a' H3 _ s3 S3 r3 p3 =>
      ⟨O3, env, h3, ((eo.stp s1).stp s2).stp s3, S3, PostS.bind p3 (((eo.stp s1).stp s2).stp s3) fun b h4 O4 b' H4 _ s4 S4 r4 p4 => by
      cases (show a = a' from r3)
      cases (show b = b' from r4)
      cases es : setSlD h4 x a b v with
      | none => rw [es] at p4; exact p4.elim
      | some h' =>
        rw [es] at p4
        exact slSet_ok S4 ((r2.stp s3).stp s4) (((r1.stp s2).stp s3).stp s4) es fun H' s5 S5 => p4 O4 sg H' s5 S5 (((((eo.stp s1).stp s2).stp s3).stp s4).stp s5)⟩⟩⟩⟩
/-! ### list(e), to be changed -/
theorem bi_listm {sg : L2.St} {O : Om} {H : Hp} {h : Hs} {d : D} {v : V} {Q : VK} (S : SR X.K X.mg O h H) (r : RepX X O d v) (w : Post X W sg O H (reL true (.of (biD .list h d) h)) (RepX X) Q) :
    ∃ p vs, v = .ref p ∧ (SqL X.K H p vs ∨ SqT X.K H p vs) ∧ ∀ t, H t = none → Q (.ref t) (upd H t (.lst vs)) := by
  cases e2 : biD .list h d with
  | none => rw [e2] at w; exact (show False from w).elim
  | some z =>
    rw [e2] at w
    have e2 : (match un h d with
      | some (_, xs) => some (D.lst xs)
      | _ => none) = some z := e2
    split at e2
    · rename_i l ys hu
      cases e2
      obtain ⟨p, vs, rfl, hq, rl, zl⟩ := un_ok S r hu
      refine ⟨p, vs, rfl, ?_, fun t ht => mk_ok (m := true) S rl zl w ht⟩
      cases l with
      | true => exact .inl hq
      | false => exact .inr hq
    · cases e2
theorem sE_lstm (hg : Gl X "list") (hm : X.mg "list" = none) (hs : starless e = true) (ha : PE X e (tE X W fa)) :
    PE X (.Call (.Name "list" p) [e] [] pos) (tE X W fun env h => reL true ((fa env h).bind fun d h => .of (biD .list h d) h)) := by
  have h1 := star_cons (env := X.env) hs []
  have cr : CallR X (.type "list") (fun vs H Q => ∃ (sg : L2.St) (O : Om) (h : Hs) (d : D) (v : V), vs = [v] ∧ SR X.K X.mg O h H ∧ RepX X O d v ∧ Post X W sg O H (reL true (.of (biD .list h d) h)) (RepX X) Q) :=
    CallR.weak call_list_of fun xs H Q ⟨sg, O, h, d, v, e, S, r, w⟩ => by
      obtain ⟨p, vs, rfl, hq, q⟩ := bi_listm S r w
      exact ⟨p, vs, e, hq, q⟩
  refine PE.weak (pe_callTy cr hg hm (by decide +kernel) (sA_one hs ha) (by decide) (by decide) h1 rfl) fun sg H Q ⟨O, env, h, eo, S, w⟩ => ⟨O, env, h, eo, S, ?_⟩
  have w : Post X W sg O H (reL true ((fa env h).bind fun d h => .of (biD .list h d) h)) (RepX X) Q := w
  show Post X W sg O H ((fa env h).bind fun d h => .ok [d] h) (RepLX X) _
  cases q : fa env h with
  | no => rw [q] at w; exact w
  | ex e' h' => rw [q] at w; exact w
  | ok d h1 =>
    rw [q] at w
    intro O1 vs H1 s1 S1 r1
    cases r1 with
    | cons r t => cases t; exact ⟨sg, O1, h1, d, _, rfl, S1, r, Post.weak w s1⟩
end
end SI
end
section
set_option Elab.async false
set_option linter.all false
set_option maxRecDepth 100000
set_option maxHeartbeats 4000000
/-! SI16: from the text to the small language. -/
namespace SI
open PySem PySem.Spec PyProof.Rows L2

/-- what is known where a text stands -/
structure Ctx where
  N : List Str
  raw : Scope
  sc : Scope
  all : Bool
  T : Tab
  mu : List Str
  frz : List Str
  dT : List Str
  tk : List Str
  wk : List Str
def ixOf (N : List Str) (x : Str) : Option Nat := if N[N.idxOf x]? = some x then some (N.idxOf x) else none
theorem ixOf_ok {N : List Str} {x : Str} {i : Nat} (h : ixOf N x = some i) : N[i]? = some x := by
  unfold ixOf at h
  split at h
  · cases h; assumption
  · cases h
def Ctx.gl (C : Ctx) (x : Str) : Bool := decide (C.sc.names.lookup x = some .globalImplicit)
def Ctx.vis (C : Ctx) (x : Str) : Bool := decide (C.sc.names.lookup x = some .local ∨ C.sc.names.lookup x = some .cell ∨ C.sc.names.lookup x = some .free)
def Ctx.asn (C : Ctx) (x : Str) : Bool := decide (C.sc.names.lookup x = some .local) || (decide (C.sc.names.lookup x = some .cell) && (C.all || (C.raw.names.lookup x == some .cell)))
def Ctx.free (C : Ctx) (x : Str) : Bool := C.gl x && decide (x ∈ C.T.free)
def noDbg (x : Str) : Bool := !(x == ("__debug__" : Str)) && !(x == ("__classdict__" : Str))
def mapO {α β : Type} (g : α → Option β) : List α → Option (List β)
  | [] => some []
  | a :: as => match g a with
    | some b => match mapO g as with
      | some bs => some (b :: bs)
      | none => none
    | none => none
def bopOf : Operator → Option Bop
  | .Add => some .add
  | .Sub => some .sub
  | .Mult => some .mul
  | .FloorDiv => some .fdiv
  | .Mod => some .mod
  | .Pow => some .pow
  | _ => none
def copOf : CmpOp → Cop
  | .Eq => .eq
  | .NotEq => .ne
  | .Lt => .lt
  | .LtE => .le
  | .Gt => .gt
  | .GtE => .ge
  | .In => .isin
  | .NotIn => .notin
  | .Is => .is_
  | .IsNot => .isnot
def biOf (x : Str) : Option Bi :=
  if x = "len" then some .len else if x = "all" then some .all else if x = "any" then some .any else if x = "tuple" then some .tuple else if x = "list" then some .list else
  if x = "int" then some .int else if x = "bool" then some .bool else if x = "repr" then some .repr else if x = "abs" then some .abs else none
def compTy (C : Ctx) : Expr → Option (Sum String Str)
  | .Name x _ => if C.gl x then (if x ∈ C.T.cls ∧ (x == ("__debug__" : Str)) = false then some (.inr x) else match bTys.find? fun n => Str.ofString n == x with
    | some n => if x ∈ C.T.free then some (.inl n) else none
    | none => none) else none
  | _ => none
def compTg : Nat → Ctx → Expr → Option Tg
  | 0, _, _ => none
  | _ + 1, C, .Name x _ => if C.asn x then (ixOf C.N x).map .n else none
  | f + 1, C, .Tuple es _ _ => if es.all starless then (mapO (compTg f C) es).map .t else none
  | _ + 1, _, _ => none
def compB (g : Expr → Option IE) (op : PySem.BoolOp) : List Expr → Option IE
  | [] => none
  | [a] => g a
  | a :: rest => match g a with
    | some x => match compB g op rest with
      | some y => some (match op with
        | .And => .and x y
        | .Or => .or x y)
      | none => none
    | none => none
def compC (g : Expr → Option IE) (a : Expr) : List CmpOp → List Expr → Option IE
  | [o], [b] => if setless b = true then (match g a with
    | some x => match g b with
      | some y => some (.cmp (copOf o) x y)
      | none => none
    | none => none) else none
  | [o, o2], [b, c] => if setless b = true ∧ setless c = true then (match g a with
    | some x => match g b with
      | some y => match g c with
        | some z => some (.chain (copOf o) (copOf o2) x y z)
        | none => none
      | none => none
    | none => none) else none
  | _, _ => none
def isRange (C : Ctx) : Expr → Option (List Expr)
  | .Call (.Name x _) args [] _ => if x = "range" ∧ C.free x = true ∧ args.all starless = true then some args else none
  | _ => none
def isTup : Expr → Bool
  | .Tuple .. => true
  | _ => false
def compO (g : Expr → Option IE) : Option Expr → Option (Option IE)
  | none => some none
  | some e => (g e).map some
/-- what is walked -/
def compI (C : Ctx) (g : Expr → Option IE) (tg : Expr) : Expr → Option (SrcK × List IE)
  | .Call (.Name x p) args [] pos => if x = "range" ∧ C.free x = true then (if args.all starless = true ∧ (args.length = 1 ∨ args.length = 2) then (mapO g args).map fun l => (.rng, l) else none)
    else if x = "zip" ∧ C.free x = true then (if args.all starless = true ∧ args.length = 2 ∧ isTup tg = true then (mapO g args).map fun l => (.zip, l) else none)
    else if x = "enumerate" ∧ C.free x = true then (if args.all starless = true ∧ args.length = 1 ∧ isTup tg = true then (mapO g args).map fun l => (.enum, l) else none)
    else (g (.Call (.Name x p) args [] pos)).map fun e => (.seq, [e])
  | e => if setless e = true then (g e).map fun e => (.seq, [e]) else none
/-- a dict whose keys are walked -/
def wkOf (C : Ctx) : Expr → Option Nat
  | .Name x _ => if x ∈ C.wk ∧ C.vis x = true ∧ noDbg x = true then ixOf C.N x else none
  | _ => none
/-- the block of a comprehension -/
def Ctx.blk (C : Ctx) (scope : Scope) : Ctx := { C with raw := scope, sc := relS scope C.sc, all := false }
def ownOf (N : List Str) (scope : Scope) : List (Str × Nat) := scope.names.filterMap fun q => match q.2 with
  | .local => (ixOf N q.1).map fun i => (q.1, i)
  | .cell => (ixOf N q.1).map fun i => (q.1, i)
  | _ => none
def keyStr : Option Expr → Option Str
  | some (.Constant (.str z) _ _) => some z
  | _ => none
def compDs (g : Nat → Expr → Option IE) (tk : List Str) : List (Option Expr) → List Expr → Option (List Str × List IE)
  | [], [] => some ([], [])
  | k :: ks, v :: vs => match keyStr k with
    | some z => match g (if z ∈ tk then 2 else 0) v with
      | some e => match compDs g tk ks vs with
        | some (zs, es) => some (z :: zs, e :: es)
        | none => none
      | none => none
    | none => none
  | _, _ => none
mutual
def compE : Nat → Ctx → Nat → Expr → Option IE
  | 0, _, _, _ => none
  | f + 1, C, m, e => match e with
    | .Constant c _ _ => match c with
      | .int i => some (.c (.int i))
      | .bool i => some (.c (.bl i))
      | .str i => some (.c (.str i))
      | .none => some (.c .non)
      | _ => none
    | .Name x _ => if noDbg x = true then (if C.vis x = true then (ixOf C.N x).map .v else if C.gl x = true then (C.T.cst.lookup x).map .c else none) else none
    | .Tuple es _ _ => if es.all starless = true ∧ es.length ≤ 1000 then (mapO (compE f C 0) es).map .tup else none
    | .List es _ => if es.all starless = true ∧ es.length ≤ 1000 then (mapO (compE f C 0) es).map (.lst (m == 1)) else none
    | .BinOp a op b _ => match bopOf op with
      | some o => match compE f C 0 a with
        | some x => match compE f C 0 b with
          | some y => some (.bin o x y)
          | none => none
        | none => none
      | none => none
    | .UnaryOp op a _ => match op with
      | .USub => (compE f C 0 a).map .neg
      | .Not => (compE f C 0 a).map .not
      | _ => none
    | .BoolOp op vs _ => compB (compE f C 0) op vs
    | .Compare a ops bs _ => compC (compE f C 0) a ops bs
    | .IfExp c a b _ => match compT f C c with
      | some z => match compE f C 0 a with
        | some x => match compE f C 0 b with
          | some y => some (.ife z x y)
          | none => none
        | none => none
      | none => none
    | .Attribute o g _ => if superless o = true ∧ g ∈ C.T.attrs then (compE f C 0 o).map fun x => .fld x g else none
    | .Subscript o i _ => match i with
      | .Slice lo hi st _ => match st with
        | none => match compE f C 0 o with
          | some x => match compO (compE f C 0) lo with
            | some l => match compO (compE f C 0) hi with
              | some h => some (.sl x l h)
              | none => none
            | none => none
          | none => none
        | some _ => none
      | i => if sliceless i = true then (match compE f C 0 o with
        | some x => match compE f C 0 i with
          | some y => some (.ix x y)
          | none => none
        | none => none) else none
    | .ListComp elt gens scope _ => match gens with
      | [⟨tg, iter, ifs, as⟩] => if as = 0 ∧ setless iter = true ∧ blkC C.N C.sc scope (ownOf C.N scope) = true then (match wkOf C iter with
        | some i => match compTg f (C.blk scope) tg with
          | some t => if (ids t).all (fun j => decide (j ∈ (ownOf C.N scope).map (·.2))) = true then (match compE f (C.blk scope) 0 elt with
            | some x => match ifs with
              | [] => some (.compK (m == 1) x t i none ((ownOf C.N scope).map (·.2)))
              | [c] => match compT f (C.blk scope) c with
                | some y => some (.compK (m == 1) x t i (some y) ((ownOf C.N scope).map (·.2)))
                | none => none
              | _ => none
            | none => none) else none
          | none => none
        | none => match compI C (compE f C 0) tg iter with
        | some (k, args) => match compTg f (C.blk scope) tg with
          | some t => if (ids t).all (fun j => decide (j ∈ (ownOf C.N scope).map (·.2))) = true then (match compE f (C.blk scope) 0 elt with
            | some x => match ifs with
              | [] => some (.comp (m == 1) x t k args none ((ownOf C.N scope).map (·.2)))
              | [c] => match compT f (C.blk scope) c with
                | some y => some (.comp (m == 1) x t k args (some y) ((ownOf C.N scope).map (·.2)))
                | none => none
              | _ => none
            | none => none) else none
          | none => none
        | none => none) else none
      | _ => none
    | .Dict keys vals _ => match keys with
      | [] => match vals with
        | [] => some (.dic (m == 2))
        | _ => none
      | keys => match compDs (compE f C) C.tk keys vals with
        | some (zs, es) => if keys.length ≤ 15 ∧ zs.Nodup then some (.dicd zs es) else none
        | none => none
    | .Call fn args kws pos => match kws with
      | [] => if args.all starless = true then (match fn with
        | .Name x _ => if C.gl x = true ∧ noDbg x = true then (
            if x ∈ C.T.fns then (mapO (compE f C 0) args).map (.call x)
            else if x ∈ C.T.cls then (mapO (compE f C 0) args).map (.make x)
            else if x ∈ C.T.free then (match args with
              | [a] => match isRange C a with
                | some rs => if rs.length = 1 ∨ rs.length = 2 then (if x = "list" then (mapO (compE f C 0) rs).map (.rngs true (m == 1)) else if x = "tuple" then (mapO (compE f C 0) rs).map (.rngs false false) else none) else none
                | none => if m = 1 then (if x = "list" then (compE f C 0 a).map .lstm else none) else match biOf x with
                  | some b => (compE f C 0 a).map (.bi b)
                  | none => none
              | [a, t] => if x = "isinstance" then (match compE f C 0 a with
                | some y => match compTy C t with
                  | some z => some (.isi y [z])
                  | none => none
                | none => none) else none
              | _ => none)
            else none) else none
        | .Attribute o mm apos => if superless o = true ∧ apos.endLine = pos.line ∧ args.length < 30 then (
            match (match o with
              | .Name c _ => if (c, mm) ∈ C.T.cms ∧ C.gl c = true ∧ noDbg c = true then some c else none
              | _ => none) with
            | some c => (mapO (compE f C 0) args).map (.cmeth c mm)
            | none => match compE f C 0 o with
              | some y => match mapO (compE f C 0) args with
                | some zs => match args with
                  | [_] => if mm = "append" then some (.bm .append y zs) else if mm = "extend" then some (.bm .extend y zs) else if mm = "pop" then some (.bm .pop1 y zs) else some (.meth y mm zs)
                  | [_, _] => if mm = "get" then some (.bm .get2 y zs) else some (.meth y mm zs)
                  | _ => some (.meth y mm zs)
                | none => none
              | none => none) else none
        | _ => none) else none
      | _ => none
    | _ => none
def compT : Nat → Ctx → Expr → Option IE
  | 0, _, _ => none
  | f + 1, C, e => match e with
    | .UnaryOp op a _ => match op with
      | .Not => (compT f C a).map .not
      | _ => (compE f C 0 e).map .val
    | .BoolOp op vs _ => compB (compT f C) op vs
    | .Compare a ops bs _ => compC (compE f C 0) a ops bs
    | .IfExp .. => none
    | e => if plainT e = true then (compE f C 0 e).map .val else none
end

/-! ### statements -/
def frzs (C : Ctx) : List Expr → List Nat
  | [] => []
  | .Name x _ :: es => if x ∈ C.frz ∧ C.vis x = true then (match ixOf C.N x with
    | some i => i :: frzs C es
    | none => frzs C es) else frzs C es
  | _ :: es => frzs C es
def argsOf : Expr → List Expr
  | .Call _ args _ _ => args
  | .Name x p => [.Name x p]
  | .Tuple es _ _ => es
  | _ => []
def hint (C : Ctx) (x : Str) : Nat := if x ∈ C.mu then 1 else if x ∈ C.dT then 2 else 0
def swB (sc : Scope) (y : Str) (py : Pos) (scope : Scope) (pos : Pos) : Bool := (sc.names.lookup y == some .local) && (py.line == pos.line) && !(scope.names.any fun q => q.1 == y && (q.2 == .local || q.2 == .cell))
def swNames (sc : Scope) (ts : List Expr) : List Str := ts.filterMap fun
  | .Name id pos => if sc.names.lookup id == some .local && pos.line == (ts.head?.map (·.pos.line)).getD 0 then some id else none
  | _ => none
def swNo (sc : Scope) (ts : List Expr) : Expr → Bool
  | .Tuple vs _ _ => decide ((swNames sc ts).length ≠ ts.length) || vs.all (foldedForSure 8)
  | _ => false
def compA (f : Nat) (C : Ctx) (targets : List Expr) (e : Expr) : Option IS := match targets with
  | [.Name x px] => if C.asn x = true ∧ compless e = true then (match ixOf C.N x with
      | some i => (compE f C (hint C x) e).map (.set (.n i))
      | none => none) else (match e with
      | .ListComp elt gs scope pos => if C.asn x = true then (match ixOf C.N x with
        | some i => (compE f C (hint C x) (.ListComp elt gs scope pos)).map (.set (.n i))
        | none => none) else none
      | _ => none)
  | [.Tuple ts k pt] => if swNo C.sc ts e = true then (match compTg f C (.Tuple ts k pt) with
      | some t => (compE f C 0 e).map (.set t)
      | none => none) else if isTup e = true then (match ts, e with
      | [.Name x px, .Name y py], .Tuple [a, b] k2 pt2 =>
        if C.sc.names.lookup x = some .local ∧ C.sc.names.lookup y = some .local ∧ (py.line == px.line) = true ∧ x ≠ y ∧ starless a = true ∧ starless b = true ∧ [a, b].all (foldedForSure 8) = false ∧ [a, b].all (constantsAlone 8) = false then
          (match ixOf C.N x with
          | some i => match ixOf C.N y with
            | some j => if i ≠ j then (match compE f C (hint C x) a with
              | some u => match compE f C (hint C y) b with
                | some v => some (.par i j u v)
                | none => none
              | none => none) else none
            | none => none
          | none => none) else none
      | _, _ => none)
    else if compless e = true then (match compTg f C (.Tuple ts k pt) with
      | some t => (compE f C 0 e).map (.set t)
      | none => none) else none
  | [.Subscript o (.Slice (some lo) (some hi) none _) _] => if compless e = true then (match compE f C 0 o with
      | some x => match compE f C 0 lo with
        | some a => match compE f C 0 hi with
          | some b => match compE f C 0 e with
            | some z => some (.setsl x a b z)
            | none => none
          | none => none
        | none => none
      | none => none) else none
  | [.Subscript o i _] => if sliceless i = true ∧ compless e = true then (match compE f C 0 o with
      | some x => match compE f C 0 i with
        | some y => match compE f C 0 e with
          | some z => some (.setix x y z)
          | none => none
        | none => none
      | none => none) else none
  | [.Attribute o g _] => if g ∈ C.T.attrs ∧ compless e = true then (match compE f C 0 o with
      | some x => match compE f C 0 e with
        | some z => some (.setf x g z)
        | none => none
      | none => none) else none
  | _ => none
def isDoc : Expr → Bool
  | .Constant (.str _) _ _ => true
  | _ => false
mutual
def compS : Nat → Ctx → Stmt → Option IS
  | 0, _, _ => none
  | f + 1, C, s => match s with
    | .Assign ts e _ => compA f C ts e
    | .Return v _ => match v with
      | none => some .retN
      | some e => (compE f C 0 e).map .ret
    | .Expr e _ => if isDoc e = true then some .pass else if compless e = true then (compE f C 0 e).map .ex else none
    | .If c a b _ => match compT f C c with
      | some x => match compSs f C a with
        | some y => match compSs f C b with
          | some z => some (.ife x y z)
          | none => none
        | none => none
      | none => none
    | .For t iter body els _ => match els with
      | [] => if setless iter = true then (match compI C (compE f C 0) t iter with
        | some (k, args) => match compTg f C t with
          | some tg => match compSs f C body with
            | some b => some (.loop tg k args b)
            | none => none
          | none => none
        | none => none) else none
      | _ => none
    | .Pass _ => some .pass
    | .Break _ => some .brk
    | .Continue _ => some .cnt
    | .Raise .. => some .bad
    | .AugAssign t op e _ => match bopOf op with
      | some o => if augOk o = true then (match t with
        | .Name x _ => if C.asn x = true then (match ixOf C.N x with
          | some i => (compE f C 0 e).map (.aug i o)
          | none => none) else none
        | .Subscript b i _ => if sliceless i = true then (match compE f C 0 b with
          | some x => match compE f C 0 i with
            | some y => (compE f C 0 e).map (.augix x y o)
            | none => none
          | none => none) else none
        | _ => none) else none
      | none => none
    | _ => none
def compSs : Nat → Ctx → List Stmt → Option (List IS)
  | 0, _, _ => none
  | f + 1, C, ss => match ss with
    | [] => some []
    | s :: ss => match compS f C s with
      | some x => match compSs f C ss with
        | some xs => some ((match s with
          | .Assign _ e _ => frzs C (argsOf e)
          | .Return (some e) _ => frzs C (argsOf e)
          | _ => []).map IS.frz ++ x :: xs)
        | none => none
      | none => none
end
end SI
end
section
set_option Elab.async false
set_option linter.all false
set_option maxRecDepth 100000
set_option maxHeartbeats 4000000
/-! SI17: the small language keeps to the text: expressions. -/
namespace SI
open PySem PySem.Spec PyProof.Rows L2

structure CxOk (X : Cx) (W : WX) (G : Wr) (k : Nat) (C : Ctx) : Prop where
  x : XOk X W G k C.T
  N : X.N = C.N
  sc : X.env.scope = C.sc
  kind : X.env.scope.kind = .function
  fn : ∀ x, (C.all || (C.raw.names.lookup x == some .cell)) = true → X.fn x = true
section
variable {X : Cx} {W : WX} {G : Wr} {k : Nat} {C : Ctx} {e : Expr} {es : List Expr} {x : Str} {pos p : Pos}
theorem CxOk.gl (c : CxOk X W G k C) (h : C.gl x = true) : Gl X x := by
  show X.env.scope.names.lookup x = _
  rw [c.sc]; exact of_decide_eq_true h
theorem CxOk.vis (c : CxOk X W G k C) (h : C.vis x = true) : Vis X.env.scope x := by
  unfold Vis
  rw [c.sc]; exact of_decide_eq_true h
theorem CxOk.asn (c : CxOk X W G k C) (h : C.asn x = true) : Loc X.env.scope x ∧ (X.fn x = true ∨ X.env.scope.names.lookup x = some .local) := by
  unfold L2.Loc
  rw [c.sc]
  unfold Ctx.asn at h
  simp only [Bool.or_eq_true, Bool.and_eq_true, decide_eq_true_eq] at h
  rcases h with h | ⟨h1, h2⟩
  · exact ⟨.inl h, .inr h⟩
  · exact ⟨.inr h1, .inl (c.fn x (by simp only [Bool.or_eq_true]; exact h2))⟩
theorem CxOk.free (c : CxOk X W G k C) (h : C.free x = true) : Gl X x ∧ X.mg x = none := by
  unfold Ctx.free at h
  simp only [Bool.and_eq_true, decide_eq_true_eq] at h
  exact ⟨c.gl h.1, c.x.wf.free x h.2⟩
theorem CxOk.ix (c : CxOk X W G k C) {i : Nat} (h : ixOf C.N x = some i) : X.N[i]? = some x := by rw [c.N]; exact ixOf_ok h
theorem noDbg_ok (h : noDbg x = true) : (x == ("__debug__" : Str)) = false ∧ (x == ("__classdict__" : Str)) = false := by
  unfold noDbg at h
  simpa using h
theorem Wf.blk {T : Tab} (w : Wf X G k T) (s : Shared) (H : Hp) (scope : Scope) (ce : PySem.Env) (fp : List Addr) : Wf (X.blk s H scope ce fp) G k T :=
  ⟨w.glo, w.call, w.mth, w.meth, w.make, w.exc, w.cls, w.clg, w.sub, w.cst, w.free, w.cms⟩
theorem CxOk.blk (c : CxOk X W G k C) (s : Shared) (H : Hp) (scope : Scope) (cl : List (Str × Addr)) (a : Addr) (fp : List Addr) (hk : scope.kind = .function) :
    CxOk (X.blk s H scope (compEnvC scope cl a X.env) fp) W0 G k (C.blk scope) :=
  ⟨⟨c.x.room, c.x.grd, fun u s' ⟨_, _, _, _, _, _, _, _, _, _, _, _, _, _, _, _, w⟩ => w.elim, c.x.wf.blk _ _ _ _ _, c.x.nd, c.x.calm⟩, c.N, by
    show relS scope X.env.scope = relS scope C.sc
    rw [c.sc], hk, fun x h => by simpa [Ctx.blk] using h⟩
theorem PE_no : PE X e (tE X W fun _ _ => .no) := ⟨fun pn s sg H Q I ⟨O, env, h, eo, S, w⟩ => w.elim⟩
theorem PT_no : PT X e (tT X W fun _ _ => .no) := ⟨fun pn s sg H Q I ⟨O, env, h, eo, S, w⟩ => w.elim⟩
theorem PI_no {tg : Expr} {kS : SrcK} : PI X tg e (tI X W kS fun _ _ => .no) := ⟨fun pn s sg H Q I ⟨O, env, h, eo, S, w⟩ => w.elim⟩
theorem opt_map {α β : Type} {g : α → β} {o : Option α} {b : β} (h : o.map g = some b) : ∃ a, o = some a ∧ b = g a := by
  cases o with
  | none => cases h
  | some a => cases h; exact ⟨a, rfl, rfl⟩
theorem mapO_len {α β : Type} {g : α → Option β} : ∀ {as : List α} {bs : List β}, mapO g as = some bs → as.length = bs.length
  | [], _, h => by cases h; rfl
  | a :: as, _, h => by
    simp only [mapO] at h
    split at h
    · split at h
      · rename_i hb; cases h; simp [mapO_len hb]
      · cases h
    · cases h
theorem evs_len {f : IE → Nv → Hs → Res D} : ∀ {es : List IE} {env : Nv} {h : Hs} {ds : List D} {h' : Hs}, evs f es env h = .ok ds h' → ds.length = es.length
  | [], _, _, _, _, e => by cases e; rfl
  | a :: as, env, h, ds, h', e => by
    have e : ((f a env h).bind fun d h => (evs f as env h).bind fun ds h => .ok (d :: ds) h) = Res.ok ds h' := e
    cases q : f a env h with
    | ok d h1 =>
      rw [q] at e
      have e : ((evs f as env h1).bind fun ds h => .ok (d :: ds) h) = Res.ok ds h' := e
      cases q2 : evs f as env h1 with
      | ok ds2 h2 => rw [q2] at e; cases e; simp [evs_len q2]
      | ex x h => rw [q2] at e; cases e
      | no => rw [q2] at e; cases e
    | ex x h => rw [q] at e; cases e
    | no => rw [q] at e; cases e
theorem args_ok {n : Nat} {g : Expr → Option IE} (ih : ∀ e ie, g e = some ie → PE X e (tE X W (ev G n ie))) : ∀ {es : List Expr} {ies : List IE}, es.all starless = true → mapO g es = some ies → PA X es (tA X W (evs (ev G n) ies))
  | [], _, _, h => by cases h; exact sA_nil
  | e :: es, _, hs, h => by
    have h1 : starless e = true ∧ es.all starless = true := by simpa using hs
    simp only [mapO] at h
    split at h
    · rename_i ie he
      split at h
      · rename_i ies hb
        cases h
        exact sA_cons h1.1 (ih e ie he) (args_ok ih h1.2 hb)
      · cases h
    · cases h
theorem args_nil' {n : Nat} {g : Expr → Option IE} {ies : List IE} (h : mapO g es = some ies) : es = [] → evs (ev G n) ies = fun _ h => .ok [] h := fun e => by
  subst e
  cases h; rfl
theorem cop_ok (o : CmpOp) : cpOf (copOf o) = o := by cases o <;> rfl
theorem bop_ok {o : Operator} {b : Bop} (h : bopOf o = some b) : opOf b = o := by cases o <;> cases h <;> rfl
theorem boolE {g : Expr → Option IE} {op : PySem.BoolOp} (ih : ∀ n e ie, g e = some ie → PE X e (tE X W (ev G n ie))) : ∀ {vs : List Expr} {ie : IE} (n : Nat), compB g op vs = some ie → PE X (.BoolOp op vs pos) (tE X W (ev G n ie))
  | [], _, _, h => by cases h
  | [a], _, n, h => sE_one (ih n a _ h)
  | a :: b :: rest, _, n, h => by
    simp only [compB] at h
    split at h
    · rename_i u hu
      split at h
      · rename_i v hv
        cases h
        cases n with
        | zero => cases op <;> exact PE_no
        | succ n =>
          cases op with
          | And => exact sE_and (ih n a u hu) (boolE ih n hv)
          | Or => exact sE_or (ih n a u hu) (boolE ih n hv)
      · cases h
    · cases h
theorem boolT {g : Expr → Option IE} {op : PySem.BoolOp} (ih : ∀ n e ie, g e = some ie → PT X e (tT X W (evT G n ie))) : ∀ {vs : List Expr} {ie : IE} (n : Nat), compB g op vs = some ie → PW X (.BoolOp op vs pos) (tT X W (evT G n ie))
  | [], _, _, h => by cases h
  | [a], _, n, h => by cases op with
    | And => exact sW_and1 (ih n a _ h)
    | Or => exact sW_or1 (ih n a _ h)
  | a :: b :: rest, _, n, h => by
    simp only [compB] at h
    split at h
    · rename_i u hu
      split at h
      · rename_i v hv
        cases h
        cases n with
        | zero => cases op <;> exact ⟨fun wh pn s sg H Q I ⟨O, env, h, eo, S, w⟩ => w.elim⟩
        | succ n =>
          cases op with
          | And => exact sW_and (ih n a u hu) (boolT ih n hv)
          | Or => exact sW_or (ih n a u hu) (boolT ih n hv)
      · cases h
    · cases h
theorem compO_ok {n : Nat} {g : Expr → Option IE} (ih : ∀ e ie, g e = some ie → PE X e (tE X W (ev G n ie))) {o : Option Expr} {l : Option IE} (h : compO g o = some l) : PO X o (tO X W (evo (ev G n) l)) := by
  cases o with
  | none => cases h; exact sO_none
  | some e =>
    obtain ⟨ie, he, rfl⟩ := opt_map h
    exact sO_some (ih e ie he)
theorem compI_ok {n : Nat} {g : Expr → Option IE} {tg : Expr} (c : CxOk X W G k C) (ih : ∀ e ie, g e = some ie → PE X e (tE X W (ev G n ie))) {kS : SrcK} {args : List IE} (h : compI C g tg e = some (kS, args)) : PI X tg e (tI X W kS (evs (ev G n) args)) := by
  unfold compI at h
  split at h
  · rename_i x p as pos
    split at h
    · rename_i hx
      obtain ⟨rfl, hf⟩ := hx
      obtain ⟨hg, hm⟩ := c.free hf
      split at h
      · rename_i hl
        obtain ⟨l, hl2, e2⟩ := opt_map h
        cases e2
        obtain ⟨hs, hl⟩ := hl
        have len := mapO_len hl2
        match as, args, hl2, hs, hl, len with
        | [a], [u], hl2, hs, _, _ =>
          have ha : starless a = true := by simpa using hs
          simp only [mapO] at hl2
          split at hl2
          · rename_i u' hu; cases hl2; exact sI_rng1 hg hm ha (ih a u hu)
          · cases hl2
        | [a, b], [u, v], hl2, hs, _, _ =>
          have ha : starless a = true ∧ starless b = true := by simpa using hs
          simp only [mapO] at hl2
          split at hl2
          · rename_i u' hu
            split at hl2
            · rename_i v' hv
              split at hv
              · rename_i w hw; cases hv; cases hl2; exact sI_rng2 hg hm ha.1 ha.2 (ih a u hu) (ih b v hw)
              · cases hv
            · cases hl2
          · cases hl2
      · cases h
    · split at h
      · rename_i hx
        obtain ⟨rfl, hf⟩ := hx
        obtain ⟨hg, hm⟩ := c.free hf
        split at h
        · rename_i hl
          obtain ⟨l, hl2, e2⟩ := opt_map h
          cases e2
          obtain ⟨hs, hl, ht⟩ := hl
          have len := mapO_len hl2
          match as, args, hl2, hs, hl, len with
          | [a, b], [u, v], hl2, hs, _, _ =>
            have ha : starless a = true ∧ starless b = true := by simpa using hs
            simp only [mapO] at hl2
            split at hl2
            · rename_i u' hu
              split at hl2
              · rename_i v' hv
                split at hv
                · rename_i w hw
                  cases hv; cases hl2
                  cases tg <;> first | exact sI_zip hg hm ha.1 ha.2 (ih a u hu) (ih b v hw) | cases ht
                · cases hv
              · cases hl2
            · cases hl2
        · cases h
      · split at h
        · rename_i hx
          obtain ⟨rfl, hf⟩ := hx
          obtain ⟨hg, hm⟩ := c.free hf
          split at h
          · rename_i hl
            obtain ⟨l, hl2, e2⟩ := opt_map h
            cases e2
            obtain ⟨hs, hl, ht⟩ := hl
            have len := mapO_len hl2
            match as, args, hl2, hs, hl, len with
            | [a], [u], hl2, hs, _, _ =>
              have ha : starless a = true := by simpa using hs
              simp only [mapO] at hl2
              split at hl2
              · rename_i u' hu
                cases hl2
                cases tg <;> first | exact sI_enum hg hm ha (ih a u hu) | cases ht
              · cases hl2
          · cases h
        · obtain ⟨ie, he, e2⟩ := opt_map h
          cases e2
          exact sI_seq (ih _ ie he)
  · split at h
    · obtain ⟨ie, he, e2⟩ := opt_map h
      cases e2
      exact sI_seq (ih _ ie he)
    · cases h
theorem asgE_all : ∀ {ts : List Expr} {l : List Tg} {g : Expr → Option Tg}, (∀ e t, g e = some t → PG X e (gT X t)) → ts.all starless = true → mapO g ts = some l → PGs X ts (gTs X l)
  | [], _, _, _, _, h => by cases h; exact sG_nil
  | e :: es, _, g, ih, hs, h => by
    have h1 : starless e = true ∧ es.all starless = true := by simpa using hs
    simp only [mapO] at h
    split at h
    · rename_i t ht
      split at h
      · rename_i l hb
        cases h
        exact sG_cons h1.1 (ih e t ht) (asgE_all ih h1.2 hb)
      · cases h
    · cases h
theorem compTg_ok (c : CxOk X W G k C) : ∀ (f : Nat) (e : Expr) (t : Tg), compTg f C e = some t → PG X e (gT X t)
  | 0, _, _, h => by simp [compTg] at h
  | f + 1, .Name x p, t, h => by
    simp only [compTg] at h
    split at h
    · rename_i ha
      obtain ⟨i, hi, rfl⟩ := opt_map h
      exact sG_name c.x.nd (c.ix hi) (c.asn ha).1 (c.asn ha).2
    · cases h
  | f + 1, .Tuple es j p, t, h => by
    simp only [compTg] at h
    split at h
    · rename_i hs
      obtain ⟨l, hl, rfl⟩ := opt_map h
      exact sG_tup c.x.calm hs (mapO_len hl) (asgE_all (compTg_ok c f) hs hl)
    · cases h
  | f + 1, .BoolOp .., t, h => by simp [compTg] at h
  | f + 1, .NamedExpr .., t, h => by simp [compTg] at h
  | f + 1, .BinOp .., t, h => by simp [compTg] at h
  | f + 1, .UnaryOp .., t, h => by simp [compTg] at h
  | f + 1, .Lambda .., t, h => by simp [compTg] at h
  | f + 1, .IfExp .., t, h => by simp [compTg] at h
  | f + 1, .Dict .., t, h => by simp [compTg] at h
  | f + 1, .Set .., t, h => by simp [compTg] at h
  | f + 1, .ListComp .., t, h => by simp [compTg] at h
  | f + 1, .SetComp .., t, h => by simp [compTg] at h
  | f + 1, .DictComp .., t, h => by simp [compTg] at h
  | f + 1, .GeneratorExp .., t, h => by simp [compTg] at h
  | f + 1, .Await .., t, h => by simp [compTg] at h
  | f + 1, .Yield .., t, h => by simp [compTg] at h
  | f + 1, .YieldFrom .., t, h => by simp [compTg] at h
  | f + 1, .Compare .., t, h => by simp [compTg] at h
  | f + 1, .Call .., t, h => by simp [compTg] at h
  | f + 1, .FormattedValue .., t, h => by simp [compTg] at h
  | f + 1, .JoinedStr .., t, h => by simp [compTg] at h
  | f + 1, .Constant .., t, h => by simp [compTg] at h
  | f + 1, .Attribute .., t, h => by simp [compTg] at h
  | f + 1, .Subscript .., t, h => by simp [compTg] at h
  | f + 1, .Starred .., t, h => by simp [compTg] at h
  | f + 1, .List .., t, h => by simp [compTg] at h
  | f + 1, .Slice .., t, h => by simp [compTg] at h
end
end SI
end
section
set_option Elab.async false
set_option linter.all false
set_option maxRecDepth 100000
set_option maxHeartbeats 4000000
/-! SI18: the small language keeps to the text: expressions, all of them. -/
namespace SI
open PySem PySem.Spec PyProof.Rows L2

section
variable {X : Cx} {W : WX} {G : Wr} {k : Nat} {C : Ctx} {a b c e o i : Expr} {es : List Expr} {x : Str} {pos p apos : Pos} {fa fb fc : Nv → Hs → Res D}
def chainF (op op' : Cop) (fa fb fc : Nv → Hs → Res D) : Nv → Hs → Res D := fun env h => (fa env h).bind fun x h => (fb env h).bind fun y h => (Res.of (cmpD h op x y) h).bind fun k h => if k then (fc env h).bind fun z h => .of ((cmpD h op' y z).map .bl) h else .ok (.bl false) h
theorem chain_bl {op op' : Cop} {env : Nv} {h h' : Hs} {d : D} (e : chainF op op' fa fb fc env h = .ok d h') : ∃ t, d = .bl t := by
  unfold chainF at e
  cases q1 : fa env h with
  | ok x h1 =>
    rw [q1] at e
    have e : ((fb env h1).bind fun y h => (Res.of (cmpD h op x y) h).bind fun k h => if k then (fc env h).bind fun z h => .of ((cmpD h op' y z).map .bl) h else .ok (.bl false) h) = .ok d h' := e
    cases q2 : fb env h1 with
    | ok y h2 =>
      rw [q2] at e
      have e : ((Res.of (cmpD h2 op x y) h2).bind fun k h => if k then (fc env h).bind fun z h => .of ((cmpD h op' y z).map .bl) h else .ok (.bl false) h) = .ok d h' := e
      cases q3 : cmpD h2 op x y with
      | none => rw [q3] at e; cases e
      | some t =>
        rw [q3] at e
        cases t with
        | false => cases e; exact ⟨_, rfl⟩
        | true =>
          have e : ((fc env h2).bind fun z h => Res.of ((cmpD h op' y z).map .bl) h) = .ok d h' := e
          cases q4 : fc env h2 with
          | ok z h3 =>
            rw [q4] at e
            have e : Res.of ((cmpD h3 op' y z).map D.bl) h3 = .ok d h' := e
            cases q5 : cmpD h3 op' y z with
            | none => rw [q5] at e; cases e
            | some t => rw [q5] at e; cases e; exact ⟨_, rfl⟩
          | ex u h => rw [q4] at e; cases e
          | no => rw [q4] at e; cases e
    | ex u h => rw [q2] at e; cases e
    | no => rw [q2] at e; cases e
  | ex u h => rw [q1] at e; cases e
  | no => rw [q1] at e; cases e
theorem chain_rd {op op' : Cop} {sg : L2.St} {H : Hp} {Q : VK} : tE X W (chainF op op' fa fb fc) sg H Q → tChain (cmpR X op) (cmpR X op') (tE X W fa) (tE X W fb) (tE X W fc) sg H Q := fun ⟨O, env, h, eo, S, w⟩ =>
  ⟨O, env, h, eo, S, Post.bind w fun x h1 O1 v H1 _ s1 S1 r1 p1 => ⟨O1, env, h1, eo.stp s1, S1, p1.bind fun y h2 O2 u H2 _ s2 S2 r2 p2 => by
    obtain ⟨t, e, q⟩ := p2.ofb
    refine cmp_ok S2 (r1.stp s2) r2 e ⟨t, rfl, ?_⟩
    cases t with
    | true =>
      rw [if_pos rfl] at q ⊢
      refine ⟨O2, env, h2, (eo.stp s1).stp s2, S2, q.bind fun z h3 O3 w H3 _ s3 S3 r3 p3 => ?_⟩
      obtain ⟨d, e3, q3⟩ := p3.of S3
      simp only [Option.map_eq_some_iff] at e3
      obtain ⟨t3, e3, rfl⟩ := e3
      exact cmp_ok S3 (r2.stp s3) r3 e3 (q3 _ (.bl t3))
    | false => rw [if_neg (by decide)] at q ⊢; exact q.here S2 (.bl false)⟩⟩
theorem sT_chain {op op' : Cop} (hr : Room k X.A) (ha : PE X a (tE X W fa)) (hb : PE X b (tE X W fb)) (hc : PE X c (tE X W fc)) (hbm : setless b = true) (hcm : setless c = true) :
    PT X (.Compare a [cpOf op, cpOf op'] [b, c] pos) (tT X W fun env h => (chainF op op' fa fb fc env h).bind fun x h => .of (truth h x) h) :=
  PT.weak (pt_chain (cmp_all hr op) (cmp_all hr op') ha hb hc (behind_plain hcm _)) fun sg H Q ⟨O, env, h, eo, S, w⟩ => chain_rd ⟨O, env, h, eo, S, w.bind fun x h1 O1 v H1 er s1 S1 r1 p1 => by
    obtain ⟨t, rfl⟩ := chain_bl er
    exact ⟨t, r1.bl_inv, p1.here S1 rfl⟩⟩
theorem biOf_ok {f : Bi} (h : biOf x = some f) : nmBi f = x := by
  unfold biOf at h
  repeat (split at h; · rename_i e; cases h; exact e.symm)
  cases h
theorem mem_find {l : List String} {q : String → Bool} {n : String} (h : l.find? q = some n) : n ∈ l ∧ q n = true := ⟨List.mem_of_find?_eq_some h, List.find?_some h⟩
theorem compTy_ok (cx : CxOk X W G k C) {t : Sum String Str} (h : compTy C e = some t) : ∃ p, e = .Name (tName t) p ∧ TOk X C.T t := by
  cases e with
  | Name x p =>
    simp only [compTy] at h
    split at h
    · rename_i hg
      split at h
      · rename_i hc
        cases h
        exact ⟨p, rfl, cx.gl hg, hc⟩
      · split at h
        · rename_i n hn
          split at h
          · rename_i hf
            cases h
            obtain ⟨h1, h2⟩ := mem_find hn
            have e1 : Str.ofString n = x := by simpa using h2
            refine ⟨p, by rw [← e1]; rfl, ?_, h1, ?_⟩
            · show Gl X (Str.ofString n); rw [e1]; exact cx.gl hg
            · show X.mg (Str.ofString n) = none; rw [e1]; exact cx.x.wf.free x hf
          · cases h
        · cases h
    · cases h
  | _ => cases h
theorem rg_args {n : Nat} {g : Expr → Option IE} (cx : CxOk X W G k C) (ih : ∀ e ie, g e = some ie → PE X e (tE X W (ev G n ie))) {rs : List Expr} {l : List IE} (h : isRange C e = some rs) (hl : rs.length = 1 ∨ rs.length = 2) (hm : mapO g rs = some l) : PRg X e (tRg X W (evs (ev G n) l)) ∧ starless e = true := by
  cases e with
  | Call fn args kws pos =>
    cases fn with
    | Name y p =>
      cases kws with
      | nil =>
        simp only [isRange] at h
        split at h
        · rename_i hx
          cases h
          obtain ⟨rfl, hf, hs⟩ := hx
          obtain ⟨hg, hmn⟩ := cx.free hf
          refine ⟨?_, rfl⟩
          have len := mapO_len hm
          match rs, l, hm, hs, hl, len with
          | [a], [u], hl2, hs, _, _ =>
            have ha : starless a = true := by simpa using hs
            simp only [mapO] at hl2
            split at hl2
            · rename_i u' hu; cases hl2; exact sR_1 hg hmn ha (ih a u hu)
            · cases hl2
          | [a, b], [u, v], hl2, hs, _, _ =>
            have ha : starless a = true ∧ starless b = true := by simpa using hs
            simp only [mapO] at hl2
            split at hl2
            · rename_i u' hu
              split at hl2
              · rename_i v' hv
                split at hv
                · rename_i w hw; cases hv; cases hl2; exact sR_2 hg hmn ha.1 ha.2 (ih a u hu) (ih b v hw)
                · cases hv
              · cases hl2
            · cases hl2
        · cases h
      | cons => simp [isRange] at h
    | _ => cases kws <;> simp [isRange] at h
  | _ => simp [isRange] at h
theorem blk_kind {N : List Str} {sc scope : Scope} {own : List (Str × Nat)} (h : blkC N sc scope own = true) : scope.kind = .function := (blkOk_by h).kind
theorem ds_ok {n : Nat} {g : Nat → Expr → Option IE} (ih : ∀ m e ie, g m e = some ie → PE X e (tE X W (ev G n ie))) {tk : List Str} : ∀ {keys : List (Option Expr)} {vals : List Expr} {zs : List Str} {es : List IE}, compDs g tk keys vals = some (zs, es) → DPs X W pos keys vals zs (evs (ev G n) es)
  | [], [], _, _, h => by cases h; exact dps_nil
  | [], _ :: _, _, _, h => by cases h
  | _ :: _, [], _, _, h => by cases h
  | q :: ks, v :: vs, _, _, h => by
    simp only [compDs] at h
    split at h
    · rename_i z hz
      split at h
      · rename_i u hu
        split at h
        · rename_i zs es hr
          cases h
          have e1 : ∃ j p, q = some (.Constant (.str z) j p) := by
            unfold keyStr at hz
            split at hz
            · cases hz; exact ⟨_, _, rfl⟩
            · cases hz
          obtain ⟨j, p, rfl⟩ := e1
          exact dps_cons (ih _ v u hu) (ds_ok ih hr)
        · cases h
      · cases h
    · cases h
/-- the sound translation -/
def SndE (f : Nat) : Prop := ∀ (X : Cx) (W : WX) (G : Wr) (k : Nat) (C : Ctx) (m : Nat) (e : Expr) (ie : IE) (n : Nat), CxOk X W G k C → compE f C m e = some ie → PE X e (tE X W (ev G n ie))
def SndT (f : Nat) : Prop := ∀ (X : Cx) (W : WX) (G : Wr) (k : Nat) (C : Ctx) (e : Expr) (ie : IE) (n : Nat), CxOk X W G k C → compT f C e = some ie → PT X e (tT X W (evT G n ie))
theorem ev0 (ie : IE) : ev G 0 ie = fun _ _ => .no := rfl
/-- a call by a global's name -/
theorem call_snd {f n m : Nat} {args : List Expr} {ie : IE} (ihE : SndE f) (cx : CxOk X W G k C) (hs : args.all starless = true) (hg : C.gl x = true) (hd : noDbg x = true)
    (h : (if x ∈ C.T.fns then (mapO (compE f C 0) args).map (.call x)
            else if x ∈ C.T.cls then (mapO (compE f C 0) args).map (.make x)
            else if x ∈ C.T.free then (match args with
              | [a] => match isRange C a with
                | some rs => if rs.length = 1 ∨ rs.length = 2 then (if x = "list" then (mapO (compE f C 0) rs).map (.rngs true (m == 1)) else if x = "tuple" then (mapO (compE f C 0) rs).map (.rngs false false) else none) else none
                | none => if m = 1 then (if x = "list" then (compE f C 0 a).map .lstm else none) else match biOf x with
                  | some b => (compE f C 0 a).map (.bi b)
                  | none => none
              | [a, t] => if x = "isinstance" then (match compE f C 0 a with
                | some y => match compTy C t with
                  | some z => some (.isi y [z])
                  | none => none
                | none => none) else none
              | _ => none)
            else none) = some ie) : PE X (.Call (.Name x p) args [] pos) (tE X W (ev G (n + 1) ie)) := by
  have hdb := (noDbg_ok hd).1
  have ih : ∀ e ie, compE f C 0 e = some ie → PE X e (tE X W (ev G n ie)) := fun e ie h => ihE X W G k C 0 e ie n cx h
  split at h
  · rename_i hx
    obtain ⟨l, hl, rfl⟩ := opt_map h
    exact sE_call cx.x hx (cx.gl hg) hdb hs (args_ok ih hs hl) (args_nil' hl)
  · split at h
    · rename_i hx
      obtain ⟨l, hl, rfl⟩ := opt_map h
      exact sE_make cx.x hx (cx.gl hg) hdb hs (args_ok ih hs hl) (args_nil' hl)
    · split at h
      · rename_i hx
        have hmn := cx.x.wf.free x hx
        split at h
        · rename_i a
          have ha : starless a = true := by simpa using hs
          split at h
          · rename_i rs hr
            split at h
            · rename_i hl
              split at h
              · rename_i e1
                subst e1
                obtain ⟨l, hl2, rfl⟩ := opt_map h
                obtain ⟨pr, hsa⟩ := rg_args cx ih hr hl hl2
                exact sE_lrg cx.x.calm (cx.gl hg) hmn hsa pr
              · split at h
                · rename_i e1
                  subst e1
                  obtain ⟨l, hl2, rfl⟩ := opt_map h
                  obtain ⟨pr, hsa⟩ := rg_args cx ih hr hl hl2
                  exact sE_trg cx.x.calm (cx.gl hg) hmn hsa pr
                · cases h
            · cases h
          · split at h
            · split at h
              · rename_i e1
                subst e1
                obtain ⟨u, hu, rfl⟩ := opt_map h
                exact sE_lstm (cx.gl hg) hmn ha (ih a u hu)
              · cases h
            · split at h
              · rename_i b hb
                obtain ⟨u, hu, rfl⟩ := opt_map h
                have e1 := biOf_ok hb
                subst e1
                exact sE_bi cx.x b (cx.gl hg) hmn ha (ih a u hu)
              · cases h
        · rename_i a t
          have ha : starless a = true ∧ starless t = true := by simpa using hs
          split at h
          · rename_i e1
            subst e1
            split at h
            · rename_i u hu
              split at h
              · rename_i z hz
                cases h
                obtain ⟨p2, rfl, tk⟩ := compTy_ok cx hz
                exact sE_isi1 cx.x tk (cx.gl hg) hmn ha.1 (ih a u hu)
              · cases h
            · cases h
          · cases h
        · cases h
      · cases h
/-- a call of an attribute -/
theorem meth_snd {f n : Nat} {args : List Expr} {mm : Str} {ie : IE} (ihE : SndE f) (cx : CxOk X W G k C)
    (h : (match (match o with
              | .Name c _ => if (c, mm) ∈ C.T.cms ∧ C.gl c = true ∧ noDbg c = true then some c else none
              | _ => none) with
            | some c => (mapO (compE f C 0) args).map (.cmeth c mm)
            | none => match compE f C 0 o with
              | some y => match mapO (compE f C 0) args with
                | some zs => match args with
                  | [_] => if mm = "append" then some (.bm .append y zs) else if mm = "extend" then some (.bm .extend y zs) else if mm = "pop" then some (.bm .pop1 y zs) else some (.meth y mm zs)
                  | [_, _] => if mm = "get" then some (.bm .get2 y zs) else some (.meth y mm zs)
                  | _ => some (.meth y mm zs)
                | none => none
              | none => none) = some ie) (hs : args.all starless = true) (ho : superless o = true) (hp : apos.endLine = pos.line) (hl : args.length < 30) : PE X (.Call (.Attribute o mm apos) args [] pos) (tE X W (ev G (n + 1) ie)) := by
  have ih : ∀ e ie, compE f C 0 e = some ie → PE X e (tE X W (ev G n ie)) := fun e ie h => ihE X W G k C 0 e ie n cx h
  have hpb : (apos.endLine == pos.line) = true := by simpa using hp
  split at h
  · rename_i c hc
    obtain ⟨l, hl2, rfl⟩ := opt_map h
    cases o with
    | Name c' q =>
      simp only at hc
      split at hc
      · rename_i hh
        cases hc
        exact sE_cmeth cx.x hh.1 (cx.gl hh.2.1) (noDbg_ok hh.2.2).1 hl hpb hs (args_ok ih hs hl2) (args_nil' hl2)
      · cases hc
    | _ => cases hc
  · split at h
    · rename_i y hy
      split at h
      · rename_i zs hz
        have hme : PE X (.Call (.Attribute o mm apos) args [] pos) (tE X W (ev G (n + 1) (.meth y mm zs))) := sE_meth cx.x hl ho hpb hs (ih o y hy) (args_ok ih hs hz) (args_nil' hz)
        cases args with
        | nil => cases h; exact hme
        | cons a r =>
          cases r with
          | nil =>
            have ha : starless a = true := by simpa using hs
            simp only [mapO] at hz
            split at hz
            · rename_i u hu
              cases hz
              simp only at h
              split at h
              · rename_i e1; subst e1; cases h; exact sM_append ho hpb ha (ih o y hy) (ih a u hu)
              · split at h
                · rename_i e1; subst e1; cases h; exact sM_extend ho hpb ha (ih o y hy) (ih a u hu)
                · split at h
                  · rename_i e1; subst e1; cases h; exact sM_pop cx.x.room ho hpb ha (ih o y hy) (ih a u hu)
                  · cases h; exact hme
            · cases hz
          | cons b r2 =>
            cases r2 with
            | cons => cases h; exact hme
            | nil =>
              have ha : starless a = true ∧ starless b = true := by simpa using hs
              simp only [mapO] at hz
              split at hz
              · rename_i u hu
                split at hz
                · rename_i v' hv
                  split at hv
                  · rename_i v hv2
                    cases hv; cases hz
                    simp only at h
                    split at h
                    · rename_i e1; subst e1; cases h; exact sM_get cx.x.room ho hpb ha.1 ha.2 (ih o y hy) (ih a u hu) (ih b v hv2)
                    · cases h; exact hme
                  · cases hv
                · cases hz
              · cases hz
      · cases h
    · cases h
theorem wkOf_ok (cx : CxOk X W G k C) {i : Nat} (h : wkOf C e = some i) : ∃ y p, e = .Name y p ∧ X.N[i]? = some y ∧ Vis X.env.scope y ∧ (y == ("__debug__" : Str)) = false ∧ (y == ("__classdict__" : Str)) = false := by
  cases e with
  | Name y p =>
    simp only [wkOf] at h
    split at h
    · rename_i hh
      obtain ⟨d1, d2⟩ := noDbg_ok hh.2.2
      exact ⟨y, p, rfl, cx.ix h, cx.vis hh.2.1, d1, d2⟩
    · cases h
  | _ => cases h
theorem lookup_memD {l : List (Str × D)} {d : D} (h : l.lookup x = some d) : (x, d) ∈ l := PySem.mem_of_lookup h
end
end SI
end
section
set_option Elab.async false
set_option linter.all false
set_option maxRecDepth 100000
set_option maxHeartbeats 4000000
/-! SI19: expressions, the theorem. -/
namespace SI
open PySem PySem.Spec PyProof.Rows L2

theorem cmp_ok' {X : Cx} {W : WX} {G : Wr} {k : Nat} {C : Ctx} {g : Expr → Option IE} {a : Expr} {pos : Pos} (cx : CxOk X W G k C) {n : Nat} (ih : ∀ e ie, g e = some ie → PE X e (tE X W (ev G n ie))) {ops : List CmpOp} {bs : List Expr} {ie : IE} (h : compC g a ops bs = some ie) :
    PE X (.Compare a ops bs pos) (tE X W (ev G (n + 1) ie)) := by
  unfold compC at h
  split at h
  · rename_i o b
    split at h
    · rename_i hs
      split at h
      · rename_i u hu
        split at h
        · rename_i v hv
          cases h
          have z := sE_cmp (pos := pos) cx.x.room (op := copOf o) hs (ih a u hu) (ih b v hv)
          rw [cop_ok] at z
          exact z
        · cases h
      · cases h
    · cases h
  · rename_i o o2 b c
    split at h
    · rename_i hs
      split at h
      · rename_i u hu
        split at h
        · rename_i v hv
          split at h
          · rename_i w hw
            cases h
            have z := sE_chain (pos := pos) cx.x.room (op := copOf o) (op' := copOf o2) (ih a u hu) (ih b v hv) (ih c w hw) hs.1 hs.2
            rw [cop_ok, cop_ok] at z
            exact z
          · cases h
        · cases h
      · cases h
    · cases h
  · cases h
theorem PT_no' {X : Cx} {W : WX} {e : Expr} {f : Nv → Hs → Res Bool} (h : ∀ env hh, f env hh = .no) : PT X e (tT X W f) := ⟨fun pn s sg H Q I ⟨O, env, hh, eo, S, w⟩ => by rw [h] at w; exact w.elim⟩
theorem cmpT_ok {X : Cx} {W : WX} {G : Wr} {k : Nat} {C : Ctx} {g : Expr → Option IE} {a : Expr} {pos : Pos} (cx : CxOk X W G k C) {n : Nat} (ih : ∀ e ie n, g e = some ie → PE X e (tE X W (ev G n ie))) {ops : List CmpOp} {bs : List Expr} {ie : IE} (h : compC g a ops bs = some ie) :
    PT X (.Compare a ops bs pos) (tT X W (evT G (n + 1) ie)) := by
  unfold compC at h
  split at h
  · rename_i o b
    split at h
    · rename_i hs
      split at h
      · rename_i u hu
        split at h
        · rename_i v hv
          cases h
          cases n with
          | zero => exact PT_no' fun _ _ => rfl
          | succ n =>
            have z := sT_cmp (pos := pos) cx.x.room (op := copOf o) hs (ih a u n hu) (ih b v n hv)
            rw [cop_ok] at z
            exact z
        · cases h
      · cases h
    · cases h
  · rename_i o o2 b c
    split at h
    · rename_i hs
      split at h
      · rename_i u hu
        split at h
        · rename_i v hv
          split at h
          · rename_i w hw
            cases h
            cases n with
            | zero => exact PT_no' fun _ _ => rfl
            | succ n =>
              have z := sT_chain (pos := pos) (op := copOf o) (op' := copOf o2) cx.x.room (ih a u n hu) (ih b v n hv) (ih c w n hw) hs.1 hs.2
              rw [cop_ok, cop_ok] at z
              exact z
          · cases h
        · cases h
      · cases h
    · cases h
  · cases h
theorem snd_T {f : Nat} (ihE : SndE f) (ihT : SndT f) : SndT (f + 1) := by
  intro X W G k C e ie n cx h
  have ev1 : ∀ e ie n, compE f C 0 e = some ie → PE X e (tE X W (ev G n ie)) := fun e ie n h => ihE X W G k C 0 e ie n cx h
  have tv1 : ∀ n e ie, compT f C e = some ie → PT X e (tT X W (evT G n ie)) := fun n e ie h => ihT X W G k C e ie n cx h
  cases n with
  | zero => exact PT_no
  | succ n =>
    have val : plainT e = true → (compE f C 0 e).map IE.val = some ie → PT X e (tT X W (evT G (n + 1) ie)) := fun hp h => by
      obtain ⟨u, hu, rfl⟩ := opt_map h
      cases n with
      | zero => exact PT_no' fun _ _ => rfl
      | succ n => exact sT_val hp (ev1 e u n hu)
    cases e with
    | UnaryOp op a pos =>
      cases op with
      | Not =>
        simp only [compT] at h
        obtain ⟨u, hu, rfl⟩ := opt_map h
        exact sT_not (tv1 n a u hu)
      | USub =>
        simp only [compT] at h
        exact val rfl h
      | UAdd =>
        simp only [compT] at h
        exact val rfl h
      | Invert =>
        simp only [compT] at h
        exact val rfl h
    | BoolOp op vs pos =>
      simp only [compT] at h
      exact (boolT tv1 (n + 1) h).pt
    | Compare a ops bs pos =>
      simp only [compT] at h
      exact cmpT_ok cx ev1 h
    | IfExp => simp [compT] at h
    | _ =>
      simp only [compT] at h
      split at h
      · exact val rfl h
      · cases h
theorem snd_E {f : Nat} (ihE : SndE f) (ihT : SndT f) : SndE (f + 1) := by
  intro X W G k C m e ie n cx h
  have ih0 : ∀ n m e ie, compE f C m e = some ie → PE X e (tE X W (ev G n ie)) := fun n m e ie h => ihE X W G k C m e ie n cx h
  cases n with
  | zero => exact PE_no
  | succ n =>
    have ih : ∀ e ie, compE f C 0 e = some ie → PE X e (tE X W (ev G n ie)) := fun e ie h => ih0 n 0 e ie h
    cases e with
    | Constant c j pos =>
      simp only [compE] at h
      cases c <;> first | (cases h; first | exact sE_int | exact sE_bl | exact sE_str | exact sE_non) | cases h
    | Name x pos =>
      simp only [compE] at h
      split at h
      · rename_i hd
        obtain ⟨d1, d2⟩ := noDbg_ok hd
        split at h
        · rename_i hv
          obtain ⟨i, hi, rfl⟩ := opt_map h
          exact sE_var (cx.ix hi) (cx.vis hv) d1 d2
        · split at h
          · rename_i hg
            obtain ⟨d, hl, rfl⟩ := opt_map h
            exact sE_glob (cx.gl hg) d1 (cx.x.wf.cst _ (lookup_memD hl))
          · cases h
      · cases h
    | Tuple es j pos =>
      simp only [compE] at h
      split at h
      · rename_i hh
        obtain ⟨l, hl, rfl⟩ := opt_map h
        exact sE_tup (fun env h ds h' er => by rw [evs_len er, ← mapO_len hl]; exact hh.2) (args_ok ih hh.1 hl)
      · cases h
    | List es pos =>
      simp only [compE] at h
      split at h
      · rename_i hh
        obtain ⟨l, hl, rfl⟩ := opt_map h
        exact sE_lst (fun env h ds h' er => by rw [evs_len er, ← mapO_len hl]; exact hh.2) (args_ok ih hh.1 hl)
      · cases h
    | BinOp a op b pos =>
      simp only [compE] at h
      split at h
      · rename_i o ho
        split at h
        · rename_i u hu
          split at h
          · rename_i v hv
            cases h
            have z := sE_bin (op := o) (pos := pos) (ih a u hu) (ih b v hv)
            rw [bop_ok ho] at z
            exact z
          · cases h
        · cases h
      · cases h
    | UnaryOp op a pos =>
      simp only [compE] at h
      split at h
      · obtain ⟨u, hu, rfl⟩ := opt_map h
        exact sE_neg (ih a u hu)
      · obtain ⟨u, hu, rfl⟩ := opt_map h
        exact sE_not (ih a u hu)
      · cases h
    | BoolOp op vs pos =>
      simp only [compE] at h
      exact boolE (fun n e ie h => ih0 n 0 e ie h) (n + 1) h
    | Compare a ops bs pos =>
      simp only [compE] at h
      exact cmp_ok' cx ih h
    | IfExp c a b pos =>
      simp only [compE] at h
      split at h
      · rename_i w hw
        split at h
        · rename_i u hu
          split at h
          · rename_i v hv
            cases h
            exact sE_ife (ihT X W G k C c w n cx hw) (ih a u hu) (ih b v hv)
          · cases h
        · cases h
      · cases h
    | Attribute o g pos =>
      simp only [compE] at h
      split at h
      · rename_i hh
        obtain ⟨u, hu, rfl⟩ := opt_map h
        exact sE_fld cx.x hh.2 hh.1 (ih o u hu)
      · cases h
    | Subscript o i pos =>
      simp only [compE] at h
      split at h
      · rename_i lo hi st p2
        split at h
        · split at h
          · rename_i u hu
            split at h
            · rename_i l hl
              split at h
              · rename_i r hr
                cases h
                exact sE_sl (ih o u hu) (compO_ok ih hl) (compO_ok ih hr)
              · cases h
            · cases h
          · cases h
        · cases h
      · split at h
        · rename_i hs
          split at h
          · rename_i u hu
            split at h
            · rename_i v hv
              cases h
              exact sE_ix cx.x hs (ih o u hu) (ih i v hv)
            · cases h
          · cases h
        · cases h
    | ListComp elt gens scope pos =>
      simp only [compE] at h
      split at h
      · rename_i tg iter ifs as
        split at h
        · rename_i hh
          obtain ⟨rfl, hs, hb⟩ := hh
          split at h
          · rename_i j0 hj0
            split at h
            · rename_i t ht
              split at h
              · rename_i hj
                split at h
                · rename_i u hu
                  have ok : BlkOk X.N X.env.scope scope (ownOf C.N scope) := by
                    rw [cx.N, cx.sc]; exact blkOk_by hb
                  have hsub : ∀ j ∈ ids t, j ∈ (ownOf C.N scope).map (·.2) := fun j hj' => by
                    have := List.all_eq_true.mp hj j hj'
                    simpa using this
                  have cb : ∀ (s : Shared) (H : Hp) (Ca : Addr) (cl : List (Str × Addr)) (fp : List Addr), CxOk (X.blk s H scope (compEnvC scope cl Ca X.env) fp) W0 G k (C.blk scope) := fun s H Ca cl fp => cx.blk s H scope cl Ca fp (blk_kind hb)
                  obtain ⟨y, py, rfl, hix, hvis, hd1, hd2⟩ := wkOf_ok cx hj0
                  split at h
                  · cases h
                    have z := sE_compK (k := k) (T := C.T) (W := W) (G := G) (mm := m == 1) (p := py) (pos := pos) (tg := t) (ft := fun _ h => .ok true h) (fe := ev G n u) cx.x hix hvis hd1 hd2 ok
                      (fun s H Ca cl fp => compTg_ok (cb s H Ca cl fp) f tg t ht) (fun s H Ca cl fp => ts_nil (W := W0)) (fun s H Ca cl fp => ihE _ _ G k _ 0 elt u n (cb s H Ca cl fp) hu) hsub
                    exact z
                  · rename_i c
                    split at h
                    · rename_i v hv
                      cases h
                      have z := sE_compK (k := k) (T := C.T) (W := W) (G := G) (mm := m == 1) (p := py) (pos := pos) (tg := t) (ft := evT G n v) (fe := ev G n u) cx.x hix hvis hd1 hd2 ok
                        (fun s H Ca cl fp => compTg_ok (cb s H Ca cl fp) f tg t ht) (fun s H Ca cl fp => pts_one (ihT _ _ G k _ c v n (cb s H Ca cl fp) hv)) (fun s H Ca cl fp => ihE _ _ G k _ 0 elt u n (cb s H Ca cl fp) hu) hsub
                      exact z
                    · cases h
                  · cases h
                · cases h
              · cases h
            · cases h
          · split at h
            · rename_i kS args hi
              split at h
              · rename_i t ht
                split at h
                · rename_i hj
                  split at h
                  · rename_i u hu
                    have ok : BlkOk X.N X.env.scope scope (ownOf C.N scope) := by
                      rw [cx.N, cx.sc]; exact blkOk_by hb
                    have hsub : ∀ j ∈ ids t, j ∈ (ownOf C.N scope).map (·.2) := fun j hj' => by
                      have := List.all_eq_true.mp hj j hj'
                      simpa using this
                    have cb : ∀ (s : Shared) (H : Hp) (Ca : Addr) (cl : List (Str × Addr)) (fp : List Addr), CxOk (X.blk s H scope (compEnvC scope cl Ca X.env) fp) W0 G k (C.blk scope) := fun s H Ca cl fp => cx.blk s H scope cl Ca fp (blk_kind hb)
                    split at h
                    · cases h
                      obtain ⟨_, pe, rfl, im⟩ := sE_comp (k := k) (T := C.T) (W := W) (G := G) (mm := m == 1) (pos := pos) (tg := t) (ft := fun _ h => .ok true h) (fe := ev G n u) cx.x (compI_ok cx ih hi) ok
                        (fun s H Ca cl fp => compTg_ok (cb s H Ca cl fp) f tg t ht) (fun s H Ca cl fp => ts_nil (W := W0)) (fun s H Ca cl fp => ihE _ _ G k _ 0 elt u n (cb s H Ca cl fp) hu) hs hsub
                      exact PE.weak pe im
                    · rename_i c
                      split at h
                      · rename_i v hv
                        cases h
                        obtain ⟨_, pe, rfl, im⟩ := sE_comp (k := k) (T := C.T) (W := W) (G := G) (mm := m == 1) (pos := pos) (tg := t) (ft := evT G n v) (fe := ev G n u) cx.x (compI_ok cx ih hi) ok
                          (fun s H Ca cl fp => compTg_ok (cb s H Ca cl fp) f tg t ht) (fun s H Ca cl fp => pts_one (ihT _ _ G k _ c v n (cb s H Ca cl fp) hv)) (fun s H Ca cl fp => ihE _ _ G k _ 0 elt u n (cb s H Ca cl fp) hu) hs hsub
                        exact PE.weak pe im
                      · cases h
                    · cases h
                  · cases h
                · cases h
              · cases h
            · cases h
        · cases h
      · cases h
    | Dict keys vals pos =>
      simp only [compE] at h
      split at h
      · split at h
        · cases h
          have z := sE_dic (X := X) (W := W) (pos := pos) (t := m == 2)
          exact z
        · cases h
      · rename_i hne
        split at h
        · rename_i zs es hd
          split at h
          · rename_i hh
            cases h
            exact sE_dicd (ds_ok (fun m e ie h => ih0 n m e ie h) hd) (fun z => hne z) hh.1 hh.2
          · cases h
        · cases h
    | Call fn args kws pos =>
      simp only [compE] at h
      split at h
      · split at h
        · rename_i hs
          split at h
          · rename_i x p
            split at h
            · rename_i hh
              exact call_snd ihE cx hs hh.1 hh.2 h
            · cases h
          · rename_i o mm apos
            split at h
            · rename_i hh
              exact meth_snd ihE cx h hs hh.1 hh.2.1 hh.2.2
            · cases h
          · cases h
        · cases h
      · cases h
    | _ => simp [compE] at h
end SI
end
section
set_option Elab.async false
set_option linter.all false
set_option maxRecDepth 100000
set_option maxHeartbeats 4000000
/-! SI20: statements keep to the text. -/
namespace SI
open PySem PySem.Spec PyProof.Rows L2

theorem snd_all : ∀ f, SndE f ∧ SndT f
  | 0 => ⟨fun X W G k C m e ie n cx h => by simp [compE] at h, fun X W G k C e ie n cx h => by simp [compT] at h⟩
  | f + 1 => ⟨snd_E (snd_all f).1 (snd_all f).2, snd_T (snd_all f).1 (snd_all f).2⟩
section
variable {X : Cx} {W : WX} {G : Wr} {k : Nat} {C : Ctx} {a b c e o i : Expr} {es : List Expr} {x : Str} {pos p apos : Pos}
theorem CxOk.E (cx : CxOk X W G k C) {f m n : Nat} {ie : IE} (h : compE f C m e = some ie) : PE X e (tE X W (ev G n ie)) := (snd_all f).1 X W G k C m e ie n cx h
theorem CxOk.T (cx : CxOk X W G k C) {f n : Nat} {ie : IE} (h : compT f C e = some ie) : PT X e (tT X W (evT G n ie)) := (snd_all f).2 X W G k C e ie n cx h
theorem sw_is {elt : Expr} {gs : List Comprehension} {scope : Scope} {y : Str} {py : Pos} {l : Nat} {env : PySem.Env} (hk : env.scope.kind = .function) :
    swapsWith (.ListComp elt gs scope pos) (some (.Name y py)) l env = pure (swB env.scope y py scope pos) := by
  have hb : env.blockKind = .function := by unfold Env.blockKind; rw [hk]; rfl
  unfold swapsWith
  simp only [hb]
  rfl
theorem sole (t e : Expr) (l : Nat) (env : PySem.Env) : swapsWithSole [t] e l env = swapsWith e (some t) l env := rfl
theorem PS_no {st : Stmt} {f : Nv → Hs → SRes} (h : ∀ env hh, f env hh = .no) : PS X st (tS X W f) := ⟨fun pn s sg H Dn I ⟨O, env, hh, eo, S, w⟩ => by rw [h] at w; exact w.elim⟩
theorem PSs_no {st : List Stmt} {f : Nv → Hs → SRes} (h : ∀ env hh, f env hh = .no) : PSs X st (tS X W f) := ⟨fun pn s sg H Dn I ⟨O, env, hh, eo, S, w⟩ => by rw [h] at w; exact w.elim⟩
/-- name = [.. for ..] -/
theorem setLc_snd {f n i : Nat} {elt : Expr} {gs : List Comprehension} {scope : Scope} {m : Nat} {ie : IE} {px : Pos} (cx : CxOk X W G k C) (ha : C.asn x = true) (hi : ixOf C.N x = some i) (h : compE f C m (.ListComp elt gs scope p) = some ie) :
    PS X (.Assign [.Name x px] (.ListComp elt gs scope p) pos) (tS X W (ex G (n + 1) (.set (.n i) ie))) := by
  cases hsw : swB X.env.scope x px scope p with
  | false =>
    exact sS_set (cx.E h) (sG_name cx.x.nd (cx.ix hi) (cx.asn ha).1 (cx.asn ha).2) (by rw [sole, sw_is cx.kind, hsw]) rfl rfl
  | true =>
    cases n with
    | zero => exact PS_no fun _ _ => rfl
    | succ n =>
    cases f with
    | zero => simp [compE] at h
    | succ f =>
      have hl : X.env.scope.names.lookup x = some .local := by
        unfold swB at hsw
        simp only [Bool.and_eq_true, beq_iff_eq] at hsw
        exact hsw.1.1
      simp only [compE] at h
      split at h
      · rename_i tg iter ifs as
        split at h
        · rename_i hh
          obtain ⟨rfl, hs, hb⟩ := hh
          split at h
          · rename_i j0 hj0
            split at h
            · rename_i t ht
              split at h
              · rename_i hj
                split at h
                · rename_i u hu
                  have ok : BlkOk X.N X.env.scope scope (ownOf C.N scope) := by
                    rw [cx.N, cx.sc]; exact blkOk_by hb
                  have hsub : ∀ j ∈ ids t, j ∈ (ownOf C.N scope).map (·.2) := fun j hj' => by
                    have := List.all_eq_true.mp hj j hj'
                    simpa using this
                  have cb : ∀ (s : Shared) (H : Hp) (Ca : Addr) (cl : List (Str × Addr)) (fp : List Addr), CxOk (X.blk s H scope (compEnvC scope cl Ca X.env) fp) W0 G k (C.blk scope) := fun s H Ca cl fp => cx.blk s H scope cl Ca fp (blk_kind hb)
                  obtain ⟨y, py, rfl, hix, hvis, hd1, hd2⟩ := wkOf_ok cx hj0
                  have go : ∀ {ft : Nv → Hs → Res Bool} (ht : ∀ (s : Shared) (H : Hp) (Ca : Addr) (cl : List (Str × Addr)) (fp : List Addr), PTs (X.blk s H scope (compEnvC scope cl Ca X.env) fp) ifs (tT X W0 ft)),
                      PS X (.Assign [.Name x px] (.ListComp elt [⟨tg, .Name y py, ifs, 0⟩] scope p) pos) (tS X W fun env h => (compKF t ft (ev G n u) ((ownOf C.N scope).map (·.2)) j0 (m == 1) env h).sbind env fun d h => .nx (env.set i (some d)) h) := fun {ft} hts => by
                    refine PS.weak (ps_lock (ps_setLc (g := gT X t) (tt := tT X W0 ft) (te := tE X W0 (ev G n u)) cx.x.calm cx.x.nd (cx.ix hi) hl (by rw [sw_is cx.kind, hsw]) (pi_keys (pe_var hix hvis hd1 hd2)) ok (fun s H Ca cl fp => compTg_ok (cb s H Ca cl fp) f tg t ht) hts (fun s H Ca cl fp => (cb s H Ca cl fp).E hu) (fold_set (e := .Name y py) rfl X.env))) fun Dn sg H ⟨O, env, h, eo, S, w⟩ => ?_
                    have z := compK_im (X := X) (W := W) (tg := t) (ft := ft) (fe := ev G n u) (mm := m == 1) (i := j0) (sg := sg) (H := H) (Q := fun v H1 => Dn.nx (sg.set i (some v)) H1) hsub ⟨O, env, h, eo, S, PostS.bind w eo fun d h1 O1 v H1 _ s1 S1 r1 p1 => p1 O1 _ H1 (Stp.refl _ _) S1 ((eo.stp s1).set i r1)⟩
                    exact z
                  split at h
                  · cases h
                    exact go (ft := fun _ h => .ok true h) fun s H Ca cl fp => ts_nil (W := W0)
                  · rename_i c
                    split at h
                    · rename_i v hv
                      cases h
                      exact go (ft := evT G n v) fun s H Ca cl fp => pts_one ((cb s H Ca cl fp).T hv)
                    · cases h
                  · cases h
                · cases h
              · cases h
            · cases h
          · split at h
            · rename_i kS args hi2
              split at h
              · rename_i t ht
                split at h
                · rename_i hj
                  split at h
                  · rename_i u hu
                    have ok : BlkOk X.N X.env.scope scope (ownOf C.N scope) := by
                      rw [cx.N, cx.sc]; exact blkOk_by hb
                    have hsub : ∀ j ∈ ids t, j ∈ (ownOf C.N scope).map (·.2) := fun j hj' => by
                      have := List.all_eq_true.mp hj j hj'
                      simpa using this
                    have cb : ∀ (s : Shared) (H : Hp) (Ca : Addr) (cl : List (Str × Addr)) (fp : List Addr), CxOk (X.blk s H scope (compEnvC scope cl Ca X.env) fp) W0 G k (C.blk scope) := fun s H Ca cl fp => cx.blk s H scope cl Ca fp (blk_kind hb)
                    have go : ∀ {ft : Nv → Hs → Res Bool} (ht : ∀ (s : Shared) (H : Hp) (Ca : Addr) (cl : List (Str × Addr)) (fp : List Addr), PTs (X.blk s H scope (compEnvC scope cl Ca X.env) fp) ifs (tT X W0 ft)),
                        PS X (.Assign [.Name x px] (.ListComp elt [⟨tg, iter, ifs, 0⟩] scope p) pos) (tS X W fun env h => (reL (m == 1) ((evs (ev G n) args env h).bind fun ds h => (Res.of (srcD kS ds) h).bind fun xs h => if xs.length ≤ LINE then (compLoop (turnF t ft (ev G n u) (wipeE env ((ownOf C.N scope).map (·.2)))) xs h).bind fun ys h => .ok (.lst ys) h else .no)).sbind env fun d h => .nx (env.set i (some d)) h) := fun {ft} hts => by
                      obtain ⟨_, pe, rfl, im⟩ := sE_comp (k := k) (T := C.T) (W := W) (G := G) (mm := m == 1) (pos := p) (tg := t) (ft := ft) (fe := ev G n u) cx.x (compI_ok cx (fun e ie h => cx.E h) hi2) ok
                        (fun s H Ca cl fp => compTg_ok (cb s H Ca cl fp) f tg t ht) hts (fun s H Ca cl fp => (cb s H Ca cl fp).E hu) hs hsub
                      refine PS.weak (ps_setLc cx.x.calm cx.x.nd (cx.ix hi) hl (by rw [sw_is cx.kind, hsw]) (compI_ok cx (fun e ie h => cx.E h) hi2) ok (fun s H Ca cl fp => compTg_ok (cb s H Ca cl fp) f tg t ht) hts (fun s H Ca cl fp => (cb s H Ca cl fp).E hu) (fold_set hs X.env)) fun Dn sg H ⟨O, env, h, eo, S, w⟩ => im sg H _ ⟨O, env, h, eo, S, PostS.bind w eo fun d h1 O1 v H1 _ s1 S1 r1 p1 => p1 O1 _ H1 (Stp.refl _ _) S1 ((eo.stp s1).set i r1)⟩
                    split at h
                    · cases h
                      exact go (ft := fun _ h => .ok true h) fun s H Ca cl fp => ts_nil (W := W0)
                    · rename_i c
                      split at h
                      · rename_i v hv
                        cases h
                        exact go (ft := evT G n v) fun s H Ca cl fp => pts_one ((cb s H Ca cl fp).T hv)
                      · cases h
                    · cases h
                  · cases h
                · cases h
              · cases h
            · cases h
        · cases h
      · cases h
theorem swapped_none (ht : compless e = true) (hn : isTup e = false) (t : Expr) (env : PySem.Env) : swappedStores [t] e env = pure none := by
  cases e <;> first | (cases t <;> rfl) | cases hn
theorem swapped2 {y : Str} {px py pt : Pos} {kt k2 : Nat} {pt2 : Pos} {env : PySem.Env} (hk : env.scope.kind = .function) (hx : env.scope.names.lookup x = some .local) (hy : env.scope.names.lookup y = some .local) (hl : (py.line == px.line) = true) (hxy : x ≠ y)
    (sa : starless a = true) (sb : starless b = true) (hf : [a, b].all (foldedForSure 8) = false) (hc : [a, b].all (constantsAlone 8) = false) : swappedStores [.Tuple [.Name x px, .Name y py] kt pt] (.Tuple [a, b] k2 pt2) env = pure (some [x, y]) := by
  have hb : env.blockKind = .function := by unfold Env.blockKind; rw [hk]; rfl
  have kx : env.kindOf x = some .local := hx
  have ky : env.kindOf y = some .local := hy
  have st : ([a, b].any fun | .Starred .. => true | _ => false) = false := by
    cases a <;> first | exact (Bool.noConfusion (show false = true from sa)) | (cases b <;> first | exact (Bool.noConfusion (show false = true from sb)) | rfl)
  unfold swappedStores
  simp only [hb, st, hf, hc, List.filterMap_cons, List.filterMap_nil, kx, ky, hl, List.head?_cons, Option.map_some, Option.getD_some, Expr.pos]
  have hpx : (px.line == px.line) = true := by simp
  have hs : (some NameKind.local == some NameKind.local) = true := rfl
  have hd : [x, y].eraseDups = [x, y] := by
    have z : (y == x) = false := by simp [Ne.symm hxy]
    rw [List.eraseDups_cons, List.filter_cons, z]
    simp [List.eraseDups_cons]
  simp only [hpx, hs, Bool.and_self, if_true, hd]
  rw [if_neg (by simp)]
  refine (if_neg ?_).trans ?_
  · intro z
    exact Bool.noConfusion (st.symm.trans z)
  rw [if_neg (by simp), if_neg (by decide), if_neg (by decide)]
theorem swapped_no {ts : List Expr} {kt : Nat} {pt : Pos} {env : PySem.Env} (h : swNo env.scope ts e = true) : swappedStores [.Tuple ts kt pt] e env = pure none ∧ compless e = true := by
  cases e with
  | Tuple vs k2 p2 =>
    refine ⟨?_, rfl⟩
    simp only [swNo, Bool.or_eq_true, decide_eq_true_eq] at h
    unfold swappedStores
    simp only []
    split
    · rfl
    · split
      · rfl
      · split
        · rfl
        · rename_i h3
          rcases h with h | h
          · exfalso
            apply h3
            have : (swNames env.scope ts).length ≠ ts.length := h
            rw [Bool.or_eq_true]
            left
            exact bne_iff_ne.mpr this
          · rw [if_pos h]
  | _ => cases h
theorem setLcA {f n : Nat} {targets : List Expr} {ie : IS} (cx : CxOk X W G k C) (h : compA f C targets e = some ie) : PS X (.Assign targets e pos) (tS X W (ex G n ie)) := by
  cases n with
  | zero => exact PS_no fun _ _ => rfl
  | succ n =>
  unfold compA at h
  split at h
  · rename_i x px
    split at h
    · rename_i hh
      split at h
      · rename_i i hi
        obtain ⟨u, hu, rfl⟩ := opt_map h
        exact sS_set (cx.E hu) (sG_name cx.x.nd (cx.ix hi) (cx.asn hh.1).1 (cx.asn hh.1).2) (no_swapS hh.2 _ _ _) (by cases e <;> rfl) rfl
      · cases h
    · split at h
      · rename_i elt gs scope p _
        split at h
        · rename_i ha
          split at h
          · rename_i i hi
            obtain ⟨u, hu, rfl⟩ := opt_map h
            exact setLc_snd cx ha hi hu
          · cases h
        · cases h
      · cases h
  · rename_i ts kk pt
    split at h
    · rename_i hw
      rw [← cx.sc] at hw
      obtain ⟨w1, w2⟩ := swapped_no (kt := kk) (pt := pt) hw
      split at h
      · rename_i t ht
        obtain ⟨u, hu, rfl⟩ := opt_map h
        exact sS_set (cx.E hu) (compTg_ok cx f _ t ht) (no_swapS w2 _ _ _) w1 rfl
      · cases h
    split at h
    · split at h
      · rename_i x px y py a b k2 pt2 _
        split at h
        · rename_i hh
          obtain ⟨hx, hy, hl, hxy, sa, sb, hf, hc⟩ := hh
          split at h
          · rename_i i hi
            split at h
            · rename_i j hj
              split at h
              · rename_i hij
                split at h
                · rename_i u hu
                  split at h
                  · rename_i v hv
                    cases h
                    rw [← cx.sc] at hx hy
                    exact sS_par cx.x.calm cx.x.nd (cx.ix hi) (cx.ix hj) hij hx hy sa sb (cx.E hu) (cx.E hv) (swapped2 cx.kind hx hy hl hxy sa sb hf hc)
                  · cases h
                · cases h
              · cases h
            · cases h
          · cases h
        · cases h
      · cases h
    · rename_i hn
      split at h
      · rename_i hs
        split at h
        · rename_i t ht
          obtain ⟨u, hu, rfl⟩ := opt_map h
          exact sS_set (cx.E hu) (compTg_ok cx f _ t ht) (no_swapS hs _ _ _) (swapped_none hs (by simpa using hn) _ _) rfl
        · cases h
      · cases h
  · rename_i o lo hi p2 opos
    split at h
    · rename_i hh
      split at h
      · rename_i u hu
        split at h
        · rename_i a ha
          split at h
          · rename_i b hb
            split at h
            · rename_i z hz
              cases h
              have q := sS_setsl (X := X) (W := W) (opos := opos) (p2 := p2) (pos := pos) (cx.E (n := n) hu) (sO_some (cx.E (n := n) ha)) (sO_some (cx.E (n := n) hb)) (cx.E (n := n) hz) hh
              exact q
            · cases h
          · cases h
        · cases h
      · cases h
    · cases h
  · rename_i o i opos _
    split at h
    · rename_i hh
      split at h
      · rename_i u hu
        split at h
        · rename_i v hv
          split at h
          · rename_i w hw
            cases h
            exact sS_setix cx.x hh.1 (cx.E hu) (cx.E hv) (cx.E hw) hh.2
          · cases h
        · cases h
      · cases h
    · cases h
  · rename_i o g opos
    split at h
    · rename_i hh
      split at h
      · rename_i u hu
        split at h
        · rename_i w hw
          cases h
          exact sS_setf cx.x hh.1 (cx.E hu) (cx.E hw) hh.2
        · cases h
      · cases h
    · cases h
  · cases h
theorem frz_snd {n : Nat} {sts : List Stmt} {rest : List IS} (hr : PSs X sts (tS X W (exs (ex G n) rest))) : ∀ l : List Nat, PSs X sts (tS X W (exs (ex G n) (l.map IS.frz ++ rest)))
  | [] => hr
  | j :: l => by
    cases n with
    | zero => exact PSs_no fun _ _ => rfl
    | succ n => exact sSs_frz (frz_snd hr l)
theorem isDoc_inv (h : isDoc e = true) : ∃ z j p, e = .Constant (.str z) j p := by
  unfold isDoc at h
  split at h
  · exact ⟨_, _, _, rfl⟩
  · cases h
end
def SndS (f : Nat) : Prop := ∀ (X : Cx) (W : WX) (G : Wr) (k : Nat) (C : Ctx) (s : Stmt) (is : IS) (n : Nat), CxOk X W G k C → PassesOwn (model X.prog X.w) X.A X.env X.xe → compS f C s = some is → PS X s (tS X W (ex G n is))
def SndSs (f : Nat) : Prop := ∀ (X : Cx) (W : WX) (G : Wr) (k : Nat) (C : Ctx) (s : List Stmt) (is : List IS) (n : Nat), CxOk X W G k C → PassesOwn (model X.prog X.w) X.A X.env X.xe → compSs f C s = some is → PSs X s (tS X W (exs (ex G n) is))
theorem snd_S {f : Nat} (ihS : SndSs f) : SndS (f + 1) := by
  intro X W G k C s is n cx hp h
  cases n with
  | zero => exact PS_no fun _ _ => rfl
  | succ n =>
    cases s with
    | Assign ts e pos => simp only [compS] at h; exact setLcA cx h
    | Return v pos =>
      simp only [compS] at h
      split at h
      · cases h; exact sS_retN
      · obtain ⟨u, hu, rfl⟩ := opt_map h
        exact sS_ret (cx.E hu)
    | Expr e pos =>
      simp only [compS] at h
      split at h
      · rename_i hd
        cases h
        obtain ⟨z, j, p, rfl⟩ := isDoc_inv hd
        exact sS_doc
      · split at h
        · rename_i hs
          obtain ⟨u, hu, rfl⟩ := opt_map h
          exact sS_ex (cx.E hu) hs
        · cases h
    | If c a b pos =>
      simp only [compS] at h
      split at h
      · rename_i u hu
        split at h
        · rename_i v hv
          split at h
          · rename_i w hw
            cases h
            exact sS_ife (cx.T hu) (ihS X W G k C a v n cx hp hv) (ihS X W G k C b w n cx hp hw)
          · cases h
        · cases h
      · cases h
    | For t iter body els pos =>
      simp only [compS] at h
      split at h
      · split at h
        · rename_i hs
          split at h
          · rename_i kS args hi
            split at h
            · rename_i tg ht
              split at h
              · rename_i b hb
                cases h
                exact sS_loop cx.x hp (compI_ok cx (fun e ie h => cx.E h) hi) (compTg_ok cx f t tg ht) (ihS X W G k C body b n cx hp hb) hs
              · cases h
            · cases h
          · cases h
        · cases h
      · cases h
    | Pass pos => simp only [compS] at h; cases h; exact sS_pass
    | Break pos => simp only [compS] at h; cases h; exact sS_brk
    | Continue pos => simp only [compS] at h; cases h; exact sS_cnt
    | Raise a b pos => simp only [compS] at h; cases h; exact sS_never
    | AugAssign t op e pos =>
      simp only [compS] at h
      split at h
      · rename_i o ho
        have eo := bop_ok ho
        split at h
        · rename_i hop
          split at h
          · rename_i x px
            split at h
            · rename_i ha
              split at h
              · rename_i i hi
                obtain ⟨u, hu, rfl⟩ := opt_map h
                rw [← eo]
                have q := sS_aug (X := X) (W := W) (px := px) (pos := pos) hop cx.x.nd (cx.ix hi) (cx.asn ha).1 (cx.asn ha).2 (cx.E (n := n) hu)
                exact q
              · cases h
            · cases h
          · rename_i b i px
            split at h
            · rename_i hs
              split at h
              · rename_i u hu
                split at h
                · rename_i v hv
                  obtain ⟨w, hw, rfl⟩ := opt_map h
                  rw [← eo]
                  have q := sS_augix (X := X) (W := W) (tpos := px) (pos := pos) cx.x hop hs (cx.E (n := n) hu) (cx.E (n := n) hv) (cx.E (n := n) hw)
                  exact q
                · cases h
              · cases h
            · cases h
          · cases h
        · cases h
      · cases h
    | _ => simp [compS] at h
theorem snd_Ss {f : Nat} (ihA : SndS f) (ihS : SndSs f) : SndSs (f + 1) := by
  intro X W G k C ss is n cx hp h
  simp only [compSs] at h
  split at h
  · cases h; exact sSs_nil
  · rename_i s ss
    split at h
    · rename_i u hu
      split at h
      · rename_i us hus
        cases h
        exact frz_snd (sSs_cons (ihA X W G k C s u n cx hp hu) (ihS X W G k C ss us n cx hp hus)) _
      · cases h
    · cases h
theorem snd_allS : ∀ f, SndS f ∧ SndSs f
  | 0 => ⟨fun X W G k C s is n cx hp h => by simp [compS] at h, fun X W G k C s is n cx hp h => by simp [compSs] at h⟩
  | f + 1 => ⟨snd_S (snd_allS f).2, snd_Ss (snd_allS f).1 (snd_allS f).2⟩
end SI
end
section
set_option Elab.async false
set_option linter.all false
set_option maxRecDepth 100000
set_option maxHeartbeats 4000000
/-! SI21: defs, and the law's end. -/
namespace SI
open PySem PySem.Spec PyProof.Rows L2

/-- a def's body in the small language -/
structure FnE where
  ps : List Str
  N : List Str
  fuel : Nat
  body : List IS
def runF (G : Wr) (e : FnE) (ds : List D) (h : Hs) : Res D := if ds.length = e.ps.length then (match exs (ex G e.fuel) e.body (ds.map some ++ List.replicate (e.N.length - ds.length) none) h with
  | .nx _ h => .ok .non h
  | .rt d h => .ok d h
  | .ex x _ h => .ex x h
  | _ => .no) else .no
/-- the defs, the methods, the classes of a program -/
structure Pg where
  fns : List (Str × FnE)
  mths : List ((Str × Str) × FnE)
  mks : List Str
  cls : List Str
  sub : List ((Str × Str) × Bool)
  exs : List (Str × List Str)
/-- an own exception, made -/
def mkE (P : Pg) (k : Nat) (C : Str) (ds : List D) (h : Hs) : Res D := match P.exs.lookup C with
  | some fs => if k ≠ 0 ∧ fs.length = ds.length ∧ ds.length ≤ 1000 then .ok (.exv C fs.reverse ds.reverse) h else .no
  | none => .no
def wr (P : Pg) : Nat → Wr
  | 0 => ⟨fun _ _ _ => .no, fun _ _ _ _ => .no, fun _ _ _ => .no, fun C T => P.sub.lookup (C, T), fun C => decide (C ∈ P.cls), fun C m => (P.mths.lookup (C, m)).isSome, fun C => (P.exs.lookup C).isSome⟩
  | k + 1 => ⟨fun x ds h => match P.fns.lookup x with
      | some e => runF (wr P k) e ds h
      | none => .no, fun C m ds h => match P.mths.lookup (C, m) with
      | some e => runF (wr P k) e ds h
      | none => .no, fun C ds h => if C ∈ P.mks then ((wr P k).meth C "__init__" (.ptr h.length :: ds) (h ++ [.ins C []])).bind fun d h' => match d with
        | .non => .ok (.ptr h.length) h'
        | _ => .no else mkE P k C ds h, fun C T => P.sub.lookup (C, T), fun C => decide (C ∈ P.cls), fun C m => (P.mths.lookup (C, m)).isSome, fun C => (P.exs.lookup C).isSome⟩
section
variable {P : Program} {w : World} {K : PySem.W.Frag} {mg : Mg} {base : Heap}
/-- a def, walked -/
theorem fn_G {kk : Nat} {fa : Addr} {nm ql : Str} {prm : Arguments} {bd : List Stmt} {scp : Scope} {dv kv dc pm cv cx oc : Value} {an od : Option Addr} {osl : Array (Option Value)} {Ns prs : List Str} {spr : Sp}
    (lk : K.lookup fa = some ⟨oc, od, .func (PySem.W.fnOf nm ql prm bd scp dv kv dc pm an cv cx), osl⟩) (cdi : PySem.W.codeIn K cv ql = true) (Sc : FnScope Ns prs scp) (hlen : ∀ vs H Q E, spr vs H Q E → vs.length = prs.length)
    (walk : ∀ (A : Around) (stk : List PySem.Env) (s0 : Shared) (H0 : Hp) (xs : List V) (R : VK) (X0 : XK), Room kk (A.deeper (envOfC ql scp s0.heap.objs.size fa cv)) → A.guards = some [] → spr xs H0 R X0 →
      ∃ t, PSs (cxOf (L2.CX P w) P w K mg base Ns ql scp fa cv A stk s0 H0 X0) bd t ∧ t { nx := fun _ H' => R .non H', rt := R } (start Ns xs) H0) :
    FnG P w K mg base (kk + 1) fa (PySem.W.fnOf nm ql prm bd scp dv kv dc pm an cv cx) prs spr := by
  refine ⟨hlen, fun A stk s0 H0 ar us xs R X0 rm gd ev bt rl hs => ?_⟩
  have kin : K.In s0.heap := ev.mod.kin.keeps fun q u z => (ev.bs q u z).1
  have nl : s0.heap.NoLimit := ev.mod.nolimit.keeps fun q u z => (ev.bs q u z).1
  refine codeAny_call_function rm.depth (kin _ _ lk) rfl Sc.co Sc.gen rfl (PySem.W.codeRec_of kin cdi) (bt _ _ _ _ ?_)
  have kinds : ∀ y ∈ prs.zip us, scp.names.lookup y.1 = some .local ∨ (scp.names.lookup y.1 = some .cell ∧ ((cellsFrom (s0.heap.objs.size + 1) scp.names []).lookup y.1).isSome = true) := fun ⟨n, u⟩ hy =>
    (Sc.par n (List.of_mem_zip hy).1).imp id fun q => ⟨q, PySem.W.cellsFrom_some _ _ _ (.inl q)⟩
  refine wpAny_newFunctionEnv_cells Sc.kind kinds fun en he s1 ic => ?_
  subst he
  refine ⟨nl.keeps ic.toInCall.keep, codeAny_func ?_⟩
  obtain ⟨t, pt, qt⟩ := walk A stk s0 H0 xs R X0 (rm.deeper _) gd hs
  have I := inv_start (E := X0) (CX := L2.CX P w) Sc rm.hd ev (hlen _ _ _ _ hs) rl ic
  refine wpAny_mono (pt.run [] s1 (start Ns xs) H0 _ I qt) (fun fl s' z => ?_) fun _ _ z => z
  have done : ∀ {σ' : L2.St} {H' : Hp} {v : V} {u : Value}, Inv (cxOf (L2.CX P w) P w K mg base Ns ql scp fa cv A stk s0 H0 X0) [] σ' H' s' → RelV v u → R v H' → CE stk P w H0 s0 R u s' := fun {σ' H' v u} J rv q => ⟨v, H', J.os, J.bare, J.base, J.hok, rv, q⟩
  cases fl with
  | ret u => obtain ⟨v, σ', H', J, rv, q⟩ := z; exact done J rv q
  | next => obtain ⟨σ', H', J, q⟩ := z; exact done (v := V.non) (u := Value.none) J rfl q
  | brk => obtain ⟨_, _, _, q⟩ := z; exact q.elim
  | cont => obtain ⟨_, _, _, q⟩ := z; exact q.elim
end
/-! ### an exception's own __init__ -/
def visS (sc : Scope) (x : Str) : Bool := decide (sc.names.lookup x = some .local ∨ sc.names.lookup x = some .cell ∨ sc.names.lookup x = some .free) && noDbg x
def initOf (N : List Str) (sc : Scope) : Nat → List Stmt → Option (List Str)
  | _, [] => some []
  | i, .Assign [.Attribute (.Name s _) f _] (.Name x _) _ :: r => if (N[0]? = some s ∧ N[i]? = some x) ∧ visS sc s = true ∧ visS sc x = true then (initOf N sc (i + 1) r).map (f :: ·) else none
  | _, _ :: _ => none
theorem upd_upd {H : Hp} {a : Addr} {o u : HO} : upd (upd H a o) a u = upd H a u := by
  funext b
  by_cases h : b = a
  · rw [h, upd_same, upd_same]
  · rw [upd_ne h, upd_ne h, upd_ne h]
theorem upd_id {H : Hp} {a : Addr} {o : HO} (h : H a = some o) : upd H a o = H := by
  funext b
  by_cases e : b = a
  · rw [e, upd_same, h]
  · rw [upd_ne e]
theorem init_cons {N : List Str} {sc : Scope} {i : Nat} {st : Stmt} {r : List Stmt} {fs : List Str} (h : initOf N sc i (st :: r) = some fs) : ∃ s p1 f p2 x p3 pos fr, st = .Assign [.Attribute (.Name s p1) f p2] (.Name x p3) pos ∧ fs = f :: fr ∧ N[0]? = some s ∧ N[i]? = some x ∧ visS sc s = true ∧ visS sc x = true ∧ initOf N sc (i + 1) r = some fr := by
  unfold initOf at h
  split at h
  · rename_i h1 h2; cases h2
  · rename_i s p1 f p2 x p3 pos r' hr
    cases hr
    split at h
    · rename_i hc
      obtain ⟨fr, h2, h3⟩ := Option.map_eq_some_iff.mp h
      exact ⟨s, p1, f, p2, x, p3, pos, fr, rfl, h3.symm, hc.1.1, hc.1.2, hc.2.1, hc.2.2, h2⟩
    · cases h
  · cases h
theorem init_old {X : Cx} : ∀ {b : List Stmt} {i : Nat} {fs : List Str}, initOf X.N X.env.scope i b = some fs → ∃ t, PSs X b t ∧ ∀ (D : Ends) (σ : L2.St) (H : Hp) (a c dx : Addr) (acc : List (Str × V)) (vs : List V), OexC X.K c → (∀ f ∈ fs, PySem.W.findIn X.K (.ref c) f = some none) → σ[0]? = some (some (.ref a)) → vs.length = fs.length → (∀ j v, vs[j]? = some v → σ[i + j]? = some (some v)) →
    H a = some (exo a c (some dx)) → H dx = some (exd dx acc) → acc.length + fs.length ≤ 900 → dx ≠ a → D.nx σ (upd H dx (exd dx ((fs.zip vs).reverse ++ acc))) → t D σ H
  | [], i, fs, h => by
    cases h
    refine ⟨_, pss_nil, fun D σ H a c dx acc vs T hno h0 hl hv ha hd hz ne q => ?_⟩
    have q : D.nx σ (upd H dx (exd dx acc)) := q
    rw [upd_id hd] at q
    exact q
  | st :: r, i, fs, h => by
    obtain ⟨s, p1, f, p2, x, p3, pos, fr, rfl, rfl, n0, ni, v1, v2, h2⟩ := init_cons h
    obtain ⟨u, hu, ku⟩ := init_old h2
    simp only [visS, noDbg, Bool.and_eq_true, decide_eq_true_eq, Bool.not_eq_true'] at v1 v2
    refine ⟨_, pss_cons (ps_ost (pe_var n0 v1.1 v1.2.1 v1.2.2) (pe_var ni v2.1 v2.2.1 v2.2.2)) hu, fun D σ H a c dx acc vs T hno h0 hl hv ha hd hz ne q => ?_⟩
    cases vs with
    | nil => simp at hl
    | cons v vs =>
      refine ⟨v, hv 0 v rfl, .ref a, h0, a, c, rfl, T, hno f List.mem_cons_self, .inr ⟨dx, acc, ha, hd, by simp at hz; omega, ?_⟩⟩
      refine ku D σ _ a c dx ((f, v) :: acc) vs T (fun g hg => hno g (List.mem_cons_of_mem _ hg)) h0 (by simpa using hl) (fun j w e => by rw [Nat.add_right_comm]; exact hv (j + 1) w (by simpa using e)) (by rw [upd_ne (Ne.symm ne)]; exact ha) upd_same (by simp at hz ⊢; omega) ne ?_
      rw [upd_upd]
      have e : ((f :: fr).zip (v :: vs)).reverse ++ acc = (fr.zip vs).reverse ++ (f, v) :: acc := by simp
      rw [e] at q
      exact q
theorem init_new {X : Cx} {b : List Stmt} {fs : List Str} (hne : fs ≠ []) (h : initOf X.N X.env.scope 1 b = some fs) : ∃ t, PSs X b t ∧ ∀ (D : Ends) (σ : L2.St) (H : Hp) (a c : Addr) (vs : List V), OexC X.K c → (∀ f ∈ fs, PySem.W.findIn X.K (.ref c) f = some none) → σ[0]? = some (some (.ref a)) → vs.length = fs.length → (∀ j v, vs[j]? = some v → σ[1 + j]? = some (some v)) →
    H a = some (exo a c none) → fs.length ≤ 900 → (∀ dx, H dx = none → dx ≠ a → D.nx σ (upd (upd H dx (exd dx (fs.zip vs).reverse)) a (exo a c (some dx)))) → t D σ H := by
  cases b with
  | nil => cases h; exact absurd rfl hne
  | cons st r =>
    obtain ⟨s, p1, f, p2, x, p3, pos, fr, rfl, rfl, n0, ni, v1, v2, h2⟩ := init_cons h
    obtain ⟨u, hu, ku⟩ := init_old h2
    simp only [visS, noDbg, Bool.and_eq_true, decide_eq_true_eq, Bool.not_eq_true'] at v1 v2
    refine ⟨_, pss_cons (ps_ost (pe_var n0 v1.1 v1.2.1 v1.2.2) (pe_var ni v2.1 v2.2.1 v2.2.2)) hu, fun D σ H a c vs T hno h0 hl hv ha hz q => ?_⟩
    cases vs with
    | nil => simp at hl
    | cons v vs =>
      refine ⟨v, hv 0 v rfl, .ref a, h0, a, c, rfl, T, hno f List.mem_cons_self, .inl ⟨ha, fun dx hdx ne => ?_⟩⟩
      refine ku D σ _ a c dx [(f, v)] vs T (fun g hg => hno g (List.mem_cons_of_mem _ hg)) h0 (by simpa using hl) (fun j w e => by rw [Nat.add_right_comm]; exact hv (j + 1) w (by simpa using e)) upd_same (by rw [upd_ne ne, upd_same]) (by simp at hz ⊢; omega) ne ?_
      have z := q dx hdx ne
      have e : ((f :: fr).zip (v :: vs)).reverse = (fr.zip vs).reverse ++ [(f, v)] := by simp
      rw [e] at z
      have eu : upd (upd (upd H dx (exd dx [(f, v)])) a (exo a c (some dx))) dx (exd dx ((fr.zip vs).reverse ++ [(f, v)])) = upd (upd H dx (exd dx ((fr.zip vs).reverse ++ [(f, v)]))) a (exo a c (some dx)) := by
        funext b
        by_cases hb1 : b = dx
        · rw [hb1, upd_same, upd_ne ne, upd_same]
        · rw [upd_ne hb1]
          by_cases hb2 : b = a
          · rw [hb2, upd_same, upd_same]
          · rw [upd_ne hb2, upd_ne hb2, upd_ne hb1, upd_ne hb1]
      rw [eu]
      exact z
structure InitOk (K : PySem.W.Frag) (fs : List Str) (f : Addr) (fd : FuncData) (ps : List Str) : Prop where
  ex : ∃ (x qual : Str) (params : Arguments) (body : List Stmt) (scope : Scope), FunD K x qual params body scope [] [] f fd ∧ FnScope ps ps scope ∧ initOf ps scope 1 body = some fs
  bi : Binds K fd ps []
  len : ps.length = fs.length + 1
  z : fs.length ≤ 900
  ne : fs ≠ []
theorem init_G {P : Program} {w : World} {K : PySem.W.Frag} {mg : Mg} {base : Heap} {fs : List Str} {f : Addr} {fd : FuncData} {ps : List Str} (o : InitOk K fs f fd ps) : FnG P w K mg base 1 f fd ps (spE K fs) := by
  obtain ⟨x, qual, params, body, scope, F, Sc, hi⟩ := o.ex
  obtain ⟨oc, od, dV, kV, doc, pm, an, cdv, ct, osl, rfl, lk, hcd, _, _⟩ := F.ex
  refine fn_G lk hcd Sc (fun vs H Q E h => h.1.trans o.len.symm) fun A stk s0 H0 xs R X0 rm gd ⟨hl, a, c, vs, ex, T, hno, ha, q⟩ => ?_
  subst ex
  obtain ⟨t, pt, kt⟩ := init_new (X := cxOf (L2.CX P w) P w K mg base ps qual scope f cdv A stk s0 H0 X0) o.ne hi
  have hv : vs.length = fs.length := by simpa using hl
  refine ⟨t, pt, kt _ _ _ a c vs T hno rfl hv (fun j v e => ?_) ha o.z fun dx hdx ne => ?_⟩
  · unfold L2.start
    have hj := (List.getElem?_eq_some_iff.mp e).1
    rw [List.getElem?_append_left (by simp; omega), Nat.add_comm, List.map_cons, List.getElem?_cons_succ, List.getElem?_map, e]; rfl
  · have z := q dx hdx ne
    rw [← zip_rev hv.symm] at z
    exact z
section
variable {P : Program} {w : World} {K : PySem.W.Frag} {mg : Mg} {base : Heap}
/-- a def of the text and its body in the small language -/
structure EntOk (K : PySem.W.Frag) (T : Tab) (f : Addr) (fd : FuncData) (e : FnE) : Prop where
  ex : ∃ (x qual : Str) (params : Arguments) (body : List Stmt) (scope : Scope) (C : Ctx) (fu : Nat), FunD K x qual params body scope [] [] f fd ∧ FnScope e.N e.ps scope ∧ C.N = e.N ∧ C.sc = scope ∧ C.all = true ∧ C.T = T ∧ compSs fu C body = some e.body
  bi : Binds K fd e.ps []
theorem start_env {O : Om} {e : FnE} {ds : List D} {vs : List V} (r : RepL K mg O ds vs) : NvOk K mg O (ds.map some ++ List.replicate (e.N.length - ds.length) none) (start e.N vs) := by
  have hl := r.length
  refine ⟨by unfold L2.start; simp [hl], fun i d q => ?_⟩
  by_cases hi : i < ds.length
  · rw [List.getElem?_append_left (by simpa using hi), List.getElem?_map] at q
    cases h : ds[i]? with
    | none => rw [h] at q; cases q
    | some d' =>
      rw [h] at q
      cases q
      obtain ⟨v, hv, rv⟩ := r.get h
      refine ⟨v, ?_, rv⟩
      unfold L2.start
      rw [List.getElem?_append_left (by rw [List.length_map]; omega), List.getElem?_map, hv]; rfl
  · rw [List.getElem?_append_right (by rw [List.length_map]; omega), List.getElem?_replicate] at q
    split at q <;> cases q
theorem runF_len {G : Wr} {e : FnE} {ds : List D} {h : Hs} (ne : runF G e ds h ≠ .no) : ds.length = e.ps.length := by
  unfold runF at ne
  split at ne
  · assumption
  · exact absurd rfl ne
/-- the facts of a program's text -/
structure PgOk (K : PySem.W.Frag) (mg : Mg) (Pr : Pg) (T : Tab) : Prop where
  fns : ∀ x e, Pr.fns.lookup x = some e → ∃ f fd, mg x = some (.ref f) ∧ EntOk K T f fd e
  glo : ∀ x ∈ T.fns, ∃ f, mg x = some (.ref f) ∧ PySem.W.keepIn K (.ref f) = true
  mths : ∀ C m e, Pr.mths.lookup (C, m) = some e → ∃ c f fd, mg C = some (.ref c) ∧ Meth K c m f ∧ EntOk K T f fd e
  mks : ∀ C ∈ Pr.mks, ∃ c f, mg C = some (.ref c) ∧ Mk K c f
  cls : ∀ C ∈ Pr.cls, ∀ c, mg C = some (.ref c) → ClsF K c ∧ (∀ f ∈ T.attrs, NoAttr K c f) ∧ ∀ B ∈ bTys, PySem.W.kitOne K (.ref c) (.type B) = some false
  clg : ∀ C ∈ T.cls, ∃ c, mg C = some (.ref c) ∧ PySem.W.keepIn K (.ref c) = true ∧ ∀ B ∈ ["NoneType", "bool", "int", "str", "tuple", "list", "dict"], PySem.W.kitOne K (.type B) (.ref c) = some false
  sub : ∀ C T' b, Pr.sub.lookup (C, T') = some b → ∀ c t, mg C = some (.ref c) → mg T' = some (.ref t) → PySem.W.kitOne K (.ref c) (.ref t) = some b
  cst : ∀ p ∈ T.cst, ∃ u v, mg p.1 = some u ∧ L2.RelV v u ∧ ∀ O, Rep K mg O p.2 v
  free : ∀ x ∈ T.free, mg x = none
  cms : ∀ p ∈ T.cms, ∃ c f, mg p.1 = some (.ref c) ∧ PySem.W.keepIn K (.ref f) = true ∧ Meth K c p.2 f ∧ PySem.W.readsIn K c (.type "type") = true ∧ PySem.W.specialIn K (.ref c) "__getattribute__" = some (some (.builtin "type.__getattribute__")) ∧
    PySem.W.findCls K (.ref c) (.type "type") p.2 = some (.val (.ref f))
  exs : ∀ C fs, Pr.exs.lookup C = some fs → ∃ c, mg C = some (.ref c) ∧ ((fs = [] ∧ PySem.W.excIn K c He.veBase "ValueError.__new__" = true) ∨ (∃ f fd ps, OexC K c ∧ (∀ f ∈ fs, PySem.W.findIn K (.ref c) f = some none) ∧ PySem.W.findIn K (.ref c) "__init__" = some (some (.ref f)) ∧ PySem.W.typeIn K (.ref f) = some (.type "function") ∧ InitOk K fs f fd ps))
  exc : ∀ C, (Pr.exs.lookup C).isSome = true → ∀ c, mg C = some (.ref c) → XfC K c ∧ ExcC K c ∧ (∀ f ∈ T.attrs, PySem.W.findIn K (.ref c) f = some none) ∧ PySem.W.kitOne K (.ref c) (.type "ValueError") = some true
/-- every def keeps its promise at level k -/
def AllG (P : Program) (w : World) (K : PySem.W.Frag) (mg : Mg) (base : Heap) (Pr : Pg) (T : Tab) (k : Nat) : Prop := ∀ f fd e, EntOk K T f fd e → FnG P w K mg base k f fd e.ps (spF K mg e.ps.length fun ds h => match k with
  | 0 => .no
  | k + 1 => runF (wr Pr k) e ds h)
theorem wf_of {Pr : Pg} {T : Tab} {k : Nat} {X : Cx} (pg : PgOk X.K X.mg Pr T) (ih : ∀ j, j ≤ k → AllG X.prog X.w X.K X.mg X.base Pr T j) : Wf X (wr Pr k) k T := by
  have same : ∀ k, (wr Pr k).sub = (fun C T => Pr.sub.lookup (C, T)) ∧ (wr Pr k).cls = (fun C => decide (C ∈ Pr.cls)) ∧ (wr Pr k).mth = fun C m => (Pr.mths.lookup (C, m)).isSome := fun k => by cases k <;> exact ⟨rfl, rfl, rfl⟩
  have sameE : ∀ k, (wr Pr k).exc = fun C => (Pr.exs.lookup C).isSome := fun k => by cases k <;> rfl
  refine ⟨pg.glo, fun x ds h ne => ?_, fun C m h => ?_, fun C m ds h ne => ?_, fun C ds h ne => ?_, fun C hc => ?_, fun C hc => ?_, pg.clg, fun C T' b h => ?_, pg.cst, pg.free, pg.cms⟩
  · cases k with
    | zero => exact absurd rfl ne
    | succ k =>
      cases hl : Pr.fns.lookup x with
      | none => exact absurd (show (wr Pr (k + 1)).call x ds h = .no by show (match Pr.fns.lookup x with | some e => runF (wr Pr k) e ds h | none => .no) = _; rw [hl]) ne
      | some e =>
        obtain ⟨f, fd, hm, en⟩ := pg.fns x e hl
        have ec : (wr Pr (k + 1)).call x = fun ds h => runF (wr Pr k) e ds h := by
          funext ds h
          show (match Pr.fns.lookup x with | some e => runF (wr Pr k) e ds h | none => .no) = _
          rw [hl]
        rw [ec] at ne ⊢
        exact ⟨f, fd, e.ps, hm, en.bi, (runF_len ne).symm, ih (k + 1) (Nat.le_refl _) f fd e en⟩
  · rw [(same k).2.2] at h
    obtain ⟨e, hl⟩ := Option.isSome_iff_exists.mp h
    obtain ⟨c, f, fd, hm, M, _⟩ := pg.mths C m e hl
    exact ⟨c, f, hm, M⟩
  · cases k with
    | zero => exact absurd rfl ne
    | succ k =>
      cases hl : Pr.mths.lookup (C, m) with
      | none => exact absurd (show (wr Pr (k + 1)).meth C m ds h = .no by show (match Pr.mths.lookup (C, m) with | some e => runF (wr Pr k) e ds h | none => .no) = _; rw [hl]) ne
      | some e =>
        obtain ⟨c, f, fd, hm, M, en⟩ := pg.mths C m e hl
        have ec : (wr Pr (k + 1)).meth C m = fun ds h => runF (wr Pr k) e ds h := by
          funext ds h
          show (match Pr.mths.lookup (C, m) with | some e => runF (wr Pr k) e ds h | none => .no) = _
          rw [hl]
        rw [ec] at ne ⊢
        exact ⟨c, f, fd, e.ps, hm, M, en.bi, (runF_len ne).symm, ih (k + 1) (Nat.le_refl _) f fd e en⟩
  · cases k with
    | zero => exact absurd rfl ne
    | succ k =>
      by_cases hC : C ∈ Pr.mks
      · have em : ∀ ds h, (wr Pr (k + 1)).make C ds h = ((wr Pr k).meth C "__init__" (.ptr h.length :: ds) (h ++ [.ins C []])).bind fun d h' => match d with
          | .non => .ok (.ptr h.length) h'
          | _ => .no := fun ds h => if_pos hC
        rw [em] at ne
        obtain ⟨c, f, hm, M⟩ := pg.mks C hC
        have ne2 : (wr Pr k).meth C "__init__" (.ptr h.length :: ds) (h ++ [.ins C []]) ≠ .no := fun z => ne (by rw [z]; rfl)
        cases k with
        | zero => exact absurd rfl ne2
        | succ k =>
          cases hl : Pr.mths.lookup (C, ("__init__" : Str)) with
          | none => exact absurd (show (wr Pr (k + 1)).meth C "__init__" _ _ = .no by show (match Pr.mths.lookup (C, ("__init__" : Str)) with | some e => runF (wr Pr k) e _ _ | none => .no) = _; rw [hl]) ne2
          | some e =>
            obtain ⟨c', f', fd, hm', M', en⟩ := pg.mths C "__init__" e hl
            rw [hm] at hm'
            cases hm'
            have ef : f = f' := by
              have z := M.init.symm.trans M'.at_
              simpa using z
            subst ef
            have ec : (wr Pr (k + 1)).meth C "__init__" = fun ds h => runF (wr Pr k) e ds h := by
              funext ds h
              show (match Pr.mths.lookup (C, ("__init__" : Str)) with | some e => runF (wr Pr k) e ds h | none => .no) = _
              rw [hl]
            have em' := em
            rw [ec] at ne2 em'
            exact .inl ⟨c, f, fd, e.ps, k + 1, fun ds h => runF (wr Pr k) e ds h, hm, M, en.bi, (runF_len ne2).symm, Nat.le_refl _, ih (k + 1) (Nat.le_succ _) f fd e en, em'⟩
      · have em : (wr Pr (k + 1)).make C ds h = mkE Pr k C ds h := if_neg hC
        unfold mkE at em
        cases hl : Pr.exs.lookup C with
        | none => rw [hl] at em; exact absurd em ne
        | some fs =>
          rw [hl] at em
          have em : (wr Pr (k + 1)).make C ds h = if k ≠ 0 ∧ fs.length = ds.length ∧ ds.length ≤ 1000 then .ok (.exv C fs.reverse ds.reverse) h else .no := em
          by_cases hc : k ≠ 0 ∧ fs.length = ds.length ∧ ds.length ≤ 1000
          · rw [if_pos hc] at em
            obtain ⟨c, hm, z⟩ := pg.exs C fs hl
            refine .inr ⟨c, fs, hm, hc.2.1, hc.2.2, em, ?_⟩
            rcases z with ⟨z1, z2⟩ | ⟨f, fd, ps, T1, T2, T3, T4, o⟩
            · exact .inl ⟨z1, z2⟩
            · exact .inr ⟨o.ne, f, fd, ps, T1, T2, T3, T4, o.bi, by omega, init_G o⟩
          · rw [em, if_neg hc] at ne; exact absurd rfl ne
  · rw [sameE k] at hc
    exact pg.exc C hc
  · rw [(same k).2.1] at hc
    exact pg.cls C (of_decide_eq_true hc)
  · rw [(same k).1] at h
    exact pg.sub C T' b h
theorem all_G {Pr : Pg} {T : Tab} (pg : PgOk K mg Pr T) : ∀ k j, j ≤ k → AllG P w K mg base Pr T j
  | 0, 0, _ => fun f fd e en => ⟨fun vs H Q E h => h.1, fun A outer s H args us vs Q E hr hg he hb rv ⟨_, O, ds, h, _, _, z⟩ => z.elim⟩
  | 0, j + 1, h => absurd h (by omega)
  | k + 1, j, h => by
    by_cases hj : j ≤ k
    · exact all_G pg k j hj
    · have : j = k + 1 := by omega
      subst this
      intro f fd e en
      obtain ⟨x, qual, params, body, scope, C, fu, F, Sc, hN, hsc, hall, hT, hc⟩ := en.ex
      obtain ⟨oc, od, dV, kV, doc, pm, an, cdv, ct, osl, rfl, lk, hcd, _, _⟩ := F.ex
      refine fn_G lk hcd Sc (fun vs H Q E h => h.1) fun A stk s0 H0 xs R X0 rm gd ⟨hl, O, ds, h, rl, S, z⟩ => ?_
      let X := cxOf (L2.CX P w) P w K mg base e.N qual scope f cdv A stk s0 H0 X0
      let W : WX := fun cls d _ H => X0 cls d H
      have tk : Takes X W := takes_of rfl rfl rfl rfl
      have wf : Wf X (wr Pr k) k T := wf_of (X := X) pg (all_G pg k)
      have cx : CxOk X W (wr Pr k) k C := ⟨⟨rm, gd, tk, by rw [hT]; exact wf, Sc.nd, rfl⟩, hN.symm, hsc.symm, Sc.kind, fun _ _ => rfl⟩
      refine ⟨_, (snd_allS fu).2 X W (wr Pr k) k C body e.body e.fuel cx (passes_of rfl) hc, O, _, h, start_env rl, S, ?_⟩
      have z : (match runF (wr Pr k) e ds h with
        | .ok d h' => ∀ (O' : Om) (v : V) (H' : Hp), Stp O H0 O' H' → SR K mg O' h' H' → Rep K mg O' d v → R v H'
        | .ex x h' => ∀ (O' : Om) (cls : Value) (d : Option Addr) (H' : Hp), Stp O H0 O' H' → SR K mg O' h' H' → ExOk K mg O' x cls d → X0 cls d H'
        | .no => False) := z
      have hd : ds.length = e.ps.length := by rw [rl.length, hl]
      unfold runF at z
      rw [if_pos hd] at z
      cases q : exs (ex (wr Pr k) e.fuel) e.body (ds.map some ++ List.replicate (e.N.length - ds.length) none) h with
      | nx env h' => rw [q] at z; exact fun O' sg' H' s S' e' => z O' _ H' s S' .non
      | rt d h' => rw [q] at z; exact fun O' v H' s S' r => z O' v H' s S' r
      | ex x env h' => rw [q] at z; exact fun O' cls d sg' H' s S' e' x => z O' cls d H' s S' x
      | bk env h' => rw [q] at z; exact z.elim
      | ct env h' => rw [q] at z; exact z.elim
      | no => rw [q] at z; exact z.elim
end
end SI
end
section
set_option Elab.async false
set_option linter.all false
set_option maxRecDepth 100000
set_option maxHeartbeats 4000000
/-! SI22: the law's end over defs that know that no repr is under way; the facts of a text. -/
namespace SI
open PySem PySem.Spec PyProof.Rows L2

theorem law_G {P : Program} {w : World} {K : PySem.W.Frag} {mg mb : Str → Option Value} {kk : Nat} {fa sa : Addr} {fd : FuncData} {y : Str} {spr : Sp} {st : Shared} {its : List Value} {zs : List Int}
    (kin : K.In st.heap) (gl : st.heap.Ns mainGlobals mg) (bl : st.heap.Ns builtinsNs mb) (bb : ∀ z : Str, z ≠ "__name__" → mb z = bootBuiltins z) (nl : st.heap.NoLimit) (gn : st.gens = #[])
    (sc : st.heap.get? sa = some { cls := .type "list", data := .seq its.toArray }) (ia : IntsAre its zs) (ll : zs.length ≤ sizeLine) (rm : Room kk callerA)
    (Fn : ∀ B : Heap, K.In B → B.Ns mainGlobals mg → FnG P w K mg B kk fa fd [y] spr) (bi : ∀ (s : Shared) (u : Value), BindsTo s fd ⟨[u], []⟩ [(y, u)])
    (want : ∀ T : Hp, Only T → SqL K T sa (zs.map V.int) → spr [.ref sa] T (fun v _ => v = .bl true) fun _ _ _ => False) :
    codeAny (model P w) callerA (.call (.ref fa) ⟨[.ref sa], []⟩) (fun r s' => r = .ok (.ret (.bool true)) ∧ OldK st.heap s'.heap ∧ s'.os = st.os ∧ AllBare s'.gens) st := by
  have vi := vals_ints ia
  have main : ∀ T : Hp, Only T → SqL K T sa (zs.map V.int) → HOk P w T st.heap → (∀ c, T c ≠ none → c = sa) → (T sa ≠ none → K.lookup sa = none) →
      codeAny (model P w) callerA (.call (.ref fa) ⟨[.ref sa], []⟩) (fun r s' => r = .ok (.ret (.bool true)) ∧ OldK st.heap s'.heap ∧ s'.os = st.os ∧ AllBare s'.gens) st := by
    intro T on sq ok at_ nk
    have inB : ∀ {c : Addr} {u : Obj}, st.heap.get? c = some u → T c = none → (hidT st.heap T).get? c = some u := fun e z => hidT_get e z
    have dictN : ∀ {c : Addr} {u : Obj} {es : Array DictEntry} {ep : Nat}, st.heap.get? c = some u → u.data = .dict es ep → T c = none := fun {c u es ep} e dd => by
      cases q : T c with
      | none => rfl
      | some z =>
        obtain rfl : c = sa := at_ c (by rw [q]; exact Option.some_ne_none z)
        rw [sc] at e
        cases e
        exact absurd dd (fun t => by cases t)
    have nsB : ∀ {c : Addr} {m : Str → Option Value}, st.heap.Ns c m → (hidT st.heap T).Ns c m := fun {c m} ⟨u, es, ep, e, dd, r⟩ => ⟨u, es, ep, inB e (dictN e dd), dd, r⟩
    have kB : K.In (hidT st.heap T) := fun c u e => inB (kin c u e) (by
      cases q : T c with
      | none => rfl
      | some z =>
        obtain rfl : c = sa := at_ c (by rw [q]; exact Option.some_ne_none z)
        rw [nk (by rw [q]; exact Option.some_ne_none z)] at e
        cases e)
    have md : Mod K mg (hidT st.heap T) := ⟨kB, nsB gl, ⟨mb, nsB bl, bb⟩, let ⟨mc, h1, h2⟩ := nl; ⟨mc, nsB h1, h2⟩⟩
    have ev : Env0 P w K mg (hidT st.heap T) callerA [] st T := ⟨rfl, md, fun c u e => of_hidT e, Nat.le_of_eq (hidT_size _ _), trivial, fun c hc => (List.not_mem_nil hc).elim, ok, .of_eq gn⟩
    refine codeAny_mono ((Fn _ kB (nsB gl)).run callerA [] st T ⟨[.ref sa], []⟩ [.ref sa] [.ref sa] _ _ rm rfl ev (bi st (.ref sa)) (.cons rfl .nil) (want T on sq)) fun r s' z => ?_
    cases r with
    | error ex => exact (let ⟨_, _, _, _, _, _, _, _, _, _, _, _, t⟩ := z; t.elim)
    | ok fl =>
      cases fl with
      | ret u =>
        obtain ⟨v, T', os, br, un, ok', rv, e⟩ := z
        obtain rfl : v = .bl true := e
        obtain rfl : u = Value.bool true := rv
        refine ⟨rfl, OldK.of_keep fun c ob e => ?_, os, br⟩
        cases q : T c with
        | none => exact un.keep c ob e q (fun t => (List.not_mem_nil t).elim) (by simp)
        | some u =>
          rcases on c with t | ⟨o2, xs, t⟩
          · rw [q] at t; cases t
          · obtain ⟨e1, _⟩ := ok c _ t
            obtain ⟨e2, _⟩ := ok' c _ (un.frzs c o2 _ t)
            rw [e] at e1
            cases e1
            exact e2
      | _ => exact z.elim
  cases hk : K.lookup sa with
  | some ob =>
    have e := kin sa ob hk
    rw [sc] at e
    cases e
    exact main (fun _ => none) (fun _ => .inl rfl) (.inr ⟨_, its.toArray, _, hk, rfl, rfl, rfl, by rw [List.size_toArray, ia.length]; exact ll, by simpa using vi⟩) (fun c u z => by cases (show (none : Option HO) = some u from z)) (fun c z => absurd rfl z) fun z => absurd rfl z
  | none =>
    refine main (fun c => if c = sa then some (.frz { cls := .type "list", data := .seq its.toArray } (.lst (zs.map V.int))) else none) (fun c => ?_) (.inl (.inr ⟨{ cls := .type "list", data := .seq its.toArray }, if_pos rfl⟩)) (fun c u z => ?_) (fun c z => ?_) fun _ => hk
    · by_cases hc : c = sa
      · exact .inr ⟨_, _, if_pos hc⟩
      · exact .inl (if_neg hc)
    · by_cases hc : c = sa
      · subst hc
        have z : (if c = c then some (HO.frz { cls := .type "list", data := .seq its.toArray } (.lst (zs.map V.int))) else none) = some u := z
        rw [if_pos rfl] at z
        cases z
        exact ⟨sc, by rw [List.length_map]; exact ll, its, _, vi, sc⟩
      · have z : (if c = sa then some (HO.frz { cls := .type "list", data := .seq its.toArray } (.lst (zs.map V.int))) else none) = some u := z
        rw [if_neg hc] at z
        cases z
    · by_cases hc : c = sa
      · exact hc
      · exact absurd (if_neg hc) z
theorem walk_G {l : PySem.W.OpenLaw} {n kk : Nat} {q : Program} {loose : List Str} {XP : (Str → Option Value) → Heap → Prop} {YP : World → Heap → Prop} {d : DefRec} {y : Str}
    (mo : l.most = some n) (mz : n ≤ sizeLine) (df : d.params.defaults = []) (rm : Room kk callerA)
    (Fn : ∀ (w : World) (mg : Str → Option Value) (fa : Addr) (hp : Heap), YP w hp → hp.Ns mainGlobals mg → mg d.name = some (.ref fa) →
      ∃ (K : PySem.W.Frag) (fd : FuncData) (spr : Sp), K.In hp ∧ (∀ (s : Shared) (u : Value), BindsTo s fd ⟨[u], []⟩ [(y, u)]) ∧
        (∀ (T : Hp) (sa : Addr) (zs : List Int), zs.length ≤ n → Only T → SqL K T sa (zs.map V.int) → spr [.ref sa] T (fun v _ => v = .bl true) fun _ _ _ => False) ∧
        ∀ B : Heap, K.In B → B.Ns mainGlobals mg → FnG l.prog w K mg B kk fa fd [y] spr) :
    PySem.W.WalkO q loose XP YP l.row.toRowW d [] (fun f vs => PySem.call f vs) := by
  refine Att.attach_call mo df fun w s₀ s₁ mg mb fa o pm cd doc sa its zs Gd Y _ _ _ hm obj ia hl gn => ?_
  obtain ⟨K, fd, spr, kin, bi, want, Fw⟩ := Fn w mg fa _ Y Gd.T.g hm
  exact law_G kin Gd.T.g Gd.T.b Gd.T.builtins Gd.T.nolimit gn obj ia (Nat.le_trans hl mz) rm Fw bi fun T on sq => want T sa zs hl on sq
/-! ### the facts -/
inductive Fx where
  | glo (x : Str) | free (x : Str) | clsf (x : Str) | noat (x f : Str) | kit (a b : Str) (r : Bool) | kitB (x : Str) (b : String) | kitA (b : String) (x : Str) | meth (x m : Str) | mkr (x : Str) | cms (x m : Str) | keep (x : Str) | ex0 (x : Str) | ex1 (x : Str) | exf (x : Str)
def Fx.ok (K : PySem.W.Frag) : Fx → Bool
  | .glo x => (He.Fa.glo x).ok K
  | .free x => (He.Fa.free x).ok K
  | .clsf x => (He.Fa.cls x).ok K && (He.eqO (PySem.W.findIn K (.ref (He.ga K x)) "__class__") (some (some (.builtin "object.__class__"))) && (He.eqO (PySem.W.specialIn K (.builtin "object.__class__") "__get__") (some (some (.builtin "getset_descriptor.__get__"))) &&
      (decide (PySem.W.takesIn K (.builtin "object.__class__") = some true) && decide (PySem.W.mroIn K (He.ga K x) (.type "object") = some true))))
  | .noat x f => (He.Fa.noat x f).ok K
  | .kit a b r => decide (PySem.W.kitOne K (.ref (He.ga K a)) (.ref (He.ga K b)) = some r)
  | .kitB x b => decide (PySem.W.kitOne K (.ref (He.ga K x)) (.type b) = some false)
  | .kitA b x => decide (PySem.W.kitOne K (.type b) (.ref (He.ga K x)) = some false)
  | .meth x m => (He.Fa.meth x m).ok K
  | .mkr x => (He.Fa.mkr x).ok K
  | .keep x => (He.Fa.keep x).ok K
  | .ex0 x => PySem.W.excIn K (He.ga K x) He.veBase "ValueError.__new__"
  | .ex1 x => oexB K (He.ga K x) && (He.eqO (PySem.W.findIn K (.ref (He.ga K x)) "__init__") (some (some (.ref (He.ma K (He.ga K x) "__init__")))) && decide (PySem.W.typeIn K (.ref (He.ma K (He.ga K x) "__init__")) = some (.type "function")))
  | .exf x => xfB K (He.ga K x) && (He.eqO (PySem.W.findIn K (.ref (He.ga K x)) "__class__") (some (some (.builtin "object.__class__"))) && (He.eqO (PySem.W.specialIn K (.builtin "object.__class__") "__get__") (some (some (.builtin "getset_descriptor.__get__"))) &&
      (decide (PySem.W.takesIn K (.builtin "object.__class__") = some true) && (decide (PySem.W.mroIn K (He.ga K x) (.type "object") = some true) && decide (PySem.W.kitOne K (.ref (He.ga K x)) (.type "ValueError") = some true)))))
  | .cms x m => (He.Fa.meth x m).ok K && (PySem.W.readsIn K (He.ga K x) (.type "type") && (He.eqO (PySem.W.specialIn K (.ref (He.ga K x)) "__getattribute__") (some (some (.builtin "type.__getattribute__"))) &&
      (match PySem.W.findCls K (.ref (He.ga K x)) (.type "type") m with
      | some (.val (.ref f)) => decide (f = He.ma K (He.ga K x) m)
      | _ => false)))
def obsX (fx : List Fx) (fn : List He.DefD) (K : PySem.W.Frag) : He.AlD := ((fx.all fun f => f.ok K) && fn.all fun d => d.ok K, fn.map fun d => He.fnW K d.at_)
def SaysX (fx : List Fx) (fn : List He.DefD) (K : PySem.W.Frag) : Prop := obsX fx fn K = He.valD fn
def obsXG (n : Nat) (fx : List Fx) (fn : List He.DefD) (g : Addr → Option Obj) : He.AlD := obsX fx fn (He.frG g (cStatics :: He.asD g n))
def hookX (n : Nat) (fx : List Fx) (fn : List He.DefD) : PySem.W.Hook where
  α := He.AlD
  obs := fun s => obsXG n fx fn s.heap.get?
  val := fun _ => He.valD fn
  says := fun _ h => ∃ K : PySem.W.Frag, K.In h ∧ SaysX fx fn K
  of := fun _ _ z => ⟨_, He.frG_in, z⟩
  keeps := fun _ _ _ ⟨K, hK, c⟩ z => ⟨K, PySem.W.Frag.In.keeps hK z, c⟩
theorem obsXG_eq {n : Nat} {fx : List Fx} {fn : List He.DefD} {g : Addr → Option Obj} {s : Shared} (h : ∀ a, g a = s.heap.get? a) : obsXG n fx fn g = (hookX n fx fn).obs s := by
  obtain rfl : g = s.heap.get? := funext h
  rfl
section
variable {fx : List Fx} {fn : List He.DefD} {K : PySem.W.Frag}
theorem SaysX.all (c : SaysX fx fn K) : (∀ f ∈ fx, f.ok K = true) ∧ ∀ d ∈ fn, ∃ fd, FunD K d.name d.qual d.params d.body d.scope (d.dvs K) (d.kws K) (He.fAd K d.at_) fd := by
  have z := He.ba (show ((fx.all fun f => f.ok K) && fn.all fun d => d.ok K) = true from congrArg (fun z : He.AlD => z.1) c)
  have e : fn.map (fun d => He.fnW K d.at_) = fn.map He.DefD.val := congrArg (fun z : He.AlD => z.2) c
  refine ⟨fun f hf => List.all_eq_true.mp z.1 f hf, fun d hd => ?_⟩
  obtain ⟨i, hi, rfl⟩ := List.getElem_of_mem hd
  have e2 : (fn.map fun d => He.fnW K d.at_)[i]? = (fn.map He.DefD.val)[i]? := by rw [e]
  rw [List.getElem?_map, List.getElem?_map, List.getElem?_eq_getElem hi] at e2
  exact He.DefD.funD (Option.some.inj e2) (List.all_eq_true.mp z.2 _ hd)
theorem clsf_ok {x : Str} (c : (Fx.clsf x).ok K = true) : ClsF K (He.ga K x) := by
  obtain ⟨c1, c⟩ := He.ba c
  obtain ⟨c2, c⟩ := He.ba c
  obtain ⟨c3, c⟩ := He.ba c
  obtain ⟨c4, c5⟩ := He.ba c
  exact ⟨He.cls_ok c1, He.eqO_ok c2, He.eqO_ok c3, of_decide_eq_true c4, of_decide_eq_true c5⟩
theorem ex1_ok {x : Str} (c : (Fx.ex1 x).ok K = true) : OexC K (He.ga K x) ∧ PySem.W.findIn K (.ref (He.ga K x)) "__init__" = some (some (.ref (He.ma K (He.ga K x) "__init__"))) ∧ PySem.W.typeIn K (.ref (He.ma K (He.ga K x) "__init__")) = some (.type "function") := by
  obtain ⟨c1, c⟩ := He.ba c
  obtain ⟨c2, c3⟩ := He.ba c
  exact ⟨oexB_ok c1, He.eqO_ok c2, of_decide_eq_true c3⟩
theorem exf_ok {x : Str} (c : (Fx.exf x).ok K = true) : XfC K (He.ga K x) ∧ ExcC K (He.ga K x) ∧ PySem.W.kitOne K (.ref (He.ga K x)) (.type "ValueError") = some true := by
  obtain ⟨c1, c⟩ := He.ba c
  obtain ⟨c2, c⟩ := He.ba c
  obtain ⟨c3, c⟩ := He.ba c
  obtain ⟨c4, c⟩ := He.ba c
  obtain ⟨c5, c6⟩ := He.ba c
  have X := xfB_ok c1
  exact ⟨X, ⟨X.ga, X.gg, X.exC, X.hdC, He.eqO_ok c2, He.eqO_ok c3, of_decide_eq_true c4, of_decide_eq_true c5⟩, of_decide_eq_true c6⟩
theorem cms_ok {x m : Str} (c : (Fx.cms x m).ok K = true) : Meth K (He.ga K x) m (He.ma K (He.ga K x) m) ∧ PySem.W.readsIn K (He.ga K x) (.type "type") = true ∧ PySem.W.specialIn K (.ref (He.ga K x)) "__getattribute__" = some (some (.builtin "type.__getattribute__")) ∧
    PySem.W.findCls K (.ref (He.ga K x)) (.type "type") m = some (.val (.ref (He.ma K (He.ga K x) m))) := by
  obtain ⟨c1, c⟩ := He.ba c
  obtain ⟨c2, c⟩ := He.ba c
  obtain ⟨c3, c4⟩ := He.ba c
  refine ⟨He.meth_ok c1, c2, He.eqO_ok c3, ?_⟩
  revert c4
  split
  · rename_i f hf
    intro c4
    rw [hf, of_decide_eq_true c4]
  · intro c4; cases c4
end
end SI
end
section
set_option Elab.async false
set_option linter.all false
set_option maxRecDepth 100000
set_option maxHeartbeats 4000000
/-! SI23: a text's defs as data; the facts make the program. -/
namespace SI
open PySem PySem.Spec PyProof.Rows L2

structure DX where
  d : He.DefD
  e : FnE
  C : Ctx
  fu : Nat
/-- an own exception with its own __init__ -/
structure EX where
  fs : List Str
  d : He.DefD
  ps : List Str
structure Txt where
  fns : List (Str × DX)
  mths : List ((Str × Str) × DX)
  mks : List Str
  cls : List Str
  sub : List ((Str × Str) × Bool)
  T : Tab
  exs0 : List Str
  exs1 : List (Str × EX)
def Txt.pg (t : Txt) : Pg := ⟨t.fns.map fun q => (q.1, q.2.e), t.mths.map fun q => (q.1, q.2.e), t.mks, t.cls, t.sub, (t.exs0.map fun C => (C, [])) ++ t.exs1.map fun q => (q.1, q.2.fs)⟩
def Txt.fn (t : Txt) : List He.DefD := (t.fns.map fun q => q.2.d) ++ ((t.mths.map fun q => q.2.d) ++ t.exs1.map fun q => q.2.d)
def b7 : List String := ["NoneType", "bool", "int", "str", "tuple", "list", "dict"]
def Txt.fx1 (t : Txt) : List Fx :=
  (t.fns.map fun q => Fx.glo q.1) ++ ((t.T.cls.map Fx.glo) ++ ((t.T.cls.map Fx.keep) ++ ((t.T.cls.flatMap fun C => b7.map fun b => Fx.kitA b C) ++ ((t.cls.map Fx.clsf) ++ ((t.cls.flatMap fun C => t.T.attrs.map fun f => Fx.noat C f) ++
  ((t.cls.flatMap fun C => bTys.map fun b => Fx.kitB C b) ++ ((t.mths.map fun q => Fx.meth q.1.1 q.1.2) ++ ((t.mks.map Fx.mkr) ++ ((t.sub.map fun q => Fx.kit q.1.1 q.1.2 q.2) ++ ((t.T.free.map Fx.free) ++ (t.T.cms.map fun q => Fx.cms q.1 q.2)))))))))))
def Txt.exn (t : Txt) : List Str := t.exs0 ++ t.exs1.map (·.1)
def Txt.fx2 (t : Txt) : List Fx := (t.exs0.map Fx.ex0) ++ ((t.exs1.map fun q => Fx.ex1 q.1) ++ ((t.exn.map Fx.exf) ++ ((t.exn.flatMap fun C => t.T.attrs.map fun f => Fx.noat C f) ++ (t.exs1.flatMap fun q => q.2.fs.map fun f => Fx.noat q.1 f))))
def Txt.fx (t : Txt) : List Fx := t.fx1 ++ t.fx2
structure EXOk (q : Str × EX) : Prop where
  at_ : q.2.d.at_ = (q.1, some ("__init__" : Str))
  sc : FnScope q.2.ps q.2.ps q.2.d.scope
  init : initOf q.2.ps q.2.d.scope 1 q.2.d.body = some q.2.fs
  len : q.2.ps.length = q.2.fs.length + 1
  z : q.2.fs.length ≤ 900
  ne : q.2.fs ≠ []
  df : q.2.d.dfl = []
  kw : q.2.d.kwd = []
  bi : ∀ (kV doc pm : Value) (an : Option Addr) (cdv ct : Value) (us : List Value), us.length = q.2.ps.length → bindArgs (PySem.W.fnOf q.2.d.name q.2.d.qual q.2.d.params q.2.d.body q.2.d.scope .none kV doc pm an cdv ct) ⟨us, []⟩ = pure (q.2.ps.zip us)
structure DXOk (T : Tab) (x : DX) : Prop where
  N : x.C.N = x.e.N
  sc : x.C.sc = x.d.scope
  all : x.C.all = true
  T : x.C.T = T
  cp : compSs x.fu x.C x.d.body = some x.e.body
  fs : FnScope x.e.N x.e.ps x.d.scope
  df : x.d.dfl = []
  kw : x.d.kwd = []
  bi : ∀ (kV doc pm : Value) (an : Option Addr) (cdv ct : Value) (us : List Value), us.length = x.e.ps.length → bindArgs (PySem.W.fnOf x.d.name x.d.qual x.d.params x.d.body x.d.scope .none kV doc pm an cdv ct) ⟨us, []⟩ = pure (x.e.ps.zip us)
structure TxtOk (t : Txt) : Prop where
  fns : ∀ q ∈ t.fns, DXOk t.T q.2 ∧ q.2.d.at_ = (q.1, none)
  mths : ∀ q ∈ t.mths, DXOk t.T q.2 ∧ q.2.d.at_ = (q.1.1, some q.1.2) ∧ q.1.1 ∈ t.T.cls
  tf : ∀ x ∈ t.T.fns, x ∈ t.fns.map (·.1)
  cst : t.T.cst = []
  mks : ∀ C ∈ t.mks, C ∈ t.T.cls
  cls : ∀ C ∈ t.cls, C ∈ t.T.cls
  sub : ∀ q ∈ t.sub, q.1.1 ∈ t.T.cls ∧ q.1.2 ∈ t.T.cls
  cms : ∀ q ∈ t.T.cms, q.1 ∈ t.T.cls
  exs0 : ∀ C ∈ t.exs0, C ∈ t.T.cls
  exs1 : ∀ q ∈ t.exs1, EXOk q ∧ q.1 ∈ t.T.cls
section
variable {t : Txt} {K : PySem.W.Frag} {mg : Mg} {hp : Heap}
theorem ent_of {x : DX} {T : Tab} (o : DXOk T x) {fd : FuncData} {f : Addr} (F : FunD K x.d.name x.d.qual x.d.params x.d.body x.d.scope (x.d.dvs K) (x.d.kws K) f fd) : EntOk K T f fd x.e := by
  have F : FunD K x.d.name x.d.qual x.d.params x.d.body x.d.scope [] [] f fd := by
    have e1 : x.d.dvs K = [] := by unfold He.DefD.dvs; rw [o.df]; rfl
    have e2 : x.d.kws K = [] := by unfold He.DefD.kws; rw [o.kw]; rfl
    rw [e1, e2] at F
    exact F
  exact ⟨⟨_, _, _, _, _, x.C, x.fu, F, o.fs, o.N, o.sc, o.all, o.T, o.cp⟩, F.bindsN o.bi⟩
theorem look_map {κ : Type} [BEq κ] [LawfulBEq κ] {l : List (κ × DX)} {x : κ} {e : FnE} (h : (l.map fun q => (q.1, q.2.e)).lookup x = some e) : ∃ q ∈ l, q.1 = x ∧ q.2.e = e := by
  induction l with
  | nil => cases h
  | cons q r ih =>
    have h : (match x == q.1 with
      | true => some q.2.e
      | false => (r.map fun q => (q.1, q.2.e)).lookup x) = some e := h
    split at h
    · rename_i hb
      cases h
      exact ⟨q, List.mem_cons_self, (eq_of_beq hb).symm, rfl⟩
    · obtain ⟨q', m, z⟩ := ih h
      exact ⟨q', List.mem_cons_of_mem _ m, z⟩
theorem look_mem {κ β : Type} [BEq κ] [LawfulBEq κ] {l : List (κ × β)} {x : κ} {e : β} (h : l.lookup x = some e) : (x, e) ∈ l := by
  induction l with
  | nil => cases h
  | cons q r ih =>
    have h : (match x == q.1 with
      | true => some q.2
      | false => r.lookup x) = some e := h
    split at h
    · rename_i hb
      cases h
      rw [eq_of_beq hb]
      exact List.mem_cons_self
    · exact List.mem_cons_of_mem _ (ih h)
theorem pg_of (o : TxtOk t) (kin : K.In hp) (gl : hp.Ns mainGlobals mg) (c : SaysX t.fx t.fn K) : PgOk K mg t.pg t.T := by
  obtain ⟨cf, cd⟩ := c.all
  have inF : ∀ {f : Fx}, f ∈ t.fx1 → f.ok K = true := fun h => cf _ (List.mem_append_left _ h)
  have inG : ∀ {f : Fx}, f ∈ t.fx2 → f.ok K = true := fun h => cf _ (List.mem_append_right _ h)
  have gC : ∀ C ∈ t.T.cls, mg C = some (.ref (He.ga K C)) := fun C hC => He.glo_ok kin gl (inF (f := .glo C) (by
    unfold Txt.fx1
    exact List.mem_append_right _ (List.mem_append_left _ (List.mem_map_of_mem hC))))
  have gF : ∀ q ∈ t.fns, mg q.1 = some (.ref (He.ga K q.1)) := fun q hq => He.glo_ok kin gl (inF (f := .glo q.1) (by
    unfold Txt.fx1
    exact List.mem_append_left _ (List.mem_map_of_mem (f := fun q => Fx.glo q.1) hq)))
  have fD : ∀ q ∈ t.fns, ∃ fd, FunD K q.2.d.name q.2.d.qual q.2.d.params q.2.d.body q.2.d.scope (q.2.d.dvs K) (q.2.d.kws K) (He.ga K q.1) fd := fun q hq => by
    have z := cd q.2.d (List.mem_append_left _ (List.mem_map_of_mem (f := fun q : Str × DX => q.2.d) hq))
    rw [(o.fns q hq).2] at z
    exact z
  refine ⟨fun x e h => ?_, fun x hx => ?_, fun C m e h => ?_, fun C hC => ?_, fun C hC c' hm => ?_, fun C hC => ?_, fun C T' b h c1 t1 h1 h2 => ?_, fun p hp => ?_, fun x hx => ?_, fun p hp => ?_, fun C fs h => ?_, fun C hC c' hm => ?_⟩
  · obtain ⟨q, hq, rfl, rfl⟩ := look_map (l := t.fns) h
    obtain ⟨fd, F⟩ := fD q hq
    exact ⟨_, fd, gF q hq, ent_of (o.fns q hq).1 F⟩
  · obtain ⟨q, hq, rfl⟩ := List.mem_map.mp (o.tf x hx)
    obtain ⟨fd, F⟩ := fD q hq
    exact ⟨_, gF q hq, F.kp⟩
  · obtain ⟨q, hq, e1, rfl⟩ := look_map (l := t.mths) h
    obtain ⟨o1, o2, o3⟩ := o.mths q hq
    have z := cd q.2.d (List.mem_append_right _ (List.mem_append_left _ (List.mem_map_of_mem (f := fun q : (Str × Str) × DX => q.2.d) hq)))
    rw [o2] at z
    obtain ⟨fd, F⟩ := z
    have e2 : q.1.1 = C ∧ q.1.2 = m := by rw [e1]; exact ⟨rfl, rfl⟩
    obtain ⟨rfl, rfl⟩ := e2
    refine ⟨_, _, fd, gC _ o3, He.meth_ok (inF (f := .meth q.1.1 q.1.2) ?_), ent_of o1 F⟩
    unfold Txt.fx1
    simp only [List.mem_append]
    exact .inr (.inr (.inr (.inr (.inr (.inr (.inr (.inl (List.mem_map_of_mem (f := fun q : (Str × Str) × DX => Fx.meth q.1.1 q.1.2) hq))))))))
  · refine ⟨_, _, gC C (o.mks C hC), He.mkr_ok (inF (f := .mkr C) ?_)⟩
    unfold Txt.fx1
    simp only [List.mem_append]
    exact .inr (.inr (.inr (.inr (.inr (.inr (.inr (.inr (.inl (List.mem_map_of_mem hC)))))))))
  · rw [gC C (o.cls C hC)] at hm
    cases hm
    refine ⟨clsf_ok (inF (f := .clsf C) ?_), fun f hf => He.noat_ok (inF (f := .noat C f) ?_), fun B hB => of_decide_eq_true (inF (f := .kitB C B) ?_)⟩
    · unfold Txt.fx1
      simp only [List.mem_append]
      exact .inr (.inr (.inr (.inr (.inl (List.mem_map_of_mem hC)))))
    · unfold Txt.fx1
      simp only [List.mem_append]
      exact .inr (.inr (.inr (.inr (.inr (.inl (List.mem_flatMap.mpr ⟨C, hC, List.mem_map_of_mem hf⟩))))))
    · unfold Txt.fx1
      simp only [List.mem_append]
      exact .inr (.inr (.inr (.inr (.inr (.inr (.inl (List.mem_flatMap.mpr ⟨C, hC, List.mem_map_of_mem hB⟩)))))))
  · refine ⟨_, gC C hC, inF (f := .keep C) ?_, fun B hB => of_decide_eq_true (inF (f := .kitA B C) ?_)⟩
    · unfold Txt.fx1
      simp only [List.mem_append]
      exact .inr (.inr (.inl (List.mem_map_of_mem hC)))
    · unfold Txt.fx1
      simp only [List.mem_append]
      exact .inr (.inr (.inr (.inl (List.mem_flatMap.mpr ⟨C, hC, List.mem_map_of_mem (f := fun b => Fx.kitA b C) hB⟩))))
  · have hm := look_mem (l := t.sub) h
    obtain ⟨s1, s2⟩ := o.sub _ hm
    rw [gC C s1] at h1
    rw [gC T' s2] at h2
    cases h1
    cases h2
    refine of_decide_eq_true (inF (f := .kit C T' b) ?_)
    unfold Txt.fx1
    simp only [List.mem_append]
    exact .inr (.inr (.inr (.inr (.inr (.inr (.inr (.inr (.inr (.inl (List.mem_map_of_mem (f := fun q : (Str × Str) × Bool => Fx.kit q.1.1 q.1.2 q.2) hm))))))))))
  · rw [o.cst] at hp
    cases hp
  · refine He.free_ok kin gl (inF (f := .free x) ?_)
    unfold Txt.fx1
    simp only [List.mem_append]
    exact .inr (.inr (.inr (.inr (.inr (.inr (.inr (.inr (.inr (.inr (.inl (List.mem_map_of_mem hx)))))))))))
  · have z := inF (f := .cms p.1 p.2) (by
      unfold Txt.fx1
      simp only [List.mem_append]
      exact .inr (.inr (.inr (.inr (.inr (.inr (.inr (.inr (.inr (.inr (.inr (List.mem_map_of_mem (f := fun q : Str × Str => Fx.cms q.1 q.2) hp))))))))))))
    obtain ⟨m, r1, r2, r3⟩ := cms_ok z
    exact ⟨_, _, gC _ (o.cms p hp), m.kp, m, r1, r2, r3⟩
  · have hm := look_mem (l := (t.exs0.map fun C => (C, ([] : List Str))) ++ t.exs1.map fun q => (q.1, q.2.fs)) h
    rcases List.mem_append.mp hm with hm | hm
    · obtain ⟨C', hC, e⟩ := List.mem_map.mp hm
      cases e
      refine ⟨_, gC C (o.exs0 C hC), .inl ⟨rfl, inG (f := .ex0 C) ?_⟩⟩
      exact List.mem_append_left _ (List.mem_map_of_mem hC)
    · obtain ⟨q, hq, e⟩ := List.mem_map.mp hm
      cases e
      obtain ⟨e1, e2⟩ := o.exs1 q hq
      have z := inG (f := .ex1 q.1) (List.mem_append_right _ (List.mem_append_left _ (List.mem_map_of_mem (f := fun q : Str × EX => Fx.ex1 q.1) hq)))
      obtain ⟨z1, z2, z3⟩ := ex1_ok z
      have fd := cd q.2.d (List.mem_append_right _ (List.mem_append_right _ (List.mem_map_of_mem (f := fun q : Str × EX => q.2.d) hq)))
      rw [e1.at_] at fd
      obtain ⟨fd, F⟩ := fd
      have F : FunD K q.2.d.name q.2.d.qual q.2.d.params q.2.d.body q.2.d.scope [] [] (He.ma K (He.ga K q.1) "__init__") fd := by
        have y1 : q.2.d.dvs K = [] := by unfold He.DefD.dvs; rw [e1.df]; rfl
        have y2 : q.2.d.kws K = [] := by unfold He.DefD.kws; rw [e1.kw]; rfl
        rw [y1, y2] at F
        exact F
      refine ⟨_, gC q.1 e2, .inr ⟨_, fd, q.2.ps, z1, fun f hf => He.noat_ok (inG (f := .noat q.1 f) ?_), z2, z3, ⟨⟨_, _, _, _, _, F, e1.sc, e1.init⟩, F.bindsN e1.bi, e1.len, e1.z, e1.ne⟩⟩⟩
      exact List.mem_append_right _ (List.mem_append_right _ (List.mem_append_right _ (List.mem_append_right _ (List.mem_flatMap.mpr ⟨q, hq, List.mem_map_of_mem hf⟩))))
  · obtain ⟨fs, h⟩ := Option.isSome_iff_exists.mp hC
    have hm2 := look_mem (l := (t.exs0.map fun C => (C, ([] : List Str))) ++ t.exs1.map fun q => (q.1, q.2.fs)) h
    have hx : C ∈ t.exn ∧ C ∈ t.T.cls := by
      rcases List.mem_append.mp hm2 with hm2 | hm2
      · obtain ⟨C', hC', e⟩ := List.mem_map.mp hm2
        cases e
        exact ⟨List.mem_append_left _ hC', o.exs0 C hC'⟩
      · obtain ⟨q, hq, e⟩ := List.mem_map.mp hm2
        cases e
        exact ⟨List.mem_append_right _ (List.mem_map_of_mem (f := fun q : Str × EX => q.1) hq), (o.exs1 q hq).2⟩
    rw [gC C hx.2] at hm
    cases hm
    obtain ⟨z1, z2, z3⟩ := exf_ok (inG (f := .exf C) (List.mem_append_right _ (List.mem_append_right _ (List.mem_append_left _ (List.mem_map_of_mem hx.1)))))
    exact ⟨z1, z2, fun f hf => He.noat_ok (inG (f := .noat C f) (List.mem_append_right _ (List.mem_append_right _ (List.mem_append_right _ (List.mem_append_left _ (List.mem_flatMap.mpr ⟨C, hx.1, List.mem_map_of_mem hf⟩)))))), z3⟩
/-- the promise of the law -/
theorem law_end {P : Program} {w : World} {x : Str} {k : Nat} {q : Str × DX} (o : TxtOk t) (hq : t.fns.find? (fun q => q.1 == ("law" : Str)) = some q) (hps : q.2.e.ps = [x])
    (law : ∀ zs : List Int, zs.length ≤ 63 → ∃ h', runF (wr t.pg k) q.2.e [.ks true (zs.map D.int)] [] = .ok (.bl true) h')
    (kin : K.In hp) (gl : hp.Ns mainGlobals mg) (c : SaysX t.fx t.fn K) (fa : Addr) (hm : mg ("law" : Str) = some (.ref fa)) :
    ∃ (fd : FuncData) (spr : Sp), (∀ (s : Shared) (u : Value), BindsTo s fd ⟨[u], []⟩ [(x, u)]) ∧
        (∀ (T : Hp) (sa : Addr) (zs : List Int), zs.length ≤ 63 → Only T → SqL K T sa (zs.map V.int) → spr [.ref sa] T (fun v _ => v = .bl true) fun _ _ _ => False) ∧
        ∀ B : Heap, K.In B → B.Ns mainGlobals mg → FnG P w K mg B (k + 1) fa fd [x] spr := by
  obtain ⟨cf, cd⟩ := c.all
  have hmem := List.mem_of_find?_eq_some hq
  have hnm : q.1 = ("law" : Str) := by simpa using List.find?_some hq
  obtain ⟨o1, o2⟩ := o.fns q hmem
  have z := cd q.2.d (List.mem_append_left _ (List.mem_map_of_mem (f := fun q : Str × DX => q.2.d) hmem))
  rw [o2, hnm] at z
  obtain ⟨fd, F⟩ := z
  have ea : He.fAd K (("law" : Str), none) = fa := by
    have g := He.glo_ok kin gl (cf (.glo q.1) (List.mem_append_left _ (by
      unfold Txt.fx1
      exact List.mem_append_left _ (List.mem_map_of_mem (f := fun q => Fx.glo q.1) hmem))))
    rw [hnm, hm] at g
    exact (Value.ref.inj (Option.some.inj g)).symm
  rw [ea] at F
  have en := ent_of o1 F
  refine ⟨fd, spF K mg 1 fun ds h => runF (wr t.pg k) q.2.e ds h, fun s u => ?_, fun T sa zs hl on sq => ⟨rfl, ⟨0, fun _ => 0, T⟩, [.ks true (zs.map D.int)], [], .cons (.ksl sq ?_ ?_) .nil, ⟨rfl, fun _ _ e => e, fun i j hi => absurd hi (Nat.not_lt_zero _), fun i hi => absurd hi (Nat.not_lt_zero _), fun i c e => by simp at e, fun i c e => by simp at e⟩, ?_⟩, fun B kB gB => ?_⟩
  · have F0 : FunD K q.2.d.name q.2.d.qual q.2.d.params q.2.d.body q.2.d.scope [] [] fa fd := by
      have e1 : q.2.d.dvs K = [] := by unfold He.DefD.dvs; rw [o1.df]; rfl
      have e2 : q.2.d.kws K = [] := by unfold He.DefD.kws; rw [o1.kw]; rfl
      rw [e1, e2] at F
      exact F
    have b := F0.bindsA o1.bi s [u] (by rw [hps]; rfl)
    rw [hps] at b
    exact b
  · rw [List.length_map, sizeLine_eq]; omega
  · exact RepL.ints _ zs
  · obtain ⟨h', e⟩ := law zs hl
    simp only [e]
    exact fun O' v H' _ _ r => by cases r; rfl
  · have fg := all_G (P := P) (w := w) (base := B) (pg_of o kin gl c) (k + 1) (k + 1) (Nat.le_refl _) fa fd q.2.e en
    rw [hps] at fg
    exact fg
end
end SI
end
section
set_option Elab.async false
set_option linter.all false
set_option maxRecDepth 100000
set_option maxHeartbeats 4000000
/-! SI24: printing, small checks. -/
namespace SI
open PySem PySem.Spec PyProof.Rows L2
def dArgs : Stmt → Arguments
  | .FunctionDef _ a _ _ _ _ _ _ _ _ => a
  | _ => default
def dBody : Stmt → List Stmt
  | .FunctionDef _ _ b _ _ _ _ _ _ _ => b
  | _ => []
def dScope : Stmt → Scope
  | .FunctionDef _ _ _ _ _ _ s _ _ _ => s
  | _ => default
def scopeB (N P : List Str) (sc : Scope) : Bool := (match sc.kind with
  | .function => true
  | _ => false) && (!sc.isCoroutine && (!sc.isGenerator && (decide N.Nodup && (decide (N.take P.length = P) && ((P.all fun x => decide (sc.names.lookup x = some .local ∨ sc.names.lookup x = some .cell)) && sc.names.all fun y => match y.2 with
  | .free => false
  | _ => true)))))
theorem scopeB_ok {N P : List Str} {sc : Scope} (h : scopeB N P sc = true) : FnScope N P sc := by
  unfold scopeB at h
  simp only [Bool.and_eq_true, List.all_eq_true, decide_eq_true_eq, Bool.not_eq_true'] at h
  obtain ⟨h1, h2, h3, h4, h5, h6, h7⟩ := h
  refine ⟨?_, h2, h3, h4, h5, h6, fun y hy e => ?_⟩
  · split at h1
    · assumption
    · cases h1
  · have z := h7 y hy
    rw [e] at z
    cases z
/-- how a body's end is a call's end -/
def fin : SRes → Res D
  | .nx _ h => .ok .non h
  | .rt d h => .ok d h
  | .ex x _ h => .ex x h
  | _ => .no
@[simp] theorem fin_rt {d : D} {h : Hs} : fin (.rt d h) = .ok d h := rfl
@[simp] theorem fin_nx {env : Nv} {h : Hs} : fin (.nx env h) = .ok .non h := rfl
end SI
end
section
set_option Elab.async false
set_option linter.all false
set_option maxRecDepth 100000
set_option maxHeartbeats 4000000
/-! SI25: the small language, step by step. -/
namespace SI
open PySem L2

section
variable {G : Wr} {n : Nat} {env : Nv} {h : Hs}
@[simp] theorem ev_c {d : D} : ev G (n + 1) (.c d) env h = .ok d h := rfl
@[simp] theorem ev_v {i : Nat} : ev G (n + 1) (.v i) env h = .of (get env i) h := rfl
@[simp] theorem ev_val {e : IE} : ev G (n + 1) (.val e) env h = ev G n e env h := rfl
@[simp] theorem ev_tup {es : List IE} : ev G (n + 1) (.tup es) env h = (evs (ev G n) es env h).bind fun ds h => .ok (.tup ds) h := rfl
@[simp] theorem ev_lst {m : Bool} {es : List IE} : ev G (n + 1) (.lst m es) env h = (evs (ev G n) es env h).bind fun ds h => mkL m ds h := rfl
@[simp] theorem ev_bin {o : Bop} {a b : IE} : ev G (n + 1) (.bin o a b) env h = (ev G n a env h).bind fun x h => (ev G n b env h).bind fun y h => binA h o x y := rfl
@[simp] theorem ev_cmp {o : Cop} {a b : IE} : ev G (n + 1) (.cmp o a b) env h = (ev G n a env h).bind fun x h => (ev G n b env h).bind fun y h => .of ((cmpD h o x y).map .bl) h := rfl
@[simp] theorem ev_chain {o p : Cop} {a b c : IE} : ev G (n + 1) (.chain o p a b c) env h = (ev G n a env h).bind fun x h => (ev G n b env h).bind fun y h => (Res.of (cmpD h o x y) h).bind fun k h =>
        if k then (ev G n c env h).bind fun z h => .of ((cmpD h p y z).map .bl) h else .ok (.bl false) h := rfl
@[simp] theorem ev_and {a b : IE} : ev G (n + 1) (.and a b) env h = (ev G n a env h).bind fun x h => (Res.of (truth h x) h).bind fun k h => if k then ev G n b env h else .ok x h := rfl
@[simp] theorem ev_or {a b : IE} : ev G (n + 1) (.or a b) env h = (ev G n a env h).bind fun x h => (Res.of (truth h x) h).bind fun k h => if k then .ok x h else ev G n b env h := rfl
@[simp] theorem ev_not {a : IE} : ev G (n + 1) (.not a) env h = (ev G n a env h).bind fun x h => .of ((truth h x).map fun k => .bl (!k)) h := rfl
@[simp] theorem ev_ife {c a b : IE} : ev G (n + 1) (.ife c a b) env h = (evT G n c env h).bind fun k h => if k then ev G n a env h else ev G n b env h := rfl
@[simp] theorem ev_call {x : Str} {es : List IE} : ev G (n + 1) (.call x es) env h = (evs (ev G n) es env h).bind fun ds h => G.call x ds h := rfl
@[simp] theorem ev_make {x : Str} {es : List IE} : ev G (n + 1) (.make x es) env h = (evs (ev G n) es env h).bind fun ds h => G.make x ds h := rfl
@[simp] theorem ev_meth {o : IE} {m : Str} {es : List IE} : ev G (n + 1) (.meth o m es) env h = (ev G n o env h).bind fun d h => match clsOf G h d m with
      | some C => (evs (ev G n) es env h).bind fun ds h => G.meth C m (d :: ds) h
      | none => .no := rfl
@[simp] theorem ev_cmeth {C m : Str} {es : List IE} : ev G (n + 1) (.cmeth C m es) env h = (evs (ev G n) es env h).bind fun ds h => G.meth C m ds h := rfl
@[simp] theorem ev_bi {f : Bi} {e : IE} : ev G (n + 1) (.bi f e) env h = (ev G n e env h).bind fun d h => .of (biD f h d) h := rfl
@[simp] theorem ev_isi {e : IE} {ts : List (Sum String Str)} : ev G (n + 1) (.isi e ts) env h = (ev G n e env h).bind fun d h => .of ((isAny G h d ts).map .bl) h := rfl
@[simp] theorem ev_bm {m : Me} {o : IE} {es : List IE} : ev G (n + 1) (.bm m o es) env h = (ev G n o env h).bind fun d h => if meOk m h d then (evs (ev G n) es env h).bind fun ds h => meD m h d ds else .no := rfl
@[simp] theorem ev_fld {o : IE} {f : Str} : ev G (n + 1) (.fld o f) env h = (ev G n o env h).bind fun d h => .of (fldD G h d f) h := rfl
@[simp] theorem ev_ix {o i : IE} : ev G (n + 1) (.ix o i) env h = (ev G n o env h).bind fun x h => (ev G n i env h).bind fun y h => .of (ixD h x y) h := rfl
@[simp] theorem ev_sl {o : IE} {lo hi : Option IE} : ev G (n + 1) (.sl o lo hi) env h = (ev G n o env h).bind fun x h => (evo (ev G n) lo env h).bind fun l h => (evo (ev G n) hi env h).bind fun u h => .of (slD h x l u) h := rfl
@[simp] theorem ev_rngs {l m : Bool} {as : List IE} : ev G (n + 1) (.rngs l m as) env h = reL m ((evs (ev G n) as env h).bind fun ds h => (Res.of (rngA ds) h).bind fun xs h =>
        if xs.length ≤ LINE then .ok (if l then .lst xs else .tup xs) h else .no) := rfl
@[simp] theorem ev_dic {t : Bool} : ev G (n + 1) (.dic t) env h = .ok (.ptr h.length) (h ++ [if t then .dT [] else .dK []]) := rfl
@[simp] theorem ev_dicd {ks : List Str} {es : List IE} : ev G (n + 1) (.dicd ks es) env h = (evs (ev G n) es env h).calm.bind fun ds h =>
        if ks.length = ds.length then .ok (.ptr h.length) (h ++ [.dK ((ks.map Sum.inr).zip ds)]) else .no := rfl
/-- a comprehension's test -/
def ifsF (G : Wr) (n : Nat) : Option IE → Nv → Hs → Res Bool
  | none => fun _ h => .ok true h
  | some c => evT G n c
@[simp] theorem ifsF_none : ifsF G n none = fun _ h => .ok true h := rfl
@[simp] theorem ifsF_some {c : IE} : ifsF G n (some c) = evT G n c := rfl
theorem ev_comp {m : Bool} {e : IE} {t : Tg} {k : SrcK} {as : List IE} {i : Option IE} {own : List Nat} : ev G (n + 1) (.comp m e t k as i own) env h = reL m ((evs (ev G n) as env h).bind fun ds h => (Res.of (srcD k ds) h).bind fun xs h => if xs.length ≤ LINE then
        (compLoop (turnF t (ifsF G n i) (ev G n e) (wipeE env own)) xs h).bind fun ys h => .ok (.lst ys) h else .no) := by
  cases i <;> rfl
theorem ev_compK {m : Bool} {e : IE} {t : Tg} {i : Nat} {c : Option IE} {own : List Nat} : ev G (n + 1) (.compK m e t i c own) env h = match get env i with
      | some (.ptr p) => match h[p]? with
        | some ce => match keysD ce with
          | some xs => if xs.length ≤ LINE then reL m ((compLoop (turnF t (ifsF G n c) (ev G n e) ((wipeE env own).set i none)) xs (h.set p .dead)).bind fun ys h2 => .ok (.lst ys) (h2.set p ce)) else .no
          | none => .no
        | none => .no
      | _ => .no := by
  cases c <;> rfl
@[simp] theorem ev_lstm {e : IE} : ev G (n + 1) (.lstm e) env h = reL true ((ev G n e env h).bind fun d h => .of (biD .list h d) h) := rfl
@[simp] theorem ex_aug {i : Nat} {op : Bop} {e : IE} : ex G (n + 1) (.aug i op e) env h = match get env i with
      | some (.int x) => (ev G n e env h).sbind env fun y h => match y with
        | .int z => match binD h op (.int x) (.int z) with
          | some z => .nx (env.set i (some z)) h
          | none => .no
        | _ => .no
      | _ => .no := rfl
@[simp] theorem ex_augix {o i e : IE} {op : Bop} : ex G (n + 1) (.augix o i op e) env h = (ev G n o env h).sbind env fun x h => (ev G n i env h).sbind env fun k h => match x, ixD h x k with
      | .ptr p, some (.int a) => (ev G n e env h).sbind env fun y h => match y with
        | .int b => match binD h op (.int a) (.int b) with
          | some z => match setIxD h (.ptr p) k z with
            | some h => .nx env h
            | none => .no
          | none => .no
        | _ => .no
      | _, _ => .no := rfl
@[simp] theorem ex_setsl {o lo hi e : IE} : ex G (n + 1) (.setsl o lo hi e) env h = (ev G n e env h).sbind env fun v h => (ev G n o env h).sbind env fun x h => (evo (ev G n) (some lo) env h).sbind env fun a h => (evo (ev G n) (some hi) env h).sbind env fun b h => match setSlD h x a b v with
      | some h => .nx env h
      | none => .no := rfl
@[simp] theorem evT_and {a b : IE} : evT G (n + 1) (.and a b) env h = (evT G n a env h).bind fun k h => if k then evT G n b env h else .ok false h := rfl
@[simp] theorem evT_or {a b : IE} : evT G (n + 1) (.or a b) env h = (evT G n a env h).bind fun k h => if k then .ok true h else evT G n b env h := rfl
@[simp] theorem evT_not {a : IE} : evT G (n + 1) (.not a) env h = (evT G n a env h).bind fun k h => .ok (!k) h := rfl
@[simp] theorem evT_val {a : IE} : evT G (n + 1) (.val a) env h = (ev G n (.val a) env h).bind fun x h => .of (truth h x) h := rfl
@[simp] theorem evT_cmp {o : Cop} {a b : IE} : evT G (n + 1) (.cmp o a b) env h = (ev G n (.cmp o a b) env h).bind fun x h => .of (truth h x) h := rfl
@[simp] theorem evT_chain {o p : Cop} {a b c : IE} : evT G (n + 1) (.chain o p a b c) env h = (ev G n (.chain o p a b c) env h).bind fun x h => .of (truth h x) h := rfl
@[simp] theorem evs_nil {f : IE → Nv → Hs → Res D} : evs f [] env h = .ok [] h := rfl
@[simp] theorem evs_cons {f : IE → Nv → Hs → Res D} {e : IE} {es : List IE} : evs f (e :: es) env h = (f e env h).bind fun d h => (evs f es env h).bind fun ds h => .ok (d :: ds) h := rfl
@[simp] theorem evo_none {f : IE → Nv → Hs → Res D} : evo f none env h = .ok none h := rfl
@[simp] theorem evo_some {f : IE → Nv → Hs → Res D} {e : IE} : evo f (some e) env h = (f e env h).bind fun d h => match d with
    | .int i => .ok (some i) h
    | _ => .no := rfl
@[simp] theorem of_some {α : Type} {a : α} : Res.of (some a) h = .ok a h := rfl
@[simp] theorem of_none {α : Type} : (Res.of (none : Option α) h) = .no := rfl
@[simp] theorem calm_ok {α : Type} {a : α} : (Res.ok a h).calm = .ok a h := rfl
@[simp] theorem exs_nil {f : IS → Nv → Hs → SRes} : exs f [] env h = .nx env h := rfl
@[simp] theorem exs_cons {f : IS → Nv → Hs → SRes} {s : IS} {ss : List IS} : exs f (s :: ss) env h = (f s env h).then (exs f ss) := rfl
@[simp] theorem then_nx {f : Nv → Hs → SRes} : (SRes.nx env h).then f = f env h := rfl
@[simp] theorem then_rt {f : Nv → Hs → SRes} {d : D} : (SRes.rt d h).then f = .rt d h := rfl
@[simp] theorem then_bk {f : Nv → Hs → SRes} : (SRes.bk env h).then f = .bk env h := rfl
@[simp] theorem then_ct {f : Nv → Hs → SRes} : (SRes.ct env h).then f = .ct env h := rfl
@[simp] theorem ex_set {t : Tg} {e : IE} : ex G (n + 1) (.set t e) env h = (ev G n e env h).sbind env fun d h => match asg t d env with
      | some env => .nx env h
      | none => .no := rfl
@[simp] theorem ex_par {i j : Nat} {a b : IE} : ex G (n + 1) (.par i j a b) env h = (ev G n a env h).sbind env fun x h => (ev G n b env h).sbind env fun y h => .nx ((env.set i (some x)).set j (some y)) h := rfl
@[simp] theorem ex_setix {o i e : IE} : ex G (n + 1) (.setix o i e) env h = (ev G n e env h).sbind env fun v h => (ev G n o env h).sbind env fun x h => (ev G n i env h).sbind env fun y h => match setIxD h x y v with
      | some h => .nx env h
      | none => .no := rfl
@[simp] theorem ex_setf {o e : IE} {f : Str} : ex G (n + 1) (.setf o f e) env h = (ev G n e env h).sbind env fun v h => (ev G n o env h).sbind env fun x h => match setFD G h x f v with
      | some h => .nx env h
      | none => .no := rfl
@[simp] theorem ex_ex {e : IE} : ex G (n + 1) (.ex e) env h = (ev G n e env h).sbind env fun _ h => .nx env h := rfl
@[simp] theorem ex_ret {e : IE} : ex G (n + 1) (.ret e) env h = (ev G n e env h).sbind env fun d h => .rt d h := rfl
@[simp] theorem ex_retN : ex G (n + 1) .retN env h = .rt .non h := rfl
@[simp] theorem ex_ife {c : IE} {a b : List IS} : ex G (n + 1) (.ife c a b) env h = (evT G n c env h).sbind env fun k h => if k then exs (ex G n) a env h else exs (ex G n) b env h := rfl
@[simp] theorem ex_loop {t : Tg} {k : SrcK} {as : List IE} {b : List IS} : ex G (n + 1) (.loop t k as b) env h = (evs (ev G n) as env h).sbind env fun ds h => match srcD k ds with
      | some xs => forLoop (fun x env h => match asg t x env with
        | some env => exs (ex G n) b env h
        | none => .no) xs env h
      | none => .no := rfl
@[simp] theorem ex_pass : ex G (n + 1) .pass env h = .nx env h := rfl
@[simp] theorem asg_n {i : Nat} {d : D} : asg (.n i) d env = some (env.set i (some d)) := rfl
@[simp] theorem get_zero {d : Option D} : get (d :: env) 0 = d := rfl
@[simp] theorem get_succ {d : Option D} {i : Nat} : get (d :: env) (i + 1) = get env i := rfl
@[simp] theorem truth_bl {b : Bool} : truth h (.bl b) = some b := rfl
@[simp] theorem mkL_f {xs : List D} : mkL false xs h = .ok (.lst xs) h := rfl
@[simp] theorem mkL_t {xs : List D} : mkL true xs h = .ok (.ptr h.length) (h ++ [.lst xs]) := rfl
@[simp] theorem reL_f {r : Res D} : reL false r = r := rfl
end
end SI
end
section
set_option Elab.async false
set_option linter.all false
set_option maxRecDepth 100000
set_option maxHeartbeats 4000000
/-! SI26: plain laws: loops, equality, repr. -/
namespace SI
open PySem L2

/-! ### loops -/
theorem comp_pure {f : D → Hs → Res (Option D)} {g : D → Option D} {h : Hs} : ∀ {xs : List D}, (∀ x ∈ xs, f x h = .ok (g x) h) → compLoop f xs h = .ok (xs.filterMap g) h
  | [], _ => rfl
  | x :: xs, hx => by
    unfold compLoop
    rw [hx x List.mem_cons_self, Res.bind_ok, comp_pure fun y hy => hx y (List.mem_cons_of_mem _ hy), Res.bind_ok, List.filterMap_cons]
    cases g x <;> rfl
/-- every turn gives a thing -/
theorem comp_map {f : D → Hs → Res (Option D)} {g : D → D} {h : Hs} {xs : List D} (hx : ∀ x ∈ xs, f x h = .ok (some (g x)) h) : compLoop f xs h = .ok (xs.map g) h := by
  rw [comp_pure (g := fun x => some (g x)) hx]
  simp
/-- every turn gives a thing, the heap may change: I by what is left -/
theorem comp_inv {f : D → Hs → Res (Option D)} {R : D → D → Prop} {I : Nat → Hs → Prop} : ∀ {xs : List D} {h : Hs}, I xs.length h → (∀ x ∈ xs, ∀ n h, I (n + 1) h → ∃ y h', f x h = .ok (some y) h' ∧ I n h' ∧ R x y) → ∃ ys h', compLoop f xs h = .ok ys h' ∧ I 0 h' ∧ Paired R xs ys
  | [], h, i, _ => ⟨[], h, rfl, i, .nil⟩
  | x :: xs, h, i, k => by
    obtain ⟨y, h1, e1, i1, r1⟩ := k x List.mem_cons_self xs.length h i
    obtain ⟨ys, h2, e2, i2, r2⟩ := comp_inv i1 fun z hz => k z (List.mem_cons_of_mem _ hz)
    refine ⟨y :: ys, h2, ?_, i2, .cons r1 r2⟩
    unfold compLoop
    rw [e1, Res.bind_ok, e2, Res.bind_ok]
/-- turns that may give nothing -/
theorem comp_invO {f : D → Hs → Res (Option D)} {R : D → D → Prop} {I : Nat → Hs → Prop} : ∀ {xs : List D} {h : Hs}, I xs.length h → (∀ x ∈ xs, ∀ n h, I (n + 1) h → ∃ o h', f x h = .ok o h' ∧ I n h' ∧ ∀ y, o = some y → R x y) →
    ∃ ys zs h', compLoop f xs h = .ok ys h' ∧ I 0 h' ∧ List.Sublist zs xs ∧ Paired R zs ys
  | [], h, i, _ => ⟨[], [], h, rfl, i, .slnil, .nil⟩
  | x :: xs, h, i, k => by
    obtain ⟨o, h1, e1, i1, r1⟩ := k x List.mem_cons_self xs.length h i
    obtain ⟨ys, zs, h2, e2, i2, sl, r2⟩ := comp_invO i1 fun z hz => k z (List.mem_cons_of_mem _ hz)
    cases o with
    | none => exact ⟨ys, zs, h2, by unfold compLoop; rw [e1, Res.bind_ok, e2, Res.bind_ok], i2, .cons _ sl, r2⟩
    | some y => exact ⟨y :: ys, x :: zs, h2, by unfold compLoop; rw [e1, Res.bind_ok, e2, Res.bind_ok], i2, .cons₂ _ sl, .cons (r1 y rfl) r2⟩
/-- a loop that runs through: I by what is left -/
theorem for_inv {f : D → Nv → Hs → SRes} {I : Nat → Nv → Hs → Prop} : ∀ {xs : List D} {env : Nv} {h : Hs}, I xs.length env h → (∀ x ∈ xs, ∀ n env h, I (n + 1) env h → ∃ env' h', f x env h = .nx env' h' ∧ I n env' h') → ∃ env' h', forLoop f xs env h = .nx env' h' ∧ I 0 env' h'
  | [], env, h, i, _ => ⟨env, h, rfl, i⟩
  | x :: xs, env, h, i, k => by
    obtain ⟨env1, h1, e1, i1⟩ := k x List.mem_cons_self xs.length env h i
    obtain ⟨env2, h2, e2, i2⟩ := for_inv i1 fun z hz => k z (List.mem_cons_of_mem _ hz)
    exact ⟨env2, h2, by unfold forLoop; rw [e1]; exact e2, i2⟩
/-- the same with the items in sight -/
theorem for_seq {f : D → Nv → Hs → SRes} {I : List D → Nv → Hs → Prop} : ∀ {xs : List D} {env : Nv} {h : Hs}, I xs env h → (∀ x xs env h, I (x :: xs) env h → ∃ env' h', f x env h = .nx env' h' ∧ I xs env' h') → ∃ env' h', forLoop f xs env h = .nx env' h' ∧ I [] env' h'
  | [], env, h, i, _ => ⟨env, h, rfl, i⟩
  | x :: xs, env, h, i, k => by
    obtain ⟨env1, h1, e1, i1⟩ := k x xs env h i
    obtain ⟨env2, h2, e2, i2⟩ := for_seq i1 k
    exact ⟨env2, h2, by unfold forLoop; rw [e1]; exact e2, i2⟩
/-! ### plain data -/
mutual
theorem pyD_eq : ∀ (d : D) (g g' : Nat → Option PyData) (y : PyData), (∀ n, g n = none) → pyD g d = some y → pyD g' d = some y
  | .non, _, _, _, _, e => e
  | .bl _, _, _, _, _, e => e
  | .int _, _, _, _, _, e => e
  | .str _, _, _, _, _, e => e
  | .tup xs, g, g', y, hn, e => by
    simp only [pyD, Option.map_eq_some_iff] at e ⊢
    obtain ⟨ys, e, rfl⟩ := e
    exact ⟨ys, pyL_eq xs g g' ys hn e, rfl⟩
  | .lst xs, g, g', y, hn, e => by
    simp only [pyD, Option.map_eq_some_iff] at e ⊢
    obtain ⟨ys, e, rfl⟩ := e
    exact ⟨ys, pyL_eq xs g g' ys hn e, rfl⟩
  | .ks l xs, g, g', y, hn, e => by
    simp only [pyD, Option.map_eq_some_iff] at e ⊢
    obtain ⟨ys, e, rfl⟩ := e
    exact ⟨ys, pyL_eq xs g g' ys hn e, rfl⟩
  | .ptr n, g, g', y, hn, e => by
    have e : g n = some y := e
    rw [hn] at e; cases e
  | .glo _, _, _, _, _, e => by cases e
theorem pyL_eq : ∀ (ds : List D) (g g' : Nat → Option PyData) (ys : List PyData), (∀ n, g n = none) → pyL g ds = some ys → pyL g' ds = some ys
  | [], _, _, _, _, e => e
  | d :: ds, g, g', ys, hn, e => by
    simp only [pyL] at e ⊢
    split at e
    · rename_i y hy
      split at e
      · rename_i zs hz
        cases e
        rw [pyD_eq d g g' y hn hy, pyL_eq ds g g' zs hn hz]
      · cases e
    · cases e
end
/-- a value's data -/
def py (d : D) : Option PyData := pyD (fun _ => none) d
def pys (ds : List D) : Option (List PyData) := pyL (fun _ => none) ds
theorem deep_py {h : Hs} {d : D} {y : PyData} (e : py d = some y) : deep h d = some y := pyD_eq d _ _ y (fun _ => rfl) e
theorem pyL_pys {g : Nat → Option PyData} {ds : List D} {ys : List PyData} (e : pys ds = some ys) : pyL g ds = some ys := pyL_eq ds _ _ ys (fun _ => rfl) e
theorem py_tup {xs : List D} {ys : List PyData} (e : pys xs = some ys) : py (.tup xs) = some (.tuple ys) := by
  show (pyL _ xs).map _ = _
  rw [show pyL (fun _ => none) xs = some ys from e]; rfl
theorem py_lst {xs : List D} {ys : List PyData} (e : pys xs = some ys) : py (.lst xs) = some (.list ys) := by
  show (pyL _ xs).map _ = _
  rw [show pyL (fun _ => none) xs = some ys from e]; rfl
theorem pys_ints : ∀ xs : List Int, pys (xs.map D.int) = some (xs.map PyData.int)
  | [] => rfl
  | x :: xs => by
    show (match some (PyData.int x) with
      | some d => match pys (xs.map D.int) with
        | some ds => some (d :: ds)
        | none => none
      | none => none) = _
    rw [pys_ints xs]; rfl
theorem pys_map {α : Type} {f : α → D} {g : α → PyData} (h : ∀ a, py (f a) = some (g a)) : ∀ xs : List α, pys (xs.map f) = some (xs.map g)
  | [] => rfl
  | x :: xs => by
    show (match py (f x) with
      | some d => match pys (xs.map f) with
        | some ds => some (d :: ds)
        | none => none
      | none => none) = _
    rw [h, pys_map h xs]; rfl
theorem eqD_same {h : Hs} {d : D} {y : PyData} (e : py d = some y) (s : SeqAt.shaped y = true) : eqD h d d = some true := by
  unfold eqD
  rw [deep_py e]
  simp [s, SeqAt.eqv_refl y (SeqAt.canLay_of_shaped s)]
theorem eqD_py {h : Hs} {d e : D} {y z : PyData} (h1 : py d = some y) (h2 : py e = some z) (s : SeqAt.shaped y = true) (t : SeqAt.shaped z = true) : eqD h d e = some (PyData.eqv y z) := by
  unfold eqD
  rw [deep_py h1, deep_py h2]
  simp [s, t]
/-! ### small data: shown in a few signs -/
mutual
def good : PyData → Bool
  | .none => true
  | .bool _ => true
  | .int i => decide (0 ≤ i ∧ i < 10)
  | .str x => decide (x = "slots" ∨ x = "early" ∨ x = "upward")
  | .list xs => goods xs
  | .tuple xs => goods xs
  | .dict _ => false
def goods : List PyData → Bool
  | [] => true
  | x :: xs => good x && goods xs
end
mutual
def siz : PyData → Nat
  | .list xs => sizs xs + 1
  | .tuple xs => sizs xs + 1
  | _ => 1
def sizs : List PyData → Nat
  | [] => 0
  | x :: xs => siz x + sizs xs
end
theorem digit_len {i : Int} (h : 0 ≤ i ∧ i < 10) : (PyData.int i).shown.length ≤ 17 ∧ (PyData.int i).showable = true := by
  have : i = 0 ∨ i = 1 ∨ i = 2 ∨ i = 3 ∨ i = 4 ∨ i = 5 ∨ i = 6 ∨ i = 7 ∨ i = 8 ∨ i = 9 := by omega
  rcases this with rfl | rfl | rfl | rfl | rfl | rfl | rfl | rfl | rfl | rfl <;> exact ⟨by decide +kernel, by decide +kernel⟩
theorem word_len {x : Str} (h : x = "slots" ∨ x = "early" ∨ x = "upward") : (PyData.str x).shown.length ≤ 17 ∧ (PyData.str x).canLay0 = true := by
  rcases h with rfl | rfl | rfl <;> exact ⟨by decide +kernel, by decide +kernel⟩
mutual
theorem good_ok : ∀ d : PyData, good d = true → d.showable = true ∧ d.hasDict = false ∧ d.canLay0 = true ∧ d.shown.length + 3 ≤ 20 * siz d ∧ d.depth ≤ siz d
  | .none, _ => ⟨rfl, rfl, rfl, by decide +kernel, by decide⟩
  | .bool b, _ => ⟨rfl, rfl, rfl, by cases b <;> decide +kernel, by simp [PyData.depth]⟩
  | .int i, h => by
    have h1 := digit_len (of_decide_eq_true h)
    exact ⟨h1.2, rfl, rfl, by simp only [siz]; omega, by simp [PyData.depth]⟩
  | .str x, h => by
    have h1 := word_len (of_decide_eq_true h)
    exact ⟨rfl, rfl, h1.2, by simp only [siz]; omega, by simp [PyData.depth]⟩
  | .list xs, h => by
    obtain ⟨h1, h2, h3, h4, h5⟩ := goods_ok xs h
    have z := listText_len_le (PyData.shownAll xs)
    refine ⟨h1, h2, h3, ?_, ?_⟩
    · show (listText (PyData.shownAll xs)).length + 3 ≤ 20 * (sizs xs + 1)
      omega
    · show PyData.depthAll xs + 1 ≤ sizs xs + 1
      omega
  | .tuple xs, h => by
    obtain ⟨h1, h2, h3, h4, h5⟩ := goods_ok xs h
    have z := tupleText_len_le (PyData.shownAll xs)
    refine ⟨h1, h2, h3, ?_, ?_⟩
    · show (tupleText (PyData.shownAll xs)).length + 3 ≤ 20 * (sizs xs + 1)
      omega
    · show PyData.depthAll xs + 1 ≤ sizs xs + 1
      omega
  | .dict _, h => by cases h
theorem goods_ok : ∀ ds : List PyData, goods ds = true → PyData.showableAll ds = true ∧ PyData.hasDictAll ds = false ∧ PyData.canLayAll0 ds = true ∧ ((PyData.shownAll ds).map (·.length)).sum + 3 * (PyData.shownAll ds).length ≤ 20 * sizs ds ∧ PyData.depthAll ds ≤ sizs ds
  | [], _ => ⟨rfl, rfl, rfl, by simp [PyData.shownAll], by simp [PyData.depthAll]⟩
  | d :: ds, h => by
    simp only [goods, Bool.and_eq_true] at h
    obtain ⟨a1, a2, a3, a4, a5⟩ := good_ok d h.1
    obtain ⟨b1, b2, b3, b4, b5⟩ := goods_ok ds h.2
    refine ⟨by simp [PyData.showableAll, a1, b1], by simp [PyData.hasDictAll, a2, b2], by simp [PyData.canLayAll0, a3, b3], ?_, ?_⟩
    · simp only [PyData.shownAll, List.map_cons, List.sum_cons, List.length_cons, sizs]
      omega
    · simp only [PyData.depthAll, sizs]
      omega
end
theorem shaped_of {y : PyData} (g : good y = true) (z : y.depth ≤ 60) : SeqAt.shaped y = true := by
  obtain ⟨_, _, h3, _, h5⟩ := good_ok y g
  unfold SeqAt.shaped
  rw [h3, decide_eq_true (by omega)]; rfl
theorem repr_ok {h : Hs} {d : D} {y : PyData} (e : py d = some y) (p : isPtr d = true) (g : good y = true) (z : siz y ≤ 10000) (z2 : y.depth ≤ 60) : reprD h d = some (.str y.shown) := by
  obtain ⟨h1, h2, _, h4, _⟩ := good_ok y g
  have hl : y.shown.length ≤ LINE := by
    show _ ≤ 16777216
    omega
  unfold reprD
  rw [deep_py e]
  simp [p, h1, h2, hl, z2]
end SI
end
section
set_option Elab.async false
set_option linter.all false
set_option maxRecDepth 100000
set_option maxHeartbeats 4000000
/-! SI27: the laws' pen. -/
namespace SI
open PySem L2

/-- the pen's dict -/
def pen (cs : List D) (a g n f : Int) : Cell := .dK [(.inr "cells", .lst cs), (.inr "at", .int a), (.inr "digits", .int g), (.inr "count", .int n), (.inr "fold", .int f)]
section
variable {cs : List D} {a g n f m : Int} {h : Hs} {p : Nat}
theorem pen_cells : dget (pen cs a g n f) (.str "cells") = some (some (.lst cs)) := rfl
theorem pen_at : dget (pen cs a g n f) (.str "at") = some (some (.int a)) := rfl
theorem pen_digits : dget (pen cs a g n f) (.str "digits") = some (some (.int g)) := rfl
theorem pen_count : dget (pen cs a g n f) (.str "count") = some (some (.int n)) := rfl
theorem pen_fold : dget (pen cs a g n f) (.str "fold") = some (some (.int f)) := rfl
theorem put_at : dput (pen cs a g n f) (.str "at") (.int m) = some (pen cs m g n f) := rfl
theorem put_digits : dput (pen cs a g n f) (.str "digits") (.int m) = some (pen cs a m n f) := rfl
theorem put_count : dput (pen cs a g n f) (.str "count") (.int m) = some (pen cs a g m f) := rfl
theorem put_fold : dput (pen cs a g n f) (.str "fold") (.int m) = some (pen cs a g n m) := rfl
/-- reading and writing the pen at p -/
theorem pen_ix (hp : h[p]? = some (pen cs a g n f)) (k : D) : ixD h (.ptr p) k = (dget (pen cs a g n f) k).join := by
  show (match h[p]? with
    | some (.lst xs) => idx k xs
    | some c => (dget c k).join
    | none => none) = _
  rw [hp]; rfl
theorem pen_set (hp : h[p]? = some (pen cs a g n f)) (k v : D) : setIxD h (.ptr p) k v = (match dput (pen cs a g n f) k v with
      | some c' => some (h.set p c')
      | none => none) := by
  show (match h[p]? with
    | some (.lst xs) => match k with
      | .int k => match ixN xs.length k with
        | some j => some (h.set p (.lst (xs.set j v)))
        | none => none
      | _ => none
    | some c => match dput c k v with
      | some c' => some (h.set p c')
      | none => none
    | none => none) = _
  rw [hp]; rfl
theorem set_get (hp : h[p]? = some (pen cs a g n f)) (c : Cell) : (h.set p c)[p]? = some c := List.getElem?_set_self (List.getElem?_eq_some_iff.mp hp).1
end
/-- the pen stands at p, r more draws may come -/
def PenAt (r : Nat) (h : Hs) (p : Nat) : Prop := ∃ (ns : List Int) (a g n f : Int), h[p]? = some (pen (ns.map D.int) a g n f) ∧ 0 ≤ a ∧ 0 ≤ g ∧ 0 ≤ n ∧ n + r ≤ 1000000 ∧ 0 ≤ f ∧ f < 2 ^ 40
theorem PenAt.mono {r s : Nat} {h : Hs} {p : Nat} (x : PenAt r h p) (e : s ≤ r) : PenAt s h p := by
  obtain ⟨ns, a, g, n, f, h1, h2, h3, h4, h5, h6⟩ := x
  exact ⟨ns, a, g, n, f, h1, h2, h3, h4, by omega, h6⟩
/-- all else is as it was -/
structure Same (p : Nat) (h h' : Hs) : Prop where
  len : h'.length = h.length
  at_ : ∀ j, j ≠ p → h'[j]? = h[j]?
theorem Same.refl (p : Nat) (h : Hs) : Same p h h := ⟨rfl, fun _ _ => rfl⟩
theorem Same.trans {p : Nat} {h h1 h2 : Hs} (a : Same p h h1) (b : Same p h1 h2) : Same p h h2 := ⟨b.len.trans a.len, fun j hj => (b.at_ j hj).trans (a.at_ j hj)⟩
theorem Same.set (p : Nat) (h : Hs) (c : Cell) : Same p h (h.set p c) := ⟨List.length_set, fun j hj => List.getElem?_set_ne (Ne.symm hj)⟩
/-- a draw's text, by its numbers -/
def drawIR (c1 c2 c3 : Int) : List IS := [.setix (.v 0) (.c (.str "count")) (.bin .add (.ix (.v 0) (.c (.str "count"))) (.c (.int 1))),
  .ife (.and (.cmp .eq (.ix (.v 0) (.c (.str "digits"))) (.c (.int 0))) (.cmp .lt (.ix (.v 0) (.c (.str "at"))) (.bi .len (.ix (.v 0) (.c (.str "cells"))))))
    [.set (.n 2) (.ix (.ix (.v 0) (.c (.str "cells"))) (.ix (.v 0) (.c (.str "at")))), .setix (.v 0) (.c (.str "at")) (.bin .add (.ix (.v 0) (.c (.str "at"))) (.c (.int 1))),
     .ife (.cmp .ge (.v 2) (.bin .pow (.c (.int 10)) (.c (.int 18)))) [.setix (.v 0) (.c (.str "digits")) (.bin .sub (.v 2) (.bin .pow (.c (.int 10)) (.c (.int 18))))]
       [.setix (.v 0) (.c (.str "fold")) (.bin .mod (.bi .int (.bin .add (.bin .mul (.ix (.v 0) (.c (.str "fold"))) (.c (.int c1))) (.v 2))) (.c (.int 2147483543)))]] [],
  .ife (.cmp .gt (.ix (.v 0) (.c (.str "digits"))) (.c (.int 0))) [.set (.n 3) (.bin .mod (.bi .int (.ix (.v 0) (.c (.str "digits")))) (.v 1)), .setix (.v 0) (.c (.str "digits")) (.bin .fdiv (.ix (.v 0) (.c (.str "digits"))) (.v 1)), .ret (.v 3)] [],
  .set (.n 4) (.bin .add (.bin .add (.ix (.v 0) (.c (.str "fold"))) (.bin .mul (.ix (.v 0) (.c (.str "count"))) (.c (.int c2)))) (.c (.int c3))),
  .ret (.bin .mod (.bin .fdiv (.bi .int (.bin .mod (.bin .pow (.v 4) (.c (.int 23))) (.c (.int 2305843009213693951)))) (.c (.int 128))) (.v 1))]
section
variable {G : Wr} {c1 c2 c3 : Int} {cs : List D} {a g n f m : Int} {h : Hs} {p : Nat} {ns : List Int} {x2 x3 x4 : Option D}
@[simp] theorem binA_int {op : Bop} {i j : Int} {z : D} (e : binD h op (.int i) (.int j) = some z) : binA h op (.int i) (.int j) = .ok z h := by
  unfold binA; rw [e]
@[simp] theorem add_ii {i j : Int} : binA h .add (.int i) (.int j) = .ok (.int (i + j)) h := rfl
@[simp] theorem sub_ii {i j : Int} : binA h .sub (.int i) (.int j) = .ok (.int (i - j)) h := rfl
theorem mul_ic {i j : Int} (hb : big64 j = true) : binA h .mul (.int i) (.int j) = .ok (.int (i * j)) h := by
  unfold binA binD
  simp [hb]
theorem mod_ii {i j : Int} (hj : 0 < j) : binA h .mod (.int i) (.int j) = .ok (.int (i % j)) h := by
  unfold binA binD
  simp [hj]
theorem fdiv_ii {i j : Int} (hj : 0 < j) (h2 : j < 1073741824) : binA h .fdiv (.int i) (.int j) = .ok (.int (i / j)) h := by
  have h3 : j.natAbs < 1073741824 := by omega
  unfold binA binD
  simp [hj, h3]
theorem pow_10 : binA h .pow (.int 10) (.int 18) = .ok (.int 1000000000000000000) h := rfl
theorem pow_23 {i : Int} (hi : i.natAbs < 2 ^ 64) : binA h .pow (.int i) (.int 23) = .ok (.int (i ^ 23)) h := by
  unfold binA binD
  have : i.natAbs < 18446744073709551616 := hi
  simp [this]
@[simp] theorem eq_ii {i j : Int} : cmpD h .eq (.int i) (.int j) = some (i == j) := rfl
@[simp] theorem ne_ii {i j : Int} : cmpD h .ne (.int i) (.int j) = some (!(i == j)) := rfl
@[simp] theorem lt_ii {i j : Int} : cmpD h .lt (.int i) (.int j) = some (decide (i < j)) := rfl
@[simp] theorem gt_ii {i j : Int} : cmpD h .gt (.int i) (.int j) = some (decide (j < i)) := rfl
@[simp] theorem le_ii {i j : Int} : cmpD h .le (.int i) (.int j) = some (decide (i ≤ j)) := rfl
@[simp] theorem ge_ii {i j : Int} : cmpD h .ge (.int i) (.int j) = some (decide (j ≤ i)) := rfl
@[simp] theorem int_i {i : Int} : biD .int h (.int i) = some (.int i) := rfl
@[simp] theorem len_lst {xs : List D} : biD .len h (.lst xs) = some (.int xs.length) := rfl
@[simp] theorem len_tup {xs : List D} : biD .len h (.tup xs) = some (.int xs.length) := rfl
/-- the end of a draw -/
theorem draw_tail {k : Nat} (hp : h[p]? = some (pen cs a g n f)) (hg : 0 ≤ g) (hn : 0 ≤ n ∧ n ≤ 1000000) (hf : 0 ≤ f ∧ f < 2 ^ 40) (hc2 : 0 ≤ c2 ∧ c2 < 2 ^ 20) (hc3 : 0 ≤ c3 ∧ c3 < 2 ^ 20) (hm : 0 < m) (hm2 : m < 1073741824) :
    ∃ d g', exs (ex G (k + 10)) ((drawIR c1 c2 c3).drop 2) [some (.ptr p), some (.int m), x2, x3, x4] h = .rt (.int d) (h.set p (pen cs a g' n f)) ∧ 0 ≤ d ∧ d < m ∧ 0 ≤ g' := by
  by_cases hg0 : 0 < g
  · refine ⟨g % m, g / m, ?_, Int.emod_nonneg _ (by omega), Int.emod_lt_of_pos _ hm, Int.ediv_nonneg hg (by omega)⟩
    simp [drawIR, pen_ix hp, pen_digits, hg0, mod_ii hm, fdiv_ii hm hm2, pen_set hp, put_digits]
  · have hb : 0 ≤ f + n * c2 + c3 := by
      have := Int.mul_nonneg hn.1 hc2.1
      omega
    have hb2 : n * c2 ≤ 1000000 * 2 ^ 20 := Int.mul_le_mul hn.2 (by omega) hc2.1 (by omega)
    have hb3 : (f + n * c2 + c3).natAbs < 2 ^ 64 := by omega
    have hbig : big64 c2 = true := decide_eq_true (by omega)
    refine ⟨(f + n * c2 + c3) ^ 23 % 2305843009213693951 / 128 % m, g, ?_, Int.emod_nonneg _ (by omega), Int.emod_lt_of_pos _ hm, hg⟩
    have e0 : h.set p (pen cs a g n f) = h := set_same hp
    rw [e0]
    simp [drawIR, pen_ix hp, pen_digits, pen_fold, pen_count, hg0, mod_ii hm, fdiv_ii, mul_ic hbig, pow_23 hb3, mod_ii]
end
end SI
end
section
set_option Elab.async false
set_option linter.all false
set_option maxRecDepth 100000
set_option maxHeartbeats 4000000
/-! SI28: a draw, a row of draws. -/
namespace SI
open PySem L2
section
variable {G : Wr} {c1 c2 c3 : Int} {cs : List D} {a g n f m : Int} {h : Hs} {p : Nat} {ns : List Int} {x2 x3 x4 : Option D}
theorem at_ints {ns : List Int} {a : Int} (h0 : 0 ≤ a) (h1 : a < ns.length) : ∃ v, atI (ns.map D.int) a = some (.int v) := by
  have hl : (ns.map D.int).length = ns.length := List.length_map ..
  unfold atI ixN
  rw [hl, if_pos h0, if_pos h1]
  refine ⟨ns[a.toNat]'(by omega), ?_⟩
  simp [show a.toNat < ns.length by omega]
/-- the middle of a draw -/
theorem draw_mid {k : Nat} (hp : h[p]? = some (pen (ns.map D.int) a g n f)) (ha : 0 ≤ a) (hg : 0 ≤ g) (hf : 0 ≤ f ∧ f < 2 ^ 40) (hc1 : 0 ≤ c1 ∧ c1 < 2 ^ 20) :
    ∃ a' g' f' y2, exs (ex G (k + 10)) (((drawIR c1 c2 c3).drop 1).take 1) [some (.ptr p), some (.int m), x2, x3, x4] h = .nx [some (.ptr p), some (.int m), y2, x3, x4] (h.set p (pen (ns.map D.int) a' g' n f')) ∧ 0 ≤ a' ∧ 0 ≤ g' ∧ 0 ≤ f' ∧ f' < 2 ^ 40 := by
  have e0 : h.set p (pen (ns.map D.int) a g n f) = h := set_same hp
  by_cases hg0 : g = 0
  · by_cases hl : a < ns.length
    · obtain ⟨v, hv⟩ := at_ints ha hl
      have hix : ixD h (.lst (ns.map D.int)) (.int a) = some (.int v) := hv
      have hp2 : (h.set p (pen (ns.map D.int) (a + 1) g n f))[p]? = some (pen (ns.map D.int) (a + 1) g n f) := set_get hp _
      by_cases hb : 1000000000000000000 ≤ v
      · refine ⟨a + 1, v - 1000000000000000000, f, some (.int v), ?_, by omega, by omega, hf⟩
        simp [drawIR, pen_ix hp, pen_digits, pen_at, pen_cells, hg0, hl, hix, pen_set hp, put_at, pow_10, hb]
        subst hg0
        simp [pen_set hp2, put_digits]
      · refine ⟨a + 1, g, (f * c1 + v) % 2147483543, some (.int v), ?_, by omega, hg, Int.emod_nonneg _ (by decide), ?_⟩
        · have hbig : big64 c1 = true := decide_eq_true (by omega)
          simp [drawIR, pen_ix hp, pen_digits, pen_at, pen_cells, hg0, hl, hix, pen_set hp, put_at, pow_10, hb]
          subst hg0
          simp [pen_ix hp2, pen_fold, pen_set hp2, put_fold, mul_ic hbig, mod_ii]
        · have := Int.emod_lt_of_pos (f * c1 + v) (show (0 : Int) < 2147483543 by decide)
          omega
    · refine ⟨a, g, f, x2, ?_, ha, hg, hf⟩
      rw [e0]
      simp [drawIR, pen_ix hp, pen_digits, pen_at, pen_cells, hg0, hl]
  · refine ⟨a, g, f, x2, ?_, ha, hg, hf⟩
    rw [e0]
    simp [drawIR, pen_ix hp, pen_digits, hg0]
theorem exs_app {F : IS → Nv → Hs → SRes} : ∀ {l r : List IS} {env : Nv} {h : Hs}, exs F (l ++ r) env h = (exs F l env h).then (exs F r)
  | [], _, _, _ => rfl
  | s :: l, r, env, h => by
    show (F s env h).then (exs F (l ++ r)) = ((F s env h).then (exs F l)).then (exs F r)
    cases F s env h with
    | nx env h => exact exs_app
    | _ => rfl
theorem draw_run {k r : Nat} (hp : PenAt (r + 1) h p) (hc1 : 0 ≤ c1 ∧ c1 < 2 ^ 20) (hc2 : 0 ≤ c2 ∧ c2 < 2 ^ 20) (hc3 : 0 ≤ c3 ∧ c3 < 2 ^ 20) (hm : 0 < m) (hm2 : m < 1073741824) :
    ∃ d h', exs (ex G (k + 10)) (drawIR c1 c2 c3) [some (.ptr p), some (.int m), x2, x3, x4] h = .rt (.int d) h' ∧ 0 ≤ d ∧ d < m ∧ PenAt r h' p ∧ Same p h h' := by
  obtain ⟨ns, a, g, n, f, hp, ha, hg, hn, hr, hf⟩ := hp
  have hp1 : (h.set p (pen (ns.map D.int) a g (n + 1) f))[p]? = some (pen (ns.map D.int) a g (n + 1) f) := set_get hp _
  obtain ⟨a', g', f', y2, e2, ha', hg', hf'⟩ := draw_mid (G := G) (k := k) (c1 := c1) (c2 := c2) (c3 := c3) (m := m) (x2 := x2) (x3 := x3) (x4 := x4) hp1 ha hg hf hc1
  have hp2 := set_get hp1 (pen (ns.map D.int) a' g' (n + 1) f')
  obtain ⟨d, g2, e3, d0, d1, hg2⟩ := draw_tail (G := G) (k := k) (c1 := c1) (c2 := c2) (c3 := c3) (x2 := y2) (x3 := x3) (x4 := x4) hp2 hg' ⟨by omega, by omega⟩ hf' hc2 hc3 hm hm2
  refine ⟨d, _, ?_, d0, d1, ⟨ns, a', g2, n + 1, f', set_get hp2 _, ha', hg2, by omega, by omega, hf'⟩, ((Same.set _ _ _).trans (Same.set _ _ _)).trans (Same.set _ _ _)⟩
  have e1 : ex G (k + 10) (.setix (.v 0) (.c (.str "count")) (.bin .add (.ix (.v 0) (.c (.str "count"))) (.c (.int 1)))) [some (.ptr p), some (.int m), x2, x3, x4] h = .nx [some (.ptr p), some (.int m), x2, x3, x4] (h.set p (pen (ns.map D.int) a g (n + 1) f)) := by
    simp [pen_ix hp, pen_count, pen_set hp, put_count]
  show (ex G (k + 10) (.setix (.v 0) (.c (.str "count")) (.bin .add (.ix (.v 0) (.c (.str "count"))) (.c (.int 1)))) _ h).then (exs (ex G (k + 10)) (((drawIR c1 c2 c3).drop 1).take 1 ++ (drawIR c1 c2 c3).drop 2)) = _
  rw [e1, then_nx, exs_app, e2, then_nx, e3]
end
/-- one turn of a for -/
def bodyF (G : Wr) (n : Nat) (t : Tg) (b : List IS) : D → Nv → Hs → SRes := fun x env h => match asg t x env with
  | some env => exs (ex G n) b env h
  | none => .no
theorem loop_run {G : Wr} {n : Nat} {t : Tg} {k : SrcK} {as : List IE} {b : List IS} {env : Nv} {h h1 : Hs} {ds xs : List D} {r : SRes} (ea : evs (ev G n) as env h = .ok ds h1) (es : srcD k ds = some xs) (el : forLoop (bodyF G n t b) xs env h1 = r) :
    ex G (n + 1) (.loop t k as b) env h = r := by
  rw [ex_loop, ea, Res.sbind_ok, es]
  exact el
theorem comp_run {G : Wr} {n : Nat} {m : Bool} {e : IE} {t : Tg} {k : SrcK} {as : List IE} {i : Option IE} {own : List Nat} {env : Nv} {h h1 h2 : Hs} {ds xs ys : List D} (ea : evs (ev G n) as env h = .ok ds h1) (es : srcD k ds = some xs) (hz : xs.length ≤ LINE)
    (ec : compLoop (turnF t (ifsF G n i) (ev G n e) (wipeE env own)) xs h1 = .ok ys h2) : ev G (n + 1) (.comp m e t k as i own) env h = reL m (.ok (.lst ys) h2) := by
  rw [ev_comp, ea, Res.bind_ok, es, of_some, Res.bind_ok, if_pos hz, ec, Res.bind_ok]
/-- what a program's draw does -/
def Draws (G : Wr) : Prop := ∀ (r : Nat) (m : Int) (h : Hs) (p : Nat), PenAt (r + 1) h p → 0 < m → m < 1073741824 → ∃ d h', G.call "_law_draw" [.ptr p, .int m] h = .ok (.int d) h' ∧ 0 ≤ d ∧ d < m ∧ PenAt r h' p ∧ Same p h h'
end SI
end
section
set_option Elab.async false
set_option linter.all false
set_option maxRecDepth 100000
set_option maxHeartbeats 1000000
/-! SIP: plain laws, what any law may use. -/
namespace SI
open PySem L2
namespace PL
/-! ### running a def -/
theorem run_rt {G : Wr} {e : FnE} {ds : List D} {h h' : Hs} {d : D} (hl : ds.length = e.ps.length) (x : exs (ex G e.fuel) e.body (ds.map some ++ List.replicate (e.N.length - ds.length) none) h = .rt d h') : runF G e ds h = .ok d h' := by
  unfold runF
  rw [if_pos hl, x]
/-! ### names in a long environment -/
theorem get_set {env : Nv} {i j : Nat} {v : D} (hi : i < env.length) : get (env.set i (some v)) j = if i = j then some v else get env j := by
  unfold get
  rw [List.getElem?_set]
  by_cases e : i = j
  · subst e; simp [hi]
  · simp [e]
theorem len_set {env : Nv} {i : Nat} {v : Option D} : (env.set i v).length = env.length := List.length_set ..
theorem get_eq {env : Nv} {m : Nat} {v : D} (hi : m < env.length) : get (env.set m (some v)) m = some v := (get_set hi).trans (if_pos rfl)
theorem get_ne {env : Nv} {m j : Nat} {v : D} (hi : m < env.length) (e : m ≠ j) : get (env.set m (some v)) j = get env j := (get_set hi).trans (if_neg e)
theorem get_wipe {env : Nv} {i j : Nat} : i ≠ j → get (env.set i none) j = get env j := fun e => by
  unfold get
  rw [List.getElem?_set]
  simp [e]
@[simp] theorem wipe_nil {env : Nv} : wipeE env [] = env := rfl
@[simp] theorem wipe_cons {env : Nv} {v : Nat} {vs : List Nat} : wipeE env (v :: vs) = (wipeE env vs).set v none := rfl
/-! ### cells -/
section
variable {h : Hs} {p q f : Nat}
theorem get_app {c d : Cell} (hq : h[q]? = some c) : (h ++ [d])[q]? = some c := by
  have : q < h.length := (List.getElem?_eq_some_iff.mp hq).1
  rw [List.getElem?_append_left this]
  exact hq
theorem get_last {d : Cell} : (h ++ [d])[h.length]? = some d := by
  rw [List.getElem?_append_right (Nat.le_refl _), Nat.sub_self]; rfl
theorem at_lt {c : Cell} (hq : h[q]? = some c) : q < h.length := (List.getElem?_eq_some_iff.mp hq).1
theorem at_set {c d : Cell} (hq : h[q]? = some c) : (h.set q d)[q]? = some d := List.getElem?_set_self (at_lt hq)
theorem at_ne {c d : Cell} (hq : h[q]? = some c) (e : p ≠ q) : (h.set p d)[q]? = some c := by rw [List.getElem?_set_ne e]; exact hq
theorem set_app {d : Cell} {e : Cell} : (h ++ [d]).set h.length e = h ++ [e] := by
  rw [List.set_append_right _ _ (Nat.le_refl _), Nat.sub_self]; rfl
/-! ### lists of numbers -/
/-- numbers as data -/
def nL (xs : List Nat) : List D := xs.map fun x => .int (x : Nat)
@[simp] theorem nL_nil : nL [] = [] := rfl
@[simp] theorem nL_cons {x : Nat} {xs : List Nat} : nL (x :: xs) = .int x :: nL xs := rfl
@[simp] theorem nL_len {xs : List Nat} : (nL xs).length = xs.length := List.length_map ..
theorem nL_app {xs ys : List Nat} : nL (xs ++ ys) = nL xs ++ nL ys := List.map_append
theorem nL_take {xs : List Nat} {k : Nat} : nL (xs.take k) = (nL xs).take k := List.map_take ..
theorem nL_drop {xs : List Nat} {k : Nat} : nL (xs.drop k) = (nL xs).drop k := List.map_drop ..
theorem nL_rep {x k : Nat} : nL (List.replicate k x) = List.replicate k (.int x) := List.map_replicate
theorem nL_set {xs : List Nat} {k x : Nat} : nL (xs.set k x) = (nL xs).set k (.int x) := List.map_set ..
theorem nL_get {xs : List Nat} {p : Nat} (hp : p < xs.length) : (nL xs)[p]? = some (.int (xs.getD p 0 : Nat)) := by
  unfold nL
  rw [List.getElem?_map, List.getElem?_eq_getElem hp]
  simp [List.getD, List.getElem?_eq_getElem hp]
theorem atI_nat {xs : List D} {p : Nat} {d : D} (e : xs[p]? = some d) : atI xs (p : Int) = some d := by
  have hp : p < xs.length := (List.getElem?_eq_some_iff.mp e).1
  unfold atI ixN
  rw [if_pos (Int.natCast_nonneg p), if_pos (by omega)]
  exact e
theorem ixt {xs : List D} {p : Nat} {d : D} (e : xs[p]? = some d) : ixD h (.tup xs) (.int p) = some d := atI_nat e
theorem ixv {xs : List D} {p : Nat} {d : D} (e : xs[p]? = some d) : ixD h (.lst xs) (.int p) = some d := atI_nat e
theorem ixp {xs : List D} {p : Nat} {d : D} (hf : h[f]? = some (.lst xs)) (e : xs[p]? = some d) : ixD h (.ptr f) (.int p) = some d := by
  simp only [ixD, hf]
  exact atI_nat e
theorem ixtn {xs : List Nat} {p : Nat} (hp : p < xs.length) : ixD h (.tup (nL xs)) (.int p) = some (.int (xs.getD p 0 : Nat)) := ixt (nL_get hp)
theorem ixpn {xs : List Nat} {p : Nat} (hf : h[f]? = some (.lst (nL xs))) (hp : p < xs.length) : ixD h (.ptr f) (.int p) = some (.int (xs.getD p 0 : Nat)) := ixp hf (nL_get hp)
theorem ixN_nat {n p : Nat} (hp : p < n) : ixN n (p : Int) = some p := by
  unfold ixN
  rw [if_pos (Int.natCast_nonneg p), if_pos (by omega)]
  rfl
theorem setp {xs : List D} {p : Nat} {v : D} (hf : h[f]? = some (.lst xs)) (hp : p < xs.length) : setIxD h (.ptr f) (.int p) v = some (h.set f (.lst (xs.set p v))) := by
  simp only [setIxD, hf, ixN_nat hp]
theorem setpn {xs : List Nat} {p x : Nat} (hf : h[f]? = some (.lst (nL xs))) (hp : p < xs.length) : setIxD h (.ptr f) (.int p) (.int x) = some (h.set f (.lst (nL (xs.set p x)))) := by
  rw [setp hf (by rw [nL_len]; exact hp), nL_set]
theorem len_t {xs : List D} : biD .len h (.tup xs) = some (.int xs.length) := rfl
theorem len_l {xs : List D} : biD .len h (.lst xs) = some (.int xs.length) := rfl
theorem len_p {xs : List D} (hf : h[f]? = some (.lst xs)) : biD .len h (.ptr f) = some (.int xs.length) := by
  show lenD h (.ptr f) = _
  simp only [lenD, hf]
theorem isT {G : Wr} {xs : List D} : isAny G h (.tup xs) [.inl "tuple"] = some true := rfl
theorem isB {G : Wr} {i : Int} : isAny G h (.int i) [.inl "bool"] = some false := rfl
theorem tru_p {xs : List D} (hf : h[f]? = some (.lst xs)) : truth h (.ptr f) = some (!xs.isEmpty) := by
  simp only [truth, hf]
theorem tru_i {i : Int} : truth h (.int i) = some (i != 0) := rfl
theorem app_ok {xs : List D} (hf : h[f]? = some (.lst xs)) : meOk .append h (.ptr f) = true := by
  unfold meOk
  simp only [hf]
  rfl
theorem app_d {xs : List D} {y : D} (hf : h[f]? = some (.lst xs)) (hl : xs.length < 16777216) : meD .append h (.ptr f) [y] = .ok .non (h.set f (.lst (xs ++ [y]))) := by
  have e : meC .append (.lst xs) [y] = some (.non, .lst (xs ++ [y])) := by
    show (if xs.length < LINE then some (D.non, Cell.lst (xs ++ [y])) else none) = _
    rw [if_pos (show xs.length < LINE from hl)]
  unfold meD
  simp only [hf, e]
theorem tup_p {xs : List D} (hf : h[f]? = some (.lst xs)) : biD .tuple h (.ptr f) = some (.tup xs) := by
  simp [biD, tupD, un, hf]
@[simp] theorem tup_lst {xs : List D} : biD .tuple h (.lst xs) = some (.tup xs) := rfl
@[simp] theorem tup_tup {xs : List D} : biD .tuple h (.tup xs) = some (.tup xs) := rfl
@[simp] theorem list_lst {xs : List D} : biD .list h (.lst xs) = some (.lst xs) := rfl
@[simp] theorem list_tup {xs : List D} : biD .list h (.tup xs) = some (.lst xs) := rfl
/-! ### operators -/
theorem add_lst {xs ys : List D} (z : xs.length + ys.length ≤ 16777216) : binA h .add (.lst xs) (.lst ys) = .ok (.lst (xs ++ ys)) h := by
  have z : xs.length + ys.length ≤ LINE := z
  unfold binA binD binL
  simp [isKs, un, z]
theorem add_pp {xs ys : List D} (hp : h[p]? = some (.lst xs)) (hq : h[q]? = some (.lst ys)) (z : xs.length + ys.length ≤ 16777216) : binA h .add (.ptr p) (.ptr q) = .ok (.lst (xs ++ ys)) h := by
  have z : xs.length + ys.length ≤ LINE := z
  unfold binA binD binL
  simp [isKs, un, hp, hq, z]
theorem add_lp {xs ys : List D} (hq : h[q]? = some (.lst ys)) (z : xs.length + ys.length ≤ 16777216) : binA h .add (.lst xs) (.ptr q) = .ok (.lst (xs ++ ys)) h := by
  have z : xs.length + ys.length ≤ LINE := z
  unfold binA binD binL
  simp [isKs, un, hq, z]
theorem add_tt {xs ys : List D} (z : xs.length + ys.length ≤ 16777216) : binA h .add (.tup xs) (.tup ys) = .ok (.tup (xs ++ ys)) h := by
  have z : xs.length + ys.length ≤ LINE := z
  unfold binA binD
  simp [z]
theorem mul_ti {xs : List D} {k : Nat} (h1 : 1 ≤ k) (h2 : k ≤ 1000) (h3 : xs.length ≤ 1000) : binA h .mul (.tup xs) (.int k) = .ok (.tup (List.replicate k xs).flatten) h := by
  unfold binA binD
  have e : (1 ≤ (k : Int) ∧ (k : Int) ≤ 1000 ∧ xs.length ≤ 1000) := ⟨by omega, by omega, h3⟩
  simp only [e, and_self, if_true]
  rfl
theorem flat1 {d : D} {k : Nat} : (List.replicate k [d]).flatten = List.replicate k d := by
  induction k with
  | zero => rfl
  | succ k ih => rw [List.replicate_succ, List.replicate_succ, List.flatten_cons, ih]; rfl
theorem mul_t1 {d : D} {k : Nat} (h1 : 1 ≤ k) (h2 : k ≤ 1000) : binA h .mul (.tup [d]) (.int k) = .ok (.tup (List.replicate k d)) h := by
  rw [mul_ti h1 h2 (by simp), flat1]
theorem mul_nn {a b : Nat} (hb : b < 1000000) : binA h .mul (.int a) (.int b) = .ok (.int ((a * b : Nat) : Int)) h := by
  rw [mul_ic (decide_eq_true (by omega))]
  simp
theorem mul_nn' {a b : Nat} (ha : a < 1000000) : binA h .mul (.int a) (.int b) = .ok (.int ((a * b : Nat) : Int)) h := by
  unfold binA binD
  have : big64 (a : Int) = true := decide_eq_true (by omega)
  simp [this]
theorem slt {xs : List D} {lo hi : Option Int} : slD h (.tup xs) lo hi = some (.tup (cutD xs lo hi)) := rfl
theorem cut_to {xs : List D} {k : Nat} (hk : k ≤ xs.length) : cutD xs none (some (k : Int)) = xs.take k := by
  unfold cutD
  rw [HT.sIx_none, HT.sIx_nat, List.drop_zero, Nat.sub_zero, Nat.min_eq_left hk]
theorem cut_from {xs : List D} {k : Nat} (hk : k ≤ xs.length) : cutD xs (some (k : Int)) none = xs.drop k := by
  unfold cutD
  rw [HT.sIx_none, HT.sIx_nat, Nat.min_eq_left hk, List.take_of_length_le (by rw [List.length_drop]; omega)]
theorem cut_ft {xs : List D} {j k : Nat} (hj : j ≤ xs.length) (hk : k ≤ xs.length) : cutD xs (some (j : Int)) (some (k : Int)) = (xs.drop j).take (k - j) := by
  unfold cutD
  rw [HT.sIx_nat, HT.sIx_nat, Nat.min_eq_left hj, Nat.min_eq_left hk]
/-! ### ranges -/
theorem rng_ok {n : Nat} (h : n ≤ 1000000) : rngOk (n : Int) = true := by
  unfold rngOk
  exact decide_eq_true (by omega)
theorem rngD_nat (a b : Nat) : rngD (a : Int) (b : Int) = nL (List.range' a (b - a)) := by
  unfold rngD nL
  have : ((b : Int) - (a : Int)).toNat = b - a := by omega
  rw [this, List.range'_eq_map_range, List.map_map]
  apply List.map_congr_left
  intro i _
  simp
theorem rngD_n0 (n : Nat) : rngD 0 (n : Int) = nL (List.range n) := by
  have := rngD_nat 0 n
  rw [Nat.sub_zero, ← List.range_eq_range'] at this
  exact this
theorem src_rng {n : Nat} (h : n ≤ 1000000) : srcD .rng [.int n] = some (nL (List.range n)) := by
  show (if rngOk (n : Int) = true then some (rngD 0 n) else none) = _
  rw [if_pos (rng_ok h), rngD_n0]
theorem rngA1 {n : Nat} (h : n ≤ 1000000) : rngA [.int n] = some (nL (List.range n)) := src_rng h
theorem rngA2 {a b : Nat} (ha : a ≤ 1000000) (hb : b ≤ 1000000) : rngA [.int a, .int b] = some (nL (List.range' a (b - a))) := by
  show (if rngOk (a : Int) && rngOk (b : Int) then some (rngD a b) else none) = _
  rw [rng_ok ha, rng_ok hb, rngD_nat]; rfl
/-! ### comparisons -/
theorem eq_str {x y : Str} (e : (PyData.str x).canLay0 = true) (f : (PyData.str y).canLay0 = true) : cmpD h .eq (.str x) (.str y) = some (x == y) := by
  have s1 : SeqAt.shaped (.str x) = true := by unfold SeqAt.shaped; rw [e]; rfl
  have s2 : SeqAt.shaped (.str y) = true := by unfold SeqAt.shaped; rw [f]; rfl
  show eqD h (.str x) (.str y) = _
  rw [eqD_py (y := .str x) (z := .str y) rfl rfl s1 s2]; rfl
theorem ne_of_eq {x y : D} {b : Bool} (e : cmpD h .eq x y = some b) : cmpD h .ne x y = some (!b) := by
  show (eqD h x y).map _ = _
  rw [show eqD h x y = some b from e]; rfl
theorem ne_same {d : D} {y : PyData} (e : py d = some y) (s : SeqAt.shaped y = true) : cmpD h .ne d d = some false := ne_of_eq (b := true) (eqD_same e s)
theorem ii_nat {a b : Nat} : ((a : Int) == (b : Int)) = (a == b) := by rw [Bool.eq_iff_iff, beq_iff_eq, beq_iff_eq]; omega
theorem comp_true {fn : D → Hs → Res (Option D)} {xs : List D} (hx : ∀ x ∈ xs, fn x h = .ok (some (.bl true)) h) : compLoop fn xs h = .ok (List.replicate xs.length (.bl true)) h := by
  rw [comp_map (g := fun _ => .bl true) hx, List.map_const']
theorem all_true : ∀ n : Nat, boolsOf (List.replicate n (D.bl true)) = some (List.replicate n true)
  | 0 => rfl
  | n + 1 => by rw [List.replicate_succ, List.replicate_succ]; simp [boolsOf, all_true n]
theorem all_bi {n : Nat} : biD .all h (.lst (List.replicate n (D.bl true))) = some (.bl true) := by
  show (boolsOf (List.replicate n (D.bl true))).map _ = _
  rw [all_true]
  simp
theorem zip_nL : ∀ (xs ys : List Nat), zipD (nL xs) (nL ys) = (xs.zip ys).map fun w => .tup [.int w.1, .int w.2]
  | [], ys => by cases ys <;> rfl
  | _ :: _, [] => rfl
  | x :: xs, y :: ys => by
    simp only [nL_cons, zipD, List.zip_cons_cons, List.map_cons, zip_nL xs ys]
theorem enum_nL : ∀ (xs : List Nat) (i : Nat), enumD i (nL xs) = (xs.zipIdx i).map fun w => .tup [.int w.2, .int w.1]
  | [], _ => rfl
  | x :: xs, i => by
    simp only [nL_cons, enumD, List.zipIdx_cons, List.map_cons, enum_nL xs (i + 1)]
theorem asg2 {i j : Nat} {a b : D} {env : Nv} : asg (.t [(.n i), (.n j)]) (.tup [a, b]) env = some ((env.set i (some a)).set j (some b)) := rfl
/-- a filter's outcome over numbers -/
theorem filt {fn : D → Hs → Res (Option D)} {xs : List Nat} {b : Nat → Bool} (hx : ∀ x ∈ xs, fn (.int (x : Nat)) h = .ok (if b x then some (.int (x : Nat)) else none) h) : compLoop fn (nL xs) h = .ok (nL (xs.filter b)) h := by
  induction xs with
  | nil => rfl
  | cons x xs ih =>
    have h1 := hx x List.mem_cons_self
    have h2 := ih fun y hy => hx y (List.mem_cons_of_mem _ hy)
    rw [nL_cons]
    unfold compLoop
    rw [h1, Res.bind_ok, h2, Res.bind_ok, List.filter_cons]
    cases b x <;> rfl
end
/-! ### small data: shown in a few signs -/
mutual
def gd (ws : List Str) : PyData → Bool
  | .none => true
  | .bool _ => true
  | .int i => decide (i.natAbs < 10 ^ 50)
  | .str x => decide (x ∈ ws)
  | .list xs => gds ws xs
  | .tuple xs => gds ws xs
  | .dict _ => false
def gds (ws : List Str) : List PyData → Bool
  | [] => true
  | x :: xs => gd ws x && gds ws xs
end
def WordsOk (ws : List Str) : Bool := ws.all fun x => PyData.strOk x && (PyData.strOk (PyData.str x).shown && decide ((PyData.str x).shown.length ≤ 60))
theorem ok_app {a b : Str} (ha : PyData.strOk a = true) (hb : PyData.strOk b = true) : PyData.strOk (a ++ b) = true := by
  unfold PyData.strOk at *
  show ((a.cps ++ b.cps).all _) = true
  rw [Array.all_append, ha, hb]; rfl
theorem ok_from : ∀ (ts : List Str) (k : Nat) (acc : Str), PyData.strOk acc = true → (∀ t ∈ ts, PyData.strOk t = true) → PyData.strOk (textFrom k acc ts) = true
  | [], _, _, h, _ => h
  | t :: ts, k, acc, h, hs => by
    unfold textFrom
    refine ok_from ts _ _ (ok_app (ok_app h ?_) (hs t List.mem_cons_self)) fun u hu => hs u (List.mem_cons_of_mem _ hu)
    split <;> decide +kernel
theorem ok_list {ts : List Str} (hs : ∀ t ∈ ts, PyData.strOk t = true) : PyData.strOk (listText ts) = true := by
  unfold listText
  exact ok_app (ok_from ts 0 _ (by decide +kernel) hs) (by decide +kernel)
theorem ok_join {sep : Str} (h : PyData.strOk sep = true) : ∀ {ts : List Str}, (∀ t ∈ ts, PyData.strOk t = true) → PyData.strOk (Str.join sep ts) = true
  | [], _ => by show PyData.strOk Str.empty = true; decide +kernel
  | [x], hs => hs x List.mem_cons_self
  | x :: y :: r, hs => by
    unfold Str.join
    exact ok_app (ok_app (hs x List.mem_cons_self) h) (ok_join h fun u hu => hs u (List.mem_cons_of_mem _ hu))
theorem ok_tup {ts : List Str} (hs : ∀ t ∈ ts, PyData.strOk t = true) : PyData.strOk (tupleText ts) = true := by
  unfold tupleText
  refine ok_app (ok_app (by decide +kernel) (ok_join (by decide +kernel) hs)) ?_
  split <;> decide +kernel
theorem ok_ofString (s : String) : PyData.strOk (Str.ofString s) = true := by
  rw [Str.ofString_eq_toList]
  unfold PyData.strOk
  rw [Array.all_eq_true_iff_forall_mem]
  intro x hx
  have hx : x ∈ s.toList.map Char.toNat := by simpa using hx
  obtain ⟨c, _, rfl⟩ := List.mem_map.mp hx
  have z : c.val.toNat < 0xD800 ∨ (0xDFFF < c.val.toNat ∧ c.val.toNat < 0x110000) := c.valid
  have z2 : c.toNat = c.val.toNat := rfl
  exact decide_eq_true (by omega)
mutual
/-- how large -/
def sz : PyData → Nat
  | .list xs => szs xs + 1
  | .tuple xs => szs xs + 1
  | _ => 1
def szs : List PyData → Nat
  | [] => 0
  | x :: xs => sz x + szs xs
end
structure Shows (d : PyData) : Prop where
  sh : d.showable = true
  nd : d.hasDict = false
  cl : d.canLay0 = true
  ok : PyData.strOk d.shown = true
  ln : d.shown.length + 3 ≤ 63 * sz d
  dp : d.depth ≤ sz d
structure ShowsL (ds : List PyData) : Prop where
  sh : PyData.showableAll ds = true
  nd : PyData.hasDictAll ds = false
  cl : PyData.canLayAll0 ds = true
  ok : ∀ t ∈ PyData.shownAll ds, PyData.strOk t = true
  ln : ((PyData.shownAll ds).map (·.length)).sum + 3 * (PyData.shownAll ds).length ≤ 63 * szs ds
  dp : PyData.depthAll ds ≤ szs ds
mutual
theorem gd_ok {ws : List Str} (W : WordsOk ws = true) : ∀ d : PyData, gd ws d = true → Shows d
  | .none, _ => ⟨rfl, rfl, rfl, by decide +kernel, by decide +kernel, by decide⟩
  | .bool b, _ => ⟨rfl, rfl, rfl, by cases b <;> decide +kernel, by cases b <;> decide +kernel, by simp [PyData.depth]⟩
  | .int i, h => by
    have hi : i.natAbs < 10 ^ 50 := of_decide_eq_true h
    refine ⟨?_, rfl, rfl, ok_ofString _, ?_, by simp [PyData.depth]⟩
    · show decide (i.natAbs.log2 < 1920) = true
      refine decide_eq_true ?_
      by_cases h0 : i.natAbs = 0
      · rw [h0]; decide
      · rw [Nat.log2_lt h0]
        exact Nat.lt_trans hi (by decide)
    · have e := int_text_length_le10 (k := 50) (by decide) hi
      show (Str.ofString (toString i)).length + 3 ≤ 63 * 1
      rw [ofString_length]; omega
  | .str x, h => by
    have hm : x ∈ ws := of_decide_eq_true h
    have z := List.all_eq_true.mp W x hm
    simp only [Bool.and_eq_true, decide_eq_true_eq] at z
    exact ⟨rfl, rfl, z.1, z.2.1, by simp only [sz]; omega, by simp [PyData.depth]⟩
  | .list xs, h => by
    obtain ⟨h1, h2, h3, h4, h5, h6⟩ := gds_ok W xs h
    have z := listText_len_le (PyData.shownAll xs)
    refine ⟨h1, h2, h3, ok_list h4, ?_, ?_⟩
    · show (listText (PyData.shownAll xs)).length + 3 ≤ 63 * (szs xs + 1)
      omega
    · show PyData.depthAll xs + 1 ≤ szs xs + 1
      omega
  | .tuple xs, h => by
    obtain ⟨h1, h2, h3, h4, h5, h6⟩ := gds_ok W xs h
    have z := tupleText_len_le (PyData.shownAll xs)
    refine ⟨h1, h2, h3, ok_tup h4, ?_, ?_⟩
    · show (tupleText (PyData.shownAll xs)).length + 3 ≤ 63 * (szs xs + 1)
      omega
    · show PyData.depthAll xs + 1 ≤ szs xs + 1
      omega
  | .dict _, h => by cases h
theorem gds_ok {ws : List Str} (W : WordsOk ws = true) : ∀ ds : List PyData, gds ws ds = true → ShowsL ds
  | [], _ => ⟨rfl, rfl, rfl, fun t ht => by simp [PyData.shownAll] at ht, by simp [PyData.shownAll], by simp [PyData.depthAll]⟩
  | d :: ds, h => by
    simp only [gds, Bool.and_eq_true] at h
    obtain ⟨a1, a2, a3, a4, a5, a6⟩ := gd_ok W d h.1
    obtain ⟨b1, b2, b3, b4, b5, b6⟩ := gds_ok W ds h.2
    refine ⟨by simp [PyData.showableAll, a1, b1], by simp [PyData.hasDictAll, a2, b2], by simp [PyData.canLayAll0, a3, b3], fun t ht => ?_, ?_, ?_⟩
    · simp only [PyData.shownAll, List.mem_cons] at ht
      rcases ht with rfl | ht
      · exact a4
      · exact b4 t ht
    · simp only [PyData.shownAll, List.map_cons, List.sum_cons, List.length_cons, szs]
      omega
    · simp only [PyData.depthAll, szs]
      omega
end
theorem shp {ws : List Str} (W : WordsOk ws = true) {y : PyData} (g : gd ws y = true) (z : y.depth ≤ 60) : SeqAt.shaped y = true := by
  have s := gd_ok W y g
  unfold SeqAt.shaped
  rw [s.cl, decide_eq_true (by omega)]; rfl
theorem shpz {ws : List Str} (W : WordsOk ws = true) {y : PyData} (g : gd ws y = true) (z : sz y ≤ 60) : SeqAt.shaped y = true := shp W g (by have := (gd_ok W y g).dp; omega)
theorem rpr {ws : List Str} (W : WordsOk ws = true) {h : Hs} {d : D} {y : PyData} (e : py d = some y) (p : isPtr d = true) (g : gd ws y = true) (z : sz y ≤ 100000) (z2 : y.depth ≤ 60) : reprD h d = some (.str y.shown) := by
  have s := gd_ok W y g
  have hl : y.shown.length ≤ LINE := by
    have := s.ln
    show _ ≤ 16777216
    omega
  unfold reprD
  rw [deep_py e]
  simp [p, s.sh, s.nd, hl, z2]
/-- the text of data is the text of the same data -/
theorem rpr_same {ws : List Str} (W : WordsOk ws = true) {h : Hs} {d : D} {y : PyData} (e : py d = some y) (p : isPtr d = true) (g : gd ws y = true) (z : sz y ≤ 60) : ∃ s, biD .repr h d = some (.str s) ∧ cmpD h .ne (.str s) (.str s) = some false := by
  have t := gd_ok W y g
  refine ⟨_, rpr W e p g (by omega) (by have := t.dp; omega), ?_⟩
  have s : (PyData.str y.shown).canLay0 = true := t.ok
  rw [ne_of_eq (eq_str (h := h) s s)]
  simp
theorem py_tn (l : List Nat) : py (.tup (nL l)) = some (.tuple (l.map fun x => .int (x : Nat))) := py_tup (pys_map (fun _ => rfl) l)
theorem py_ln (l : List Nat) : py (.lst (nL l)) = some (.list (l.map fun x => .int (x : Nat))) := py_lst (pys_map (fun _ => rfl) l)
theorem pys_cons {d : D} {y : PyData} {ds : List D} {ys : List PyData} (e : py d = some y) (f : pys ds = some ys) : pys (d :: ds) = some (y :: ys) := by
  show (match py d with
    | some d => match pys ds with
      | some ds => some (d :: ds)
      | none => none
    | none => none) = _
  rw [e, f]
theorem gds_map {α : Type} {ws : List Str} {f : α → PyData} : ∀ {l : List α}, (∀ a ∈ l, gd ws (f a) = true) → gds ws (l.map f) = true
  | [], _ => rfl
  | a :: l, h => by
    rw [List.map_cons]
    unfold gds
    rw [h a List.mem_cons_self, gds_map fun b hb => h b (List.mem_cons_of_mem _ hb)]; rfl
theorem szs_map {α : Type} {f : α → PyData} {m : Nat} : ∀ {l : List α}, (∀ a ∈ l, sz (f a) ≤ m) → szs (l.map f) ≤ m * l.length
  | [], _ => by simp [szs]
  | a :: l, h => by
    rw [List.map_cons]
    unfold szs
    have h1 := h a List.mem_cons_self
    have h2 := szs_map (f := f) (m := m) fun b hb => h b (List.mem_cons_of_mem _ hb)
    rw [List.length_cons, Nat.mul_succ]
    omega
theorem szn : ∀ l : List Nat, szs (l.map fun x => PyData.int (x : Nat)) = l.length
  | [] => rfl
  | x :: l => by
    rw [List.map_cons]
    unfold szs
    rw [szn l]
    simp [sz]
    omega
theorem gdn {ws : List Str} {l : List Nat} (hx : ∀ x ∈ l, x < 1000000) : gds ws (l.map fun x => PyData.int (x : Nat)) = true := gds_map fun x hm => by
  have := hx x hm
  exact decide_eq_true (Nat.lt_of_lt_of_le (by omega : ((x : Nat) : Int).natAbs < 1000000) (by decide))
theorem gdi {ws : List Str} {x : Nat} (hx : x < 1000000) : gd ws (.int (x : Nat)) = true := decide_eq_true (Nat.lt_of_lt_of_le (by omega : ((x : Nat) : Int).natAbs < 1000000) (by decide))
end PL
end SI
end
section
set_option Elab.async false
set_option linter.all false
set_option maxRecDepth 100000
set_option maxHeartbeats 1000000
/-! SIQ: dicts whose keys stand for numbers. -/
namespace SI
open PySem L2
namespace PL
section
variable {κ β : Type} [DecidableEq κ]
def kvs (e : Nat → κ) (v : β → D) (ps : List (Nat × β)) : List (κ × D) := ps.map fun w => (e w.1, v w.2)
structure DRel (look : Nat → Option β) (ps : List (Nat × β)) : Prop where
  nd : (ps.map (·.1)).Nodup
  mem : ∀ p x, (p, x) ∈ ps ↔ look p = some x
def updL (look : Nat → Option β) (p : Nat) (o : Option β) : Nat → Option β := fun q => if q = p then o else look q
variable {e : Nat → κ} {v : β → D} {ps : List (Nat × β)} {look : Nat → Option β} {p : Nat} {x : β}
theorem kv_find (he : ∀ p q, e p = e q → p = q) : ∀ ps : List (Nat × β), getK (kvs e v ps) (e p) = (ps.find? fun w => decide (w.1 = p)).map fun w => v w.2
  | [] => rfl
  | w :: ps => by
    have ih := kv_find he ps
    unfold getK kvs at *
    by_cases q : w.1 = p
    · simp [List.find?_cons, q]
    · have : ¬ e w.1 = e p := fun z => q (he _ _ z)
      simp only [List.map_cons, List.find?_cons, this, decide_false, q]
      exact ih
theorem DRel.get (r : DRel look ps) (he : ∀ p q, e p = e q → p = q) : getK (kvs e v ps) (e p) = (look p).map v := by
  rw [kv_find he]
  cases h : ps.find? fun w => decide (w.1 = p) with
  | none =>
    cases l : look p with
    | none => rfl
    | some x =>
      have m := (r.mem p x).mpr l
      have := List.find?_eq_none.mp h _ m
      simp at this
  | some w =>
    have m := List.mem_of_find?_eq_some h
    have q := List.find?_some h
    obtain ⟨a, b⟩ := w
    simp at q
    subst q
    rw [(r.mem _ _).mp m]
    rfl
theorem DRel.any (r : DRel look ps) (he : ∀ p q, e p = e q → p = q) : ((kvs e v ps).any fun w => decide (w.1 = e p)) = (look p).isSome := by
  rw [Bool.eq_iff_iff, List.any_eq_true]
  constructor
  · rintro ⟨w, hw, q⟩
    obtain ⟨⟨a, b⟩, hm, rfl⟩ := List.mem_map.mp hw
    have := he _ _ (of_decide_eq_true q)
    simp at this
    subst this
    rw [(r.mem _ _).mp hm]; rfl
  · intro h
    obtain ⟨x, hx⟩ := Option.isSome_iff_exists.mp h
    exact ⟨(e p, v x), List.mem_map.mpr ⟨(p, x), (r.mem _ _).mpr hx, rfl⟩, decide_eq_true rfl⟩
theorem DRel.put (r : DRel look ps) (he : ∀ p q, e p = e q → p = q) (x : β) : ∃ ps', putD (kvs e v ps) (e p) (v x) = kvs e v ps' ∧ DRel (updL look p (some x)) ps' := by
  unfold putD
  rw [r.any he]
  cases l : look p with
  | none =>
    refine ⟨ps ++ [(p, x)], by simp [kvs], ?_, fun q y => ?_⟩
    · rw [List.map_append, List.nodup_append]
      refine ⟨r.nd, by simp, fun a ha b hb => ?_⟩
      simp at hb
      subst hb
      obtain ⟨⟨c, d⟩, hm, rfl⟩ := List.mem_map.mp ha
      rintro rfl
      rw [(r.mem _ _).mp hm] at l
      cases l
    · rw [List.mem_append, r.mem]
      unfold updL
      by_cases qp : q = p
      · subst qp; simp [l, eq_comm]
      · simp [qp]
  | some x0 =>
    refine ⟨ps.map fun w => if w.1 = p then (w.1, x) else w, ?_, ?_, fun q y => ?_⟩
    · simp only [Option.isSome_some, if_true, kvs, List.map_map]
      apply List.map_congr_left
      intro w _
      simp only [Function.comp]
      by_cases q : w.1 = p
      · simp [q]
      · have : ¬ e w.1 = e p := fun z => q (he _ _ z)
        simp [q, this]
    · rw [List.map_map]
      have : ((fun w : Nat × β => w.1) ∘ fun w => if w.1 = p then (w.1, x) else w) = fun w => w.1 := by
        funext w; simp only [Function.comp]; split <;> rfl
      rw [this]; exact r.nd
    · unfold updL
      rw [List.mem_map]
      constructor
      · rintro ⟨⟨a, b⟩, hm, q2⟩
        by_cases ap : a = p
        · simp [ap] at q2; obtain ⟨rfl, rfl⟩ := q2; simp
        · simp [ap] at q2; obtain ⟨rfl, rfl⟩ := q2; simp [ap, (r.mem _ _).mp hm]
      · intro q2
        by_cases ap : q = p
        · subst ap; simp at q2; subst q2; exact ⟨(q, x0), (r.mem _ _).mpr l, by simp⟩
        · rw [if_neg ap] at q2; exact ⟨(q, y), (r.mem _ _).mpr q2, by simp [ap]⟩
theorem DRel.del (r : DRel look ps) (he : ∀ p q, e p = e q → p = q) : ∃ ps', delD (kvs e v ps) (e p) = kvs e v ps' ∧ DRel (updL look p none) ps' := by
  refine ⟨ps.filter fun w => decide (w.1 ≠ p), ?_, ?_, fun q y => ?_⟩
  · unfold delD kvs
    rw [List.filter_map]
    congr 1
    apply List.filter_congr
    intro w _
    simp only [Function.comp]
    by_cases q : w.1 = p
    · simp [q]
    · have : ¬ e w.1 = e p := fun z => q (he _ _ z)
      simp [q, this]
  · exact r.nd.sublist (List.Sublist.map _ List.filter_sublist)
  · unfold updL
    rw [List.mem_filter, r.mem]
    by_cases ap : q = p
    · simp [ap]
    · simp [ap]
theorem DRel.nil : DRel (fun _ => (none : Option β)) [] := ⟨by simp, by simp⟩
theorem DRel.congr {l2 : Nat → Option β} (r : DRel look ps) (h : ∀ p, look p = l2 p) : DRel l2 ps := ⟨r.nd, fun p x => by rw [r.mem, h]⟩
/-- the keys, counted -/
theorem DRel.count (r : DRel look ps) {l : List Nat} {b : Nat → Bool} (nd : l.Nodup) (hl : ∀ p, p ∈ l ↔ (∃ x, look p = some x) ∧ b p = true) : (ps.filter fun w => b w.1).length = l.length := by
  have n2 : ((ps.filter fun w => b w.1).map (·.1)).Nodup := r.nd.sublist (List.Sublist.map _ List.filter_sublist)
  have pm := (List.perm_ext_iff_of_nodup n2 nd).mpr fun p => by
    rw [hl, List.mem_map]
    constructor
    · rintro ⟨⟨a, c⟩, hm, rfl⟩
      rw [List.mem_filter, r.mem] at hm
      exact ⟨⟨c, hm.1⟩, hm.2⟩
    · rintro ⟨⟨x, hx⟩, hb⟩
      exact ⟨(p, x), by rw [List.mem_filter, r.mem]; exact ⟨hx, hb⟩, rfl⟩
  have := pm.length_eq
  rwa [List.length_map] at this
/-- a comprehension that keeps some -/
theorem filtG {α : Type} {fn : D → Hs → Res (Option D)} {f : α → D} {g : α → D} {b : α → Bool} {h : Hs} {xs : List α} (hx : ∀ x ∈ xs, fn (f x) h = .ok (if b x then some (g x) else none) h) : compLoop fn (xs.map f) h = .ok ((xs.filter b).map g) h := by
  induction xs with
  | nil => rfl
  | cons x xs ih =>
    have h1 := hx x List.mem_cons_self
    have h2 := ih fun y hy => hx y (List.mem_cons_of_mem _ hy)
    rw [List.map_cons]
    unfold compLoop
    rw [h1]
    simp only [Res.bind_ok, h2, List.filter_cons]
    cases b x <;> simp
end
/-! ### rows of numbers -/
theorem dep_map {α : Type} {f : α → PyData} {m : Nat} : ∀ {l : List α}, (∀ a ∈ l, (f a).depth ≤ m) → PyData.depthAll (l.map f) ≤ m
  | [], _ => by simp [PyData.depthAll]
  | a :: l, h => by
    have h1 := h a List.mem_cons_self
    have h2 := dep_map (f := f) (m := m) fun b hb => h b (List.mem_cons_of_mem a hb)
    simp only [List.map_cons, PyData.depthAll]
    exact Nat.max_le.mpr ⟨h1, h2⟩
def pyN (r : List Nat) : List PyData := r.map fun x => .int (x : Nat)
def pyR (l : List (List Nat)) : List PyData := l.map fun r => .tuple (pyN r)
theorem dep_nats (r : List Nat) : PyData.depthAll (pyN r) ≤ 1 := dep_map fun x _ => by simp [PyData.depth]
theorem pys_rows (l : List (List Nat)) : pys (l.map fun r => .tup (nL r)) = some (pyR l) := pys_map (f := fun r => D.tup (nL r)) (g := fun r => .tuple (pyN r)) (fun r => py_tn r) l
theorem gd_rows {ws : List Str} {l : List (List Nat)} (hx : ∀ r ∈ l, ∀ x ∈ r, x < 1000000) : gds ws (pyR l) = true := gds_map fun r hr => by
  show gds ws (pyN r) = true
  exact gdn (hx r hr)
theorem dep_rows (l : List (List Nat)) : PyData.depthAll (pyR l) ≤ 2 := dep_map fun r _ => by
  have := dep_nats r
  show PyData.depthAll _ + 1 ≤ 2
  omega
theorem shp_rows {l : List (List Nat)} (hx : ∀ r ∈ l, ∀ x ∈ r, x < 1000000) : SeqAt.shaped (.tuple (pyR l)) = true := shp (ws := []) rfl (gd_rows hx) (by
  have := dep_rows l
  show PyData.depthAll _ + 1 ≤ 60
  omega)
theorem shp_nats {l : List Nat} (hx : ∀ x ∈ l, x < 1000000) : SeqAt.shaped (.list (pyN l)) = true := shp (ws := []) rfl (gdn hx) (by
  have := dep_nats l
  show PyData.depthAll _ + 1 ≤ 60
  omega)
theorem ne_rows {h : Hs} {l : List (List Nat)} (hx : ∀ r ∈ l, ∀ x ∈ r, x < 1000000) : cmpD h .ne (.tup (l.map fun r => .tup (nL r))) (.tup (l.map fun r => .tup (nL r))) = some false := ne_same (py_tup (pys_rows l)) (shp_rows hx)
theorem ne_nats {h : Hs} {l : List Nat} (hx : ∀ x ∈ l, x < 1000000) : cmpD h .ne (.lst (nL l)) (.lst (nL l)) = some false := ne_same (py_ln l) (shp_nats hx)
end PL
end SI
end
section
set_option Elab.async false
set_option linter.all false
set_option maxRecDepth 100000
set_option maxHeartbeats 4000000
namespace SI.K00
open PySem PySem.Spec PyProof.Rows L2
abbrev prg : Program := PySem.Challenge.pw_silenthouses_k00_errors
def top (i : Nat) : Stmt := prg.main.body.getD i (.Pass ⟨0, 0, 0, 0⟩)
def sub (i j : Nat) : Stmt := match top i with
  | .ClassDef _ _ _ b _ _ _ _ _ _ _ => b.getD j (.Pass ⟨0, 0, 0, 0⟩)
  | _ => .Pass ⟨0, 0, 0, 0⟩
def tab : Tab := ⟨["_law_pen", "_law_draw", "_law_pick", "_law_one", "_law_single", "_law_which", "law"], ["HouseError", "BadName", "NoName", "TakenName", "BadLadder", "BadSizes", "BadRow", "BadBox", "BadNet", "BadHouse", "BadProgram", "BadCode", "BadPaper", "BadText", "BadNumber", "NotKept", "NothingToUndo", "NothingToRedo"], [], ["isinstance", "len", "tuple", "list", "int", "range", "repr", "ValueError"], ["line", "column", "what", "number", "name", "ladder", "sizes", "row", "box", "net", "house", "program", "code", "paper", "promise", "witness"], []⟩
abbrev s_l_pen : Stmt := top 20
def d_l_pen : He.DefD := ⟨("_law_pen", none), "_law_pen", "_law_pen", dArgs s_l_pen, dBody s_l_pen, dScope s_l_pen, [], []⟩
def c_l_pen : Ctx := ⟨["script", "fold", "cell"], dScope s_l_pen, dScope s_l_pen, true, tab, [], [], [], [], []⟩
def i_l_pen : List IS := [.set (.n 1) (.c (.int 0)), .loop (.n 2) .seq [(.v 0)] [.set (.n 1) (.bin .mod (.bi .int (.bin .add (.bin .mul (.v 1) (.c (.int 157))) (.v 2))) (.c (.int 1000000033)))], .ret (.dicd ["cells", "at", "digits", "count", "fold"] [(.bi .list (.v 0)), (.c (.int 0)), (.c (.int 0)), (.c (.int 0)), (.v 1)])]
def e_l_pen : FnE := ⟨["script"], ["script", "fold", "cell"], 60, i_l_pen⟩
def x_l_pen : DX := ⟨d_l_pen, e_l_pen, c_l_pen, 60⟩
theorem o_l_pen : DXOk tab x_l_pen := ⟨rfl, rfl, rfl, rfl, by kernel_rfl, scopeB_ok (by kernel_rfl), rfl, rfl, fun _ _ _ _ _ _ us hl => match us, hl with | [_], _ => rfl⟩
abbrev s_l_draw : Stmt := top 21
def d_l_draw : He.DefD := ⟨("_law_draw", none), "_law_draw", "_law_draw", dArgs s_l_draw, dBody s_l_draw, dScope s_l_draw, [], []⟩
def c_l_draw : Ctx := ⟨["pen", "many", "cell", "digit", "blend"], dScope s_l_draw, dScope s_l_draw, true, tab, [], [], [], [], []⟩
def i_l_draw : List IS := [.setix (.v 0) (.c (.str "count")) (.bin .add (.ix (.v 0) (.c (.str "count"))) (.c (.int 1))), .ife (.and (.cmp .eq (.ix (.v 0) (.c (.str "digits"))) (.c (.int 0))) (.cmp .lt (.ix (.v 0) (.c (.str "at"))) (.bi .len (.ix (.v 0) (.c (.str "cells")))))) [.set (.n 2) (.ix (.ix (.v 0) (.c (.str "cells"))) (.ix (.v 0) (.c (.str "at")))), .setix (.v 0) (.c (.str "at")) (.bin .add (.ix (.v 0) (.c (.str "at"))) (.c (.int 1))), .ife (.cmp .ge (.v 2) (.bin .pow (.c (.int 10)) (.c (.int 18)))) [.setix (.v 0) (.c (.str "digits")) (.bin .sub (.v 2) (.bin .pow (.c (.int 10)) (.c (.int 18))))] [.setix (.v 0) (.c (.str "fold")) (.bin .mod (.bi .int (.bin .add (.bin .mul (.ix (.v 0) (.c (.str "fold"))) (.c (.int 73651))) (.v 2))) (.c (.int 2147483543)))]] [], .ife (.cmp .gt (.ix (.v 0) (.c (.str "digits"))) (.c (.int 0))) [.set (.n 3) (.bin .mod (.bi .int (.ix (.v 0) (.c (.str "digits")))) (.v 1)), .setix (.v 0) (.c (.str "digits")) (.bin .fdiv (.ix (.v 0) (.c (.str "digits"))) (.v 1)), .ret (.v 3)] [], .set (.n 4) (.bin .add (.bin .add (.ix (.v 0) (.c (.str "fold"))) (.bin .mul (.ix (.v 0) (.c (.str "count"))) (.c (.int 9697)))) (.c (.int 157))), .ret (.bin .mod (.bin .fdiv (.bi .int (.bin .mod (.bin .pow (.v 4) (.c (.int 23))) (.c (.int 2305843009213693951)))) (.c (.int 128))) (.v 1))]
def e_l_draw : FnE := ⟨["pen", "many"], ["pen", "many", "cell", "digit", "blend"], 60, i_l_draw⟩
def x_l_draw : DX := ⟨d_l_draw, e_l_draw, c_l_draw, 60⟩
theorem o_l_draw : DXOk tab x_l_draw := ⟨rfl, rfl, rfl, rfl, by kernel_rfl, scopeB_ok (by kernel_rfl), rfl, rfl, fun _ _ _ _ _ _ us hl => match us, hl with | [_, _], _ => rfl⟩
abbrev s_l_pick : Stmt := top 22
def d_l_pick : He.DefD := ⟨("_law_pick", none), "_law_pick", "_law_pick", dArgs s_l_pick, dBody s_l_pick, dScope s_l_pick, [], []⟩
def c_l_pick : Ctx := ⟨["pen", "some"], dScope s_l_pick, dScope s_l_pick, true, tab, [], [], [], [], []⟩
def i_l_pick : List IS := [.ret (.ix (.v 1) (.call "_law_draw" [(.v 0), (.bi .len (.v 1))]))]
def e_l_pick : FnE := ⟨["pen", "some"], ["pen", "some"], 60, i_l_pick⟩
def x_l_pick : DX := ⟨d_l_pick, e_l_pick, c_l_pick, 60⟩
theorem o_l_pick : DXOk tab x_l_pick := ⟨rfl, rfl, rfl, rfl, by kernel_rfl, scopeB_ok (by kernel_rfl), rfl, rfl, fun _ _ _ _ _ _ us hl => match us, hl with | [_, _], _ => rfl⟩
abbrev s_l_one : Stmt := top 23
def d_l_one : He.DefD := ⟨("_law_one", none), "_law_one", "_law_one", dArgs s_l_one, dBody s_l_one, dScope s_l_one, [], []⟩
def c_l_one : Ctx := ⟨["kind", "a", "b", "e"], dScope s_l_one, dScope s_l_one, true, tab, [], [], [], [], []⟩
def i_l_one : List IS := [.ife (.cmp .lt (.v 0) (.c (.int 3))) [.set (.n 3) (.ix (.lst false [(.make "BadName" [(.v 1)]), (.make "NoName" [(.v 1)]), (.make "TakenName" [(.v 1)])]) (.v 0)), .ret (.tup [(.v 3), (.tup [(.fld (.v 3) "name")])])] [], .ife (.cmp .lt (.v 0) (.c (.int 12))) [.ret (.call "_law_single" [(.v 0), (.v 1)])] [], .ife (.cmp .eq (.v 0) (.c (.int 12))) [.set (.n 3) (.make "BadText" [(.v 1), (.v 2)]), .ret (.tup [(.v 3), (.tup [(.fld (.v 3) "line"), (.fld (.v 3) "column")])])] [], .ife (.cmp .eq (.v 0) (.c (.int 13))) [.set (.n 3) (.make "BadNumber" [(.v 1), (.v 2)]), .ret (.tup [(.v 3), (.tup [(.fld (.v 3) "what"), (.fld (.v 3) "number")])])] [], .ife (.cmp .eq (.v 0) (.c (.int 14))) [.set (.n 3) (.make "NotKept" [(.v 1), (.v 2)]), .ret (.tup [(.v 3), (.tup [(.fld (.v 3) "promise"), (.fld (.v 3) "witness")])])] [], .ret (.tup [(.ife (.cmp .eq (.v 0) (.c (.int 15))) (.make "NothingToUndo" []) (.make "NothingToRedo" [])), (.tup [])])]
def e_l_one : FnE := ⟨["kind", "a", "b"], ["kind", "a", "b", "e"], 60, i_l_one⟩
def x_l_one : DX := ⟨d_l_one, e_l_one, c_l_one, 60⟩
theorem o_l_one : DXOk tab x_l_one := ⟨rfl, rfl, rfl, rfl, by kernel_rfl, scopeB_ok (by kernel_rfl), rfl, rfl, fun _ _ _ _ _ _ us hl => match us, hl with | [_, _, _], _ => rfl⟩
abbrev s_l_single : Stmt := top 24
def d_l_single : He.DefD := ⟨("_law_single", none), "_law_single", "_law_single", dArgs s_l_single, dBody s_l_single, dScope s_l_single, [], []⟩
def c_l_single : Ctx := ⟨["kind", "a", "e"], dScope s_l_single, dScope s_l_single, true, tab, [], [], [], [], []⟩
def i_l_single : List IS := [.ife (.cmp .eq (.v 0) (.c (.int 3))) [.set (.n 2) (.make "BadLadder" [(.v 1)]), .ret (.tup [(.v 2), (.tup [(.fld (.v 2) "ladder")])])] [], .ife (.cmp .eq (.v 0) (.c (.int 4))) [.set (.n 2) (.make "BadSizes" [(.v 1)]), .ret (.tup [(.v 2), (.tup [(.fld (.v 2) "sizes")])])] [], .ife (.cmp .eq (.v 0) (.c (.int 5))) [.set (.n 2) (.make "BadRow" [(.v 1)]), .ret (.tup [(.v 2), (.tup [(.fld (.v 2) "row")])])] [], .ife (.cmp .eq (.v 0) (.c (.int 6))) [.set (.n 2) (.make "BadBox" [(.v 1)]), .ret (.tup [(.v 2), (.tup [(.fld (.v 2) "box")])])] [], .ife (.cmp .eq (.v 0) (.c (.int 7))) [.set (.n 2) (.make "BadNet" [(.v 1)]), .ret (.tup [(.v 2), (.tup [(.fld (.v 2) "net")])])] [], .ife (.cmp .eq (.v 0) (.c (.int 8))) [.set (.n 2) (.make "BadHouse" [(.v 1)]), .ret (.tup [(.v 2), (.tup [(.fld (.v 2) "house")])])] [], .ife (.cmp .eq (.v 0) (.c (.int 9))) [.set (.n 2) (.make "BadProgram" [(.v 1)]), .ret (.tup [(.v 2), (.tup [(.fld (.v 2) "program")])])] [], .ife (.cmp .eq (.v 0) (.c (.int 10))) [.set (.n 2) (.make "BadCode" [(.v 1)]), .ret (.tup [(.v 2), (.tup [(.fld (.v 2) "code")])])] [], .set (.n 2) (.make "BadPaper" [(.v 1)]), .ret (.tup [(.v 2), (.tup [(.fld (.v 2) "paper")])])]
def e_l_single : FnE := ⟨["kind", "a"], ["kind", "a", "e"], 60, i_l_single⟩
def x_l_single : DX := ⟨d_l_single, e_l_single, c_l_single, 60⟩
theorem o_l_single : DXOk tab x_l_single := ⟨rfl, rfl, rfl, rfl, by kernel_rfl, scopeB_ok (by kernel_rfl), rfl, rfl, fun _ _ _ _ _ _ us hl => match us, hl with | [_, _], _ => rfl⟩
abbrev s_l_which : Stmt := top 25
def d_l_which : He.DefD := ⟨("_law_which", none), "_law_which", "_law_which", dArgs s_l_which, dBody s_l_which, dScope s_l_which, [], []⟩
def c_l_which : Ctx := ⟨["e", "found"], dScope s_l_which, dScope s_l_which, true, tab, [], [], [], [], []⟩
def i_l_which : List IS := [.set (.n 1) (.lst false [(.isi (.v 0) [.inr "BadName"]), (.isi (.v 0) [.inr "NoName"]), (.isi (.v 0) [.inr "TakenName"]), (.isi (.v 0) [.inr "BadLadder"])]), .set (.n 1) (.bin .add (.v 1) (.lst false [(.isi (.v 0) [.inr "BadSizes"]), (.isi (.v 0) [.inr "BadRow"]), (.isi (.v 0) [.inr "BadBox"]), (.isi (.v 0) [.inr "BadNet"])])), .set (.n 1) (.bin .add (.v 1) (.lst false [(.isi (.v 0) [.inr "BadHouse"]), (.isi (.v 0) [.inr "BadProgram"]), (.isi (.v 0) [.inr "BadCode"])])), .set (.n 1) (.bin .add (.v 1) (.lst false [(.isi (.v 0) [.inr "BadPaper"])])), .set (.n 1) (.bin .add (.v 1) (.lst false [(.isi (.v 0) [.inr "BadText"]), (.isi (.v 0) [.inr "BadNumber"]), (.isi (.v 0) [.inr "NotKept"])])), .ret (.bin .add (.v 1) (.lst false [(.isi (.v 0) [.inr "NothingToUndo"]), (.isi (.v 0) [.inr "NothingToRedo"])]))]
def e_l_which : FnE := ⟨["e"], ["e", "found"], 60, i_l_which⟩
def x_l_which : DX := ⟨d_l_which, e_l_which, c_l_which, 60⟩
theorem o_l_which : DXOk tab x_l_which := ⟨rfl, rfl, rfl, rfl, by kernel_rfl, scopeB_ok (by kernel_rfl), rfl, rfl, fun _ _ _ _ _ _ us hl => match us, hl with | [_], _ => rfl⟩
abbrev s_law : Stmt := top 26
def d_law : He.DefD := ⟨("law", none), "law", "law", dArgs s_law, dBody s_law, dScope s_law, [], []⟩
def c_law : Ctx := ⟨["script", "pen", "menu", "kind", "a", "b", "dues", "many", "e", "fields", "k"], dScope s_law, dScope s_law, true, tab, ["menu"], [], [], [], []⟩
def i_law : List IS := [.set (.n 1) (.call "_law_pen" [(.v 0)]), .set (.n 2) (.lst true [(.c .non), (.c (.bl true)), (.c (.int 0)), (.bin .sub (.neg (.c (.int 1))) (.call "_law_draw" [(.v 1), (.c (.int 9))])), (.bin .add (.bin .pow (.c (.int 10)) (.c (.int 40))) (.call "_law_draw" [(.v 1), (.c (.int 99))])), (.c (.str "")), (.c (.str "log")), (.tup [(.c (.int 1)), (.c (.int 2))]), (.lst false [(.c (.int 3))]), (.tup [(.c (.str "b")), (.c (.str "c"))])]), .ex (.bm .append (.v 2) [(.tup [(.tup [(.c (.int 0)), (.c (.int 0))])])]), .loop (.n 3) .rng [(.c (.int 17))] [.set (.t [(.n 4), (.n 5)]) (.tup [(.call "_law_pick" [(.v 1), (.v 2)]), (.call "_law_pick" [(.v 1), (.v 2)])]), .set (.n 6) (.comp false (.bi .repr (.sl (.tup [(.v 4), (.v 5)]) none (some (.v 7)))) (.n 7) .rng [(.c (.int 3))] none [7]), .set (.t [(.n 8), (.n 9)]) (.call "_law_one" [(.v 3), (.v 4), (.v 5)]), .ife (.cmp .ne (.bi .repr (.v 9)) (.ix (.v 6) (.bi .len (.v 9)))) [.ret (.c (.bl false))] [], .ife (.or (.not (.val (.isi (.v 8) [.inr "HouseError"]))) (.not (.val (.isi (.v 8) [.inl "ValueError"])))) [.ret (.c (.bl false))] [], .ife (.cmp .ne (.call "_law_which" [(.v 8)]) (.comp false (.cmp .eq (.v 10) (.v 3)) (.n 10) .rng [(.c (.int 17))] none [10])) [.ret (.c (.bl false))] []], .ret (.c (.bl true))]
def e_law : FnE := ⟨["script"], ["script", "pen", "menu", "kind", "a", "b", "dues", "many", "e", "fields", "k"], 60, i_law⟩
def x_law : DX := ⟨d_law, e_law, c_law, 60⟩
theorem o_law : DXOk tab x_law := ⟨rfl, rfl, rfl, rfl, by kernel_rfl, scopeB_ok (by kernel_rfl), rfl, rfl, fun _ _ _ _ _ _ us hl => match us, hl with | [_], _ => rfl⟩
abbrev s_BadText_init : Stmt := sub 2 0
def d_BadText_init : He.DefD := ⟨("BadText", some "__init__"), "__init__", "BadText.__init__", dArgs s_BadText_init, dBody s_BadText_init, dScope s_BadText_init, [], []⟩
def x_BadText_init : EX := ⟨["line", "column"], d_BadText_init, ["self", "line", "column"]⟩
theorem o_BadText_init : EXOk ("BadText", x_BadText_init) := ⟨rfl, scopeB_ok (by kernel_rfl), by kernel_rfl, rfl, by decide, by decide, rfl, rfl, fun _ _ _ _ _ _ us hl => match us, hl with | [_, _, _], _ => rfl⟩
abbrev s_BadNumber_init : Stmt := sub 3 0
def d_BadNumber_init : He.DefD := ⟨("BadNumber", some "__init__"), "__init__", "BadNumber.__init__", dArgs s_BadNumber_init, dBody s_BadNumber_init, dScope s_BadNumber_init, [], []⟩
def x_BadNumber_init : EX := ⟨["what", "number"], d_BadNumber_init, ["self", "what", "number"]⟩
theorem o_BadNumber_init : EXOk ("BadNumber", x_BadNumber_init) := ⟨rfl, scopeB_ok (by kernel_rfl), by kernel_rfl, rfl, by decide, by decide, rfl, rfl, fun _ _ _ _ _ _ us hl => match us, hl with | [_, _, _], _ => rfl⟩
abbrev s_BadName_init : Stmt := sub 4 0
def d_BadName_init : He.DefD := ⟨("BadName", some "__init__"), "__init__", "BadName.__init__", dArgs s_BadName_init, dBody s_BadName_init, dScope s_BadName_init, [], []⟩
def x_BadName_init : EX := ⟨["name"], d_BadName_init, ["self", "name"]⟩
theorem o_BadName_init : EXOk ("BadName", x_BadName_init) := ⟨rfl, scopeB_ok (by kernel_rfl), by kernel_rfl, rfl, by decide, by decide, rfl, rfl, fun _ _ _ _ _ _ us hl => match us, hl with | [_, _], _ => rfl⟩
abbrev s_NoName_init : Stmt := sub 5 0
def d_NoName_init : He.DefD := ⟨("NoName", some "__init__"), "__init__", "NoName.__init__", dArgs s_NoName_init, dBody s_NoName_init, dScope s_NoName_init, [], []⟩
def x_NoName_init : EX := ⟨["name"], d_NoName_init, ["self", "name"]⟩
theorem o_NoName_init : EXOk ("NoName", x_NoName_init) := ⟨rfl, scopeB_ok (by kernel_rfl), by kernel_rfl, rfl, by decide, by decide, rfl, rfl, fun _ _ _ _ _ _ us hl => match us, hl with | [_, _], _ => rfl⟩
abbrev s_TakenName_init : Stmt := sub 6 0
def d_TakenName_init : He.DefD := ⟨("TakenName", some "__init__"), "__init__", "TakenName.__init__", dArgs s_TakenName_init, dBody s_TakenName_init, dScope s_TakenName_init, [], []⟩
def x_TakenName_init : EX := ⟨["name"], d_TakenName_init, ["self", "name"]⟩
theorem o_TakenName_init : EXOk ("TakenName", x_TakenName_init) := ⟨rfl, scopeB_ok (by kernel_rfl), by kernel_rfl, rfl, by decide, by decide, rfl, rfl, fun _ _ _ _ _ _ us hl => match us, hl with | [_, _], _ => rfl⟩
abbrev s_BadLadder_init : Stmt := sub 7 0
def d_BadLadder_init : He.DefD := ⟨("BadLadder", some "__init__"), "__init__", "BadLadder.__init__", dArgs s_BadLadder_init, dBody s_BadLadder_init, dScope s_BadLadder_init, [], []⟩
def x_BadLadder_init : EX := ⟨["ladder"], d_BadLadder_init, ["self", "ladder"]⟩
theorem o_BadLadder_init : EXOk ("BadLadder", x_BadLadder_init) := ⟨rfl, scopeB_ok (by kernel_rfl), by kernel_rfl, rfl, by decide, by decide, rfl, rfl, fun _ _ _ _ _ _ us hl => match us, hl with | [_, _], _ => rfl⟩
abbrev s_BadSizes_init : Stmt := sub 8 0
def d_BadSizes_init : He.DefD := ⟨("BadSizes", some "__init__"), "__init__", "BadSizes.__init__", dArgs s_BadSizes_init, dBody s_BadSizes_init, dScope s_BadSizes_init, [], []⟩
def x_BadSizes_init : EX := ⟨["sizes"], d_BadSizes_init, ["self", "sizes"]⟩
theorem o_BadSizes_init : EXOk ("BadSizes", x_BadSizes_init) := ⟨rfl, scopeB_ok (by kernel_rfl), by kernel_rfl, rfl, by decide, by decide, rfl, rfl, fun _ _ _ _ _ _ us hl => match us, hl with | [_, _], _ => rfl⟩
abbrev s_BadRow_init : Stmt := sub 9 0
def d_BadRow_init : He.DefD := ⟨("BadRow", some "__init__"), "__init__", "BadRow.__init__", dArgs s_BadRow_init, dBody s_BadRow_init, dScope s_BadRow_init, [], []⟩
def x_BadRow_init : EX := ⟨["row"], d_BadRow_init, ["self", "row"]⟩
theorem o_BadRow_init : EXOk ("BadRow", x_BadRow_init) := ⟨rfl, scopeB_ok (by kernel_rfl), by kernel_rfl, rfl, by decide, by decide, rfl, rfl, fun _ _ _ _ _ _ us hl => match us, hl with | [_, _], _ => rfl⟩
abbrev s_BadBox_init : Stmt := sub 10 0
def d_BadBox_init : He.DefD := ⟨("BadBox", some "__init__"), "__init__", "BadBox.__init__", dArgs s_BadBox_init, dBody s_BadBox_init, dScope s_BadBox_init, [], []⟩
def x_BadBox_init : EX := ⟨["box"], d_BadBox_init, ["self", "box"]⟩
theorem o_BadBox_init : EXOk ("BadBox", x_BadBox_init) := ⟨rfl, scopeB_ok (by kernel_rfl), by kernel_rfl, rfl, by decide, by decide, rfl, rfl, fun _ _ _ _ _ _ us hl => match us, hl with | [_, _], _ => rfl⟩
abbrev s_BadNet_init : Stmt := sub 11 0
def d_BadNet_init : He.DefD := ⟨("BadNet", some "__init__"), "__init__", "BadNet.__init__", dArgs s_BadNet_init, dBody s_BadNet_init, dScope s_BadNet_init, [], []⟩
def x_BadNet_init : EX := ⟨["net"], d_BadNet_init, ["self", "net"]⟩
theorem o_BadNet_init : EXOk ("BadNet", x_BadNet_init) := ⟨rfl, scopeB_ok (by kernel_rfl), by kernel_rfl, rfl, by decide, by decide, rfl, rfl, fun _ _ _ _ _ _ us hl => match us, hl with | [_, _], _ => rfl⟩
abbrev s_BadHouse_init : Stmt := sub 12 0
def d_BadHouse_init : He.DefD := ⟨("BadHouse", some "__init__"), "__init__", "BadHouse.__init__", dArgs s_BadHouse_init, dBody s_BadHouse_init, dScope s_BadHouse_init, [], []⟩
def x_BadHouse_init : EX := ⟨["house"], d_BadHouse_init, ["self", "house"]⟩
theorem o_BadHouse_init : EXOk ("BadHouse", x_BadHouse_init) := ⟨rfl, scopeB_ok (by kernel_rfl), by kernel_rfl, rfl, by decide, by decide, rfl, rfl, fun _ _ _ _ _ _ us hl => match us, hl with | [_, _], _ => rfl⟩
abbrev s_BadProgram_init : Stmt := sub 13 0
def d_BadProgram_init : He.DefD := ⟨("BadProgram", some "__init__"), "__init__", "BadProgram.__init__", dArgs s_BadProgram_init, dBody s_BadProgram_init, dScope s_BadProgram_init, [], []⟩
def x_BadProgram_init : EX := ⟨["program"], d_BadProgram_init, ["self", "program"]⟩
theorem o_BadProgram_init : EXOk ("BadProgram", x_BadProgram_init) := ⟨rfl, scopeB_ok (by kernel_rfl), by kernel_rfl, rfl, by decide, by decide, rfl, rfl, fun _ _ _ _ _ _ us hl => match us, hl with | [_, _], _ => rfl⟩
abbrev s_BadCode_init : Stmt := sub 14 0
def d_BadCode_init : He.DefD := ⟨("BadCode", some "__init__"), "__init__", "BadCode.__init__", dArgs s_BadCode_init, dBody s_BadCode_init, dScope s_BadCode_init, [], []⟩
def x_BadCode_init : EX := ⟨["code"], d_BadCode_init, ["self", "code"]⟩
theorem o_BadCode_init : EXOk ("BadCode", x_BadCode_init) := ⟨rfl, scopeB_ok (by kernel_rfl), by kernel_rfl, rfl, by decide, by decide, rfl, rfl, fun _ _ _ _ _ _ us hl => match us, hl with | [_, _], _ => rfl⟩
abbrev s_BadPaper_init : Stmt := sub 15 0
def d_BadPaper_init : He.DefD := ⟨("BadPaper", some "__init__"), "__init__", "BadPaper.__init__", dArgs s_BadPaper_init, dBody s_BadPaper_init, dScope s_BadPaper_init, [], []⟩
def x_BadPaper_init : EX := ⟨["paper"], d_BadPaper_init, ["self", "paper"]⟩
theorem o_BadPaper_init : EXOk ("BadPaper", x_BadPaper_init) := ⟨rfl, scopeB_ok (by kernel_rfl), by kernel_rfl, rfl, by decide, by decide, rfl, rfl, fun _ _ _ _ _ _ us hl => match us, hl with | [_, _], _ => rfl⟩
abbrev s_NotKept_init : Stmt := sub 16 0
def d_NotKept_init : He.DefD := ⟨("NotKept", some "__init__"), "__init__", "NotKept.__init__", dArgs s_NotKept_init, dBody s_NotKept_init, dScope s_NotKept_init, [], []⟩
def x_NotKept_init : EX := ⟨["promise", "witness"], d_NotKept_init, ["self", "promise", "witness"]⟩
theorem o_NotKept_init : EXOk ("NotKept", x_NotKept_init) := ⟨rfl, scopeB_ok (by kernel_rfl), by kernel_rfl, rfl, by decide, by decide, rfl, rfl, fun _ _ _ _ _ _ us hl => match us, hl with | [_, _, _], _ => rfl⟩
def txt : Txt := ⟨[("_law_pen", x_l_pen), ("_law_draw", x_l_draw), ("_law_pick", x_l_pick), ("_law_one", x_l_one), ("_law_single", x_l_single), ("_law_which", x_l_which), ("law", x_law)],
  [], [], [], ((("BadName", "BadName"), true) :: (("BadName", "NoName"), false) :: (("BadName", "TakenName"), false) :: (("BadName", "BadLadder"), false) :: (("BadName", "BadSizes"), false) :: (("BadName", "BadRow"), false) :: (("BadName", "BadBox"), false) :: (("BadName", "BadNet"), false) :: (("BadName", "BadHouse"), false) :: (("BadName", "BadProgram"), false) :: (("BadName", "BadCode"), false) :: (("BadName", "BadPaper"), false) :: (("BadName", "BadText"), false) :: (("BadName", "BadNumber"), false) :: (("BadName", "NotKept"), false) :: (("BadName", "NothingToUndo"), false) :: (("BadName", "NothingToRedo"), false) :: (("NoName", "BadName"), false) :: (("NoName", "NoName"), true) :: (("NoName", "TakenName"), false) :: (("NoName", "BadLadder"), false) :: (("NoName", "BadSizes"), false) :: (("NoName", "BadRow"), false) :: (("NoName", "BadBox"), false) :: (("NoName", "BadNet"), false) :: (("NoName", "BadHouse"), false) :: (("NoName", "BadProgram"), false) :: (("NoName", "BadCode"), false) :: (("NoName", "BadPaper"), false) :: (("NoName", "BadText"), false) :: (("NoName", "BadNumber"), false) :: (("NoName", "NotKept"), false) :: (("NoName", "NothingToUndo"), false) :: (("NoName", "NothingToRedo"), false) :: (("TakenName", "BadName"), false) :: (("TakenName", "NoName"), false) :: (("TakenName", "TakenName"), true) :: (("TakenName", "BadLadder"), false) :: (("TakenName", "BadSizes"), false) :: (("TakenName", "BadRow"), false) :: (("TakenName", "BadBox"), false) :: (("TakenName", "BadNet"), false) :: (("TakenName", "BadHouse"), false) :: (("TakenName", "BadProgram"), false) :: (("TakenName", "BadCode"), false) :: (("TakenName", "BadPaper"), false) :: (("TakenName", "BadText"), false) :: (("TakenName", "BadNumber"), false) :: (("TakenName", "NotKept"), false) :: (("TakenName", "NothingToUndo"), false) :: (("TakenName", "NothingToRedo"), false) :: (("BadLadder", "BadName"), false) :: (("BadLadder", "NoName"), false) :: (("BadLadder", "TakenName"), false) :: (("BadLadder", "BadLadder"), true) :: (("BadLadder", "BadSizes"), false) :: (("BadLadder", "BadRow"), false) :: (("BadLadder", "BadBox"), false) :: (("BadLadder", "BadNet"), false) :: (("BadLadder", "BadHouse"), false) :: (("BadLadder", "BadProgram"), false) :: (("BadLadder", "BadCode"), false) :: (("BadLadder", "BadPaper"), false) :: (("BadLadder", "BadText"), false) :: (("BadLadder", "BadNumber"), false) :: (("BadLadder", "NotKept"), false) :: (("BadLadder", "NothingToUndo"), false) :: (("BadLadder", "NothingToRedo"), false) :: (("BadSizes", "BadName"), false) :: (("BadSizes", "NoName"), false) :: (("BadSizes", "TakenName"), false) :: (("BadSizes", "BadLadder"), false) :: (("BadSizes", "BadSizes"), true) :: (("BadSizes", "BadRow"), false) :: (("BadSizes", "BadBox"), false) :: (("BadSizes", "BadNet"), false) :: (("BadSizes", "BadHouse"), false) :: (("BadSizes", "BadProgram"), false) :: (("BadSizes", "BadCode"), false) :: (("BadSizes", "BadPaper"), false) :: (("BadSizes", "BadText"), false) :: (("BadSizes", "BadNumber"), false) :: (("BadSizes", "NotKept"), false) :: (("BadSizes", "NothingToUndo"), false) :: (("BadSizes", "NothingToRedo"), false) :: (("BadRow", "BadName"), false) :: (("BadRow", "NoName"), false) :: (("BadRow", "TakenName"), false) :: (("BadRow", "BadLadder"), false) :: (("BadRow", "BadSizes"), false) :: (("BadRow", "BadRow"), true) :: (("BadRow", "BadBox"), false) :: (("BadRow", "BadNet"), false) :: (("BadRow", "BadHouse"), false) :: (("BadRow", "BadProgram"), false) :: (("BadRow", "BadCode"), false) :: (("BadRow", "BadPaper"), false) :: (("BadRow", "BadText"), false) :: (("BadRow", "BadNumber"), false) :: (("BadRow", "NotKept"), false) :: (("BadRow", "NothingToUndo"), false) :: (("BadRow", "NothingToRedo"), false) :: (("BadBox", "BadName"), false) :: (("BadBox", "NoName"), false) :: (("BadBox", "TakenName"), false) :: (("BadBox", "BadLadder"), false) :: (("BadBox", "BadSizes"), false) :: (("BadBox", "BadRow"), false) :: (("BadBox", "BadBox"), true) :: (("BadBox", "BadNet"), false) :: (("BadBox", "BadHouse"), false) :: (("BadBox", "BadProgram"), false) :: (("BadBox", "BadCode"), false) :: (("BadBox", "BadPaper"), false) :: (("BadBox", "BadText"), false) :: (("BadBox", "BadNumber"), false) :: (("BadBox", "NotKept"), false) :: (("BadBox", "NothingToUndo"), false) :: (("BadBox", "NothingToRedo"), false) :: (("BadNet", "BadName"), false) :: (("BadNet", "NoName"), false) :: (("BadNet", "TakenName"), false) :: (("BadNet", "BadLadder"), false) :: (("BadNet", "BadSizes"), false) :: (("BadNet", "BadRow"), false) :: (("BadNet", "BadBox"), false) :: (("BadNet", "BadNet"), true) :: (("BadNet", "BadHouse"), false) :: (("BadNet", "BadProgram"), false) :: (("BadNet", "BadCode"), false) :: (("BadNet", "BadPaper"), false) :: (("BadNet", "BadText"), false) :: (("BadNet", "BadNumber"), false) :: (("BadNet", "NotKept"), false) :: (("BadNet", "NothingToUndo"), false) :: (("BadNet", "NothingToRedo"), false) :: (("BadHouse", "BadName"), false) :: (("BadHouse", "NoName"), false) :: (("BadHouse", "TakenName"), false) :: (("BadHouse", "BadLadder"), false) :: (("BadHouse", "BadSizes"), false) :: (("BadHouse", "BadRow"), false) :: (("BadHouse", "BadBox"), false) :: (("BadHouse", "BadNet"), false) :: (("BadHouse", "BadHouse"), true) :: (("BadHouse", "BadProgram"), false) :: (("BadHouse", "BadCode"), false) :: (("BadHouse", "BadPaper"), false) :: (("BadHouse", "BadText"), false) :: (("BadHouse", "BadNumber"), false) :: (("BadHouse", "NotKept"), false) :: (("BadHouse", "NothingToUndo"), false) :: (("BadHouse", "NothingToRedo"), false) :: (("BadProgram", "BadName"), false) :: (("BadProgram", "NoName"), false) :: (("BadProgram", "TakenName"), false) :: (("BadProgram", "BadLadder"), false) :: (("BadProgram", "BadSizes"), false) :: (("BadProgram", "BadRow"), false) :: (("BadProgram", "BadBox"), false) :: (("BadProgram", "BadNet"), false) :: (("BadProgram", "BadHouse"), false) :: (("BadProgram", "BadProgram"), true) :: (("BadProgram", "BadCode"), false) :: (("BadProgram", "BadPaper"), false) :: (("BadProgram", "BadText"), false) :: (("BadProgram", "BadNumber"), false) :: (("BadProgram", "NotKept"), false) :: (("BadProgram", "NothingToUndo"), false) :: (("BadProgram", "NothingToRedo"), false) :: (("BadCode", "BadName"), false) :: (("BadCode", "NoName"), false) :: (("BadCode", "TakenName"), false) :: (("BadCode", "BadLadder"), false) :: (("BadCode", "BadSizes"), false) :: (("BadCode", "BadRow"), false) :: (("BadCode", "BadBox"), false) :: (("BadCode", "BadNet"), false) :: (("BadCode", "BadHouse"), false) :: (("BadCode", "BadProgram"), false) :: (("BadCode", "BadCode"), true) :: (("BadCode", "BadPaper"), false) :: (("BadCode", "BadText"), false) :: (("BadCode", "BadNumber"), false) :: (("BadCode", "NotKept"), false) :: (("BadCode", "NothingToUndo"), false) :: (("BadCode", "NothingToRedo"), false) :: (("BadPaper", "BadName"), false) :: (("BadPaper", "NoName"), false) :: (("BadPaper", "TakenName"), false) :: (("BadPaper", "BadLadder"), false) :: (("BadPaper", "BadSizes"), false) :: (("BadPaper", "BadRow"), false) :: (("BadPaper", "BadBox"), false) :: (("BadPaper", "BadNet"), false) :: (("BadPaper", "BadHouse"), false) :: (("BadPaper", "BadProgram"), false) :: (("BadPaper", "BadCode"), false) :: (("BadPaper", "BadPaper"), true) :: (("BadPaper", "BadText"), false) :: (("BadPaper", "BadNumber"), false) :: (("BadPaper", "NotKept"), false) :: (("BadPaper", "NothingToUndo"), false) :: (("BadPaper", "NothingToRedo"), false) :: (("BadText", "BadName"), false) :: (("BadText", "NoName"), false) :: (("BadText", "TakenName"), false) :: (("BadText", "BadLadder"), false) :: (("BadText", "BadSizes"), false) :: (("BadText", "BadRow"), false) :: (("BadText", "BadBox"), false) :: (("BadText", "BadNet"), false) :: (("BadText", "BadHouse"), false) :: (("BadText", "BadProgram"), false) :: (("BadText", "BadCode"), false) :: (("BadText", "BadPaper"), false) :: (("BadText", "BadText"), true) :: (("BadText", "BadNumber"), false) :: (("BadText", "NotKept"), false) :: (("BadText", "NothingToUndo"), false) :: (("BadText", "NothingToRedo"), false) :: (("BadNumber", "BadName"), false) :: (("BadNumber", "NoName"), false) :: (("BadNumber", "TakenName"), false) :: (("BadNumber", "BadLadder"), false) :: (("BadNumber", "BadSizes"), false) :: (("BadNumber", "BadRow"), false) :: (("BadNumber", "BadBox"), false) :: (("BadNumber", "BadNet"), false) :: (("BadNumber", "BadHouse"), false) :: (("BadNumber", "BadProgram"), false) :: (("BadNumber", "BadCode"), false) :: (("BadNumber", "BadPaper"), false) :: (("BadNumber", "BadText"), false) :: (("BadNumber", "BadNumber"), true) :: (("BadNumber", "NotKept"), false) :: (("BadNumber", "NothingToUndo"), false) :: (("BadNumber", "NothingToRedo"), false) :: (("NotKept", "BadName"), false) :: (("NotKept", "NoName"), false) :: (("NotKept", "TakenName"), false) :: (("NotKept", "BadLadder"), false) :: (("NotKept", "BadSizes"), false) :: (("NotKept", "BadRow"), false) :: (("NotKept", "BadBox"), false) :: (("NotKept", "BadNet"), false) :: (("NotKept", "BadHouse"), false) :: (("NotKept", "BadProgram"), false) :: (("NotKept", "BadCode"), false) :: (("NotKept", "BadPaper"), false) :: (("NotKept", "BadText"), false) :: (("NotKept", "BadNumber"), false) :: (("NotKept", "NotKept"), true) :: (("NotKept", "NothingToUndo"), false) :: (("NotKept", "NothingToRedo"), false) :: (("NothingToUndo", "BadName"), false) :: (("NothingToUndo", "NoName"), false) :: (("NothingToUndo", "TakenName"), false) :: (("NothingToUndo", "BadLadder"), false) :: (("NothingToUndo", "BadSizes"), false) :: (("NothingToUndo", "BadRow"), false) :: (("NothingToUndo", "BadBox"), false) :: (("NothingToUndo", "BadNet"), false) :: (("NothingToUndo", "BadHouse"), false) :: (("NothingToUndo", "BadProgram"), false) :: (("NothingToUndo", "BadCode"), false) :: (("NothingToUndo", "BadPaper"), false) :: (("NothingToUndo", "BadText"), false) :: (("NothingToUndo", "BadNumber"), false) :: (("NothingToUndo", "NotKept"), false) :: (("NothingToUndo", "NothingToUndo"), true) :: (("NothingToUndo", "NothingToRedo"), false) :: (("NothingToRedo", "BadName"), false) :: (("NothingToRedo", "NoName"), false) :: (("NothingToRedo", "TakenName"), false) :: (("NothingToRedo", "BadLadder"), false) :: (("NothingToRedo", "BadSizes"), false) :: (("NothingToRedo", "BadRow"), false) :: (("NothingToRedo", "BadBox"), false) :: (("NothingToRedo", "BadNet"), false) :: (("NothingToRedo", "BadHouse"), false) :: (("NothingToRedo", "BadProgram"), false) :: (("NothingToRedo", "BadCode"), false) :: (("NothingToRedo", "BadPaper"), false) :: (("NothingToRedo", "BadText"), false) :: (("NothingToRedo", "BadNumber"), false) :: (("NothingToRedo", "NotKept"), false) :: (("NothingToRedo", "NothingToUndo"), false) :: (("NothingToRedo", "NothingToRedo"), true) :: (("BadName", "HouseError"), true) :: (("NoName", "HouseError"), true) :: (("TakenName", "HouseError"), true) :: (("BadLadder", "HouseError"), true) :: (("BadSizes", "HouseError"), true) :: (("BadRow", "HouseError"), true) :: (("BadBox", "HouseError"), true) :: (("BadNet", "HouseError"), true) :: (("BadHouse", "HouseError"), true) :: (("BadProgram", "HouseError"), true) :: (("BadCode", "HouseError"), true) :: (("BadPaper", "HouseError"), true) :: (("BadText", "HouseError"), true) :: (("BadNumber", "HouseError"), true) :: (("NotKept", "HouseError"), true) :: (("NothingToUndo", "HouseError"), true) :: (("NothingToRedo", "HouseError"), true) :: []), tab, ["NothingToUndo", "NothingToRedo"], [("BadText", x_BadText_init), ("BadNumber", x_BadNumber_init), ("BadName", x_BadName_init), ("NoName", x_NoName_init), ("TakenName", x_TakenName_init), ("BadLadder", x_BadLadder_init), ("BadSizes", x_BadSizes_init), ("BadRow", x_BadRow_init), ("BadBox", x_BadBox_init), ("BadNet", x_BadNet_init), ("BadHouse", x_BadHouse_init), ("BadProgram", x_BadProgram_init), ("BadCode", x_BadCode_init), ("BadPaper", x_BadPaper_init), ("NotKept", x_NotKept_init)]⟩
theorem txtOk : TxtOk txt := by
  refine ⟨?_, ?_, by decide +kernel, rfl, by decide +kernel, by decide +kernel, by decide +kernel, by decide +kernel, by decide +kernel, ?_⟩
  · intro q hq
    simp only [txt, List.mem_cons, List.not_mem_nil, or_false] at hq
    rcases hq with rfl | rfl | rfl | rfl | rfl | rfl | rfl
    · exact ⟨o_l_pen, rfl⟩
    · exact ⟨o_l_draw, rfl⟩
    · exact ⟨o_l_pick, rfl⟩
    · exact ⟨o_l_one, rfl⟩
    · exact ⟨o_l_single, rfl⟩
    · exact ⟨o_l_which, rfl⟩
    · exact ⟨o_law, rfl⟩
  · intro q hq
    simp only [txt, List.mem_cons, List.not_mem_nil, or_false] at hq
  · intro q hq
    simp only [txt, List.mem_cons, List.not_mem_nil, or_false] at hq
    rcases hq with rfl | rfl | rfl | rfl | rfl | rfl | rfl | rfl | rfl | rfl | rfl | rfl | rfl | rfl | rfl
    · exact ⟨o_BadText_init, by decide +kernel⟩
    · exact ⟨o_BadNumber_init, by decide +kernel⟩
    · exact ⟨o_BadName_init, by decide +kernel⟩
    · exact ⟨o_NoName_init, by decide +kernel⟩
    · exact ⟨o_TakenName_init, by decide +kernel⟩
    · exact ⟨o_BadLadder_init, by decide +kernel⟩
    · exact ⟨o_BadSizes_init, by decide +kernel⟩
    · exact ⟨o_BadRow_init, by decide +kernel⟩
    · exact ⟨o_BadBox_init, by decide +kernel⟩
    · exact ⟨o_BadNet_init, by decide +kernel⟩
    · exact ⟨o_BadHouse_init, by decide +kernel⟩
    · exact ⟨o_BadProgram_init, by decide +kernel⟩
    · exact ⟨o_BadCode_init, by decide +kernel⟩
    · exact ⟨o_BadPaper_init, by decide +kernel⟩
    · exact ⟨o_NotKept_init, by decide +kernel⟩
theorem q_l_pen {k : Nat} {h : Hs} {a0 : D} : (wr txt.pg (k + 1)).call "_law_pen" [a0] h = fin (exs (ex (wr txt.pg k) 60) i_l_pen [some a0, none, none] h) := by kernel_rfl
theorem q_l_draw {k : Nat} {h : Hs} {a0 a1 : D} : (wr txt.pg (k + 1)).call "_law_draw" [a0, a1] h = fin (exs (ex (wr txt.pg k) 60) i_l_draw [some a0, some a1, none, none, none] h) := by kernel_rfl
theorem q_l_pick {k : Nat} {h : Hs} {a0 a1 : D} : (wr txt.pg (k + 1)).call "_law_pick" [a0, a1] h = fin (exs (ex (wr txt.pg k) 60) i_l_pick [some a0, some a1] h) := by kernel_rfl
theorem q_l_one {k : Nat} {h : Hs} {a0 a1 a2 : D} : (wr txt.pg (k + 1)).call "_law_one" [a0, a1, a2] h = fin (exs (ex (wr txt.pg k) 60) i_l_one [some a0, some a1, some a2, none] h) := by kernel_rfl
theorem q_l_single {k : Nat} {h : Hs} {a0 a1 : D} : (wr txt.pg (k + 1)).call "_law_single" [a0, a1] h = fin (exs (ex (wr txt.pg k) 60) i_l_single [some a0, some a1, none] h) := by kernel_rfl
theorem q_l_which {k : Nat} {h : Hs} {a0 : D} : (wr txt.pg (k + 1)).call "_law_which" [a0] h = fin (exs (ex (wr txt.pg k) 60) i_l_which [some a0, none] h) := by kernel_rfl
theorem q_law {k : Nat} {h : Hs} {a0 : D} : (wr txt.pg (k + 1)).call "law" [a0] h = fin (exs (ex (wr txt.pg k) 60) i_law [some a0, none, none, none, none, none, none, none, none, none, none] h) := by kernel_rfl
end SI.K00
end
section
set_option Elab.async false
set_option linter.all false
set_option maxRecDepth 100000
set_option maxHeartbeats 1000000
namespace SI.K00
open PySem L2 PL
abbrev W (k : Nat) : Wr := wr txt.pg k
def exD (a b : D) : Nat → D
  | 0 => .exv "BadName" ["name"] [a]
  | 1 => .exv "NoName" ["name"] [a]
  | 2 => .exv "TakenName" ["name"] [a]
  | 3 => .exv "BadLadder" ["ladder"] [a]
  | 4 => .exv "BadSizes" ["sizes"] [a]
  | 5 => .exv "BadRow" ["row"] [a]
  | 6 => .exv "BadBox" ["box"] [a]
  | 7 => .exv "BadNet" ["net"] [a]
  | 8 => .exv "BadHouse" ["house"] [a]
  | 9 => .exv "BadProgram" ["program"] [a]
  | 10 => .exv "BadCode" ["code"] [a]
  | 11 => .exv "BadPaper" ["paper"] [a]
  | 12 => .exv "BadText" ["column", "line"] [b, a]
  | 13 => .exv "BadNumber" ["number", "what"] [b, a]
  | 14 => .exv "NotKept" ["witness", "promise"] [b, a]
  | 15 => .exv "NothingToUndo" [] []
  | 16 => .exv "NothingToRedo" [] []
  | _ => .non
def ar : Nat → Nat := fun k => if k < 12 then 1 else if k < 15 then 2 else 0
def wL (k : Nat) : List D := (List.range 17).map fun j => .bl (j == k)
section
variable {k : Nat} {h : Hs} {p m : Nat} {a b : D}
theorem one_ok : ∀ k, k < 17 → (wr txt.pg 12).call "_law_one" [.int (k : Nat), a, b] h = .ok (.tup [exD a b k, .tup ([a, b].take (ar k))]) h
  | 0, _ => by kernel_rfl
  | 1, _ => by kernel_rfl
  | 2, _ => by kernel_rfl
  | 3, _ => by kernel_rfl
  | 4, _ => by kernel_rfl
  | 5, _ => by kernel_rfl
  | 6, _ => by kernel_rfl
  | 7, _ => by kernel_rfl
  | 8, _ => by kernel_rfl
  | 9, _ => by kernel_rfl
  | 10, _ => by kernel_rfl
  | 11, _ => by kernel_rfl
  | 12, _ => by kernel_rfl
  | 13, _ => by kernel_rfl
  | 14, _ => by kernel_rfl
  | 15, _ => by kernel_rfl
  | 16, _ => by kernel_rfl
  | k + 17, hk => absurd hk (by omega)
theorem which_ok : ∀ k, k < 17 → (wr txt.pg 12).call "_law_which" [exD a b k] h = .ok (.lst (wL k)) h
  | 0, _ => by kernel_rfl
  | 1, _ => by kernel_rfl
  | 2, _ => by kernel_rfl
  | 3, _ => by kernel_rfl
  | 4, _ => by kernel_rfl
  | 5, _ => by kernel_rfl
  | 6, _ => by kernel_rfl
  | 7, _ => by kernel_rfl
  | 8, _ => by kernel_rfl
  | 9, _ => by kernel_rfl
  | 10, _ => by kernel_rfl
  | 11, _ => by kernel_rfl
  | 12, _ => by kernel_rfl
  | 13, _ => by kernel_rfl
  | 14, _ => by kernel_rfl
  | 15, _ => by kernel_rfl
  | 16, _ => by kernel_rfl
  | k + 17, hk => absurd hk (by omega)
theorem is_house : ∀ k, k < 17 → isAny (wr txt.pg 12) h (exD a b k) [.inr "HouseError"] = some true
  | 0, _ => by kernel_rfl
  | 1, _ => by kernel_rfl
  | 2, _ => by kernel_rfl
  | 3, _ => by kernel_rfl
  | 4, _ => by kernel_rfl
  | 5, _ => by kernel_rfl
  | 6, _ => by kernel_rfl
  | 7, _ => by kernel_rfl
  | 8, _ => by kernel_rfl
  | 9, _ => by kernel_rfl
  | 10, _ => by kernel_rfl
  | 11, _ => by kernel_rfl
  | 12, _ => by kernel_rfl
  | 13, _ => by kernel_rfl
  | 14, _ => by kernel_rfl
  | 15, _ => by kernel_rfl
  | 16, _ => by kernel_rfl
  | k + 17, hk => absurd hk (by omega)
theorem is_value : ∀ k, k < 17 → isAny (wr txt.pg 12) h (exD a b k) [.inl "ValueError"] = some true
  | 0, _ => by kernel_rfl
  | 1, _ => by kernel_rfl
  | 2, _ => by kernel_rfl
  | 3, _ => by kernel_rfl
  | 4, _ => by kernel_rfl
  | 5, _ => by kernel_rfl
  | 6, _ => by kernel_rfl
  | 7, _ => by kernel_rfl
  | 8, _ => by kernel_rfl
  | 9, _ => by kernel_rfl
  | 10, _ => by kernel_rfl
  | 11, _ => by kernel_rfl
  | 12, _ => by kernel_rfl
  | 13, _ => by kernel_rfl
  | 14, _ => by kernel_rfl
  | 15, _ => by kernel_rfl
  | 16, _ => by kernel_rfl
  | k + 17, hk => absurd hk (by omega)
end
end SI.K00
end
section
set_option Elab.async false
set_option linter.all false
set_option maxRecDepth 100000
set_option maxHeartbeats 1000000
namespace SI.K00
open PySem L2 PL
def WS : List Str := ["", "log", "b", "c"]
theorem wsOk : WordsOk WS = true := by decide +kernel
/-- small data -/
def Small (x : D) : Prop := ∃ y, py x = some y ∧ gd WS y = true ∧ sz y ≤ 5
def menuL (u v : Int) : List D := [.non, .bl true, .int 0, .int u, .int v, .str "", .str "log", .tup [.int 1, .int 2], .lst [.int 3], .tup [.str "b", .str "c"], .tup [.tup [.int 0, .int 0]]]
theorem menu_small {u v : Int} (h1 : u.natAbs < 1000) (h2 : v.natAbs < 10 ^ 50) : ∀ x ∈ menuL u v, Small x := by
  intro x hx
  simp only [menuL, List.mem_cons, List.not_mem_nil, or_false] at hx
  rcases hx with rfl | rfl | rfl | rfl | rfl | rfl | rfl | rfl | rfl | rfl | rfl
  · exact ⟨.none, rfl, rfl, by decide⟩
  · exact ⟨.bool true, rfl, rfl, by decide⟩
  · exact ⟨.int 0, rfl, by decide +kernel, by decide⟩
  · exact ⟨.int u, rfl, decide_eq_true (Nat.lt_of_lt_of_le h1 (by decide)), by simp [sz]⟩
  · exact ⟨.int v, rfl, decide_eq_true h2, by simp [sz]⟩
  · exact ⟨.str "", rfl, by decide +kernel, by decide +kernel⟩
  · exact ⟨.str "log", rfl, by decide +kernel, by decide +kernel⟩
  · exact ⟨.tuple [.int 1, .int 2], rfl, by decide +kernel, by decide +kernel⟩
  · exact ⟨.list [.int 3], rfl, by decide +kernel, by decide +kernel⟩
  · exact ⟨.tuple [.str "b", .str "c"], rfl, by decide +kernel, by decide +kernel⟩
  · exact ⟨.tuple [.tuple [.int 0, .int 0]], rfl, by decide +kernel, by decide +kernel⟩
theorem big_small {d2 : Nat} (h2 : d2 < 99) {B : Int} (hB : B = 10 ^ 40) : (B + (d2 : Int)).natAbs < 10 ^ 50 := by
  have e : B + (d2 : Int) = ((10 ^ 40 + d2 : Nat) : Int) := by rw [hB]; simp
  rw [e, Int.natAbs_natCast]
  exact Nat.lt_of_lt_of_le (Nat.add_lt_add_left h2 _) (by decide)
theorem pow_40 {h : Hs} : ∃ B : Int, binA h .pow (.int 10) (.int 40) = .ok (.int B) h ∧ B = 10 ^ 40 := ⟨10 ^ 40, by kernel_rfl, rfl⟩
theorem pys_nil : pys [] = some [] := rfl
/-- the texts of what is told, three of them -/
theorem reprs {a b : D} (ha : Small a) (hb : Small b) : ∃ s : Nat → Str, ∀ n, n < 3 → ∀ h : Hs, biD .repr h (.tup ([a, b].take n)) = some (.str (s n)) ∧ cmpD h .ne (.str (s n)) (.str (s n)) = some false := by
  obtain ⟨ya, ea, ga, za⟩ := ha
  obtain ⟨yb, eb, gb, zb⟩ := hb
  have key : ∀ n, n < 3 → py (.tup ([a, b].take n)) = some (.tuple ([ya, yb].take n)) ∧ gds WS ([ya, yb].take n) = true ∧ szs ([ya, yb].take n) ≤ 10 := fun n hn => by
    match n, hn with
    | 0, _ => exact ⟨rfl, rfl, by simp [szs]⟩
    | 1, _ => exact ⟨py_tup (pys_cons ea pys_nil), by simp [gds, ga], by simp [szs]; omega⟩
    | 2, _ => exact ⟨py_tup (pys_cons ea (pys_cons eb pys_nil)), by simp [gds, ga, gb], by simp [szs]; omega⟩
    | n + 3, hn => omega
  refine ⟨fun n => (PyData.tuple ([ya, yb].take n)).shown, fun n hn h => ?_⟩
  obtain ⟨k1, k2, k3⟩ := key n hn
  have g : gd WS (.tuple ([ya, yb].take n)) = true := k2
  have z : sz (.tuple ([ya, yb].take n)) ≤ 60 := by show szs _ + 1 ≤ 60; omega
  have t := gd_ok wsOk _ g
  refine ⟨rpr wsOk k1 rfl g (by omega) (by have := t.dp; omega), ?_⟩
  have s : (PyData.str (PyData.tuple ([ya, yb].take n)).shown).canLay0 = true := t.ok
  rw [ne_of_eq (eq_str (h := h) s s)]
  simp
theorem ne_bools {h : Hs} {k : Nat} : cmpD h .ne (.lst (wL k)) (.lst (wL k)) = some false := by
  have e : py (.lst (wL k)) = some (.list ((List.range 17).map fun j => PyData.bool (j == k))) := py_lst (pys_map (f := fun j => D.bl (j == k)) (g := fun j => .bool (j == k)) (fun _ => rfl) _)
  refine ne_same e (shp (ws := []) rfl (gds_map fun j _ => rfl) ?_)
  have := dep_map (f := fun j => PyData.bool (j == k)) (m := 1) (l := List.range 17) fun j _ => by simp [PyData.depth]
  show PyData.depthAll _ + 1 ≤ 60
  omega
section
variable {k : Nat} {h : Hs} {p m : Nat} {a b : D}
theorem draw_ok {r m : Nat} (hp : PenAt (r + 1) h p) (hm : 0 < m) (hm2 : m < 1000000) : ∃ (d : Nat) (h' : Hs), (W (k + 1)).call "_law_draw" [.ptr p, .int m] h = .ok (.int d) h' ∧ d < m ∧ PenAt r h' p ∧ Same p h h' := by
  obtain ⟨d, h', e, d0, d1, z⟩ := draw_run (G := W k) (k := 50) (c1 := 73651) (c2 := 9697) (c3 := 157) (m := (m : Int)) (x2 := none) (x3 := none) (x4 := none) hp ⟨by decide, by decide⟩ ⟨by decide, by decide⟩ ⟨by decide, by decide⟩ (by omega) (by omega)
  refine ⟨d.toNat, h', ?_, by omega, z⟩
  have e2 : ((d.toNat : Nat) : Int) = d := by omega
  rw [e2]
  exact (PL.run_rt (G := W k) (e := e_l_draw) (ds := [.ptr p, .int m]) rfl e : runF (W k) e_l_draw [.ptr p, .int m] h = .ok (.int d) h')
theorem pick_ok {r : Nat} {xs : List D} (hp : PenAt (r + 1) h p) (hm : h[m]? = some (.lst xs)) (pm : m ≠ p) (hx : xs ≠ []) (hl : xs.length < 1000) : ∃ x h', (W (k + 2)).call "_law_pick" [.ptr p, .ptr m] h = .ok x h' ∧ x ∈ xs ∧ PenAt r h' p ∧ Same p h h' := by
  have hn : 0 < xs.length := List.length_pos_iff.mpr hx
  obtain ⟨d, h', e, d1, hp', sm⟩ := draw_ok (k := k) (m := xs.length) hp hn (by omega)
  refine ⟨xs[d], h', ?_, List.getElem_mem d1, hp', sm⟩
  have hm' : h'[m]? = some (.lst xs) := (sm.at_ m pm).trans hm
  have hix : ixD h' (.ptr m) (.int d) = some xs[d] := ixp hm' (List.getElem?_eq_getElem d1)
  have e : (wr txt.pg (k + 1)).call "_law_draw" [.ptr p, .int xs.length] h = _ := e
  have ln : biD .len h (.ptr m) = some (.int xs.length) := len_p hm
  rw [q_l_pick]
  simp only [i_l_pick, exs_cons, exs_nil, ex_ret, ev_ix, ev_v, get_zero, get_succ, of_some, Res.bind_ok, ev_call, evs_cons, evs_nil, ev_bi, ln, e, hix, Res.sbind_ok, then_rt, fin_rt]
abbrev lapB : List IS := [.set (.t [(.n 4), (.n 5)]) (.tup [(.call "_law_pick" [(.v 1), (.v 2)]), (.call "_law_pick" [(.v 1), (.v 2)])]), .set (.n 6) (.comp false (.bi .repr (.sl (.tup [(.v 4), (.v 5)]) none (some (.v 7)))) (.n 7) .rng [(.c (.int 3))] none [7]), .set (.t [(.n 8), (.n 9)]) (.call "_law_one" [(.v 3), (.v 4), (.v 5)]), .ife (.cmp .ne (.bi .repr (.v 9)) (.ix (.v 6) (.bi .len (.v 9)))) [.ret (.c (.bl false))] [], .ife (.or (.not (.val (.isi (.v 8) [.inr "HouseError"]))) (.not (.val (.isi (.v 8) [.inl "ValueError"])))) [.ret (.c (.bl false))] [], .ife (.cmp .ne (.call "_law_which" [(.v 8)]) (.comp false (.cmp .eq (.v 10) (.v 3)) (.n 10) .rng [(.c (.int 17))] none [10])) [.ret (.c (.bl false))] []]
theorem ar_lt (k : Nat) : ar k < 3 := by unfold ar; split <;> (try split) <;> decide
theorem lap_ok {r n : Nat} {xs : List D} {x0 x3 x4 x5 x6 x7 x8 x9 x10 : Option D} (hn : n < 17) (hp : PenAt (r + 2) h p) (hm : h[m]? = some (.lst xs)) (pm : m ≠ p) (hx : xs ≠ []) (hl : xs.length < 1000) (hs : ∀ x ∈ xs, Small x) :
    ∃ y4 y5 y6 y8 y9 h', bodyF (W 12) 59 (.n 3) lapB (.int n) [x0, some (.ptr p), some (.ptr m), x3, x4, x5, x6, x7, x8, x9, x10] h = .nx [x0, some (.ptr p), some (.ptr m), some (.int n), y4, y5, y6, x7, y8, y9, x10] h' ∧ PenAt r h' p ∧ h'[m]? = some (.lst xs) := by
  obtain ⟨a, h1, e1, ma, hp1, s1⟩ := pick_ok (k := 10) (r := r + 1) hp hm pm hx hl
  have hm1 : h1[m]? = some (.lst xs) := (s1.at_ m pm).trans hm
  obtain ⟨b, h2, e2, mb, hp2, s2⟩ := pick_ok (k := 10) (r := r) hp1 hm1 pm hx hl
  have hm2 : h2[m]? = some (.lst xs) := (s2.at_ m pm).trans hm1
  have e1 : (wr txt.pg 12).call "_law_pick" [.ptr p, .ptr m] h = _ := e1
  have e2 : (wr txt.pg 12).call "_law_pick" [.ptr p, .ptr m] h1 = _ := e2
  obtain ⟨s, hr⟩ := reprs (hs a ma) (hs b mb)
  refine ⟨some a, some b, some (.lst [.str (s 0), .str (s 1), .str (s 2)]), some (exD a b n), some (.tup ([a, b].take (ar n))), h2, ?_, hp2, hm2⟩
  have cu : ∀ j : Nat, j < 3 → cutD [a, b] none (some (j : Int)) = [a, b].take j := fun j hj => cut_to (by simp; omega)
  have c1 := comp_run (G := W 12) (n := 57) (m := false) (e := .bi .repr (.sl (.tup [(.v 4), (.v 5)]) none (some (.v 7)))) (t := .n 7) (k := .rng) (as := [(.c (.int 3))]) (i := none) (own := [7]) (env := [x0, some (.ptr p), some (.ptr m), some (.int n), some a, some b, x6, x7, x8, x9, x10]) (h := h2) (h1 := h2) (h2 := h2) (ds := [.int (3 : Nat)]) (ys := [.str (s 0), .str (s 1), .str (s 2)]) rfl (PL.src_rng (by decide)) (by rw [nL_len, List.length_range]; decide) (by
    have z := filtG (fn := turnF (.n 7) (ifsF (W 12) 57 none) (ev (W 12) 57 (.bi .repr (.sl (.tup [(.v 4), (.v 5)]) none (some (.v 7))))) (wipeE [x0, some (.ptr p), some (.ptr m), some (.int n), some a, some b, x6, x7, x8, x9, x10] [7])) (f := fun j : Nat => D.int j) (g := fun j => .str (s j)) (b := fun _ => true) (h := h2) (xs := List.range 3) fun j hj => by
      have hj := List.mem_range.mp hj
      have r1 := (hr j hj h2).1
      simp only [turnF, wipe_cons, wipe_nil, asg_n, of_some, Res.bind_ok, ifsF_none, if_true, ev_bi, ev_sl, ev_tup, evs_cons, evs_nil, ev_v, evo_none, evo_some, List.set_cons_succ, List.set_cons_zero, get_zero, get_succ, slt, cu j hj, r1, calm_ok]
    exact z)
  have o1 : (wr txt.pg 12).call "_law_one" [.int n, a, b] h2 = _ := one_ok n hn
  have w1 : (wr txt.pg 12).call "_law_which" [exD a b n] h2 = _ := which_ok n hn
  obtain ⟨r1, r2⟩ := hr (ar n) (ar_lt n) h2
  have ln : biD .len h2 (.tup ([a, b].take (ar n))) = some (.int (ar n : Nat)) := by
    rw [len_t, List.length_take]
    have := ar_lt n
    congr 3
    simp; omega
  have ix : ixD h2 (.lst [.str (s 0), .str (s 1), .str (s 2)]) (.int (ar n : Nat)) = some (.str (s (ar n))) := by
    have := ar_lt n
    generalize ar n = j at *
    match j, this with
    | 0, _ => rfl
    | 1, _ => rfl
    | 2, _ => rfl
    | j + 3, h => omega
  have c2 := comp_run (G := W 12) (n := 55) (m := false) (e := .cmp .eq (.v 10) (.v 3)) (t := .n 10) (k := .rng) (as := [(.c (.int 17))]) (i := none) (own := [10]) (env := [x0, some (.ptr p), some (.ptr m), some (.int n), some a, some b, some (.lst [.str (s 0), .str (s 1), .str (s 2)]), x7, some (exD a b n), some (.tup ([a, b].take (ar n))), x10]) (h := h2) (h1 := h2) (h2 := h2) (ds := [.int (17 : Nat)]) (ys := wL n) rfl (PL.src_rng (by decide)) (by rw [nL_len, List.length_range]; decide) (by
    have z := filtG (fn := turnF (.n 10) (ifsF (W 12) 55 none) (ev (W 12) 55 (.cmp .eq (.v 10) (.v 3))) (wipeE [x0, some (.ptr p), some (.ptr m), some (.int n), some a, some b, some (.lst [.str (s 0), .str (s 1), .str (s 2)]), x7, some (exD a b n), some (.tup ([a, b].take (ar n))), x10] [10])) (f := fun j : Nat => D.int j) (g := fun j => .bl (j == n)) (b := fun _ => true) (h := h2) (xs := List.range 17) fun j hj => by
      simp only [turnF, wipe_cons, wipe_nil, asg_n, of_some, Res.bind_ok, ifsF_none, if_true, ev_cmp, ev_v, List.set_cons_succ, List.set_cons_zero, get_zero, get_succ, eq_ii, ii_nat, Option.map_some, calm_ok]
    rw [List.filter_eq_self.mpr (by simp)] at z
    exact z)
  have hh := is_house (h := h2) (a := a) (b := b) n hn
  have hv := is_value (h := h2) (a := a) (b := b) n hn
  have nb := ne_bools (h := h2) (k := n)
  simp only [bodyF, asg_n, List.set_cons_succ, List.set_cons_zero, lapB, exs_cons, exs_nil, ex_set, ev_tup, evs_cons, evs_nil, ev_call, ev_v, get_succ, get_zero, of_some, Res.bind_ok, e1, e2, Res.sbind_ok, asg2, then_nx]
  rw [c1]
  simp only [reL_f, Res.sbind_ok, asg_n, List.set_cons_succ, List.set_cons_zero, then_nx, exs_cons, ex_set, ev_call, evs_cons, evs_nil, ev_v, get_succ, get_zero, of_some, Res.bind_ok, o1, asg2]
  rw [ex_ife]
  simp only [evT_cmp, ev_cmp, ev_bi, ev_v, get_succ, get_zero, of_some, Res.bind_ok, r1, ev_ix, ln, ix, r2, Option.map_some, truth_bl, Res.sbind_ok, Bool.false_eq_true, if_false, exs_nil, then_nx, exs_cons]
  rw [ex_ife]
  simp only [evT_or, evT_not, evT_val, ev_val, ev_isi, ev_v, get_succ, get_zero, of_some, Res.bind_ok, hh, hv, Option.map_some, truth_bl, Bool.not_true, Bool.false_eq_true, if_false, Res.sbind_ok, exs_nil, then_nx, exs_cons]
  rw [ex_ife]
  rw [evT_cmp, ev_cmp]
  simp only [ev_call, evs_cons, evs_nil, ev_v, get_succ, get_zero, of_some, Res.bind_ok, w1]
  rw [c2]
  simp only [reL_f, Res.bind_ok, nb, Option.map_some, of_some, truth_bl, Res.sbind_ok, Bool.false_eq_true, if_false, exs_nil, then_nx]
end
end SI.K00
end
section
set_option Elab.async false
set_option linter.all false
set_option maxRecDepth 100000
set_option maxHeartbeats 1000000
namespace SI.K00
open PySem L2 PL
abbrev law0 : IS := .set (.n 1) (.call "_law_pen" [(.v 0)])
abbrev law1 : IS := .set (.n 2) (.lst true [(.c .non), (.c (.bl true)), (.c (.int 0)), (.bin .sub (.neg (.c (.int 1))) (.call "_law_draw" [(.v 1), (.c (.int 9))])), (.bin .add (.bin .pow (.c (.int 10)) (.c (.int 40))) (.call "_law_draw" [(.v 1), (.c (.int 99))])), (.c (.str "")), (.c (.str "log")), (.tup [(.c (.int 1)), (.c (.int 2))]), (.lst false [(.c (.int 3))]), (.tup [(.c (.str "b")), (.c (.str "c"))])])
abbrev law2 : IS := .ex (.bm .append (.v 2) [(.tup [(.tup [(.c (.int 0)), (.c (.int 0))])])])
theorem law_is : i_law = law0 :: law1 :: law2 :: .loop (.n 3) .rng [(.c (.int 17))] lapB :: [.ret (.c (.bl true))] := rfl
abbrev penB : List IS := [.set (.n 1) (.bin .mod (.bi .int (.bin .add (.bin .mul (.v 1) (.c (.int 157))) (.v 2))) (.c (.int 1000000033)))]
theorem pen_start {k : Nat} (zs : List Int) : ∃ f, (W (k + 1)).call "_law_pen" [.ks true (zs.map D.int)] [] = .ok (.ptr 0) [pen (zs.map D.int) 0 0 0 f] ∧ 0 ≤ f ∧ f < 2 ^ 40 := by
  rw [q_l_pen]
  obtain ⟨env', h', f, t, x, rfl, rfl, ht0, ht1⟩ := for_inv (f := bodyF (W k) 59 (.n 2) penB) (I := fun _ env h' => ∃ t x, env = [some (.ks true (zs.map D.int)), some (.int t), x] ∧ h' = [] ∧ 0 ≤ t ∧ t < 2 ^ 40) (xs := zs.map D.int) (env := [some (.ks true (zs.map D.int)), some (.int 0), none]) (h := []) ⟨0, none, rfl, rfl, by decide, by decide⟩
    fun x hx _ env h' i => by
      obtain ⟨t, y, rfl, rfl, ht0, ht1⟩ := i
      obtain ⟨z, hz, rfl⟩ := List.mem_map.mp hx
      have b1 : big64 157 = true := by decide
      refine ⟨_, _, ?_, (t * 157 + z) % 1000000033, some (.int z), rfl, rfl, Int.emod_nonneg _ (by decide), ?_⟩
      · simp [bodyF, penB, mul_ic b1, int_i, mod_ii]
      · have := Int.emod_lt_of_pos (t * 157 + z) (show (0 : Int) < 1000000033 by decide)
        omega
  have l := loop_run (G := W k) (n := 59) (t := .n 2) (k := .seq) (as := [(.v 0)]) (b := penB) (h1 := []) (ds := [.ks true (zs.map D.int)]) (xs := zs.map D.int) rfl rfl f
  refine ⟨t, ?_, ht0, ht1⟩
  have li : biD .list [] (.ks true (zs.map D.int)) = some (.lst (zs.map D.int)) := rfl
  simp [i_l_pen, -ex_loop]
  rw [l]
  simp [li, fin, pen]
theorem loop_ok {p m : Nat} {xs : List D} (pm : m ≠ p) (hx : xs ≠ []) (hl : xs.length < 1000) (hs : ∀ x ∈ xs, Small x) : ∀ (n a r : Nat) (x0 x3 x4 x5 x6 x7 x8 x9 x10 : Option D) (h : Hs), a + n = 17 → PenAt (r + 2 * n) h p → h[m]? = some (.lst xs) →
    ∃ env' h', forLoop (bodyF (W 12) 59 (.n 3) lapB) (nL (List.range' a n)) [x0, some (.ptr p), some (.ptr m), x3, x4, x5, x6, x7, x8, x9, x10] h = .nx env' h'
  | 0, a, r, x0, x3, x4, x5, x6, x7, x8, x9, x10, h, _, _, _ => ⟨_, _, rfl⟩
  | n + 1, a, r, x0, x3, x4, x5, x6, x7, x8, x9, x10, h, ha, hp, hm => by
    obtain ⟨y4, y5, y6, y8, y9, h', e, hp', hm'⟩ := lap_ok (r := r + 2 * n) (n := a) (x0 := x0) (x3 := x3) (x4 := x4) (x5 := x5) (x6 := x6) (x7 := x7) (x8 := x8) (x9 := x9) (x10 := x10) (by omega) (hp.mono (by omega)) hm pm hx hl hs
    obtain ⟨env', h2, e2⟩ := loop_ok pm hx hl hs n (a + 1) r x0 (some (.int a)) y4 y5 y6 x7 y8 y9 x10 h' (by omega) hp' hm'
    refine ⟨env', h2, ?_⟩
    rw [List.range'_succ, nL_cons]
    unfold forLoop
    rw [e]
    exact e2
theorem loop17 {env : Nv} {h : Hs} {r : SRes} (e : forLoop (bodyF (W 12) 59 (.n 3) lapB) (nL (List.range' 0 17)) env h = r) : ex (W 12) 60 (.loop (.n 3) .rng [(.c (.int 17))] lapB) env h = r := by
  have er : nL (List.range 17) = nL (List.range' 0 17) := by rw [List.range_eq_range']
  have s : srcD .rng [.int 17] = some (nL (List.range' 0 17)) := by
    rw [← er]
    exact PL.src_rng (n := 17) (by decide)
  exact loop_run (n := 59) (h1 := h) (ds := [.int 17]) rfl s e
theorem plain (zs : List Int) (hz : zs.length ≤ 63) : ∃ h', runF (wr txt.pg 12) x_law.e [.ks true (zs.map D.int)] [] = .ok (.bl true) h' := by
  obtain ⟨f, e0, f0, f1⟩ := pen_start (k := 11) zs
  have e0 : (wr txt.pg 12).call "_law_pen" [.ks true (zs.map D.int)] [] = .ok (.ptr 0) [pen (zs.map D.int) 0 0 0 f] := e0
  have hp : PenAt (100 + 2) [pen (zs.map D.int) 0 0 0 f] 0 := ⟨zs, 0, 0, 0, f, rfl, by decide, by decide, by decide, by decide, f0, f1⟩
  generalize hh : [pen (zs.map D.int) 0 0 0 f] = h0 at *
  obtain ⟨d1, h1, e1, l1, p1, s1⟩ := draw_ok (k := 11) (r := 101) (m := 9) hp (by decide) (by decide)
  obtain ⟨d2, h2, e2, l2, p2, s2⟩ := draw_ok (k := 11) (r := 100) (m := 99) p1 (by decide) (by decide)
  have e1 : (wr txt.pg 12).call "_law_draw" [.ptr 0, .int 9] h0 = _ := e1
  have e2 : (wr txt.pg 12).call "_law_draw" [.ptr 0, .int 99] h1 = _ := e2
  obtain ⟨B, pw, hB⟩ := pow_40 (h := h1)
  have sm := menu_small (u := -1 - (d1 : Int)) (v := B + (d2 : Int)) (by omega) (big_small l2 hB)
  clear hB
  have ng : ∀ (k : Nat) (env : Nv) (g : Hs), ev (W 12) (k + 2) (.neg (.c (.int 1))) env g = .ok (.int (-1)) g := fun _ _ _ => rfl
  have s1' : ex (W 12) 60 law1 [some (.ks true (zs.map D.int)), some (.ptr 0), none, none, none, none, none, none, none, none, none] h0 = .nx [some (.ks true (zs.map D.int)), some (.ptr 0), some (.ptr h2.length), none, none, none, none, none, none, none, none] (h2 ++ [.lst [.non, .bl true, .int 0, .int (-1 - (d1 : Int)), .int (B + (d2 : Int)), .str "", .str "log", .tup [.int 1, .int 2], .lst [.int 3], .tup [.str "b", .str "c"]]]) := by
    simp only [law1, ex_set, ev_lst, evs_cons, evs_nil, ev_c, ev_bin, ev_call, ev_v, get_succ, get_zero, of_some, Res.bind_ok, ng, e1, sub_ii, pw, e2, add_ii, ev_tup, mkL_f, mkL_t, Res.sbind_ok, asg_n, List.set_cons_succ, List.set_cons_zero]
  have hm : (h2 ++ [Cell.lst [.non, .bl true, .int 0, .int (-1 - (d1 : Int)), .int (B + (d2 : Int)), .str "", .str "log", .tup [.int 1, .int 2], .lst [.int 3], .tup [.str "b", .str "c"]]])[h2.length]? = some (.lst [.non, .bl true, .int 0, .int (-1 - (d1 : Int)), .int (B + (d2 : Int)), .str "", .str "log", .tup [.int 1, .int 2], .lst [.int 3], .tup [.str "b", .str "c"]]) := get_last
  have ap := app_d (y := .tup [.tup [.int 0, .int 0]]) hm (by simp)
  have mo := app_ok hm
  rw [set_app] at ap
  have s2' : ex (W 12) 60 law2 [some (.ks true (zs.map D.int)), some (.ptr 0), some (.ptr h2.length), none, none, none, none, none, none, none, none] (h2 ++ [.lst [.non, .bl true, .int 0, .int (-1 - (d1 : Int)), .int (B + (d2 : Int)), .str "", .str "log", .tup [.int 1, .int 2], .lst [.int 3], .tup [.str "b", .str "c"]]]) = .nx [some (.ks true (zs.map D.int)), some (.ptr 0), some (.ptr h2.length), none, none, none, none, none, none, none, none] (h2 ++ [.lst (menuL (-1 - (d1 : Int)) (B + (d2 : Int)))]) := by
    simp only [law2, ex_ex, ev_bm, ev_v, get_succ, get_zero, of_some, Res.bind_ok, mo, if_true, evs_cons, evs_nil, ev_tup, ev_c, ap, Res.sbind_ok]
    rfl
  have p3 : PenAt 100 (h2 ++ [.lst (menuL (-1 - (d1 : Int)) (B + (d2 : Int)))]) 0 := by
    obtain ⟨ns, a, g, n, f, q1, q2⟩ := p2
    exact ⟨ns, a, g, n, f, get_app q1, q2⟩
  have lt : 0 < h2.length := by
    obtain ⟨ns, a, g, n, f, q1, q2⟩ := p2
    exact at_lt q1
  obtain ⟨env', h', e3⟩ := loop_ok (p := 0) (m := h2.length) (xs := menuL (-1 - (d1 : Int)) (B + (d2 : Int))) (by omega) (by simp [menuL]) (by simp [menuL]) sm 17 0 66 (some (.ks true (zs.map D.int))) none none none none none none none none (h2 ++ [.lst (menuL (-1 - (d1 : Int)) (B + (d2 : Int)))]) (by omega) p3 get_last
  generalize h2 ++ [Cell.lst (menuL (-1 - (d1 : Int)) (B + (d2 : Int)))] = h3 at *
  have l3 := loop17 e3
  refine ⟨h', PL.run_rt (e := x_law.e) (ds := [.ks true (zs.map D.int)]) rfl ?_⟩
  show exs (ex (W 12) 60) i_law [some (.ks true (zs.map D.int)), none, none, none, none, none, none, none, none, none, none] [] = _
  have s0 : ex (W 12) 60 law0 [some (.ks true (zs.map D.int)), none, none, none, none, none, none, none, none, none, none] [] = .nx [some (.ks true (zs.map D.int)), some (.ptr 0), none, none, none, none, none, none, none, none, none] h0 := by
    simp only [law0, ex_set, ev_call, evs_cons, evs_nil, ev_v, get_zero, of_some, Res.bind_ok, e0, Res.sbind_ok, asg_n, List.set_cons_succ, List.set_cons_zero]
  rw [law_is, exs_cons, s0, then_nx, exs_cons, s1', then_nx, exs_cons, s2', then_nx, exs_cons, l3, then_nx]
  simp only [exs_cons, exs_nil, ex_ret, ev_c, Res.sbind_ok, then_rt]
end SI.K00
end
section
set_option Elab.async false
set_option linter.all false
set_option maxRecDepth 100000
set_option maxHeartbeats 0
namespace SI.K00
open PySem PySem.Spec PyProof.Rows L2
def loose : List Str := "HouseError" :: "BadText" :: "BadNumber" :: "BadName" :: "NoName" :: "TakenName" :: "BadLadder" :: "BadSizes" :: "BadRow" :: "BadBox" :: "BadNet" :: "BadHouse" :: "BadProgram" :: "BadCode" :: "BadPaper" :: "NotKept" :: "NothingToUndo" :: "NothingToRedo" :: "_law_pen" :: "_law_draw" :: "_law_pick" :: "_law_one" :: "_law_single" :: "_law_which" :: []
abbrev row : PySem.W.OpenRow := PySem.W.OpenLaw.row PySem.Challenge.rw_silenthouses_k00_errors
abbrev hook : PySem.W.Hook := hookX 5 txt.fx txt.fn
def seen (s : PySem.W.SharedT) : He.AlD := obsXG 5 txt.fx txt.fn (HandSHeadRun.getT s)
theorem seen_eq (s : PySem.W.SharedT) : seen s = hook.obs s.abs := obsXG_eq (HandSHeadRun.getT_eq s)
theorem ran (w : World) : HandSHeadRun.RunEq row (PySem.W.view row.prog [26]) hook seen 40000 loose w := by
  intro os
  kernel_rfl
theorem nameIs : (HandSHeadRun.topDef row.prog 26).name = ("law" : Str) := by kernel_rfl
end SI.K00
open PySem PySem.W PySem.Calls PyProof.Rows
theorem PySem.Challenge.cw_silenthouses_k00_errors_holds : PySem.Challenge.rw_silenthouses_k00_errors.Holds := by
  w_on; o_law
  refine HandSHeadRun.head_any (r := SI.K00.row) (q := view SI.K00.row.prog [26]) (H := SI.K00.hook) (ob := SI.K00.seen) (M := 40000) (loose := SI.K00.loose) (d := HandSHeadRun.topDef SI.K00.row.prog 26) (kwd := [])
    SI.K00.seen_eq (by kernel_rfl) (fun s => by kernel_rfl) SI.K00.ran (by kernel_rfl) (by kernel_rfl) (by kernel_rfl) (by rfl) (by first | assumption | decide +kernel) (by decide +kernel) ⟨rfl, rfl, rfl, rfl, rfl, by decide +kernel⟩ ?wit ?cal
  case wit => w_witness2
  case cal =>
    refine SI.walk_G (l := PySem.Challenge.rw_silenthouses_k00_errors) (n := 63) (kk := 13) (y := "script") rfl (by decide) (by kernel_rfl) ⟨rfl, by decide, by decide⟩ fun w mg fa hp ⟨K, kin, says⟩ gl hm => ?_
    have hl : mg ("law" : PySem.Str) = some (.ref fa) := by
      rw [← SI.K00.nameIs]
      exact hm
    obtain ⟨fd, spr, h1, h2, h3⟩ := SI.law_end (t := SI.K00.txt) (k := 12) (P := PySem.Challenge.pw_silenthouses_k00_errors) (w := w) (x := "script") SI.K00.txtOk (q := ("law", SI.K00.x_law)) (by kernel_rfl) rfl SI.K00.plain kin gl says fa hl
    exact ⟨K, fd, spr, kin, h1, h2, h3⟩
end
