import PyProof.Rows.All
import Wide.All
import OpenK.AllK
import Wide.FinOn
import HandS.ForSpec
import HandS.Dict
import HandS.Iter
import HandS.Text
import HandS.Flow
import HandS.Comp
import HandS.IsInst
import HandS.Conv
import HandS.TupAny
import HandS.TupMul
import HandS.Zip
import HandS.Deep
import HandS.Defaults
import HandS.ExcInit
import HandS.ExcField
import HandS.ExcValue
import HandS.ExcIs
import HandS.Style
import HandS.NoneIn
import KE.KExcInit
import KE.KNestM
import HandS.Lambda
import HandS.HeadHook1
import KE.GoesEnum
import HandS.DictTup
import HandS.Walk
import HandS.TryMany
import HandS.Ends
import HandS.HeadEnd
import HandS.HeadHook2
import HandS.Head0
import HandS.Head1
import HandS.Head2
import HandS.EndTab
import PyProof.ReprLen
import PySem.Challenge.RW_silenthouses_k14_errors_and_words_of_kin
import HandS.Words
import HandS.WordsExc
section
set_option Elab.async false
set_option linter.all false
set_option maxRecDepth 100000
set_option maxHeartbeats 4000000
/-! SI0: plain data, what they stand for in the layer's heap, transitions. -/
namespace SI
open PySem PySem.Spec PyProof.Rows L2

/-- plain data: tuples and unshared lists are values; ks: a list (tuple) that is only read (the script, a constant of the module); ptr: a changing object, by its number -/
inductive D where
  | non | bl (b : Bool) | int (i : Int) | str (s : Str)
  | tup (xs : List D) | lst (xs : List D)
  | ks (l : Bool) (xs : List D)
  | ptr (n : Nat) | glo (x : Str)
  | exv (C : Str) (ns : List Str) (ds : List D)
  deriving Inhabited

/-- a changing object -/
inductive Cell where
  | lst (xs : List D)
  | dK (kvs : List (Key × D))
  | dT (kvs : List (List Key × D))
  | ins (C : Str) (fs : List (Str × D))
  | tab (x : Str)
  | dead
  deriving Inhabited
abbrev Hs := List Cell

/-- where the changing objects lie, and the objects that stay for ever as they are -/
structure Om where
  n : Nat
  φ : Nat → Addr
  F : Hp

abbrev Mg := Str → Option Value
section
variable (K : PySem.W.Frag) (mg : Mg)
mutual
inductive Rep (O : Om) : D → V → Prop
  | non : Rep O .non .non
  | bl (b : Bool) : Rep O (.bl b) (.bl b)
  | int (i : Int) : Rep O (.int i) (.int i)
  | str (s : Str) : Rep O (.str s) (.str s)
  | tup {p : Addr} {xs : List D} {vs : List V} : O.F p = some (.tup vs) → vs.length ≤ sizeLine → RepL O xs vs → Rep O (.tup xs) (.ref p)
  | lst {p : Addr} {xs : List D} {vs : List V} : O.F p = some (.lst vs) → vs.length ≤ sizeLine → RepL O xs vs → Rep O (.lst xs) (.ref p)
  | ksl {p : Addr} {xs : List D} {vs : List V} : SqL K O.F p vs → vs.length ≤ sizeLine → RepL O xs vs → Rep O (.ks true xs) (.ref p)
  | kst {p : Addr} {xs : List D} {vs : List V} : SqT K O.F p vs → vs.length ≤ sizeLine → RepL O xs vs → Rep O (.ks false xs) (.ref p)
  | ptr {n : Nat} : n < O.n → Rep O (.ptr n) (.ref (O.φ n))
  | glo {x : Str} {v : V} {u : Value} : mg x = some u → RelV v u → Rep O (.glo x) v
  | exv {p dx c : Addr} {C : Str} {ns : List Str} {ds : List D} {vs : List V} : mg C = some (.ref c) → O.F p = some (exo p c (some dx)) → O.F dx = some (exd dx (ns.zip vs)) → RepL O ds vs → ns.length = ds.length → Rep O (.exv C ns ds) (.ref p)
  | exz {p c : Addr} {C : Str} : mg C = some (.ref c) → O.F p = some (exo p c none) → Rep O (.exv C [] []) (.ref p)
inductive RepL (O : Om) : List D → List V → Prop
  | nil : RepL O [] []
  | cons {d : D} {v : V} {ds : List D} {vs : List V} : Rep O d v → RepL O ds vs → RepL O (d :: ds) (v :: vs)
end
/-- pairs: the keys alike, the values represented -/
inductive RepP {κ : Type} (O : Om) : List (κ × D) → List (κ × V) → Prop
  | nil : RepP O [] []
  | cons {k : κ} {d : D} {v : V} {ds : List (κ × D)} {vs : List (κ × V)} : Rep K mg O d v → RepP O ds vs → RepP O ((k, d) :: ds) ((k, v) :: vs)

/-- the table of the code objects that the def x makes -/
def TabAt (x : Str) (c p : Addr) : Prop := ∃ (f : Addr) (ob : Obj) (fd : FuncData), mg x = some (.ref f) ∧ K.lookup f = some ob ∧ ob.data = .func fd ∧ fd.code = .ref c ∧ PySem.W.codeHdIn K c p = true
def lamQ (x : Str) : Str := x ++ ".<locals>." ++ "<lambda>"
def TabF (O : Om) (H : Hp) (p : Addr) (q : Str) : Prop := ∃ ps : Array Value, H p = some (.tbl ps) ∧ TriplesOk ps.toList ∧ ∀ (pos : Pos) (cv : Value), codeAmong pos ps.toList = some cv → ∃ c, cv = .ref c ∧ O.F c = some (LamX.CodeO c q)
def CellOk (O : Om) (H : Hp) (p : Addr) : Cell → Prop
  | .lst xs => ∃ vs, H p = some (.lst vs) ∧ vs.length ≤ sizeLine ∧ RepL K mg O xs vs
  | .dK kvs => ∃ ws, H p = some (.dK ws) ∧ RepP K mg O kvs ws
  | .dT kvs => ∃ ws, H p = some (.dT ws) ∧ RepP K mg O kvs ws
  | .ins C fs => ∃ (c dx : Addr) (ws : List (Str × V)), mg C = some (.ref c) ∧ H p = some (.ins c dx ws) ∧ RepP K mg O fs ws
  | .tab x => (∃ c, TabAt K mg x c p) ∧ TabF O H p (lamQ x)
  | .dead => True

/-- the plain heap h stands for the tracked heap H -/
structure SR (O : Om) (h : Hs) (H : Hp) : Prop where
  len : h.length = O.n
  sub : ∀ a o, O.F a = some o → H a = some o
  inj : ∀ i j, i < O.n → j < O.n → O.φ i = O.φ j → i = j
  old : ∀ i, i < O.n → ∃ o, H (O.φ i) = some o
  nof : ∀ (i : Nat) (c : Cell), h[i]? = some c → c ≠ .dead → O.F (O.φ i) = none
  cell : ∀ (i : Nat) (c : Cell), h[i]? = some c → CellOk K mg O H (O.φ i) c
end

/-- a tuple, which never changes -/
def tupO : HO → Bool
  | .tup _ => true
  | _ => false
/-- a transition -/
structure Stp (O : Om) (H : Hp) (O' : Om) (H' : Hp) : Prop where
  n : O.n ≤ O'.n
  φ : ∀ i, i < O.n → O'.φ i = O.φ i
  F : ∀ a o, O.F a = some o → O'.F a = some o
  fr : ∀ a o, H a = some o → (∀ i, i < O.n → O.φ i ≠ a) → H' a = some o ∧ (∀ i, i < O'.n → O'.φ i ≠ a) ∧ (O.F a = none → tupO o = false → O'.F a = none)
theorem Stp.refl (O : Om) (H : Hp) : Stp O H O H := ⟨Nat.le_refl _, fun _ _ => rfl, fun _ _ e => e, fun _ _ e k => ⟨e, k, fun q _ => q⟩⟩
theorem Stp.trans {O O1 O2 : Om} {H H1 H2 : Hp} (a : Stp O H O1 H1) (b : Stp O1 H1 O2 H2) : Stp O H O2 H2 :=
  ⟨Nat.le_trans a.n b.n, fun i hi => (b.φ i (Nat.lt_of_lt_of_le hi a.n)).trans (a.φ i hi), fun c o e => b.F c o (a.F c o e),
    fun c o e k =>
      have y := a.fr c o e k
      have z := b.fr c o y.1 y.2.1
      ⟨z.1, z.2.1, fun q t => z.2.2 (y.2.2 q t) t⟩⟩

section
variable {K : PySem.W.Frag} {mg : Mg} {O O' : Om} {H H' : Hp}
theorem TabF.up {p : Addr} {q : Str} (k : TabF O H p q) (hF : ∀ a o, O.F a = some o → O'.F a = some o) (e : ∀ o, H p = some o → H' p = some o) : TabF O' H' p q :=
  let ⟨ps, h1, h2, h3⟩ := k
  ⟨ps, e _ h1, h2, fun pos cv hc => let ⟨c, e1, e2⟩ := h3 pos cv hc; ⟨c, e1, hF _ _ e2⟩⟩
theorem sqL_up {F F' : Hp} (up : ∀ a o, F a = some o → F' a = some o) {p : Addr} {vs : List V} (q : SqL K F p vs) : SqL K F' p vs := Same.seq up q
theorem sqT_up {F F' : Hp} (up : ∀ a o, F a = some o → F' a = some o) {p : Addr} {vs : List V} (q : SqT K F p vs) : SqT K F' p vs := by
  rcases q with (q | ⟨ob, q⟩) | q
  · exact .inl (.inl (up _ _ q))
  · exact .inl (.inr ⟨ob, up _ _ q⟩)
  · exact .inr q
mutual
theorem Rep.up (hn : O.n ≤ O'.n) (hφ : ∀ i, i < O.n → O'.φ i = O.φ i) (hF : ∀ a o, O.F a = some o → O'.F a = some o) : ∀ {d : D} {v : V}, Rep K mg O d v → Rep K mg O' d v
  | _, _, .non => .non
  | _, _, .bl b => .bl b
  | _, _, .int i => .int i
  | _, _, .str s => .str s
  | _, _, .tup q z r => .tup (hF _ _ q) z (RepL.up hn hφ hF r)
  | _, _, .lst q z r => .lst (hF _ _ q) z (RepL.up hn hφ hF r)
  | _, _, .ksl q z r => .ksl (sqL_up hF q) z (RepL.up hn hφ hF r)
  | _, _, .kst q z r => .kst (sqT_up hF q) z (RepL.up hn hφ hF r)
  | _, _, .ptr (n := n) q => by
    rw [← hφ n q]
    exact .ptr (Nat.lt_of_lt_of_le q hn)
  | _, _, .glo e r => .glo e r
  | _, _, .exv e q z r l => .exv e (hF _ _ q) (hF _ _ z) (RepL.up hn hφ hF r) l
  | _, _, .exz e q => .exz e (hF _ _ q)
theorem RepL.up (hn : O.n ≤ O'.n) (hφ : ∀ i, i < O.n → O'.φ i = O.φ i) (hF : ∀ a o, O.F a = some o → O'.F a = some o) : ∀ {ds : List D} {vs : List V}, RepL K mg O ds vs → RepL K mg O' ds vs
  | _, _, .nil => .nil
  | _, _, .cons r t => .cons (Rep.up hn hφ hF r) (RepL.up hn hφ hF t)
end
theorem Rep.stp (s : Stp O H O' H') {d : D} {v : V} (r : Rep K mg O d v) : Rep K mg O' d v := r.up s.n s.φ s.F
theorem RepL.stp (s : Stp O H O' H') {d : List D} {v : List V} (r : RepL K mg O d v) : RepL K mg O' d v := r.up s.n s.φ s.F
theorem RepP.stp {κ : Type} (s : Stp O H O' H') {d : List (κ × D)} {v : List (κ × V)} (r : RepP K mg O d v) : RepP K mg O' d v := by
  induction r with
  | nil => exact .nil
  | cons q _ ih => exact .cons (q.stp s) ih
theorem RepL.length {ds : List D} {vs : List V} (r : RepL K mg O ds vs) : ds.length = vs.length := by
  induction vs generalizing ds with
  | nil => cases r; rfl
  | cons v vs ih => cases r with | cons q t => simp [ih t]
theorem RepL.app : ∀ {ds es : List D} {vs ws : List V}, RepL K mg O ds vs → RepL K mg O es ws → RepL K mg O (ds ++ es) (vs ++ ws)
  | _, _, _, _, .nil, s => s
  | _, _, _, _, .cons r t, s => .cons r (RepL.app t s)
theorem RepL.get : ∀ {ds : List D} {vs : List V} {i : Nat} {d : D}, RepL K mg O ds vs → ds[i]? = some d → ∃ v, vs[i]? = some v ∧ Rep K mg O d v
  | _, _, _, _, .nil, e => by simp at e
  | _, _, 0, _, .cons r _, e => by simp at e; subst e; exact ⟨_, rfl, r⟩
  | _, _, i + 1, d, .cons _ t, e => by
    obtain ⟨v, h1, h2⟩ := RepL.get (i := i) (d := d) t (by simpa using e)
    exact ⟨v, by simpa using h1, h2⟩
theorem RepL.getv : ∀ {ds : List D} {vs : List V} {i : Nat} {v : V}, RepL K mg O ds vs → vs[i]? = some v → ∃ d, ds[i]? = some d ∧ Rep K mg O d v
  | _, _, _, _, .nil, e => by simp at e
  | _, _, 0, _, .cons r _, e => by simp at e; subst e; exact ⟨_, rfl, r⟩
  | _, _, i + 1, d, .cons _ t, e => by
    obtain ⟨v, h1, h2⟩ := RepL.getv (i := i) (v := d) t (by simpa using e)
    exact ⟨v, by simpa using h1, h2⟩
theorem RepL.take : ∀ {ds : List D} {vs : List V} (n : Nat), RepL K mg O ds vs → RepL K mg O (ds.take n) (vs.take n)
  | _, _, 0, _ => .nil
  | _, _, _ + 1, .nil => .nil
  | _, _, n + 1, .cons r t => .cons r (RepL.take n t)
theorem RepL.drop : ∀ {ds : List D} {vs : List V} (n : Nat), RepL K mg O ds vs → RepL K mg O (ds.drop n) (vs.drop n)
  | _, _, 0, r => r
  | _, _, _ + 1, .nil => .nil
  | _, _, n + 1, .cons _ t => RepL.drop n t
theorem RepL.set : ∀ {ds : List D} {vs : List V} (n : Nat) {d : D} {v : V}, RepL K mg O ds vs → Rep K mg O d v → RepL K mg O (ds.set n d) (vs.set n v)
  | _, _, _, _, _, .nil, _ => .nil
  | _, _, 0, _, _, .cons _ t, r => .cons r t
  | _, _, n + 1, _, _, .cons q t, r => .cons q (RepL.set n t r)
theorem RepL.rev {ds : List D} {vs : List V} (r : RepL K mg O ds vs) : RepL K mg O ds.reverse vs.reverse := by
  induction vs generalizing ds with
  | nil => cases r; exact .nil
  | cons v vs ih =>
    cases r with
    | cons q t =>
      rw [List.reverse_cons, List.reverse_cons]
      exact (ih t).app (.cons q .nil)
theorem RepL.rep {ds : List D} {vs : List V} (r : RepL K mg O ds vs) : ∀ k : Nat, RepL K mg O (List.replicate k ds).flatten (List.replicate k vs).flatten
  | 0 => .nil
  | k + 1 => by
    rw [List.replicate_succ, List.replicate_succ, List.flatten_cons, List.flatten_cons]
    exact r.app (RepL.rep r k)
theorem RepL.ints (O : Om) : ∀ ns : List Int, RepL K mg O (ns.map D.int) (ns.map V.int)
  | [] => .nil
  | n :: ns => .cons (.int n) (RepL.ints O ns)

theorem CellOk.stp (s : Stp O H O' H') {p : Addr} {c : Cell} (k : CellOk K mg O H p c) (e : c ≠ .dead → ∀ o, H p = some o → H' p = some o) : CellOk K mg O' H' p c := by
  cases c with
  | lst xs => obtain ⟨vs, a, z, b⟩ := k; exact ⟨vs, e (by simp) _ a, z, b.stp s⟩
  | dK xs => obtain ⟨vs, a, b⟩ := k; exact ⟨vs, e (by simp) _ a, b.stp s⟩
  | dT xs => obtain ⟨vs, a, b⟩ := k; exact ⟨vs, e (by simp) _ a, b.stp s⟩
  | ins C fs => obtain ⟨c, dx, ws, m, a, b⟩ := k; exact ⟨c, dx, ws, m, e (by simp) _ a, b.stp s⟩
  | tab x => exact ⟨k.1, k.2.up s.F (e (by simp))⟩
  | dead => trivial

/-- a new thing that stays for ever -/
def Om.frz (O : Om) (p : Addr) (o : HO) : Om := ⟨O.n, O.φ, upd O.F p o⟩
theorem SR.newF {h : Hs} (S : SR K mg O h H) {p : Addr} (hp : H p = none) (o : HO) :
    Stp O H (O.frz p o) (upd H p o) ∧ SR K mg (O.frz p o) h (upd H p o) := by
  have up : ∀ a ob, O.F a = some ob → upd O.F p o a = some ob := fun a ob e => by
    have ne : a ≠ p := ne_of_none (S.sub a ob e) hp
    rw [upd_ne ne]; exact e
  have st : Stp O H (O.frz p o) (upd H p o) := ⟨Nat.le_refl _, fun _ _ => rfl, up, fun a ob e k => ⟨by rw [upd_ne (ne_of_none e hp)]; exact e, k, fun q _ => by
    show upd O.F p o a = none
    rw [upd_ne (ne_of_none e hp)]; exact q⟩⟩
  have keep : ∀ a ob, H a = some ob → upd H p o a = some ob := fun a ob q => by rw [upd_ne (ne_of_none q hp)]; exact q
  refine ⟨st, S.len, fun a ob e => ?_, S.inj, fun i hi => ?_, fun i c e nd => ?_, fun i c e => ?_⟩
  · by_cases ha : a = p
    · subst ha
      have e' : upd O.F a o a = some ob := e
      rw [upd_same] at e' ⊢
      exact e'
    · have e' : upd O.F p o a = some ob := e
      rw [upd_ne ha] at e' ⊢
      exact S.sub a ob e'
  · obtain ⟨ob, q⟩ := S.old i hi
    exact ⟨ob, keep _ _ q⟩
  · obtain ⟨ob, q⟩ := S.old i (by rw [← S.len]; exact (List.getElem?_eq_some_iff.mp e).1)
    show upd O.F p o (O.φ i) = none
    rw [upd_ne (ne_of_none q hp)]
    exact S.nof i c e nd
  · exact (S.cell i c e).stp st fun _ ob q => keep _ _ q
/-- one changing object more -/
def Om.more (O : Om) (p : Addr) : Om := ⟨O.n + 1, fun i => if i = O.n then p else O.φ i, O.F⟩
theorem Om.more_old {p : Addr} {i : Nat} (hi : i < O.n) : (O.more p).φ i = O.φ i := if_neg (Nat.ne_of_lt hi)
theorem Om.more_new {p : Addr} : (O.more p).φ O.n = p := if_pos rfl
/-- a changing object is made at p: the new heap H' has it there, all else is as it was -/
theorem SR.newC {h : Hs} (S : SR K mg O h H) {p : Addr} (hp : H p = none) {c : Cell} (hk : ∀ a o, H a = some o → H' a = some o) (hpo : ∃ o, H' p = some o)
    (hc : CellOk K mg (O.more p) H' p c) : Stp O H (O.more p) H' ∧ SR K mg (O.more p) (h ++ [c]) H' := by
  have ne : ∀ i, i < O.n → O.φ i ≠ p := fun i hi e => by
    obtain ⟨ob, q⟩ := S.old i hi
    rw [e, hp] at q; cases q
  have st : Stp O H (O.more p) H' := by
    refine ⟨Nat.le_succ _, fun i hi => Om.more_old hi, fun a o e => e, fun a o e k => ⟨hk a o e, fun i hi => ?_, fun q _ => q⟩⟩
    by_cases hn : i = O.n
    · rw [hn, Om.more_new]
      intro z
      rw [z, e] at hp; cases hp
    · have hi' : i < O.n := by have : i < O.n + 1 := hi; omega
      rw [Om.more_old hi']
      exact k i hi'
  have hl := S.len
  refine ⟨st, by rw [List.length_append, hl]; rfl, fun a o e => hk a o (S.sub a o e), fun i j hi hj e => ?_, fun i hi => ?_, fun i d e nd => ?_, fun i d e => ?_⟩
  · have hi' : i < O.n + 1 := hi
    have hj' : j < O.n + 1 := hj
    by_cases h1 : i = O.n
    · by_cases h2 : j = O.n
      · rw [h1, h2]
      · rw [h1, Om.more_new, Om.more_old (by omega)] at e
        exact absurd e.symm (ne j (by omega))
    · by_cases h2 : j = O.n
      · rw [h2, Om.more_new, Om.more_old (by omega)] at e
        exact absurd e (ne i (by omega))
      · rw [Om.more_old (by omega), Om.more_old (by omega)] at e
        exact S.inj i j (by omega) (by omega) e
  · by_cases hn : i = O.n
    · rw [hn, Om.more_new]; exact hpo
    · have hi' : i < O.n := by have : i < O.n + 1 := hi; omega
      rw [Om.more_old hi']
      obtain ⟨ob, q⟩ := S.old i hi'
      exact ⟨ob, hk _ _ q⟩
  · have hb : i < h.length + 1 := by
      have z := (List.getElem?_eq_some_iff.mp e).1
      rw [List.length_append] at z; exact z
    by_cases hn : i = O.n
    · rw [hn, Om.more_new]
      cases q : O.F p with
      | none => exact q
      | some o =>
        have z := S.sub p o q
        rw [hp] at z; cases z
    · have hi : i < h.length := by omega
      rw [Om.more_old (by omega)]
      rw [List.getElem?_append_left hi] at e
      exact S.nof i d e nd
  · have hb : i < h.length + 1 := by
      have z := (List.getElem?_eq_some_iff.mp e).1
      rw [List.length_append] at z; exact z
    by_cases hn : i = O.n
    · rw [hn, ← hl, List.getElem?_append_right (Nat.le_refl _), Nat.sub_self] at e
      have e2 : c = d := by simpa using e
      rw [hn, Om.more_new, ← e2]; exact hc
    · have hi : i < h.length := by omega
      rw [Om.more_old (by omega)]
      rw [List.getElem?_append_left hi] at e
      exact (S.cell i d e).stp st fun _ ob q => hk _ _ q
/-- a changing object is changed -/
theorem SR.put {h : Hs} (S : SR K mg O h H) {n : Nat} {c0 c : Cell} {o : HO} (e0 : h[n]? = some c0) (nd : c0 ≠ .dead)
    (hc : CellOk K mg O (upd H (O.φ n) o) (O.φ n) c) : Stp O H O (upd H (O.φ n) o) ∧ SR K mg O (h.set n c) (upd H (O.φ n) o) := by
  have hn : n < O.n := by rw [← S.len]; exact (List.getElem?_eq_some_iff.mp e0).1
  have hnl : n < h.length := (List.getElem?_eq_some_iff.mp e0).1
  have nf := S.nof n c0 e0 nd
  have st : Stp O H O (upd H (O.φ n) o) := ⟨Nat.le_refl _, fun _ _ => rfl, fun _ _ e => e, fun a ob e k => ⟨by rw [upd_ne (fun z => k n hn z.symm)]; exact e, k, fun q _ => q⟩⟩
  refine ⟨st, by rw [List.length_set]; exact S.len, fun a ob e => ?_, S.inj, fun i hi => ?_, fun i d e nd' => ?_, fun i d e => ?_⟩
  · rw [upd_ne (fun z => by rw [z, nf] at e; cases e)]
    exact S.sub a ob e
  · by_cases hi2 : O.φ i = O.φ n
    · rw [hi2]; exact ⟨_, upd_same⟩
    · rw [upd_ne hi2]; exact S.old i hi
  · by_cases hi : i = n
    · rw [hi]; exact nf
    · rw [List.getElem?_set_ne (Ne.symm hi)] at e
      exact S.nof i d e nd'
  · by_cases hi : i = n
    · rw [hi, List.getElem?_set_self hnl] at e
      cases e
      rw [hi]; exact hc
    · rw [List.getElem?_set_ne (Ne.symm hi)] at e
      have hlt : i < O.n := by rw [← S.len]; exact (List.getElem?_eq_some_iff.mp e).1
      exact (S.cell i d e).stp st fun _ ob q => by
        rw [upd_ne (fun z => hi (S.inj i n hlt hn z))]; exact q
/-- a list that changes no more -/
theorem SR.freeze {h : Hs} (S : SR K mg O h H) {n : Nat} {xs : List D} (e0 : h[n]? = some (.lst xs)) :
    ∃ O', Stp O H O' H ∧ SR K mg O' (h.set n .dead) H ∧ Rep K mg O' (.lst xs) (.ref (O.φ n)) := by
  have hn : n < O.n := by rw [← S.len]; exact (List.getElem?_eq_some_iff.mp e0).1
  have hnl : n < h.length := (List.getElem?_eq_some_iff.mp e0).1
  obtain ⟨vs, hv, hz, hr⟩ := S.cell n _ e0
  have nf := S.nof n _ e0 (by simp)
  have up : ∀ a ob, O.F a = some ob → upd O.F (O.φ n) (.lst vs) a = some ob := fun a ob e => by
    rw [upd_ne (fun z => by rw [z, nf] at e; cases e)]; exact e
  have st : Stp O H (O.frz (O.φ n) (.lst vs)) H := ⟨Nat.le_refl _, fun _ _ => rfl, up, fun a ob e k => ⟨e, k, fun q _ => by
    show upd O.F (O.φ n) (.lst vs) a = none
    rw [upd_ne (fun z => k n hn z.symm)]; exact q⟩⟩
  refine ⟨O.frz (O.φ n) (.lst vs), st, ⟨by rw [List.length_set]; exact S.len, fun a ob e => ?_, S.inj, S.old, fun i d e nd' => ?_, fun i d e => ?_⟩, ?_⟩
  · have e' : upd O.F (O.φ n) (.lst vs) a = some ob := e
    by_cases ha : a = O.φ n
    · rw [ha, upd_same] at e'
      rw [ha, hv]; exact e'
    · rw [upd_ne ha] at e'
      exact S.sub a ob e'
  · by_cases hi : i = n
    · rw [hi, List.getElem?_set_self hnl] at e
      cases e
      exact absurd rfl nd'
    · rw [List.getElem?_set_ne (Ne.symm hi)] at e
      have hlt : i < O.n := by rw [← S.len]; exact (List.getElem?_eq_some_iff.mp e).1
      show upd O.F (O.φ n) (.lst vs) (O.φ i) = none
      rw [upd_ne (fun z => hi (S.inj i n hlt hn z))]
      exact S.nof i d e nd'
  · by_cases hi : i = n
    · rw [hi, List.getElem?_set_self hnl] at e
      cases e
      trivial
    · rw [List.getElem?_set_ne (Ne.symm hi)] at e
      exact (S.cell i d e).stp st fun _ ob q => q
  · refine .lst (p := O.φ n) (vs := vs) ?_ hz (hr.stp st)
    show upd O.F (O.φ n) (.lst vs) (O.φ n) = _
    rw [upd_same]
theorem SR.at {h : Hs} (S : SR K mg O h H) {n : Nat} {c : Cell} (e : h[n]? = some c) : n < O.n ∧ CellOk K mg O H (O.φ n) c :=
  ⟨by rw [← S.len]; exact (List.getElem?_eq_some_iff.mp e).1, S.cell n c e⟩
theorem Rep.more {p : Addr} {d : D} {v : V} (r : Rep K mg O d v) : Rep K mg (O.more p) d v := r.up (Nat.le_succ _) (fun i hi => Om.more_old hi) fun _ _ e => e
theorem RepL.more {p : Addr} {d : List D} {v : List V} (r : RepL K mg O d v) : RepL K mg (O.more p) d v := r.up (Nat.le_succ _) (fun i hi => Om.more_old hi) fun _ _ e => e
theorem RepP.upp {κ : Type} {d : List (κ × D)} {v : List (κ × V)} (r : RepP K mg O d v) (hn : O.n ≤ O'.n) (hφ : ∀ i, i < O.n → O'.φ i = O.φ i) (hF : ∀ a o, O.F a = some o → O'.F a = some o) : RepP K mg O' d v := by
  induction r with
  | nil => exact .nil
  | cons q _ ih => exact .cons (q.up hn hφ hF) ih
theorem RepP.more {κ : Type} {p : Addr} {d : List (κ × D)} {v : List (κ × V)} (r : RepP K mg O d v) : RepP K mg (O.more p) d v := r.upp (Nat.le_succ _) (fun i hi => Om.more_old hi) fun _ _ e => e
theorem CellOk.upd {p q : Addr} {c : Cell} {o : HO} (hn : O.n ≤ O'.n) (hφ : ∀ i, i < O.n → O'.φ i = O.φ i) (hF : ∀ a o, O.F a = some o → O'.F a = some o) (k : CellOk K mg O H p c) (ne : p ≠ q) : CellOk K mg O' (L2.upd H q o) p c := by
  cases c with
  | lst xs => obtain ⟨vs, a, z, b⟩ := k; exact ⟨vs, by rw [upd_ne ne]; exact a, z, b.up hn hφ hF⟩
  | dK xs => obtain ⟨vs, a, b⟩ := k; exact ⟨vs, by rw [upd_ne ne]; exact a, b.upp hn hφ hF⟩
  | dT xs => obtain ⟨vs, a, b⟩ := k; exact ⟨vs, by rw [upd_ne ne]; exact a, b.upp hn hφ hF⟩
  | ins C fs => obtain ⟨c, dx, ws, m, a, b⟩ := k; exact ⟨c, dx, ws, m, by rw [upd_ne ne]; exact a, b.upp hn hφ hF⟩
  | tab x => exact ⟨k.1, k.2.up hF fun u z => by rw [upd_ne ne]; exact z⟩
  | dead => trivial
/-- a thing at p that was new at H is still no part of the plain heap at H1 -/
structure Apart (O : Om) (H : Hp) (p : Addr) : Prop where
  at_ : ∃ o, H p = some o
  ne : ∀ i, i < O.n → O.φ i ≠ p
  nf : O.F p = none
theorem Apart.new {h : Hs} (S : SR K mg O h H) {p : Addr} (hp : H p = none) (o : HO) : Apart O (upd H p o) p ∧ SR K mg O h (upd H p o) := by
  have nf : O.F p = none := by
    cases q : O.F p with
    | none => rfl
    | some u =>
      have z := S.sub p u q
      rw [hp] at z; cases z
  have ne : ∀ i, i < O.n → O.φ i ≠ p := fun i hi e => by
    obtain ⟨ob, q⟩ := S.old i hi
    rw [e, hp] at q; cases q
  refine ⟨⟨⟨o, upd_same⟩, ne, nf⟩, S.len, fun a u e => ?_, S.inj, fun i hi => ?_, S.nof, fun i c e => ?_⟩
  · rw [upd_ne (fun z => by rw [z, nf] at e; cases e)]; exact S.sub a u e
  · rw [upd_ne (ne i hi)]; exact S.old i hi
  · exact (S.cell i c e).upd (Nat.le_refl _) (fun _ _ => rfl) (fun _ _ e => e) (ne i (by rw [← S.len]; exact (List.getElem?_eq_some_iff.mp e).1))
theorem Apart.stp {p : Addr} (a : Apart O H p) (s : Stp O H O' H') {o : HO} (e : H p = some o) (ht : tupO o = false := by rfl) : Apart O' H' p ∧ H' p = some o :=
  have z := s.fr p o e a.ne
  ⟨⟨⟨o, z.1⟩, z.2.1, z.2.2 a.nf ht⟩, z.1⟩
theorem Apart.upd {p : Addr} (a : Apart O H p) (o : HO) : Apart O (L2.upd H p o) p := ⟨⟨o, upd_same⟩, a.ne, a.nf⟩
theorem Apart.srU {h : Hs} (S : SR K mg O h H) {p : Addr} (a : Apart O H p) (o : HO) : SR K mg O h (L2.upd H p o) := by
  refine ⟨S.len, fun b u e => ?_, S.inj, fun i hi => ?_, S.nof, fun i c e => ?_⟩
  · rw [upd_ne (fun z => by rw [z, a.nf] at e; cases e)]; exact S.sub b u e
  · rw [upd_ne (a.ne i hi)]; exact S.old i hi
  · exact (S.cell i c e).upd (Nat.le_refl _) (fun _ _ => rfl) (fun _ _ e => e) (a.ne i (by rw [← S.len]; exact (List.getElem?_eq_some_iff.mp e).1))
theorem CellOk.gen {p : Addr} {c : Cell} (hn : O.n ≤ O'.n) (hφ : ∀ i, i < O.n → O'.φ i = O.φ i) (hF : ∀ a o, O.F a = some o → O'.F a = some o) (k : CellOk K mg O H p c) (e : ∀ o, H p = some o → H' p = some o) : CellOk K mg O' H' p c := by
  cases c with
  | lst xs => obtain ⟨vs, a, z, b⟩ := k; exact ⟨vs, e _ a, z, b.up hn hφ hF⟩
  | dK xs => obtain ⟨vs, a, b⟩ := k; exact ⟨vs, e _ a, b.upp hn hφ hF⟩
  | dT xs => obtain ⟨vs, a, b⟩ := k; exact ⟨vs, e _ a, b.upp hn hφ hF⟩
  | ins C fs => obtain ⟨c, dx, ws, m, a, b⟩ := k; exact ⟨c, dx, ws, m, e _ a, b.upp hn hφ hF⟩
  | tab x => exact ⟨k.1, k.2.up hF e⟩
  | dead => trivial
/-- a transition, p's object left out -/
structure StpX (p : Addr) (O : Om) (H : Hp) (O' : Om) (H' : Hp) : Prop where
  n : O.n ≤ O'.n
  φ : ∀ i, i < O.n → O'.φ i = O.φ i
  F : ∀ a o, O.F a = some o → O'.F a = some o
  fr : ∀ a o, a ≠ p → H a = some o → (∀ i, i < O.n → O.φ i ≠ a) → H' a = some o ∧ (∀ i, i < O'.n → O'.φ i ≠ a) ∧ (O.F a = none → tupO o = false → O'.F a = none)
theorem StpX.refl (p : Addr) (O : Om) (H : Hp) : StpX p O H O H := ⟨Nat.le_refl _, fun _ _ => rfl, fun _ _ e => e, fun _ _ _ e k => ⟨e, k, fun q _ => q⟩⟩
theorem Stp.x {p : Addr} (s : Stp O H O' H') : StpX p O H O' H' := ⟨s.n, s.φ, s.F, fun a o _ => s.fr a o⟩
theorem StpX.trans {p : Addr} {O O1 O2 : Om} {H H1 H2 : Hp} (a : StpX p O H O1 H1) (b : StpX p O1 H1 O2 H2) : StpX p O H O2 H2 :=
  ⟨Nat.le_trans a.n b.n, fun i hi => (b.φ i (Nat.lt_of_lt_of_le hi a.n)).trans (a.φ i hi), fun c o e => b.F c o (a.F c o e), fun c o ne e k =>
      have y := a.fr c o ne e k
      have z := b.fr c o ne y.1 y.2.1
      ⟨z.1, z.2.1, fun q t => z.2.2 (y.2.2 q t) t⟩⟩
theorem StpX.put (p : Addr) (O : Om) (H : Hp) (o : HO) : StpX p O H O (L2.upd H p o) := ⟨Nat.le_refl _, fun _ _ => rfl, fun _ _ e => e, fun a u ne e k => ⟨by rw [upd_ne ne]; exact e, k, fun q _ => q⟩⟩
theorem RepL.stpx {p : Addr} (s : StpX p O H O' H') {d : List D} {v : List V} (r : RepL K mg O d v) : RepL K mg O' d v := r.up s.n s.φ s.F
/-- it becomes a thing that stays -/
theorem Apart.frz {h : Hs} {O1 : Om} {H1 : Hp} (S : SR K mg O1 h H1) {p : Addr} (a : Apart O1 H1 p) {o : HO} (e : H1 p = some o) (hp : H p = none) (s : StpX p O H O1 H1) : Stp O H (O1.frz p o) H1 ∧ SR K mg (O1.frz p o) h H1 := by
  have up : ∀ b u, O1.F b = some u → (O1.frz p o).F b = some u := fun b u q => by
    show L2.upd O1.F p o b = some u
    rw [upd_ne (fun z => by rw [z, a.nf] at q; cases q)]; exact q
  refine ⟨⟨s.n, s.φ, fun b u q => up b u (s.F b u q), fun b u q k => ?_⟩, S.len, fun b u q => ?_, S.inj, S.old, fun i c q nd => ?_, fun i c q => ?_⟩
  · have ne : b ≠ p := fun z => by rw [z, hp] at q; cases q
    have y := s.fr b u ne q k
    refine ⟨y.1, y.2.1, fun z t => ?_⟩
    show L2.upd O1.F p o b = none
    rw [upd_ne ne]; exact y.2.2 z t
  · have q' : L2.upd O1.F p o b = some u := q
    by_cases hb : b = p
    · rw [hb, upd_same] at q'
      rw [hb, e]; exact q'
    · rw [upd_ne hb] at q'
      exact S.sub b u q'
  · have hi : i < O1.n := by rw [← S.len]; exact (List.getElem?_eq_some_iff.mp q).1
    show L2.upd O1.F p o (O1.φ i) = none
    rw [upd_ne (a.ne i hi)]
    exact S.nof i c q nd
  · exact CellOk.gen (O := O1) (O' := O1.frz p o) (Nat.le_refl _) (fun _ _ => rfl) up (S.cell i c q) fun _ z => z
/-- it becomes a changing object -/
theorem Apart.cell {h : Hs} {O1 : Om} {H1 : Hp} (S : SR K mg O1 h H1) {p : Addr} (a : Apart O1 H1 p) (hp : H p = none) (s : StpX p O H O1 H1) {c : Cell} (hc : CellOk K mg (O1.more p) H1 p c) : Stp O H (O1.more p) H1 ∧ SR K mg (O1.more p) (h ++ [c]) H1 := by
  have hl := S.len
  refine ⟨⟨Nat.le_trans s.n (Nat.le_succ _), fun i hi => (Om.more_old (Nat.lt_of_lt_of_le hi s.n)).trans (s.φ i hi), fun b u q => s.F b u q, fun b u q k => ?_⟩, by rw [List.length_append, hl]; rfl, S.sub, fun i j hi hj e => ?_, fun i hi => ?_, fun i d e nd => ?_, fun i d e => ?_⟩
  · have ne : b ≠ p := fun z => by rw [z, hp] at q; cases q
    have y := s.fr b u ne q k
    refine ⟨y.1, fun i hi => ?_, y.2.2⟩
    by_cases hn : i = O1.n
    · rw [hn, Om.more_new]; exact fun z => ne z.symm
    · have hi' : i < O1.n := by have : i < O1.n + 1 := hi; omega
      rw [Om.more_old hi']
      exact y.2.1 i hi'
  · have hi' : i < O1.n + 1 := hi
    have hj' : j < O1.n + 1 := hj
    by_cases h1 : i = O1.n
    · by_cases h2 : j = O1.n
      · rw [h1, h2]
      · rw [h1, Om.more_new, Om.more_old (by omega)] at e
        exact absurd e.symm (a.ne j (by omega))
    · by_cases h2 : j = O1.n
      · rw [h2, Om.more_new, Om.more_old (by omega)] at e
        exact absurd e (a.ne i (by omega))
      · rw [Om.more_old (by omega), Om.more_old (by omega)] at e
        exact S.inj i j (by omega) (by omega) e
  · by_cases hn : i = O1.n
    · rw [hn, Om.more_new]; exact a.at_
    · have hi' : i < O1.n := by have : i < O1.n + 1 := hi; omega
      rw [Om.more_old hi']
      exact S.old i hi'
  · have hb : i < h.length + 1 := by
      have z := (List.getElem?_eq_some_iff.mp e).1
      rw [List.length_append] at z; exact z
    by_cases hn : i = O1.n
    · rw [hn, Om.more_new]; exact a.nf
    · have hi : i < h.length := by omega
      rw [Om.more_old (by omega)]
      rw [List.getElem?_append_left hi] at e
      exact S.nof i d e nd
  · have hb : i < h.length + 1 := by
      have z := (List.getElem?_eq_some_iff.mp e).1
      rw [List.length_append] at z; exact z
    by_cases hn : i = O1.n
    · rw [hn, ← hl, List.getElem?_append_right (Nat.le_refl _), Nat.sub_self] at e
      have e2 : c = d := by simpa using e
      rw [hn, Om.more_new, ← e2]; exact hc
    · have hi : i < h.length := by omega
      rw [Om.more_old (by omega)]
      rw [List.getElem?_append_left hi] at e
      exact (S.cell i d e).gen (Nat.le_succ _) (fun i hi => Om.more_old hi) (fun _ _ q => q) fun _ z => z
/-! ### a tuple that is known; a dict that is locked while it is walked -/
theorem CellOk.notTup {p : Addr} {c : Cell} {vs : List V} (k : CellOk K mg O H p c) (nd : c ≠ .dead) : H p ≠ some (.tup vs) := fun e => by
  cases c with
  | lst xs => obtain ⟨_, a, _⟩ := k; rw [e] at a; cases a
  | dK xs => obtain ⟨_, a, _⟩ := k; rw [e] at a; cases a
  | dT xs => obtain ⟨_, a, _⟩ := k; rw [e] at a; cases a
  | ins C fs => obtain ⟨_, _, _, _, a, _⟩ := k; rw [e] at a; cases a
  | tab x => obtain ⟨_, _, a, _⟩ := k; rw [e] at a; cases a
  | dead => exact nd rfl
theorem SR.tupF {h : Hs} (S : SR K mg O h H) {q : Addr} {vs : List V} (hq : H q = some (.tup vs)) : Stp O H (O.frz q (.tup vs)) H ∧ SR K mg (O.frz q (.tup vs)) h H ∧ (O.frz q (.tup vs)).F q = some (.tup vs) := by
  have up : ∀ a ob, O.F a = some ob → upd O.F q (.tup vs) a = some ob := fun a ob e => by
    by_cases ha : a = q
    · subst ha
      have z := S.sub a ob e
      rw [hq] at z
      cases z
      exact upd_same
    · rw [upd_ne ha]; exact e
  have st : Stp O H (O.frz q (.tup vs)) H := ⟨Nat.le_refl _, fun _ _ => rfl, up, fun a ob e k => ⟨e, k, fun z t => by
    show upd O.F q (.tup vs) a = none
    rw [upd_ne (fun y => by rw [y, hq] at e; cases e; cases t)]; exact z⟩⟩
  refine ⟨st, ⟨S.len, fun a ob e => ?_, S.inj, S.old, fun i c e nd => ?_, fun i c e => (S.cell i c e).stp st fun _ _ z => z⟩, by show upd O.F q _ q = _; rw [upd_same]⟩
  · have e' : upd O.F q (.tup vs) a = some ob := e
    by_cases ha : a = q
    · subst ha
      rw [upd_same] at e'
      rw [hq]; exact e'
    · rw [upd_ne ha] at e'
      exact S.sub a ob e'
  · show upd O.F q (.tup vs) (O.φ i) = none
    rw [upd_ne (fun y => (S.cell i c e).notTup nd (by rw [y]; exact hq))]
    exact S.nof i c e nd
def lkO : HO → Bool
  | .frz _ (.dK _) => true
  | .frz _ (.dT _) => true
  | _ => false
def Om.unl (O : Om) (a : Addr) : Om := ⟨O.n, O.φ, fun b => if b = a then none else O.F b⟩
theorem Om.unl_ne {a b : Addr} (h : b ≠ a) : (O.unl a).F b = O.F b := if_neg h
theorem sqL_unl {a p : Addr} {vs : List V} (hn : ∀ o, O.F a = some o → lkO o = true) (q : SqL K O.F p vs) : SqL K (O.unl a).F p vs := by
  rcases q with (q | ⟨ob, q⟩) | q
  · exact .inl (.inl (by rw [Om.unl_ne (fun z => by rw [z] at q; cases hn _ q)]; exact q))
  · exact .inl (.inr ⟨ob, by rw [Om.unl_ne (fun z => by rw [z] at q; cases hn _ q)]; exact q⟩)
  · exact .inr q
theorem sqT_unl {a p : Addr} {vs : List V} (hn : ∀ o, O.F a = some o → lkO o = true) (q : SqT K O.F p vs) : SqT K (O.unl a).F p vs := by
  rcases q with (q | ⟨ob, q⟩) | q
  · exact .inl (.inl (by rw [Om.unl_ne (fun z => by rw [z] at q; cases hn _ q)]; exact q))
  · exact .inl (.inr ⟨ob, by rw [Om.unl_ne (fun z => by rw [z] at q; cases hn _ q)]; exact q⟩)
  · exact .inr q
mutual
theorem Rep.unl {a : Addr} (hn : ∀ o, O.F a = some o → lkO o = true) : ∀ {d : D} {v : V}, Rep K mg O d v → Rep K mg (O.unl a) d v
  | _, _, .non => .non
  | _, _, .bl b => .bl b
  | _, _, .int i => .int i
  | _, _, .str s => .str s
  | _, _, .tup q z r => .tup (by rw [Om.unl_ne (fun y => by rw [y] at q; cases hn _ q)]; exact q) z (RepL.unl hn r)
  | _, _, .lst q z r => .lst (by rw [Om.unl_ne (fun y => by rw [y] at q; cases hn _ q)]; exact q) z (RepL.unl hn r)
  | _, _, .ksl q z r => .ksl (sqL_unl hn q) z (RepL.unl hn r)
  | _, _, .kst q z r => .kst (sqT_unl hn q) z (RepL.unl hn r)
  | _, _, .ptr q => .ptr q
  | _, _, .glo e r => .glo e r
  | _, _, .exv e q z r l => .exv e (by rw [Om.unl_ne (fun y => by rw [y] at q; exact absurd (show false = true from hn _ q) (by decide))]; exact q) (by rw [Om.unl_ne (fun y => by rw [y] at z; exact absurd (show false = true from hn _ z) (by decide))]; exact z) (RepL.unl hn r) l
  | _, _, .exz e q => .exz e (by rw [Om.unl_ne (fun y => by rw [y] at q; exact absurd (show false = true from hn _ q) (by decide))]; exact q)
theorem RepL.unl {a : Addr} (hn : ∀ o, O.F a = some o → lkO o = true) : ∀ {ds : List D} {vs : List V}, RepL K mg O ds vs → RepL K mg (O.unl a) ds vs
  | _, _, .nil => .nil
  | _, _, .cons r t => .cons (Rep.unl hn r) (RepL.unl hn t)
end
theorem RepP.unl {κ : Type} {a : Addr} (hn : ∀ o, O.F a = some o → lkO o = true) {d : List (κ × D)} {v : List (κ × V)} (r : RepP K mg O d v) : RepP K mg (O.unl a) d v := by
  induction r with
  | nil => exact .nil
  | cons q _ ih => exact .cons (q.unl hn) ih
theorem CellOk.unl {a p : Addr} {c : Cell} (hn : ∀ o, O.F a = some o → lkO o = true) (k : CellOk K mg O H p c) (e : ∀ o, H p = some o → H' p = some o) : CellOk K mg (O.unl a) H' p c := by
  cases c with
  | lst xs => obtain ⟨vs, a, z, b⟩ := k; exact ⟨vs, e _ a, z, b.unl hn⟩
  | dK xs => obtain ⟨vs, a, b⟩ := k; exact ⟨vs, e _ a, b.unl hn⟩
  | dT xs => obtain ⟨vs, a, b⟩ := k; exact ⟨vs, e _ a, b.unl hn⟩
  | ins C fs => obtain ⟨c, dx, ws, m, a, b⟩ := k; exact ⟨c, dx, ws, m, e _ a, b.unl hn⟩
  | tab x =>
    obtain ⟨k1, ps, h1, h2, h3⟩ := k
    refine ⟨k1, ps, e _ h1, h2, fun pos cv hc => ?_⟩
    obtain ⟨c, e1, e2⟩ := h3 pos cv hc
    exact ⟨c, e1, by rw [Om.unl_ne (fun z => by rw [z] at e2; exact absurd (show false = true from hn _ e2) (by decide))]; exact e2⟩
  | dead => trivial
/-- the cell n is locked: what stands there is frozen for a while -/
theorem SR.lock {h : Hs} (S : SR K mg O h H) {n : Nat} {c : Cell} (e0 : h[n]? = some c) (nd : c ≠ .dead) (o : HO) : SR K mg (O.frz (O.φ n) o) (h.set n .dead) (upd H (O.φ n) o) := by
  have hn : n < O.n := by rw [← S.len]; exact (List.getElem?_eq_some_iff.mp e0).1
  have hnl : n < h.length := (List.getElem?_eq_some_iff.mp e0).1
  have nf := S.nof n _ e0 nd
  have up : ∀ a ob, O.F a = some ob → upd O.F (O.φ n) o a = some ob := fun a ob e => by
    rw [upd_ne (fun z => by rw [z, nf] at e; cases e)]; exact e
  refine ⟨by rw [List.length_set]; exact S.len, fun a ob e => ?_, S.inj, fun i hi => ?_, fun i d e nd' => ?_, fun i d e => ?_⟩
  · have e' : upd O.F (O.φ n) o a = some ob := e
    by_cases ha : a = O.φ n
    · rw [ha, upd_same] at e'
      rw [ha, upd_same]; exact e'
    · rw [upd_ne ha] at e'
      rw [upd_ne ha]; exact S.sub a ob e'
  · by_cases hi2 : O.φ i = O.φ n
    · exact ⟨o, by show upd H (O.φ n) o (O.φ i) = _; rw [hi2, upd_same]⟩
    · obtain ⟨u, hu⟩ := S.old i hi
      exact ⟨u, by show upd H (O.φ n) o (O.φ i) = _; rw [upd_ne hi2]; exact hu⟩
  · by_cases hi : i = n
    · rw [hi, List.getElem?_set_self hnl] at e
      cases e
      exact absurd rfl nd'
    · rw [List.getElem?_set_ne (Ne.symm hi)] at e
      have hlt : i < O.n := by rw [← S.len]; exact (List.getElem?_eq_some_iff.mp e).1
      show upd O.F (O.φ n) o (O.φ i) = none
      rw [upd_ne (fun z => hi (S.inj i n hlt hn z))]
      exact S.nof i d e nd'
  · by_cases hi : i = n
    · rw [hi, List.getElem?_set_self hnl] at e
      cases e
      trivial
    · rw [List.getElem?_set_ne (Ne.symm hi)] at e
      have hlt : i < O.n := by rw [← S.len]; exact (List.getElem?_eq_some_iff.mp e).1
      exact CellOk.gen (O := O) (O' := O.frz (O.φ n) o) (Nat.le_refl _) (fun _ _ => rfl) up (S.cell i d e) fun _ q => by
        show upd H (O.φ n) o (O.φ i) = _
        rw [upd_ne (fun z => hi (S.inj i n hlt hn z))]; exact q
/-- .. and let go again, the list at p under construction aside -/
theorem SR.unlock {h h2 : Hs} {O2 : Om} {H2 : Hp} {p : Addr} (S : SR K mg O h H) {n : Nat} {c : Cell} (e0 : h[n]? = some c) (nd : c ≠ .dead) {o u : HO} (ho : H (O.φ n) = some o) (hu : lkO u = true)
    (s : StpX p (O.frz (O.φ n) u) (upd H (O.φ n) u) O2 H2) (S2 : SR K mg O2 h2 H2) (hp : H p = none) :
    StpX p O H (O2.unl (O.φ n)) (upd H2 (O.φ n) o) ∧ SR K mg (O2.unl (O.φ n)) (h2.set n c) (upd H2 (O.φ n) o) ∧ (∀ v, O2.F (O.φ n) = some v → lkO v = true) ∧ O2.φ n = O.φ n ∧ n < O2.n := by
  have hn : n < O.n := by rw [← S.len]; exact (List.getElem?_eq_some_iff.mp e0).1
  have nf := S.nof n _ e0 nd
  have F2 : O2.F (O.φ n) = some u := s.F _ _ (by show upd O.F (O.φ n) u (O.φ n) = _; rw [upd_same])
  have lk : ∀ v, O2.F (O.φ n) = some v → lkO v = true := fun v e => by rw [F2] at e; cases e; exact hu
  have φ2 : O2.φ n = O.φ n := s.φ n hn
  have n2 : n < O2.n := Nat.lt_of_lt_of_le hn s.n
  have up : ∀ a ob, O.F a = some ob → (O2.unl (O.φ n)).F a = some ob := fun a ob e => by
    have ne : a ≠ O.φ n := fun z => by rw [z, nf] at e; cases e
    rw [Om.unl_ne ne]
    exact s.F a ob (by show upd O.F (O.φ n) u a = _; rw [upd_ne ne]; exact e)
  have hn2 : n < h2.length := by rw [S2.len]; exact n2
  refine ⟨⟨s.n, s.φ, up, fun a ob ne e k => ?_⟩, ⟨by rw [List.length_set]; exact S2.len, fun a ob e => ?_, S2.inj, fun i hi => ?_, fun i d e nd' => ?_, fun i d e => ?_⟩, lk, φ2, n2⟩
  · have na : a ≠ O.φ n := fun z => k n hn z.symm
    have y := s.fr a ob ne (by rw [upd_ne na]; exact e) k
    refine ⟨by rw [upd_ne na]; exact y.1, y.2.1, fun z t => ?_⟩
    rw [Om.unl_ne na]
    exact y.2.2 (by show upd O.F (O.φ n) u a = _; rw [upd_ne na]; exact z) t
  · have na : a ≠ O.φ n := fun z => by
      have e' : (if a = O.φ n then none else O2.F a) = some ob := e
      rw [if_pos z] at e'; cases e'
    rw [Om.unl_ne na] at e
    rw [upd_ne na]
    exact S2.sub a ob e
  · by_cases hi2 : O2.φ i = O.φ n
    · exact ⟨o, by show upd H2 (O.φ n) o (O2.φ i) = _; rw [hi2, upd_same]⟩
    · obtain ⟨v, hv⟩ := S2.old i hi
      exact ⟨v, by show upd H2 (O.φ n) o (O2.φ i) = _; rw [upd_ne hi2]; exact hv⟩
  · show (if O2.φ i = O.φ n then none else O2.F (O2.φ i)) = none
    by_cases hi : i = n
    · rw [hi, φ2, if_pos rfl]
    · rw [List.getElem?_set_ne (Ne.symm hi)] at e
      split
      · rfl
      · exact S2.nof i d e nd'
  · by_cases hi : i = n
    · rw [hi, List.getElem?_set_self hn2] at e
      cases e
      show CellOk K mg (O2.unl (O.φ n)) (upd H2 (O.φ n) o) (O2.φ i) c
      rw [hi, φ2]
      exact CellOk.gen (O := O) (O' := O2.unl (O.φ n)) s.n s.φ up (S.cell n c e0) fun v q => by
        rw [ho] at q
        cases q
        rw [upd_same]
    · rw [List.getElem?_set_ne (Ne.symm hi)] at e
      have hlt : i < O2.n := by rw [← S2.len]; exact (List.getElem?_eq_some_iff.mp e).1
      exact (S2.cell i d e).unl lk fun v q => by
        show upd H2 (O.φ n) o (O2.φ i) = _
        rw [upd_ne (fun z => hi (S2.inj i n hlt n2 (z.trans φ2.symm)))]; exact q
theorem Apart.unl {p : Addr} {n : Nat} {o : HO} {O2 : Om} {H2 : Hp} (a : Apart O2 H2 p) (h : O2.φ n = O.φ n) (hn : n < O2.n) : Apart (O2.unl (O.φ n)) (L2.upd H2 (O.φ n) o) p := by
  have ne : p ≠ O.φ n := fun z => a.ne n hn (h.trans z.symm)
  obtain ⟨u, hu⟩ := a.at_
  exact ⟨⟨u, by rw [upd_ne ne]; exact hu⟩, a.ne, by rw [Om.unl_ne ne]; exact a.nf⟩
end
end SI
end
section
set_option Elab.async false
set_option linter.all false
set_option maxRecDepth 100000
set_option maxHeartbeats 4000000
/-! SI1: the small language and what it does to plain data. -/
namespace SI
open PySem L2

inductive Bop | add | sub | mul | fdiv | mod | pow
  deriving DecidableEq, Inhabited
inductive Cop | eq | ne | lt | le | gt | ge | isin | notin | is_ | isnot
  deriving DecidableEq, Inhabited
inductive SrcK | seq | rng | zip | enum
  deriving DecidableEq, Inhabited
inductive Bi | len | all | any | tuple | list | int | bool | repr | abs
  deriving DecidableEq, Inhabited
inductive Me | append | extend | pop1 | get2 | popl
  deriving DecidableEq, Inhabited
inductive Tg | n (i : Nat) | t (ts : List Tg)
  deriving Inhabited
inductive IE
  | c (d : D) | v (i : Nat) | tup (es : List IE) | lst (m : Bool) (es : List IE)
  | bin (op : Bop) (a b : IE) | neg (a : IE) | cmp (op : Cop) (a b : IE) | chain (o p : Cop) (a b c : IE)
  | and (a b : IE) | or (a b : IE) | not (a : IE) | ife (c a b : IE)
  | call (x : Str) (es : List IE) | make (C : Str) (es : List IE) | meth (o : IE) (m : Str) (es : List IE) | cmeth (C m : Str) (es : List IE)
  | bi (f : Bi) (e : IE) | isi (e : IE) (ts : List (Sum String Str)) | bm (m : Me) (o : IE) (es : List IE)
  | fld (o : IE) (f : Str) | ix (o i : IE) | sl (o : IE) (lo hi : Option IE)
  | comp (m : Bool) (elt : IE) (tg : Tg) (k : SrcK) (args : List IE) (ifs : Option IE) (own : List Nat)
  | val (e : IE) | rngs (l m : Bool) (args : List IE) | dic (t : Bool) | dicd (ks : List Str) (es : List IE)
  | mm (mx : Bool) (a b : IE) | dic1 (k v : IE) | compK (m : Bool) (elt : IE) (tg : Tg) (i : Nat) (ifs : Option IE) (own : List Nat) | lstm (e : IE) | slm (o : IE) (lo hi : Option IE) | binm (op : Bop) (a b : IE) | upd (o e : IE) | compQ (m : Bool) (elt : IE) (tg : Tg) (e : IE) (ifs : Option IE) (own : List Nat)
  | lam (ti : Nat) (nm x : Str) (es : List IE) (b : IE) | callv (i : Nat) (es : List IE) | spl (o e : IE)
  deriving Inhabited
inductive IS
  | set (t : Tg) (e : IE) | par (i j : Nat) (a b : IE) | par3 (i j l : Nat) (a b c : IE) | set2 (o1 i1 o2 i2 e : IE) | setix (o i e : IE) | setsl (o lo hi e : IE) | setf (o : IE) (f : Str) (e : IE)
  | aug (i : Nat) (op : Bop) (e : IE) | augix (o i : IE) (op : Bop) (e : IE) | ex (e : IE) | ret (e : IE) | retN
  | ife (c : IE) (a b : List IS) | loop (tg : Tg) (k : SrcK) (args : List IE) (body : List IS) | whil (m : Nat) (c : IE) (body : List IS)
  | pass | brk | cnt | frz (i : Nat) | bad | raise (C : Str) (es : List IE)
  deriving Inhabited

/-! ### outcomes -/
structure Exc where
  cls : Str
  fs : List (Str × D)
inductive Res (α : Type) | ok (a : α) (h : Hs) | ex (e : Exc) (h : Hs) | no
abbrev Nv := List (Option D)
inductive SRes | nx (env : Nv) (h : Hs) | rt (d : D) (h : Hs) | bk (env : Nv) (h : Hs) | ct (env : Nv) (h : Hs) | ex (e : Exc) (env : Nv) (h : Hs) | no
def Res.bind {α β : Type} (r : Res α) (f : α → Hs → Res β) : Res β := match r with
  | .ok a h => f a h
  | .ex e h => .ex e h
  | .no => .no
def Res.sbind {α : Type} (r : Res α) (env : Nv) (f : α → Hs → SRes) : SRes := match r with
  | .ok a h => f a h
  | .ex e h => .ex e env h
  | .no => .no
def Res.of {α : Type} (o : Option α) (h : Hs) : Res α := match o with
  | some a => .ok a h
  | none => .no
/-- where no exception is served -/
def Res.calm {α : Type} (r : Res α) : Res α := match r with
  | .ok a h => .ok a h
  | _ => .no
@[simp] theorem Res.bind_ok {α β : Type} (a : α) (h : Hs) (f : α → Hs → Res β) : (Res.ok a h).bind f = f a h := rfl
@[simp] theorem Res.sbind_ok {α : Type} (a : α) (h : Hs) (env : Nv) (f : α → Hs → SRes) : (Res.ok a h).sbind env f = f a h := rfl

theorem Res.bind_assoc {α β γ : Type} (r : Res α) (f : α → Hs → Res β) (g : β → Hs → Res γ) : (r.bind f).bind g = r.bind fun a h => (f a h).bind g := by
  cases r <;> rfl

/-! ### plain data read -/
def LINE : Nat := 16777216
/-- a list (true) or a tuple (false) that is a value, its items -/
def valSeq : D → Option (Bool × List D)
  | .lst xs => some (true, xs)
  | .tup xs => some (false, xs)
  | .ks l xs => some (l, xs)
  | _ => none
/-- .. or a list that changes -/
def un (h : Hs) : D → Option (Bool × List D)
  | .lst xs => some (true, xs)
  | .tup xs => some (false, xs)
  | .ks l xs => some (l, xs)
  | .ptr n => match h[n]? with
    | some (.lst xs) => some (true, xs)
    | _ => none
  | _ => none
mutual
def pyD (g : Nat → Option PyData) : D → Option PyData
  | .non => some .none
  | .bl b => some (.bool b)
  | .int i => some (.int i)
  | .str s => some (.str s)
  | .tup xs => (pyL g xs).map .tuple
  | .lst xs => (pyL g xs).map .list
  | .ks l xs => (pyL g xs).map (if l then .list else .tuple)
  | .ptr n => g n
  | .glo _ => none
  | .exv _ _ _ => none
def pyL (g : Nat → Option PyData) : List D → Option (List PyData)
  | [] => some []
  | x :: xs => match pyD g x with
    | some d => match pyL g xs with
      | some ds => some (d :: ds)
      | none => none
    | none => none
end
def ptrPy (h : Hs) : Nat → Nat → Option PyData
  | 0, _ => none
  | k + 1, n => match h[n]? with
    | some (.lst xs) => (pyL (ptrPy h k) xs).map .list
    | _ => none
def deep (h : Hs) (d : D) : Option PyData := pyD (ptrPy h 3) d
def eqD (h : Hs) (a b : D) : Option Bool := match deep h a with
  | some x => match deep h b with
    | some y => if SeqAt.shaped x && SeqAt.shaped y then some (PyData.eqv x y) else none
    | none => none
  | none => none
def truth (h : Hs) : D → Option Bool
  | .non => some false
  | .bl b => some b
  | .int i => some (i != 0)
  | .str s => if s.length ≤ LINE then some ((s.length : Int) != 0) else none
  | .tup xs => some (!xs.isEmpty)
  | .lst xs => some (!xs.isEmpty)
  | .ks _ xs => some (!xs.isEmpty)
  | .ptr n => match h[n]? with
    | some (.lst xs) => some (!xs.isEmpty)
    | some (.dK kvs) => some (!kvs.isEmpty)
    | _ => none
  | .glo _ => none
  | .exv _ _ _ => none
def keyOf : D → Option Key
  | .int i => some (.inl i)
  | .str s => some (.inr s)
  | _ => none
def keysOf : List D → Option (List Key)
  | [] => some []
  | d :: ds => match keyOf d with
    | some k => match keysOf ds with
      | some ks => some (k :: ks)
      | none => none
    | none => none
def keyT : D → Option (List Key)
  | .tup xs => keysOf xs
  | _ => none
section
variable {κ : Type} [DecidableEq κ]
def getK (kvs : List (κ × D)) (k : κ) : Option D := (kvs.find? fun p => decide (p.1 = k)).map (·.2)
def putD (kvs : List (κ × D)) (k : κ) (v : D) : List (κ × D) :=
  if (kvs.any fun p => decide (p.1 = k)) = true then kvs.map (fun p => if p.1 = k then (p.1, v) else p) else kvs ++ [(k, v)]
def delD (kvs : List (κ × D)) (k : κ) : List (κ × D) := kvs.filter fun p => decide (p.1 ≠ k)
end
/-- d[k]: outer none: d is no dict that is served -/
def dget (c : Cell) (k : D) : Option (Option D) := match c with
  | .dK kvs => match keyOf k with
    | some x => some (getK kvs x)
    | none => none
  | .dT kvs => match keyT k with
    | some x => some (getK kvs x)
    | none => none
  | _ => none
def dput (c : Cell) (k v : D) : Option Cell := match c with
  | .dK kvs => match keyOf k with
    | some x => if kvs.length < LINE then some (.dK (putD kvs x v)) else none
    | none => none
  | .dT kvs => match keyT k with
    | some x => if kvs.length < LINE then some (.dT (putD kvs x v)) else none
    | none => none
  | _ => none
def inD (h : Hs) (x c : D) : Option Bool := match c with
  | .ptr n => match h[n]? with
    | some (.lst xs) => match deep h x with
      | some d => match pyL (ptrPy h 2) xs with
        | some ds => if SeqAt.shaped d && SeqAt.shaped (.list ds) then some (ds.any fun z => PyData.eqv z d) else none
        | none => none
      | none => none
    | some cell => (dget cell x).map (·.isSome)
    | none => none
  | .str z => match x with
    | .str a => match a.cps.toList with
      | [k] => some (decide (k ∈ z.cps.toList))
      | _ => none
    | _ => none
  | c => match valSeq c with
    | some (l, xs) => match deep h x with
      | some d => match pyL (ptrPy h 3) xs with
        | some ds => if SeqAt.shaped d && SeqAt.shaped (.list ds) then some (ds.any fun z => PyData.eqv z d) else none
        | none => none
      | none => none
    | none => none

/-! ### operators -/
def big64 (i : Int) : Bool := decide (i.natAbs < 18446744073709551616)
def binD (h : Hs) (op : Bop) (x y : D) : Option D := match x, y with
  | .int i, .int j => match op with
    | .add => some (.int (i + j))
    | .sub => some (.int (i - j))
    | .mul => if big64 i || big64 j then some (.int (i * j)) else none
    | .fdiv => if decide (0 < j ∧ j.natAbs < 1073741824) then some (.int (i / j)) else none
    | .mod => if decide (0 < j) then some (.int (i % j)) else none
    | .pow => if decide (0 ≤ j ∧ j ≤ 1000000 ∧ i.natAbs < 2 ^ 64) then some (.int (i ^ j.toNat)) else none
  | .str a, .str b => match op with
    | .add => if a.length + b.length ≤ LINE then some (.str (a ++ b)) else none
    | _ => none
  | x, y => match op, x, y with
    | .add, .tup xs, .tup ys => if xs.length + ys.length ≤ LINE then some (.tup (xs ++ ys)) else none
    | .mul, .tup xs, .int k => if 1 ≤ k ∧ k ≤ 1000 ∧ xs.length ≤ 1000 then some (.tup (List.replicate k.toNat xs).flatten) else if (-1000 ≤ k ∧ k ≤ 0) ∧ xs.isEmpty = false then some (.tup []) else none
    | _, _, _ => none
/-- list + list, list * int: a new list -/
def binL (h : Hs) (op : Bop) (x y : D) : Option (List D) := match op with
  | .add => match un h x with
    | some (true, xs) => match un h y with
      | some (true, ys) => if xs.length + ys.length ≤ LINE then some (xs ++ ys) else none
      | _ => none
    | _ => none
  | .mul => match un h x with
    | some (true, xs) => match y with
      | .int k => if k.natAbs < 4611686018427387904 ∧ xs.length * k.toNat ≤ LINE then some (List.replicate k.toNat xs).flatten else none
      | _ => none
    | _ => none
  | _ => none
def isKs : D → Bool
  | .ks _ _ => true
  | _ => false
def binA (h : Hs) (op : Bop) (x y : D) : Res D := match binD h op x y with
  | some d => .ok d h
  | none => if isKs x || isKs y then .no else match binL h op x y with
    | some xs => .ok (.lst xs) h
    | none => .no
/-- a new list, by an operator -/
def binM (h : Hs) (op : Bop) (x y : D) : Res D := if isKs x || isKs y then .no else match binL h op x y with
  | some xs => .ok (.lst xs) h
  | none => .no
def intsOf : List D → Option (List Int)
  | [] => some []
  | .int i :: ds => (intsOf ds).map (i :: ·)
  | _ => none
def ltD (x y : D) : Option Bool := match x, y with
  | .int i, .int j => some (decide (i < j))
  | .tup xs, .tup ys => match intsOf xs with
    | some ns => match intsOf ys with
      | some ms => some (HT.lexLt ns ms)
      | none => none
    | none => none
  | _, _ => none
def isD (x y : D) : Option Bool := match y with
  | .non => match x with
    | .non => some true
    | .glo _ => none
    | _ => some false
  | .bl b => match x with
    | .bl a => some (decide (a = b))
    | _ => none
  | _ => none
def cmpD (h : Hs) (op : Cop) (x y : D) : Option Bool := match op with
  | .eq => eqD h x y
  | .ne => (eqD h x y).map (!·)
  | .lt => ltD x y
  | .gt => match x, y with
    | .int i, .int j => some (decide (j < i))
    | _, _ => none
  | .le => match x, y with
    | .int i, .int j => some (decide (i ≤ j))
    | _, _ => none
  | .ge => match x, y with
    | .int i, .int j => some (decide (j ≤ i))
    | _, _ => none
  | .isin => inD h x y
  | .notin => (inD h x y).map (!·)
  | .is_ => isD x y
  | .isnot => (isD x y).map (!·)
def cutD (xs : List D) (lo hi : Option Int) : List D := (xs.drop (HT.sIx xs.length 0 lo)).take (HT.sIx xs.length xs.length hi - HT.sIx xs.length 0 lo)
def idx (y : D) (xs : List D) : Option D := match y with
  | .int k => atI xs k
  | _ => none
def ixD (h : Hs) (o i : D) : Option D := match o with
  | .ptr n => match h[n]? with
    | some (.lst xs) => idx i xs
    | some c => (dget c i).join
    | none => none
  | .str a => match i with
    | .int k => if a.length ≤ LINE then (atI a.cps.toList k).map fun c => .str ⟨#[c]⟩ else none
    | _ => none
  | o => match valSeq o with
    | some (_, xs) => idx i xs
    | none => none
def slD (h : Hs) (o : D) (lo hi : Option Int) : Option D := match o with
  | .tup xs => some (.tup (cutD xs lo hi))
  | o => match un h o with
    | some (true, xs) => some (.lst (cutD xs lo hi))
    | _ => none

/-! ### built-ins -/
def boolsOf : List D → Option (List Bool)
  | [] => some []
  | .bl b :: ds => (boolsOf ds).map (b :: ·)
  | _ => none
def lenD (h : Hs) (d : D) : Option D := match d with
  | .str s => if s.length ≤ LINE then some (.int s.length) else none
  | .ptr n => match h[n]? with
    | some (.lst xs) => some (.int xs.length)
    | some (.dK kvs) => some (.int kvs.length)
    | _ => none
  | d => match valSeq d with
    | some (_, xs) => some (.int xs.length)
    | none => none
def tupD (h : Hs) (d : D) : Option D := match d with
  | .tup xs => some (.tup xs)
  | .ks false xs => some (.ks false xs)
  | d => match un h d with
    | some (true, xs) => some (.tup xs)
    | _ => none
def isSeqPy : PyData → Bool
  | .list _ => true
  | .tuple _ => true
  | _ => false
def isPtr : D → Bool
  | .non => false
  | .bl _ => false
  | .int _ => false
  | .str _ => false
  | .glo _ => false
  | _ => true
def reprD (h : Hs) (d : D) : Option D := match deep h d with
  | some x => if isPtr d && x.showable && !x.hasDict && decide (x.shown.length ≤ LINE) && decide (x.depth ≤ 60) then some (.str x.shown) else none
  | none => none
def biD (f : Bi) (h : Hs) (d : D) : Option D := match f with
  | .len => lenD h d
  | .all => match un h d with
    | some (true, xs) => (boolsOf xs).map fun bs => .bl (bs.all id)
    | _ => none
  | .any => match un h d with
    | some (true, xs) => (boolsOf xs).map fun bs => .bl (bs.any id)
    | _ => none
  | .tuple => tupD h d
  | .list => match un h d with
    | some (_, xs) => some (.lst xs)
    | _ => none
  | .int => match d with
    | .int i => some (.int i)
    | .bl b => some (.int (if b then 1 else 0))
    | .str a => if a.length ≤ 640 then (PySem.intText? a).map .int else none
    | _ => none
  | .bool => match d with
    | .int i => some (.bl (i != 0))
    | .bl b => some (.bl b)
    | _ => none
  | .repr => reprD h d
  | .abs => match d with
    | .int i => some (.int (if i < 0 then -i else i))
    | _ => none
/-- what stands two levels lower: calls, methods, makings -/
structure Low where
  call : Str → List D → Hs → Res D
  meth : Str → Str → List D → Hs → Res D
  make : Str → List D → Hs → Res D
structure Wr where
  call : Str → List D → Hs → Res D
  meth : Str → Str → List D → Hs → Res D
  make : Str → List D → Hs → Res D
  sub : Str → Str → Option Bool
  cls : Str → Bool
  mth : Str → Str → Bool
  exc : Str → Bool
  fnk : Str → Bool
  low : Option Low
  lam : Str → (Low → Hs → Res D) → List D → Hs → Res D
/-- .. in a lambda's body -/
def Wr.at (G : Wr) (l : Low) : Wr := ⟨l.call, l.meth, l.make, G.sub, G.cls, G.mth, G.exc, G.fnk, none, fun _ _ _ _ => .no⟩
/-- isinstance against one class: a built-in's name, an own class -/
def isOne (G : Wr) (h : Hs) (d : D) (t : Sum String Str) : Option Bool := match d with
  | .ptr n => match h[n]? with
    | some (.ins C _) => match t with
      | .inr T => if G.cls C then G.sub C T else none
      | .inl T => if ["int", "bool", "str", "list", "tuple", "dict"].contains T && G.cls C then some false else none
    | some (.lst _) => match t with
      | .inl T => kitB "list" T
      | .inr _ => some false
    | some (.dK _) => match t with
      | .inl T => kitB "dict" T
      | .inr _ => some false
    | some (.dT _) => match t with
      | .inl T => kitB "dict" T
      | .inr _ => some false
    | _ => none
  | .glo _ => none
  | .exv C _ _ => if G.exc C then (match t with
    | .inr T => G.sub C T
    | .inl T => if T = "ValueError" then some true else none) else none
  | d => match t with
    | .inr _ => some false
    | .inl T => match d with
      | .non => kitB "NoneType" T
      | .bl _ => kitB "bool" T
      | .int _ => kitB "int" T
      | .str _ => kitB "str" T
      | .tup _ => kitB "tuple" T
      | .lst _ => kitB "list" T
      | .ks l _ => kitB (if l then "list" else "tuple") T
      | _ => none
def isAny (G : Wr) (h : Hs) (d : D) : List (Sum String Str) → Option Bool
  | [] => some false
  | t :: ts => match isOne G h d t with
    | some true => some true
    | some false => isAny G h d ts
    | none => none

/-! ### what is walked -/
def rngD (lo hi : Int) : List D := (List.range (hi - lo).toNat).map fun i => .int (lo + (i : Nat))
def rngOk (i : Int) : Bool := decide (i.natAbs ≤ 2305843009213693952)
def rngA (ds : List D) : Option (List D) := match ds with
  | [.int j] => if rngOk j then some (rngD 0 j) else none
  | [.int i, .int j] => if rngOk i && rngOk j then some (rngD i j) else none
  | _ => none
def zipD : List D → List D → List D
  | x :: xs, y :: ys => .tup [x, y] :: zipD xs ys
  | _, _ => []
def enumD : Nat → List D → List D
  | _, [] => []
  | i, x :: xs => .tup [.int i, x] :: enumD (i + 1) xs
def signsD (a : Str) : List D := a.cps.toList.map fun c => .str ⟨#[c]⟩
def seqD (d : D) : Option (List D) := match d with
  | .str a => some (signsD a)
  | d => (valSeq d).map (·.2)
def srcD (k : SrcK) (ds : List D) : Option (List D) := match k with
  | .seq => match ds with
    | [d] => seqD d
    | _ => none
  | .rng => rngA ds
  | .zip => match ds with
    | [a, b] => match valSeq a with
      | some (true, xs) => match valSeq b with
        | some (true, ys) => some (zipD xs ys)
        | _ => none
      | some (false, xs) => match valSeq b with
        | some (false, ys) => some (zipD xs ys)
        | _ => none
      | none => none
    | _ => none
  | .enum => match ds with
    | [d] => match valSeq d with
      | some (_, xs) => some (enumD 0 xs)
      | none => none
    | _ => none

/-- a dict's keys, as they are walked -/
def kD : Key → D
  | .inl i => .int i
  | .inr s => .str s
def keysD : Cell → Option (List D)
  | .dK kvs => some (kvs.map fun q => kD q.1)
  | .dT kvs => if kvs.all (fun q => decide (q.1.length ≤ 1000)) then some (kvs.map fun q => .tup (q.1.map kD)) else none
  | _ => none

/-! ### names -/
def get (env : Nv) (i : Nat) : Option D := (env[i]?).join
def wipeE (env : Nv) : List Nat → Nv
  | [] => env
  | v :: vs => (wipeE env vs).set v none
mutual
def asg : Tg → D → Nv → Option Nv
  | .n i, d, env => some (env.set i (some d))
  | .t ts, d, env => match valSeq d with
    | some (_, xs) => asgs ts xs env
    | none => none
def asgs : List Tg → List D → Nv → Option Nv
  | [], [], env => some env
  | t :: ts, d :: ds, env => match asg t d env with
    | some env => asgs ts ds env
    | none => none
  | _, _, _ => none
end

/-! ### the world of defs and classes -/
/-- the receiver's class, where it has no field of the method's name -/
def clsOf (G : Wr) (h : Hs) (d : D) (m : Str) : Option Str := match d with
  | .ptr n => match h[n]? with
    | some (.ins C fs) => if G.cls C && G.mth C m && (fs.lookup m).isNone then some C else none
    | _ => none
  | _ => none
def fldD (G : Wr) (h : Hs) (d : D) (f : Str) : Option D := match d with
  | .ptr n => match h[n]? with
    | some (.ins C fs) => if G.cls C then fs.lookup f else none
    | _ => none
  | .exv C ns ds => if G.exc C then (ns.zip ds).lookup f else none
  | _ => none
def putFD (f : Str) (v : D) : List (Str × D) → List (Str × D)
  | [] => [(f, v)]
  | (g, w) :: r => if g = f then (f, v) :: r else (g, w) :: putFD f v r
def setFD (G : Wr) (h : Hs) (d : D) (f : Str) (v : D) : Option Hs := match d with
  | .ptr n => match h[n]? with
    | some (.ins C fs) => if G.cls C && decide (fs.length < 1000) then some (h.set n (.ins C (putFD f v fs))) else none
    | _ => none
  | _ => none
def setIxD (h : Hs) (o i v : D) : Option Hs := match o with
  | .ptr n => match h[n]? with
    | some (.lst xs) => match i with
      | .int k => match ixN xs.length k with
        | some j => some (h.set n (.lst (xs.set j v)))
        | none => none
      | _ => none
    | some c => match dput c i v with
      | some c' => some (h.set n c')
      | none => none
    | none => none
  | _ => none
def setSlD (h : Hs) (o : D) (lo hi : Option Int) (v : D) : Option Hs := match o with
  | .ptr n => match h[n]? with
    | some (.lst xs) => match lo, hi, v with
      | some a, some b, .lst ys => if 0 ≤ a ∧ a ≤ b ∧ b ≤ xs.length ∧ xs.length + ys.length ≤ LINE then some (h.set n (.lst (xs.take a.toNat ++ ys ++ xs.drop b.toNat))) else none
      | _, _, _ => none
    | _ => none
  | _ => none
def isLstC : Cell → Bool
  | .lst _ => true
  | _ => false
def isDKC : Cell → Bool
  | .dK _ => true
  | _ => false
def isDTC : Cell → Bool
  | .dT _ => true
  | _ => false
def kindC : Me → Cell → Bool
  | .append, c => isLstC c
  | .extend, c => isLstC c
  | .pop1, c => isDKC c || isDTC c
  | .get2, c => isDKC c || isDTC c
  | .popl, c => isLstC c
/-- the receiver is of the method's kind -/
def meOk (m : Me) (h : Hs) (o : D) : Bool := match o with
  | .ptr n => match h[n]? with
    | some c => kindC m c
    | none => false
  | _ => false
def appC : Cell → List D → Option (D × Cell)
  | .lst xs, [y] => if xs.length < LINE then some (.non, .lst (xs ++ [y])) else none
  | _, _ => none
def extC : Cell → List D → Option (D × Cell)
  | .lst xs, [.lst ys] => if xs.length + ys.length ≤ LINE then some (.non, .lst (xs ++ ys)) else none
  | _, _ => none
def popC : Cell → List D → Option (D × Cell)
  | .dK kvs, [k] => match keyOf k with
    | some x => match getK kvs x with
      | some v => some (v, .dK (delD kvs x))
      | none => none
    | none => none
  | .dT kvs, [k] => match keyT k with
    | some x => match getK kvs x with
      | some v => some (v, .dT (delD kvs x))
      | none => none
    | none => none
  | _, _ => none
def getC : Cell → List D → Option (D × Cell)
  | c, [k, e] => match dget c k with
    | some o => some (o.getD e, c)
    | none => none
  | _, _ => none
/-- the first one of a list, taken away -/
def poplC : Cell → List D → Option (D × Cell)
  | .lst (x :: xs), [.int i] => if i = 0 then some (x, .lst xs) else none
  | _, _ => none
def meC : Me → Cell → List D → Option (D × Cell)
  | .append => appC
  | .extend => extC
  | .pop1 => popC
  | .get2 => getC
  | .popl => poplC
def meD (m : Me) (h : Hs) (o : D) (as : List D) : Res D := match o with
  | .ptr n => match h[n]? with
    | some c => match meC m c as with
      | some (v, c') => .ok v (h.set n c')
      | none => .no
    | none => .no
  | _ => .no
/-- a list of values as it is made: a value, or a changing object -/
def mkL (m : Bool) (xs : List D) (h : Hs) : Res D := if m then .ok (.ptr h.length) (h ++ [.lst xs]) else .ok (.lst xs) h
def reL (m : Bool) (r : Res D) : Res D := match m with
  | false => r
  | true => match r with
    | .ok (.lst xs) h => .ok (.ptr h.length) (h ++ [.lst xs])
    | .ok _ _ => .no
    | .ex e h => .ex e h
    | .no => .no

/-- d.update(e) -/
def mergeD (kvs more : List (Key × D)) : List (Key × D) := more.foldl (fun m q => putD m q.1 q.2) kvs
def isDp (h : Hs) : D → Bool
  | .ptr n => match h[n]? with
    | some (.dK _) => true
    | _ => false
  | _ => false
def updD (h : Hs) (x y : D) : Option Hs := match x, y with
  | .ptr n, .ptr m => if n = m then none else match h[n]?, h[m]? with
    | some (.dK a), some (.dK b) => if a.length + b.length ≤ LINE then some (h.set n (.dK (mergeD a b))) else none
    | _, _ => none
  | _, _ => none
/-- the cell of a def's table -/
def tabD (h : Hs) (i : Nat) (nm : Str) : Bool := match h[i]? with
  | some (.tab x) => x == nm
  | _ => false
def isStrD : D → Bool
  | .str _ => true
  | _ => false
/-- s.split(sep) -/
def splD (x y : D) : Option D := match x, y with
  | .str a, .str b => if (b.length == 0) = false ∧ a.length + 2 ≤ LINE then some (.lst ((Txt.split a b).map .str)) else none
  | _, _ => none
/-- the greater one (the less one) of two numbers -/
def mmD (mx : Bool) (x y : D) (h : Hs) : Res D := match x, y with
  | .int i, .int j => .ok (.int (if mx then (if j > i then j else i) else if j < i then j else i)) h
  | _, _ => .no
/-! ### expressions -/
def evs (f : IE → Nv → Hs → Res D) : List IE → Nv → Hs → Res (List D)
  | [], _, h => .ok [] h
  | e :: es, env, h => (f e env h).bind fun d h => (evs f es env h).bind fun ds h => .ok (d :: ds) h
def evo (f : IE → Nv → Hs → Res D) : Option IE → Nv → Hs → Res (Option Int)
  | none, _, h => .ok none h
  | some e, env, h => (f e env h).bind fun d h => match d with
    | .int i => .ok (some i) h
    | _ => .no
def compLoop (f : D → Hs → Res (Option D)) : List D → Hs → Res (List D)
  | [], h => .ok [] h
  | x :: xs, h => (f x h).bind fun o h => (compLoop f xs h).bind fun ys h => .ok (match o with
    | some y => y :: ys
    | none => ys) h
/-- a list that changes, by its number -/
def lstP (h : Hs) : D → Option Nat
  | .ptr n => match h[n]? with
    | some (.lst _) => some n
    | _ => none
  | _ => none
def lenP (h : Hs) (n : Nat) : Nat := match h[n]? with
  | some (.lst xs) => xs.length
  | _ => 0
/-- over a list that may change, place by place -/
def compLoopP (f : D → Hs → Res (Option D)) (p : Nat) : Nat → Nat → Hs → Res (List D)
  | 0, i, h => match h[p]? with
    | some (.lst zs) => if zs.length ≤ i then .ok [] h else .no
    | _ => .no
  | k + 1, i, h => match h[p]? with
    | some (.lst zs) => match zs[i]? with
      | some d => (f d h).bind fun o h => (compLoopP f p k (i + 1) h).bind fun ys h => .ok (match o with
        | some y => y :: ys
        | none => ys) h
      | none => .ok [] h
    | _ => .no
mutual
def ev : Wr → Nat → IE → Nv → Hs → Res D
  | _, 0, _, _, _ => .no
  | G, n + 1, e, env, h => match e with
    | .c d => .ok d h
    | .v i => .of (get env i) h
    | .val e => ev G n e env h
    | .tup es => (evs (ev G n) es env h).bind fun ds h => .ok (.tup ds) h
    | .lst m es => (evs (ev G n) es env h).bind fun ds h => mkL m ds h
    | .bin op a b => (ev G n a env h).bind fun x h => (ev G n b env h).bind fun y h => binA h op x y
    | .neg a => (ev G n a env h).bind fun x h => match x with
      | .int i => .ok (.int (-i)) h
      | _ => .no
    | .cmp op a b => (ev G n a env h).bind fun x h => (ev G n b env h).bind fun y h => .of ((cmpD h op x y).map .bl) h
    | .chain o p a b c => (ev G n a env h).bind fun x h => (ev G n b env h).bind fun y h => (Res.of (cmpD h o x y) h).bind fun k h =>
        if k then (ev G n c env h).bind fun z h => .of ((cmpD h p y z).map .bl) h else .ok (.bl false) h
    | .and a b => (ev G n a env h).bind fun x h => (Res.of (truth h x) h).bind fun k h => if k then ev G n b env h else .ok x h
    | .or a b => (ev G n a env h).bind fun x h => (Res.of (truth h x) h).bind fun k h => if k then .ok x h else ev G n b env h
    | .not a => (ev G n a env h).bind fun x h => .of ((truth h x).map fun k => .bl (!k)) h
    | .ife c a b => (evT G n c env h).bind fun k h => if k then ev G n a env h else ev G n b env h
    | .call x es => (evs (ev G n) es env h).bind fun ds h => G.call x ds h
    | .make C es => (evs (ev G n) es env h).bind fun ds h => G.make C ds h
    | .meth o m es => (ev G n o env h).bind fun d h => match clsOf G h d m with
      | some C => (evs (ev G n) es env h).bind fun ds h => G.meth C m (d :: ds) h
      | none => .no
    | .cmeth C m es => (evs (ev G n) es env h).bind fun ds h => G.meth C m ds h
    | .bi f e => (ev G n e env h).bind fun d h => .of (biD f h d) h
    | .isi e ts => (ev G n e env h).bind fun d h => .of ((isAny G h d ts).map .bl) h
    | .bm m o es => (ev G n o env h).bind fun d h => if meOk m h d then (evs (ev G n) es env h).bind fun ds h => meD m h d ds else .no
    | .fld o f => (ev G n o env h).bind fun d h => .of (fldD G h d f) h
    | .ix o i => (ev G n o env h).bind fun x h => (ev G n i env h).bind fun y h => .of (ixD h x y) h
    | .sl o lo hi => (ev G n o env h).bind fun x h => (evo (ev G n) lo env h).bind fun l h => (evo (ev G n) hi env h).bind fun u h => .of (slD h x l u) h
    | .comp m elt tg k args ifs own => reL m ((evs (ev G n) args env h).bind fun ds h => (Res.of (srcD k ds) h).bind fun xs h => if xs.length ≤ LINE then
        (compLoop (fun x h => ((Res.of (asg tg x (wipeE env own)) h).bind fun env2 h =>
          match ifs with
          | none => (ev G n elt env2 h).bind fun y h => .ok (some y) h
          | some c => (evT G n c env2 h).bind fun b h => if b then (ev G n elt env2 h).bind fun y h => .ok (some y) h else .ok none h).calm) xs h).bind fun ys h => .ok (.lst ys) h else .no)
    | .rngs l m args => reL m ((evs (ev G n) args env h).bind fun ds h => (Res.of (rngA ds) h).bind fun xs h =>
        if xs.length ≤ LINE then .ok (if l then .lst xs else .tup xs) h else .no)
    | .dic t => .ok (.ptr h.length) (h ++ [if t then .dT [] else .dK []])
    | .dicd ks es => (evs (ev G n) es env h).calm.bind fun ds h =>
        if ks.length = ds.length then .ok (.ptr h.length) (h ++ [.dK ((ks.map Sum.inr).zip ds)]) else .no
    | .compK m elt tg i ifs own => match get env i with
      | some (.ptr p) => match h[p]? with
        | some c => match keysD c with
          | some xs => if xs.length ≤ LINE then reL m ((compLoop (fun x h => ((Res.of (asg tg x ((wipeE env own).set i none)) h).bind fun env2 h =>
              match ifs with
              | none => (ev G n elt env2 h).bind fun y h => .ok (some y) h
              | some c => (evT G n c env2 h).bind fun b h => if b then (ev G n elt env2 h).bind fun y h => .ok (some y) h else .ok none h).calm) xs (h.set p .dead)).bind fun ys h2 => .ok (.lst ys) (h2.set p c)) else .no
          | none => .no
        | none => .no
      | _ => .no
    | .lstm e => reL true ((ev G n e env h).bind fun d h => .of (biD .list h d) h)
    | .compQ m elt tg e ifs own => reL m ((ev G n e env h).bind fun d h => match lstP h d with
      | some p => (compLoopP (fun x h => ((Res.of (asg tg x (wipeE env own)) h).bind fun env2 h =>
          match ifs with
          | none => (ev G n elt env2 h).bind fun y h => .ok (some y) h
          | some c => (evT G n c env2 h).bind fun b h => if b then (ev G n elt env2 h).bind fun y h => .ok (some y) h else .ok none h).calm) p (lenP h p) 0 h).bind fun ys h => .ok (.lst ys) h
      | none => (Res.of (srcD .seq [d]) h).bind fun xs h => if xs.length ≤ LINE then
        (compLoop (fun x h => ((Res.of (asg tg x (wipeE env own)) h).bind fun env2 h =>
          match ifs with
          | none => (ev G n elt env2 h).bind fun y h => .ok (some y) h
          | some c => (evT G n c env2 h).bind fun b h => if b then (ev G n elt env2 h).bind fun y h => .ok (some y) h else .ok none h).calm) xs h).bind fun ys h => .ok (.lst ys) h else .no)
    | .upd o e => (ev G n o env h).bind fun x h => if isDp h x then (ev G n e env h).bind fun y h => match updD h x y with
      | some h => .ok .non h
      | none => .no else .no
    | .binm op a b => reL true ((ev G n a env h).bind fun x h => (ev G n b env h).bind fun y h => binM h op x y)
    | .slm o lo hi => reL true ((ev G n o env h).bind fun x h => (evo (ev G n) lo env h).bind fun l h => (evo (ev G n) hi env h).bind fun u h => .of (slD h x l u) h)
    | .dic1 k v => (((ev G n k env h).bind fun d h => (ev G n v env h).bind fun u h => Res.ok (d, u) h).calm).bind fun q h => match keyT q.1 with
      | some ks => .ok (.ptr h.length) (h ++ [.dT [(ks, q.2)]])
      | none => .no
    | .mm mx a b => (ev G n a env h).bind fun x h => (ev G n b env h).bind fun y h => mmD mx x y h
    | .lam ti nm x es b => if tabD h ti nm then (evs (ev G n) es env h).bind fun ds h => G.lam x (fun l h => ev (G.at l) n b env h) ds h else .no
    | .callv i es => match get env i with
      | some (.glo x) => if G.fnk x then (evs (ev G n) es env h).bind fun ds h => G.call x ds h else .no
      | _ => .no
    | .spl o e => (ev G n o env h).bind fun x h => if isStrD x then (ev G n e env h).bind fun y h => .of (splD x y) h else .no
def evT : Wr → Nat → IE → Nv → Hs → Res Bool
  | _, 0, _, _, _ => .no
  | G, n + 1, e, env, h => match e with
    | .and a b => (evT G n a env h).bind fun k h => if k then evT G n b env h else .ok false h
    | .or a b => (evT G n a env h).bind fun k h => if k then .ok true h else evT G n b env h
    | .not a => (evT G n a env h).bind fun k h => .ok (!k) h
    | e => (ev G n e env h).bind fun x h => .of (truth h x) h
end

/-! ### statements -/
def forLoop (f : D → Nv → Hs → SRes) : List D → Nv → Hs → SRes
  | [], env, h => .nx env h
  | x :: xs, env, h => match f x env h with
    | .nx env h => forLoop f xs env h
    | .ct env h => forLoop f xs env h
    | .bk env h => .nx env h
    | .rt d h => .rt d h
    | .ex e env h => .ex e env h
    | .no => .no
def SRes.then (r : SRes) (f : Nv → Hs → SRes) : SRes := match r with
  | .nx env h => f env h
  | r => r
def exs (f : IS → Nv → Hs → SRes) : List IS → Nv → Hs → SRes
  | [], env, h => .nx env h
  | s :: ss, env, h => (f s env h).then (exs f ss)
def SRes.of (o : Option (Nv × Hs)) : SRes := match o with
  | some (env, h) => .nx env h
  | none => .no
/-- a while, of so many turns at most -/
def whileF (f : Nv → Hs → Res Bool) (b : Nv → Hs → SRes) : Nat → Nv → Hs → SRes
  | 0, _, _ => .no
  | n + 1, env, h => (f env h).sbind env fun k h => if k then (match b env h with
    | .nx env h => whileF f b n env h
    | .ct env h => whileF f b n env h
    | .bk env h => .nx env h
    | .rt d h => .rt d h
    | .ex e env h => .ex e env h
    | .no => .no) else .nx env h
/-- two values of a pair -/
def pairOf : D → Option (D × D)
  | .tup [u, v] => some (u, v)
  | _ => none
def ex (G : Wr) : Nat → IS → Nv → Hs → SRes
  | 0, _, _, _ => .no
  | n + 1, s, env, h => match s with
    | .set t e => (ev G n e env h).sbind env fun d h => match asg t d env with
      | some env => .nx env h
      | none => .no
    | .set2 o1 i1 o2 i2 e => (ev G n e env h).sbind env fun d h => match pairOf d with
      | some (u, v) => (ev G n o1 env h).sbind env fun x h => (ev G n i1 env h).sbind env fun y h => match setIxD h x y u with
        | some h => (ev G n o2 env h).sbind env fun x h => (ev G n i2 env h).sbind env fun y h => match setIxD h x y v with
          | some h => .nx env h
          | none => .no
        | none => .no
      | none => .no
    | .par3 i j l a b c => (ev G n a env h).sbind env fun x h => (ev G n b env h).sbind env fun y h => (ev G n c env h).sbind env fun z h => .nx (((env.set i (some x)).set j (some y)).set l (some z)) h
    | .par i j a b => (ev G n a env h).sbind env fun x h => (ev G n b env h).sbind env fun y h => .nx ((env.set i (some x)).set j (some y)) h
    | .setix o i e => (ev G n e env h).sbind env fun v h => (ev G n o env h).sbind env fun x h => (ev G n i env h).sbind env fun y h => match setIxD h x y v with
      | some h => .nx env h
      | none => .no
    | .setsl o lo hi e => (ev G n e env h).sbind env fun v h => (ev G n o env h).sbind env fun x h => (evo (ev G n) (some lo) env h).sbind env fun a h => (evo (ev G n) (some hi) env h).sbind env fun b h => match setSlD h x a b v with
      | some h => .nx env h
      | none => .no
    | .setf o f e => (ev G n e env h).sbind env fun v h => (ev G n o env h).sbind env fun x h => match setFD G h x f v with
      | some h => .nx env h
      | none => .no
    | .aug i op e => match get env i with
      | some (.int x) => (ev G n e env h).sbind env fun y h => match y with
        | .int z => match binD h op (.int x) (.int z) with
          | some z => .nx (env.set i (some z)) h
          | none => .no
        | _ => .no
      | _ => .no
    | .augix o i op e => (ev G n o env h).sbind env fun x h => (ev G n i env h).sbind env fun k h => match x, ixD h x k with
      | .ptr p, some (.int a) => (ev G n e env h).sbind env fun y h => match y with
        | .int b => match binD h op (.int a) (.int b) with
          | some z => match setIxD h (.ptr p) k z with
            | some h => .nx env h
            | none => .no
          | none => .no
        | _ => .no
      | _, _ => .no
    | .ex e => (ev G n e env h).sbind env fun _ h => .nx env h
    | .ret e => (ev G n e env h).sbind env fun d h => .rt d h
    | .retN => .rt .non h
    | .ife c a b => (evT G n c env h).sbind env fun k h => if k then exs (ex G n) a env h else exs (ex G n) b env h
    | .whil m c body => whileF (evT G n c) (exs (ex G n) body) m env h
    | .loop tg k args body => (evs (ev G n) args env h).sbind env fun ds h => match srcD k ds with
      | some xs => forLoop (fun x env h => match asg tg x env with
        | some env => exs (ex G n) body env h
        | none => .no) xs env h
      | none => .no
    | .pass => .nx env h
    | .brk => .bk env h
    | .cnt => .ct env h
    | .frz i => match get env i with
      | some (.ptr p) => match h[p]? with
        | some (.lst xs) => .nx (env.set i (some (.lst xs))) (h.set p .dead)
        | _ => .no
      | some (.lst xs) => .nx env h
      | none => .nx env h
      | _ => .no
    | .bad => .no
    | .raise C es => (evs (ev G n) es env h).sbind env fun ds h => match G.make C ds h with
      | .ok (.exv C' ns ds') h => if ns.isEmpty then .no else .ex ⟨C', ns.zip ds'⟩ env h
      | _ => .no
end SI
end
section
set_option Elab.async false
set_option linter.all false
set_option maxRecDepth 100000
set_option maxHeartbeats 4000000
/-! SI2: side conditions that hang on the text alone. -/
namespace SI
open PySem PySem.Spec PyProof.Rows L2

def starless : Expr → Bool
  | .Starred _ _ => false
  | _ => true
theorem star_cons {e : Expr} (h : starless e = true) (es : List Expr) (env : PySem.Env) : starEach (e :: es) env = (false, eval e env) :: starEach es env := by
  cases e <;> first | rfl | cases h
theorem star_any {pos : Pos} : ∀ {es : List Expr} {env : PySem.Env}, es.all starless = true → (backTo pos (starEach es env)).any (·.1) = false
  | [], _, _ => rfl
  | e :: es, env, h => by
    have h1 : starless e = true ∧ es.all starless = true := by simpa using h
    rw [star_cons h1.1]
    show (false || (backTo pos (starEach es env)).any (·.1)) = false
    rw [star_any h1.2]; rfl
/-- no comprehension -/
def compless : Expr → Bool
  | .ListComp .. => false
  | .SetComp .. => false
  | .DictComp .. => false
  | _ => true
theorem no_swap {e : Expr} (h : compless e = true) (t : Option Expr) (l : Nat) (env : PySem.Env) : swapsWith e t l env = pure false := by
  cases e <;> first | rfl | cases h
def sliceless : Expr → Bool
  | .Slice .. => false
  | _ => true
theorem plain_ix {e : Expr} (h : sliceless e = true) : PlainIx e := by
  intro o i
  cases e <;> first | rfl | cases h
/-- whose truth as a test is its value's -/
def plainT : Expr → Bool
  | .UnaryOp .Not _ _ => false
  | .BoolOp .. => false
  | .IfExp .. => false
  | .Compare .. => false
  | _ => true
theorem plain_true {e : Expr} (h : plainT e = true) (env : PySem.Env) (whole : Sem Value) : isTrue e env whole = (do let v ← whole; standAt e.pos; holding [v] (truthy v)) := by
  cases e with
  | UnaryOp op a p => cases op <;> first | rfl | cases h
  | BoolOp => cases h
  | IfExp => cases h
  | Compare => cases h
  | _ => rfl
/-- an attribute's base that is no super() -/
def superless : Expr → Bool
  | .Call (.Name _ _) [] [] _ => false
  | _ => true
theorem base_plain {e : Expr} (h : superless e = true) (f : Str) (env : PySem.Env) (w : Sem Value) : attributeBase e f env w = w := by
  unfold attributeBase
  split
  · cases h
  · rfl
def setless : Expr → Bool
  | .Set .. => false
  | _ => true
theorem fold_set {e : Expr} (h : setless e = true) (env : PySem.Env) (x : Value) : foldedSetIterable e env x = pure x := by
  cases e <;> first | rfl | cases h
theorem behind_plain {e : Expr} (h : setless e = true) (op : CmpOp) : behindInMarks op e = false := by
  cases e <;> first | rfl | cases h
theorem aug_ok {e : Expr} (h : sliceless e = true) : ∀ ov iv new, augStore e ov iv new = (do
    holding [new, ov, iv] (setItem ov iv new)
    release [new, ov, iv] []
    pure .next) := by
  intro a b c
  cases e <;> first | rfl | cases h
theorem few_ok {args : List Expr} {env : PySem.Env} {pos : Pos} (h : args.all starless = true) (hl : args.length < 30) : methodCallForm (args.length + ([] : List Keyword).length) (backTo pos (starEach args env)) (backToKw pos (keywordEach [] env)) = true := by
  have a : ∀ es : List Expr, es.all starless = true → (backTo pos (starEach es env)).all (!·.1) = true := by
    intro es
    induction es with
    | nil => intro _; rfl
    | cons e es ih =>
      intro h
      have h1 : starless e = true ∧ es.all starless = true := by simpa using h
      rw [star_cons h1.1]
      show (!false && (backTo pos (starEach es env)).all (!·.1)) = true
      rw [ih h1.2]; rfl
  show ((backTo pos (starEach args env)).all (!·.1) && true && decide (args.length + 0 + 0 < 30)) = true
  rw [a args h, decide_eq_true (by omega)]; rfl
theorem meth_eq {o : Expr} {m : Str} {apos pos : Pos} {args : List Expr} {env : PySem.Env} (h : args.all starless = true) (hl : args.length < 30) (ho : superless o = true) (hp : (apos.endLine == pos.line) = true) :
    ∃ pl : PySem.Sem Bool, eval (.Call (.Attribute o m apos) args [] pos) env = (do
      let ov ← eval o env
      standAt apos.atName
      let (f, first) ← holding [ov] (getMethod ov m pl)
      callWith pos f first (backTo pos (starEach args env)) (backToKw pos (keywordEach [] env))) := by
  refine ⟨(do return (← importBound o env).getD true), ?_⟩
  show (do
    let ov ← attributeBase o m env (eval o env)
    standAt apos.atName
    methodCall o m apos pos env ov (args.length + ([] : List Keyword).length) (backTo pos (starEach args env)) (backToKw pos (keywordEach [] env))) = _
  rw [base_plain ho]
  unfold methodCall
  rw [few_ok h hl]
  unfold methodCallPos calleeOf
  rw [if_pos (show (!true || apos.endLine == pos.line) = true by rw [hp]; rfl)]
  rfl
end SI
end
section
set_option Elab.async false
set_option linter.all false
set_option maxRecDepth 100000
set_option maxHeartbeats 4000000
/-! SI3: what the small language says is what the layer's readings ask: operators. -/
namespace SI
open PySem PySem.Spec PyProof.Rows L2

/-- the frame's names -/
structure NvOk (K : PySem.W.Frag) (mg : Mg) (O : Om) (env : Nv) (sg : L2.St) : Prop where
  len : env.length = sg.length
  val : ∀ (i : Nat) (d : D), env[i]? = some (some d) → ∃ v, sg[i]? = some (some v) ∧ Rep K mg O d v
theorem NvOk.stp {K : PySem.W.Frag} {mg : Mg} {O O' : Om} {H H' : Hp} {env : Nv} {sg : L2.St} (e : NvOk K mg O env sg) (s : Stp O H O' H') : NvOk K mg O' env sg :=
  ⟨e.len, fun i d q => let ⟨v, a, b⟩ := e.val i d q; ⟨v, a, b.stp s⟩⟩
theorem NvOk.set {K : PySem.W.Frag} {mg : Mg} {O : Om} {env : Nv} {sg : L2.St} (e : NvOk K mg O env sg) (i : Nat) {d : D} {v : V} (r : Rep K mg O d v) : NvOk K mg O (env.set i (some d)) (sg.set i (some v)) := by
  refine ⟨by rw [List.length_set, List.length_set]; exact e.len, fun j d' q => ?_⟩
  by_cases h : i = j
  · subst h
    by_cases hl : i < env.length
    · rw [List.getElem?_set_self hl] at q
      have q' : d = d' := by simpa using q
      subst q'
      exact ⟨v, List.getElem?_set_self (by rw [← e.len]; exact hl), r⟩
    · rw [List.getElem?_eq_none (by rw [List.length_set]; omega)] at q
      cases q
  · rw [List.getElem?_set_ne h] at q
    obtain ⟨w, a, b⟩ := e.val j d' q
    exact ⟨w, by rw [List.getElem?_set_ne h]; exact a, b⟩
theorem NvOk.clear {K : PySem.W.Frag} {mg : Mg} {O : Om} {env : Nv} {sg : L2.St} (e : NvOk K mg O env sg) (i : Nat) : NvOk K mg O (env.set i none) (sg.set i none) := by
  refine ⟨by rw [List.length_set, List.length_set]; exact e.len, fun j d' q => ?_⟩
  by_cases h : i = j
  · subst h
    by_cases hl : i < env.length
    · rw [List.getElem?_set_self hl] at q
      cases q
    · rw [List.getElem?_eq_none (by rw [List.length_set]; omega)] at q
      cases q
  · rw [List.getElem?_set_ne h] at q
    obtain ⟨w, a, b⟩ := e.val j d' q
    exact ⟨w, by rw [List.getElem?_set_ne h]; exact a, b⟩
theorem NvOk.wipe {K : PySem.W.Frag} {mg : Mg} {O : Om} {env : Nv} {sg : L2.St} (e : NvOk K mg O env sg) : ∀ l : List Nat, NvOk K mg O (wipeE env l) (L2.wipe sg l)
  | [] => e
  | v :: vs => (NvOk.wipe e vs).clear v

/-- an exception that flies: its class, its own dict -/
def ExOk (K : PySem.W.Frag) (mg : Mg) (O : Om) (e : Exc) (cls : Value) (d : Option Addr) : Prop :=
  ∃ (C dx : Addr) (fs : List (Str × V)), mg e.cls = some (.ref C) ∧ cls = .ref C ∧ d = some dx ∧ O.F dx = some (.xd fs) ∧ RepP K mg O e.fs fs

section
variable {α β γ δ : Type} (X : Cx) (W : WX)
/-- what is wanted behind a plain outcome -/
def Post (sg : L2.St) (O : Om) (H : Hp) (r : Res α) (rep : Om → α → β → Prop) (Q : β → Hp → Prop) : Prop := match r with
  | .ok a h' => ∀ (O' : Om) (b : β) (H' : Hp), Stp O H O' H' → SR X.K X.mg O' h' H' → rep O' a b → Q b H'
  | .ex e h' => ∀ (O' : Om) (cls : Value) (d : Option Addr) (H' : Hp), Stp O H O' H' → SR X.K X.mg O' h' H' → ExOk X.K X.mg O' e cls d → W cls d sg H'
  | .no => False
variable {X W}
theorem Post.weak {sg : L2.St} {O O1 : Om} {H H1 : Hp} {r : Res α} {rep : Om → α → β → Prop} {Q : β → Hp → Prop} (p : Post X W sg O H r rep Q) (s : Stp O H O1 H1) : Post X W sg O1 H1 r rep Q := by
  cases r with
  | ok a h => exact fun O' b H' t => p O' b H' (s.trans t)
  | ex e h => exact fun O' c d H' t => p O' c d H' (s.trans t)
  | no => exact p
theorem Post.bind {sg : L2.St} {O : Om} {H : Hp} {r : Res α} {g : α → Hs → Res γ} {rep : Om → α → β → Prop} {rep2 : Om → γ → δ → Prop} {Q : δ → Hp → Prop} {Q' : β → Hp → Prop} (p : Post X W sg O H (r.bind g) rep2 Q)
    (k : ∀ (a : α) (h1 : Hs) (O1 : Om) (b : β) (H1 : Hp), r = .ok a h1 → Stp O H O1 H1 → SR X.K X.mg O1 h1 H1 → rep O1 a b → Post X W sg O1 H1 (g a h1) rep2 Q → Q' b H1) : Post X W sg O H r rep Q' := by
  cases r with
  | ok a h => exact fun O' b H' s sr rb => k a h O' b H' rfl s sr rb (Post.weak p s)
  | ex e h => exact p
  | no => exact p
theorem Post.here {sg : L2.St} {O : Om} {H : Hp} {a : α} {h : Hs} {rep : Om → α → β → Prop} {Q : β → Hp → Prop} (p : Post X W sg O H (.ok a h) rep Q) (S : SR X.K X.mg O h H) {b : β} (r : rep O a b) : Q b H :=
  p O b H (Stp.refl O H) S r
theorem Post.mono {sg : L2.St} {O : Om} {H : Hp} {r : Res α} {rep : Om → α → β → Prop} {Q Q' : β → Hp → Prop} (p : Post X W sg O H r rep Q) (k : ∀ b H', Q b H' → Q' b H') : Post X W sg O H r rep Q' := by
  cases r with
  | ok a h => exact fun O' b H' s sr rb => k _ _ (p O' b H' s sr rb)
  | ex e h => exact p
  | no => exact p
/-- a pure look-up -/
theorem Post.of {sg : L2.St} {O : Om} {H : Hp} {o : Option α} {h : Hs} {rep : Om → α → β → Prop} {Q : β → Hp → Prop} (p : Post X W sg O H (Res.of o h) rep Q) (S : SR X.K X.mg O h H) : ∃ a, o = some a ∧ ∀ b, rep O a b → Q b H := by
  cases o with
  | none => exact (show False from p).elim
  | some a => exact ⟨a, rfl, fun b r => Post.here p S r⟩
theorem Post.ofb {sg : L2.St} {O : Om} {H : Hp} {o : Option α} {h : Hs} {g : α → Hs → Res γ} {rep2 : Om → γ → δ → Prop} {Q : δ → Hp → Prop} (p : Post X W sg O H ((Res.of o h).bind g) rep2 Q) : ∃ a, o = some a ∧ Post X W sg O H (g a h) rep2 Q := by
  cases o with
  | none => exact (show False from p).elim
  | some a => exact ⟨a, rfl, p⟩
/-- a thing that stays is made at p -/
theorem Post.new {sg : L2.St} {O : Om} {H : Hp} {a : α} {h : Hs} {rep : Om → α → β → Prop} {Q : β → Hp → Prop} (p : Post X W sg O H (.ok a h) rep Q) (S : SR X.K X.mg O h H) {q : Addr} (hq : H q = none) (o : HO) {b : β}
    (r : rep (O.frz q o) a b) : Q b (upd H q o) :=
  let ⟨s, sr⟩ := S.newF hq o
  p _ b _ s sr r
end

abbrev RepX (X : Cx) : Om → D → V → Prop := Rep X.K X.mg
abbrev RepLX (X : Cx) : Om → List D → List V → Prop := RepL X.K X.mg
abbrev RepB : Om → Bool → Bool → Prop := fun _ a b => a = b
section
variable (X : Cx) (W : WX)
def tE (f : Nv → Hs → Res D) : TE := fun sg H Q => ∃ (O : Om) (env : Nv) (h : Hs), NvOk X.K X.mg O env sg ∧ SR X.K X.mg O h H ∧ Post X W sg O H (f env h) (RepX X) Q
def tA (f : Nv → Hs → Res (List D)) : TA := fun sg H Q => ∃ (O : Om) (env : Nv) (h : Hs), NvOk X.K X.mg O env sg ∧ SR X.K X.mg O h H ∧ Post X W sg O H (f env h) (RepLX X) Q
def tT (f : Nv → Hs → Res Bool) : TT := fun sg H Q => ∃ (O : Om) (env : Nv) (h : Hs), NvOk X.K X.mg O env sg ∧ SR X.K X.mg O h H ∧ Post X W sg O H (f env h) RepB Q
variable {X W}
theorem PE.weak {e : Expr} {t t' : TE} (p : PE X e t) (k : ∀ sg H Q, t' sg H Q → t sg H Q) : PE X e t' := ⟨fun pn s sg H Q I w => p.run pn s sg H Q I (k sg H Q w)⟩
theorem PA.weak {e : List Expr} {t t' : TA} (p : PA X e t) (k : ∀ sg H Q, t' sg H Q → t sg H Q) : PA X e t' := ⟨fun ps pn s sg H Q I w => p.run ps pn s sg H Q I (k sg H Q w)⟩
theorem PT.weak {e : Expr} {t t' : TT} (p : PT X e t) (k : ∀ sg H Q, t' sg H Q → t sg H Q) : PT X e t' := ⟨fun pn s sg H Q I w => p.run pn s sg H Q I (k sg H Q w)⟩
theorem PW.weak {e : Expr} {t t' : TT} (p : PW X e t) (k : ∀ sg H Q, t' sg H Q → t sg H Q) : PW X e t' := ⟨fun wh pn s sg H Q I w => p.run wh pn s sg H Q I (k sg H Q w)⟩
theorem PI.weak {g e : Expr} {t t' : TI} (p : PI X g e t) (k : ∀ sg H R, t' sg H R → t sg H R) : PI X g e t' := ⟨fun pn s sg H R I w => p.run pn s sg H R I (k sg H R w)⟩
theorem PS.weak {e : Stmt} {t t' : TS} (p : PS X e t) (k : ∀ D sg H, t' D sg H → t D sg H) : PS X e t' := ⟨fun pn s sg H D I w => p.run pn s sg H D I (k D sg H w)⟩
theorem PSs.weak {e : List Stmt} {t t' : TS} (p : PSs X e t) (k : ∀ D sg H, t' D sg H → t D sg H) : PSs X e t' := ⟨fun pn s sg H D I w => p.run pn s sg H D I (k D sg H w)⟩

/-! ### what stands for a value -/
theorem Rep.int_inv {O : Om} {i : Int} {v : V} (r : RepX X O (.int i) v) : v = .int i := by cases r; rfl
theorem Rep.bl_inv {O : Om} {i : Bool} {v : V} (r : RepX X O (.bl i) v) : v = .bl i := by cases r; rfl
theorem Rep.str_inv {O : Om} {i : Str} {v : V} (r : RepX X O (.str i) v) : v = .str i := by cases r; rfl
theorem Rep.non_inv {O : Om} {v : V} (r : RepX X O .non v) : v = .non := by cases r; rfl
/-- a list or a tuple that may be read -/
theorem un_ok {O : Om} {h : Hs} {H : Hp} (S : SR X.K X.mg O h H) {d : D} {v : V} (r : RepX X O d v) {l : Bool} {xs : List D} (e : un h d = some (l, xs)) :
    ∃ (p : Addr) (vs : List V), v = .ref p ∧ (if l = true then SqL X.K H p vs else SqT X.K H p vs) ∧ RepLX X O xs vs ∧ vs.length ≤ sizeLine := by
  cases r with
  | tup q z t => cases e; exact ⟨_, _, rfl, SqT.of (S.sub _ _ q), t, z⟩
  | lst q z t => cases e; exact ⟨_, _, rfl, SqL.of (S.sub _ _ q), t, z⟩
  | ksl q z t => cases e; exact ⟨_, _, rfl, sqL_up S.sub q, t, z⟩
  | kst q z t => cases e; exact ⟨_, _, rfl, sqT_up S.sub q, t, z⟩
  | @ptr n q =>
    have e' : (match h[n]? with
      | some (.lst xs) => some (true, xs)
      | _ => none) = some (l, xs) := e
    split at e'
    · rename_i ys hn
      cases e'
      obtain ⟨vs, hv, z, t⟩ := S.cell _ _ hn
      exact ⟨_, vs, rfl, SqL.of hv, t, z⟩
    · cases e'
  | _ => cases e
theorem valSeq_un {h : Hs} {d : D} {p : Bool × List D} (e : valSeq d = some p) : un h d = some p := by
  cases d <;> first | exact e | cases e
/-- .. tracked, to be glued -/
theorem un_lst {O : Om} {h : Hs} {H : Hp} (S : SR X.K X.mg O h H) {d : D} {v : V} (r : RepX X O d v) (nk : isKs d = false) {xs : List D} (e : un h d = some (true, xs)) :
    ∃ (p : Addr) (vs : List V), v = .ref p ∧ H p = some (.lst vs) ∧ RepLX X O xs vs ∧ vs.length ≤ sizeLine := by
  cases r with
  | lst q z t => cases e; exact ⟨_, _, rfl, S.sub _ _ q, t, z⟩
  | ksl q z t => cases nk
  | kst q z t => cases nk
  | @ptr n q =>
    have e' : (match h[n]? with
      | some (.lst xs) => some (true, xs)
      | _ => none) = some (true, xs) := e
    split at e'
    · rename_i ys hn
      cases e'
      obtain ⟨vs, hv, z, t⟩ := S.cell _ _ hn
      exact ⟨_, vs, rfl, hv, t, z⟩
    · cases e'
  | _ => cases e
theorem LINE_eq : LINE = sizeLine := sizeLine_eq.symm

/-! ### operators -/
theorem big_ok {i : Int} (h : big64 i = true) : -(2 ^ 64) < i ∧ i < 2 ^ 64 := by
  have z := of_decide_eq_true h
  omega
/-- () * k, t * 1: the tuple itself, or the empty one -/
abbrev rAdd4 (X : Cx) : R2 := fun x y H Q => (∃ i j, x = .int i ∧ y = .int j ∧ Q (.int (i + j)) H) ∨ (∃ i j, x = .str i ∧ y = .str j ∧ i.length + j.length ≤ sizeLine ∧ Q (.str (i ++ j)) H) ∨ rCatA X.K x y H Q ∨ rCat x y H Q
theorem op_add4 : OpR X (binaryOp .Add) (rAdd4 X) := op_add.or (op_add_str.or (op_catA.or op_cat))
end
end SI
end
section
set_option Elab.async false
set_option linter.all false
set_option maxRecDepth 100000
set_option maxHeartbeats 4000000
/-! SIX7: a tuple no times. -/
namespace SI
open PySem PySem.Spec PyProof.Rows L2
open PySem.AutoSeq1 (wpAny_loadPart')
theorem tup_mul_no (l : Addr) (items : Array Value) (n : Nat) (dd : Option Addr) (sl : Array (Option Value)) (x : Int) (u : Tok) (c0 : (decide (x < -(2 ^ 63)) || decide (x ≥ 2 ^ 63)) = false) (c1 : (items.isEmpty || x == 1) = false) (c2 : (decide (x ≤ 0) || items.isEmpty) = true) :
    Meets (Builtin.«tuple.__mul__» ⟨[.ref l, .int x u], []⟩) (fun _ R s => s.heap.get? l = some { cls := .type "tuple", dict := dd, data := .seq items n, slots := sl } ∧
      R (.ok (.ret (Value.ref s.heap.objs.size))) { s with heap := s.heap.push { cls := Value.type "tuple", data := Data.seq #[] }, toks := s.toks }) :=
  .of_wp fun prog w A R s h => by
    obtain ⟨hp, g, d, tk, os⟩ := s
    obtain ⟨hl, h⟩ := h
    have f1 := PySem.AutoSeq1.idx_int
    wp_walk using wpAny_loadPart' hl
    repeat (first
      | (refine wpAny_ite_false (decide_eq_false (by rw [c0]; exact Bool.false_ne_true)) ?_; wp_walk using wpAny_loadPart' hl)
      | (refine wpAny_ite_false (decide_eq_false (by rw [c1]; exact Bool.false_ne_true)) ?_; wp_walk using wpAny_loadPart' hl)
      | (refine wpAny_ite_true (decide_eq_true c2) ?_; wp_walk using wpAny_loadPart' hl)
      | (refine wpAny_ite_false (decide_eq_false (by simp)) ?_; wp_walk using wpAny_loadPart' hl))
    exact ⟨_, rfl, h⟩
section
variable {X : Cx}
abbrev rRep0 (X : Cx) : R2 := fun x y H Q => ∃ l k xs, x = .ref l ∧ y = .int k ∧ SqT X.K H l xs ∧ xs ≠ [] ∧ -1000 ≤ k ∧ k ≤ 0 ∧ ∀ p, H p = none → Q (.ref p) (upd H p (.tup []))
theorem op_rep0 : OpR X (binaryOp .Mult) (rRep0 X) := by
  intro pn s sg H x y v u Q I rx ry h
  obtain ⟨l, k, xs, rfl, rfl, hT, hne, h1, h2, q⟩ := h
  cases rx
  obtain ⟨t, rfl⟩ := ry
  obtain ⟨its, r, ⟨⟨cls, dd, data, sl⟩, ho, hc, n, hd⟩, hs⟩ := I.tuple hT
  simp only at hc hd
  subst hc hd
  have hle : its.length = xs.length := r.length.symm
  have hn : its ≠ [] := fun e => hne (by
    rw [e] at hle
    exact List.eq_nil_of_length_eq_zero hle.symm)
  have hi : its.toArray.isEmpty = false := by
    cases its with
    | nil => exact absurd rfl hn
    | cons a b => rfl
  have c0 : (decide (k < -(2 ^ 63)) || decide (k ≥ 2 ^ 63)) = false := by
    rw [decide_eq_false (by omega), decide_eq_false (by omega)] <;> rfl
  have c1 : (its.toArray.isEmpty || k == 1) = false := by
    rw [hi, Bool.false_or]
    exact beq_eq_false_iff_ne.mpr (by omega)
  have c2 : (decide (k ≤ 0) || its.toArray.isEmpty) = true := by
    rw [decide_eq_true h2]; rfl
  refine wpAny_binaryOp_repeat_ref (T := "tuple") (U := "int") (by decide) ⟨_, ho, rfl⟩ (fun s' => typeIs_int s' k t) noFill_tuple_mul F.fills_int_mul F.slot_int_rmul repeat_tuple F.slot_int_index.lookup
    (call_meets F.slot_int_rmul (typeIs_int s k t) F.entry_int_rmul (F.args_int_rmul_2 _ _) (int_rmul_tuple k t l its.toArray n dd sl)
      ⟨ho, rfl, ⟨_, ho, rfl⟩, call_meets F.slot_tuple_mul ⟨_, ho, rfl⟩ F.entry_tuple_mul (F.args_tuple_mul_2 _ _) (tup_mul_no l its.toArray n dd sl k t c0 c1 c2) ⟨ho, ?_⟩⟩)
  refine ⟨.ref s.heap.objs.size, _, I.laid (t' := s.toks) (o := .tup []) (fun b ob q => Heap.get?_push_of_some _ q) (Nat.le_refl _) ?_, rfl, q _ (I.hok.fresh (Nat.le_refl _))⟩
  exact ⟨by rw [sizeLine_eq]; simp, [], .nil, IsTup.new _ _⟩
end
end SI
end
section
set_option Elab.async false
set_option linter.all false
set_option maxRecDepth 100000
set_option maxHeartbeats 4000000
/-! SI4: operators. -/
namespace SI
open PySem PySem.Spec PyProof.Rows L2
open PySem.AutoSeq1 (wpAny_loadPart')
/-- a tuple once, or the empty one: itself -/
theorem tup_mul_self (l : Addr) (its : Array Value) (n : Nat) (dd : Option Addr) (sl : Array (Option Value)) (x : Int) (u : Tok) (c0 : (decide (x < -(2 ^ 63)) || decide (x ≥ 2 ^ 63)) = false) (c1 : (its.isEmpty || x == 1) = true) :
    Meets (Builtin.«tuple.__mul__» ⟨[.ref l, .int x u], []⟩) (fun _ R s => s.heap.get? l = some { cls := .type "tuple", dict := dd, data := .seq its n, slots := sl } ∧ R (.ok (.ret (Value.ref l))) s) :=
  .of_wp fun prog w A R s h => by
    obtain ⟨hp, g, d, tk, os⟩ := s
    obtain ⟨hl, h⟩ := h
    have f1 := PySem.AutoSeq1.idx_int
    wp_walk using wpAny_loadPart' hl
    repeat (first
      | (refine wpAny_ite_false (decide_eq_false (by rw [c0]; exact Bool.false_ne_true)) ?_; wp_walk using wpAny_loadPart' hl)
      | (refine wpAny_ite_true (decide_eq_true c1) ?_; wp_walk using wpAny_loadPart' hl))
    exact ⟨_, rfl, h⟩
section
variable {X : Cx}
abbrev rRep1 (X : Cx) : R2 := fun x y H Q => ∃ l k xs, x = .ref l ∧ y = .int k ∧ SqT X.K H l xs ∧ 1 ≤ k ∧ k ≤ 1000 ∧ (xs = [] ∨ k = 1) ∧ Q (.ref l) H
theorem op_rep1 : OpR X (binaryOp .Mult) (rRep1 X) := by
  intro pn s sg H x y v u Q I rx ry h
  obtain ⟨l, k, xs, rfl, rfl, hT, h1, h2, hz, q⟩ := h
  cases rx
  obtain ⟨t, rfl⟩ := ry
  obtain ⟨its, r, ⟨⟨cls, dd, data, sl⟩, ho, hc, n, hd⟩, hs⟩ := I.tuple hT
  simp only at hc hd
  subst hc hd
  have c0 : (decide (k < -(2 ^ 63)) || decide (k ≥ 2 ^ 63)) = false := by
    rw [decide_eq_false (by omega), decide_eq_false (by omega)] <;> rfl
  have c1 : (its.toArray.isEmpty || k == 1) = true := by
    rcases hz with z | z
    · subst z
      cases r
      rfl
    · rw [z]; simp
  refine wpAny_binaryOp_repeat_ref (T := "tuple") (U := "int") (by decide) ⟨_, ho, rfl⟩ (fun s' => typeIs_int s' k t) noFill_tuple_mul F.fills_int_mul F.slot_int_rmul repeat_tuple F.slot_int_index.lookup
    (call_meets F.slot_int_rmul (typeIs_int s k t) F.entry_int_rmul (F.args_int_rmul_2 _ _) (int_rmul_tuple k t l its.toArray n dd sl)
      ⟨ho, rfl, ⟨_, ho, rfl⟩, call_meets F.slot_tuple_mul ⟨_, ho, rfl⟩ F.entry_tuple_mul (F.args_tuple_mul_2 _ _) (tup_mul_self l its.toArray n dd sl k t c0 c1) ⟨ho, ?_⟩⟩)
  exact ⟨.ref l, H, I, rfl, q⟩
abbrev rMul4 (X : Cx) : R2 := fun x y H Q => rI CMul (fun i j => .int (i * j)) x y H Q ∨ rRepT X.K x y H Q ∨ rRep1 X x y H Q ∨ rRep x y H Q ∨ rRep0 X x y H Q
theorem op_mul4 : OpR X (binaryOp .Mult) (rMul4 X) := op_mul.or (op_repT.or (op_rep1.or (op_rep.or op_rep0)))
end
end SI
end
section
set_option Elab.async false
set_option linter.all false
set_option maxRecDepth 100000
set_option maxHeartbeats 4000000
/-! SI5: operators on plain data. -/
namespace SI
open PySem PySem.Spec PyProof.Rows L2
section
variable {X : Cx} {W : WX}
theorem RepL.ne_nil {O : Om} {xs : List D} {vs : List V} (r : RepLX X O xs vs) : xs = [] ↔ vs = [] := by
  have z := r.length
  constructor
  · intro e; subst e; exact List.eq_nil_of_length_eq_zero z.symm
  · intro e; subst e; exact List.eq_nil_of_length_eq_zero z
theorem frz_tup {O : Om} {H : Hp} {h : Hs} (S : SR X.K X.mg O h H) {p : Addr} {xs : List D} {vs : List V} (hp : H p = none) (z : vs.length ≤ sizeLine) (r : RepLX X O xs vs) : RepX X (O.frz p (.tup vs)) (.tup xs) (.ref p) :=
  .tup (by show upd O.F p _ p = _; rw [upd_same]) z (r.stp (S.newF hp (.tup vs)).1)
theorem frz_lst {O : Om} {H : Hp} {h : Hs} (S : SR X.K X.mg O h H) {p : Addr} {xs : List D} {vs : List V} (hp : H p = none) (z : vs.length ≤ sizeLine) (r : RepLX X O xs vs) : RepX X (O.frz p (.lst vs)) (.lst xs) (.ref p) :=
  .lst (by show upd O.F p _ p = _; rw [upd_same]) z (r.stp (S.newF hp (.lst vs)).1)
/-- what an operator gives -/
def opR (X : Cx) : Bop → R2
  | .add => rAdd4 X
  | .sub => rI0 fun i j => .int (i - j)
  | .mul => rMul4 X
  | .fdiv => rI CDiv fun i j => .int (i / j)
  | .mod => rI (fun _ j => 0 < j) fun i j => .int (i % j)
  | .pow => rI CPow fun i j => .int (i ^ j.toNat)
def opOf : Bop → Operator
  | .add => .Add
  | .sub => .Sub
  | .mul => .Mult
  | .fdiv => .FloorDiv
  | .mod => .Mod
  | .pow => .Pow
theorem op_all (op : Bop) : OpR X (binaryOp (opOf op)) (opR X op) := by
  cases op with
  | add => exact op_add4
  | sub => exact op_sub
  | mul => exact op_mul4
  | fdiv => exact op_fdiv
  | mod => exact op_mod
  | pow => exact op_pow
theorem len_rep (xs : List V) (k : Nat) : (List.replicate k xs).flatten.length = k * xs.length := by
  rw [List.length_flatten, List.map_replicate, List.sum_replicate_nat]
theorem bin_ok {sg : L2.St} {O : Om} {H : Hp} {h : Hs} {op : Bop} {x y : D} {v u : V} {Q : VK} (S : SR X.K X.mg O h H) (rx : RepX X O x v) (ry : RepX X O y u) (p : Post X W sg O H (binA h op x y) (RepX X) Q) : opR X op v u H Q := by
  have LE := LINE_eq
  unfold binA at p
  split at p
  · rename_i d hd
    unfold binD at hd
    split at hd
    · rename_i i j
      rw [rx.int_inv, ry.int_inv]
      cases op with
      | add => cases hd; exact .inl ⟨i, j, rfl, rfl, p.here S (.int _)⟩
      | sub => cases hd; exact ⟨i, j, rfl, rfl, p.here S (.int _)⟩
      | mul =>
        simp only at hd
        split at hd
        · rename_i hb
          cases hd
          refine .inl ⟨i, j, rfl, rfl, ?_, p.here S (.int _)⟩
          rcases Bool.or_eq_true_iff.mp hb with z | z
          · exact .inl (big_ok z)
          · exact .inr (big_ok z)
        · cases hd
      | fdiv =>
        simp only at hd
        split at hd
        · rename_i hb
          cases hd
          exact ⟨i, j, rfl, rfl, (show 0 < j ∧ j < 1073741824 from by
            have z := of_decide_eq_true hb
            exact ⟨z.1, by omega⟩), p.here S (.int _)⟩
        · cases hd
      | mod =>
        simp only at hd
        split at hd
        · rename_i hb
          cases hd
          exact ⟨i, j, rfl, rfl, (show 0 < j from of_decide_eq_true hb), p.here S (.int _)⟩
        · cases hd
      | pow =>
        simp only at hd
        split at hd
        · rename_i hb
          cases hd
          exact ⟨i, j, rfl, rfl, (show 0 ≤ j ∧ j ≤ 1000000 ∧ i.natAbs < 2 ^ 64 from of_decide_eq_true hb), p.here S (.int _)⟩
        · cases hd
    · rename_i a b
      rw [rx.str_inv, ry.str_inv]
      cases op with
      | add =>
        simp only at hd
        split at hd
        · rename_i hb
          cases hd
          exact .inr (.inl ⟨a, b, rfl, rfl, by rw [← LE]; exact hb, p.here S (.str _)⟩)
        · cases hd
      | _ => cases hd
    · rename_i n1 n2
      split at hd
      · rename_i xs ys
        split at hd
        · rename_i hb
          cases hd
          cases rx with
          | @tup pa _ vs qa za ra =>
            cases ry with
            | @tup pb _ ws qb zb rb =>
              have la := ra.length
              have lb := rb.length
              refine .inr (.inr (.inl ⟨pa, pb, vs, ws, rfl, rfl, SqT.of (S.sub _ _ qa), SqT.of (S.sub _ _ qb), by omega, fun e => ?_, fun _ e => ?_, fun _ _ q hq => ?_⟩))
              · have e2 := ra.ne_nil.mpr e
                subst e2
                exact p.here S (.tup qb zb rb)
              · have e2 := rb.ne_nil.mpr e
                subst e2
                rw [List.append_nil] at p
                exact p.here S (.tup qa za ra)
              · exact p.new S hq _ (frz_tup S hq (by rw [List.length_append]; omega) (ra.app rb))
        · cases hd
      · rename_i xs k
        split at hd
        · rename_i hb
          obtain ⟨h1, h2, h3⟩ := hb
          cases hd
          rw [ry.int_inv]
          cases rx with
          | @tup pa _ vs qa za ra =>
            have la := ra.length
            by_cases hs : vs = [] ∨ k = 1
            · refine .inr (.inr (.inl ⟨pa, k, vs, rfl, rfl, SqT.of (S.sub _ _ qa), h1, h2, hs, ?_⟩))
              have e : (List.replicate k.toNat xs).flatten = xs := by
                rcases hs with z | z
                · have e2 := ra.ne_nil.mpr z
                  subst e2
                  simp
                · subst z; simp
              rw [e] at p
              exact p.here S (.tup qa za ra)
            · have hs1 : vs ≠ [] := fun z => hs (.inl z)
              have hs2 : k ≠ 1 := fun z => hs (.inr z)
              refine .inr (.inl ⟨pa, k, vs, rfl, rfl, SqT.of (S.sub _ _ qa), hs1, by omega, h2, by omega, fun q hq => ?_⟩)
              refine p.new S hq _ (frz_tup S hq ?_ (ra.rep k.toNat))
              rw [len_rep, ← LE]
              have m1 : k.toNat * vs.length ≤ 1000 * 1000 := Nat.mul_le_mul (by omega) (by omega)
              exact Nat.le_trans m1 (by decide)
        · split at hd
          · rename_i hb
            obtain ⟨⟨h1, h2⟩, h3⟩ := hb
            cases hd
            rw [ry.int_inv]
            cases rx with
            | @tup pa _ vs qa za ra =>
              have hne : vs ≠ [] := fun z => by
                have e2 := ra.ne_nil.mpr z
                subst e2
                cases h3
              exact .inr (.inr (.inr (.inr ⟨pa, k, vs, rfl, rfl, SqT.of (S.sub _ _ qa), hne, h1, h2, fun q hq => p.new S hq _ (frz_tup S hq (by rw [← LE]; decide) .nil)⟩)))
          · cases hd
      · cases hd
  · split at p
    · exact (show False from p).elim
    · rename_i hk
      have hk1 : isKs x = false := by
        cases q : isKs x with
        | false => rfl
        | true => exact absurd (by rw [q]; rfl) hk
      have hk2 : isKs y = false := by
        cases q : isKs y with
        | false => rfl
        | true => exact absurd (by rw [q]; simp) hk
      split at p
      · rename_i zs hz
        unfold binL at hz
        split at hz
        · split at hz
          · rename_i xs hu
            split at hz
            · rename_i ys hu2
              split at hz
              · rename_i hb
                cases hz
                obtain ⟨pa, vs, rfl, ha, ra, za⟩ := un_lst S rx hk1 hu
                obtain ⟨pb, ws, rfl, hb2, rb, zb⟩ := un_lst S ry hk2 hu2
                have la := ra.length
                have lb := rb.length
                refine .inr (.inr (.inr ⟨pa, pb, vs, ws, rfl, rfl, ha, hb2, by omega, fun q hq => ?_⟩))
                exact p.new S hq _ (frz_lst S hq (by rw [List.length_append]; omega) (ra.app rb))
              · cases hz
            · cases hz
          · cases hz
        · split at hz
          · rename_i xs hu
            split at hz
            · rename_i k hk0
              split at hz
              · rename_i hb
                obtain ⟨h1, h3⟩ := hb
                cases hz
                obtain ⟨pa, vs, rfl, ha, ra, za⟩ := un_lst S rx hk1 hu
                rw [ry.int_inv]
                have la := ra.length
                refine .inr (.inr (.inr (.inl ⟨pa, k, vs, rfl, rfl, ha, by omega, by omega, by rw [← la, ← LE]; exact h3, fun q hq => ?_⟩)))
                refine p.new S hq _ (frz_lst S hq ?_ (ra.rep k.toNat))
                rw [len_rep, Nat.mul_comm, ← la, ← LE]
                exact h3
              · cases hz
            · cases hz
          · cases hz
        · cases hz
      · exact (show False from p).elim
end
end SI
end
section
set_option Elab.async false
set_option linter.all false
set_option maxRecDepth 100000
set_option maxHeartbeats 4000000
/-! SI6: comparisons, keys, truth. -/
namespace SI
open PySem PySem.Spec PyProof.Rows L2
section
variable {X : Cx} {W : WX}
mutual
theorem pyD_ok {O : Om} {H : Hp} {h : Hs} (S : SR X.K X.mg O h H) {g : Nat → Option PyData} (hg : ∀ n x, g n = some x → Dp X.K H (.ref (O.φ n)) x) : ∀ (d : D) (x : PyData) (v : V), pyD g d = some x → RepX X O d v → Dp X.K H v x
  | .non, _, _, e, r => by cases e; rw [r.non_inv]; exact .non
  | .bl b, _, _, e, r => by cases e; rw [r.bl_inv]; exact .bl b
  | .int i, _, _, e, r => by cases e; rw [r.int_inv]; exact .int i
  | .str s, _, _, e, r => by cases e; rw [r.str_inv]; exact .str s
  | .tup xs, _, _, e, r => by
    simp only [pyD, Option.map_eq_some_iff] at e
    obtain ⟨ds, e, rfl⟩ := e
    cases r with
    | tup q z t => exact .tup (SqT.of (S.sub _ _ q)) (pyL_ok S hg xs ds _ e t)
  | .lst xs, _, _, e, r => by
    simp only [pyD, Option.map_eq_some_iff] at e
    obtain ⟨ds, e, rfl⟩ := e
    cases r with
    | lst q z t => exact .lst (SqL.of (S.sub _ _ q)) (pyL_ok S hg xs ds _ e t)
  | .ks l xs, _, _, e, r => by
    simp only [pyD, Option.map_eq_some_iff] at e
    obtain ⟨ds, e, rfl⟩ := e
    cases r with
    | ksl q z t => exact .lst (sqL_up S.sub q) (pyL_ok S hg xs ds _ e t)
    | kst q z t => exact .tup (sqT_up S.sub q) (pyL_ok S hg xs ds _ e t)
  | .ptr n, _, _, e, r => by
    cases r with
    | ptr q => exact hg n _ e
  | .glo x, _, _, e, r => by cases e
theorem pyL_ok {O : Om} {H : Hp} {h : Hs} (S : SR X.K X.mg O h H) {g : Nat → Option PyData} (hg : ∀ n x, g n = some x → Dp X.K H (.ref (O.φ n)) x) : ∀ (ds : List D) (xs : List PyData) (vs : List V), pyL g ds = some xs → RepLX X O ds vs → DpAll X.K H vs xs
  | [], _, _, e, r => by cases e; cases r; exact .nil
  | d :: ds, _, _, e, r => by
    simp only [pyL] at e
    split at e
    · rename_i x hx
      split at e
      · rename_i xs hxs
        cases e
        cases r with
        | cons r t => exact .cons (pyD_ok S hg d x _ hx r) (pyL_ok S hg ds xs _ hxs t)
      · cases e
    · cases e
end
theorem ptrPy_ok {O : Om} {H : Hp} {h : Hs} (S : SR X.K X.mg O h H) : ∀ (k n : Nat) (x : PyData), ptrPy h k n = some x → Dp X.K H (.ref (O.φ n)) x
  | 0, _, _, e => by cases e
  | k + 1, n, _, e => by
    simp only [ptrPy] at e
    split at e
    · rename_i xs hn
      simp only [Option.map_eq_some_iff] at e
      obtain ⟨ds, e, rfl⟩ := e
      obtain ⟨vs, hv, z, t⟩ := S.cell _ _ hn
      exact .lst (SqL.of hv) (pyL_ok S (ptrPy_ok S k) xs ds vs e t)
    · cases e
theorem deep_ok {O : Om} {H : Hp} {h : Hs} (S : SR X.K X.mg O h H) {d : D} {x : PyData} {v : V} (e : deep h d = some x) (r : RepX X O d v) : Dp X.K H v x := pyD_ok S (ptrPy_ok S 3) d x v e r
/-! ### keys -/
theorem keyOf_ok {O : Om} {d : D} {k : Key} {v : V} (e : keyOf d = some k) (r : RepX X O d v) : v = kV k := by
  cases d with
  | int i => cases e; rw [r.int_inv]; rfl
  | str s => cases e; rw [r.str_inv]; rfl
  | _ => cases e
theorem keysOf_ok {O : Om} : ∀ {ds : List D} {ks : List Key} {vs : List V}, keysOf ds = some ks → RepLX X O ds vs → vs = ks.map kV
  | [], _, _, e, r => by cases e; cases r; rfl
  | d :: ds, _, _, e, r => by
    simp only [keysOf] at e
    split at e
    · rename_i k hk
      split at e
      · rename_i ks hks
        cases e
        cases r with
        | cons r t => rw [keyOf_ok hk r, keysOf_ok hks t]; rfl
      · cases e
    · cases e
theorem keyT_ok {O : Om} {H : Hp} {h : Hs} (S : SR X.K X.mg O h H) {d : D} {k : List Key} {v : V} (e : keyT d = some k) (r : RepX X O d v) : ∃ b, v = .ref b ∧ H b = some (.tup (k.map kV)) := by
  cases d with
  | tup xs =>
    cases r with
    | tup q z t =>
      have e2 := keysOf_ok e t
      subst e2
      exact ⟨_, rfl, S.sub _ _ q⟩
  | _ => cases e
section
variable {κ : Type} [DecidableEq κ]
theorem getK_ok {O : Om} {kvs : List (κ × D)} {ws : List (κ × V)} (r : RepP X.K X.mg O kvs ws) (k : κ) : (getK kvs k = none ∧ valV ws k = none) ∨ ∃ d v, getK kvs k = some d ∧ valV ws k = some v ∧ RepX X O d v := by
  induction r with
  | nil => exact .inl ⟨rfl, rfl⟩
  | @cons k' d v ds vs q t ih =>
    by_cases e : k' = k
    · exact .inr ⟨d, v, by simp [getK, List.find?_cons, e], by simp [valV, List.find?_cons, e], q⟩
    · have e1 : getK ((k', d) :: ds) k = getK ds k := by simp [getK, List.find?_cons, e]
      have e2 : valV ((k', v) :: vs) k = valV vs k := by simp [valV, List.find?_cons, e]
      rw [e1, e2]; exact ih
theorem RepP.any {O : Om} {kvs : List (κ × D)} {ws : List (κ × V)} (r : RepP X.K X.mg O kvs ws) (k : κ) : (kvs.any fun p => decide (p.1 = k)) = (ws.any fun p => decide (p.1 = k)) := by
  induction r with
  | nil => rfl
  | cons q t ih => simp only [List.any_cons, ih]
theorem RepP.app {O : Om} {kvs kus : List (κ × D)} {ws us : List (κ × V)} (r : RepP X.K X.mg O kvs ws) (t : RepP X.K X.mg O kus us) : RepP X.K X.mg O (kvs ++ kus) (ws ++ us) := by
  induction r with
  | nil => exact t
  | cons q _ ih => exact .cons q ih
theorem RepP.len {O : Om} {kvs : List (κ × D)} {ws : List (κ × V)} (r : RepP X.K X.mg O kvs ws) : kvs.length = ws.length := by
  induction r with
  | nil => rfl
  | cons q _ ih => simp [ih]
theorem putM_ok {O : Om} {kvs : List (κ × D)} {ws : List (κ × V)} (r : RepP X.K X.mg O kvs ws) (k : κ) {d : D} {v : V} (q : RepX X O d v) :
    RepP X.K X.mg O (kvs.map (fun p => if p.1 = k then (p.1, d) else p)) (ws.map (fun p => if p.1 = k then (p.1, v) else p)) := by
  induction r with
  | nil => exact .nil
  | @cons k' d' v' ds vs q' t ih =>
    simp only [List.map_cons]
    by_cases e : k' = k
    · rw [if_pos e, if_pos e]; exact .cons q ih
    · rw [if_neg e, if_neg e]; exact .cons q' ih
theorem putK_ok {O : Om} {kvs : List (κ × D)} {ws : List (κ × V)} (r : RepP X.K X.mg O kvs ws) (k : κ) {d : D} {v : V} (q : RepX X O d v) : RepP X.K X.mg O (putD kvs k d) (putK ws k v) := by
  unfold putD putK
  rw [r.any k]
  split
  · exact putM_ok r k q
  · exact r.app (.cons q .nil)
theorem delK_ok {O : Om} {kvs : List (κ × D)} {ws : List (κ × V)} (r : RepP X.K X.mg O kvs ws) (k : κ) : RepP X.K X.mg O (delD kvs k) (dropK ws k) := by
  unfold delD dropK
  induction r with
  | nil => exact .nil
  | @cons k' d' v' ds vs q' t ih =>
    by_cases e : k' = k
    · have a : decide (k' ≠ k) = false := by simp [e]
      rw [List.filter_cons_of_neg (by simp [e]), List.filter_cons_of_neg (by simp [e])]
      exact ih
    · rw [List.filter_cons_of_pos (by simp [e]), List.filter_cons_of_pos (by simp [e])]
      exact .cons q' ih
end
theorem dget_ok {O : Om} {H : Hp} {h : Hs} (S : SR X.K X.mg O h H) {n : Nat} {c : Cell} (hn : h[n]? = some c) {k : D} {v : V} (r : RepX X O k v) {o : Option D} (e : dget c k = some o) :
    ∃ o', DGet H (O.φ n) v o' ∧ ((o = none ∧ o' = none) ∨ ∃ d w, o = some d ∧ o' = some w ∧ RepX X O d w) := by
  have co := S.cell n c hn
  cases c with
  | dK kvs =>
    simp only [dget] at e
    split at e
    · rename_i x hx
      cases e
      obtain ⟨ws, hw, rp⟩ := co
      rw [keyOf_ok hx r]
      exact ⟨_, DGet.k hw, getK_ok rp x⟩
    · cases e
  | dT kvs =>
    simp only [dget] at e
    split at e
    · rename_i x hx
      cases e
      obtain ⟨ws, hw, rp⟩ := co
      obtain ⟨b, rfl, hb⟩ := keyT_ok S hx r
      exact ⟨_, DGet.t hw hb, getK_ok rp x⟩
    · cases e
  | _ => cases e
theorem dput_ok {O : Om} {H : Hp} {h : Hs} (S : SR X.K X.mg O h H) {n : Nat} {c c' : Cell} (hn : h[n]? = some c) {k d : D} {v w : V} (r : RepX X O k v) (q : RepX X O d w) (e : dput c k d = some c') :
    ∃ H', DPut H (O.φ n) v w H' ∧ Stp O H O H' ∧ SR X.K X.mg O (h.set n c') H' := by
  have co := S.cell n c hn
  have LE := LINE_eq
  cases c with
  | dK kvs =>
    simp only [dput] at e
    split at e
    · rename_i x hx
      split at e
      · rename_i hl
        cases e
        obtain ⟨ws, hw, rp⟩ := co
        rw [keyOf_ok hx r]
        have lw := rp.len
        exact ⟨_, DPut.k hw (by omega), S.put hn (by simp) ⟨_, upd_same, putK_ok rp x q⟩⟩
      · cases e
    · cases e
  | dT kvs =>
    simp only [dput] at e
    split at e
    · rename_i x hx
      split at e
      · rename_i hl
        cases e
        obtain ⟨ws, hw, rp⟩ := co
        obtain ⟨b, rfl, hb⟩ := keyT_ok S hx r
        have lw := rp.len
        exact ⟨_, DPut.t hw hb (by omega), S.put hn (by simp) ⟨_, upd_same, putK_ok rp x q⟩⟩
      · cases e
    · cases e
  | _ => cases e
/-! ### in -/
abbrev rInT (X : Cx) (neg : Bool) : R2 := fun x y H Q => ∃ d ds, Dp X.K H x d ∧ Dp X.K H y (.tuple ds) ∧ SeqAt.shaped d = true ∧ SeqAt.shaped (.list ds) = true ∧ Q (.bl (neg != ds.any fun z => PyData.eqv z d)) H
theorem lay_list {ds : List PyData} (h : SeqAt.shaped (.list ds) = true) : PyData.canLayAll0 ds = true := SeqAt.canLay_of_shaped (d := .list ds) h
theorem op_inT (hu : X.A.units + 65 < cLine) : OpR X (compareOp .In) (rInT X false) := by
  intro pn s sg H x y v u Q I rx ry h
  obtain ⟨d, ds, hd, he, sd, se, q⟩ := h
  obtain ⟨as, r1⟩ := Dp.reads I d x v hd rx
  obtain ⟨bs, r2⟩ := Dp.reads I (.tuple ds) y u he ry
  refine SeqAt.in_tuple_reads r2 r1 (lay_list se) (SeqAt.canLay_of_shaped sd) (room_in_shaped sd hu) ⟨.bl _, H, I, rfl, ?_⟩
  simpa using q
theorem op_notInT (hu : X.A.units + 65 < cLine) : OpR X (compareOp .NotIn) (rInT X true) := by
  intro pn s sg H x y v u Q I rx ry h
  obtain ⟨d, ds, hd, he, sd, se, q⟩ := h
  obtain ⟨as, r1⟩ := Dp.reads I d x v hd rx
  obtain ⟨bs, r2⟩ := Dp.reads I (.tuple ds) y u he ry
  refine SeqAt.notIn_tuple_reads r2 r1 (lay_list se) (SeqAt.canLay_of_shaped sd) (room_in_shaped sd hu) ⟨.bl _, H, I, rfl, ?_⟩
  simpa using q
abbrev rInK (neg : Bool) : R2 := fun x y H Q => ∃ a o, y = .ref a ∧ DGet H a x o ∧ Q (.bl (neg != o.isSome)) H
theorem op_inK (hu : X.A.units + 1 < cLine) : OpR X (compareOp .In) (rInK false) := by
  intro pn s sg H x y v u Q I rx ry h
  obtain ⟨a, o, rfl, g, q⟩ := h
  cases ry
  exact d_in hu I g rx fun s' I' => ⟨.bl _, H, I', rfl, by simpa using q⟩
theorem op_notInK (hu : X.A.units + 1 < cLine) : OpR X (compareOp .NotIn) (rInK true) := by
  intro pn s sg H x y v u Q I rx ry h
  obtain ⟨a, o, rfl, g, q⟩ := h
  cases ry
  exact d_notIn hu I g rx fun s' I' => ⟨.bl _, H, I', rfl, by simpa using q⟩
abbrev rInS (neg : Bool) : R2 := fun x y H Q => ∃ (c : Nat) (z : Str), x = .str ⟨#[c]⟩ ∧ y = .str z ∧ Q (.bl (neg != decide (c ∈ z.cps.toList))) H
theorem op_inS : OpR X (compareOp .In) (rInS false) := fun pn s sg H x y v u Q I rx ry ⟨c, z, ex, ey, q⟩ => op_in_sign pn s sg H x y v u Q I rx ry ⟨c, z, ex, ey, by simpa using q⟩
theorem op_notInS : OpR X (compareOp .NotIn) (rInS true) := fun pn s sg H x y v u Q I rx ry ⟨c, z, ex, ey, q⟩ => op_notIn_sign pn s sg H x y v u Q I rx ry ⟨c, z, ex, ey, by simpa using q⟩
/-! ### all comparisons -/
def cpOf : Cop → CmpOp
  | .eq => .Eq
  | .ne => .NotEq
  | .lt => .Lt
  | .le => .LtE
  | .gt => .Gt
  | .ge => .GtE
  | .isin => .In
  | .notin => .NotIn
  | .is_ => .Is
  | .isnot => .IsNot
def cmpR (X : Cx) : Cop → R2
  | .eq => rEqD X.K
  | .ne => rNeD X.K
  | .lt => fun x y H Q => rI0 (fun i j => .bl (decide (i < j))) x y H Q ∨ rLtT X.K x y H Q
  | .le => rI0 fun i j => .bl (decide (i ≤ j))
  | .gt => rI0 fun i j => .bl (decide (j < i))
  | .ge => rI0 fun i j => .bl (decide (j ≤ i))
  | .isin => fun x y H Q => rInD X.K x y H Q ∨ rInT X false x y H Q ∨ rInK false x y H Q ∨ rInS false x y H Q
  | .notin => fun x y H Q => rNotInD X.K x y H Q ∨ rInT X true x y H Q ∨ rInK true x y H Q ∨ rInS true x y H Q
  | .is_ => fun x y H Q => (y = .non ∧ Q (.bl (decide (x = .non))) H) ∨ rIsB x y H Q
  | .isnot => fun x y H Q => (y = .non ∧ Q (.bl (!decide (x = .non))) H) ∨ rNotB x y H Q
theorem cmp_all {k : Nat} (hr : Room k X.A) (op : Cop) : OpR X (compareOp (cpOf op)) (cmpR X op) := by
  have u64 := hr.units
  have u65 : X.A.units + 65 < cLine := by have := hr.un; omega
  cases op with
  | eq => exact op_eqD u64
  | ne => exact op_neD u64
  | lt => exact op_lt.or (op_ltT hr.units0)
  | le => exact op_le
  | gt => exact op_gt
  | ge => exact op_ge
  | isin => exact (op_inD u65).or ((op_inT u65).or ((op_inK (by omega)).or op_inS))
  | notin => exact (op_notInD u65).or ((op_notInT u65).or ((op_notInK (by omega)).or op_notInS))
  | is_ => exact op_isN.or op_isBl
  | isnot => exact op_notN.or op_notBl
theorem intsOf_ok {O : Om} : ∀ {ds : List D} {ns : List Int} {vs : List V}, intsOf ds = some ns → RepLX X O ds vs → vs = ns.map V.int
  | [], _, _, e, r => by cases e; cases r; rfl
  | d :: ds, _, _, e, r => by
    cases d with
    | int i =>
      simp only [intsOf, Option.map_eq_some_iff] at e
      obtain ⟨ns, e, rfl⟩ := e
      cases r with
      | cons r t => rw [r.int_inv, intsOf_ok e t]; rfl
    | _ => cases e
theorem eq_ok {O : Om} {H : Hp} {h : Hs} (S : SR X.K X.mg O h H) {x y : D} {v u : V} (rx : RepX X O x v) (ry : RepX X O y u) {b : Bool} (e : eqD h x y = some b) :
    ∃ d f, Dp X.K H v d ∧ Dp X.K H u f ∧ SeqAt.shaped d = true ∧ SeqAt.shaped f = true ∧ PyData.eqv d f = b := by
  unfold eqD at e
  split at e
  · rename_i d hd
    split at e
    · rename_i f hf
      split at e
      · rename_i hs
        cases e
        exact ⟨d, f, deep_ok S hd rx, deep_ok S hf ry, (Bool.and_eq_true_iff.mp hs).1, (Bool.and_eq_true_iff.mp hs).2, rfl⟩
      · cases e
    · cases e
  · cases e
theorem in_ok {O : Om} {H : Hp} {h : Hs} (S : SR X.K X.mg O h H) {x y : D} {v u : V} (rx : RepX X O x v) (ry : RepX X O y u) {b : Bool} (e : inD h x y = some b) :
    (∃ d ds, Dp X.K H v d ∧ Dp X.K H u (.list ds) ∧ SeqAt.shaped d = true ∧ SeqAt.shaped (.list ds) = true ∧ (ds.any fun z => PyData.eqv z d) = b) ∨
    (∃ d ds, Dp X.K H v d ∧ Dp X.K H u (.tuple ds) ∧ SeqAt.shaped d = true ∧ SeqAt.shaped (.list ds) = true ∧ (ds.any fun z => PyData.eqv z d) = b) ∨
    (∃ a o, u = .ref a ∧ DGet H a v o ∧ o.isSome = b) ∨ ∃ (c : Nat) (z : Str), v = .str ⟨#[c]⟩ ∧ u = .str z ∧ decide (c ∈ z.cps.toList) = b := by
  have val : ∀ (l : Bool) (xs : List D), valSeq y = some (l, xs) → (match deep h x with
      | some d => match pyL (ptrPy h 3) xs with
        | some ds => if SeqAt.shaped d && SeqAt.shaped (.list ds) then some (ds.any fun z => PyData.eqv z d) else none
        | none => none
      | none => none) = some b →
      (∃ d ds, Dp X.K H v d ∧ Dp X.K H u (.list ds) ∧ SeqAt.shaped d = true ∧ SeqAt.shaped (.list ds) = true ∧ (ds.any fun z => PyData.eqv z d) = b) ∨
      (∃ d ds, Dp X.K H v d ∧ Dp X.K H u (.tuple ds) ∧ SeqAt.shaped d = true ∧ SeqAt.shaped (.list ds) = true ∧ (ds.any fun z => PyData.eqv z d) = b) ∨
      (∃ a o, u = .ref a ∧ DGet H a v o ∧ o.isSome = b) ∨ ∃ (c : Nat) (z : Str), v = .str ⟨#[c]⟩ ∧ u = .str z ∧ decide (c ∈ z.cps.toList) = b := by
    intro l xs hv e
    split at e
    · rename_i d hd
      split at e
      · rename_i ds hds
        split at e
        · rename_i hs
          cases e
          obtain ⟨p, vs, rfl, hq, rr, z⟩ := un_ok S ry (valSeq_un (h := h) hv)
          have hx := deep_ok S hd rx
          have hy := pyL_ok S (ptrPy_ok S 3) xs ds vs hds rr
          cases l with
          | true => exact .inl ⟨d, ds, hx, .lst hq hy, (Bool.and_eq_true_iff.mp hs).1, (Bool.and_eq_true_iff.mp hs).2, rfl⟩
          | false => exact .inr (.inl ⟨d, ds, hx, .tup hq hy, (Bool.and_eq_true_iff.mp hs).1, (Bool.and_eq_true_iff.mp hs).2, rfl⟩)
        · cases e
      · cases e
    · cases e
  unfold inD at e
  split at e
  · rename_i n
    cases ry with
    | ptr hn0 =>
    split at e
    · rename_i xs hn
      split at e
      · rename_i d hd
        split at e
        · rename_i ds hds
          split at e
          · rename_i hs
            cases e
            obtain ⟨vs, hv, z, t⟩ := S.cell _ _ hn
            exact .inl ⟨d, ds, deep_ok S hd rx, .lst (SqL.of hv) (pyL_ok S (ptrPy_ok S 2) xs ds vs hds t), (Bool.and_eq_true_iff.mp hs).1, (Bool.and_eq_true_iff.mp hs).2, rfl⟩
          · cases e
        · cases e
      · cases e
    · rename_i c hn hc
      simp only [Option.map_eq_some_iff] at e
      obtain ⟨o, e, rfl⟩ := e
      obtain ⟨o', g, k⟩ := dget_ok S hc rx e
      refine .inr (.inr (.inl ⟨_, o', rfl, g, ?_⟩))
      rcases k with ⟨rfl, rfl⟩ | ⟨d, w, rfl, rfl, _⟩ <;> rfl
    · cases e
  · rename_i z
    split at e
    · rename_i a
      split at e
      · rename_i k hk
        cases e
        have ea : a = ⟨#[k]⟩ := by
          obtain ⟨⟨l⟩⟩ := a
          have hk : l = [k] := hk
          rw [hk]
        subst ea
        exact .inr (.inr (.inr ⟨k, z, rx.str_inv, ry.str_inv, rfl⟩))
      · cases e
    · cases e
  · split at e
    · rename_i l xs hv
      exact val l xs hv e
    · cases e
theorem lt_ok {O : Om} {H : Hp} {h : Hs} (S : SR X.K X.mg O h H) {x y : D} {v u : V} (rx : RepX X O x v) (ry : RepX X O y u) {b : Bool} {Q : VK} (e : ltD x y = some b) (q : Q (.bl b) H) : cmpR X .lt v u H Q := by
  unfold ltD at e
  split at e
  · rename_i i j
    cases e
    rw [rx.int_inv, ry.int_inv]
    exact .inl ⟨i, j, rfl, rfl, q⟩
  · rename_i xs ys
    split at e
    · rename_i ns hns
      split at e
      · rename_i ms hms
        cases e
        cases rx with
        | tup qa za ra =>
          cases ry with
          | tup qb zb rb =>
            have e1 := intsOf_ok hns ra
            have e2 := intsOf_ok hms rb
            subst e1 e2
            exact .inr ⟨_, _, ns, ms, rfl, rfl, SqT.of (S.sub _ _ qa), SqT.of (S.sub _ _ qb), q⟩
      · cases e
    · cases e
  · cases e
theorem cmp_ok {O : Om} {H : Hp} {h : Hs} {op : Cop} (S : SR X.K X.mg O h H) {x y : D} {v u : V} (rx : RepX X O x v) (ry : RepX X O y u) {b : Bool} {Q : VK} (e : cmpD h op x y = some b) (q : Q (.bl b) H) : cmpR X op v u H Q := by
  cases op with
  | eq =>
    obtain ⟨d, f, h1, h2, h3, h4, rfl⟩ := eq_ok S rx ry e
    exact ⟨d, f, h1, h2, h3, h4, q⟩
  | ne =>
    simp only [cmpD, Option.map_eq_some_iff] at e
    obtain ⟨b', e, rfl⟩ := e
    obtain ⟨d, f, h1, h2, h3, h4, rfl⟩ := eq_ok S rx ry e
    exact ⟨d, f, h1, h2, h3, h4, q⟩
  | lt => exact lt_ok S rx ry e q
  | le =>
    simp only [cmpD] at e
    split at e
    · rename_i i j
      cases e
      rw [rx.int_inv, ry.int_inv]
      exact ⟨i, j, rfl, rfl, q⟩
    · cases e
  | gt =>
    simp only [cmpD] at e
    split at e
    · rename_i i j
      cases e
      rw [rx.int_inv, ry.int_inv]
      exact ⟨i, j, rfl, rfl, q⟩
    · cases e
  | ge =>
    simp only [cmpD] at e
    split at e
    · rename_i i j
      cases e
      rw [rx.int_inv, ry.int_inv]
      exact ⟨i, j, rfl, rfl, q⟩
    · cases e
  | isin =>
    rcases in_ok S rx ry e with ⟨d, ds, h1, h2, h3, h4, rfl⟩ | ⟨d, ds, h1, h2, h3, h4, rfl⟩ | ⟨a, o, rfl, g, rfl⟩ | ⟨c, z, rfl, rfl, rfl⟩
    · exact .inl ⟨d, ds, h1, h2, h3, h4, q⟩
    · exact .inr (.inl ⟨d, ds, h1, h2, h3, h4, by simpa using q⟩)
    · exact .inr (.inr (.inl ⟨a, o, rfl, g, by simpa using q⟩))
    · exact .inr (.inr (.inr ⟨c, z, rfl, rfl, by simpa using q⟩))
  | notin =>
    simp only [cmpD, Option.map_eq_some_iff] at e
    obtain ⟨b', e, rfl⟩ := e
    rcases in_ok S rx ry e with ⟨d, ds, h1, h2, h3, h4, rfl⟩ | ⟨d, ds, h1, h2, h3, h4, rfl⟩ | ⟨a, o, rfl, g, rfl⟩ | ⟨c, z, rfl, rfl, rfl⟩
    · exact .inl ⟨d, ds, h1, h2, h3, h4, q⟩
    · exact .inr (.inl ⟨d, ds, h1, h2, h3, h4, by simpa using q⟩)
    · exact .inr (.inr (.inl ⟨a, o, rfl, g, by simpa using q⟩))
    · exact .inr (.inr (.inr ⟨c, z, rfl, rfl, by simpa using q⟩))
  | is_ =>
    simp only [cmpD, isD] at e
    split at e
    · rw [ry.non_inv]
      split at e
      · cases e
        rw [rx.non_inv]
        exact .inl ⟨rfl, q⟩
      · cases e
      · rename_i hne hng
        cases e
        refine .inl ⟨rfl, ?_⟩
        rw [decide_eq_false (fun z => by subst z; cases rx <;> first | exact hne rfl | exact hng _ rfl)]
        exact q
    · rw [ry.bl_inv]
      split at e
      · cases e
        rw [rx.bl_inv]
        exact .inr ⟨_, _, rfl, rfl, q⟩
      · cases e
    · cases e
  | isnot =>
    simp only [cmpD, isD] at e
    split at e
    · rw [ry.non_inv]
      split at e
      · cases e
        rw [rx.non_inv]
        exact .inl ⟨rfl, q⟩
      · cases e
      · rename_i hne hng
        cases e
        refine .inl ⟨rfl, ?_⟩
        rw [decide_eq_false (fun z => by subst z; cases rx <;> first | exact hne rfl | exact hng _ rfl)]
        exact q
    · rw [ry.bl_inv]
      split at e
      · cases e
        rw [rx.bl_inv]
        exact .inr ⟨_, _, rfl, rfl, q⟩
      · cases e
    · cases e
end
end SI
end
section
set_option Elab.async false
set_option linter.all false
set_option maxRecDepth 100000
set_option maxHeartbeats 4000000
/-! SI7: calls: a promise that also knows that no repr is under way; a call by what the receiver turns out to be. -/
namespace SI
open PySem PySem.Spec PyProof.Rows L2

/-- as FnOk, with no guard around -/
structure FnG (P : Program) (w : World) (K : PySem.W.Frag) (mg : Mg) (base : Heap) (k : Nat) (f : Addr) (fd : FuncData) (ps : List Str) (sp : Sp) : Prop where
  len : ∀ vs H Q E, sp vs H Q E → vs.length = ps.length
  run : ∀ (A : Around) (outer : List PySem.Env) (s : Shared) (H : Hp) (args : Args) (us : List Value) (vs : List V) (Q : VK) (E : XK), Room k A → A.guards = some [] → Env0 P w K mg base A outer s H →
    BindsTo s fd args (ps.zip us) → Vals vs us → sp vs H Q E → codeAny (model P w) A (.call (.ref f) args) (CR (L2.CX P w) outer P w H s Q E) s
section
variable {X : Cx} {k : Nat} {f C : Addr} {fd : FuncData} {ps : List Str} {sp : Sp} {x m : Str} {p pos apos : Pos} {e o : Expr} {es : List Expr} {W : WX}
variable {pn : List (Addr × Obj)} {sg : L2.St} {H : Hp} {s : Shared} {Q : VK} {us : List Value} {vs : List V}
theorem guards_make {A : Around} (g : A.guards = some []) (c : Addr) (us : List Value) (kw : List (Str × Value)) : (A.under (.builtin "type.__call__" ⟨.ref c :: us, kw⟩)).guards = some [] := by
  have e : (Code.builtin "type.__call__" ⟨.ref c :: us, kw⟩).guards = [] := by
    first | rfl | simp [Code.guards, Code.isGuard, guardIds]
  simp only [Around.under, e, g]
  rfl
theorem guards_deeper {A : Around} (g : A.guards = some []) (env : PySem.Env) : (A.deeper env).guards = some [] := g
/-- the callee runs -/
theorem run_g (F : FnG X.prog X.w X.K X.mg X.base k f fd ps sp) (hr : Room k X.A) (hg : X.A.guards = some []) (hb : Binds X.K fd ps []) (tk : Takes X W)
    (I : Inv X pn sg H s) (r : Vals vs us) (h : sp vs H Q fun c d H' => W c d sg H') : wpAny (model X.prog X.w) X.A (PySem.call (.ref f) us) (EP X pn sg Q) X.xe s := by
  have hl : us.length = ps.length := by rw [← r.length]; exact F.len _ _ _ _ h
  have b := hb s us I.kIn (by rw [List.append_nil]; exact hl)
  rw [List.append_nil] at b
  refine wpAny_call (codeAny_mono (F.run X.A X.stack s H ⟨us, []⟩ us vs Q _ hr hg I.env0 b r h) fun r' s' hq => ?_)
  cases r' with
  | error ex => exact passAt tk sg pn H s ex s' I hq
  | ok fl => cases fl with
    | ret u => exact I.after hq
    | next => exact False.elim hq
    | brk => exact False.elim hq
    | cont => exact False.elim hq
theorem run_gm (M : Mk X.K C f) (F : FnG X.prog X.w X.K X.mg X.base k f fd ps sp) (hr : Room (k + 1) X.A) (hg : X.A.guards = some []) (hb : Binds X.K fd ps []) (tk : Takes X W) (I : Inv X pn sg H s) (r : Vals vs us)
    (h : ∀ x dx, H x = none → H dx = none → dx ≠ x → sp (.ref x :: vs) (upd (upd H dx (.own x)) x (.ins C dx [])) (fun v H2 => v = .non ∧ Q (.ref x) H2) fun c d H' => W c d sg H') :
    wpAny (model X.prog X.w) X.A (PySem.call (.ref C) us) (EP X pn sg Q) X.xe s := by
  have hq := h (s.heap.objs.size + 1) s.heap.objs.size (I.hok.fresh (Nat.le_succ _)) (I.hok.fresh (Nat.le_refl _)) (Nat.ne_of_lt (Nat.lt_succ_self _))
  have I2 := Inv.made (C := C) I
  have r2 : Vals (V.ref (s.heap.objs.size + 1) :: vs) (Value.ref (s.heap.objs.size + 1) :: us) := .cons rfl r
  have hl : (Value.ref (s.heap.objs.size + 1) :: us).length = ps.length := by
    rw [← r2.length]
    exact F.len _ _ _ _ hq
  have b := hb _ (Value.ref (s.heap.objs.size + 1) :: us) I2.kIn (by rw [List.append_nil]; exact hl)
  rw [List.append_nil] at b
  refine wpAny_call (make_map (f := f) I.kIn M.makes M.init (beq_iff_eq.mp M.fn) (codeAny_mono (F.run _ X.stack _ _ ⟨Value.ref (s.heap.objs.size + 1) :: us, []⟩ _ _ _ _ (hr.make C us []) (guards_make hg C us [])
    (I2.env0.make C us []) b r2 hq) fun r' s' hq' => ?_))
  cases r' with
  | error ex => exact passAt tk sg pn _ _ ex s' I2 hq'
  | ok fl => cases fl with
    | ret u =>
      obtain ⟨v, H', I3, rv, ev, q3⟩ := I2.after hq'
      subst ev
      exact ⟨rv, ⟨V.ref (s.heap.objs.size + 1), H', I3, rfl, q3⟩⟩
    | next => exact False.elim hq'
    | brk => exact False.elim hq'
    | cont => exact False.elim hq'
/-- the arguments, then a call of what is known to keep its frame -/
theorem with_args {ta : TA} {first : List Value} {v : Value} (hk : PySem.W.keepIn X.K v = true) (ha : PA X es ta) (hs : es.all starless = true) (I : Inv X pn sg H s) {R : List V → Hp → Prop} (h : ta sg H R) (h0 : es = [] → R [] H) {Q' : Value → Shared → Prop}
    (hf : ∀ us vs H1 s1, Inv X pn sg H1 s1 → Vals vs us → R vs H1 → wpAny (model X.prog X.w) X.A (PySem.call v (first ++ us)) Q' X.xe s1) :
    wpAny (model X.prog X.w) X.A (callWith pos v first (backTo pos (starEach es X.env)) (backToKw pos (keywordEach [] X.env))) Q' X.xe s := by
  cases es with
  | nil =>
    refine PySem.W.callWith_K0 I.kIn hk ?_
    exact hf [] [] H s I .nil (h0 rfl)
  | cons e es =>
    have h1 : starless e = true ∧ es.all starless = true := by simpa using hs
    exact PySem.W.callWith_K (first := first) (h₀ := X.base) I.ok.mod.kin hk (thn (ha.run pos pn s sg H R I h) fun us s1 ⟨vs, H1, I1, r1, q1⟩ => ⟨I1.kIn, hf us vs H1 s1 I1 r1 q1⟩) (star_cons h1.1 es X.env) (star_any h1.2)
end
end SI
end
section
set_option Elab.async false
set_option linter.all false
set_option maxRecDepth 100000
set_option maxHeartbeats 4000000
/-! SIX3: own exceptions as values: made, their fields read, asked by isinstance. -/
namespace PySem.W
open PySem PySem.Spec PySem.Calls PyProof.Rows
section
variable {prog : Program} {w : World} {A : Around} {E : Value → Shared → Prop} {s : Shared} {K : Frag} {x D : Addr} {ox : Obj} {od : Option Obj}
theorem siFindD {C : Addr} {name : Str} {a g : Value} (hc : (clsIn K C).isSome = true) (ha : findIn K (.ref C) name = some (some a)) (hg : specialIn K a "__get__" = some (some g)) (ht : takesIn K a = some true) : findObj K C od name = some (.bind g a) := by
  obtain ⟨cd, hc⟩ := Option.isSome_iff_exists.mp hc
  unfold findObj
  rw [hc, Option.bind_some, ha, Option.bind_some]
  simp [hg, ht]
theorem siClassE {Q : Option Value → Shared → Prop} (hga : findIn K (.ref D) "__getattribute__" = some (some (.builtin "BaseException.__getattribute__"))) (hgt : findIn K (.ref D) "__getattr__" = some none) (hsub : subIn K (.ref D) (.type "BaseException") = some true)
    (hdct : hasDictIn K D = true) (ha : findIn K (.ref D) "__class__" = some (some (.builtin "object.__class__")))
    (hn : specialIn K (.builtin "object.__class__") "__get__" = some (some (.builtin "getset_descriptor.__get__"))) (htk : takesIn K (.builtin "object.__class__") = some true) (hm : mroIn K D (.type "object") = some true)
    (X : K.In s.heap) (I : InstAt s.heap x ox D od) (h : Q (some (.ref D)) { s with toks := s.toks + 1 }) : wpAny (model prog w) A (getAttr? (.ref x) "__class__") Q E s := by
  have hf : findObj K D od "__class__" = some (.bind (.builtin "getset_descriptor.__get__") (.builtin "object.__class__")) := siFindD (by obtain ⟨cd, hc, _⟩ := any_some hdct; rw [hc]; rfl) ha hn htk
  obtain ⟨hp, g, d, t, os⟩ := s
  have L0 := I.type (M := model prog w)
  have L1 := looks_findIn (M := model prog w) X hga
  have L2 := looks_findIn (M := model prog w) X hgt
  have L3 := looks_find (M := model prog w) X I hf
  have sub : Looks (model prog w) hp (isInstance (.ref x) (.type "BaseException")) true := L0.andThen (looks_subIn X hsub)
  have hx0 : (false && onTheHeap (Value.builtin "BaseException.__getattribute__")) = false := rfl
  have hx2 : (Value.builtin "BaseException.__getattribute__" == Value.builtin "object.__getattribute__") = false := by decide +kernel
  have hx1 : (onTheHeap (Value.ref D) && Value.builtin "BaseException.__getattribute__" == Value.builtin "object.__getattribute__") = false := by rw [hx2]; rfl
  unfold getAttr? getAttrBy? getAttrBy
  refine wpAny_bind (wpAny_mkText (wpAny_bind (wpAny_attempt (wpAny_holding (wpAny_bind (L0.at (wpAny_bind (L1.at ?_))))))))
  show wpAny _ _ (if (onTheHeap (Value.ref D) && Value.builtin "BaseException.__getattribute__" == Value.builtin "object.__getattribute__") = true then _ else _) _ _ _
  rw [hx1, if_neg Bool.false_ne_true]
  unfold getAttrByItsOwn hookBefore
  refine wpAny_bind ?_
  rw [if_pos (show onTheHeap (Value.ref D) = true from rfl)]
  refine L2.at ?_
  refine wpAny_bind (wpAny_attempt (wpAny_holding ?_))
  unfold callGetattribute
  rw [hx0, if_neg Bool.false_ne_true]
  unfold boundAndCalled
  rw [PySem.F.excAttr_ValueError.ga.bind (.ref x)]
  refine wpAny_bind (wpAny_pure ?_)
  show wpAny _ _ (call (.builtin "BaseException.__getattribute__") [.ref x, .str "__class__" t]) _ _ _
  refine wpAny_call (codeAny_call_builtin PySem.F.excAttr_ValueError.ga.plain PySem.F.entry_bexc_ga ?_)
  refine @check_slot (model prog w) _ _ ⟨hp, g, d, t + 1, os⟩ "BaseException.__getattribute__" "BaseException" "__getattribute__" (.ref x) [.str "__class__" t] [] _ (by decide +kernel) (by decide +kernel) sub (PySem.F.args_bexc_ga (.ref x) (.str "__class__" t)) ?_
  unfold Builtin.«object.__getattribute__»
  refine wpAny_bind (wpAny_of_eq (a := ((Value.ref x : Value), [Value.str "__class__" t])) (by first | rfl | (simp only [slotArgs]; rfl)) ?_)
  refine wpAny_bind (wpAny_pure (wpAny_bind (L0.at (wpAny_bind (L3.at ?_)))))
  show wpAny _ _ (holding [Value.builtin "object.__class__"] (call (.builtin "getset_descriptor.__get__") [.builtin "object.__class__", .ref x, .ref D]) >>= ret) _ _ _
  refine wpAny_bind (wpAny_holding (wpAny_call (class_get (s := ⟨hp, g, d, t + 1, os⟩) (ox := ox) (od := od) X I hm ?_)))
  refine wpAny_pure ?_
  show wpAny _ _ (handedOut (.ref D)) _ _ _
  rw [handedOut_of (v := .ref D) rfl]
  first
    | exact wpAny_pure (wpAny_pure h)
    | exact wpAny_pure h
    | exact wpAny_pure (wpAny_bind (wpAny_pure (wpAny_pure h)))
theorem siKitx (hga : findIn K (.ref D) "__getattribute__" = some (some (.builtin "BaseException.__getattribute__"))) (hgt : findIn K (.ref D) "__getattr__" = some none) (hsub : subIn K (.ref D) (.type "BaseException") = some true) (hdct : hasDictIn K D = true) (ha : findIn K (.ref D) "__class__" = some (some (.builtin "object.__class__")))
    (hn : specialIn K (.builtin "object.__class__") "__get__" = some (some (.builtin "getset_descriptor.__get__"))) (htk : takesIn K (.builtin "object.__class__") = some true) (hm : mroIn K D (.type "object") = some true) :
    KitX K (.ref x) (.ref D) (fun h => InstAt h x ox D od) where
  ty := fun _ _ _ I => I.type
  it := fun _ _ X _ => by
    obtain ⟨cdD, hcD, _⟩ := any_some hdct
    unfold clsIn at hcD
    split at hcD
    · rename_i c' d' cd' sl' ho
      intro A' Q' E' s' k q
      unfold isType loadHead
      exact wpAny_bind (wpAny_loadPart (k _ _ (X _ _ ho)) (wpAny_pure q))
    · cases hcD
  ne := fun h tp dd its n sl X htp => by
    obtain ⟨cdD, hcD, _⟩ := any_some hdct
    refine Bool.eq_false_iff.mpr fun q => ?_
    have e : D = tp := Value.ref.inj (beq_iff_eq.mp q)
    subst e
    unfold clsIn at hcD
    split at hcD
    · rename_i c' d' cd' sl' ho
      have z := (X _ _ ho).symm.trans htp
      cases z
    · cases hcD
  ca := fun X I k => siClassE hga hgt hsub hdct ha hn htk hm X I k
end
end PySem.W
namespace SI
open PySem PySem.Spec PyProof.Rows L2

/-- of what class a value is; of an own exception's, too -/
inductive TyZ (K : PySem.W.Frag) (H : Hp) : V → Value → Prop where
  | x {v : V} {t : Value} (h : TyX K H v t) : TyZ K H v t
  | n {p c : Addr} (e : H p = some (exo p c none)) (C : ExcC K c) : TyZ K H (.ref p) (.ref c)
  | d {p c dx : Addr} {fs : List (Str × V)} (e : H p = some (exo p c (some dx))) (f : H dx = some (exd dx fs)) (C : ExcC K c) : TyZ K H (.ref p) (.ref c)
section
variable {X : Cx} {pins : List (Addr × Obj)} {σ : L2.St} {H : Hp} {s : Shared} {C f : Addr} {W : WX} {k : Nat} {fd : FuncData} {ps : List Str} {sp : Sp} {Q : VK} {us : List Value} {vs : List V} {pn : List (Addr × Obj)} {sg : L2.St}
theorem inst_n {p c : Addr} (I : Inv X pins σ H s) (e : H p = some (exo p c none)) : ∃ ox, PySem.W.InstAt s.heap p ox c none := by
  obtain ⟨t1, h⟩ := exo_at I.hok e
  exact ⟨_, h, rfl, rfl, trivial⟩
theorem inst_d {p c dx : Addr} {fs : List (Str × V)} (I : Inv X pins σ H s) (e : H p = some (exo p c (some dx))) (f : H dx = some (exd dx fs)) : ∃ ox od, PySem.W.InstAt s.heap p ox c (some od) ∧ ∃ mA : Str → Option Value, s.heap.get? dx = some od ∧ (∀ n, PySem.W.lookIn n od = some (mA n)) ∧ ∀ n, RelO (fs.lookup n) (mA n) := by
  obtain ⟨t1, h⟩ := exo_at I.hok e
  obtain ⟨mA, hns, r⟩ := exd_at I.hok f
  obtain ⟨od, ho, hl⟩ := lookIn_ns hns
  exact ⟨_, od, ⟨h, rfl, rfl, ho⟩, mA, ho, hl, r⟩
theorem kit_ofZ {x : V} {u t : Value} (I : Inv X pins σ H s) (rx : RelV x u) (ty : TyZ X.K H x t) : ∃ P : Heap → Prop, PySem.W.KitX X.K u t P ∧ P s.heap ∧ u ≠ .builtin "__main__.__loader__#opaque" := by
  cases ty with
  | x h => exact kit_of I rx h
  | @n p c e C =>
    obtain rfl : u = Value.ref p := rx
    obtain ⟨ox, J⟩ := inst_n I e
    exact ⟨_, PySem.W.siKitx (ox := ox) (od := none) C.hg C.hk C.hs C.hd C.ha C.hn C.ht C.hm, J, fun z => nomatch z⟩
  | @d p c dx fs e f C =>
    obtain rfl : u = Value.ref p := rx
    obtain ⟨ox, od, J, _⟩ := inst_d I e f
    exact ⟨_, PySem.W.siKitx (ox := ox) (od := some od) C.hg C.hk C.hs C.hd C.ha C.hn C.ht C.hm, J, fun z => nomatch z⟩
def rIsiZ (K : PySem.W.Frag) : List V → Hp → VK → Prop := fun xs H Q => ∃ (x c : V) (t u : Value) (b : Bool), xs = [x, c] ∧ ClsV c u ∧ TyZ K H x t ∧ PySem.W.kitOne K t u = some b ∧ Q (.bl b) H
theorem call_isiZ : CallR X (.builtin "isinstance") (rIsiZ X.K) := by
  intro pins s σ H xs us Q I r h
  obtain ⟨x, c, t, u, b, rfl, k, ty, e, q⟩ := h
  obtain ⟨u1, u2, rfl, r1, r2⟩ := vals2 r
  have e2 := k.eq r2
  subst e2
  obtain ⟨P, Z, p, hx⟩ := kit_ofZ I r1 ty
  exact PySem.W.kia_one Z I.kIn p e hx fun tk => ⟨.bl b, H, I.tok tk, rfl, q⟩
/-- C(..), an own exception with its own __init__ -/
theorem run_gx (T : OexC X.K C) (iC : PySem.W.findIn X.K (.ref C) "__init__" = some (some (.ref f))) (tI : PySem.W.typeIn X.K (.ref f) = some (.type "function")) (F : FnG X.prog X.w X.K X.mg X.base k f fd ps sp) (hr : Room (k + 1) X.A) (hg : X.A.guards = some []) (hb : Binds X.K fd ps []) (tk : Takes X W)
    (I : Inv X pn sg H s) (r : Vals vs us) (hz : vs.length ≤ 1000) (h : ∀ x, H x = none → sp (.ref x :: vs) (upd H x (exo x C none)) (fun v H2 => v = .non ∧ Q (.ref x) H2) fun c d H' => W c d sg H') :
    wpAny (model X.prog X.w) X.A (PySem.call (.ref C) us) (EP X pn sg Q) X.xe s := by
  obtain ⟨nm, q, N, bs, bm, sn, sub, ab, col, dd, k0, k1, k2, k3, k5, hC, hbm⟩ := T.cls
  obtain ⟨hp, g, dr, tk', os⟩ := s
  have hsz : hp.objs.size ≤ hp.objs.size + 1 := Nat.le_succ _
  have hn : H (hp.objs.size + 1) = none := I.hok.fresh hsz
  have hq := h (hp.objs.size + 1) hn
  have kk : ∀ b o, hp.get? b = some o → ((hp.push (PySem.W.kdv_tup us)).push (PySem.HandSPX.excO C hp.objs.size)).get? b = some o := fun b o e => Heap.get?_push_of_some _ (Heap.get?_push_of_some _ e)
  have hget : ((hp.push (PySem.W.kdv_tup us)).push (PySem.HandSPX.excO C hp.objs.size)).get? (hp.objs.size + 1) = some (PySem.HandSPX.excO C hp.objs.size) := by heap_get
  have I2 : Inv X pn sg (upd H (hp.objs.size + 1) (exo (hp.objs.size + 1) C none)) ⟨(hp.push (PySem.W.kdv_tup us)).push (PySem.HandSPX.excO C hp.objs.size), g, dr, tk', os⟩ :=
    I.laid (t' := tk') (a := hp.objs.size + 1) (o := exo (hp.objs.size + 1) C none) (h' := (hp.push (PySem.W.kdv_tup us)).push (PySem.HandSPX.excO C hp.objs.size)) kk hsz (exo_ok hget)
  have r2 : Vals (V.ref (hp.objs.size + 1) :: vs) (Value.ref (hp.objs.size + 1) :: us) := .cons rfl r
  have hl : (Value.ref (hp.objs.size + 1) :: us).length = ps.length := by
    rw [← r2.length]
    exact F.len _ _ _ _ hq
  have hus : us.length ≤ sizeLine := by
    rw [← Paired.length r, sizeLine_eq]
    omega
  have b := hb _ (Value.ref (hp.objs.size + 1) :: us) I2.kIn (by rw [List.append_nil]; exact hl)
  rw [List.append_nil] at b
  refine wpAny_call (PySem.HandSPX.call_own PySem.F.excBase_ValueError (fun Y => PySem.HandSPX.refsVE_contains Y bm hbm) (I.kIn _ _ hC) (PySem.W.looks_findIn I.kIn iC) (fun self => PySem.W.bind_fn I.kIn self tI) hus
    (codeAny_mono (F.run _ X.stack _ _ ⟨Value.ref (hp.objs.size + 1) :: us, []⟩ _ _ _ _ (hr.make C us []) (guards_make hg C us []) (I2.env0.make C us []) b r2 hq) fun r' s' hq' => ?_))
  cases r' with
  | error ex => exact passAt tk sg pn _ _ ex s' I2 hq'
  | ok fl => cases fl with
    | ret u =>
      obtain ⟨v, H', I3, rv, ev, q3⟩ := I2.after hq'
      subst ev
      exact ⟨rv, ⟨V.ref (hp.objs.size + 1), H', I3, rfl, q3⟩⟩
    | next => exact False.elim hq'
    | brk => exact False.elim hq'
    | cont => exact False.elim hq'
/-- C(), an own exception without own __init__ -/
theorem run_g0 (q : PySem.W.excIn X.K C He.veBase "ValueError.__new__" = true) (I : Inv X pn sg H s) (h : ∀ x, H x = none → Q (.ref x) (upd H x (exo x C none))) :
    wpAny (model X.prog X.w) X.A (PySem.call (.ref C) []) (EP X pn sg Q) X.xe s := by
  obtain ⟨bm, N, nm, qn, bs, hdct, sn, sub, ab, col, dd, k0, k1, k2, k3, k5, mN, hC, hN, hni, T⟩ := exc_obj I.kIn q
  refine wpAny_call_exc_subT PySem.F.excBase_ValueError T hC hN hni (fun h' a hm => ?_) (by show 0 ≤ sizeLine; exact Nat.zero_le _)
  have hn : H a = none := I.hok.gone hm.new
  obtain ⟨t, ht, _, _⟩ := hm.there
  exact ⟨.ref a, upd H a (exo a C none), I.laidN hm.keeps hm.new hn (exo_ok ht), rfl, h a hn⟩
/-- e.f, e an own exception -/
theorem get_x {p c dx : Addr} {fs : List (Str × V)} {n : Str} {v : V} {Q' : Value → Shared → Prop} {E : Value → Shared → Prop} (T : XfC X.K c) (hno : PySem.W.findIn X.K (.ref c) n = some none) (I : Inv X pins σ H s) (e : H p = some (exo p c (some dx))) (f : H dx = some (exd dx fs)) (l : fs.lookup n = some v)
    (h : ∀ u s2, Inv X pins σ H s2 → RelV v u → Q' u s2) : wpAny (model X.prog X.w) X.A (getAttr (.ref p) n true) Q' E s := by
  obtain ⟨ox, od, J, mA, ho, hl, r⟩ := inst_d I e f
  obtain ⟨u, hu, ru⟩ := RelO.some_of (v := v) (o := mA n) (by rw [← l]; exact r n)
  exact HandSPX.exc_get I.kIn J T.ga T.gg T.exC (PySem.W.findObj_own T.hdC hno rfl (by rw [hl, hu])) (handed_of ru) (h u _ (I.tok _) ru)
end
/-- what the written part says of an own exception with its own __init__ -/
def oexB (K : PySem.W.Frag) (C : Addr) : Bool := (match K.lookup C with
  | some ⟨.type "type", _, .cls cd, sl⟩ => (match cd.mro, sl.toList with
    | .ref C' :: bm, [_, _, _, _, some (.builtin n), _] => C' == C && n == "ValueError.__new__" && !cd.hasDel && cd.hasDict && PySem.HandSPX.refsVE bm
    | _, _ => false)
  | _ => false) && (decide (PySem.W.findIn K (.ref C) "__setattr__" = some (some (.builtin "object.__setattr__"))) && (decide (PySem.W.subIn K (.ref C) (.type "BaseException") = some true) && (decide (PySem.W.typeIn K (.ref C) = some (.type "type")) && PySem.W.keepIn K (.ref C))))
theorem oexB_ok {K : PySem.W.Frag} {C : Addr} (q : oexB K C = true) : OexC K C := by
  unfold oexB at q
  obtain ⟨q, q2⟩ := Bool.and_eq_true_iff.mp q
  obtain ⟨h1, q2⟩ := Bool.and_eq_true_iff.mp q2
  obtain ⟨h2, q2⟩ := Bool.and_eq_true_iff.mp q2
  obtain ⟨h3, h4⟩ := Bool.and_eq_true_iff.mp q2
  refine ⟨?_, of_decide_eq_true h1, of_decide_eq_true h2, of_decide_eq_true h3, h4⟩
  split at q
  · rename_i dd cd sl ho
    split at q
    · rename_i C' bm k0 k1 k2 k3 n k5 hm hs
      simp only [Bool.and_eq_true, beq_iff_eq, Bool.not_eq_true'] at q
      obtain ⟨⟨⟨⟨rfl, rfl⟩, hdel⟩, hdi⟩, ht⟩ := q
      obtain ⟨nm, bs, mro, ns, qn, hd, sn, sub, ab, col, del⟩ := cd
      dsimp only at hm hdel hdi
      subst hm hdel hdi
      have hsl : sl = #[k0, k1, k2, k3, some (.builtin "ValueError.__new__"), k5] := by
        obtain ⟨l⟩ := sl
        simp only at hs
        rw [hs]
      subst hsl
      exact ⟨nm, qn, ns, bs, bm, sn, sub, ab, col, dd, k0, k1, k2, k3, k5, ho, ht⟩
    · cases q
  · cases q
end SI
end
section
set_option Elab.async false
set_option linter.all false
set_option maxRecDepth 100000
set_option maxHeartbeats 4000000
/-! SI8: expressions. -/
namespace SI
open PySem PySem.Spec PyProof.Rows L2

/-- what the walk of isinstance, of fields and of methods asks of an own class -/
structure ClsF (K : PySem.W.Frag) (c : Addr) : Prop where
  cl : Cls K c
  ha : PySem.W.findIn K (.ref c) "__class__" = some (some (.builtin "object.__class__"))
  hn : PySem.W.specialIn K (.builtin "object.__class__") "__get__" = some (some (.builtin "getset_descriptor.__get__"))
  ht : PySem.W.takesIn K (.builtin "object.__class__") = some true
  hm : PySem.W.mroIn K c (.type "object") = some true
def bTys : List String := ["int", "bool", "str", "list", "tuple", "dict", "ValueError"]
/-- an exception's own __init__, its fields being its parameters -/
def spE (K : PySem.W.Frag) (fs : List Str) : Sp := fun xs H Q _ => xs.length = fs.length + 1 ∧ ∃ (a c : Addr) (vs : List V), xs = .ref a :: vs ∧ OexC K c ∧ (∀ f ∈ fs, PySem.W.findIn K (.ref c) f = some none) ∧ H a = some (exo a c none) ∧
  ∀ dx, H dx = none → dx ≠ a → Q .non (upd (upd H dx (exd dx (fs.reverse.zip vs.reverse))) a (exo a c (some dx)))
/-- a def's promise: it does to the plain data what g does -/
def spF (K : PySem.W.Frag) (mg : Mg) (n : Nat) (g : List D → Hs → Res D) : Sp := fun vs H Q E => vs.length = n ∧ ∃ (O : Om) (ds : List D) (h : Hs), RepL K mg O ds vs ∧ SR K mg O h H ∧ match g ds h with
  | .ok d h' => ∀ (O' : Om) (v : V) (H' : Hp), Stp O H O' H' → SR K mg O' h' H' → Rep K mg O' d v → Q v H'
  | .ex e h' => ∀ (O' : Om) (cls : Value) (d : Option Addr) (H' : Hp), Stp O H O' H' → SR K mg O' h' H' → ExOk K mg O' e cls d → E cls d H'
  | .no => False
/-- names of the module -/
structure Tab where
  fns : List Str
  cls : List Str
  cst : List (Str × D)
  free : List Str
  attrs : List Str
  cms : List (Str × Str)
  cats : List Str
  lams : List Str
/-- no exception is let out -/
def EK0 : XK := fun _ _ _ => False
/-- in a def g that is entered at s and calls what it was given, the lambda at f: that does to the plain data what T does -/
def ActOk (P : Program) (w : World) (K : PySem.W.Frag) (mg : Mg) (base : Heap) (k : Nat) (A : Around) (outer : List PySem.Env) (s : Shared) (H : Hp) (g f d : Addr) (q : Str) (T : Hs → Res D) (O0 : Om) : Prop :=
  ∀ (Ng : List Str) (qg a : Str) (sc : Scope) (cdg : Value) (pz : List (Addr × Obj)) (xe : Value → Shared → Prop) (W : WX) (i : Nat) (p1 p2 : Pos), Ng[i]? = some a → Vis sc a → (a == ("__debug__" : Str)) = false → (a == ("__classdict__" : Str)) = false →
    Room (k + 1) (A.deeper (envOfC qg sc s.heap.objs.size g cdg)) → Takes ((cxOf (L2.CX P w) P w K mg base Ng qg sc g cdg A outer s H EK0).tr pz xe) W →
    PE ((cxOf (L2.CX P w) P w K mg base Ng qg sc g cdg A outer s H EK0).tr pz xe) (.Call (.Name a p1) [] [] p2) fun sz HZ Q => sz[i]? = some (some (.ref f)) ∧ HZ d = some (LamX.CodeO d q) ∧ ∃ (O : Om) (h : Hs), (O0.n ≤ O.n ∧ (∀ i, i < O0.n → O.φ i = O0.φ i) ∧ ∀ a o, O0.F a = some o → O.F a = some o) ∧ SR K mg O h HZ ∧ match T h with
      | .ok r h1 => ∀ (O' : Om) (v : V) (H' : Hp), Stp O HZ O' H' → SR K mg O' h1 H' → Rep K mg O' r v → Q v H'
      | .ex e h1 => ∀ (O' : Om) (c : Value) (u : Option Addr) (H' : Hp), Stp O HZ O' H' → SR K mg O' h1 H' → ExOk K mg O' e c u → W c u sz H'
      | .no => False
/-- such a def's promise -/
def CatG (P : Program) (w : World) (K : PySem.W.Frag) (mg : Mg) (base : Heap) (k : Nat) (g : Addr) (F : (Hs → Res D) → List D → Hs → Res D) : Prop :=
  ∀ (A : Around) (outer : List PySem.Env) (s : Shared) (H : Hp) (f d : Addr) (q : Str) (T : Hs → Res D) (us : List Value) (vs : List V) (O : Om) (ds : List D) (h : Hs) (Q : VK), Room (k + 2) A → A.guards = some [] → Env0 P w K mg base A outer s H → ActOk P w K mg base k A outer s H g f d q T O →
    Vals vs us → RepL K mg O ds vs → SR K mg O h H → O.F d = some (LamX.CodeO d q) → (match F T ds h with
      | .ok r h1 => ∀ (O' : Om) (v : V) (H' : Hp), Stp O H O' H' → SR K mg O' h1 H' → Rep K mg O' r v → Q v H'
      | _ => False) → codeAny (model P w) A (.call (.ref g) ⟨.ref f :: us, []⟩) (CR (L2.CX P w) outer P w H s Q EK0) s
/-- what is known of the module where k calls may still go one in another -/
structure Wf0 (X : Cx) (G : Wr) (k : Nat) (T : Tab) : Prop where
  glo : ∀ x ∈ T.fns, ∃ f, X.mg x = some (.ref f) ∧ PySem.W.keepIn X.K (.ref f) = true
  call : ∀ x ds h, G.call x ds h ≠ .no → ∃ f fd ps, X.mg x = some (.ref f) ∧ Binds X.K fd ps [] ∧ ps.length = ds.length ∧ FnG X.prog X.w X.K X.mg X.base k f fd ps (spF X.K X.mg ps.length (G.call x))
  mth : ∀ C m, G.mth C m = true → ∃ c f, X.mg C = some (.ref c) ∧ Meth X.K c m f
  meth : ∀ C m ds h, G.meth C m ds h ≠ .no → ∃ c f fd ps, X.mg C = some (.ref c) ∧ Meth X.K c m f ∧ Binds X.K fd ps [] ∧ ps.length = ds.length ∧ FnG X.prog X.w X.K X.mg X.base k f fd ps (spF X.K X.mg ps.length (G.meth C m))
  make : ∀ C ds h, G.make C ds h ≠ .no → (∃ c f fd ps j g, X.mg C = some (.ref c) ∧ Mk X.K c f ∧ Binds X.K fd ps [] ∧ ps.length = ds.length + 1 ∧ j + 1 ≤ k ∧ FnG X.prog X.w X.K X.mg X.base j f fd ps (spF X.K X.mg ps.length g) ∧
    ∀ ds h, G.make C ds h = (g (.ptr h.length :: ds) (h ++ [.ins C []])).bind fun d h' => match d with
      | .non => .ok (.ptr h.length) h'
      | _ => .no) ∨ (∃ c fs, X.mg C = some (.ref c) ∧ fs.length = ds.length ∧ ds.length ≤ 1000 ∧ G.make C ds h = .ok (.exv C fs.reverse ds.reverse) h ∧ ((fs = [] ∧ PySem.W.excIn X.K c He.veBase "ValueError.__new__" = true) ∨
    (fs ≠ [] ∧ ∃ f fd ps, OexC X.K c ∧ (∀ f ∈ fs, PySem.W.findIn X.K (.ref c) f = some none) ∧ PySem.W.findIn X.K (.ref c) "__init__" = some (some (.ref f)) ∧ PySem.W.typeIn X.K (.ref f) = some (.type "function") ∧ Binds X.K fd ps [] ∧ 2 ≤ k ∧ FnG X.prog X.w X.K X.mg X.base 1 f fd ps (spE X.K fs))))
  exc : ∀ C, G.exc C = true → ∀ c, X.mg C = some (.ref c) → XfC X.K c ∧ ExcC X.K c ∧ (∀ f ∈ T.attrs, PySem.W.findIn X.K (.ref c) f = some none) ∧ PySem.W.kitOne X.K (.ref c) (.type "ValueError") = some true
  cls : ∀ C, G.cls C = true → ∀ c, X.mg C = some (.ref c) → ClsF X.K c ∧ (∀ f ∈ T.attrs, NoAttr X.K c f) ∧ ∀ B ∈ bTys, PySem.W.kitOne X.K (.ref c) (.type B) = some false
  clg : ∀ C ∈ T.cls, ∃ c, X.mg C = some (.ref c) ∧ PySem.W.keepIn X.K (.ref c) = true ∧ ∀ B ∈ ["NoneType", "bool", "int", "str", "tuple", "list", "dict"], PySem.W.kitOne X.K (.type B) (.ref c) = some false
  sub : ∀ C T' b, G.sub C T' = some b → ∀ c t, X.mg C = some (.ref c) → X.mg T' = some (.ref t) → PySem.W.kitOne X.K (.ref c) (.ref t) = some b
  cst : ∀ p ∈ T.cst, ∃ u v, X.mg p.1 = some u ∧ L2.RelV v u ∧ ∀ O, RepX X O p.2 v
  free : ∀ x ∈ T.free, X.mg x = none
  cms : ∀ p ∈ T.cms, ∃ c f, X.mg p.1 = some (.ref c) ∧ PySem.W.keepIn X.K (.ref f) = true ∧ Meth X.K c p.2 f ∧ PySem.W.readsIn X.K c (.type "type") = true ∧ PySem.W.specialIn X.K (.ref c) "__getattribute__" = some (some (.builtin "type.__getattribute__")) ∧
    PySem.W.findCls X.K (.ref c) (.type "type") p.2 = some (.val (.ref f))
  fnk : ∀ x, G.fnk x = true → ∃ f, X.mg x = some (.ref f) ∧ PySem.W.keepIn X.K (.ref f) = true
  cats : ∀ x ∈ T.cats, ∃ f, X.mg x = some (.ref f) ∧ PySem.W.keepIn X.K (.ref f) = true
structure Wf (X : Cx) (G : Wr) (k : Nat) (T : Tab) : Prop extends Wf0 X G k T where
  lam : ∀ x Tf ds h, G.lam x Tf ds h ≠ .no → ∃ g j lo F, X.mg x = some (.ref g) ∧ k = j + 2 ∧ (∀ Tf ds h, G.lam x Tf ds h = (F (Tf lo) ds h).calm) ∧ CatG X.prog X.w X.K X.mg X.base j g F ∧ Wf0 X (G.at lo) j T
theorem Wf0.to {X Y : Cx} {G : Wr} {k : Nat} {T : Tab} (w : Wf0 X G k T) (e1 : Y.prog = X.prog := by rfl) (e2 : Y.w = X.w := by rfl) (e3 : Y.K = X.K := by rfl) (e4 : Y.mg = X.mg := by rfl) (e5 : Y.base = X.base := by rfl) : Wf0 Y G k T := by
  refine ⟨?_, ?_, ?_, ?_, ?_, ?_, ?_, ?_, ?_, ?_, ?_, ?_, ?_, ?_⟩ <;> (try rw [e1]) <;> (try rw [e2]) <;> (try rw [e3]) <;> (try rw [e4]) <;> (try rw [e5])
  · exact w.glo
  · exact w.call
  · exact w.mth
  · exact w.meth
  · exact w.make
  · exact w.exc
  · exact w.cls
  · exact w.clg
  · exact w.sub
  · intro p hp; obtain ⟨u, v, a, b, c⟩ := w.cst p hp; exact ⟨u, v, a, b, fun O => by show Rep Y.K Y.mg O p.2 v; rw [e3, e4]; exact c O⟩
  · exact w.free
  · exact w.cms
  · exact w.fnk
  · exact w.cats

section
variable {X : Cx} {W : WX} {a b c e o i : Expr} {es : List Expr} {pos : Pos} {fa fb fc : Nv → Hs → Res D} {fs : Nv → Hs → Res (List D)} {ft : Nv → Hs → Res Bool}
theorem sE_int {i : Int} {j : Nat} : PE X (.Constant (.int i) j pos) (tE X W fun _ h => .ok (.int i) h) := PE.weak pe_int fun sg H Q ⟨O, env, h, eo, S, p⟩ => p.here S (.int i)
theorem sE_bl {i : Bool} {j : Nat} : PE X (.Constant (.bool i) j pos) (tE X W fun _ h => .ok (.bl i) h) := PE.weak pe_bl fun sg H Q ⟨O, env, h, eo, S, p⟩ => p.here S (.bl i)
theorem sE_non {j : Nat} : PE X (.Constant .none j pos) (tE X W fun _ h => .ok .non h) := PE.weak pe_non fun sg H Q ⟨O, env, h, eo, S, p⟩ => p.here S .non
theorem sE_str {i : Str} {j : Nat} : PE X (.Constant (.str i) j pos) (tE X W fun _ h => .ok (.str i) h) := PE.weak pe_str fun sg H Q ⟨O, env, h, eo, S, p⟩ => p.here S (.str i)
theorem get_ok {O : Om} {env : Nv} {sg : L2.St} (eo : NvOk X.K X.mg O env sg) {i : Nat} {d : D} (e : get env i = some d) : ∃ v, sg[i]? = some (some v) ∧ RepX X O d v := by
  unfold get at e
  cases q : env[i]? with
  | none => rw [q] at e; cases e
  | some z => rw [q] at e; exact eo.val i d (by rw [q]; exact congrArg some e)
theorem sE_var {i : Nat} {x : Str} (hN : X.N[i]? = some x) (hv : Vis X.env.scope x) (hd : (x == ("__debug__" : Str)) = false) (hcd : (x == ("__classdict__" : Str)) = false) : PE X (.Name x pos) (tE X W fun env h => .of (get env i) h) :=
  PE.weak (pe_var hN hv hd hcd) fun sg H Q ⟨O, env, h, eo, S, p⟩ => by
    obtain ⟨d, e, k⟩ := p.of S
    obtain ⟨v, hv, r⟩ := get_ok eo e
    exact ⟨v, hv, k v r⟩
theorem sE_glob {x : Str} {d : D} (hg : Gl X x) (hd : (x == ("__debug__" : Str)) = false) (hc : ∃ u v, X.mg x = some u ∧ L2.RelV v u ∧ ∀ O, RepX X O d v) : PE X (.Name x pos) (tE X W fun _ h => .ok d h) := by
  obtain ⟨u, v, hm, r, q⟩ := hc
  exact PE.weak (pe_glob hg hm r hd) fun sg H Q ⟨O, env, h, eo, S, p⟩ => p.here S (q O)
theorem sA_nil : PA X [] (tA X W fun _ h => .ok [] h) := PA.weak pa_nil fun sg H Q ⟨O, env, h, eo, S, p⟩ => p.here S .nil
theorem sA_cons (hs : starless e = true) (ha : PE X e (tE X W fa)) (hr : PA X es (tA X W fs)) : PA X (e :: es) (tA X W fun env h => (fa env h).bind fun d h => (fs env h).bind fun ds h => .ok (d :: ds) h) :=
  PA.weak (pa_cons ha hr (star_cons hs es X.env)) fun sg H Q ⟨O, env, h, eo, S, p⟩ => ⟨O, env, h, eo, S, p.bind fun x h1 O1 v H1 _ s1 S1 r1 p1 => ⟨O1, env, h1, eo.stp s1, S1, p1.bind fun ds h2 O2 vs H2 _ s2 S2 r2 p2 => p2.here S2 (.cons (r1.stp s2) r2)⟩⟩
theorem sE_tup {x1 : Nat} (hl : ∀ env h ds h', fs env h = .ok ds h' → ds.length ≤ 1000) (ha : PA X es (tA X W fs)) : PE X (.Tuple es x1 pos) (tE X W fun env h => (fs env h).bind fun ds h => .ok (.tup ds) h) :=
  PE.weak (pe_tup ha) fun sg H Q ⟨O, env, h, eo, S, p⟩ => ⟨O, env, h, eo, S, p.bind fun ds h1 O1 vs H1 er s1 S1 r1 p1 => by
    have z : vs.length ≤ sizeLine := by rw [← r1.length, ← LINE_eq]; exact Nat.le_trans (hl _ _ _ _ er) (by decide)
    exact ⟨z, fun q hq => p1.new S1 hq _ (frz_tup S1 hq z r1)⟩⟩
/-- a list that was just made at q, as a value or as a changing object -/
theorem mk_ok {sg : L2.St} {O : Om} {H : Hp} {h : Hs} {m : Bool} {ds : List D} {vs : List V} {Q : VK} (S : SR X.K X.mg O h H) (r : RepLX X O ds vs) (z : vs.length ≤ sizeLine) (p : Post X W sg O H (mkL m ds h) (RepX X) Q) {q : Addr} (hq : H q = none) : Q (.ref q) (upd H q (.lst vs)) := by
  cases m with
  | false => exact Post.new (show Post X W sg O H (.ok (.lst ds) h) (RepX X) Q from p) S hq _ (frz_lst S hq z r)
  | true =>
    have p' : Post X W sg O H (.ok (.ptr h.length) (h ++ [.lst ds])) (RepX X) Q := p
    obtain ⟨s2, S2⟩ := S.newC (H' := upd H q (.lst vs)) (p := q) (c := .lst ds) hq (fun a ob e => by rw [upd_ne (ne_of_none e hq)]; exact e) ⟨_, upd_same⟩ ⟨vs, upd_same, z, r.more⟩
    refine p' _ _ _ s2 S2 ?_
    have y : RepX X (O.more q) (.ptr O.n) (.ref ((O.more q).φ O.n)) := .ptr (Nat.lt_succ_self _)
    rw [Om.more_new] at y
    rw [S.len]
    exact y
theorem sE_lst {m : Bool} (hl : ∀ env h ds h', fs env h = .ok ds h' → ds.length ≤ 1000) (ha : PA X es (tA X W fs)) : PE X (.List es pos) (tE X W fun env h => (fs env h).bind fun ds h => mkL m ds h) :=
  PE.weak (pe_lst ha) fun sg H Q ⟨O, env, h, eo, S, p⟩ => ⟨O, env, h, eo, S, p.bind fun ds h1 O1 vs H1 er s1 S1 r1 p1 => by
    have z : vs.length ≤ sizeLine := by rw [← r1.length, ← LINE_eq]; exact Nat.le_trans (hl _ _ _ _ er) (by decide)
    exact ⟨z, fun q hq => mk_ok S1 r1 z p1 hq⟩⟩
theorem sE_bin {op : Bop} (ha : PE X a (tE X W fa)) (hb : PE X b (tE X W fb)) : PE X (.BinOp a (opOf op) b pos) (tE X W fun env h => (fa env h).bind fun x h => (fb env h).bind fun y h => binA h op x y) :=
  PE.weak (pe_op (op_all op) ha hb) fun sg H Q ⟨O, env, h, eo, S, p⟩ => ⟨O, env, h, eo, S, p.bind fun x h1 O1 v H1 _ s1 S1 r1 p1 => ⟨O1, env, h1, eo.stp s1, S1, p1.bind fun y h2 O2 u H2 _ s2 S2 r2 p2 => bin_ok S2 (r1.stp s2) r2 p2⟩⟩
theorem sE_neg (ha : PE X a (tE X W fa)) : PE X (.UnaryOp .USub a pos) (tE X W fun env h => (fa env h).bind fun x h => match x with
      | .int i => .ok (.int (-i)) h
      | _ => .no) :=
  PE.weak (pe_un un_neg ha) fun sg H Q ⟨O, env, h, eo, S, p⟩ => ⟨O, env, h, eo, S, p.bind fun x h1 O1 v H1 _ s1 S1 r1 p1 => by
    cases x with
    | int i => rw [r1.int_inv]; exact ⟨i, rfl, p1.here S1 (.int _)⟩
    | _ => exact (show False from p1).elim⟩
theorem sE_cmp {k : Nat} (hr : Room k X.A) {op : Cop} (hm : setless b = true) (ha : PE X a (tE X W fa)) (hb : PE X b (tE X W fb)) : PE X (.Compare a [cpOf op] [b] pos) (tE X W fun env h => (fa env h).bind fun x h => (fb env h).bind fun y h => .of ((cmpD h op x y).map .bl) h) :=
  PE.weak (pe_cmpR (cmp_all hr op) ha hb (behind_plain hm _)) fun sg H Q ⟨O, env, h, eo, S, p⟩ => ⟨O, env, h, eo, S, p.bind fun x h1 O1 v H1 _ s1 S1 r1 p1 => ⟨O1, env, h1, eo.stp s1, S1, p1.bind fun y h2 O2 u H2 _ s2 S2 r2 p2 => by
    obtain ⟨d, e, q⟩ := p2.of S2
    simp only [Option.map_eq_some_iff] at e
    obtain ⟨t, e, rfl⟩ := e
    exact cmp_ok S2 (r1.stp s2) r2 e (q _ (.bl t))⟩⟩
theorem tru_of {O : Om} {H : Hp} {h : Hs} (S : SR X.K X.mg O h H) {d : D} {v : V} (r : RepX X O d v) {k : Bool} (e : truth h d = some k) : TruV X.K v H k := by
  have LE := LINE_eq
  cases r with
  | non => cases e; rfl
  | bl t => cases e; rfl
  | int i => cases e; rfl
  | str z =>
    simp only [truth] at e
    split at e
    · cases e; exact ⟨by omega, rfl⟩
    · cases e
  | tup q z t => cases e; exact .inr (.inl ⟨_, SqT.of (S.sub _ _ q), by cases t <;> rfl⟩)
  | lst q z t => cases e; exact .inl ⟨_, SqL.of (S.sub _ _ q), by cases t <;> rfl⟩
  | ksl q z t => cases e; exact .inl ⟨_, sqL_up S.sub q, by cases t <;> rfl⟩
  | kst q z t => cases e; exact .inr (.inl ⟨_, sqT_up S.sub q, by cases t <;> rfl⟩)
  | ptr q =>
    simp only [truth] at e
    split at e
    · rename_i xs hn
      cases e
      obtain ⟨vs, hv, z, t⟩ := S.cell _ _ hn
      exact .inl ⟨_, SqL.of hv, by cases t <;> rfl⟩
    · rename_i kvs hn
      cases e
      obtain ⟨ws, hv, t⟩ := S.cell _ _ hn
      exact .inr (.inr ⟨_, hv, by cases t <;> rfl⟩)
    · cases e
  | glo => cases e
  | exv => cases e
  | exz => cases e
theorem sE_one {op : PySem.BoolOp} (ha : PE X a (tE X W fa)) : PE X (.BoolOp op [a] pos) (tE X W fa) := pe_one ha
theorem sE_and {rest : List Expr} (ha : PE X a (tE X W fa)) (hb : PE X (.BoolOp .And (b :: rest) pos) (tE X W fb)) : PE X (.BoolOp .And (a :: b :: rest) pos) (tE X W fun env h => (fa env h).bind fun x h => (Res.of (truth h x) h).bind fun k h => if k then fb env h else .ok x h) :=
  PE.weak (pe_andT ha hb) fun sg H Q ⟨O, env, h, eo, S, p⟩ => ⟨O, env, h, eo, S, p.bind fun x h1 O1 v H1 _ s1 S1 r1 p1 => by
    obtain ⟨k, e, q⟩ := p1.ofb
    refine ⟨k, tru_of S1 r1 e, ?_⟩
    cases k with
    | true => rw [if_pos rfl] at q ⊢; exact ⟨O1, env, h1, eo.stp s1, S1, q⟩
    | false => rw [if_neg (by decide)] at q ⊢; exact q.here S1 r1⟩
theorem sE_or {rest : List Expr} (ha : PE X a (tE X W fa)) (hb : PE X (.BoolOp .Or (b :: rest) pos) (tE X W fb)) : PE X (.BoolOp .Or (a :: b :: rest) pos) (tE X W fun env h => (fa env h).bind fun x h => (Res.of (truth h x) h).bind fun k h => if k then .ok x h else fb env h) :=
  PE.weak (pe_orT ha hb) fun sg H Q ⟨O, env, h, eo, S, p⟩ => ⟨O, env, h, eo, S, p.bind fun x h1 O1 v H1 _ s1 S1 r1 p1 => by
    obtain ⟨k, e, q⟩ := p1.ofb
    refine ⟨k, tru_of S1 r1 e, ?_⟩
    cases k with
    | false => rw [if_neg (by decide)] at q ⊢; exact ⟨O1, env, h1, eo.stp s1, S1, q⟩
    | true => rw [if_pos rfl] at q ⊢; exact q.here S1 r1⟩
theorem sE_not (ha : PE X a (tE X W fa)) : PE X (.UnaryOp .Not a pos) (tE X W fun env h => (fa env h).bind fun x h => .of ((truth h x).map fun k => .bl (!k)) h) :=
  PE.weak (pe_notT ha) fun sg H Q ⟨O, env, h, eo, S, p⟩ => ⟨O, env, h, eo, S, p.bind fun x h1 O1 v H1 _ s1 S1 r1 p1 => by
    obtain ⟨d, e, q⟩ := p1.of S1
    simp only [Option.map_eq_some_iff] at e
    obtain ⟨k, e, rfl⟩ := e
    exact ⟨k, tru_of S1 r1 e, q _ (.bl _)⟩⟩
theorem sE_ife (hc : PT X c (tT X W ft)) (ha : PE X a (tE X W fa)) (hb : PE X b (tE X W fb)) : PE X (.IfExp c a b pos) (tE X W fun env h => (ft env h).bind fun k h => if k then fa env h else fb env h) :=
  PE.weak (pe_ifExp hc ha hb) fun sg H Q ⟨O, env, h, eo, S, p⟩ => ⟨O, env, h, eo, S, p.bind fun k h1 O1 v H1 _ s1 S1 r1 p1 => by
    cases (show k = v from r1)
    cases k with
    | false => rw [if_neg (by decide)] at p1 ⊢; exact ⟨O1, env, h1, eo.stp s1, S1, p1⟩
    | true => rw [if_pos rfl] at p1 ⊢; exact ⟨O1, env, h1, eo.stp s1, S1, p1⟩⟩
/-! ### tests -/
theorem sT_val (hp : plainT e = true) (ha : PE X e (tE X W fa)) : PT X e (tT X W fun env h => (fa env h).bind fun x h => .of (truth h x) h) :=
  PT.weak (pt_truth ha (plain_true hp X.env)) fun sg H Q ⟨O, env, h, eo, S, p⟩ => ⟨O, env, h, eo, S, p.bind fun x h1 O1 v H1 _ s1 S1 r1 p1 => by
    obtain ⟨k, e, q⟩ := p1.of S1
    exact ⟨k, tru_of S1 r1 e, q k rfl⟩⟩
theorem sT_not (ha : PT X a (tT X W ft)) : PT X (.UnaryOp .Not a pos) (tT X W fun env h => (ft env h).bind fun k h => .ok (!k) h) :=
  PT.weak (pt_not ha) fun sg H Q ⟨O, env, h, eo, S, p⟩ => ⟨O, env, h, eo, S, p.bind fun k h1 O1 v H1 _ s1 S1 r1 p1 => by
    cases (show k = v from r1)
    exact p1.here S1 rfl⟩
theorem sT_cmp {k : Nat} (hr : Room k X.A) {op : Cop} (hm : setless b = true) (ha : PE X a (tE X W fa)) (hb : PE X b (tE X W fb)) :
    PT X (.Compare a [cpOf op] [b] pos) (tT X W fun env h => ((fa env h).bind fun x h => (fb env h).bind fun y h => Res.of ((cmpD h op x y).map .bl) h).bind fun x h => .of (truth h x) h) :=
  PT.weak (pt_cmpR (cmp_all hr op) ha hb (behind_plain hm _)) fun sg H Q ⟨O, env, h, eo, S, p⟩ => ⟨O, env, h, eo, S, by
    have p0 : Post X W sg O H (((fa env h).bind fun x h => (fb env h).bind fun y h => Res.of ((cmpD h op x y).map .bl) h).bind fun x h => .of (truth h x) h) RepB Q := p
    rw [Res.bind_assoc] at p0
    refine p0.bind fun x h1 O1 v H1 _ s1 S1 r1 p1 => ⟨O1, env, h1, eo.stp s1, S1, ?_⟩
    rw [Res.bind_assoc] at p1
    refine p1.bind fun y h2 O2 u H2 _ s2 S2 r2 p2 => ?_
    obtain ⟨d, e, q⟩ := p2.ofb
    simp only [Option.map_eq_some_iff] at e
    obtain ⟨t, e, rfl⟩ := e
    exact cmp_ok S2 (r1.stp s2) r2 e ⟨t, rfl, Post.here (show Post X W sg O2 H2 (.ok t h2) RepB Q from q) S2 rfl⟩⟩
theorem sW_and1 (ha : PT X a (tT X W ft)) : PW X (.BoolOp .And [a] pos) (tT X W ft) := pw_and1 ha
theorem sW_or1 (ha : PT X a (tT X W ft)) : PW X (.BoolOp .Or [a] pos) (tT X W ft) := pw_or1 ha
theorem sW_and {rest : List Expr} {fu : Nv → Hs → Res Bool} (ha : PT X a (tT X W ft)) (hb : PW X (.BoolOp .And (b :: rest) pos) (tT X W fu)) : PW X (.BoolOp .And (a :: b :: rest) pos) (tT X W fun env h => (ft env h).bind fun k h => if k then fu env h else .ok false h) :=
  PW.weak (pw_and ha hb) fun sg H Q ⟨O, env, h, eo, S, p⟩ => ⟨O, env, h, eo, S, p.bind fun k h1 O1 v H1 _ s1 S1 r1 p1 => by
    cases (show k = v from r1)
    cases k with
    | true => rw [if_pos rfl] at p1 ⊢; exact ⟨O1, env, h1, eo.stp s1, S1, p1⟩
    | false => rw [if_neg (by decide)] at p1 ⊢; exact p1.here S1 rfl⟩
theorem sW_or {rest : List Expr} {fu : Nv → Hs → Res Bool} (ha : PT X a (tT X W ft)) (hb : PW X (.BoolOp .Or (b :: rest) pos) (tT X W fu)) : PW X (.BoolOp .Or (a :: b :: rest) pos) (tT X W fun env h => (ft env h).bind fun k h => if k then .ok true h else fu env h) :=
  PW.weak (pw_or ha hb) fun sg H Q ⟨O, env, h, eo, S, p⟩ => ⟨O, env, h, eo, S, p.bind fun k h1 O1 v H1 _ s1 S1 r1 p1 => by
    cases (show k = v from r1)
    cases k with
    | false => rw [if_neg (by decide)] at p1 ⊢; exact ⟨O1, env, h1, eo.stp s1, S1, p1⟩
    | true => rw [if_pos rfl] at p1 ⊢; exact p1.here S1 rfl⟩
/-- a < b < c -/
theorem sE_chain {k : Nat} (hr : Room k X.A) {op op' : Cop} (ha : PE X a (tE X W fa)) (hb : PE X b (tE X W fb)) (hc : PE X c (tE X W fc)) (hbm : setless b = true) (hcm : setless c = true) :
    PE X (.Compare a [cpOf op, cpOf op'] [b, c] pos) (tE X W fun env h => (fa env h).bind fun x h => (fb env h).bind fun y h => (Res.of (cmpD h op x y) h).bind fun k h => if k then (fc env h).bind fun z h => .of ((cmpD h op' y z).map .bl) h else .ok (.bl false) h) :=
  PE.weak (pe_chain (cmp_all hr op) (cmp_all hr op') ha hb hc (behind_plain hcm _)) fun sg H Q ⟨O, env, h, eo, S, p⟩ => ⟨O, env, h, eo, S, p.bind fun x h1 O1 v H1 _ s1 S1 r1 p1 => ⟨O1, env, h1, eo.stp s1, S1, p1.bind fun y h2 O2 u H2 _ s2 S2 r2 p2 => by
    obtain ⟨t, e, q⟩ := p2.ofb
    refine cmp_ok S2 (r1.stp s2) r2 e ⟨t, rfl, ?_⟩
    cases t with
    | true =>
      rw [if_pos rfl] at q ⊢
      refine ⟨O2, env, h2, (eo.stp s1).stp s2, S2, q.bind fun z h3 O3 w H3 _ s3 S3 r3 p3 => ?_⟩
      obtain ⟨d, e3, q3⟩ := p3.of S3
      simp only [Option.map_eq_some_iff] at e3
      obtain ⟨t3, e3, rfl⟩ := e3
      exact cmp_ok S3 (r2.stp s3) r3 e3 (q3 _ (.bl t3))
    | false => rw [if_neg (by decide)] at q ⊢; exact q.here S2 (.bl false)⟩⟩
end
end SI
end
section
set_option Elab.async false
set_option linter.all false
set_option maxRecDepth 100000
set_option maxHeartbeats 4000000
/-! SI9: calls, fields, methods. -/
namespace SI
open PySem PySem.Spec PyProof.Rows L2

/-- what a body's walk may lean on -/
structure XOk (X : Cx) (W : WX) (G : Wr) (k : Nat) (T : Tab) : Prop where
  room : Room k X.A
  grd : X.A.guards = some []
  tk : Takes X W
  wf : Wf X G k T
  nd : X.N.Nodup
  calm : X.calm = true
section
variable {X : Cx} {W : WX} {G : Wr} {k : Nat} {T : Tab} {a b c e o i : Expr} {es : List Expr} {p pos apos : Pos} {fa fb fc : Nv → Hs → Res D} {fs : Nv → Hs → Res (List D)} {ft : Nv → Hs → Res Bool} {x m : Str}
theorem Post.ne {α β : Type} {sg : L2.St} {O : Om} {H : Hp} {r : Res α} {rep : Om → α → β → Prop} {Q : β → Hp → Prop} (p : Post X W sg O H r rep Q) : r ≠ .no := fun e => by rw [e] at p; exact p
theorem Post.sp {sg : L2.St} {O : Om} {H : Hp} {g : List D → Hs → Res D} {ds : List D} {vs : List V} {h : Hs} {n : Nat} {Q : VK} (p : Post X W sg O H (g ds h) (RepX X) Q) (hn : vs.length = n) (r : RepLX X O ds vs) (S : SR X.K X.mg O h H) :
    spF X.K X.mg n g vs H Q fun c d H' => W c d sg H' := by
  refine ⟨hn, O, ds, h, r, S, ?_⟩
  unfold Post at p
  split <;> rename_i e <;> rw [e] at p <;> exact p
/-- f(..) -/
theorem sE_call (c : XOk X W G k T) (hx : x ∈ T.fns) (hg : Gl X x) (hdb : (x == ("__debug__" : Str)) = false) (hs : es.all starless = true) (ha : PA X es (tA X W fs)) (h0 : es = [] → fs = fun _ h => .ok [] h) :
    PE X (.Call (.Name x p) es [] pos) (tE X W fun env h => (fs env h).bind fun ds h => G.call x ds h) := ⟨fun pn s sg H Q I ⟨O, env, h, eo, S, w⟩ => by
  obtain ⟨f, hm, hk⟩ := c.wf.glo x hx
  refine wpAny_Call_Name_kw (ld_glob I hg hm ?_ hdb)
  refine with_args (first := []) (R := fun vs H1 => ∃ O1 ds h1, RepLX X O1 ds vs ∧ SR X.K X.mg O1 h1 H1 ∧ Post X W sg O1 H1 (G.call x ds h1) (RepX X) Q) hk ha hs I
    ⟨O, env, h, eo, S, w.bind fun ds h1 O1 vs H1 _ s1 S1 r1 p1 => ⟨O1, ds, h1, r1, S1, p1⟩⟩ (fun e0 => ?_) fun us vs H1 s1 I1 r1 ⟨O1, ds, h1, rl, S1, p1⟩ => ?_
  · rw [h0 e0] at w
    exact ⟨O, [], h, .nil, S, w⟩
  · obtain ⟨f', fd, ps, hm', hb, hl, F⟩ := c.wf.call x ds h1 p1.ne
    rw [hm] at hm'
    cases hm'
    exact run_g F c.room c.grd hb c.tk I1 r1 (p1.sp (by rw [hl]; exact rl.length.symm) rl S1)⟩
theorem SR.newI {O : Om} {h : Hs} {H : Hp} (S : SR X.K X.mg O h H) {x dx cl : Addr} {C : Str} (hx : H x = none) (hdx : H dx = none) (ne : dx ≠ x) (hm : X.mg C = some (.ref cl)) :
    Stp O H (O.more x) (upd (upd H dx (.own x)) x (.ins cl dx [])) ∧ SR X.K X.mg (O.more x) (h ++ [.ins C []]) (upd (upd H dx (.own x)) x (.ins cl dx [])) :=
  S.newC hx (fun a ob e => by
    rw [upd_ne (ne_of_none e hx), upd_ne (ne_of_none e hdx)]; exact e) ⟨_, upd_same⟩ ⟨cl, dx, [], hm, upd_same, .nil⟩
theorem zip_rev {α β : Type} : ∀ {xs : List α} {ys : List β}, xs.length = ys.length → (xs.zip ys).reverse = xs.reverse.zip ys.reverse
  | [], [], _ => rfl
  | x :: xs, y :: ys, h => by
    have h : xs.length = ys.length := by simpa using h
    rw [List.zip_cons_cons, List.reverse_cons, List.reverse_cons, List.reverse_cons, List.zip_append (by simp [h]), zip_rev h]
    rfl
  | [], _ :: _, h => by simp at h
  | _ :: _, [], h => by simp at h
/-- an own exception, made -/
theorem exv_ok {pn : List (Addr × Obj)} {sg : L2.St} {O1 : Om} {H1 : Hp} {h1 : Hs} {cl : Addr} {C : Str} {fl : List Str} {ds : List D} {vs : List V} {us : List Value} {s1 : Shared} {Q : VK} (c : XOk X W G k T) (hm : X.mg C = some (.ref cl)) (hl : fl.length = ds.length) (hz : ds.length ≤ 1000)
    (alt : (fl = [] ∧ PySem.W.excIn X.K cl He.veBase "ValueError.__new__" = true) ∨
      (fl ≠ [] ∧ ∃ f fd ps, OexC X.K cl ∧ (∀ f ∈ fl, PySem.W.findIn X.K (.ref cl) f = some none) ∧ PySem.W.findIn X.K (.ref cl) "__init__" = some (some (.ref f)) ∧ PySem.W.typeIn X.K (.ref f) = some (.type "function") ∧ Binds X.K fd ps [] ∧ 2 ≤ k ∧ FnG X.prog X.w X.K X.mg X.base 1 f fd ps (spE X.K fl)))
    (I1 : Inv X pn sg H1 s1) (r1 : Vals vs us) (rl : RepLX X O1 ds vs) (S1 : SR X.K X.mg O1 h1 H1) (p1 : Post X W sg O1 H1 (.ok (.exv C fl.reverse ds.reverse) h1) (RepX X) Q) :
    wpAny (model X.prog X.w) X.A (PySem.call (.ref cl) us) (EP X pn sg Q) X.xe s1 := by
  rcases alt with ⟨rfl, q⟩ | ⟨hne, f, fd, ps, T', hno, iC, tI, hb, hk, F⟩
  · have hd : ds = [] := List.length_eq_zero_iff.mp hl.symm
    subst hd
    cases rl
    cases r1
    exact run_g0 q I1 fun y hy => p1.new S1 hy _ (.exz hm (by show upd O1.F y _ y = _; rw [upd_same]))
  · have hv : vs.length = ds.length := rl.length.symm
    refine run_gx T' iC tI F (c.room.mono hk) c.grd hb c.tk I1 r1 (by omega) fun y hy => ⟨by rw [List.length_cons]; omega, y, cl, vs, rfl, T', hno, upd_same, fun dx hdx ne => ⟨rfl, ?_⟩⟩
    rw [upd_ne ne] at hdx
    have eu : upd (upd (upd H1 y (exo y cl none)) dx (exd dx (fl.reverse.zip vs.reverse))) y (exo y cl (some dx)) = upd (upd H1 dx (exd dx (fl.reverse.zip vs.reverse))) y (exo y cl (some dx)) := by
      funext b
      by_cases hb1 : b = y
      · rw [hb1, upd_same, upd_same]
      · rw [upd_ne hb1, upd_ne hb1]
        by_cases hb2 : b = dx
        · rw [hb2, upd_same, upd_same]
        · rw [upd_ne hb2, upd_ne hb2, upd_ne hb1]
    rw [eu]
    obtain ⟨s2, S2⟩ := S1.newF hdx (exd dx (fl.reverse.zip vs.reverse))
    have hy2 : upd H1 dx (exd dx (fl.reverse.zip vs.reverse)) y = none := by rw [upd_ne (Ne.symm ne)]; exact hy
    obtain ⟨s3, S3⟩ := S2.newF hy2 (exo y cl (some dx))
    refine p1 _ _ _ (s2.trans s3) S3 (.exv hm (by show upd _ y _ y = _; rw [upd_same]) (by show upd _ y _ dx = _; rw [upd_ne ne]; show upd _ dx _ dx = _; rw [upd_same]) ((rl.rev.stp s2).stp s3) (by rw [List.length_reverse, List.length_reverse]; exact hl))
/-- C(..) -/
theorem sE_make (c : XOk X W G k T) (hx : x ∈ T.cls) (hg : Gl X x) (hdb : (x == ("__debug__" : Str)) = false) (hs : es.all starless = true) (ha : PA X es (tA X W fs)) (h0 : es = [] → fs = fun _ h => .ok [] h) :
    PE X (.Call (.Name x p) es [] pos) (tE X W fun env h => (fs env h).bind fun ds h => G.make x ds h) := ⟨fun pn s sg H Q I ⟨O, env, h, eo, S, w⟩ => by
  obtain ⟨cl, hm, hk, _⟩ := c.wf.clg x hx
  refine wpAny_Call_Name_kw (ld_glob I hg hm ?_ hdb)
  refine with_args (first := []) (R := fun vs H1 => ∃ O1 ds h1, RepLX X O1 ds vs ∧ SR X.K X.mg O1 h1 H1 ∧ Post X W sg O1 H1 (G.make x ds h1) (RepX X) Q) hk ha hs I
    ⟨O, env, h, eo, S, w.bind fun ds h1 O1 vs H1 _ s1 S1 r1 p1 => ⟨O1, ds, h1, r1, S1, p1⟩⟩ (fun e0 => ?_) fun us vs H1 s1 I1 r1 ⟨O1, ds, h1, rl, S1, p1⟩ => ?_
  · rw [h0 e0] at w
    exact ⟨O, [], h, .nil, S, w⟩
  · rcases c.wf.make x ds h1 p1.ne with ⟨c', f, fd, ps, j, g, hm', M, hb, hl, hj, F, eg⟩ | ⟨c', fl, hm', hl, hz, eg, alt⟩
    rotate_left
    · rw [hm] at hm'
      cases hm'
      rw [eg] at p1
      exact exv_ok c hm hl hz alt I1 r1 rl S1 p1
    rw [hm] at hm'
    cases hm'
    rw [eg] at p1
    refine run_gm M F (c.room.mono hj) c.grd hb c.tk I1 r1 fun y dx hy hdx ne => ?_
    obtain ⟨s2, S2⟩ := S1.newI hy hdx ne hm
    have rp : RepX X (O1.more y) (.ptr h1.length) (.ref y) := by
      have z : RepX X (O1.more y) (.ptr O1.n) (.ref ((O1.more y).φ O1.n)) := .ptr (Nat.lt_succ_self _)
      rw [Om.more_new] at z
      rw [S1.len]; exact z
    have p2 := Post.weak p1 s2
    refine Post.sp (g := g) (p2.bind (rep := RepX X) (Q' := fun v H2 => v = .non ∧ Q (.ref y) H2) fun d h3 O3 v H3 _ s3 S3 r3 p3 => ?_) (by rw [hl, List.length_cons, rl.length]) (.cons rp rl.more) S2
    cases d with
    | non => exact ⟨r3.non_inv, p3.here S3 (rp.stp s3)⟩
    | _ => exact (show False from p3).elim⟩
theorem Meth.uniq {K : PySem.W.Frag} {C : Addr} {m : Str} {f g : Addr} (a : Meth K C m f) (b : Meth K C m g) : f = g := by
  have z := a.at_.symm.trans b.at_
  simpa using z
theorem Meth.mem {ds : List D} {h : Hs} {f cl : Addr} {C : Str} (wf : Wf X G k T) (hm : X.mg C = some (.ref cl)) (M : Meth X.K cl m f) (ne : G.meth C m ds h ≠ .no) :
    ∃ fd ps, Binds X.K fd ps [] ∧ ps.length = ds.length ∧ FnG X.prog X.w X.K X.mg X.base k f fd ps (spF X.K X.mg ps.length (G.meth C m)) := by
  obtain ⟨c', f', fd, ps, hm', M', hb, hl, F⟩ := wf.meth C m ds h ne
  rw [hm] at hm'
  cases hm'
  obtain rfl : f = f' := Meth.uniq M M'
  exact ⟨fd, ps, hb, hl, F⟩
theorem RepP.lookN {O : Om} {f : Str} : ∀ {ds : List (Str × D)} {ws : List (Str × V)}, RepP X.K X.mg O ds ws → (ds.lookup f).isNone = true → ws.lookup f = none
  | _, _, .nil, _ => rfl
  | _, _, .cons (k := k) r t, e => by
    simp only [List.lookup_cons] at e ⊢
    split at e
    · cases e
    · exact RepP.lookN t e
/-- o.m(..) -/
theorem sE_meth (c : XOk X W G k T) (hl : es.length < 30) (ho : superless o = true) (hp : (apos.endLine == pos.line) = true) (hs : es.all starless = true) (he : PE X o (tE X W fa)) (ha : PA X es (tA X W fs)) (h0 : es = [] → fs = fun _ h => .ok [] h) :
    PE X (.Call (.Attribute o m apos) es [] pos) (tE X W fun env h => (fa env h).bind fun d h => match clsOf G h d m with
      | some C => (fs env h).bind fun ds h => G.meth C m (d :: ds) h
      | none => .no) := ⟨fun pn s sg H Q I ⟨O, env, h, eo, S, w⟩ => by
  obtain ⟨pl, ht⟩ := meth_eq (m := m) (env := X.env) hs hl ho hp
  refine PySem.W.methodCall_KW (pl := pl) (thn (he.run pn s sg H (fun v H1 => ∃ O1 d h1, RepX X O1 d v ∧ SR X.K X.mg O1 h1 H1 ∧ NvOk X.K X.mg O1 env sg ∧ Post X W sg O1 H1 (match clsOf G h1 d m with
      | some C => (fs env h1).bind fun ds h => G.meth C m (d :: ds) h
      | none => .no) (RepX X) Q) I ⟨O, env, h, eo, S, w.bind fun d h1 O1 v H1 _ s1 S1 r1 p1 => ⟨O1, d, h1, r1, S1, eo.stp s1, p1⟩⟩) fun u s1 ⟨v, H1, I1, rx, O1, d, h1, r1, S1, eo1, p1⟩ => ?_) ht
  cases hc : clsOf G h1 d m with
  | none => rw [hc] at p1; exact (show False from p1).elim
  | some C =>
    rw [hc] at p1
    cases d with
    | ptr n =>
      simp only [clsOf] at hc
      split at hc
      · rename_i C' fl hn
        split at hc
        · rename_i hg
          cases hc
          simp only [Bool.and_eq_true] at hg
          obtain ⟨cl, f, hm, M⟩ := c.wf.mth C m hg.1.2
          obtain ⟨hlt, cl', dx, ws, hm', ha', rp⟩ := S1.at hn
          rw [hm] at hm'
          cases hm'
          have q := (c.wf.cls C hg.1.1 cl hm).1
          cases r1
          obtain rfl : u = Value.ref _ := rx
          have lk : ws.lookup m = none := RepP.lookN rp hg.2
          refine getmeth_ok I1 ha' q.cl M lk ?_
          refine with_args (first := [.ref (O1.φ n)]) (R := fun vs H2 => ∃ O2 ds h2, RepLX X O2 (.ptr n :: ds) (.ref (O1.φ n) :: vs) ∧ SR X.K X.mg O2 h2 H2 ∧ Post X W sg O2 H2 (G.meth C m (.ptr n :: ds) h2) (RepX X) Q) M.kp ha hs I1
            ⟨O1, env, h1, eo1, S1, p1.bind fun ds h2 O2 vs H2 _ s2 S2 r2 p2 => ⟨O2, ds, h2, .cons ((Rep.ptr hlt).stp s2) r2, S2, p2⟩⟩ (fun e0 => ?_) fun us vs H2 s2 I2 r2 ⟨O2, ds, h2, rl, S2, p2⟩ => ?_
          · rw [h0 e0] at p1
            exact ⟨O1, [], h1, .cons (.ptr hlt) .nil, S1, p1⟩
          · obtain ⟨fd, ps, hb, hl', F⟩ := Meth.mem c.wf hm M p2.ne
            exact run_g F c.room c.grd hb c.tk I2 (.cons (show RelV (.ref _) (.ref _) from rfl) r2) (p2.sp (by rw [hl']; exact rl.length.symm) rl S2)
        · cases hc
      · cases hc
    | _ => cases hc⟩
/-- C.m(self, ..) -/
theorem sE_cmeth {C : Str} (c : XOk X W G k T) (hx : (C, m) ∈ T.cms) (hg : Gl X C) (hdb : (C == ("__debug__" : Str)) = false) (hl : es.length < 30) (hp : (apos.endLine == pos.line) = true) (hs : es.all starless = true) (ha : PA X es (tA X W fs)) (h0 : es = [] → fs = fun _ h => .ok [] h) :
    PE X (.Call (.Attribute (.Name C p) m apos) es [] pos) (tE X W fun env h => (fs env h).bind fun ds h => G.meth C m ds h) := ⟨fun pn s sg H Q I ⟨O, env, h, eo, S, w⟩ => by
  obtain ⟨cl, f, hm, hk, M, h1, h2, h3⟩ := c.wf.cms _ hx
  obtain ⟨pl, ht⟩ := meth_eq (o := .Name C p) (m := m) (env := X.env) hs hl rfl hp
  refine PySem.W.methodCall_KW (pl := pl) (ld_glob I hg hm ?_ hdb) ht
  refine PySem.W.method_cls I.kIn h2 (PySem.W.cls_value I.kIn h1 h3 rfl ?_)
  have I0 := I.tok (s.toks + 1)
  refine with_args (first := []) (R := fun vs H1 => ∃ O1 ds h1, RepLX X O1 ds vs ∧ SR X.K X.mg O1 h1 H1 ∧ Post X W sg O1 H1 (G.meth C m ds h1) (RepX X) Q) hk ha hs I0
    ⟨O, env, h, eo, S, w.bind fun ds h1 O1 vs H1 _ s1 S1 r1 p1 => ⟨O1, ds, h1, r1, S1, p1⟩⟩ (fun e0 => ?_) fun us vs H1 s1 I1 r1 ⟨O1, ds, h1, rl, S1, p1⟩ => ?_
  · rw [h0 e0] at w
    exact ⟨O, [], h, .nil, S, w⟩
  · obtain ⟨fd, ps, hb, hl', F⟩ := Meth.mem c.wf hm M p1.ne
    exact run_g F c.room c.grd hb c.tk I1 r1 (p1.sp (by rw [hl']; exact rl.length.symm) rl S1)⟩
theorem RepP.look {O : Om} {f : Str} {d : D} : ∀ {ds : List (Str × D)} {ws : List (Str × V)}, RepP X.K X.mg O ds ws → ds.lookup f = some d → ∃ v, ws.lookup f = some v ∧ RepX X O d v
  | _, _, .nil, e => by cases e
  | _, _, .cons (k := k) r t, e => by
    simp only [List.lookup_cons] at e ⊢
    split at e
    · rename_i he
      cases e
      exact ⟨_, rfl, r⟩
    · exact RepP.look t e
theorem zip_look {O : Om} {f : Str} {d : D} : ∀ {ns : List Str} {ds : List D} {vs : List V}, RepLX X O ds vs → (ns.zip ds).lookup f = some d → ∃ v, (ns.zip vs).lookup f = some v ∧ RepX X O d v
  | [], _, _, _, e => by cases e
  | _ :: _, _, _, .nil, e => by cases e
  | n :: ns, _, _, .cons r t, e => by
    simp only [List.zip_cons_cons, List.lookup_cons] at e ⊢
    split at e
    · cases e
      exact ⟨_, rfl, r⟩
    · exact zip_look t e
/-- o.f -/
theorem sE_fld {f : Str} (c : XOk X W G k T) (hf : f ∈ T.attrs) (ho : superless o = true) (he : PE X o (tE X W fa)) : PE X (.Attribute o f pos) (tE X W fun env h => (fa env h).bind fun d h => .of (fldD G h d f) h) := ⟨fun pn s sg H Q I ⟨O, env, h, eo, S, w⟩ => by
  refine attr_of (base_plain ho f X.env _) (thn (he.run pn s sg H (fun v H1 => ∃ O1 d h1, RepX X O1 d v ∧ SR X.K X.mg O1 h1 H1 ∧ Post X W sg O1 H1 (.of (fldD G h1 d f) h1) (RepX X) Q) I ⟨O, env, h, eo, S, w.bind fun d h1 O1 v H1 _ s1 S1 r1 p1 => ⟨O1, d, h1, r1, S1, p1⟩⟩) fun u s1 ⟨v, H1, I1, rx, O1, d, h1, r1, S1, p1⟩ => ?_)
  obtain ⟨z, e, q⟩ := p1.of S1
  cases d with
  | ptr n =>
    simp only [fldD] at e
    split at e
    · rename_i C' fl hn
      split at e
      · rename_i hg
        obtain ⟨hlt, cl, dx, ws, hm, ha, rp⟩ := S1.at hn
        obtain ⟨w1, l, r⟩ := RepP.look rp e
        have k := c.wf.cls C' hg cl hm
        cases r1
        obtain rfl : u = Value.ref _ := rx
        exact getattr_ok I1 ha k.1.cl (k.2.1 f hf) l fun u' s2 I2 ru => ⟨w1, H1, I2, ru, q w1 r⟩
      · cases e
    · cases e
  | exv C ns ds =>
    simp only [fldD] at e
    split at e
    · rename_i hg
      cases r1 with
      | exz hm hF => cases e
      | @exv p dx cl _ _ _ vs hm h2 h3 rl hl =>
        obtain ⟨w1, l, r⟩ := zip_look rl e
        have k := c.wf.exc C hg cl hm
        obtain rfl : u = Value.ref _ := rx
        exact get_x k.1 (k.2.2.1 f hf) I1 (S1.sub _ _ h2) (S1.sub _ _ h3) l fun u' s2 I2 ru => ⟨w1, H1, I2, ru, q w1 r⟩
    · cases e
  | _ => cases e⟩
/-! ### index -/
def rIxD : R2 := fun x y H Q => ∃ a v, x = .ref a ∧ DGet H a y (some v) ∧ Q v H
theorem ix_dict (hu : X.A.units + 1 < cLine) : IxR X rIxD := by
  intro value slice pn s sg H x y v u Q I rx ry ⟨a, w, ex, g, q⟩ hs
  subst ex
  obtain rfl : v = Value.ref a := rx
  exact tail_any (dict_typeIs I g) PySem.F.slot_dict_getitem.lookup (d_getItem hu I g ry fun w' s' I' r' => ⟨w, H, I', r', q⟩) hs
theorem atI_ok {O : Om} {xs : List D} {vs : List V} (r : RepLX X O xs vs) {i : Int} {d : D} (e : atI xs i = some d) : ∃ v, atI vs i = some v ∧ RepX X O d v := by
  unfold atI at e ⊢
  rw [← r.length]
  cases q : ixN xs.length i with
  | none => rw [q] at e; cases e
  | some j => rw [q] at e; exact r.get e
theorem sE_ix (c : XOk X W G k T) (hi : sliceless b = true) (ha : PE X a (tE X W fa)) (hb : PE X b (tE X W fb)) : PE X (.Subscript a b pos) (tE X W fun env h => (fa env h).bind fun x h => (fb env h).bind fun y h => .of (ixD h x y) h) :=
  PE.weak (pe_ix (((ix_list.or ix_tup).or (ix_dict (by have := c.room.units; omega))).or ix_str) ha hb (plain_ix hi)) fun sg H Q ⟨O, env, h, eo, S, w⟩ => ⟨O, env, h, eo, S, w.bind fun x h1 O1 v H1 _ s1 S1 r1 p1 => ⟨O1, env, h1, eo.stp s1, S1, p1.bind fun y h2 O2 u H2 _ s2 S2 r2 p2 => by
    obtain ⟨z, e, q⟩ := p2.of S2
    have r1' := r1.stp s2
    have go : ∀ l xs, un h2 x = some (l, xs) → idx y xs = some z → (rIxL X.K v u H2 Q ∨ rIxT X.K v u H2 Q) := fun l xs hu hz => by
      obtain ⟨p, vs, rfl, hq, rl, _⟩ := un_ok S2 r1' hu
      cases y with
      | int j =>
        cases r2.int_inv
        obtain ⟨w', hw, rw'⟩ := atI_ok rl hz
        cases l with
        | true => exact .inl ⟨p, vs, j, w', rfl, rfl, hq, hw, q w' rw'⟩
        | false => exact .inr ⟨p, vs, j, w', rfl, rfl, hq, hw, q w' rw'⟩
      | _ => cases hz
    unfold ixD at e
    split at e
    · rename_i n
      split at e
      · rename_i xs hn
        exact .inl (.inl (go true xs (by simp only [un, hn]) e))
      · rename_i _ cell _ hn
        cases hg : dget cell y with
        | none => rw [hg] at e; cases e
        | some o =>
          rw [hg] at e
          obtain rfl : o = some z := e
          obtain ⟨o', g, r⟩ := dget_ok S2 hn r2 hg
          rcases r with ⟨e1, _⟩ | ⟨d, w', e1, e2, r⟩
          · cases e1
          · cases e1
            subst e2
            cases r1'
            exact .inl (.inr ⟨_, w', rfl, g, q w' r⟩)
      · cases e
    · rename_i a _
      cases y with
      | int j =>
        change (if _ then _ else _) = _ at e
        split at e
        · rename_i hl
          cases hc : atI a.cps.toList j with
          | none => rw [hc] at e; cases e
          | some c =>
            rw [hc] at e
            cases e
            exact .inr ⟨a, j, c, r1'.str_inv, r2.int_inv, hl, hc, q _ (.str _)⟩
        · cases e
      | _ => cases e
    · split at e
      · rename_i l xs hv
        exact .inl (.inl (go l xs (valSeq_un hv) e))
      · cases e⟩⟩
/-! ### slices -/
abbrev tO (X : Cx) (W : WX) (f : Nv → Hs → Res (Option Int)) : TO := fun sg H Q => ∃ (O : Om) (env : Nv) (h : Hs), NvOk X.K X.mg O env sg ∧ SR X.K X.mg O h H ∧ Post X W sg O H (f env h) (fun _ (a b : Option Int) => a = b) Q
theorem PO.weak {e : Option Expr} {t t' : TO} (p : PO X e t) (k : ∀ sg H Q, t' sg H Q → t sg H Q) : PO X e t' := ⟨fun pn s sg H Q I w => p.run pn s sg H Q I (k sg H Q w)⟩
theorem sO_none : PO X none (tO X W fun _ h => .ok none h) := PO.weak po_none fun sg H Q ⟨O, env, h, eo, S, w⟩ => w.here S rfl
theorem sO_some (ha : PE X a (tE X W fa)) : PO X (some a) (tO X W fun env h => (fa env h).bind fun d h => match d with
    | .int i => .ok (some i) h
    | _ => .no) := PO.weak (po_some ha) fun sg H Q ⟨O, env, h, eo, S, w⟩ => ⟨O, env, h, eo, S, w.bind fun d h1 O1 v H1 _ s1 S1 r1 p1 => by
  cases d with
  | int i => exact ⟨i, r1.int_inv, p1.here S1 rfl⟩
  | _ => exact (show False from p1).elim⟩
theorem cut_ok {O : Om} {xs : List D} {vs : List V} (r : RepLX X O xs vs) (lo hi : Option Int) : RepLX X O (cutD xs lo hi) (cutV vs lo hi) := by
  unfold cutD cutV
  rw [← r.length]
  exact (r.drop _).take _
theorem sE_sl {lo hi : Option Expr} {fl fh : Nv → Hs → Res (Option Int)} {p2 : Pos} (ha : PE X a (tE X W fa)) (hl : PO X lo (tO X W fl)) (hh : PO X hi (tO X W fh)) :
    PE X (.Subscript a (.Slice lo hi none p2) pos) (tE X W fun env h => (fa env h).bind fun x h => (fl env h).bind fun l h => (fh env h).bind fun u h => .of (slD h x l u) h) :=
  PE.weak (pe_slice (sl_list.or sl_tupA) ha hl hh) fun sg H Q ⟨O, env, h, eo, S, w⟩ => ⟨O, env, h, eo, S, w.bind fun x h1 O1 v H1 _ s1 S1 r1 p1 => ⟨O1, env, h1, eo.stp s1, S1, p1.bind fun l h2 O2 l' H2 _ s2 S2 r2 p2 => ⟨O2, env, h2, (eo.stp s1).stp s2, S2, p2.bind fun u h3 O3 u' H3 _ s3 S3 r3 p3 => by
    cases (show l = l' from r2)
    cases (show u = u' from r3)
    obtain ⟨z, e, q⟩ := p3.of S3
    have r1' := (r1.stp s2).stp s3
    have p3 : Post X W sg O3 H3 (.ok z h3) (RepX X) Q := by
      have t : Post X W sg O3 H3 (Res.of (slD h3 x l u) h3) (RepX X) Q := p3
      rw [e] at t; exact t
    have lst : ∀ xs, un h3 x = some (true, xs) → z = .lst (cutD xs l u) → rSlL X.K v l u H3 Q := fun xs hu hz => by
      subst hz
      obtain ⟨p, vs, rfl, hq, rl, zl⟩ := un_ok S3 r1' hu
      have zc : (cutV vs l u).length ≤ sizeLine := Nat.le_trans (cutV_length vs l u) zl
      exact ⟨p, vs, rfl, hq, fun t ht => p3.new S3 ht _ (frz_lst S3 ht zc (cut_ok rl l u))⟩
    unfold slD at e
    split at e
    · rename_i xs _
      cases e
      obtain ⟨p, vs, rfl, hq, rl, zl⟩ := un_ok (l := false) S3 r1' rfl
      have zc : (cutV vs l u).length ≤ sizeLine := Nat.le_trans (cutV_length vs l u) zl
      refine .inr ⟨p, vs, rfl, hq, fun hw => ?_, fun _ t ht => p3.new S3 ht _ (frz_tup S3 ht zc (cut_ok rl l u))⟩
      have ec : cutD xs l u = xs := by
        unfold cutD
        rw [rl.length, hw.1, hw.2, Nat.sub_zero, List.drop_zero, ← rl.length, List.take_length]
      refine q _ ?_
      rw [ec]; exact r1'
    · split at e
      · rename_i xs hu
        exact .inl (lst xs hu (by simpa using e.symm))
      · cases e⟩⟩⟩
end
end SI
end
section
set_option Elab.async false
set_option linter.all false
set_option maxRecDepth 100000
set_option maxHeartbeats 4000000
/-! SI10: built-ins. -/
namespace SI
open PySem PySem.Spec PyProof.Rows L2

section
variable {X : Cx} {W : WX} {G : Wr} {k : Nat} {T : Tab} {a b e o i : Expr} {es : List Expr} {p pos apos : Pos} {fa fb fc : Nv → Hs → Res D} {fs : Nv → Hs → Res (List D)} {ft : Nv → Hs → Res Bool} {x m : Str}
theorem CallR.weak {f : Value} {r r' : List V → Hp → VK → Prop} (c : CallR X f r) (k : ∀ xs H Q, r' xs H Q → r xs H Q) : CallR X f r' := fun pn s sg H xs us Q I v h => c pn s sg H xs us Q I v (k xs H Q h)
/-- what a built-in's call asks -/
def biR (X : Cx) (W : WX) (f : Bi) : List V → Hp → VK → Prop := fun vs H Q => ∃ (sg : L2.St) (O : Om) (h : Hs) (d : D) (v : V), vs = [v] ∧ SR X.K X.mg O h H ∧ RepX X O d v ∧ Post X W sg O H (Res.of (biD f h d) h) (RepX X) Q
theorem un_list {O : Om} {h : Hs} {H : Hp} (S : SR X.K X.mg O h H) {d : D} {v : V} (r : RepX X O d v) {xs : List D} (e : un h d = some (true, xs)) : ∃ (p : Addr) (vs : List V), v = .ref p ∧ SqL X.K H p vs ∧ RepLX X O xs vs ∧ vs.length ≤ sizeLine := by
  obtain ⟨p, vs, h1, h2, h3, h4⟩ := un_ok S r e
  exact ⟨p, vs, h1, h2, h3, h4⟩
theorem bools_ok {O : Om} : ∀ {ds : List D} {bs : List Bool} {vs : List V}, boolsOf ds = some bs → RepLX X O ds vs → vs = bs.map V.bl
  | [], _, _, e, .nil => by cases e; rfl
  | .bl b :: ds, _, _, e, .cons r t => by
    simp only [boolsOf, Option.map_eq_some_iff] at e
    obtain ⟨bs, e, rfl⟩ := e
    rw [r.bl_inv, bools_ok e t]; rfl
  | .non :: _, _, _, e, _ => by cases e
  | .int _ :: _, _, _, e, _ => by cases e
  | .str _ :: _, _, _, e, _ => by cases e
  | .tup _ :: _, _, _, e, _ => by cases e
  | .lst _ :: _, _, _, e, _ => by cases e
  | .ks _ _ :: _, _, _, e, _ => by cases e
  | .ptr _ :: _, _, _, e, _ => by cases e
  | .glo _ :: _, _, _, e, _ => by cases e
theorem call_lenK : CallR X (.builtin "len") (fun xs H Q => ∃ a kvs, xs = [V.ref a] ∧ H a = some (.dK kvs) ∧ Q (.int kvs.length) H) := fun pn s sg H xs us Q I r ⟨a, kvs, e1, ha, q⟩ => by
  subst e1
  obtain ⟨u, rfl, ru⟩ := vals1 r
  obtain rfl : u = Value.ref a := ru
  exact d_len I (Rd.of ha) fun t s' I' => ⟨.int kvs.length, H, I', ⟨t, rfl⟩, q⟩
theorem bi_len : CallR X (.builtin "len") (biR X W .len) := CallR.weak (CallR.or call_len call_lenK) fun xs H Q ⟨sg, O, h, d, v, e, S, r, w⟩ => by
  subst e
  obtain ⟨z, e, q⟩ := w.of S
  have e : lenD h d = some z := e
  have LE := LINE_eq
  have seq : ∀ l ys, un h d = some (l, ys) → z = .int ys.length → ∃ x n, [v] = [x] ∧ LenV X.K x H n ∧ Q (.int n) H := fun l ys hu hz => by
    obtain ⟨p, vs, rfl, hq, rl, _⟩ := un_ok S r hu
    refine ⟨.ref p, vs.length, rfl, ?_, by rw [← rl.length]; exact q _ (by rw [hz]; exact .int _)⟩
    cases l with
    | true => exact .inl ⟨vs, hq, rfl⟩
    | false => exact .inr ⟨vs, hq, rfl⟩
  unfold lenD at e
  split at e
  · rename_i y _
    split at e
    · rename_i hy
      cases e
      rw [r.str_inv]
      exact .inl ⟨.str y, y.length, rfl, ⟨by omega, rfl⟩, q _ (.int _)⟩
    · cases e
  · rename_i n
    split at e
    · rename_i ys hn
      cases e
      exact .inl (seq true ys (by simp only [un, hn]) rfl)
    · rename_i kvs hn
      cases e
      obtain ⟨ws, hw, rp⟩ := S.cell _ _ hn
      cases r
      exact .inr ⟨_, ws, rfl, hw, q _ (by rw [rp.len]; exact .int _)⟩
    · cases e
  · split at e
    · rename_i l ys hv
      cases e
      exact .inl (seq l ys (valSeq_un hv) rfl)
    · cases e
theorem bi_all (hc : X.calm = true) : CallR X (.builtin "all") (biR X W .all) := CallR.weak (cr_all hc) fun xs H Q ⟨sg, O, h, d, v, e, S, r, w⟩ => by
  obtain ⟨z, e2, q⟩ := w.of S
  have e2 : (match un h d with
    | some (true, xs) => (boolsOf xs).map fun bs => D.bl (bs.all id)
    | _ => none) = some z := e2
  split at e2
  · rename_i ys hu
    simp only [Option.map_eq_some_iff] at e2
    obtain ⟨bs, eb, rfl⟩ := e2
    obtain ⟨p, vs, rfl, hq, rl, _⟩ := un_list S r hu
    rw [bools_ok eb rl] at hq
    exact ⟨p, bs, e, hq, q _ (.bl _)⟩
  · cases e2
theorem bi_any (hc : X.calm = true) : CallR X (.builtin "any") (biR X W .any) := CallR.weak (cr_any hc) fun xs H Q ⟨sg, O, h, d, v, e, S, r, w⟩ => by
  obtain ⟨z, e2, q⟩ := w.of S
  have e2 : (match un h d with
    | some (true, xs) => (boolsOf xs).map fun bs => D.bl (bs.any id)
    | _ => none) = some z := e2
  split at e2
  · rename_i ys hu
    simp only [Option.map_eq_some_iff] at e2
    obtain ⟨bs, eb, rfl⟩ := e2
    obtain ⟨p, vs, rfl, hq, rl, _⟩ := un_list S r hu
    rw [bools_ok eb rl] at hq
    exact ⟨p, bs, e, hq, q _ (.bl _)⟩
  · cases e2
theorem Post.ofk {sg : L2.St} {O : Om} {H : Hp} {h : Hs} {o : Option D} {z : D} {Q : VK} (w : Post X W sg O H (Res.of o h) (RepX X) Q) (e : o = some z) : Post X W sg O H (.ok z h) (RepX X) Q := by
  rw [e] at w; exact w
theorem bi_list : CallR X (.type "list") (biR X W .list) := CallR.weak call_list_of fun xs H Q ⟨sg, O, h, d, v, e, S, r, w⟩ => by
  obtain ⟨z, e2, q⟩ := w.of S
  have w1 := w.ofk e2
  have e2 : (match un h d with
    | some (_, xs) => some (D.lst xs)
    | _ => none) = some z := e2
  split at e2
  · rename_i l ys hu
    cases e2
    obtain ⟨p, vs, rfl, hq, rl, zl⟩ := un_ok S r hu
    refine ⟨p, vs, e, ?_, fun t ht => w1.new S ht _ (frz_lst S ht zl rl)⟩
    cases l with
    | true => exact .inl hq
    | false => exact .inr hq
  · cases e2
theorem bi_tuple : CallR X (.type "tuple") (biR X W .tuple) := CallR.weak call_tuple_of fun xs H Q ⟨sg, O, h, d, v, e, S, r, w⟩ => by
  obtain ⟨z, e2, q⟩ := w.of S
  have w1 := w.ofk e2
  have e2 : tupD h d = some z := e2
  have same : ∀ ys, un h d = some (false, ys) → z = d → ∃ p ys, xs = [V.ref p] ∧ ((SqL X.K H p ys ∧ ∀ l, H l = none → Q (.ref l) (upd H l (.tup ys))) ∨ (SqT X.K H p ys ∧ Q (.ref p) H)) := fun ys hu hz => by
    obtain ⟨p, vs, rfl, hq, rl, zl⟩ := un_ok S r hu
    exact ⟨p, vs, e, .inr ⟨hq, q _ (by rw [hz]; exact r)⟩⟩
  unfold tupD at e2
  split at e2
  · cases e2; exact same _ rfl rfl
  · cases e2; exact same _ rfl rfl
  · split at e2
    · rename_i ys hu
      cases e2
      obtain ⟨p, vs, rfl, hq, rl, zl⟩ := un_list S r hu
      exact ⟨p, vs, e, .inl ⟨hq, fun t ht => w1.new S ht _ (frz_tup S ht zl rl)⟩⟩
    · cases e2
theorem bi_int : CallR X (.type "int") (biR X W .int) := CallR.weak (CallR.or call_int1 call_int_str) fun xs H Q ⟨sg, O, h, d, v, e, S, r, w⟩ => by
  obtain ⟨z, e2, q⟩ := w.of S
  cases d with
  | int j => cases e2; rw [r.int_inv] at e; exact .inl (.inl ⟨j, e, q _ (.int _)⟩)
  | bl j => cases e2; rw [r.bl_inv] at e; exact .inl (.inr ⟨j, e, q _ (.int _)⟩)
  | str a =>
    have e3 : (if a.length ≤ 640 then (PySem.intText? a).map D.int else none) = some z := e2
    split at e3
    · rename_i hl
      obtain ⟨n, hn, rfl⟩ := Option.map_eq_some_iff.mp e3
      rw [r.str_inv] at e
      exact .inr ⟨a, n, e, hn, hl, q _ (.int _)⟩
    · cases e3
  | _ => cases e2
theorem bi_bool : CallR X (.type "bool") (biR X W .bool) := CallR.weak call_bool1 fun xs H Q ⟨sg, O, h, d, v, e, S, r, w⟩ => by
  obtain ⟨z, e2, q⟩ := w.of S
  cases d with
  | int j => cases e2; rw [r.int_inv] at e; exact .inl ⟨j, e, q _ (.bl _)⟩
  | bl j => cases e2; rw [r.bl_inv] at e; exact .inr ⟨j, e, q _ (.bl _)⟩
  | _ => cases e2
theorem bi_abs : CallR X (.builtin "abs") (biR X W .abs) := CallR.weak call_abs fun xs H Q ⟨sg, O, h, d, v, e, S, r, w⟩ => by
  obtain ⟨z, e2, q⟩ := w.of S
  cases d with
  | int j => cases e2; rw [r.int_inv] at e; exact ⟨j, e, q _ (.int _)⟩
  | _ => cases e2
theorem ref_of {O : Om} {d : D} {v : V} (r : RepX X O d v) (h : isPtr d = true) : ∃ p, v = .ref p := by
  cases r <;> first | exact ⟨_, rfl⟩ | cases h
theorem bi_repr (hr : Room k X.A) (hg : X.A.guards = some []) : CallR X (.builtin "repr") (biR X W .repr) := fun pn s sg H xs us Q I rv ⟨sg', O, h, d, v, e, S, r, w⟩ => by
  obtain ⟨z, e2, q⟩ := w.of S
  have LE := LINE_eq
  have e2 : reprD h d = some z := e2
  unfold reprD at e2
  split at e2
  · rename_i y hd
    split at e2
    · rename_i hc
      cases e2
      simp only [Bool.and_eq_true, decide_eq_true_eq, Bool.not_eq_true'] at hc
      subst e
      obtain ⟨u, rfl, ru⟩ := vals1 rv
      obtain ⟨as, rd⟩ := Dp.reads I y v u (deep_ok S hd r) ru
      obtain ⟨p, rfl⟩ := ref_of r hc.1.1.1.1
      obtain rfl : u = Value.ref p := ru
      have un := hr.un
      exact repr_of_reads' rd hc.1.1.1.2 (fun z => by rw [hc.1.1.2] at z; cases z) hg (by omega) (fun b ob eb => eb) (fun h' u tk hk => ⟨.str _, H, I.kept (t' := tk) hk, ⟨_, rfl⟩, q _ (.str _)⟩) (by omega)
    · cases e2
  · cases e2
def nmBi : Bi → Str
  | .len => "len"
  | .all => "all"
  | .any => "any"
  | .tuple => "tuple"
  | .list => "list"
  | .int => "int"
  | .bool => "bool"
  | .repr => "repr"
  | .abs => "abs"
theorem sA_one (hs : starless e = true) (ha : PE X e (tE X W fa)) : PA X [e] (tA X W fun env h => (fa env h).bind fun d h => .ok [d] h) := sA_cons hs ha sA_nil
theorem sE_bi (c : XOk X W G k T) (f : Bi) (hg : Gl X (nmBi f)) (hm : X.mg (nmBi f) = none) (hs : starless e = true) (ha : PE X e (tE X W fa)) :
    PE X (.Call (.Name (nmBi f) p) [e] [] pos) (tE X W fun env h => (fa env h).bind fun d h => .of (biD f h d) h) := by
  have h1 := star_cons (env := X.env) hs []
  have go : ∀ sg H Q, tE X W (fun env h => (fa env h).bind fun d h => .of (biD f h d) h) sg H Q → tCB (biR X W f) (tA X W fun env h => (fa env h).bind fun d h => .ok [d] h) sg H Q := fun sg H Q ⟨O, env, h, eo, S, w⟩ =>
    ⟨O, env, h, eo, S, by
      have w : Post X W sg O H ((fa env h).bind fun d h => .of (biD f h d) h) (RepX X) Q := w
      show Post X W sg O H ((fa env h).bind fun d h => .ok [d] h) (RepLX X) _
      cases q : fa env h with
      | no => rw [q] at w; exact w
      | ex e' h' => rw [q] at w; exact w
      | ok d h1 =>
        rw [q] at w
        intro O1 vs H1 s1 S1 r1
        cases r1 with
        | cons r t => cases t; exact ⟨sg, O1, h1, d, _, rfl, S1, r, Post.weak w s1⟩⟩
  cases f with
  | len => exact PE.weak (pe_callB bi_len hg hm (by decide +kernel) (sA_one hs ha) (by decide) (by decide) h1 rfl) go
  | all => exact PE.weak (pe_callB (bi_all c.calm) hg hm (by decide +kernel) (sA_one hs ha) (by decide) (by decide) h1 rfl) go
  | any => exact PE.weak (pe_callB (bi_any c.calm) hg hm (by decide +kernel) (sA_one hs ha) (by decide) (by decide) h1 rfl) go
  | tuple => exact PE.weak (pe_callTy bi_tuple hg hm (by decide +kernel) (sA_one hs ha) (by decide) (by decide) h1 rfl) go
  | list => exact PE.weak (pe_callTy bi_list hg hm (by decide +kernel) (sA_one hs ha) (by decide) (by decide) h1 rfl) go
  | int => exact PE.weak (pe_callTy bi_int hg hm (by decide +kernel) (sA_one hs ha) (by decide) (by decide) h1 rfl) go
  | bool => exact PE.weak (pe_callTy bi_bool hg hm (by decide +kernel) (sA_one hs ha) (by decide) (by decide) h1 rfl) go
  | repr => exact PE.weak (pe_callB (bi_repr c.room c.grd) hg hm (by decide +kernel) (sA_one hs ha) (by decide) (by decide) h1 rfl) go
  | abs => exact PE.weak (pe_callB bi_abs hg hm (by decide +kernel) (sA_one hs ha) (by decide) (by decide) h1 rfl) go
end
end SI
end
section
set_option Elab.async false
set_option linter.all false
set_option maxRecDepth 100000
set_option maxHeartbeats 4000000
/-! SI11: isinstance, methods, dicts. -/
namespace SI
open PySem PySem.Spec PyProof.Rows L2

section
variable {X : Cx} {W : WX} {G : Wr} {k : Nat} {T : Tab} {a b e o i : Expr} {es : List Expr} {p pos apos : Pos} {fa fb fc : Nv → Hs → Res D} {fs : Nv → Hs → Res (List D)} {ft : Nv → Hs → Res Bool} {x m : Str}
/-- the value of a class's name -/
def TVal (X : Cx) (T : Tab) (t : Sum String Str) (v : V) (u : Value) : Prop := match t with
  | .inl n => v = .ty n ∧ u = .type n ∧ n ∈ bTys
  | .inr C => ∃ c, X.mg C = some (.ref c) ∧ v = .ref c ∧ u = .ref c ∧ C ∈ T.cls
theorem TVal.cls {t : Sum String Str} {v : V} {u : Value} (h : TVal X T t v u) : ClsV v u := by
  cases t with
  | inl n => obtain ⟨rfl, rfl, _⟩ := h; exact .ty n
  | inr C => obtain ⟨c, _, rfl, rfl, _⟩ := h; exact .own c
theorem one_base (wf : Wf X G k T) {B : String} (hB : B ∈ ["NoneType", "bool", "int", "str", "tuple", "list", "dict"]) {t : Sum String Str} {v : V} {u : Value} {r : Bool} (ht : TVal X T t v u)
    (e : (match t with
      | .inl n => kitB B n
      | .inr _ => some false) = some r) : PySem.W.kitOne X.K (.type B) u = some r := by
  cases t with
  | inl n => obtain ⟨_, rfl, _⟩ := ht; exact kit_ty e
  | inr C =>
    obtain ⟨c, hm, _, rfl, hc⟩ := ht
    cases e
    obtain ⟨c', hm', _, h⟩ := wf.clg C hc
    rw [hm] at hm'
    cases hm'
    exact h B hB
theorem sq_ty {H : Hp} {q : Addr} {vs : List V} (h : SqL X.K H q vs) : TyX X.K H (.ref q) (.type "list") := by
  rcases h with (h | ⟨ob, h⟩) | ⟨ob, h⟩
  · exact .base (.lst h)
  · exact .base (.frz h)
  · obtain ⟨_, _, h1, h2, _⟩ := h
    exact .kList h1 h2
theorem sqt_ty {H : Hp} {q : Addr} {vs : List V} (h : SqT X.K H q vs) : TyX X.K H (.ref q) (.type "tuple") := by
  rcases h with (h | ⟨ob, h⟩) | ⟨ob, h⟩
  · exact .base (.tup h)
  · exact .fTuple h
  · obtain ⟨_, _, h1, h2, _⟩ := h
    exact .kTuple h1 h2
theorem isOne_ok0 (wf : Wf X G k T) {O : Om} {h : Hs} {H : Hp} (S : SR X.K X.mg O h H) {d : D} {v : V} (r : RepX X O d v) {t0 : Sum String Str} {b0 : Bool} (e0 : isOne G h d t0 = some b0) (hx : ∀ C ns ds, d ≠ .exv C ns ds) :
    ∃ tv, TyX X.K H v tv ∧ ∀ t w u b, TVal X T t w u → isOne G h d t = some b → PySem.W.kitOne X.K tv u = some b := by
  cases r with
  | non => exact ⟨_, .base .non, fun t w u b ht e => one_base wf (by simp) ht (by cases t <;> exact e)⟩
  | bl z => exact ⟨_, .base (.bl z), fun t w u b ht e => one_base wf (by simp) ht (by cases t <;> exact e)⟩
  | int z => exact ⟨_, .base (.int z), fun t w u b ht e => one_base wf (by simp) ht (by cases t <;> exact e)⟩
  | str z => exact ⟨_, .base (.str z), fun t w u b ht e => one_base wf (by simp) ht (by cases t <;> exact e)⟩
  | tup q z rl => exact ⟨_, .base (.tup (S.sub _ _ q)), fun t w u b ht e => one_base wf (by simp) ht (by cases t <;> exact e)⟩
  | lst q z rl => exact ⟨_, .base (.lst (S.sub _ _ q)), fun t w u b ht e => one_base wf (by simp) ht (by cases t <;> exact e)⟩
  | ksl q z rl => exact ⟨_, sq_ty (sqL_up S.sub q), fun t w u b ht e => one_base wf (B := "list") (by simp) ht (by cases t <;> exact e)⟩
  | kst q z rl => exact ⟨_, sqt_ty (sqT_up S.sub q), fun t w u b ht e => one_base wf (B := "tuple") (by simp) ht (by cases t <;> exact e)⟩
  | @ptr n hn =>
    cases hc : h[n]? with
    | none => simp only [isOne, hc] at e0; cases e0
    | some cell =>
      have co := S.cell n cell hc
      cases cell with
      | lst xs =>
        obtain ⟨vs, hv, _, _⟩ := co
        exact ⟨_, .base (.lst hv), fun t w u b ht e => one_base wf (by simp) ht (by simp only [isOne, hc] at e; cases t <;> exact e)⟩
      | dK xs =>
        obtain ⟨vs, hv, _⟩ := co
        exact ⟨_, .base (.dK hv), fun t w u b ht e => one_base wf (by simp) ht (by simp only [isOne, hc] at e; cases t <;> exact e)⟩
      | dT xs =>
        obtain ⟨vs, hv, _⟩ := co
        exact ⟨_, .base (.dT hv), fun t w u b ht e => one_base wf (by simp) ht (by simp only [isOne, hc] at e; cases t <;> exact e)⟩
      | ins C fs =>
        obtain ⟨cl, dx, ws, hm, hv, _⟩ := co
        have gc : G.cls C = true := by
          simp only [isOne, hc] at e0
          cases t0 with
          | inl n =>
            simp only at e0
            split at e0
            · rename_i hh
              simp only [Bool.and_eq_true] at hh
              exact hh.2
            · cases e0
          | inr n =>
            simp only at e0
            split at e0
            · rename_i hh; exact hh
            · cases e0
        obtain ⟨q, _, kb⟩ := wf.cls C gc cl hm
        refine ⟨_, .base (.ins hv q.cl q.ha q.hn q.ht q.hm), fun t w u b ht e => ?_⟩
        simp only [isOne, hc] at e
        cases t with
        | inl n =>
          obtain ⟨_, rfl, hb⟩ := ht
          simp only at e
          split at e
          · cases e; exact kb n hb
          · cases e
        | inr C2 =>
          obtain ⟨c2, hm2, _, rfl, _⟩ := ht
          simp only [gc, if_true] at e
          exact wf.sub C C2 b e cl c2 hm hm2
      | tab y => simp only [isOne, hc] at e0; cases e0
      | dead => simp only [isOne, hc] at e0; cases e0
  | glo => cases e0
  | exv => exact absurd rfl (hx _ _ _)
  | exz => exact absurd rfl (hx _ _ _)
theorem isOne_ok (wf : Wf X G k T) {O : Om} {h : Hs} {H : Hp} (S : SR X.K X.mg O h H) {d : D} {v : V} (r : RepX X O d v) {t0 : Sum String Str} {b0 : Bool} (e0 : isOne G h d t0 = some b0) :
    ∃ tv, TyZ X.K H v tv ∧ ∀ t w u b, TVal X T t w u → isOne G h d t = some b → PySem.W.kitOne X.K tv u = some b := by
  by_cases hx : ∃ C ns ds, d = .exv C ns ds
  · obtain ⟨C, ns, ds, rfl⟩ := hx
    have gc : G.exc C = true := by
      simp only [isOne] at e0
      split at e0
      · assumption
      · cases e0
    have fin : ∀ cl, X.mg C = some (.ref cl) → ∀ t w u b, TVal X T t w u → isOne G h (.exv C ns ds) t = some b → PySem.W.kitOne X.K (.ref cl) u = some b := fun cl hm t w u b ht e => by
      simp only [isOne, gc, if_true] at e
      cases t with
      | inl n =>
        obtain ⟨_, rfl, hb⟩ := ht
        simp only at e
        split at e
        · rename_i hn
          cases e
          rw [hn]
          exact (wf.exc C gc cl hm).2.2.2
        · cases e
      | inr C2 =>
        obtain ⟨c2, hm2, _, rfl, _⟩ := ht
        exact wf.sub C C2 b e cl c2 hm hm2
    cases r with
    | @exv p dx cl _ _ _ vs hm h2 h3 rl hl => exact ⟨_, .d (S.sub _ _ h2) (S.sub _ _ h3) (wf.exc C gc cl hm).2.1, fin cl hm⟩
    | @exz p cl _ hm h2 => exact ⟨_, .n (S.sub _ _ h2) (wf.exc C gc cl hm).2.1, fin cl hm⟩
  · obtain ⟨tv, h1, h2⟩ := isOne_ok0 wf S r e0 fun C ns ds z => hx ⟨C, ns, ds, z⟩
    exact ⟨tv, .x h1, h2⟩
theorem isAny_ok {h : Hs} {d : D} {tv : Value} {b : Bool} (K1 : ∀ t w u b, TVal X T t w u → isOne G h d t = some b → PySem.W.kitOne X.K tv u = some b) :
    ∀ {ts : List (Sum String Str)} {qs : List (V × Value)}, Paired (fun t (q : V × Value) => TVal X T t q.1 q.2) ts qs → isAny G h d ts = some b → PySem.W.kitAny X.K tv (qs.map (·.2)) = some b
  | [], _, .nil, e => by
    cases e
    exact kitAny_nil
  | t :: ts, _, .cons (b := q) h1 h2, e => by
    unfold isAny at e
    split at e
    · rename_i q1
      cases e
      exact kitAny_cons (K1 t q.1 q.2 true h1 q1) (fun z => by cases z) fun _ => rfl
    · rename_i q1
      exact kitAny_cons (K1 t q.1 q.2 false h1 q1) (fun _ => isAny_ok K1 h2 e) fun z => by cases z
    · cases e
/-- the written name of a class -/
def tName : Sum String Str → Str
  | .inl n => .ofString n
  | .inr C => C
structure TOk (X : Cx) (T : Tab) (t : Sum String Str) : Prop where
  gl : Gl X (tName t)
  ok : match t with
    | .inl n => n ∈ bTys ∧ X.mg (tName t) = none
    | .inr C => C ∈ T.cls ∧ (C == ("__debug__" : Str)) = false
theorem boot_b {n : String} (h : n ∈ bTys) : bootBuiltins (Str.ofString n) = some (.type n) ∧ Str.ofString n ≠ "__name__" ∧ (Str.ofString n == ("__debug__" : Str)) = false := by
  simp only [bTys, List.mem_cons, List.not_mem_nil, or_false] at h
  rcases h with rfl | rfl | rfl | rfl | rfl | rfl | rfl <;> exact ⟨by decide +kernel, by decide +kernel, by decide +kernel⟩
theorem sC_name (wf : Wf X G k T) {t : Sum String Str} (h : TOk X T t) : ∃ v u, TVal X T t v u ∧ ∀ pos, PE X (.Name (tName t) pos) (tC v) := by
  cases t with
  | inl n =>
    obtain ⟨h1, h2⟩ := h.ok
    obtain ⟨b1, b2, b3⟩ := boot_b h1
    exact ⟨.ty n, .type n, ⟨rfl, rfl, h1⟩, fun pos => pe_bltn h.gl h2 b1 rfl b2 b3⟩
  | inr C =>
    obtain ⟨h1, h2⟩ := h.ok
    obtain ⟨c, hm, hk, _⟩ := wf.clg C h1
    exact ⟨.ref c, .ref c, ⟨c, hm, rfl, rfl, h1⟩, fun pos => pe_glob h.gl hm rfl h2⟩
/-- isinstance(e, T) -/
theorem sE_isi1 (c : XOk X W G k T) {t : Sum String Str} {p2 : Pos} (ht : TOk X T t) (hg : Gl X "isinstance") (hm : X.mg "isinstance" = none) (hs : starless e = true) (ha : PE X e (tE X W fa)) :
    PE X (.Call (.Name "isinstance" p) [e, .Name (tName t) p2] [] pos) (tE X W fun env h => (fa env h).bind fun d h => .of ((isAny G h d [t]).map .bl) h) := by
  obtain ⟨v, u, tv, pn⟩ := sC_name c.wf ht
  refine PE.weak (pe_callB call_isiZ hg hm (by decide +kernel) (pa_cons ha (pa_cons (pn p2) pa_nil (by rfl)) (star_cons hs _ _)) (by decide) (by decide) (star_cons hs _ _) (by rfl)) fun sg H Q ⟨O, env, h, eo, S, w⟩ => ⟨O, env, h, eo, S, w.bind fun d h1 O1 y H1 _ s1 S1 r1 p1 => ?_⟩
  obtain ⟨z, e, q⟩ := p1.of S1
  simp only [Option.map_eq_some_iff] at e
  obtain ⟨b, e, rfl⟩ := e
  have e1 : isOne G h1 d t = some b := by
    unfold isAny at e
    split at e
    · rename_i q1; cases e; exact q1
    · rename_i q1; cases e; exact q1
    · cases e
  obtain ⟨ty, ht1, K1⟩ := isOne_ok c.wf S1 r1 e1
  exact ⟨y, v, ty, u, b, rfl, tv.cls, ht1, K1 t v u b tv e1, q _ (.bl b)⟩
/-- min(a, b), max(a, b) -/
theorem sE_mm (mx : Bool) (hx : x = if mx then "max" else "min") (hc : X.calm = true) (hg : Gl X x) (hm : X.mg x = none) (hs : starless a = true) (ht : starless b = true) (ha : PE X a (tE X W fa)) (hb : PE X b (tE X W fb)) :
    PE X (.Call (.Name x p) [a, b] [] pos) (tE X W fun env h => (fa env h).bind fun u h => (fb env h).bind fun v h => mmD mx u v h) := by
  have pa := pa_cons ha (pa_cons hb pa_nil (star_cons ht _ _)) (star_cons hs _ _)
  have go : ∀ (sg : L2.St) (H : Hp) (Q : VK), tE X W (fun env h => (fa env h).bind fun u h => (fb env h).bind fun v h => mmD mx u v h) sg H Q → ∃ (O : Om) (env : Nv) (h : Hs), NvOk X.K X.mg O env sg ∧ SR X.K X.mg O h H ∧ Post X W sg O H ((fa env h).bind fun u h => (fb env h).bind fun v h => mmD mx u v h) (RepX X) Q := fun _ _ _ w => w
  have fin : ∀ {sg : L2.St} {O : Om} {H : Hp} {h : Hs} {u v : D} {y z : V} {Q : VK}, SR X.K X.mg O h H → RepX X O u y → RepX X O v z → Post X W sg O H (mmD mx u v h) (RepX X) Q → ∃ i j : Int, y = .int i ∧ z = .int j ∧ Q (.int (if mx then (if j > i then j else i) else if j < i then j else i)) H := fun {sg O H h u v y z Q} S r1 r2 w => by
    cases u with
    | int i =>
      cases v with
      | int j =>
        cases r1.int_inv
        cases r2.int_inv
        exact ⟨i, j, rfl, rfl, w.here S (.int _)⟩
      | _ => exact (show False from w).elim
    | _ => exact (show False from w).elim
  cases mx with
  | true =>
    subst hx
    exact PE.weak (pe_callB (call_max2 hc) hg hm (by decide +kernel) pa (by decide) (by decide) (star_cons hs _ _) (star_any (by simpa using ht))) fun sg H Q ⟨O, env, h, eo, S, w⟩ => ⟨O, env, h, eo, S, w.bind fun d h1 O1 y H1 _ s1 S1 r1 p1 => ⟨O1, env, h1, eo.stp s1, S1, p1.bind fun d2 h2 O2 z H2 _ s2 S2 r2 p2 => by
      obtain ⟨i, j, e1, e2, q⟩ := fin S2 (r1.stp s2) r2 p2
      exact ⟨i, j, by rw [e1, e2], q⟩⟩⟩
  | false =>
    subst hx
    exact PE.weak (pe_callB (call_min2 hc) hg hm (by decide +kernel) pa (by decide) (by decide) (star_cons hs _ _) (star_any (by simpa using ht))) fun sg H Q ⟨O, env, h, eo, S, w⟩ => ⟨O, env, h, eo, S, w.bind fun d h1 O1 y H1 _ s1 S1 r1 p1 => ⟨O1, env, h1, eo.stp s1, S1, p1.bind fun d2 h2 O2 z H2 _ s2 S2 r2 p2 => by
      obtain ⟨i, j, e1, e2, q⟩ := fin S2 (r1.stp s2) r2 p2
      exact ⟨i, j, by rw [e1, e2], q⟩⟩⟩
/-- the receiver of a method of a list -/
theorem lst_ty {H : Hp} {q : Addr} {vs : List V} (h : H q = some (.lst vs)) : tyV X.K "list" (.ref q) H := .inl ⟨rfl, vs, .of h⟩
theorem meOk_ptr {mm : Me} {h : Hs} {d : D} (e : meOk mm h d = true) : ∃ n c, d = .ptr n ∧ h[n]? = some c ∧ kindC mm c = true := by
  cases d with
  | ptr n =>
    unfold meOk at e
    cases hc : h[n]? with
    | none => simp only [hc] at e; cases e
    | some c => simp only [hc] at e; exact ⟨n, c, rfl, hc, e⟩
  | _ => cases e
theorem meD_inv {sg : L2.St} {O : Om} {H : Hp} {mm : Me} {h : Hs} {n : Nat} {ds : List D} {Q : VK} (w : Post X W sg O H (meD mm h (.ptr n) ds) (RepX X) Q) :
    ∃ c v c', h[n]? = some c ∧ meC mm c ds = some (v, c') ∧ Post X W sg O H (.ok v (h.set n c')) (RepX X) Q := by
  unfold meD at w
  cases hc : h[n]? with
  | none => simp only [hc] at w; exact (show False from w).elim
  | some c =>
    simp only [hc] at w
    cases hm : meC mm c ds with
    | none => simp only [hm] at w; exact (show False from w).elim
    | some q => simp only [hm] at w; exact ⟨c, q.1, q.2, rfl, hm, w⟩
theorem isLst_inv {c : Cell} (h : isLstC c = true) : ∃ xs, c = .lst xs := by cases c <;> first | exact ⟨_, rfl⟩ | cases h
/-- the list's own methods: append, extend -/
theorem sM_list {mm : Me} {r : V → List V → Hp → VK → Prop} {nm : Str} {id : String} (hk0 : ∀ c, kindC mm c = isLstC c) (slot : Slot "list" nm id) (hty : typeOf (.builtin id) = pure (.type "method_descriptor")) (mt : MtM X id r)
    (hr : ∀ (sg : L2.St) (O : Om) (h : Hs) (H : Hp) (n : Nat) (xs ds : List D) (us : List V) (v : D) (c' : Cell) (Q : VK), SR X.K X.mg O h H → h[n]? = some (.lst xs) → RepLX X O ds us → meC mm (.lst xs) ds = some (v, c') → Post X W sg O H (.ok v (h.set n c')) (RepX X) Q → r (.ref (O.φ n)) us H Q)
    (hkd : ∀ c ds v c', meC mm c ds = some (v, c') → isLstC c = true)
    (hb : superless o = true) (hp : (apos.endLine == pos.line) = true) (hs : starless e = true) (ho : PE X o (tE X W fa)) (he : PE X e (tE X W fb)) :
    PE X (.Call (.Attribute o nm apos) [e] [] pos) (tE X W fun env h => (fa env h).bind fun d h => if meOk mm h d then ((fb env h).bind fun y h => Res.ok [y] h).bind fun ds h => meD mm h d ds else .no) := by
  refine PE.weak (pe_bm PySem.F.plainAttrs_list slot hty mt ho (sA_one hs he) (base_plain hb _ X.env _) ?_ hp (star_cons hs _ _) (by rfl)) fun sg H Q ⟨O, env, h, eo, S, w⟩ => ⟨O, env, h, eo, S, w.bind fun d h1 O1 v H1 _ s1 S1 r1 p1 => ?_⟩
  · rw [star_cons hs]; rfl
  by_cases hk : meOk mm h1 d = true
  · rw [if_pos hk] at p1
    obtain ⟨n, cl, rfl, hn, hkc⟩ := meOk_ptr hk
    rw [hk0] at hkc
    obtain ⟨xs0, rfl⟩ := isLst_inv hkc
    obtain ⟨hlt, vs, hv, _, _⟩ := S1.at hn
    cases r1
    refine ⟨lst_ty hv, O1, env, h1, eo.stp s1, S1, p1.bind fun ds h2 O2 us H2 er s2 S2 r2 p2 => ?_⟩
    obtain ⟨c, v, c', hc, hm, p3⟩ := meD_inv p2
    obtain ⟨xs, rfl⟩ := isLst_inv (hkd _ _ _ _ hm)
    rw [← s2.φ n hlt]
    exact hr sg O2 h2 H2 n xs ds us v c' Q S2 hc r2 hm p3
  · rw [if_neg hk] at p1; exact (show False from p1).elim
theorem app_inv {c : Cell} {ds : List D} {v : D} {c' : Cell} (e : appC c ds = some (v, c')) : ∃ xs y, c = .lst xs ∧ ds = [y] ∧ xs.length < LINE ∧ v = .non ∧ c' = .lst (xs ++ [y]) := by
  unfold appC at e
  split at e
  · split at e
    · cases e; exact ⟨_, _, rfl, rfl, by assumption, rfl, rfl⟩
    · cases e
  · cases e
theorem ext_inv {c : Cell} {ds : List D} {v : D} {c' : Cell} (e : extC c ds = some (v, c')) : ∃ xs ys, c = .lst xs ∧ ds = [.lst ys] ∧ xs.length + ys.length ≤ LINE ∧ v = .non ∧ c' = .lst (xs ++ ys) := by
  unfold extC at e
  split at e
  · split at e
    · cases e; exact ⟨_, _, rfl, rfl, by assumption, rfl, rfl⟩
    · cases e
  · cases e
theorem sM_append (hb : superless o = true) (hp : (apos.endLine == pos.line) = true) (hs : starless e = true) (ho : PE X o (tE X W fa)) (he : PE X e (tE X W fb)) :
    PE X (.Call (.Attribute o "append" apos) [e] [] pos) (tE X W fun env h => (fa env h).bind fun d h => if meOk .append h d then ((fb env h).bind fun y h => Res.ok [y] h).bind fun ds h => meD .append h d ds else .no) := by
  refine sM_list (fun _ => rfl) PySem.F.slot_list_append (by rfl) mt_append (fun sg O h H n xs ds us v c' Q S hn rl hm w => ?_) (fun c ds v c' hm => ?_) hb hp hs ho he
  · obtain ⟨xs', y, e1, rfl, hz, rfl, rfl⟩ := app_inv hm
    cases e1
    have LE := LINE_eq
    obtain ⟨hlt, vs, hv, z, rx⟩ := S.at hn
    cases rl with
    | @cons _ u _ _ ry t =>
      cases t
      have z : vs.length < sizeLine := by rw [← rx.length]; omega
      obtain ⟨s3, S3⟩ := S.put (o := .lst (vs ++ [u])) hn (by simp) (c := .lst (xs ++ [y])) ⟨_, upd_same, by rw [List.length_append]; exact z, rx.app (.cons ry .nil)⟩
      exact ⟨_, vs, u, rfl, rfl, hv, z, w _ _ _ s3 S3 .non⟩
  · obtain ⟨_, _, rfl, _⟩ := app_inv hm; rfl
theorem sM_extend (hb : superless o = true) (hp : (apos.endLine == pos.line) = true) (hs : starless e = true) (ho : PE X o (tE X W fa)) (he : PE X e (tE X W fb)) :
    PE X (.Call (.Attribute o "extend" apos) [e] [] pos) (tE X W fun env h => (fa env h).bind fun d h => if meOk .extend h d then ((fb env h).bind fun y h => Res.ok [y] h).bind fun ds h => meD .extend h d ds else .no) := by
  refine sM_list (fun _ => rfl) PySem.F.slot_list_extend (by rfl) mt_extend (fun sg O h H n xs ds us v c' Q S hn rl hm w => ?_) (fun c ds v c' hm => ?_) hb hp hs ho he
  · obtain ⟨xs', ys, e1, rfl, hz, rfl, rfl⟩ := ext_inv hm
    cases e1
    have LE := LINE_eq
    obtain ⟨hlt, vs, hv, z, rx⟩ := S.at hn
    cases rl with
    | @cons _ u _ _ ry t =>
      cases t
      cases ry with
      | @lst q _ ws hq zq rq =>
        have z : vs.length + ws.length ≤ sizeLine := by rw [← rx.length, ← rq.length]; omega
        obtain ⟨s3, S3⟩ := S.put (o := .lst (vs ++ ws)) hn (by simp) (c := .lst (xs ++ ys)) ⟨_, upd_same, by rw [List.length_append]; exact z, rx.app rq⟩
        exact ⟨_, q, vs, ws, rfl, rfl, hv, S.sub _ _ hq, z, w _ _ _ s3 S3 .non⟩
  · obtain ⟨_, _, rfl, _⟩ := ext_inv hm; rfl
end
end SI
end
section
set_option Elab.async false
set_option linter.all false
set_option maxRecDepth 100000
set_option maxHeartbeats 4000000
/-! SIX0: enumerate of a tuple; d.pop(k) of a dict with tuple keys. -/
namespace SI
open PySem PySem.Spec PyProof.Rows L2
section
open PySem.Sem (wp)
theorem meets_enum1 {v : Value} {o : Obj} {H : Heap → Prop} (B : Begins v o H) :
    Meets (Builtin.«enumerate.__new__» ⟨[.type "enumerate", v], []⟩) (fun _ R s => H s.heap ∧
      R (.ok (.ret (.ref (s.heap.push o).objs.size))) { s with heap := (s.heap.push o).push { cls := .type "enumerate", data := .fields #[.none, .bool false, .ref s.heap.objs.size, rawInt 0, .none, .none] } }) :=
  .of_wp fun prog w A R s h => by
    obtain ⟨hp, g, d, tk, os⟩ := s; obtain ⟨h1, h⟩ := h
    have hsub := sub_enumerate
    have q1 : ∀ {A' : Around} {E : Value → Shared → Prop} {Q : Value → Shared → Prop}, Q (.ref hp.objs.size) ⟨hp.push o, g, d, tk, os⟩ → wpAny (model prog w) A' (pyIter v) Q E ⟨hp, g, d, tk, os⟩ :=
      fun q => B.iter prog w _ _ ⟨hp, g, d, tk, os⟩ _ h1 q
    wp_walk using q1
    refine wpAny_stack_any fun st => wpAny_pure ?_
    split
    · rename_i c _ _ _ _ _
      cases (c == Value.type "enumerate")
      · wp_walk using q1
        exact ⟨_, rfl, h⟩
      · wp_walk using q1
        exact ⟨_, rfl, h⟩
    · wp_walk using q1
      exact ⟨_, rfl, h⟩
variable {prog : Program} {w : World} {A : Around} {E : Value → Shared → Prop} {s : Shared}
theorem call_enum1 {v : Value} {o : Obj} {H : Heap → Prop} {Q : Value → Shared → Prop} (B : Begins v o H) (h1 : H s.heap)
    (h : ∀ h', IsEnum h' (s.heap.objs.size + 1) s.heap.objs.size 0 .none → h'.get? s.heap.objs.size = some o → h'.objs.size = s.heap.objs.size + 2 →
      (∀ b o, s.heap.get? b = some o → h'.get? b = some o) → Q (.ref (s.heap.objs.size + 1)) { s with heap := h' }) :
    wpAny (model prog w) A (call (.type "enumerate") [v]) Q E s := by
  refine callType_new F.called_enumerate (by decide) (F.typeCall_enumerate_1 _) (F.newCall_enumerate_1 _) (fun obj => F.args_object_init_2 obj _) F.entry_enumerate_new
    (meets_enum1 B) ⟨h1, ?_⟩
  have hz : (s.heap.push o).objs.size = s.heap.objs.size + 1 := Heap.size_push ..
  show _ ∧ _
  rw [hz]
  have he : IsEnum ((s.heap.push o).push { cls := .type "enumerate", data := .fields #[.none, .bool false, .ref s.heap.objs.size, rawInt 0, .none, .none] }) (s.heap.objs.size + 1) s.heap.objs.size 0 .none := by
    have := Heap.get?_push_size (s.heap.push o) (o := { cls := .type "enumerate", data := .fields #[.none, .bool false, .ref s.heap.objs.size, rawInt 0, .none, .none] }) rfl
    rw [hz] at this; exact this
  refine ⟨⟨_, he, rfl⟩, h _ he (Heap.get?_push_of_some _ (Heap.get?_push_size _ B.free)) (by rw [Heap.size_push, hz]) fun b o x => Heap.get?_push_of_some _ (Heap.get?_push_of_some _ x)⟩
end
/-- the tuple at a as it stands at each turn, each item in a new pair -/
def IteT (K : PySem.W.Frag) (a : Addr) : It :=
  ⟨fun i H => ∃ (xs : List V) (x : V), SqT K H a xs ∧ xs[i]? = some x, fun i H v H' => ∃ T x, v = .ref T ∧ H T = none ∧ H' = upd H T (.tup [.int (i : Nat), x]) ∧ ∀ xs, SqT K H a xs → xs[i]? = some x, fun i H => ∃ xs : List V, SqT K H a xs ∧ xs.length ≤ i⟩
theorem turn_enumT {P : Program} {w : World} {K : PySem.W.Frag} {elts : List Expr} {kk : Nat} {tpos : Pos} (a e it : Addr) :
    Turn P w K (.Tuple elts kk tpos) (IteT K a) [e, it] e (fun i h => (∃ old, IsEnum h e it ((i : Nat) : Int) old) ∧ h.IsTupleIter it a i ∧ e ≠ it) where
  mem := by simp
  obj := fun i h st b hb => by
    obtain ⟨⟨old, he⟩, ⟨o, ho, hc, hd⟩, _⟩ := st
    have e' : b = e ∨ b = it := by simpa using hb
    rcases e' with z | z
    · rw [z]; exact ⟨_, he, fun v q => nomatch q⟩
    · rw [z]; exact ⟨o, ho, fun v q => by rw [hd] at q; cases q⟩
  keep := fun i h h' st k => let ⟨⟨old, he⟩, hi, hne⟩ := st; ⟨⟨old, k e (by simp) _ he⟩, hi.at fun o q => k it (by simp) o q, hne⟩
  item := by
    intro X hP hw hK hc i pins s σ H E I hf st hg
    subst hP hw hK
    obtain ⟨⟨old, he⟩, hit, hne⟩ := st
    obtain ⟨xs, x, hq, hx⟩ := hg
    obtain ⟨its, rv, p, hz⟩ := I.tuple hq
    obtain ⟨u, hu, ru⟩ := rv.get hx
    have hel : e < s.heap.objs.size := Heap.lt_size he
    have hil : it < s.heap.objs.size := by obtain ⟨_, q, _⟩ := hit; exact Heap.lt_size q
    have hai : a ≠ it := fun z => by
      obtain ⟨o, ho, hc1, _⟩ := id p
      obtain ⟨o2, ho2, hc2, _⟩ := id hit
      rw [z, ho2] at ho
      cases ho
      rw [hc1] at hc2
      exact absurd hc2 (by simp)
    have hae : e ≠ a := fun z => by
      obtain ⟨o, ho, hc1, _⟩ := id p
      rw [← z, show s.heap.get? e = _ from he] at ho
      cases ho
      exact absurd hc1 (by simp)
    have D := Draws.tuple (prog := X.prog) (w := X.w) (A := X.A.in1) (show X.A.in1.handled = none from I.ok.hd hc) it a hai its.toArray
    have hi : i < its.toArray.size := by
      have := (List.getElem?_eq_some_iff.mp hu).1
      simpa using this
    refine wpAny_pyNext_enum_itemC D he ⟨hit, show s.heap.IsTuple a its.toArray from p⟩ hi hne (by simp [hne, hae]) fun x' h' tk hP ho hit' hT hsz hk => ?_
    have ex : x' = u := by
      have hP : its.toArray[i]? = some x' := hP
      have hu' : its.toArray[i]? = some u := by simpa using hu
      rw [hP] at hu'
      exact Option.some.inj hu'
    subst ex
    refine ⟨_, rfl, wpAny_letOwnedTupleGo_enum (s := { s with heap := h', toks := tk + 1 }) ho fun h'' he' sb => ?_⟩
    have hT2 : h''.get? s.heap.objs.size = some { cls := .type "tuple", data := .seq #[.int i tk, x'] } := (sb.2 _ (Nat.ne_of_gt hel)).trans hT
    have new : ObjOk X.prog X.w (upd H s.heap.objs.size (.tup [.int (i : Nat), x])) h'' s.heap.objs.size (.tup [.int (i : Nat), x]) :=
      ⟨by show 2 ≤ sizeLine; decide, [.int i tk, x'], .cons ⟨_, rfl⟩ (.cons ru .nil), ⟨_, hT2, rfl, _, rfl⟩⟩
    have I1 : Inv X pins σ (upd H s.heap.objs.size (.tup [.int (i : Nat), x])) { s with heap := h'', toks := tk + 1 } :=
      I.turnedNew (ch := [e, it]) (fun b ob hb q => (sb.2 b (fun z => hb (by simp [z]))).trans (hk b ob (fun z => hb (by simp [z])) (fun z => hb (by simp [z])) q)) hf (Nat.le_refl _) new
    refine ⟨.ref s.heap.objs.size, _, I1, rfl, ⟨_, x, rfl, I.hok.fresh (Nat.le_refl _), rfl, fun ys hy => by rw [I.tuple_inj hy hq]; exact hx⟩, ⟨⟨x', ?_⟩, hit'.1.at fun o q => (sb.2 it (Ne.symm hne)).trans q, hne⟩, fun b hb => ?_⟩
    · have e1 : ((i + 1 : Nat) : Int) = (i : Int) + 1 := by omega
      rw [e1]; exact he'
    · have hb' : b < s.heap.objs.size := by
        have e' : b = e ∨ b = it := by simpa using hb
        rcases e' with z | z
        · rw [z]; exact hel
        · rw [z]; exact hil
      rw [upd_ne (Nat.ne_of_lt hb')]
      exact (hf b hb).1
  done := by
    intro X hP hw hK hc i pins s σ H E I hf st hg
    subst hP hw hK
    obtain ⟨⟨old, he⟩, hit, hne⟩ := st
    obtain ⟨xs, hq, hx⟩ := hg
    obtain ⟨its, rv, p, hz⟩ := I.tuple hq
    obtain ⟨f0, f1, f2, f3, f4, f5⟩ := hf it (by simp)
    have hl := rv.length
    have hT : s.TypeIs (.ref e) "enumerate" := ⟨_, he, rfl⟩
    unfold pyNext
    refine wpAny_bind (wpAny_attempt (wpAny_callSpecial?_slot (name := Str.ofString "__next__") hT F.slot_enumerate_next
      (wpAny_call_entry F.slot_enumerate_next hT F.entry_enumerate_next ?_ (F.args_enumerate_next_1 _))))
    show wpAny _ _ (field (.ref e) 2 >>= _) _ _ _
    refine wpAny_bind (wpAny_field he rfl (x := .ref it) rfl ?_)
    refine wpAny_bind (wpAny_nextOf_tuple_end (A := X.A.in1) (show X.A.in1.handled = none from I.ok.hd hc) hit (show s.heap.IsTuple a its.toArray from p) (by simp; omega) fun h' x he' hx' => ?_)
    obtain ⟨o, ho, hc'⟩ := hx'
    refine wpAny_bind (wpAny_isInstance (T := "StopIteration") (b := true) ⟨o, ho, hc'⟩ isSubtype_stop ?_)
    exact wpAny_pure ⟨rfl, I.turned (t' := s.toks) (fun b o hb q => he' b o hb q) f0 f1 f3 f4 f5⟩
  self := fun A i s Q E st h => let ⟨⟨_, he⟩, _⟩ := st; wpAny_pyIter_enum he h
theorem walk_enumT {K : PySem.W.Frag} {a : Addr} {xs : List V} : Walk (IteT K a) xs.length (fun H => SqT K H a xs) (YPair (fun i => some (.int (i : Nat))) (fun i => xs[i]?)) := by
  refine ⟨fun i _ hi q => ⟨xs, xs[i], q, by simp [hi]⟩, fun _ q => ⟨xs, q, Nat.le_refl _⟩, fun i H v H' _ q y => ?_⟩
  obtain ⟨T, x, h1, h2, h3, h4⟩ := y
  exact ⟨T, .int (i : Nat), x, h1, h2, h3, rfl, h4 xs q⟩
/-- enumerate(list or tuple) -/
def iEnumA (K : PySem.W.Frag) (ta : TA) : TI := fun σ H R => ta σ H fun vs H1 => ∃ a xs, vs = [.ref a] ∧ ((SqL K H1 a xs ∧ R (Ite K a) H1) ∨ (SqT K H1 a xs ∧ R (IteT K a) H1))
theorem pi_enumA {X : Cx} {e : Expr} {ta : TA} {p pos tpos : Pos} {elts : List Expr} {kk : Nat} (hg : Gl X "enumerate") (hm : X.mg "enumerate" = none) (ha : PA X [e] ta) (hs : starEach [e] X.env = [(false, eval e X.env)] := by rfl) :
    PI X (.Tuple elts kk tpos) (.Call (.Name "enumerate" p) [e] [] pos) (iEnumA X.K ta) := by
  refine ⟨fun pins s σ H R I h => ?_⟩
  refine Call_ (ld_blt I hg hm boot_enumerate (PyProof.Rows.callWith_type1 (thn (ha.run pos pins s σ H _ I h) fun us s1 ⟨vs, H1, I1, r1, q1⟩ => ?_) hs rfl))
  obtain ⟨a, xs, ex, q⟩ := q1
  subst ex
  cases r1 with
  | cons r rr =>
    cases rr
    cases r
    have fin : ∀ (h' : Heap) (hk : ∀ b o, s1.heap.get? b = some o → h'.get? b = some o), Inv X pins σ H1 { s1 with heap := h' } ∧ ∀ b ∈ [s1.heap.objs.size + 1, s1.heap.objs.size], FpOk X pins H1 b := fun h' hk => by
      refine ⟨I1.kept (t' := s1.toks) hk, fun b hb => ?_⟩
      have e' : b = s1.heap.objs.size + 1 ∨ b = s1.heap.objs.size := by simpa using hb
      have hle : s1.heap.objs.size ≤ b := by
        rcases e' with z | z
        · rw [z]; exact Nat.le_add_right _ _
        · rw [z]; exact Nat.le_refl _
      exact I1.fpOk hle (I1.hok.fresh hle)
    rcases q with ⟨hq, q⟩ | ⟨hq, q⟩
    · obtain ⟨its, rv, p', hz⟩ := I1.list hq
      refine call_enumerate_list p'.isList fun h' he hit hsz hk => wpAny_pyIter_enum he ?_
      obtain ⟨I2, fp⟩ := fin h' hk
      exact ⟨s1.heap.objs.size + 1, [s1.heap.objs.size + 1, s1.heap.objs.size], _, _, H1, rfl, I2, turn_enum a (s1.heap.objs.size + 1) s1.heap.objs.size, ⟨⟨.none, he⟩, hit, Nat.succ_ne_self _⟩, fp, q⟩
    · obtain ⟨its, rv, p', hz⟩ := I1.tuple hq
      refine call_enum1 (begins_tuple a its.toArray) (show s1.heap.IsTuple a its.toArray from p') fun h' he hit hsz hk => wpAny_pyIter_enum he ?_
      obtain ⟨I2, fp⟩ := fin h' hk
      exact ⟨s1.heap.objs.size + 1, [s1.heap.objs.size + 1, s1.heap.objs.size], _, _, H1, rfl, I2, turn_enumT a (s1.heap.objs.size + 1) s1.heap.objs.size, ⟨⟨.none, he⟩, ⟨_, hit, rfl, rfl⟩, Nat.succ_ne_self _⟩, fp, q⟩
/-! ### d.pop(k), the keys tuples -/
section
variable {Kk : Type} [DecidableEq Kk] {prog : Program} {w : World} {knd : HeapKind prog w Kk} {A : Around} {E : Value → Shared → Prop} {s : Shared}
theorem meetsPop1 {d b : Addr} {k : Kk} (hd : (d == sysModules) = false) :
    MeetsIn prog w (Builtin.«dict.pop» ⟨[.ref d, .ref b], []⟩) (fun A R s => ∃ xs p, knd.room A.in1 ∧ knd.is s.heap k b ∧ s.heap.DictOfH knd d xs ∧ xs.length ≤ sizeLine ∧ atKey xs k = some p ∧
      ∀ h' tk, h'.DictOfH knd d (DT.dropH xs k) → Heap.SameBut d s.heap h' → R (.ok (.ret p.2)) { s with heap := h', toks := tk }) :=
  .of_wp fun A R s ⟨xs, p0, hu, hkey, hm, hsz, hp0, hsome⟩ => by
    obtain ⟨o, es, ep, ho, hc, hdat, he, his, hn⟩ := id hm
    have hes : es.size = xs.length := size_of_entries he
    have hpart : (keyPart (Value.ref b)).isSome = false := rfl
    unfold Builtin.«dict.pop»
    refine wpAny_bind ?_
    unfold Builtin.Dict.keyAndDefault
    refine wpAny_bind (wpAny_notOrdered_dict hm.typeIs ?_)
    show wpAny _ _ (pure (d, Value.ref b, none)) _ _ s
    refine wpAny_pure ?_
    simp only [hpart, Bool.false_eq_true, if_false]
    refine wpAny_bind (wpAny_dictEntries ho hdat (wpAny_bind (wpAny_pure ?_)))
    cases hem : es.isEmpty with
    | true =>
      have h0 : xs = [] := by
        have z : es.size = 0 := by simpa using hem
        exact List.length_eq_zero_iff.mp (by omega)
      rw [h0] at hp0
      cases hp0
    | false =>
      simp only [Bool.false_eq_true, if_false]
      refine wpAny_bind (DT.takeH hu hkey hm hsz (fun hno => ?_) fun p e hp hev h' hm' hs' => ?_)
      · rw [hp0] at hno; cases hno
      · rw [hp0] at hp
        cases hp
        simp only [Option.isNone_some, Bool.false_eq_true, if_false]
        exact wpAny_bind (wpAny_letGo (wpAny_pure ⟨e.val, rfl, by rw [hev]; exact hsome h' _ hm' hs'⟩))
end
section
variable {X : Cx} {pn : List (Addr × Obj)} {sg : L2.St} {H : Hp} {s : Shared}
theorem d_popT (hu : X.A.units + 1 < cLine) (I : Inv X pn sg H s) {a b : Addr} {kvs : List (List Key × V)} {k : List Key} {v : V} {Q : VK} (ha : H a = some (.dT kvs)) (hb : H b = some (.tup (k.map kV))) (hv : valV kvs k = some v) (q : Q v (upd H a (.dT (dropK kvs k)))) :
    wpAny (model X.prog X.w) X.A (call (.builtin "dict.pop") [.ref a, .ref b]) (EP X pn sg Q) X.xe s := by
  obtain ⟨z, hd, xs', rel, dd⟩ := dt_of I.hok ha
  have hz : xs'.length ≤ sizeLine := by rw [← Paired.length rel]; exact z
  have r := rel.val k
  rw [hv] at r
  obtain ⟨p, hp, rv⟩ : ∃ p, atKey xs' k = some p ∧ RelV v p.2 := by
    cases ev : atKey xs' k with
    | none =>
      rw [ev] at r
      exact (show False from r).elim
    | some p =>
      rw [ev] at r
      exact ⟨p, rfl, r⟩
  refine call_meetsIn PySem.F.slot_dict_pop dd.typeIs PySem.F.entry_dict_pop (PySem.F.args_dict_pop_2 _ _) (meetsPop1 (knd := tupleKind (mixKind X.prog X.w)) (k := k) hd)
    ⟨xs', p, tupleKind_room_in1 hu, key_of I.hok hb, dd, hz, hp, fun h' tk dd' hs => ?_⟩
  obtain ⟨o, es, ep, hq, h2, h3, h4, _, h5⟩ := dd'
  have I2 : Inv X pn sg (upd H a (.dT (dropK kvs k))) { s with heap := h', toks := tk } :=
    d_write I (by rw [ha]; exact True.intro) hs ⟨o, hq⟩ ⟨Nat.le_trans (dropK_le kvs k) z, hd, _, (L2.DX.KT_drop k rel).keeps (fun c ys ec => (by rw [upd_ne (ne_of ec ha (fun z => nomatch z))]; exact ec)), o, es, ep, hq, h2, h3, h4, h5⟩
  show EP X pn sg Q p.2 _
  exact ⟨v, _, I2, rv, q⟩
variable {o e : Expr} {apos cpos : Pos} {td ty : TE}
def tDPopA (td ty : TE) : TE := fun σ H Q => td σ H fun x H1 => ∃ a, x = .ref a ∧ IsD H1 a ∧ ty σ H1 fun y H2 => (∃ kvs k v, H2 a = some (.dK kvs) ∧ y = kV k ∧ valV kvs k = some v ∧ Q v (upd H2 a (.dK (dropK kvs k)))) ∨
  ∃ kvs k b v, H2 a = some (.dT kvs) ∧ y = .ref b ∧ H2 b = some (.tup (k.map kV)) ∧ valV kvs k = some v ∧ Q v (upd H2 a (.dT (dropK kvs k)))
theorem pe_dpopA (hu : X.A.units + 1 < cLine) (ho : PE X o td) (he : PE X e ty) (m : M1 X o "pop" apos e cpos) : PE X (.Call (.Attribute o "pop" apos) [e] [] cpos) (tDPopA td ty) := by
  refine ⟨fun pins s σ H Q I h => ?_⟩
  refine wpAny_Call_method m.base m.few m.line PySem.F.plainAttrs_dict PySem.F.slot_dict_pop PySem.F.type_dict_pop (thn (ho.run pins s σ H _ I h) fun u s1 ⟨x, H1, I1, rx, a, ex, d, q1⟩ => ?_)
  subst ex
  obtain rfl : u = Value.ref a := rx
  obtain ⟨t1, t2, _⟩ := isD_at I1 d
  refine ⟨t1, t2, ?_⟩
  rw [m.trees]
  refine Calls.callWith_builtin rfl (Calls.evalArgs_plain (Calls.spliced_cons (thn (he.run pins s1 σ H1 _ I1 q1) fun iv s2 ⟨y, H2, I2, ry, q2⟩ => Calls.spliced_nil ?_)))
  rcases q2 with ⟨kvs, k, v, ea, ey, l, q2⟩ | ⟨kvs, k, b, v, ea, ey, eb, l, q2⟩
  · subst ey
    exact d_pop I2 ea ry l (.inl rfl) fun w' s3 I3 rw' => ⟨v, _, I3, rw', q2⟩
  · subst ey
    obtain rfl : iv = Value.ref b := ry
    exact d_popT hu I2 ea eb l q2
end
end SI
end
section
set_option Elab.async false
set_option linter.all false
set_option maxRecDepth 100000
set_option maxHeartbeats 4000000
/-! SI12: dicts, displays, ranges. -/
namespace SI
open PySem PySem.Spec PyProof.Rows L2

section
variable {X : Cx} {W : WX} {G : Wr} {k : Nat} {T : Tab} {a b e o i : Expr} {es : List Expr} {p pos apos : Pos} {fa fb fc : Nv → Hs → Res D} {fs : Nv → Hs → Res (List D)} {ft : Nv → Hs → Res Bool} {x m : Str}
theorem m1_of (hb : superless o = true) (hp : (apos.endLine == pos.line) = true) (hs : starless e = true) : M1 X o m apos e pos :=
  ⟨base_plain hb _ _ _, by rw [star_cons hs]; rfl, hp, by rw [star_cons hs]; rfl⟩
theorem m2_of (hb : superless o = true) (hp : (apos.endLine == pos.line) = true) (hs : starless e = true) (ht : starless i = true) : M2 X o m apos e i pos :=
  ⟨base_plain hb _ _ _, by rw [star_cons hs, star_cons ht]; rfl, hp, by rw [star_cons hs, star_cons ht]; rfl⟩
theorem isDK_inv {c : Cell} (h : isDKC c = true) : ∃ xs, c = .dK xs := by cases c <;> first | exact ⟨_, rfl⟩ | cases h
theorem isDT_inv {c : Cell} (h : isDTC c = true) : ∃ xs, c = .dT xs := by cases c <;> first | exact ⟨_, rfl⟩ | cases h
theorem pop_inv {c : Cell} {ds : List D} {v : D} {c' : Cell} (e : popC c ds = some (v, c')) : (∃ kvs kd x, c = .dK kvs ∧ ds = [kd] ∧ keyOf kd = some x ∧ getK kvs x = some v ∧ c' = .dK (delD kvs x)) ∨ ∃ kvs kd x, c = .dT kvs ∧ ds = [kd] ∧ keyT kd = some x ∧ getK kvs x = some v ∧ c' = .dT (delD kvs x) := by
  unfold popC at e
  split at e
  · split at e
    · rename_i x hx
      split at e
      · rename_i w hw
        cases e; exact .inl ⟨_, _, x, rfl, rfl, hx, hw, rfl⟩
      · cases e
    · cases e
  · split at e
    · rename_i x hx
      split at e
      · rename_i w hw
        cases e; exact .inr ⟨_, _, x, rfl, rfl, hx, hw, rfl⟩
      · cases e
    · cases e
  · cases e
theorem get_inv {c : Cell} {ds : List D} {v : D} {c' : Cell} (e : getC c ds = some (v, c')) : ∃ kd ed o, ds = [kd, ed] ∧ dget c kd = some o ∧ v = o.getD ed ∧ c' = c := by
  unfold getC at e
  split at e
  · split at e
    · rename_i o ho
      cases e; exact ⟨_, _, o, rfl, ho, rfl, rfl⟩
    · cases e
  · cases e
theorem set_same {h : Hs} {n : Nat} {c : Cell} (e : h[n]? = some c) : h.set n c = h := by
  apply List.ext_getElem?
  intro j
  by_cases hj : n = j
  · subst hj
    rw [List.getElem?_set_self (List.getElem?_eq_some_iff.mp e).1, e]
  · rw [List.getElem?_set_ne hj]
/-- d.pop(e) -/
theorem sM_pop (hr : Room k X.A) (hb : superless o = true) (hp : (apos.endLine == pos.line) = true) (hs : starless e = true) (ho : PE X o (tE X W fa)) (he : PE X e (tE X W fb)) :
    PE X (.Call (.Attribute o "pop" apos) [e] [] pos) (tE X W fun env h => (fa env h).bind fun d h => if meOk .pop1 h d then ((fb env h).bind fun y h => Res.ok [y] h).bind fun ds h => meD .pop1 h d ds else .no) :=
  PE.weak (pe_dpopA (by have := hr.units; omega) ho he (m1_of hb hp hs)) fun sg H Q ⟨O, env, h, eo, S, w⟩ => ⟨O, env, h, eo, S, w.bind fun d h1 O1 v H1 _ s1 S1 r1 p1 => by
    by_cases hk : meOk .pop1 h1 d = true
    · rw [if_pos hk] at p1
      obtain ⟨n, cl, rfl, hn, hkc⟩ := meOk_ptr hk
      obtain ⟨hlt, co⟩ := S1.at hn
      have hd : IsD H1 (O1.φ n) := by
        simp only [kindC, Bool.or_eq_true] at hkc
        rcases hkc with q | q
        · obtain ⟨kvs0, rfl⟩ := isDK_inv q
          obtain ⟨ws0, hv0, _⟩ := co
          exact .inl ⟨ws0, .of hv0⟩
        · obtain ⟨kvs0, rfl⟩ := isDT_inv q
          obtain ⟨ws0, hv0, _⟩ := co
          exact .inr ⟨ws0, .of hv0⟩
      cases r1
      refine ⟨_, rfl, hd, O1, env, h1, eo.stp s1, S1, ?_⟩
      rw [Res.bind_assoc] at p1
      refine p1.bind fun y h2 O2 u H2 er s2 S2 r2 p2 => ?_
      obtain ⟨c, v, c', hc, hm, p3⟩ := meD_inv (ds := [y]) p2
      rcases pop_inv hm with ⟨kvs, kd, x, rfl, e1, hx, hg, rfl⟩ | ⟨kvs, kd, x, rfl, e1, hx, hg, rfl⟩
      · cases e1
        obtain ⟨hlt2, ws, hv, rp⟩ := S2.at hc
        rw [← s2.φ n hlt]
        rcases getK_ok rp x with ⟨z, _⟩ | ⟨d', w', z, z2, rv⟩
        · rw [hg] at z; cases z
        · rw [hg] at z; cases z
          obtain ⟨s3, S3⟩ := S2.put (o := .dK (dropK ws x)) hc (by simp) (c := .dK (delD kvs x)) ⟨_, upd_same, delK_ok rp x⟩
          exact .inl ⟨ws, x, w', hv, keyOf_ok hx r2, z2, p3 _ _ _ s3 S3 (rv.stp s3)⟩
      · cases e1
        obtain ⟨hlt2, ws, hv, rp⟩ := S2.at hc
        rw [← s2.φ n hlt]
        rcases getK_ok rp x with ⟨z, _⟩ | ⟨d', w', z, z2, rv⟩
        · rw [hg] at z; cases z
        · rw [hg] at z; cases z
          obtain ⟨s3, S3⟩ := S2.put (o := .dT (dropK ws x)) hc (by simp) (c := .dT (delD kvs x)) ⟨_, upd_same, delK_ok rp x⟩
          obtain ⟨b, rfl, hb⟩ := keyT_ok S2 hx r2
          exact .inr ⟨ws, x, b, w', hv, rfl, hb, z2, p3 _ _ _ s3 S3 (rv.stp s3)⟩
    · rw [if_neg hk] at p1; exact (show False from p1).elim⟩
/-- d.get(e, i) -/
theorem sM_get (hr : Room k X.A) (hb : superless o = true) (hp : (apos.endLine == pos.line) = true) (hs : starless e = true) (ht : starless i = true) (ho : PE X o (tE X W fa)) (he : PE X e (tE X W fb)) (hi : PE X i (tE X W fc)) :
    PE X (.Call (.Attribute o "get" apos) [e, i] [] pos) (tE X W fun env h => (fa env h).bind fun d h => if meOk .get2 h d then ((fb env h).bind fun y h => ((fc env h).bind fun z h => Res.ok [z] h).bind fun zs h => Res.ok (y :: zs) h).bind fun ds h => meD .get2 h d ds else .no) :=
  PE.weak (pe_dget2 (by have := hr.units; omega) ho he hi (m2_of hb hp hs ht)) fun sg H Q ⟨O, env, h, eo, S, w⟩ => ⟨O, env, h, eo, S, w.bind fun d h1 O1 v H1 _ s1 S1 r1 p1 => by
    by_cases hk : meOk .get2 h1 d = true
    · rw [if_pos hk] at p1
      obtain ⟨n, cl, rfl, hn, hkc⟩ := meOk_ptr hk
      obtain ⟨hlt, co⟩ := S1.at hn
      have hd : IsD H1 (O1.φ n) := by
        simp only [kindC, Bool.or_eq_true] at hkc
        rcases hkc with q | q
        · obtain ⟨kvs0, rfl⟩ := isDK_inv q
          obtain ⟨ws0, hv0, _⟩ := co
          exact .inl ⟨ws0, .of hv0⟩
        · obtain ⟨kvs0, rfl⟩ := isDT_inv q
          obtain ⟨ws0, hv0, _⟩ := co
          exact .inr ⟨ws0, .of hv0⟩
      cases r1
      refine ⟨_, rfl, hd, O1, env, h1, eo.stp s1, S1, ?_⟩
      rw [Res.bind_assoc] at p1
      refine p1.bind fun y h2 O2 u H2 er s2 S2 r2 p2 => ⟨O2, env, h2, (eo.stp s1).stp s2, S2, ?_⟩
      rw [Res.bind_assoc, Res.bind_assoc] at p2
      refine p2.bind fun z h3 O3 u3 H3 er s3 S3 r3 p3 => ?_
      obtain ⟨c, v, c', hc, hm, p4⟩ := meD_inv (ds := [y, z]) p3
      obtain ⟨kd, ed, o', e1, hg, rfl, rfl⟩ := get_inv (show getC c [y, z] = some (v, c') from hm)
      cases e1
      rw [set_same hc] at p4
      obtain ⟨o2, g, q⟩ := dget_ok S3 hc (r2.stp s3) hg
      rw [← s2.φ n hlt, ← s3.φ n (Nat.lt_of_lt_of_le hlt s2.n)]
      refine ⟨o2, g, ?_⟩
      rcases q with ⟨rfl, rfl⟩ | ⟨d', w', rfl, rfl, rv⟩
      · exact p4.here S3 r3
      · exact p4.here S3 rv
    · rw [if_neg hk] at p1; exact (show False from p1).elim⟩
/-- d.get(e) -/
theorem sM_get1 (hr : Room k X.A) (hb : superless o = true) (hp : (apos.endLine == pos.line) = true) (hs : starless e = true) (ho : PE X o (tE X W fa)) (he : PE X e (tE X W fb)) :
    PE X (.Call (.Attribute o "get" apos) [e] [] pos) (tE X W fun env h => (fa env h).bind fun d h => if meOk .get2 h d then ((fb env h).bind fun y h => ((Res.ok D.non h).bind fun z h => Res.ok [z] h).bind fun zs h => Res.ok (y :: zs) h).bind fun ds h => meD .get2 h d ds else .no) :=
  PE.weak (pe_dget1 (by have := hr.units; omega) ho he (m1_of hb hp hs)) fun sg H Q ⟨O, env, h, eo, S, w⟩ => ⟨O, env, h, eo, S, w.bind fun d h1 O1 v H1 _ s1 S1 r1 p1 => by
    by_cases hk : meOk .get2 h1 d = true
    · rw [if_pos hk] at p1
      obtain ⟨n, cl, rfl, hn, hkc⟩ := meOk_ptr hk
      obtain ⟨hlt, co⟩ := S1.at hn
      have hd : IsD H1 (O1.φ n) := by
        simp only [kindC, Bool.or_eq_true] at hkc
        rcases hkc with q | q
        · obtain ⟨kvs0, rfl⟩ := isDK_inv q
          obtain ⟨ws0, hv0, _⟩ := co
          exact .inl ⟨ws0, .of hv0⟩
        · obtain ⟨kvs0, rfl⟩ := isDT_inv q
          obtain ⟨ws0, hv0, _⟩ := co
          exact .inr ⟨ws0, .of hv0⟩
      cases r1
      refine ⟨_, rfl, hd, O1, env, h1, eo.stp s1, S1, ?_⟩
      rw [Res.bind_assoc] at p1
      refine p1.bind fun y h2 O2 u H2 er s2 S2 r2 p2 => ?_
      obtain ⟨c, v, c', hc, hm, p4⟩ := meD_inv (ds := [y, .non]) p2
      obtain ⟨kd, ed, o', e1, hg, rfl, rfl⟩ := get_inv (show getC c [y, .non] = some (v, c') from hm)
      cases e1
      rw [set_same hc] at p4
      obtain ⟨o2, g, q⟩ := dget_ok S2 hc r2 hg
      rw [← s2.φ n hlt]
      refine ⟨o2, g, ?_⟩
      rcases q with ⟨rfl, rfl⟩ | ⟨d', w', rfl, rfl, rv⟩
      · exact p4.here S2 .non
      · exact p4.here S2 rv
    · rw [if_neg hk] at p1; exact (show False from p1).elim⟩
/-- {} -/
theorem new_ok {sg : L2.St} {O : Om} {H : Hp} {h : Hs} {c : Cell} {ob : HO} {Q : VK} (S : SR X.K X.mg O h H) {q : Addr} (hq : H q = none) (w : Post X W sg O H (.ok (.ptr h.length) (h ++ [c])) (RepX X) Q) (hc : CellOk X.K X.mg (O.more q) (upd H q ob) q c) : Q (.ref q) (upd H q ob) := by
  obtain ⟨s2, S2⟩ := S.newC (H' := upd H q ob) (p := q) (c := c) hq (fun a o e => by rw [upd_ne (ne_of_none e hq)]; exact e) ⟨_, upd_same⟩ hc
  refine w _ _ _ s2 S2 ?_
  have y : RepX X (O.more q) (.ptr O.n) (.ref ((O.more q).φ O.n)) := .ptr (Nat.lt_succ_self _)
  rw [Om.more_new] at y
  rw [S.len]
  exact y
theorem sE_dic {t : Bool} : PE X (.Dict [] [] pos) (tE X W fun _ h => .ok (.ptr h.length) (h ++ [if t then .dT [] else .dK []])) := by
  cases t with
  | false => exact PE.weak pe_dnewK fun sg H Q ⟨O, env, h, eo, S, w⟩ q hq => new_ok S hq w ⟨[], upd_same, .nil⟩
  | true => exact PE.weak pe_dnewT fun sg H Q ⟨O, env, h, eo, S, w⟩ q hq => new_ok S hq w ⟨[], upd_same, .nil⟩
/-- the pairs of a display -/
structure DPs (X : Cx) (W : WX) (pos : Pos) (keys : List (Option Expr)) (values : List Expr) (ks : List Str) (fs : Nv → Hs → Res (List D)) : Prop where
  run : ∃ trs, PPs X pos keys values trs ∧ ∀ sg H (Q : List (V × V) → Hp → Prop), tA X W fs sg H (fun vs H' => Q ((ks.map V.str).zip vs) H') → tPairs trs sg H Q
  all : keys.all (·.isSome) = true
  len : keys.length = values.length
  lk : keys.length = ks.length
theorem dps_nil : DPs X W pos [] [] [] (fun _ h => .ok [] h) := ⟨⟨[], pps_nil, fun sg H Q ⟨O, env, h, eo, S, w⟩ => w.here S .nil⟩, rfl, rfl, rfl⟩
theorem dps_cons {keys : List (Option Expr)} {values : List Expr} {ks : List Str} {j : Nat} {kp : Pos} {z : Str} (he : PE X e (tE X W fa)) (hr : DPs X W pos keys values ks fs) :
    DPs X W pos (some (.Constant (.str z) j kp) :: keys) (e :: values) (z :: ks) (fun env h => (fa env h).bind fun d h => (fs env h).bind fun ds h => .ok (d :: ds) h) := by
  obtain ⟨trs, pp, hq⟩ := hr.run
  refine ⟨⟨_, pps_cons pe_str he pp, fun sg H Q ⟨O, env, h, eo, S, w⟩ => ?_⟩, ?_, ?_, ?_⟩
  · show tE X W fa sg H fun y H2 => tPairs trs sg H2 fun ps H3 => Q ((V.str z, y) :: ps) H3
    exact ⟨O, env, h, eo, S, w.bind fun d h1 O1 v H1 _ s1 S1 r1 p1 => hq sg H1 _ ⟨O1, env, h1, eo.stp s1, S1, p1.bind fun ds h2 O2 vs H2 _ s2 S2 r2 p2 => p2.here S2 (.cons (r1.stp s2) r2)⟩⟩
  · simpa using hr.all
  · simp [hr.len]
  · simp [hr.lk]
theorem merge_new : ∀ (more kvs : List (Key × V)), ((kvs ++ more).map (·.1)).Nodup → mergeK kvs more = kvs ++ more
  | [], kvs, _ => by show kvs = _; simp
  | q :: r, kvs, h => by
    have hn : valV kvs q.1 = none := by
      cases z : valV kvs q.1 with
      | none => rfl
      | some v =>
        have hm : (kvs.any fun kv => decide (kv.1 = q.1)) = true := by rw [valV_any, z]; rfl
        obtain ⟨y, hy, e⟩ := List.any_eq_true.mp hm
        rw [List.map_append] at h
        exact absurd (of_decide_eq_true e) ((List.nodup_append.mp h).2.2 y.1 (List.mem_map_of_mem hy) q.1 (by simp))
    show mergeK (putK kvs q.1 q.2) r = _
    rw [putK_new q.2 hn, merge_new r (kvs ++ [(q.1, q.2)]) (by simpa using h)]
    simp
theorem zip_rep {O : Om} : ∀ {ks : List Str} {ds : List D} {vs : List V}, RepLX X O ds vs → RepP X.K X.mg O ((ks.map Sum.inr : List Key).zip ds) ((ks.map Sum.inr : List Key).zip vs)
  | [], _, _, _ => by simp; exact .nil
  | _ :: _, _, _, .nil => by simp; exact .nil
  | _ :: _, _, _, .cons r t => .cons r (zip_rep t)
theorem zip_kv : ∀ (ks : List Str) (vs : List V), (ks.map V.str).zip vs = (((ks.map Sum.inr : List Key).zip vs)).map fun kv => (kV kv.1, kv.2)
  | [], _ => rfl
  | _ :: _, [] => rfl
  | k :: ks, v :: vs => by
    show (V.str k, v) :: (ks.map V.str).zip vs = (V.str k, v) :: _
    rw [zip_kv ks vs]; rfl
theorem sE_dicd {keys : List (Option Expr)} {values : List Expr} {ks : List Str} (hr : DPs X W pos keys values ks fs) (h0 : keys ≠ []) (h15 : keys.length ≤ 15) (hn : ks.Nodup) :
    PE X (.Dict keys values pos) (tE X W fun env h => (fs env h).calm.bind fun ds h => if ks.length = ds.length then .ok (.ptr h.length) (h ++ [.dK ((ks.map Sum.inr).zip ds)]) else .no) := by
  obtain ⟨trs, pp, hq⟩ := hr.run
  refine PE.weak (pe_disp pp hr.all hr.len h0 h15) fun sg H Q ⟨O, env, h, eo, S, w⟩ q hp => hq sg _ _ ?_
  obtain ⟨A0, S0⟩ := Apart.new S hp (.dK [])
  refine ⟨O, env, h, eo, S0, ?_⟩
  have w : Post X W sg O H ((fs env h).calm.bind fun ds h => if ks.length = ds.length then .ok (.ptr h.length) (h ++ [.dK ((ks.map Sum.inr).zip ds)]) else .no) (RepX X) Q := w
  cases er : fs env h with
  | no => rw [er] at w; exact w
  | ex e' h' => rw [er] at w; exact (show False from w).elim
  | ok ds h1 =>
    rw [er] at w
    intro O1 vs H1 s1 S1 r1
    obtain ⟨A1, hH1⟩ := A0.stp s1 upd_same
    have w : Post X W sg O H (if ks.length = ds.length then .ok (.ptr h1.length) (h1 ++ [.dK ((ks.map Sum.inr).zip ds)]) else .no) (RepX X) Q := w
    split at w
    · rename_i hl
      have lv : ((ks.map Sum.inr : List Key).zip vs).length ≤ 15 := by
        rw [List.length_zip, List.length_map, ← r1.length, ← hl, Nat.min_self, ← hr.lk]; exact h15
      refine ⟨hH1, (ks.map Sum.inr : List Key).zip vs, zip_kv ks vs, lv, ?_⟩
      have nd : ((([] : List (Key × V)) ++ (ks.map Sum.inr : List Key).zip vs).map (·.1)).Nodup := by
        rw [List.nil_append, List.map_fst_zip (by rw [List.length_map, hl, r1.length]; exact Nat.le_refl _)]
        exact List.Pairwise.map Sum.inr (fun a b e z => e (by cases z; rfl)) hn
      rw [merge_new _ _ nd, List.nil_append]
      have sx : StpX q O H O1 (upd H1 q (.dK ((ks.map Sum.inr : List Key).zip vs))) := (StpX.put q O H _).trans (s1.x.trans (StpX.put q O1 H1 _))
      obtain ⟨s3, S3⟩ := Apart.cell (c := .dK ((ks.map Sum.inr).zip ds)) (A1.srU S1 (.dK ((ks.map Sum.inr : List Key).zip vs))) (A1.upd _) hp sx ⟨_, upd_same, (zip_rep r1).more⟩
      refine w _ _ _ s3 S3 ?_
      have y : RepX X (O1.more q) (.ptr O1.n) (.ref ((O1.more q).φ O1.n)) := .ptr (Nat.lt_succ_self _)
      rw [Om.more_new] at y
      rw [S1.len]
      exact y
    · exact (show False from w).elim
end
end SI
end
section
set_option Elab.async false
set_option linter.all false
set_option maxRecDepth 100000
set_option maxHeartbeats 1000000
/-! SIX4: a dict display of one pair, its key a tuple. -/
namespace SI
open PySem PySem.Spec PyProof.Rows L2
theorem pe_disp1T {X : Cx} {pos : Pos} {k v : Expr} {tk tv : TE} (hu : X.A.units + 1 < cLine) (hk : PE X k tk) (hv : PE X v tv) :
    PE X (.Dict [some k] [v] pos) (fun σ H Q => ∀ p, H p = none → tk σ (upd H p (.dT [])) fun x H1 => tv σ H1 fun y H2 => H2 p = some (.dT []) ∧ ∃ (ks : List Key) (b : Addr), x = .ref b ∧ H2 b = some (.tup (ks.map kV)) ∧ Q (.ref p) (upd H2 p (.dT (putK [] ks y)))) := by
  refine ⟨fun pins s σ H Q I q => ?_⟩
  have hn := I.hok.fresh (Nat.le_refl s.heap.objs.size)
  have I1 := I.laid (a := s.heap.objs.size) (o := .dT []) (h' := s.heap.push { cls := .type "dict", data := .dict #[] }) (t' := s.toks) (fun _ _ q => Heap.get?_push_of_some _ q) (Nat.le_refl _) (dt_empty s.heap I.big)
  rw [arm_eval_Dict, zip_pairTrees [some k] [v] X.env pos rfl rfl, dictDisplay_pairs (pairTrees [some k] [v] X.env pos) (by simp [pairTrees]) (by simp [pairTrees])]
  refine wpAny_bind (wpAny_standAt (wpAny_bind ?_))
  unfold subDict
  refine wpAny_bind (wpAny_alloc ?_)
  refine wpAny_bind (wpAny_holding ?_)
  rw [if_pos (by simp [pairTrees])]
  refine wpAny_bind (pairTrees_cons_walk (thn (hk.run pins _ σ _ _ I1 (q _ hn)) fun u s1 ⟨x, H1, J1, rx, q1⟩ => thn (hv.run pins s1 σ H1 _ J1 q1) fun w2 s2 ⟨y, H2, J2, ry, e, ks, b, ex, eb, q2⟩ => pairTrees_nil_walk ?_))
  subst ex
  cases (show u = Value.ref b from rx)
  refine wpAny_holding (wpAny_bind ?_)
  rw [List.forIn_cons]
  obtain ⟨z, hd, xs, rel, dd⟩ := dt_of J2.hok e
  have hz : xs.length ≤ sizeLine := by rw [← Paired.length rel]; exact z
  have hl : (putK ([] : List (List Key × V)) ks y).length ≤ sizeLine := by
    have := length_putK ([] : List (List Key × V)) ks y
    rw [sizeLine_eq]
    simp at this
    omega
  have ru : (tupleKind (mixKind X.prog X.w)).room X.A := by
    show X.A.units < cLine
    omega
  refine wpAny_bind (wpAny_bind (wpAny_dictSet_heap (hsz := hz) ru (key_of J2.hok eb) dd fun h' dd' hs => ?_))
  refine wpAny_pure ?_
  show wpAny (model X.prog X.w) X.A (forIn ([] : List (Value × Value)) PUnit.unit _) _ _ _
  rw [List.forIn_nil]
  refine wpAny_pure (wpAny_pure (wpAny_pure (wpAny_pure ?_)))
  obtain ⟨q, es, ep, hq, h2, h3, h4, _, h5⟩ := dd'
  have new : ObjOk X.prog X.w (upd H2 s.heap.objs.size (.dT (putK [] ks y))) h' s.heap.objs.size (.dT (putK [] ks y)) := ⟨hl, hd, _, (rel.put ks eb ry).keeps fun c ys ec => by
    rw [upd_ne (ne_of ec e (fun z => nomatch z))]
    exact ec, q, es, ep, hq, h2, h3, h4, h5⟩
  exact ⟨.ref s.heap.objs.size, _, d_write J2 (by rw [e]; exact True.intro) hs ⟨q, hq⟩ new, rfl, q2⟩
section
variable {X : Cx} {W : WX} {a b : Expr} {pos : Pos} {fa fb : Nv → Hs → Res D}
/-- {a: b}, a a tuple -/
theorem sE_dic1 (hu : X.A.units + 1 < cLine) (ha : PE X a (tE X W fa)) (hb : PE X b (tE X W fb)) :
    PE X (.Dict [some a] [b] pos) (tE X W fun env h => (((fa env h).bind fun d h => (fb env h).bind fun u h => Res.ok (d, u) h).calm).bind fun q h => match keyT q.1 with
      | some ks => .ok (.ptr h.length) (h ++ [.dT [(ks, q.2)]])
      | none => .no) := by
  refine PE.weak (pe_disp1T hu ha hb) fun sg H Q ⟨O, env, h, eo, S, w⟩ q hp => ?_
  obtain ⟨A0, S0⟩ := Apart.new S hp (.dT [])
  refine ⟨O, env, h, eo, S0, ?_⟩
  have w : Post X W sg O H ((((fa env h).bind fun d h => (fb env h).bind fun u h => Res.ok (d, u) h).calm).bind fun q h => match keyT q.1 with
      | some ks => .ok (.ptr h.length) (h ++ [.dT [(ks, q.2)]])
      | none => .no) (RepX X) Q := w
  cases er : fa env h with
  | no => rw [er] at w; exact w
  | ex e' h' => rw [er] at w; exact (show False from w).elim
  | ok d h1 =>
    rw [er] at w
    intro O1 v H1 s1 S1 r1
    obtain ⟨A1, hH1⟩ := A0.stp s1 upd_same
    refine ⟨O1, env, h1, eo.stp s1, S1, ?_⟩
    have w : Post X W sg O H ((((fb env h1).bind fun u h => Res.ok (d, u) h).calm).bind fun q h => match keyT q.1 with
      | some ks => .ok (.ptr h.length) (h ++ [.dT [(ks, q.2)]])
      | none => .no) (RepX X) Q := w
    cases er2 : fb env h1 with
    | no => rw [er2] at w; exact w
    | ex e' h' => rw [er2] at w; exact (show False from w).elim
    | ok u h2 =>
      rw [er2] at w
      intro O2 y H2 s2 S2 r2
      obtain ⟨A2, hH2⟩ := A1.stp s2 hH1
      have w : Post X W sg O H (match keyT d with
        | some ks => .ok (.ptr h2.length) (h2 ++ [.dT [(ks, u)]])
        | none => .no) (RepX X) Q := w
      cases ek : keyT d with
      | none => rw [ek] at w; exact (show False from w).elim
      | some ks =>
        rw [ek] at w
        obtain ⟨bb, eb, hbb⟩ := keyT_ok S2 ek (r1.stp s2)
        refine ⟨hH2, ks, bb, eb, hbb, ?_⟩
        have ep : putK ([] : List (List Key × V)) ks y = [(ks, y)] := by simp [putK]
        rw [ep]
        have sx : StpX q O H O2 (upd H2 q (.dT [(ks, y)])) := (StpX.put q O H _).trans (s1.x.trans (s2.x.trans (StpX.put q O2 H2 _)))
        obtain ⟨s3, S3⟩ := Apart.cell (c := .dT [(ks, u)]) (A2.srU S2 (.dT [(ks, y)])) (A2.upd _) hp sx ⟨_, upd_same, (RepP.cons r2 RepP.nil).more⟩
        refine w _ _ _ s3 S3 ?_
        have z : RepX X (O2.more q) (.ptr O2.n) (.ref ((O2.more q).φ O2.n)) := .ptr (Nat.lt_succ_self _)
        rw [Om.more_new] at z
        rw [S2.len]
        exact z
end
end SI
end
section
set_option Elab.async false
set_option linter.all false
set_option maxRecDepth 100000
set_option maxHeartbeats 4000000
/-! SI13: what is walked. -/
namespace SI
open PySem PySem.Spec PyProof.Rows L2

/-- later objects -/
structure Om.Le (O O' : Om) : Prop where
  n : O.n ≤ O'.n
  φ : ∀ i, i < O.n → O'.φ i = O.φ i
  F : ∀ a o, O.F a = some o → O'.F a = some o
theorem Om.Le.refl (O : Om) : O.Le O := ⟨Nat.le_refl _, fun _ _ => rfl, fun _ _ e => e⟩
theorem StpX.le {p : Addr} {O O' : Om} {H H' : Hp} (s : StpX p O H O' H') : O.Le O' := ⟨s.n, s.φ, s.F⟩
theorem Stp.le {O O' : Om} {H H' : Hp} (s : Stp O H O' H') : O.Le O' := ⟨s.n, s.φ, s.F⟩
theorem Om.Le.trans {O O1 O2 : Om} (a : O.Le O1) (b : O1.Le O2) : O.Le O2 := ⟨Nat.le_trans a.n b.n, fun i hi => (b.φ i (Nat.lt_of_lt_of_le hi a.n)).trans (a.φ i hi), fun c o e => b.F c o (a.F c o e)⟩
/-- the iterator J gives the things of xs in turn -/
def SrcOk (X : Cx) (O : Om) (xs : List D) (J : It) : Prop := ∃ (Gd : Hp → Prop) (Y : Nat → Hp → V → Hp → Prop), Walk J xs.length Gd Y ∧
  (∀ (O1 : Om) (h1 : Hs) (H1 : Hp), O.Le O1 → SR X.K X.mg O1 h1 H1 → Gd H1) ∧
  ∀ (O1 : Om) (h1 : Hs) (H1 : Hp) (i : Nat) (d : D) (x : V) (H2 : Hp), O.Le O1 → SR X.K X.mg O1 h1 H1 → xs[i]? = some d → Y i H1 x H2 → ∃ O2, Stp O1 H1 O2 H2 ∧ SR X.K X.mg O2 h1 H2 ∧ RepX X O2 d x
def tI (X : Cx) (W : WX) (k : SrcK) (fs : Nv → Hs → Res (List D)) : TI := fun sg H R => ∃ (O : Om) (env : Nv) (h : Hs), NvOk X.K X.mg O env sg ∧ SR X.K X.mg O h H ∧ Post X W sg O H ((fs env h).bind fun ds h => Res.of (srcD k ds) h) (SrcOk X) R
section
variable {X : Cx} {W : WX} {G : Wr} {k : Nat} {T : Tab} {a b e o i : Expr} {es : List Expr} {p pos apos : Pos} {fa fb fc : Nv → Hs → Res D} {fs : Nv → Hs → Res (List D)} {ft : Nv → Hs → Res Bool} {x m : Str}
theorem seq_at {O O1 : Om} (l : O.Le O1) {h1 : Hs} {H1 : Hp} (S : SR X.K X.mg O1 h1 H1) {d : D} {q : Addr} (r : RepX X O d (.ref q)) {vs : List V} {xs : List D} {b : Bool} (e : valSeq d = some (b, xs)) (rl : RepLX X O xs vs)
    (h : if b = true then SqL X.K O.F q vs else SqT X.K O.F q vs) : if b = true then SqL X.K H1 q vs else SqT X.K H1 q vs := by
  cases b with
  | true => exact sqL_up (fun a o z => S.sub a o (l.F a o z)) h
  | false => exact sqT_up (fun a o z => S.sub a o (l.F a o z)) h
/-- a value that is a sequence -/
theorem valSeq_ok {O : Om} {d : D} {v : V} (r : RepX X O d v) {b : Bool} {xs : List D} (e : valSeq d = some (b, xs)) :
    ∃ (q : Addr) (vs : List V), v = .ref q ∧ (if b = true then SqL X.K O.F q vs else SqT X.K O.F q vs) ∧ RepLX X O xs vs ∧ vs.length ≤ sizeLine := by
  cases r with
  | tup q z t => cases e; exact ⟨_, _, rfl, SqT.of q, t, z⟩
  | lst q z t => cases e; exact ⟨_, _, rfl, SqL.of q, t, z⟩
  | ksl q z t => cases e; exact ⟨_, _, rfl, q, t, z⟩
  | kst q z t => cases e; exact ⟨_, _, rfl, q, t, z⟩
  | _ => cases e
theorem src_list {O : Om} {xs : List D} {vs : List V} {q : Addr} (h : SqL X.K O.F q vs) (rl : RepLX X O xs vs) : SrcOk X O xs (Itl X.K q) := by
  refine ⟨fun H => SqL X.K H q vs, YAt vs, by rw [rl.length]; exact walk_list, fun O1 h1 H1 l S => sqL_up (fun a o z => S.sub a o (l.F a o z)) h, fun O1 h1 H1 i d x H2 l S e ⟨eH, ex⟩ => ?_⟩
  subst eH
  obtain ⟨v, hv, r⟩ := rl.get e
  rw [ex] at hv
  cases hv
  exact ⟨O1, Stp.refl _ _, S, r.up l.n l.φ l.F⟩
theorem src_tup {O : Om} {xs : List D} {vs : List V} {q : Addr} (h : SqT X.K O.F q vs) (rl : RepLX X O xs vs) : SrcOk X O xs (Itt X.K q) := by
  refine ⟨fun H => SqT X.K H q vs, YAt vs, by rw [rl.length]; exact walk_tup, fun O1 h1 H1 l S => sqT_up (fun a o z => S.sub a o (l.F a o z)) h, fun O1 h1 H1 i d x H2 l S e ⟨eH, ex⟩ => ?_⟩
  subst eH
  obtain ⟨v, hv, r⟩ := rl.get e
  rw [ex] at hv
  cases hv
  exact ⟨O1, Stp.refl _ _, S, r.up l.n l.φ l.F⟩
theorem src_str {O : Om} {a : Str} : SrcOk X O (signsD a) (Its a) := by
  have hl : (signsD a).length = a.cps.size := by unfold signsD; rw [List.length_map, Array.length_toList]
  refine ⟨fun _ => True, fun i H v H' => H' = H ∧ ∃ c, a.cps[i]? = some c ∧ v = .str ⟨#[c]⟩, by rw [hl]; exact walk_str, fun _ _ _ _ _ => trivial, fun O1 h1 H1 i d x H2 l S e z => ?_⟩
  obtain ⟨eH, c, hc, ev⟩ := z
  subst eH
  unfold signsD at e
  rw [List.getElem?_map, Option.map_eq_some_iff] at e
  obtain ⟨c', hc', rfl⟩ := e
  rw [Array.getElem?_toList, hc] at hc'
  cases hc'
  rw [ev]
  exact ⟨O1, Stp.refl _ _, S, .str _⟩
/-- a sequence that is no other thing -/
theorem sI_seq {tg : Expr} (he : PE X e (tE X W fa)) : PI X tg e (tI X W .seq fun env h => (fa env h).bind fun d h => .ok [d] h) := ⟨fun pn s sg H R I ⟨O, env, h, eo, S, w⟩ => by
  have w : Post X W sg O H (((fa env h).bind fun d h => Res.ok [d] h).bind fun ds h => Res.of (srcD .seq ds) h) (SrcOk X) R := w
  rw [Res.bind_assoc] at w
  refine thn (he.run pn s sg H (fun v H1 => ∃ O1 d h1, RepX X O1 d v ∧ SR X.K X.mg O1 h1 H1 ∧ Post X W sg O1 H1 (Res.of (srcD .seq [d]) h1) (SrcOk X) R) I ⟨O, env, h, eo, S, w.bind fun d h1 O1 v H1 _ s1 S1 r1 p1 => ⟨O1, d, h1, r1, S1, p1⟩⟩) fun u s1 ⟨v, H1, I1, rx, O1, d, h1, r1, S1, p1⟩ => ?_
  obtain ⟨xs, ex, q⟩ := p1.of S1
  replace ex : seqD d = some xs := ex
  unfold seqD at ex
  split at ex
  · rename_i a
    cases ex
    obtain rfl := r1.str_inv
    obtain ⟨t, rfl⟩ := rx
    cases ha : a.cps.all (· < 128)
    · exact wpAny_pyIter_wide ha ⟨_, [s1.heap.objs.size], _, _, H1, rfl, I1.kept (t' := s1.toks) fun _ _ z => Heap.get?_push_of_some _ z, turn_str _ a t "str_iterator" (.inr rfl), ⟨_, Heap.get?_push_size _ rfl, rfl, rfl⟩, fun c hc => by rw [List.mem_singleton.mp hc]; exact I1.fpOk (Nat.le_refl _) I1.fresh, q _ src_str⟩
    · exact wpAny_pyIter_ascii ha ⟨_, [s1.heap.objs.size], _, _, H1, rfl, I1.kept (t' := s1.toks) fun _ _ z => Heap.get?_push_of_some _ z, turn_str _ a t "str_ascii_iterator" (.inl rfl), ⟨_, Heap.get?_push_size _ rfl, rfl, rfl⟩, fun c hc => by rw [List.mem_singleton.mp hc]; exact I1.fpOk (Nat.le_refl _) I1.fresh, q _ src_str⟩
  simp only [Option.map_eq_some_iff] at ex
  obtain ⟨⟨l, ys⟩, ev, rfl⟩ := ex
  obtain ⟨t, vs, rfl, hq, rl, _⟩ := valSeq_ok r1 ev
  obtain rfl : u = Value.ref t := rx
  cases l with
  | true =>
    obtain ⟨its, _, pl, _⟩ := I1.list (sqL_up S1.sub hq)
    refine wpAny_pyIter_list pl.isList ⟨_, [s1.heap.objs.size], _, _, H1, rfl, I1.kept (t' := s1.toks) fun _ _ z => Heap.get?_push_of_some _ z, turn_list t s1.heap.objs.size, ⟨_, Heap.get?_push_size _ rfl, rfl, rfl⟩, fun c hc => ?_, q _ (src_list hq rl)⟩
    rw [List.mem_singleton.mp hc]
    exact I1.fpOk (Nat.le_refl _) I1.fresh
  | false =>
    obtain ⟨its, _, pl, _⟩ := I1.tuple (sqT_up S1.sub hq)
    refine wpAny_pyIter_tuple pl ⟨_, [s1.heap.objs.size], _, _, H1, rfl, I1.kept (t' := s1.toks) fun _ _ z => Heap.get?_push_of_some _ z, turn_tuple t s1.heap.objs.size, ⟨_, Heap.get?_push_size _ rfl, rfl, rfl⟩, fun c hc => ?_, q _ (src_tup hq rl)⟩
    rw [List.mem_singleton.mp hc]
    exact I1.fpOk (Nat.le_refl _) I1.fresh⟩
theorem one_len {r : Res D} {ds : List D} {h1 : Hs} (e : (r.bind fun d h => Res.ok [d] h) = .ok ds h1) : ds.length = 1 := by
  cases r with
  | ok d h => cases e; rfl
  | ex x h => cases e
  | no => cases e
theorem two_len {r : Res D} {g : Hs → Res D} {ds : List D} {h1 : Hs} (e : (r.bind fun d h => ((g h).bind fun d2 h => Res.ok [d2] h).bind fun ds h => Res.ok (d :: ds) h) = .ok ds h1) : ds.length = 2 := by
  cases r with
  | ok d h =>
    have e : (((g h).bind fun d2 h => Res.ok [d2] h).bind fun ds h => Res.ok (d :: ds) h) = .ok ds h1 := e
    cases q : g h with
    | ok d2 h2 => rw [q] at e; cases e; rfl
    | ex x h => rw [q] at e; cases e
    | no => rw [q] at e; cases e
  | ex x h => cases e
  | no => cases e
theorem rng_get {lo : Int} {n i : Nat} {d : D} (e : ((List.range n).map fun i => D.int (lo + (i : Nat)))[i]? = some d) : d = .int (lo + (i : Nat)) := by
  rw [List.getElem?_map] at e
  cases q : (List.range n)[i]? with
  | none => rw [q] at e; cases e
  | some j =>
    rw [q] at e
    have : j = i := by rw [List.getElem?_range (by have := (List.getElem?_eq_some_iff.mp q).1; simpa using this)] at q; exact (Option.some.inj q).symm
    subst this
    exact (Option.some.inj e).symm
theorem src_rng {O : Om} {lo hi : Int} : SrcOk X O (rngD lo hi) (Itr lo (hi - lo).toNat) := by
  refine ⟨fun _ => True, YFn fun i => .int (lo + (i : Nat)), ?_, fun _ _ _ _ _ => trivial, fun O1 h1 H1 i d x H2 l S e ⟨eH, ex⟩ => ?_⟩
  · rw [show (rngD lo hi).length = (hi - lo).toNat by simp [rngD]]
    exact walk_range
  · subst eH
    rw [rng_get e, ex]
    exact ⟨O1, Stp.refl _ _, S, .int _⟩
theorem rngOk_ok {i : Int} (h : rngOk i = true) : -(2 ^ 62) ≤ i ∧ i < 2 ^ 62 := by
  have z := of_decide_eq_true h
  omega
theorem sI_rng1 {tg : Expr} (hg : Gl X "range") (hm : X.mg "range" = none) (hs : starless a = true) (ha : PE X a (tE X W fa)) : PI X tg (.Call (.Name "range" p) [a] [] pos) (tI X W .rng fun env h => (fa env h).bind fun d h => .ok [d] h) :=
  PI.weak (pi_range1 hg hm (sA_one hs ha) (star_cons hs [] X.env)) fun sg H R ⟨O, env, h, eo, S, w⟩ => ⟨O, env, h, eo, S, w.bind fun ds h1 O1 vs H1 er s1 S1 r1 p1 => by
    obtain ⟨xs, ex, q⟩ := p1.of S1
    have ex : rngA ds = some xs := ex
    unfold rngA at ex
    split at ex
    · rename_i j _
      split at ex
      · rename_i hj
        cases ex
        cases r1 with
        | cons r t =>
          cases t
          have hj := rngOk_ok hj
          refine ⟨j, by rw [r.int_inv], hj.1, hj.2, ?_⟩
          have z := q _ (src_rng (X := X) (O := O1) (lo := 0) (hi := j))
          rwa [Int.sub_zero] at z
      · cases ex
    · have z := one_len er
      cases z
    · cases ex⟩
theorem sI_rng2 {tg : Expr} (hg : Gl X "range") (hm : X.mg "range" = none) (hs : starless a = true) (ht : starless b = true) (ha : PE X a (tE X W fa)) (hb : PE X b (tE X W fb)) :
    PI X tg (.Call (.Name "range" p) [a, b] [] pos) (tI X W .rng fun env h => (fa env h).bind fun d h => ((fb env h).bind fun d2 h => Res.ok [d2] h).bind fun ds h => .ok (d :: ds) h) :=
  PI.weak (pi_range2 hg hm (sA_cons hs ha (sA_one ht hb)) (by rw [star_cons hs, star_cons ht]; rfl) (star_cons ht [] X.env)) fun sg H R ⟨O, env, h, eo, S, w⟩ => ⟨O, env, h, eo, S, w.bind fun ds h1 O1 vs H1 er s1 S1 r1 p1 => by
    obtain ⟨xs, ex, q⟩ := p1.of S1
    have ex : rngA ds = some xs := ex
    unfold rngA at ex
    split at ex
    · have z := two_len (g := fun h => fb env h) er
      cases z
    · rename_i i j _
      split at ex
      · rename_i hj
        simp only [Bool.and_eq_true] at hj
        cases ex
        cases r1 with
        | cons r t =>
          cases t with
          | cons r2 t =>
            cases t
            have h1 := rngOk_ok hj.1
            have h2 := rngOk_ok hj.2
            exact ⟨i, j, by rw [r.int_inv, r2.int_inv], ⟨h1.1, h1.2, h2.1, h2.2⟩, q _ src_rng⟩
      · cases ex
    · cases ex⟩
theorem zip_len : ∀ xs ys : List D, (zipD xs ys).length = min xs.length ys.length
  | [], _ => by simp [zipD]
  | _ :: _, [] => by simp [zipD]
  | x :: xs, y :: ys => by simp [zipD, zip_len xs ys, Nat.succ_min_succ]
theorem zip_get : ∀ {xs ys : List D} {i : Nat} {d : D}, (zipD xs ys)[i]? = some d → ∃ x y, xs[i]? = some x ∧ ys[i]? = some y ∧ d = .tup [x, y]
  | [], _, _, _, e => by simp [zipD] at e
  | _ :: _, [], _, _, e => by simp [zipD] at e
  | x :: xs, y :: ys, 0, d, e => by simp [zipD] at e; exact ⟨x, y, rfl, rfl, e.symm⟩
  | x :: xs, y :: ys, i + 1, d, e => by
    have e : (zipD xs ys)[i]? = some d := by simpa [zipD] using e
    obtain ⟨u, v, h1, h2, h3⟩ := zip_get e
    exact ⟨u, v, by simpa using h1, by simpa using h2, h3⟩
theorem small2 : (2 : Nat) ≤ sizeLine := by rw [sizeLine_eq]; decide
theorem pair_ok {O O1 : Om} {h1 : Hs} {H1 H2 : Hp} {x y : D} {v w z : V} {t : Addr} (l : O.Le O1) (S : SR X.K X.mg O1 h1 H1) (rx : RepX X O x v) (ry : RepX X O y w) (ht : H1 t = none) (e : H2 = upd H1 t (.tup [v, w])) (ez : z = .ref t) :
    ∃ O2, Stp O1 H1 O2 H2 ∧ SR X.K X.mg O2 h1 H2 ∧ RepX X O2 (.tup [x, y]) z := by
  subst e ez
  obtain ⟨s2, S2⟩ := S.newF ht (.tup [v, w])
  exact ⟨_, s2, S2, frz_tup S ht small2 (.cons (rx.up l.n l.φ l.F) (.cons (ry.up l.n l.φ l.F) .nil))⟩
theorem walk_zipT {K : PySem.W.Frag} {a b : Addr} {xs ys : List V} {n : Nat} (hn : n = min xs.length ys.length) : Walk (RZ.ItzT K a b) n (fun H => SqT K H a xs ∧ SqT K H b ys) (YPair (fun i => xs[i]?) (fun i => ys[i]?)) := by
  subst hn
  refine ⟨fun i _ hi q => ?_, fun _ q => ⟨xs, ys, q.1, q.2, by omega⟩, fun i H v H' _ q ⟨T, x, z, h1, h2, h3, h4, h5⟩ => ⟨T, x, z, h1, h2, h3, h4 xs q.1, h5 ys q.2⟩⟩
  have i1 : i < xs.length := by omega
  have i2 : i < ys.length := by omega
  exact ⟨xs, ys, xs[i], ys[i], q.1, q.2, List.getElem?_eq_getElem i1, List.getElem?_eq_getElem i2⟩
theorem sI_zip {elts : List Expr} {kk : Nat} {tpos : Pos} (hg : Gl X "zip") (hm : X.mg "zip" = none) (hs : starless a = true) (ht : starless b = true) (ha : PE X a (tE X W fa)) (hb : PE X b (tE X W fb)) :
    PI X (.Tuple elts kk tpos) (.Call (.Name "zip" p) [a, b] [] pos) (tI X W .zip fun env h => (fa env h).bind fun d h => ((fb env h).bind fun d2 h => Res.ok [d2] h).bind fun ds h => .ok (d :: ds) h) :=
  PI.weak (RZ.pi_zipA hg hm (sA_cons hs ha (sA_one ht hb)) (star_cons hs _ _) (by rw [star_cons ht]; rfl)) fun sg H R ⟨O, env, h, eo, S, w⟩ => ⟨O, env, h, eo, S, w.bind fun ds h1 O1 vs H1 er s1 S1 r1 p1 => by
    obtain ⟨zs, ex, q⟩ := p1.of S1
    have one : ∀ (l : Bool) (x y : D) (xs ys : List D), ds = [x, y] → valSeq x = some (l, xs) → valSeq y = some (l, ys) → zs = zipD xs ys →
        ∃ a b ws us, vs = [.ref a, .ref b] ∧ ((SqL X.K H1 a ws ∧ SqL X.K H1 b us ∧ R (Itz X.K a b) H1) ∨ (SqT X.K H1 a ws ∧ SqT X.K H1 b us ∧ R (RZ.ItzT X.K a b) H1)) := fun l x y xs ys ed ea eb ez => by
      subst ed
      cases r1 with
      | cons rx t =>
        cases t with
        | cons ry t =>
          cases t
          obtain ⟨q1, ws, rfl, h1, rw1, _⟩ := valSeq_ok rx ea
          obtain ⟨q2, us, rfl, h2, rw2, _⟩ := valSeq_ok ry eb
          refine ⟨q1, q2, ws, us, rfl, ?_⟩
          have hn : zs.length = min ws.length us.length := by rw [ez, zip_len, rw1.length, rw2.length]
          cases l with
          | true =>
            refine .inl ⟨sqL_up S1.sub h1, sqL_up S1.sub h2, q _ ⟨fun H => SqL X.K H q1 ws ∧ SqL X.K H q2 us, _, walk_zip hn, fun O2 h2' H2 l S => ⟨sqL_up (fun a o z => S.sub a o (l.F a o z)) h1, sqL_up (fun a o z => S.sub a o (l.F a o z)) h2⟩, fun O2 h2' H2 i d x' H3 l S e ⟨t, x1, y1, e1, e2, e3, e4, e5⟩ => ?_⟩⟩
            rw [ez] at e
            obtain ⟨u1, u2, g1, g2, rfl⟩ := zip_get e
            obtain ⟨v1, k1, r1⟩ := rw1.get g1
            obtain ⟨v2, k2, r2⟩ := rw2.get g2
            have e4 : ws[i]? = some x1 := e4
            have e5 : us[i]? = some y1 := e5
            rw [k1] at e4
            rw [k2] at e5
            cases e4
            cases e5
            exact pair_ok l S r1 r2 e2 e3 e1
          | false =>
            refine .inr ⟨sqT_up S1.sub h1, sqT_up S1.sub h2, q _ ⟨fun H => SqT X.K H q1 ws ∧ SqT X.K H q2 us, _, walk_zipT hn, fun O2 h2' H2 l S => ⟨sqT_up (fun a o z => S.sub a o (l.F a o z)) h1, sqT_up (fun a o z => S.sub a o (l.F a o z)) h2⟩, fun O2 h2' H2 i d x' H3 l S e ⟨t, x1, y1, e1, e2, e3, e4, e5⟩ => ?_⟩⟩
            rw [ez] at e
            obtain ⟨u1, u2, g1, g2, rfl⟩ := zip_get e
            obtain ⟨v1, k1, r1⟩ := rw1.get g1
            obtain ⟨v2, k2, r2⟩ := rw2.get g2
            have e4 : ws[i]? = some x1 := e4
            have e5 : us[i]? = some y1 := e5
            rw [k1] at e4
            rw [k2] at e5
            cases e4
            cases e5
            exact pair_ok l S r1 r2 e2 e3 e1
    have ex : srcD .zip ds = some zs := ex
    simp only [srcD] at ex
    split at ex
    · rename_i x y _
      split at ex
      · rename_i xs hx
        split at ex
        · rename_i ys hy
          cases ex; exact one true x y xs ys rfl hx hy rfl
        · cases ex
      · rename_i xs hx
        split at ex
        · rename_i ys hy
          cases ex; exact one false x y xs ys rfl hx hy rfl
        · cases ex
      · cases ex
    · cases ex⟩
theorem enum_len : ∀ (xs : List D) (i : Nat), (enumD i xs).length = xs.length
  | [], _ => rfl
  | x :: xs, i => by simp [enumD, enum_len xs (i + 1)]
theorem enum_get : ∀ {xs : List D} {j i : Nat} {d : D}, (enumD j xs)[i]? = some d → ∃ x, xs[i]? = some x ∧ d = .tup [.int ((j + i : Nat) : Int), x]
  | [], _, _, _, e => by simp [enumD] at e
  | x :: xs, j, 0, d, e => by simp [enumD] at e; exact ⟨x, rfl, e.symm⟩
  | x :: xs, j, i + 1, d, e => by
    have e : (enumD (j + 1) xs)[i]? = some d := by simpa [enumD] using e
    obtain ⟨u, h1, h3⟩ := enum_get e
    exact ⟨u, by simpa using h1, by rw [h3, show j + 1 + i = j + (i + 1) by omega]⟩
theorem sI_enum {elts : List Expr} {kk : Nat} {tpos : Pos} (hg : Gl X "enumerate") (hm : X.mg "enumerate" = none) (hs : starless a = true) (ha : PE X a (tE X W fa)) :
    PI X (.Tuple elts kk tpos) (.Call (.Name "enumerate" p) [a] [] pos) (tI X W .enum fun env h => (fa env h).bind fun d h => .ok [d] h) :=
  PI.weak (pi_enumA hg hm (sA_one hs ha) (star_cons hs [] X.env)) fun sg H R ⟨O, env, h, eo, S, w⟩ => ⟨O, env, h, eo, S, w.bind fun ds h1 O1 vs H1 er s1 S1 r1 p1 => by
    obtain ⟨zs, ex, q⟩ := p1.of S1
    have ex : srcD .enum ds = some zs := ex
    simp only [srcD] at ex
    split at ex
    · rename_i d _
      split at ex
      · rename_i l xs hx
        cases ex
        cases r1 with
        | cons rx t =>
          cases t
          obtain ⟨q1, ws, rfl, h1, rw1, _⟩ := valSeq_ok rx hx
          cases l with
          | true =>
            refine ⟨q1, ws, rfl, .inl ⟨sqL_up S1.sub h1, q _ ⟨fun H => SqL X.K H q1 ws, YPair (fun i => some (.int (i : Nat))) (fun i => ws[i]?), by rw [enum_len, rw1.length]; exact walk_enum, fun O2 h2' H2 l S => sqL_up (fun a o z => S.sub a o (l.F a o z)) h1, fun O2 h2' H2 i d x' H3 l S e ⟨t, x1, y1, e1, e2, e3, e4, e5⟩ => ?_⟩⟩⟩
            obtain ⟨u1, g1, rfl⟩ := enum_get e
            obtain ⟨v1, k1, r1⟩ := rw1.get g1
            have e4 : some (V.int (i : Nat)) = some x1 := e4
            have e5 : ws[i]? = some y1 := e5
            rw [k1] at e5
            cases e4
            cases e5
            rw [Nat.zero_add]
            exact pair_ok l S (.int _) r1 e2 e3 e1
          | false =>
            refine ⟨q1, ws, rfl, .inr ⟨sqT_up S1.sub h1, q _ ⟨fun H => SqT X.K H q1 ws, YPair (fun i => some (.int (i : Nat))) (fun i => ws[i]?), by rw [enum_len, rw1.length]; exact walk_enumT, fun O2 h2' H2 l S => sqT_up (fun a o z => S.sub a o (l.F a o z)) h1, fun O2 h2' H2 i d x' H3 l S e ⟨t, x1, y1, e1, e2, e3, e4, e5⟩ => ?_⟩⟩⟩
            obtain ⟨u1, g1, rfl⟩ := enum_get e
            obtain ⟨v1, k1, r1⟩ := rw1.get g1
            have e4 : some (V.int (i : Nat)) = some x1 := e4
            have e5 : ws[i]? = some y1 := e5
            rw [k1] at e5
            cases e4
            cases e5
            rw [Nat.zero_add]
            exact pair_ok l S (.int _) r1 e2 e3 e1
      · cases ex
    · cases ex⟩
end
end SI
end
section
set_option Elab.async false
set_option linter.all false
set_option maxRecDepth 100000
set_option maxHeartbeats 4000000
/-! SI14: targets, comprehensions, ranges. -/
namespace SI
open PySem PySem.Spec PyProof.Rows L2

mutual
def ids : Tg → List Nat
  | .n i => [i]
  | .t ts => idsL ts
def idsL : List Tg → List Nat
  | [] => []
  | t :: ts => ids t ++ idsL ts
end
/-- nothing but these slots is new -/
def OnlyAt (l : List Nat) (sg sg' : L2.St) : Prop := ∀ j, j ∉ l → sg'[j]? = sg[j]?
section
variable (X : Cx)
def gT (tg : Tg) : TG := fun v sg H Q => ∃ (O : Om) (h : Hs) (d : D) (env env' : Nv), SR X.K X.mg O h H ∧ NvOk X.K X.mg O env sg ∧ RepX X O d v ∧ asg tg d env = some env' ∧ ∀ sg', NvOk X.K X.mg O env' sg' → OnlyAt (ids tg) sg sg' → Q sg' H
def gTs (ts : List Tg) : TGs := fun vs sg H Q => ∃ (O : Om) (h : Hs) (ds : List D) (env env' : Nv), SR X.K X.mg O h H ∧ NvOk X.K X.mg O env sg ∧ RepLX X O ds vs ∧ asgs ts ds env = some env' ∧ ∀ sg', NvOk X.K X.mg O env' sg' → OnlyAt (idsL ts) sg sg' → Q sg' H
end
section
variable {X : Cx} {W : WX} {G : Wr} {k : Nat} {T : Tab} {a b e o i : Expr} {es : List Expr} {p pos apos : Pos} {fa fb fc : Nv → Hs → Res D} {fs : Nv → Hs → Res (List D)} {ft : Nv → Hs → Res Bool} {x m : Str}
theorem PG.weak {t : Expr} {g g' : TG} (p : PG X t g) (k : ∀ v sg H Q, g' v sg H Q → g v sg H Q) : PG X t g' := ⟨fun pn s sg H v u Q I r w => p.run pn s sg H v u Q I r (k v sg H Q w)⟩
theorem PGs.weak {t : List Expr} {g g' : TGs} (p : PGs X t g) (k : ∀ v sg H Q, g' v sg H Q → g v sg H Q) : PGs X t g' := ⟨fun pn s sg H v u Q I r w => p.run pn s sg H v u Q I r (k v sg H Q w)⟩
theorem sG_name {i : Nat} (hN : X.N.Nodup) (hi : X.N[i]? = some x) (hx : Loc X.env.scope x) (hf : X.fn x = true ∨ X.env.scope.names.lookup x = some .local) : PG X (.Name x pos) (gT X (.n i)) :=
  PG.weak (pg_name hN hi hx hf) fun v sg H Q ⟨O, h, d, env, env', S, eo, r, ea, q⟩ => by
    cases ea
    exact q _ (eo.set i r) fun j hj => List.getElem?_set_ne (fun z => hj (by rw [← z]; exact List.mem_singleton.mpr rfl))
theorem asgE_cons {e : Expr} (h : starless e = true) (es : List Expr) (env : PySem.Env) : assignEach (e :: es) env = (false, assign e env) :: assignEach es env := by
  cases e <;> first | rfl | cases h
theorem sG_nil : PGs X [] (gTs X []) := PGs.weak pgs_nil fun v sg H Q ⟨O, h, ds, env, env', S, eo, r, ea, q⟩ => by
  cases ds with
  | nil => cases r; cases ea; exact ⟨rfl, q sg eo fun _ _ => rfl⟩
  | cons => cases ea
theorem sG_cons {t : Tg} {ts : List Tg} (hs : starless e = true) (h1 : PG X e (gT X t)) (h2 : PGs X es (gTs X ts)) : PGs X (e :: es) (gTs X (t :: ts)) :=
  PGs.weak (pgs_cons h1 h2 (by rw [asgE_cons hs]; rfl)) fun v sg H Q ⟨O, h, ds, env, env', S, eo, r, ea, q⟩ => by
    cases ds with
    | nil => cases ea
    | cons d ds =>
      cases r with
      | cons r rr =>
        simp only [asgs] at ea
        split at ea
        · rename_i env1 h1
          exact ⟨_, _, rfl, O, h, d, env, env1, S, eo, r, h1, fun sg1 e1 o1 => ⟨O, h, ds, env1, env', S, e1, rr, ea, fun sg2 e2 o2 => q sg2 e2 fun j hj => by
            rw [o2 j (fun z => hj (by show j ∈ ids t ++ idsL ts; exact List.mem_append_right _ z)), o1 j (fun z => hj (by show j ∈ ids t ++ idsL ts; exact List.mem_append_left _ z))]⟩⟩
        · cases ea
theorem asgE_len : ∀ {es : List Expr} {env : PySem.Env}, es.all starless = true → (assignEach es env).length = es.length ∧ (assignEach es env).findIdx? (·.1) = none
  | [], _, _ => ⟨rfl, rfl⟩
  | e :: es, env, h => by
    have h1 : starless e = true ∧ es.all starless = true := by simpa using h
    obtain ⟨l, n⟩ := asgE_len (env := env) h1.2
    rw [asgE_cons h1.1]
    exact ⟨by simp [l], by simp [List.findIdx?_cons, n]⟩
theorem asgs_len : ∀ {ts : List Tg} {ds : List D} {env env' : Nv}, asgs ts ds env = some env' → ds.length = ts.length
  | [], [], _, _, _ => rfl
  | [], _ :: _, _, _, e => by cases e
  | _ :: _, [], _, _, e => by cases e
  | t :: ts, d :: ds, env, env', e => by
    simp only [asgs] at e
    split at e
    · simp [asgs_len e]
    · cases e
theorem pg_either {e : Expr} {t u : TG} (a : PG X e t) (b : PG X e u) : PG X e (fun v sg H Q => t v sg H Q ∨ u v sg H Q) :=
  ⟨fun pins s sg H v w Q I r hw => hw.elim (a.run pins s sg H v w Q I r) (b.run pins s sg H v w Q I r)⟩
theorem sG_tup {ts : List Tg} {j : Nat} (hc : X.calm = true) (hs : es.all starless = true) (hl : es.length = ts.length) (h : PGs X es (gTs X ts)) : PG X (.Tuple es j pos) (gT X (.t ts)) :=
  PG.weak (pg_either (pg_tup (n := es.length) hc h (asgE_len hs).1 (asgE_len hs).2) (pg_unl (n := es.length) hc h (asgE_len hs).1 (asgE_len hs).2)) fun v sg H Q ⟨O, h, d, env, env', S, eo, r, ea, q⟩ => by
    simp only [asg] at ea
    split at ea
    · rename_i b xs hx
      obtain ⟨t, vs, rfl, hq, rl, _⟩ := valSeq_ok r hx
      cases b with
      | false => exact .inl ⟨t, vs, rfl, sqT_up S.sub hq, by rw [← rl.length, asgs_len ea, hl], O, h, xs, env, env', S, eo, rl, ea, q⟩
      | true => exact .inr ⟨t, vs, rfl, sqL_up S.sub hq, by rw [← rl.length, asgs_len ea, hl], O, h, xs, env, env', S, eo, rl, ea, q⟩
    · cases ea

mutual
theorem asg_length : ∀ {t : Tg} {d : D} {env env' : Nv}, asg t d env = some env' → env'.length = env.length
  | .n i, d, env, env', e => by cases e; simp
  | .t ts, d, env, env', e => by
    simp only [asg] at e
    split at e
    · exact asgs_length e
    · cases e
theorem asgs_length : ∀ {ts : List Tg} {ds : List D} {env env' : Nv}, asgs ts ds env = some env' → env'.length = env.length
  | [], [], _, _, e => by cases e; rfl
  | [], _ :: _, _, _, e => by cases e
  | _ :: _, [], _, _, e => by cases e
  | t :: ts, d :: ds, env, env', e => by
    simp only [asgs] at e
    split at e
    · rename_i env1 h1
      rw [asgs_length e, asg_length h1]
    · cases e
end
theorem wipeE_length : ∀ (l : List Nat) (env : Nv), (wipeE env l).length = env.length
  | [], _ => rfl
  | v :: vs, env => by unfold wipeE; rw [List.length_set, wipeE_length vs env]
/-! ### comprehensions -/
theorem wipe_get {σ : L2.St} {j : Nat} : ∀ {vs : List Nat}, (wipe σ vs)[j]? = if j ∈ vs then (σ[j]?).map (fun _ => none) else σ[j]?
  | [] => by simp [wipe]
  | v :: vs => by
    show ((wipe σ vs).set v none)[j]? = _
    by_cases hj : v = j
    · subst hj
      rw [if_pos (by simp)]
      by_cases hl : v < (wipe σ vs).length
      · rw [List.getElem?_set_self hl]
        rw [wipe_length] at hl
        rw [List.getElem?_eq_getElem hl]; rfl
      · rw [List.getElem?_eq_none (by rw [List.length_set]; omega)]
        rw [wipe_length] at hl
        rw [List.getElem?_eq_none (by omega)]; rfl
    · rw [List.getElem?_set_ne hj, wipe_get]
      have : (j ∈ v :: vs) ↔ j ∈ vs := by simp [Ne.symm hj]
      by_cases h : j ∈ vs
      · rw [if_pos h, if_pos (this.mpr h)]
      · rw [if_neg h, if_neg (fun z => h (this.mp z))]
theorem wipe_eq {σ σ2 : L2.St} {l vs : List Nat} (hl : σ2.length = σ.length) (h : OnlyAt l (wipe σ vs) σ2) (sub : ∀ j ∈ l, j ∈ vs) : wipe σ2 vs = wipe σ vs := by
  apply List.ext_getElem?
  intro j
  rw [wipe_get, wipe_get]
  by_cases hj : j ∈ vs
  · rw [if_pos hj, if_pos hj]
    by_cases hb : j < σ.length
    · rw [List.getElem?_eq_getElem hb, List.getElem?_eq_getElem (by omega)]; rfl
    · rw [List.getElem?_eq_none (by omega), List.getElem?_eq_none (by omega)]
  · rw [if_neg hj, if_neg hj, h j (fun z => hj (sub j z)), wipe_get, if_neg hj]
theorem NvOk.le {O O' : Om} {env : Nv} {sg : L2.St} (e : NvOk X.K X.mg O env sg) (s : O.Le O') : NvOk X.K X.mg O' env sg :=
  ⟨e.len, fun i d q => let ⟨v, a, b⟩ := e.val i d q; ⟨v, a, b.up s.n s.φ s.F⟩⟩
def W0 : WX := fun _ _ _ _ => False
/-- one turn of a comprehension -/
def turnF (tg : Tg) (ft : Nv → Hs → Res Bool) (fe : Nv → Hs → Res D) (env : Nv) : D → Hs → Res (Option D) := fun x h => ((Res.of (asg tg x env) h).bind fun env2 h => (ft env2 h).bind fun b h => if b then (fe env2 h).bind fun y h => .ok (some y) h else .ok none h).calm
theorem reL_end {sg : L2.St} {O1 O' : Om} {H1 H' : Hp} {h' : Hs} {mm : Bool} {acc : List D} {vs : List V} {Q : VK} {q : Addr} (S : SR X.K X.mg O' h' H') (A : Apart O' H' q) (e : H' q = some (.lst vs)) (rl : RepLX X O' acc vs) (z : vs.length ≤ sizeLine)
    (hq : H1 q = none) (sx : StpX q O1 H1 O' H') (w : Post X W sg O1 H1 (reL mm (.ok (.lst acc) h')) (RepX X) Q) : Q (.ref q) H' := by
  cases mm with
  | false =>
    obtain ⟨s3, S3⟩ := A.frz S e hq sx
    refine (show Post X W sg O1 H1 (.ok (.lst acc) h') (RepX X) Q from w) _ _ _ s3 S3 (.lst (vs := vs) ?_ z (RepL.up (O := O') (O' := O'.frz q (.lst vs)) (Nat.le_refl _) (fun _ _ => rfl) (fun b u t => ?_) rl))
    · show upd O'.F q (.lst vs) q = _
      rw [upd_same]
    · show upd O'.F q (.lst vs) b = _
      rw [upd_ne (fun y => by rw [y, A.nf] at t; cases t)]; exact t
  | true =>
    obtain ⟨s3, S3⟩ := A.cell S hq sx (c := .lst acc) ⟨vs, e, z, rl.more⟩
    refine (show Post X W sg O1 H1 (.ok (.ptr h'.length) (h' ++ [.lst acc])) (RepX X) Q from w) _ _ _ s3 S3 ?_
    have y : RepX X (O'.more q) (.ptr O'.n) (.ref ((O'.more q).φ O'.n)) := .ptr (Nat.lt_succ_self _)
    rw [Om.more_new] at y
    rw [S.len]; exact y
theorem sE_comp {tg : Tg} {tgE iter elt : Expr} {ifs : List Expr} {scope : Scope} {own : List (Str × Nat)} {kS : SrcK} {fe : Nv → Hs → Res D} {mm : Bool} (c : XOk X W G k T) (hi : PI X tgE iter (tI X W kS fs)) (ok : BlkOk X.N X.env.scope scope own)
    (hg : ∀ (s : Shared) (H : Hp) (C : Addr) (cl : List (Str × Addr)) (fp : List Addr), PG (X.blk s H scope (compEnvC scope cl C X.env) fp) tgE (gT X tg))
    (ht : ∀ (s : Shared) (H : Hp) (C : Addr) (cl : List (Str × Addr)) (fp : List Addr), PTs (X.blk s H scope (compEnvC scope cl C X.env) fp) ifs (tT X W0 ft))
    (he : ∀ (s : Shared) (H : Hp) (C : Addr) (cl : List (Str × Addr)) (fp : List Addr), PE (X.blk s H scope (compEnvC scope cl C X.env) fp) elt (tE X W0 fe))
    (hs : setless iter = true) (hsub : ∀ j ∈ ids tg, j ∈ own.map (·.2)) :
    ∃ t, PE X (.ListComp elt [⟨tgE, iter, ifs, 0⟩] scope pos) t ∧ t = tLc (tI X W kS fs) (gT X tg) (tT X W0 ft) (tE X W0 fe) (own.map (·.2)) ∧
      ∀ sg H Q, tE X W (fun env h => reL mm ((fs env h).bind fun ds h => (Res.of (srcD kS ds) h).bind fun xs h => if xs.length ≤ LINE then (compLoop (turnF tg ft fe (wipeE env (own.map (·.2)))) xs h).bind fun ys h => .ok (.lst ys) h else .no)) sg H Q → t sg H Q := by
  refine ⟨_, pe_lc c.calm c.nd hi ok hg ht he (fold_set hs X.env), rfl, fun sg H Q ⟨O, env, h, eo, S, w⟩ => ⟨O, env, h, eo, S, ?_⟩⟩
  have w : Post X W sg O H (reL mm ((fs env h).bind fun ds h => (Res.of (srcD kS ds) h).bind fun xs h => if xs.length ≤ LINE then (compLoop (turnF tg ft fe (wipeE env (own.map (·.2)))) xs h).bind fun ys h => .ok (.lst ys) h else .no)) (RepX X) Q := w
  cases er : fs env h with
  | no => rw [er] at w; cases mm <;> exact (show False from w).elim
  | ex e1 h1 => rw [er] at w; cases mm <;> exact w
  | ok ds h1 =>
    rw [er] at w
    have w : Post X W sg O H (reL mm ((Res.of (srcD kS ds) h1).bind fun xs h => if xs.length ≤ LINE then (compLoop (turnF tg ft fe (wipeE env (own.map (·.2)))) xs h).bind fun ys h => .ok (.lst ys) h else .no)) (RepX X) Q := w
    show Post X W sg O H (Res.of (srcD kS ds) h1) (SrcOk X) _
    cases ex : srcD kS ds with
    | none => rw [ex] at w; cases mm <;> exact (show False from w).elim
    | some xs =>
      rw [ex] at w
      have w : Post X W sg O H (reL mm (if xs.length ≤ LINE then (compLoop (turnF tg ft fe (wipeE env (own.map (·.2)))) xs h1).bind fun ys h => .ok (.lst ys) h else .no)) (RepX X) Q := w
      intro O1 J H1 s1 S1 ⟨Gd, Y, wk, hG, hY⟩ q hq
      split at w
      · rename_i hz
        have LE := LINE_eq
        refine lc_it wk (fun i H' => ∃ O' h' acc vs, SR X.K X.mg O' h' H' ∧ Apart O' H' q ∧ H' q = some (.lst vs) ∧ RepLX X O' acc vs ∧ vs.length ≤ i ∧ StpX q O1 H1 O' H' ∧
          Post X W sg O1 H1 (reL mm ((compLoop (turnF tg ft fe (wipeE env (own.map (·.2)))) (xs.drop i) h').bind fun ys h => .ok (.lst (acc ++ ys)) h)) (RepX X) Q) ?_ (fun i H' hi ⟨O', h', acc, vs, S', A', e', rl, lz, sx, p'⟩ => hG O' h' H' sx.le S') ?_ ?_
        · obtain ⟨A0, S0⟩ := Apart.new S1 hq (.lst [])
          exact ⟨O1, h1, [], [], S0, A0, upd_same, .nil, Nat.le_refl _, StpX.put q O1 H1 _, Post.weak w s1⟩
        · intro i x Ha H' hi ⟨O', h', acc, vs, S', A', e', rl, lz, sx, p'⟩ hy
          have hd : xs[i]? = some xs[i] := List.getElem?_eq_getElem hi
          obtain ⟨O2, s2, S2, r2⟩ := hY O' h' Ha i _ x H' sx.le S' hd hy
          rw [List.drop_eq_getElem_cons hi] at p'
          generalize xs[i] = d at p' r2
          have p' : Post X W sg O1 H1 (reL mm (((turnF tg ft fe (wipeE env (own.map (·.2))) d h').bind fun o h => (compLoop (turnF tg ft fe (wipeE env (own.map (·.2)))) (xs.drop (i + 1)) h).bind fun ys h => .ok (match o with
            | some y => y :: ys
            | none => ys) h).bind fun ys h => .ok (.lst (acc ++ ys)) h)) (RepX X) Q := p'
          have le2 : O.Le O2 := (s1.le.trans sx.le).trans s2.le
          obtain ⟨A2, e2⟩ := A'.stp s2 e'
          cases ea : asg tg d (wipeE env (own.map (·.2))) with
          | none => rw [show turnF tg ft fe (wipeE env (own.map (·.2))) d h' = .no by unfold turnF; rw [ea]; rfl] at p'; cases mm <;> exact (show False from p').elim
          | some env2 =>
            have et : turnF tg ft fe (wipeE env (own.map (·.2))) d h' = ((ft env2 h').bind fun b h => if b then (fe env2 h).bind fun y h => .ok (some y) h else .ok none h).calm := by unfold turnF; rw [ea]; rfl
            rw [et] at p'
            refine ⟨O2, h', d, _, env2, S2, (eo.le le2).wipe _, r2, ea, fun σ2 nv2 only => ⟨wipe_eq (by rw [← nv2.len, ← eo.len, asg_length ea, wipeE_length]) only hsub, O2, env2, h', nv2, S2, ?_⟩⟩
            cases ef : ft env2 h' with
            | no => rw [ef] at p'; cases mm <;> exact (show False from p').elim
            | ex e1 h1 => rw [ef] at p'; cases mm <;> exact (show False from p').elim
            | ok b h3 =>
              rw [ef] at p'
              intro O3 b' H3 s3 S3 (rb : b = b')
              subst rb
              obtain ⟨A3, e3⟩ := A2.stp s3 e2
              cases b with
              | false =>
                rw [if_neg (by decide)]
                have p' : Post X W sg O1 H1 (reL mm (((compLoop (turnF tg ft fe (wipeE env (own.map (·.2)))) (xs.drop (i + 1)) h3).bind fun ys h => .ok ys h).bind fun ys h => .ok (.lst (acc ++ ys)) h)) (RepX X) Q := p'
                rw [Res.bind_assoc] at p'
                exact ⟨O3, h3, acc, vs, S3, A3, e3, (rl.stp s2).stp s3, by omega, (sx.trans s2.x).trans s3.x, p'⟩
              | true =>
                rw [if_pos rfl]
                refine ⟨O3, env2, h3, nv2.stp s3, S3, ?_⟩
                have p' : Post X W sg O1 H1 (reL mm (((((fe env2 h3).bind fun y h => Res.ok (some y) h).calm).bind fun o h => (compLoop (turnF tg ft fe (wipeE env (own.map (·.2)))) (xs.drop (i + 1)) h).bind fun ys h => .ok (match o with
                  | some y => y :: ys
                  | none => ys) h).bind fun ys h => .ok (.lst (acc ++ ys)) h)) (RepX X) Q := p'
                cases eg : fe env2 h3 with
                | no => rw [eg] at p'; cases mm <;> exact (show False from p').elim
                | ex e1 h1 => rw [eg] at p'; cases mm <;> exact (show False from p').elim
                | ok y h4 =>
                  rw [eg] at p'
                  intro O4 vy H4 s4 S4 ry
                  obtain ⟨A4, e4⟩ := A3.stp s4 e3
                  refine ⟨vs, e4, by omega, O4, h4, acc ++ [y], vs ++ [vy], A4.srU S4 _, A4.upd _, upd_same, (((rl.stp s2).stp s3).stp s4).app (.cons ry .nil), by simp; omega, (((sx.trans s2.x).trans s3.x).trans s4.x).trans (StpX.put q O4 H4 _), ?_⟩
                  have p' : Post X W sg O1 H1 (reL mm (((compLoop (turnF tg ft fe (wipeE env (own.map (·.2)))) (xs.drop (i + 1)) h4).bind fun ys h => .ok (y :: ys) h).bind fun ys h => .ok (.lst (acc ++ ys)) h)) (RepX X) Q := p'
                  rw [Res.bind_assoc] at p'
                  have : (fun ys h => Res.ok (D.lst ((acc ++ [y]) ++ ys)) h : List D → Hs → Res D) = fun ys h => (Res.ok (y :: ys) h).bind fun ys h => .ok (.lst (acc ++ ys)) h := by
                    funext ys h
                    simp
                  rw [this]
                  exact p'
        · intro H' ⟨O', h', acc, vs, S', A', e', rl, lz, sx, p'⟩
          rw [List.drop_length] at p'
          have p' : Post X W sg O1 H1 (reL mm (.ok (.lst (acc ++ [])) h')) (RepX X) Q := p'
          rw [List.append_nil] at p'
          exact reL_end S' A' e' rl (by omega) hq sx p'
      · cases mm <;> exact (show False from w).elim
theorem ts_nil : PTs X [] (tT X W fun _ h => .ok true h) := ⟨fun pn s sg H Q I ⟨O, env, h, eo, S, w⟩ => pts_nil.run pn s sg H Q I (w.here S rfl)⟩
/-! ### ranges -/
theorem rg_ok (O : Om) (lo hi : Int) : RepLX X O (rngD lo hi) (rgV lo hi) := by
  have z : ∀ l : List Nat, RepLX X O (l.map fun i => D.int (lo + (i : Nat))) (l.map fun i => V.int (lo + (i : Nat))) := fun l => by
    induction l with
    | nil => exact .nil
    | cons a l ih => exact .cons (.int _) ih
  exact z _
theorem reL_new {sg : L2.St} {O : Om} {H : Hp} {h : Hs} {mm : Bool} {ds : List D} {vs : List V} {Q : VK} (S : SR X.K X.mg O h H) (r : RepLX X O ds vs) (z : vs.length ≤ sizeLine) (w : Post X W sg O H (reL mm (.ok (.lst ds) h)) (RepX X) Q) {q : Addr} (hq : H q = none) : Q (.ref q) (upd H q (.lst vs)) := by
  refine mk_ok (W := W) (sg := sg) (m := mm) S r z ?_ hq
  cases mm <;> exact w
def tRg (X : Cx) (W : WX) (fs : Nv → Hs → Res (List D)) : L2.St → Hp → (Int → Int → Hp → Prop) → Prop := fun sg H Q => ∃ (O : Om) (env : Nv) (h : Hs), NvOk X.K X.mg O env sg ∧ SR X.K X.mg O h H ∧ Post X W sg O H ((fs env h).bind fun ds h => Res.of (rngA ds) h) (fun _ xs (ab : Int × Int) => xs = rngD ab.1 ab.2 ∧ rngOk ab.1 = true ∧ rngOk ab.2 = true) fun ab H' => Q ab.1 ab.2 H'
theorem sR_1 (hg : Gl X "range") (hm : X.mg "range" = none) (hs : starless a = true) (ha : PE X a (tE X W fa)) : PRg X (.Call (.Name "range" p) [a] [] pos) (tRg X W fun env h => (fa env h).bind fun d h => .ok [d] h) :=
  fun pn s sg H Q I ⟨O, env, h, eo, S, w⟩ => prg_1 hg hm ha (star_cons hs [] X.env) pn s sg H Q I ⟨O, env, h, eo, S, by
    have w : Post X W sg O H (((fa env h).bind fun d h => Res.ok [d] h).bind fun ds h => Res.of (rngA ds) h) (fun _ xs (ab : Int × Int) => xs = rngD ab.1 ab.2 ∧ rngOk ab.1 = true ∧ rngOk ab.2 = true) fun ab H' => Q ab.1 ab.2 H' := w
    rw [Res.bind_assoc] at w
    refine w.bind fun d h1 O1 v H1 _ s1 S1 r1 p1 => ?_
    obtain ⟨xs, ex, q⟩ := Post.of (o := rngA [d]) p1 S1
    cases d with
    | int j =>
      simp only [rngA] at ex
      split at ex
      · rename_i hj; cases ex; exact ⟨j, r1.int_inv, q (0, j) ⟨rfl, (by decide : rngOk 0 = true), hj⟩⟩
      · cases ex
    | _ => cases ex⟩
theorem sR_2 (hg : Gl X "range") (hm : X.mg "range" = none) (hs : starless a = true) (ht : starless b = true) (ha : PE X a (tE X W fa)) (hb : PE X b (tE X W fb)) : PRg X (.Call (.Name "range" p) [a, b] [] pos) (tRg X W fun env h => (fa env h).bind fun d h => ((fb env h).bind fun d2 h => Res.ok [d2] h).bind fun ds h => .ok (d :: ds) h) :=
  fun pn s sg H Q I ⟨O, env, h, eo, S, w⟩ => prg_2 hg hm ha hb (star_cons hs _ X.env) (star_cons ht [] X.env) (by rw [star_cons ht]; rfl) pn s sg H Q I ⟨O, env, h, eo, S, by
    have w : Post X W sg O H (((fa env h).bind fun d h => ((fb env h).bind fun d2 h => Res.ok [d2] h).bind fun ds h => Res.ok (d :: ds) h).bind fun ds h => Res.of (rngA ds) h) (fun _ xs (ab : Int × Int) => xs = rngD ab.1 ab.2 ∧ rngOk ab.1 = true ∧ rngOk ab.2 = true) fun ab H' => Q ab.1 ab.2 H' := w
    rw [Res.bind_assoc] at w
    refine w.bind fun d h1 O1 v H1 _ s1 S1 r1 p1 => ⟨O1, env, h1, eo.stp s1, S1, ?_⟩
    rw [Res.bind_assoc, Res.bind_assoc] at p1
    refine p1.bind fun d2 h2 O2 v2 H2 _ s2 S2 r2 p2 => ?_
    obtain ⟨xs, ex, q⟩ := Post.of (o := rngA [d, d2]) p2 S2
    cases d with
    | int i =>
      cases d2 with
      | int j =>
        simp only [rngA] at ex
        split at ex
        · rename_i hj
          simp only [Bool.and_eq_true] at hj
          cases ex; exact ⟨i, j, r1.int_inv, r2.int_inv, q (i, j) ⟨rfl, hj.1, hj.2⟩⟩
        · cases ex
      | _ => cases ex
    | _ => cases ex⟩
theorem rgOk_of {lo hi : Int} (h1 : rngOk lo = true) (h2 : rngOk hi = true) (h3 : (rngD lo hi).length ≤ LINE) : RgOk lo hi ∧ (rgV lo hi).length ≤ sizeLine := by
  have a1 := rngOk_ok h1
  have a2 := rngOk_ok h2
  have e : (rngD lo hi).length = (hi - lo).toNat := by simp [rngD]
  have e2 := rgV_length lo hi
  have LE := LINE_eq
  have e3 : LINE = 2 ^ 24 := rfl
  exact ⟨⟨a1.1, a1.2, a2.1, a2.2, by omega⟩, by omega⟩
theorem rg_post {sg : L2.St} {O : Om} {H : Hp} {h : Hs} {fs : Nv → Hs → Res (List D)} {env : Nv} {mm : Bool} {F : List D → Hs → Res D} {Q : VK} {R : Int → Int → Hp → Prop} (w : Post X W sg O H (reL mm ((fs env h).bind fun ds h => (Res.of (rngA ds) h).bind fun xs h => if xs.length ≤ LINE then F xs h else .no)) (RepX X) Q)
    (k : ∀ (lo hi : Int) (O1 : Om) (h1 : Hs) (H1 : Hp), SR X.K X.mg O1 h1 H1 → RgOk lo hi ∧ (rgV lo hi).length ≤ sizeLine → Post X W sg O1 H1 (reL mm (F (rngD lo hi) h1)) (RepX X) Q → R lo hi H1) :
    Post X W sg O H ((fs env h).bind fun ds h => Res.of (rngA ds) h) (fun _ xs (ab : Int × Int) => xs = rngD ab.1 ab.2 ∧ rngOk ab.1 = true ∧ rngOk ab.2 = true) fun ab H' => R ab.1 ab.2 H' := by
  cases er : fs env h with
  | no => rw [er] at w; cases mm <;> exact w
  | ex e1 h1 => rw [er] at w; cases mm <;> exact w
  | ok ds h1 =>
    rw [er] at w
    have w : Post X W sg O H (reL mm ((Res.of (rngA ds) h1).bind fun xs h => if xs.length ≤ LINE then F xs h else .no)) (RepX X) Q := w
    show Post X W sg O H (Res.of (rngA ds) h1) _ _
    cases ex : rngA ds with
    | none => rw [ex] at w; cases mm <;> exact w
    | some xs =>
      rw [ex] at w
      have w : Post X W sg O H (reL mm (if xs.length ≤ LINE then F xs h1 else .no)) (RepX X) Q := w
      intro O1 ab H1 s1 S1 ⟨e, g1, g2⟩
      subst e
      split at w
      · rename_i hz
        exact k _ _ O1 h1 H1 S1 (rgOk_of g1 g2 hz) (Post.weak w s1)
      · cases mm <;> exact (show False from w).elim
theorem sE_lrg {mm : Bool} {e : Expr} (hc : X.calm = true) (hg : Gl X "list") (hm : X.mg "list" = none) (hs : starless e = true) (he : PRg X e (tRg X W fs)) :
    PE X (.Call (.Name "list" p) [e] [] pos) (tE X W fun env h => reL mm ((fs env h).bind fun ds h => (Res.of (rngA ds) h).bind fun xs h => if xs.length ≤ LINE then .ok (.lst xs) h else .no)) :=
  PE.weak (pe_listRg hc hg hm he (star_cons hs [] X.env)) fun sg H Q ⟨O, env, h, eo, S, w⟩ => ⟨O, env, h, eo, S, rg_post (R := fun a b H1 => RgOk a b ∧ ∀ q, H1 q = none → Q (.ref q) (upd H1 q (.lst (rgV a b)))) w fun lo hi O1 h1 H1 S1 hr w1 => ⟨hr.1, fun q hq => reL_new S1 (rg_ok O1 lo hi) hr.2 w1 hq⟩⟩
theorem sE_trg {e : Expr} (hc : X.calm = true) (hg : Gl X "tuple") (hm : X.mg "tuple" = none) (hs : starless e = true) (he : PRg X e (tRg X W fs)) :
    PE X (.Call (.Name "tuple" p) [e] [] pos) (tE X W fun env h => reL false ((fs env h).bind fun ds h => (Res.of (rngA ds) h).bind fun xs h => if xs.length ≤ LINE then .ok (.tup xs) h else .no)) :=
  PE.weak (pe_tupRg hc hg hm he (star_cons hs [] X.env)) fun sg H Q ⟨O, env, h, eo, S, w⟩ => ⟨O, env, h, eo, S, rg_post (R := fun a b H1 => RgOk a b ∧ ∀ q, H1 q = none → Q (.ref q) (upd H1 q (.tup (rgV a b)))) w fun lo hi O1 h1 H1 S1 hr w1 => ⟨hr.1, fun q hq => Post.new (show Post X W sg O1 H1 (.ok (.tup (rngD lo hi)) h1) (RepX X) Q from w1) S1 hq _ (frz_tup S1 hq hr.2 (rg_ok O1 lo hi))⟩⟩
end
end SI
end
section
set_option Elab.async false
set_option linter.all false
set_option maxRecDepth 100000
set_option maxHeartbeats 4000000
/-! SI15: statements. -/
namespace SI
open PySem PySem.Spec PyProof.Rows L2

section
variable (X : Cx) (W : WX)
/-- what is wanted behind a plain outcome of statements -/
def PostS (Dn : Ends) (O : Om) (H : Hp) (r : SRes) : Prop := match r with
  | .nx env' h' => ∀ (O' : Om) (sg' : L2.St) (H' : Hp), Stp O H O' H' → SR X.K X.mg O' h' H' → NvOk X.K X.mg O' env' sg' → Dn.nx sg' H'
  | .bk env' h' => ∀ (O' : Om) (sg' : L2.St) (H' : Hp), Stp O H O' H' → SR X.K X.mg O' h' H' → NvOk X.K X.mg O' env' sg' → Dn.bk sg' H'
  | .ct env' h' => ∀ (O' : Om) (sg' : L2.St) (H' : Hp), Stp O H O' H' → SR X.K X.mg O' h' H' → NvOk X.K X.mg O' env' sg' → Dn.ct sg' H'
  | .rt d h' => ∀ (O' : Om) (v : V) (H' : Hp), Stp O H O' H' → SR X.K X.mg O' h' H' → RepX X O' d v → Dn.rt v H'
  | .ex e env' h' => ∀ (O' : Om) (cls : Value) (d : Option Addr) (sg' : L2.St) (H' : Hp), Stp O H O' H' → SR X.K X.mg O' h' H' → NvOk X.K X.mg O' env' sg' → ExOk X.K X.mg O' e cls d → W cls d sg' H'
  | .no => False
def tS (f : Nv → Hs → SRes) : TS := fun Dn sg H => ∃ (O : Om) (env : Nv) (h : Hs), NvOk X.K X.mg O env sg ∧ SR X.K X.mg O h H ∧ PostS X W Dn O H (f env h)
end
section
variable {X : Cx} {W : WX} {G : Wr} {k : Nat} {T : Tab} {a b e o i : Expr} {es : List Expr} {p pos apos : Pos} {fa fb fc : Nv → Hs → Res D} {fs : Nv → Hs → Res (List D)} {ft : Nv → Hs → Res Bool} {x m : Str} {f g : Nv → Hs → SRes} {st : Stmt} {sts : List Stmt}
theorem PostS.weak {Dn : Ends} {O O1 : Om} {H H1 : Hp} {r : SRes} (p : PostS X W Dn O H r) (s : Stp O H O1 H1) : PostS X W Dn O1 H1 r := by
  cases r with
  | nx env h => exact fun O' sg' H' t => p O' sg' H' (s.trans t)
  | bk env h => exact fun O' sg' H' t => p O' sg' H' (s.trans t)
  | ct env h => exact fun O' sg' H' t => p O' sg' H' (s.trans t)
  | rt d h => exact fun O' v H' t => p O' v H' (s.trans t)
  | ex e env h => exact fun O' c d sg' H' t => p O' c d sg' H' (s.trans t)
  | no => exact p
/-- an expression, then what comes of it -/
theorem PostS.bind {α β : Type} {Dn : Ends} {O : Om} {H : Hp} {env : Nv} {sg : L2.St} {r : Res α} {g : α → Hs → SRes} {rep : Om → α → β → Prop} {Q' : β → Hp → Prop} (p : PostS X W Dn O H (r.sbind env g)) (eo : NvOk X.K X.mg O env sg)
    (k : ∀ (a : α) (h1 : Hs) (O1 : Om) (b : β) (H1 : Hp), r = .ok a h1 → Stp O H O1 H1 → SR X.K X.mg O1 h1 H1 → rep O1 a b → PostS X W Dn O1 H1 (g a h1) → Q' b H1) : Post X W sg O H r rep Q' := by
  cases r with
  | ok a h => exact fun O' b H' s sr rb => k a h O' b H' rfl s sr rb (PostS.weak p s)
  | ex e h => exact fun O' c d H' s sr x => p O' c d sg H' s sr (eo.stp s) x
  | no => exact p
theorem sS_never : PS X st (tS X W fun _ _ => .no) := PS.weak ps_never fun Dn sg H ⟨O, env, h, eo, S, w⟩ => w
/-- what a stored value comes to -/
theorem asg_post {Dn : Ends} {O : Om} {H : Hp} {h : Hs} {env : Nv} {sg : L2.St} {d : D} {v : V} {tg : Tg} (S : SR X.K X.mg O h H) (eo : NvOk X.K X.mg O env sg) (r : RepX X O d v) (w : PostS X W Dn O H (match asg tg d env with
      | some env => .nx env h
      | none => .no)) : gT X tg v sg H Dn.nx := by
  cases ea : asg tg d env with
  | none => rw [ea] at w; exact w.elim
  | some env' =>
    rw [ea] at w
    exact ⟨O, h, d, env, env', S, eo, r, ea, fun sg' e' _ => w O sg' H (Stp.refl _ _) S e'⟩
/-- while c: .. -/
theorem sS_while {c : Expr} {body : List Stmt} {ft : Nv → Hs → Res Bool} {N : Nat} (hp : PassesOwn (model X.prog X.w) X.A X.env X.xe) (hc : PT X c (tT X W ft)) (hb : PSs X body (tS X W g)) : PS X (.While c body [] pos) (tS X W (whileF ft g N)) :=
  PS.weak (ps_while hp hc hb) fun Dn sg H ⟨O, env, h, eo, S, w⟩ => ⟨fun m σ H' => ∃ (O' : Om) (env' : Nv) (h' : Hs), NvOk X.K X.mg O' env' σ ∧ SR X.K X.mg O' h' H' ∧ PostS X W Dn O' H' (whileF ft g m env' h'), ⟨N, O, env, h, eo, S, w⟩, fun m σ H' ⟨O', env', h', eo', S', w'⟩ => by
    cases m with
    | zero => exact (show False from w').elim
    | succ n =>
      refine ⟨O', env', h', eo', S', PostS.bind w' eo' fun k h1 O1 b H1 _ s1 S1 (r1 : k = b) p1 => ?_⟩
      subst r1
      cases k with
      | false =>
        rw [if_neg (by decide)] at p1 ⊢
        exact p1 O1 σ H1 (Stp.refl _ _) S1 (eo'.stp s1)
      | true =>
        rw [if_pos rfl] at p1 ⊢
        refine ⟨fun σ2 H2 => ∃ (O' : Om) (env' : Nv) (h' : Hs), NvOk X.K X.mg O' env' σ2 ∧ SR X.K X.mg O' h' H2 ∧ PostS X W Dn O' H2 (whileF ft g n env' h'), fun σ2 H2 z => ⟨n, Nat.lt_succ_self n, z⟩, O1, env', h1, eo'.stp s1, S1, ?_⟩
        cases q : g env' h1 with
        | nx env2 h2 => rw [q] at p1; exact fun O2 sg2 H2 s S2 e2 => ⟨O2, env2, h2, e2, S2, PostS.weak p1 s⟩
        | ct env2 h2 => rw [q] at p1; exact fun O2 sg2 H2 s S2 e2 => ⟨O2, env2, h2, e2, S2, PostS.weak p1 s⟩
        | bk env2 h2 => rw [q] at p1; exact fun O2 sg2 H2 s S2 e2 => p1 O2 sg2 H2 s S2 e2
        | rt d h2 => rw [q] at p1; exact p1
        | ex e env2 h2 => rw [q] at p1; exact p1
        | no => rw [q] at p1; exact p1⟩
/-- t = e -/
theorem sS_set {tg : Tg} {t : Expr} (ha : PE X e (tE X W fa)) (hg : PG X t (gT X tg)) (hs : swapsWithSole [t] e pos.line X.env = pure false) (hw : swappedStores [t] e X.env = pure none) (ht : starless t = true) :
    PS X (.Assign [t] e pos) (tS X W fun env h => (fa env h).sbind env fun d h => match asg tg d env with
      | some env => .nx env h
      | none => .no) :=
  PS.weak (ps_asg ha hg hs hw (by rw [asgE_cons ht]; rfl)) fun Dn sg H ⟨O, env, h, eo, S, w⟩ => ⟨O, env, h, eo, S, PostS.bind w eo fun d h1 O1 v H1 _ s1 S1 r1 p1 => asg_post S1 (eo.stp s1) r1 p1⟩
/-- a, b = e, f -/
theorem sS_par {i j : Nat} {y : Str} {px py pt : Pos} {kt k2 : Nat} {pt2 : Pos} (hc : X.calm = true) (hN : X.N.Nodup) (hi : X.N[i]? = some x) (hj : X.N[j]? = some y) (hij : i ≠ j) (hx : X.env.scope.names.lookup x = some .local) (hy : X.env.scope.names.lookup y = some .local)
    (hs : starless a = true) (ht : starless b = true) (ha : PE X a (tE X W fa)) (hb : PE X b (tE X W fb)) (hw : swappedStores [.Tuple [.Name x px, .Name y py] kt pt] (.Tuple [a, b] k2 pt2) X.env = pure (some [x, y])) :
    PS X (.Assign [.Tuple [.Name x px, .Name y py] kt pt] (.Tuple [a, b] k2 pt2) pos) (tS X W fun env h => (fa env h).sbind env fun x h => (fb env h).sbind env fun y h => .nx ((env.set i (some x)).set j (some y)) h) :=
  PS.weak (ps_par hc hN hi hj hij hx hy (sA_cons hs ha (sA_one ht hb)) hw) fun Dn sg H ⟨O, env, h, eo, S, w⟩ => ⟨O, env, h, eo, S, by
    show Post X W sg O H ((fa env h).bind fun d h => ((fb env h).bind fun d2 h => Res.ok [d2] h).bind fun ds h => .ok (d :: ds) h) (RepLX X) _
    have w : PostS X W Dn O H ((fa env h).sbind env fun x h => (fb env h).sbind env fun y h => .nx ((env.set i (some x)).set j (some y)) h) := w
    cases er : fa env h with
    | no => rw [er] at w; exact w
    | ex e1 h1 => rw [er] at w; exact fun O' c d H' s sr x => w O' c d sg H' s sr (eo.stp s) x
    | ok d h1 =>
      rw [er] at w
      have w : PostS X W Dn O H ((fb env h1).sbind env fun y h => .nx ((env.set i (some d)).set j (some y)) h) := w
      show Post X W sg O H (((fb env h1).bind fun d2 h => Res.ok [d2] h).bind fun ds h => .ok (d :: ds) h) (RepLX X) _
      cases er2 : fb env h1 with
      | no => rw [er2] at w; exact w
      | ex e1 h1 => rw [er2] at w; exact fun O' c d H' s sr x => w O' c d sg H' s sr (eo.stp s) x
      | ok d2 h2 =>
        rw [er2] at w
        intro O2 vs H2 s2 S2 r2
        cases r2 with
        | cons ra t =>
          cases t with
          | cons rb t =>
            cases t
            exact ⟨_, _, rfl, w O2 _ H2 s2 S2 (((eo.stp s2).set i ra).set j rb)⟩⟩
/-- a, b, c = e, f, g -/
theorem sS_par3 {i j l : Nat} {y z : Str} {px py pz pt : Pos} {kt k2 : Nat} {pt2 : Pos} (hc : X.calm = true) (hN : X.N.Nodup) (hi : X.N[i]? = some x) (hj : X.N[j]? = some y) (hl : X.N[l]? = some z) (hij : i ≠ j) (hil : i ≠ l) (hjl : j ≠ l) (hx : X.env.scope.names.lookup x = some .local) (hy : X.env.scope.names.lookup y = some .local) (hz : X.env.scope.names.lookup z = some .local)
    (hs : starless a = true) (ht : starless b = true) (hu : starless c = true) (ha : PE X a (tE X W fa)) (hb : PE X b (tE X W fb)) (hcc : PE X c (tE X W fc)) (hw : swappedStores [.Tuple [.Name x px, .Name y py, .Name z pz] kt pt] (.Tuple [a, b, c] k2 pt2) X.env = pure (some [x, y, z])) :
    PS X (.Assign [.Tuple [.Name x px, .Name y py, .Name z pz] kt pt] (.Tuple [a, b, c] k2 pt2) pos) (tS X W fun env h => (fa env h).sbind env fun x h => (fb env h).sbind env fun y h => (fc env h).sbind env fun z h => .nx (((env.set i (some x)).set j (some y)).set l (some z)) h) :=
  PS.weak (ps_par3 hc hN hi hj hl hij hil hjl hx hy hz (sA_cons hs ha (sA_cons ht hb (sA_one hu hcc))) hw) fun Dn sg H ⟨O, env, h, eo, S, w⟩ => ⟨O, env, h, eo, S, by
    show Post X W sg O H ((fa env h).bind fun d h => ((fb env h).bind fun d2 h => ((fc env h).bind fun d3 h => Res.ok [d3] h).bind fun ds h => .ok (d2 :: ds) h).bind fun ds h => .ok (d :: ds) h) (RepLX X) _
    have w : PostS X W Dn O H ((fa env h).sbind env fun x h => (fb env h).sbind env fun y h => (fc env h).sbind env fun z h => .nx (((env.set i (some x)).set j (some y)).set l (some z)) h) := w
    cases er : fa env h with
    | no => rw [er] at w; exact w
    | ex e1 h1 => rw [er] at w; exact fun O' c d H' s sr x => w O' c d sg H' s sr (eo.stp s) x
    | ok d h1 =>
      rw [er] at w
      have w : PostS X W Dn O H ((fb env h1).sbind env fun y h => (fc env h).sbind env fun z h => .nx (((env.set i (some d)).set j (some y)).set l (some z)) h) := w
      show Post X W sg O H (((fb env h1).bind fun d2 h => ((fc env h).bind fun d3 h => Res.ok [d3] h).bind fun ds h => .ok (d2 :: ds) h).bind fun ds h => .ok (d :: ds) h) (RepLX X) _
      cases er2 : fb env h1 with
      | no => rw [er2] at w; exact w
      | ex e1 h1 => rw [er2] at w; exact fun O' c d H' s sr x => w O' c d sg H' s sr (eo.stp s) x
      | ok d2 h2 =>
        rw [er2] at w
        have w : PostS X W Dn O H ((fc env h2).sbind env fun z h => .nx (((env.set i (some d)).set j (some d2)).set l (some z)) h) := w
        show Post X W sg O H ((((fc env h2).bind fun d3 h => Res.ok [d3] h).bind fun ds h => .ok (d2 :: ds) h).bind fun ds h => .ok (d :: ds) h) (RepLX X) _
        cases er3 : fc env h2 with
        | no => rw [er3] at w; exact w
        | ex e1 h1 => rw [er3] at w; exact fun O' c d H' s sr x => w O' c d sg H' s sr (eo.stp s) x
        | ok d3 h3 =>
          rw [er3] at w
          intro O2 vs H2 s2 S2 r2
          cases r2 with
          | cons ra t =>
            cases t with
            | cons rb t =>
              cases t with
              | cons rc t =>
                cases t
                exact ⟨_, _, _, rfl, w O2 _ H2 s2 S2 ((((eo.stp s2).set i ra).set j rb).set l rc)⟩⟩
/-! ### o[i] = e -/
def rSetD : TSet := fun o i v H Q => ∃ a H', o = .ref a ∧ DPut H a i v H' ∧ Q H'
theorem set_dict (hu : X.A.units + 1 < cLine) : PSet X rSetD := fun pn s sg H o i v ov iv u Q I ro ri rv ⟨a, H', e, g, q⟩ => by
  subst e
  obtain rfl : ov = Value.ref a := ro
  exact d_setItem hu I g ri rv fun s' I' => ⟨H', I', q⟩
theorem PSet.or {t t' : TSet} (h : PSet X t) (h' : PSet X t') : PSet X fun o i v H Q => t o i v H Q ∨ t' o i v H Q := fun pn s sg H o i v ov iv u Q I ro ri rv q => by
  rcases q with q | q
  · exact h pn s sg H o i v ov iv u Q I ro ri rv q
  · exact h' pn s sg H o i v ov iv u Q I ro ri rv q
theorem set_ok {O : Om} {H : Hp} {h h' : Hs} (S : SR X.K X.mg O h H) {o i v : D} {ov iv u : V} (ro : RepX X O o ov) (ri : RepX X O i iv) (rv : RepX X O v u) (e : setIxD h o i v = some h') {Q : Hp → Prop} (q : ∀ H', Stp O H O H' → SR X.K X.mg O h' H' → Q H') :
    rSetL ov iv u H Q ∨ rSetD ov iv u H Q := by
  unfold setIxD at e
  split at e
  · rename_i n
    split at e
    · rename_i xs hn
      split at e
      · rename_i j
        split at e
        · rename_i j' hj
          cases e
          obtain ⟨hlt, vs, hv, z, rl⟩ := S.at hn
          cases ro
          rw [ri.int_inv]
          rw [rl.length] at hj
          obtain ⟨s3, S3⟩ := S.put (o := .lst (vs.set j' u)) hn (by simp) (c := .lst (xs.set j' v)) ⟨_, upd_same, by rw [List.length_set]; exact z, rl.set j' rv⟩
          exact .inl ⟨_, vs, j, j', rfl, rfl, hv, hj, q _ s3 S3⟩
        · cases e
      · cases e
    · rename_i c _ hn
      split at e
      · rename_i c' hp
        cases e
        obtain ⟨H', g, s3, S3⟩ := dput_ok S hn ri rv hp
        cases ro
        exact .inr ⟨_, H', rfl, g, q _ s3 S3⟩
      · cases e
    · cases e
  · cases e
theorem assign_ix (h : sliceless i = true) {opos : Pos} {env : PySem.Env} : ∀ v, assign (.Subscript o i opos) env v = (do
      let ov ← holding [v] (eval o env)
      let iv ← holding [v, ov] (eval i env)
      standAt opos
      holding [v, ov, iv] (setItem ov iv v)
      release [v, ov, iv] []) := by
  intro v
  cases i <;> first | rfl | cases h
theorem no_swapS (hs : compless e = true) (t : Expr) (l : Nat) (env : PySem.Env) : swapsWithSole [t] e l env = pure false := no_swap hs _ _ _
theorem sS_setix {opos : Pos} (c : XOk X W G k T) (hi : sliceless i = true) (ho : PE X o (tE X W fa)) (hx : PE X i (tE X W fb)) (he : PE X e (tE X W fc)) (hs : compless e = true) :
    PS X (.Assign [.Subscript o i opos] e pos) (tS X W fun env h => (fc env h).sbind env fun v h => (fa env h).sbind env fun x h => (fb env h).sbind env fun y h => match setIxD h x y v with
      | some h => .nx env h
      | none => .no) :=
  PS.weak (ps_asg he (pg_sub ho hx (PSet.or set_list (set_dict (by have := c.room.units; omega))) (assign_ix hi)) (no_swapS hs _ _ _) (by cases e <;> rfl) (by rfl)) fun Dn sg H ⟨O, env, h, eo, S, w⟩ =>
    ⟨O, env, h, eo, S, PostS.bind w eo fun v h1 O1 vv H1 _ s1 S1 r1 p1 => ⟨O1, env, h1, eo.stp s1, S1, PostS.bind p1 (eo.stp s1) fun x h2 O2 xv H2 _ s2 S2 r2 p2 => ⟨O2, env, h2, (eo.stp s1).stp s2, S2, PostS.bind p2 ((eo.stp s1).stp s2) fun y h3 O3 yv H3 _ s3 S3 r3 p3 => by
      cases es : setIxD h3 x y v with
      | none => rw [es] at p3; exact p3.elim
      | some h' =>
        rw [es] at p3
        exact set_ok S3 (r2.stp s3) r3 ((r1.stp s2).stp s3) es fun H' s4 S4 => p3 O3 sg H' s4 S4 ((((eo.stp s1).stp s2).stp s3).stp s4)⟩⟩⟩
/-- o[i], p[j] = e -/
theorem sS_set2 {o2 i2 : Expr} {q1 q2 pt : Pos} {kt : Nat} {fa2 fb2 : Nv → Hs → Res D} (c : XOk X W G k T) (hi : sliceless i = true) (hi2 : sliceless i2 = true) (ho : PE X o (tE X W fa)) (hx : PE X i (tE X W fb)) (ho2 : PE X o2 (tE X W fa2)) (hx2 : PE X i2 (tE X W fb2)) (he : PE X e (tE X W fc)) (hs : compless e = true)
    (hw : swappedStores [.Tuple [.Subscript o i q1, .Subscript o2 i2 q2] kt pt] e X.env = pure none) :
    PS X (.Assign [.Tuple [.Subscript o i q1, .Subscript o2 i2 q2] kt pt] e pos) (tS X W fun env h => (fc env h).sbind env fun d h => match pairOf d with
      | some (u, v) => (fa env h).sbind env fun x h => (fb env h).sbind env fun y h => match setIxD h x y u with
        | some h => (fa2 env h).sbind env fun x h => (fb2 env h).sbind env fun y h => match setIxD h x y v with
          | some h => .nx env h
          | none => .no
        | none => .no
      | none => .no) := by
  have P := PSet.or (X := X) set_list (set_dict (by have := c.room.units; omega))
  refine PS.weak (ps_asg he (pg_tup (n := 2) c.calm (pgs_cons (pg_sub ho hx P (assign_ix hi)) (pgs_cons (pg_sub ho2 hx2 P (assign_ix hi2)) pgs_nil))) (no_swapS hs _ _ _) hw (by rfl)) fun Dn sg H ⟨O, env, h, eo, S, w⟩ => ⟨O, env, h, eo, S, PostS.bind w eo fun d h1 O1 vv H1 _ s1 S1 r1 p1 => ?_⟩
  cases hd : pairOf d with
  | none => rw [hd] at p1; exact p1.elim
  | some q =>
    obtain ⟨u, v⟩ := q
    rw [hd] at p1
    have p1 : PostS X W Dn O1 H1 ((fa env h1).sbind env fun x h => (fb env h).sbind env fun y h => match setIxD h x y u with
        | some h => (fa2 env h).sbind env fun x h => (fb2 env h).sbind env fun y h => match setIxD h x y v with
          | some h => .nx env h
          | none => .no
        | none => .no) := p1
    have ed : d = .tup [u, v] := by
      unfold pairOf at hd
      split at hd
      · cases hd; rfl
      · cases hd
    subst ed
    cases r1 with
    | tup qf z rl =>
      cases rl with
      | cons ru t =>
        cases t with
        | cons rv t =>
          cases t
          refine ⟨_, _, rfl, SqT.of (S1.sub _ _ qf), rfl, _, _, rfl, O1, env, h1, eo.stp s1, S1, PostS.bind p1 (eo.stp s1) fun x h2 O2 xv H2 _ s2 S2 r2 p2 => ⟨O2, env, h2, (eo.stp s1).stp s2, S2, PostS.bind p2 ((eo.stp s1).stp s2) fun y h3 O3 yv H3 _ s3 S3 r3 p3 => ?_⟩⟩
          cases es : setIxD h3 x y u with
          | none => rw [es] at p3; exact p3.elim
          | some h4 =>
            rw [es] at p3
            have p3 : PostS X W Dn O3 H3 ((fa2 env h4).sbind env fun x h => (fb2 env h).sbind env fun y h => match setIxD h x y v with
              | some h => .nx env h
              | none => .no) := p3
            refine set_ok S3 (r2.stp s3) r3 ((ru.stp s2).stp s3) es fun H4 s4 S4 => ?_
            have e4 := (((eo.stp s1).stp s2).stp s3).stp s4
            refine ⟨_, _, rfl, O3, env, h4, e4, S4, PostS.bind (PostS.weak p3 s4) e4 fun x5 h5 O5 xv5 H5 _ s5 S5 r5 p5 => ⟨O5, env, h5, e4.stp s5, S5, PostS.bind p5 (e4.stp s5) fun y6 h6 O6 yv6 H6 _ s6 S6 r6 p6 => ?_⟩⟩
            cases es2 : setIxD h6 x5 y6 v with
            | none => rw [es2] at p6; exact p6.elim
            | some h7 =>
              rw [es2] at p6
              exact set_ok S6 (r5.stp s6) r6 (((((rv.stp s2).stp s3).stp s4).stp s5).stp s6) es2 fun H7 s7 S7 => ⟨rfl, p6 O6 sg H7 s7 S7 (((e4.stp s5).stp s6).stp s7)⟩
/-! ### o.f = e -/
theorem putF_ok {O : Om} {f : Str} {d : D} {v : V} (q : RepX X O d v) : ∀ {ds : List (Str × D)} {ws : List (Str × V)}, RepP X.K X.mg O ds ws → RepP X.K X.mg O (putFD f d ds) (putF f v ws)
  | _, _, .nil => .cons q .nil
  | _, _, .cons (k := k) r t => by
    unfold putFD putF
    by_cases h : k = f
    · simp only [h, if_true]; exact .cons q t
    · simp only [h, if_false]; exact .cons r (putF_ok q t)
theorem sS_setf {f : Str} {opos : Pos} (c : XOk X W G k T) (hf : f ∈ T.attrs) (ho : PE X o (tE X W fa)) (he : PE X e (tE X W fc)) (hs : compless e = true) :
    PS X (.Assign [.Attribute o f opos] e pos) (tS X W fun env h => (fc env h).sbind env fun v h => (fa env h).sbind env fun x h => match setFD G h x f v with
      | some h => .nx env h
      | none => .no) :=
  PS.weak (ps_fld ho he (no_swap hs _ _ _)) fun Dn sg H ⟨O, env, h, eo, S, w⟩ =>
    ⟨O, env, h, eo, S, PostS.bind w eo fun v h1 O1 vv H1 _ s1 S1 r1 p1 => ⟨O1, env, h1, eo.stp s1, S1, PostS.bind p1 (eo.stp s1) fun x h2 O2 xv H2 _ s2 S2 r2 p2 => by
      cases es : setFD G h2 x f v with
      | none => rw [es] at p2; exact p2.elim
      | some h' =>
        rw [es] at p2
        cases x with
        | ptr n =>
          simp only [setFD] at es
          split at es
          · rename_i C fl hn
            split at es
            · rename_i hg
              cases es
              simp only [Bool.and_eq_true, decide_eq_true_eq] at hg
              obtain ⟨hlt, cl, dx, ws, hm, ha, rp⟩ := S2.at hn
              have q := c.wf.cls C hg.1 cl hm
              cases r2
              obtain ⟨s3, S3⟩ := S2.put (o := .ins cl dx (putF f vv ws)) hn (by simp) (c := .ins C (putFD f v fl)) ⟨cl, dx, _, hm, upd_same, putF_ok (r1.stp s2) rp⟩
              exact ⟨_, cl, dx, ws, rfl, ha, q.1.cl, q.2.1 f hf, by rw [← rp.len]; exact hg.2, p2 O2 sg _ s3 S3 (((eo.stp s1).stp s2).stp s3)⟩
            · cases es
          · cases es
        | _ => cases es⟩⟩
/-! ### the rest -/
theorem sS_ex (ha : PE X e (tE X W fa)) (hs : compless e = true) : PS X (.Expr e pos) (tS X W fun env h => (fa env h).sbind env fun _ h => .nx env h) :=
  PS.weak (ps_expr ha (no_swap hs _ _ _)) fun Dn sg H ⟨O, env, h, eo, S, w⟩ => ⟨O, env, h, eo, S, PostS.bind w eo fun d h1 O1 v H1 _ s1 S1 r1 p1 => p1 O1 sg H1 (Stp.refl _ _) S1 (eo.stp s1)⟩
theorem sS_ret (ha : PE X e (tE X W fa)) : PS X (.Return (some e) pos) (tS X W fun env h => (fa env h).sbind env fun d h => .rt d h) :=
  PS.weak (ps_ret ha) fun Dn sg H ⟨O, env, h, eo, S, w⟩ => ⟨O, env, h, eo, S, PostS.bind w eo fun d h1 O1 v H1 _ s1 S1 r1 p1 => p1 O1 v H1 (Stp.refl _ _) S1 r1⟩
theorem sS_retN : PS X (.Return none pos) (tS X W fun _ h => .rt .non h) := PS.weak ps_retN fun Dn sg H ⟨O, env, h, eo, S, w⟩ => w O _ H (Stp.refl _ _) S .non
theorem sS_pass : PS X (.Pass pos) (tS X W fun env h => .nx env h) := PS.weak ps_pass fun Dn sg H ⟨O, env, h, eo, S, w⟩ => w O sg H (Stp.refl _ _) S eo
theorem sS_brk : PS X (.Break pos) (tS X W fun env h => .bk env h) := PS.weak ps_break fun Dn sg H ⟨O, env, h, eo, S, w⟩ => w O sg H (Stp.refl _ _) S eo
theorem sS_cnt : PS X (.Continue pos) (tS X W fun env h => .ct env h) := PS.weak ps_continue fun Dn sg H ⟨O, env, h, eo, S, w⟩ => w O sg H (Stp.refl _ _) S eo
theorem sS_doc {z : Str} {j : Nat} {p2 : Pos} : PS X (.Expr (.Constant (.str z) j p2) pos) (tS X W fun env h => .nx env h) := PS.weak ps_doc fun Dn sg H ⟨O, env, h, eo, S, w⟩ => w O sg H (Stp.refl _ _) S eo
theorem sSs_nil : PSs X [] (tS X W fun env h => .nx env h) := PSs.weak pss_nil fun Dn sg H ⟨O, env, h, eo, S, w⟩ => w O sg H (Stp.refl _ _) S eo
theorem then_post {Dn : Ends} {O : Om} {H : Hp} {r : SRes} (w : PostS X W Dn O H (r.then g)) : PostS X W { Dn with nx := tS X W g Dn } O H r := by
  cases r with
  | nx env h => exact fun O' sg' H' s S e => ⟨O', env, h, e, S, PostS.weak w s⟩
  | _ => exact w
theorem sSs_cons (h1 : PS X st (tS X W f)) (h2 : PSs X sts (tS X W g)) : PSs X (st :: sts) (tS X W fun env h => (f env h).then g) :=
  PSs.weak (pss_cons h1 h2) fun Dn sg H ⟨O, env, h, eo, S, w⟩ => ⟨O, env, h, eo, S, then_post w⟩
/-- a note of the reader's: the list changes no more -/
theorem sSs_frz {j : Nat} (h2 : PSs X sts (tS X W g)) : PSs X sts (tS X W fun env h => (match get env j with
      | some (.ptr p) => match h[p]? with
        | some (.lst xs) => .nx (env.set j (some (.lst xs))) (h.set p .dead)
        | _ => .no
      | some (.lst xs) => .nx env h
      | none => .nx env h
      | _ => .no : SRes).then g) :=
  PSs.weak h2 fun Dn sg H ⟨O, env, h, eo, S, w⟩ => by
    have w : PostS X W Dn O H ((match get env j with
      | some (.ptr p) => match h[p]? with
        | some (.lst xs) => .nx (env.set j (some (.lst xs))) (h.set p .dead)
        | _ => .no
      | some (.lst xs) => .nx env h
      | none => .nx env h
      | _ => .no : SRes).then g) := w
    split at w
    · rename_i n hg
      split at w
      · rename_i xs hn
        obtain ⟨O2, s2, S2, r2⟩ := S.freeze hn
        obtain ⟨v, hv, rv⟩ := get_ok eo hg
        cases rv
        refine ⟨O2, _, _, ?_, S2, PostS.weak w s2⟩
        have z := (eo.stp s2).set j r2
        rwa [show sg.set j (some (.ref (O.φ n))) = sg by
          apply List.ext_getElem?
          intro q
          by_cases hq : j = q
          · subst hq
            rw [List.getElem?_set_self (List.getElem?_eq_some_iff.mp hv).1, hv]
          · rw [List.getElem?_set_ne hq]] at z
      · exact w.elim
    · exact ⟨O, env, h, eo, S, w⟩
    · exact ⟨O, env, h, eo, S, w⟩
    · exact w.elim
theorem sS_ife {ss ts : List Stmt} (hc : PT X e (tT X W ft)) (ha : PSs X ss (tS X W f)) (hb : PSs X ts (tS X W g)) : PS X (.If e ss ts pos) (tS X W fun env h => (ft env h).sbind env fun k h => if k then f env h else g env h) :=
  PS.weak (ps_if hc ha hb) fun Dn sg H ⟨O, env, h, eo, S, w⟩ => ⟨O, env, h, eo, S, PostS.bind w eo fun c h1 O1 c' H1 _ s1 S1 r1 p1 => by
    cases (show c = c' from r1)
    cases c with
    | true => rw [if_pos rfl] at p1 ⊢; exact ⟨O1, env, h1, eo.stp s1, S1, p1⟩
    | false => rw [if_neg (by decide)] at p1 ⊢; exact ⟨O1, env, h1, eo.stp s1, S1, p1⟩⟩
/-- for t in ..: -/
theorem sS_loop {tg : Tg} {t iter : Expr} {body : List Stmt} {kS : SrcK} (c : XOk X W G k T) (hp : PassesOwn (model X.prog X.w) X.A X.env X.xe) (hi : PI X t iter (tI X W kS fs)) (hg : PG X t (gT X tg)) (hb : PSs X body (tS X W f)) (hs : setless iter = true) :
    PS X (.For t iter body [] pos) (tS X W fun env h => (fs env h).sbind env fun ds h => match srcD kS ds with
      | some xs => forLoop (fun x env h => match asg tg x env with
        | some env => f env h
        | none => .no) xs env h
      | none => .no) :=
  PS.weak (ps_for hp c.calm hi hg hb (fold_set hs X.env)) fun Dn sg H ⟨O, env, h, eo, S, w⟩ => ⟨O, env, h, eo, S, by
    have w : PostS X W Dn O H ((fs env h).sbind env fun ds h => match srcD kS ds with
      | some xs => forLoop (fun x env h => match asg tg x env with
        | some env => f env h
        | none => .no) xs env h
      | none => .no) := w
    cases er : fs env h with
    | no => rw [er] at w; exact w.elim
    | ex e1 h1 => rw [er] at w; exact fun O' c d H' s sr x => w O' c d sg H' s sr (eo.stp s) x
    | ok ds h1 =>
      rw [er] at w
      have w : PostS X W Dn O H (match srcD kS ds with
        | some xs => forLoop (fun x env h => match asg tg x env with
          | some env => f env h
          | none => .no) xs env h1
        | none => .no) := w
      show Post X W sg O H (Res.of (srcD kS ds) h1) (SrcOk X) _
      cases ex : srcD kS ds with
      | none => rw [ex] at w; exact w.elim
      | some xs =>
        rw [ex] at w
        intro O1 J H1 s1 S1 ⟨Gd, Y, wk, hG, hY⟩
        refine for_it wk (fun i sg' H' => ∃ O' env' h', SR X.K X.mg O' h' H' ∧ NvOk X.K X.mg O' env' sg' ∧ Stp O1 H1 O' H' ∧ PostS X W Dn O' H' (forLoop (fun x env h => match asg tg x env with
        | some env => f env h
        | none => .no) (xs.drop i) env' h')) ⟨O1, env, h1, S1, eo.stp s1, Stp.refl _ _, PostS.weak w s1⟩ (fun i sg' H' hi ⟨O', env', h', S', e', st, p'⟩ => hG O' h' H' st.le S') ?_ ?_
        · intro i x sg' Ha H' hi ⟨O', env', h', S', e', st, p'⟩ hy
          have hd : xs[i]? = some xs[i] := List.getElem?_eq_getElem hi
          obtain ⟨O2, s2, S2, r2⟩ := hY O' h' Ha i _ x H' st.le S' hd hy
          rw [List.drop_eq_getElem_cons hi] at p'
          generalize xs[i] = d at p' r2
          have p2 := PostS.weak p' s2
          cases ea : asg tg d env' with
          | none => simp only [forLoop, ea] at p2; exact p2.elim
          | some env2 =>
            simp only [forLoop, ea] at p2
            refine ⟨O2, h', d, env', env2, S2, e'.stp s2, r2, ea, fun sg2 e2 _ => ⟨O2, env2, h', e2, S2, ?_⟩⟩
            cases ef : f env2 h' with
            | nx env3 h3 => rw [ef] at p2; exact fun O3 sg3 H3 s3 S3 e3 => ⟨O3, env3, h3, S3, e3, (st.trans s2).trans s3, PostS.weak p2 s3⟩
            | ct env3 h3 => rw [ef] at p2; exact fun O3 sg3 H3 s3 S3 e3 => ⟨O3, env3, h3, S3, e3, (st.trans s2).trans s3, PostS.weak p2 s3⟩
            | bk env3 h3 => rw [ef] at p2; exact p2
            | rt d3 h3 => rw [ef] at p2; exact p2
            | ex e3 env3 h3 => rw [ef] at p2; exact p2
            | no => rw [ef] at p2; exact p2
        · intro sg' H' ⟨O', env', h', S', e', st, p'⟩
          rw [List.drop_length] at p'
          exact p' O' sg' H' (Stp.refl _ _) S' e'⟩
end
end SI
end
section
set_option Elab.async false
set_option linter.all false
set_option maxRecDepth 100000
set_option maxHeartbeats 4000000
/-! SIX1: a comprehension over a dict's keys. -/
namespace SI
open PySem PySem.Spec PyProof.Rows L2
section
variable {X : Cx} {W : WX} {G : Wr} {k : Nat} {T : Tab} {a b e o i : Expr} {es : List Expr} {p pos apos : Pos} {fe : Nv → Hs → Res D} {ft : Nv → Hs → Res Bool} {x m : Str}
/-- the turns of a comprehension that runs through -/
theorem lc_core {J : It} {tg : Tg} {vs : List Nat} {envw : Nv} {sg : L2.St} {O1 : Om} {h1 : Hs} {H1 : Hp} {xs yF : List D} {hF : Hs} {q : Addr} {Fin : Hp → Prop} (S1 : SR X.K X.mg O1 h1 H1) (src : SrcOk X O1 xs J) (eo : NvOk X.K X.mg O1 envw (wipe sg vs))
    (hz : xs.length ≤ LINE) (hq : H1 q = none) (hsub : ∀ j ∈ ids tg, j ∈ vs) (run : compLoop (turnF tg ft fe envw) xs h1 = .ok yF hF)
    (fin : ∀ O' ws H', SR X.K X.mg O' hF H' → Apart O' H' q → H' q = some (.lst ws) → RepLX X O' yF ws → ws.length ≤ sizeLine → StpX q O1 H1 O' H' → Fin H') :
    ∃ Wk : Nat → Nat → Hp → Prop, (∃ m, Wk 0 m (upd H1 q (.lst []))) ∧ ∀ i m H, Wk i m H →
      (J.stop i H ∧ Fin H) ∨ (J.go i H ∧ ∃ Nx : Hp → Prop, (∀ H', Nx H' → ∃ m', m' < m ∧ Wk (i + 1) m' H') ∧ ∀ x H', J.yld i H x H' → gT X tg x (wipe sg vs) H' fun σ2 H2 => wipe σ2 vs = wipe sg vs ∧ tT X W0 ft σ2 H2 fun b H3 =>
        if b = true then tE X W0 fe σ2 H3 fun y H4 => ∃ acc, H4 q = some (.lst acc) ∧ acc.length < sizeLine ∧ Nx (upd H4 q (.lst (acc ++ [y]))) else Nx H3) := by
  obtain ⟨Gd, Y, wk, hG, hY⟩ := src
  have LE := LINE_eq
  refine lc_it wk (fun i H' => ∃ O' h' acc ws ys, SR X.K X.mg O' h' H' ∧ Apart O' H' q ∧ H' q = some (.lst ws) ∧ RepLX X O' acc ws ∧ ws.length ≤ i ∧ StpX q O1 H1 O' H' ∧
    compLoop (turnF tg ft fe envw) (xs.drop i) h' = .ok ys hF ∧ yF = acc ++ ys) ?_ (fun i H' hi ⟨O', h', acc, ws, ys, S', A', e', rl, lz, sx, c', _⟩ => hG O' h' H' sx.le S') ?_ ?_
  · obtain ⟨A0, S0⟩ := Apart.new S1 hq (.lst [])
    exact ⟨O1, h1, [], [], yF, S0, A0, upd_same, .nil, Nat.le_refl _, StpX.put q O1 H1 _, run, rfl⟩
  · intro i x Ha H' hi ⟨O', h', acc, ws, ys, S', A', e', rl, lz, sx, c', ey⟩ hy
    have hd : xs[i]? = some xs[i] := List.getElem?_eq_getElem hi
    obtain ⟨O2, s2, S2, r2⟩ := hY O' h' Ha i _ x H' sx.le S' hd hy
    rw [List.drop_eq_getElem_cons hi] at c'
    generalize xs[i] = d at c' r2
    have c' : ((turnF tg ft fe envw d h').bind fun o h => (compLoop (turnF tg ft fe envw) (xs.drop (i + 1)) h).bind fun ys h => .ok (match o with
      | some y => y :: ys
      | none => ys) h) = .ok ys hF := c'
    have le2 : O1.Le O2 := sx.le.trans s2.le
    obtain ⟨A2, e2⟩ := A'.stp s2 e'
    cases ea : asg tg d envw with
    | none => rw [show turnF tg ft fe envw d h' = .no by unfold turnF; rw [ea]; rfl] at c'; cases c'
    | some env2 =>
      have et : turnF tg ft fe envw d h' = ((ft env2 h').bind fun b h => if b then (fe env2 h).bind fun y h => .ok (some y) h else .ok none h).calm := by unfold turnF; rw [ea]; rfl
      rw [et] at c'
      refine ⟨O2, h', d, _, env2, S2, eo.le le2, r2, ea, fun σ2 nv2 only => ⟨?_, O2, env2, h', nv2, S2, ?_⟩⟩
      · have z := wipe_eq (σ := sg) (σ2 := σ2) (l := ids tg) (vs := vs) (by rw [← nv2.len, asg_length ea, eo.len, wipe_length]) only hsub
        exact z
      cases ef : ft env2 h' with
      | no => rw [ef] at c'; cases c'
      | ex e1 h1 => rw [ef] at c'; cases c'
      | ok b h3 =>
        rw [ef] at c'
        intro O3 b' H3 s3 S3 (rb : b = b')
        subst rb
        obtain ⟨A3, e3⟩ := A2.stp s3 e2
        cases b with
        | false =>
          rw [if_neg (by decide)]
          have c' : ((compLoop (turnF tg ft fe envw) (xs.drop (i + 1)) h3).bind fun ys h => .ok ys h) = .ok ys hF := c'
          cases eq : compLoop (turnF tg ft fe envw) (xs.drop (i + 1)) h3 with
          | ok zs hh => rw [eq] at c'; cases c'; exact ⟨O3, h3, acc, ws, ys, S3, A3, e3, (rl.stp s2).stp s3, by omega, (sx.trans s2.x).trans s3.x, eq, ey⟩
          | ex _ _ => rw [eq] at c'; cases c'
          | no => rw [eq] at c'; cases c'
        | true =>
          rw [if_pos rfl]
          refine ⟨O3, env2, h3, nv2.stp s3, S3, ?_⟩
          have c' : ((((fe env2 h3).bind fun y h => Res.ok (some y) h).calm).bind fun o h => (compLoop (turnF tg ft fe envw) (xs.drop (i + 1)) h).bind fun ys h => .ok (match o with
            | some y => y :: ys
            | none => ys) h) = .ok ys hF := c'
          cases eg : fe env2 h3 with
          | no => rw [eg] at c'; cases c'
          | ex e1 h1 => rw [eg] at c'; cases c'
          | ok y h4 =>
            rw [eg] at c'
            intro O4 vy H4 s4 S4 ry
            obtain ⟨A4, e4⟩ := A3.stp s4 e3
            have c' : ((compLoop (turnF tg ft fe envw) (xs.drop (i + 1)) h4).bind fun ys h => .ok (y :: ys) h) = .ok ys hF := c'
            cases eq : compLoop (turnF tg ft fe envw) (xs.drop (i + 1)) h4 with
            | ok zs hh =>
              rw [eq] at c'; cases c'
              exact ⟨ws, e4, by omega, O4, h4, acc ++ [y], ws ++ [vy], zs, A4.srU S4 _, A4.upd _, upd_same, (((rl.stp s2).stp s3).stp s4).app (.cons ry .nil), by simp; omega, (((sx.trans s2.x).trans s3.x).trans s4.x).trans (StpX.put q O4 H4 _), eq, by simp [ey]⟩
            | ex _ _ => rw [eq] at c'; cases c'
            | no => rw [eq] at c'; cases c'
  · intro H' ⟨O', h', acc, ws, ys, S', A', e', rl, lz, sx, c', ey⟩
    rw [List.drop_length] at c'
    cases c'
    rw [List.append_nil] at ey
    subst ey
    exact fin O' ws H' S' A' e' rl (by omega) sx
theorem turn_calm {tg : Tg} {envw : Nv} {d : D} {h : Hs} {e1 : Exc} {h1 : Hs} : turnF tg ft fe envw d h ≠ .ex e1 h1 := fun z => by
  unfold turnF Res.calm at z
  split at z <;> cases z
theorem loop_calm {tg : Tg} {envw : Nv} : ∀ {xs : List D} {h : Hs} {e1 : Exc} {h1 : Hs}, compLoop (turnF tg ft fe envw) xs h = .ex e1 h1 → False
  | [], _, _, _, z => by cases z
  | d :: xs, h, e1, h1, z => by
    have z : ((turnF tg ft fe envw d h).bind fun o h => (compLoop (turnF tg ft fe envw) xs h).bind fun ys h => .ok (match o with
      | some y => y :: ys
      | none => ys) h) = .ex e1 h1 := z
    cases q : turnF tg ft fe envw d h with
    | no => rw [q] at z; cases z
    | ex e2 h2 => exact turn_calm q
    | ok o h2 =>
      rw [q] at z
      have z : ((compLoop (turnF tg ft fe envw) xs h2).bind fun ys h => .ok (match o with
        | some y => y :: ys
        | none => ys) h) = .ex e1 h1 := z
      cases q2 : compLoop (turnF tg ft fe envw) xs h2 with
      | no => rw [q2] at z; cases z
      | ok ys h3 => rw [q2] at z; cases z
      | ex e2 h3 => exact loop_calm q2
theorem NvOk.forget {O : Om} {env : Nv} {sg : L2.St} (e : NvOk X.K X.mg O env sg) (j : Nat) : NvOk X.K X.mg O (env.set j none) sg := by
  refine ⟨by rw [List.length_set]; exact e.len, fun i d q => ?_⟩
  by_cases h : j = i
  · subst h
    by_cases hl : j < env.length
    · rw [List.getElem?_set_self hl] at q; cases q
    · rw [List.getElem?_eq_none (by rw [List.length_set]; omega)] at q; cases q
  · rw [List.getElem?_set_ne h] at q
    exact e.val i d q
theorem kD_ok {O : Om} (k : Key) : RepX X O (kD k) (kV k) := by
  cases k with
  | inl i => exact .int i
  | inr s => exact .str s
theorem kDs_ok {O : Om} : ∀ ks : List Key, RepLX X O (ks.map kD) (ks.map kV)
  | [] => .nil
  | k :: ks => .cons (kD_ok k) (kDs_ok ks)
/-- the keys of a locked dict -/
theorem src_keysK {O : Om} {d : Addr} {o : Obj} {kvs : List (Key × D)} {ws : List (Key × V)} (rp : RepP X.K X.mg O kvs ws) (hF : O.F d = some (.frz o (.dK ws))) : SrcOk X O (kvs.map fun q => kD q.1) (Itk d o ws) := by
  refine ⟨fun H => H d = some (.frz o (.dK ws)), fun i H x H' => H' = H ∧ ∃ k v, ws[i]? = some (k, v) ∧ x = kV k, by rw [List.length_map, rp.len]; exact walk_keys, fun O1 h1 H1 l S => S.sub _ _ (l.F _ _ hF), fun O1 h1 H1 i d x H2 l S e ⟨eH, k, v, e2, ex⟩ => ?_⟩
  subst eH ex
  have go : ∀ {kvs : List (Key × D)} {ws : List (Key × V)} {i : Nat}, RepP X.K X.mg O kvs ws → ws[i]? = some (k, v) → ∃ d, kvs[i]? = some (k, d) := by
    intro kvs ws i r
    induction r generalizing i with
    | nil => intro e; simp at e
    | @cons k1 d1 v1 ds vs q t ih =>
      intro e
      cases i with
      | zero => simp at e; exact ⟨d1, by simp [e.1]⟩
      | succ i => obtain ⟨d, hd⟩ := ih (i := i) (by simpa using e); exact ⟨d, by simpa using hd⟩
  obtain ⟨d', hd'⟩ := go rp e2
  rw [List.getElem?_map, hd'] at e
  cases e
  exact ⟨O1, Stp.refl _ _, S, kD_ok k⟩
theorem src_keysT {O : Om} {d : Addr} {o : Obj} {kvs : List (List Key × D)} {ws : List (List Key × V)} (rp : RepP X.K X.mg O kvs ws) (hs : ∀ q ∈ kvs, q.1.length ≤ 1000) (hF : O.F d = some (.frz o (.dT ws))) : SrcOk X O (kvs.map fun q => .tup (q.1.map kD)) (Itkt d o ws) := by
  refine ⟨fun H => H d = some (.frz o (.dT ws)), fun i H x H' => H' = H ∧ ∃ (k : List Key) (v : V) (q : Addr), ws[i]? = some (k, v) ∧ x = .ref q ∧ H q = some (.tup (k.map kV)), by rw [List.length_map, rp.len]; exact walk_keysT, fun O1 h1 H1 l S => S.sub _ _ (l.F _ _ hF), fun O1 h1 H1 i d x H2 l S e ⟨eH, k, v, q, e2, ex, eq⟩ => ?_⟩
  subst eH ex
  have go : ∀ {kvs : List (List Key × D)} {ws : List (List Key × V)} {i : Nat}, RepP X.K X.mg O kvs ws → ws[i]? = some (k, v) → ∃ d, kvs[i]? = some (k, d) := by
    intro kvs ws i r
    induction r generalizing i with
    | nil => intro e; simp at e
    | @cons k1 d1 v1 ds vs q t ih =>
      intro e
      cases i with
      | zero => simp at e; exact ⟨d1, by simp [e.1]⟩
      | succ i => obtain ⟨d, hd⟩ := ih (i := i) (by simpa using e); exact ⟨d, by simpa using hd⟩
  obtain ⟨d', hd'⟩ := go rp e2
  rw [List.getElem?_map, hd'] at e
  cases e
  obtain ⟨s2, S2, f2⟩ := S.tupF eq
  exact ⟨_, s2, S2, .tup f2 (by
    have z : k.length ≤ 1000 := hs (k, d') (List.mem_of_getElem? hd')
    have LE := LINE_eq
    have : LINE = 16777216 := rfl
    rw [List.length_map]; omega) (kDs_ok k)⟩
def compKF (tg : Tg) (ft : Nv → Hs → Res Bool) (fe : Nv → Hs → Res D) (own : List Nat) (i : Nat) (mm : Bool) : Nv → Hs → Res D := fun env h => match get env i with
      | some (.ptr p) => match h[p]? with
        | some ce => match keysD ce with
          | some xs => if xs.length ≤ LINE then reL mm ((compLoop (turnF tg ft fe ((wipeE env own).set i none)) xs (h.set p .dead)).bind fun ys h2 => .ok (.lst ys) (h2.set p ce)) else .no
          | none => .no
        | none => .no
      | _ => .no
theorem compK_im {tg : Tg} {own : List Nat} {mm : Bool} {i : Nat} {sg : L2.St} {H : Hp} {Q : VK} (hsub : ∀ j ∈ ids tg, j ∈ own) (w : tE X W (compKF tg ft fe own i mm) sg H Q) :
    tLockE (tLc (iKeys (tVar i)) (gT X tg) (tT X W0 ft) (tE X W0 fe) own) sg H Q := by
  obtain ⟨O, env, h, eo, S, w⟩ := w
  have w : Post X W sg O H (match get env i with
      | some (.ptr p) => match h[p]? with
        | some ce => match keysD ce with
          | some xs => if xs.length ≤ LINE then reL mm ((compLoop (turnF tg ft fe ((wipeE env own).set i none)) xs (h.set p .dead)).bind fun ys h2 => .ok (.lst ys) (h2.set p ce)) else .no
          | none => .no
        | none => .no
      | _ => .no) (RepX X) Q := w
  split at w
  · rename_i n hget
    obtain ⟨v, hv1, rv⟩ := get_ok eo hget
    cases rv with
    | ptr hn =>
    split at w
    · rename_i ce hc
      split at w
      · rename_i xs hx
        split at w
        · rename_i hz
          have cell := S.cell n ce hc
          have main : ∀ (u : HO) (J : It) (od : Obj), ce ≠ .dead → H (O.φ n) = some u → lkO (.frz od u) = true → SrcOk X (O.frz (O.φ n) (.frz od u)) xs J →
              ∀ q, upd H (O.φ n) (.frz od u) q = none → ∃ Wk : Nat → Nat → Hp → Prop, (∃ m, Wk 0 m (upd (upd H (O.φ n) (.frz od u)) q (.lst []))) ∧ ∀ i m H', Wk i m H' →
                (J.stop i H' ∧ (H' (O.φ n) = some (.frz od u) ∧ Q (.ref q) (upd H' (O.φ n) u))) ∨ (J.go i H' ∧ ∃ Nx : Hp → Prop, (∀ H', Nx H' → ∃ m', m' < m ∧ Wk (i + 1) m' H') ∧ ∀ x H2, J.yld i H' x H2 → gT X tg x (wipe sg own) H2 fun σ2 H2 => wipe σ2 own = wipe sg own ∧ tT X W0 ft σ2 H2 fun b H3 =>
                  if b = true then tE X W0 fe σ2 H3 fun y H4 => ∃ acc, H4 q = some (.lst acc) ∧ acc.length < sizeLine ∧ Nx (upd H4 q (.lst (acc ++ [y]))) else Nx H3) := fun u J od nd hu lk src q hq => by
            have SL := S.lock hc nd (.frz od u)
            have hqn : q ≠ O.φ n := fun z => by rw [z, upd_same] at hq; cases hq
            have hq0 : H q = none := by rw [upd_ne hqn] at hq; exact hq
            cases run : compLoop (turnF tg ft fe ((wipeE env own).set i none)) xs (h.set n .dead) with
            | no => rw [run] at w; cases mm <;> exact (show False from w).elim
            | ex e1 h1 =>
              exfalso
              exact loop_calm run
            | ok yF hF =>
              rw [run] at w
              have eoL : NvOk X.K X.mg (O.frz (O.φ n) (.frz od u)) env sg := NvOk.le (O := O) (O' := O.frz (O.φ n) (.frz od u)) eo ⟨Nat.le_refl _, fun _ _ => rfl, fun a o e => by
                show upd O.F (O.φ n) (.frz od u) a = some o
                rw [upd_ne (fun z => by rw [z, S.nof n ce hc nd] at e; cases e)]; exact e⟩
              refine lc_core SL src ((eoL.wipe _).forget i) hz hq hsub run fun O' ws H' S' A' e' rl lz sx => ?_
              · obtain ⟨sx2, S2, lk2, φ2, n2⟩ := S.unlock hc nd hu lk sx S' hq0
                refine ⟨S'.sub _ _ (sx.F _ _ (by show upd O.F (O.φ n) _ (O.φ n) = _; rw [upd_same])), ?_⟩
                refine reL_end (sg := sg) (W := W) (mm := mm) S2 (A'.unl φ2 n2) (by rw [upd_ne hqn]; exact e') (rl.unl lk2) lz hq0 sx2 w
          cases ce with
          | dK kvs =>
            obtain ⟨ws, hw, rp⟩ := cell
            cases hx
            refine ⟨O.φ n, .dK ws, hw, trivial, fun od => ⟨.ref (O.φ n), hv1, O.φ n, od, rfl, .inl ⟨ws, upd_same, fun q hq => main (.dK ws) _ od (by simp) hw rfl (src_keysK (rp.upp (O' := O.frz (O.φ n) (.frz od (.dK ws))) (Nat.le_refl _) (fun _ _ => rfl) fun a o e => ?_) ?_) q hq⟩⟩⟩
            · show upd O.F (O.φ n) _ a = some o
              rw [upd_ne (fun z => by rw [z, S.nof n _ hc (by simp)] at e; cases e)]; exact e
            · show upd O.F (O.φ n) _ (O.φ n) = _
              rw [upd_same]
          | dT kvs =>
            obtain ⟨ws, hw, rp⟩ := cell
            simp only [keysD] at hx
            split at hx
            · rename_i hs
              cases hx
              refine ⟨O.φ n, .dT ws, hw, trivial, fun od => ⟨.ref (O.φ n), hv1, O.φ n, od, rfl, .inr ⟨ws, upd_same, fun q hq => main (.dT ws) _ od (by simp) hw rfl (src_keysT (rp.upp (O' := O.frz (O.φ n) (.frz od (.dT ws))) (Nat.le_refl _) (fun _ _ => rfl) fun a o e => ?_) (fun q hq => by simpa using List.all_eq_true.mp hs q hq) ?_) q hq⟩⟩⟩
              · show upd O.F (O.φ n) _ a = some o
                rw [upd_ne (fun z => by rw [z, S.nof n _ hc (by simp)] at e; cases e)]; exact e
              · show upd O.F (O.φ n) _ (O.φ n) = _
                rw [upd_same]
            · cases hx
          | lst xs => cases hx
          | ins C fs => cases hx
          | tab y => cases hx
          | dead => cases hx
        · exact (show False from w).elim
      · exact (show False from w).elim
    · exact (show False from w).elim
  · exact (show False from w).elim
/-- [.. for x in d] -/
theorem sE_compK {tg : Tg} {tgE elt : Expr} {ifs : List Expr} {scope : Scope} {own : List (Str × Nat)} {mm : Bool} {i : Nat} (c : XOk X W G k T) (hN : X.N[i]? = some x) (hv : Vis X.env.scope x) (hd : (x == ("__debug__" : Str)) = false) (hcd : (x == ("__classdict__" : Str)) = false) (ok : BlkOk X.N X.env.scope scope own)
    (hg : ∀ (s : Shared) (H : Hp) (C : Addr) (cl : List (Str × Addr)) (fp : List Addr), PG (X.blk s H scope (compEnvC scope cl C X.env) fp) tgE (gT X tg))
    (ht : ∀ (s : Shared) (H : Hp) (C : Addr) (cl : List (Str × Addr)) (fp : List Addr), PTs (X.blk s H scope (compEnvC scope cl C X.env) fp) ifs (tT X W0 ft))
    (he : ∀ (s : Shared) (H : Hp) (C : Addr) (cl : List (Str × Addr)) (fp : List Addr), PE (X.blk s H scope (compEnvC scope cl C X.env) fp) elt (tE X W0 fe))
    (hsub : ∀ j ∈ ids tg, j ∈ own.map (·.2)) :
    PE X (.ListComp elt [⟨tgE, .Name x p, ifs, 0⟩] scope pos) (tE X W (compKF tg ft fe (own.map (·.2)) i mm)) :=
  PE.weak (pe_lock (pe_lc c.calm c.nd (pi_keys (pe_var hN hv hd hcd)) ok hg ht he (fold_set (e := .Name x p) rfl X.env))) fun sg H Q w => compK_im hsub w
end
end SI
end
section
set_option Elab.async false
set_option linter.all false
set_option maxRecDepth 100000
set_option maxHeartbeats 4000000
/-! SIX2: x op= e, o[i] op= e, o[a:b] = e, list(e) that changes. -/
namespace SI
open PySem PySem.Spec PyProof.Rows L2
section
variable {X : Cx} {W : WX} {G : Wr} {k : Nat} {T : Tab} {a b e o i : Expr} {es : List Expr} {p pos apos : Pos} {fa fb fc fd : Nv → Hs → Res D} {x m : Str}
/-- o[i] by values -/
theorem get_list : PGet X (rIxL X.K) := by
  intro pins s σ H x y v u Q I rx ry h
  obtain ⟨p, xs, i, z, rfl, rfl, hq, he, q⟩ := h
  cases rx
  obtain ⟨t, rfl⟩ := ry
  obtain ⟨its, r, pl, hz⟩ := I.list hq
  obtain ⟨j, h1, h2, h3, h4, h5⟩ := atI_get he
  obtain ⟨w, ew, rw'⟩ := r.get h2
  have hl := r.length
  have hn := line63
  have fin : EP X pins σ Q w s := ⟨z, H, I, rw', q⟩
  by_cases h0 : 0 ≤ i
  · have hj : i.toNat = j := by
      rw [seqIndex_of h0 h5] at h1
      exact Option.some.inj h1
    exact wpAny_getItem_list pl.isList h0 (by omega) (by rw [hj]; simpa using ew) fin
  · have hj : (i + (its.toArray.size : Int)).toNat = j := by
      rw [seqIndex_neg (by omega) h4] at h1
      rw [List.size_toArray, ← hl]
      exact Option.some.inj h1
    exact wpAny_getItem_list_neg pl.isList (by omega) (by rw [List.size_toArray] <;> omega) (by omega) (by rw [hj]; simpa using ew) fin
theorem get_dict (hu : X.A.units + 1 < cLine) : PGet X rIxD := by
  intro pn s sg H x y v u Q I rx ry ⟨a, w, ex, g, q⟩
  subst ex
  obtain rfl : v = Value.ref a := rx
  exact d_getItem hu I g ry fun w' s' I' r' => ⟨w, H, I', r', q⟩
theorem PGet.or {t t' : V → V → Hp → VK → Prop} (h : PGet X t) (h' : PGet X t') : PGet X fun x y H Q => t x y H Q ∨ t' x y H Q := fun pins s σ H o i ov iv Q I ro ri q => by
  rcases q with q | q
  · exact h pins s σ H o i ov iv Q I ro ri q
  · exact h' pins s σ H o i ov iv Q I ro ri q
def augOk : Bop → Bool
  | .add => true
  | .sub => true
  | _ => false
def augF : Bop → Int → Int → Int
  | .add => fun i j => i + j
  | _ => fun i j => i - j
theorem ip_aug {op : Bop} (h : augOk op = true) : PIp X (opOf op) (ipI (augF op)) := by
  cases op with
  | add => exact ip_add
  | sub => exact ip_sub
  | _ => cases h
theorem aug_binD {h : Hs} {op : Bop} (ho : augOk op = true) {i j : Int} : binD h op (.int i) (.int j) = some (.int (augF op i j)) := by
  cases op with
  | add => rfl
  | sub => rfl
  | _ => cases ho
theorem ix_of {O : Om} {h : Hs} {H : Hp} (S : SR X.K X.mg O h H) {d y z : D} {v u : V} (r1 : RepX X O d v) (r2 : RepX X O y u) (e : ixD h d y = some z) {n : Nat} (ed : d = .ptr n) {Q : VK} (q : ∀ w, RepX X O z w → Q w H) : rIxL X.K v u H Q ∨ rIxD v u H Q := by
  subst ed
  unfold ixD at e
  split at e
  · rename_i n' hd'
    cases hd'
    split at e
    · rename_i xs hn
      obtain ⟨p, vs, rfl, hq, rl, _⟩ := un_ok (l := true) (xs := xs) S r1 (by simp only [un, hn])
      cases y with
      | int j =>
        cases r2.int_inv
        obtain ⟨w', hw, rw'⟩ := atI_ok rl e
        exact .inl ⟨p, vs, j, w', rfl, rfl, hq, hw, q w' rw'⟩
      | _ => cases e
    · rename_i _ cell _ hn
      cases hg : dget cell y with
      | none => rw [hg] at e; cases e
      | some o =>
        rw [hg] at e
        obtain rfl : o = some z := e
        obtain ⟨o', g, r⟩ := dget_ok S hn r2 hg
        rcases r with ⟨e1, _⟩ | ⟨d, w', e1, e2, r⟩
        · cases e1
        · cases e1
          subst e2
          cases r1
          exact .inr ⟨_, w', rfl, g, q w' r⟩
    · cases e
  · rename_i hne
    cases hne
  · rename_i hne _
    exact absurd rfl (hne n)
/-- x op= e -/
theorem sS_aug {op : Bop} {j : Nat} {px : Pos} (hop : augOk op = true) (hN : X.N.Nodup) (hi : X.N[j]? = some x) (hx : Loc X.env.scope x) (hf : X.fn x = true ∨ X.env.scope.names.lookup x = some .local) (he : PE X e (tE X W fc)) :
    PS X (.AugAssign (.Name x px) (opOf op) e pos) (tS X W fun env h => match get env j with
      | some (.int x) => (fc env h).sbind env fun y h => match y with
        | .int z => match binD h op (.int x) (.int z) with
          | some z => .nx (env.set j (some z)) h
          | none => .no
        | _ => .no
      | _ => .no) :=
  PS.weak (ps_aug hN hi hx he (ip_aug hop) hf) fun Dn sg H ⟨O, env, h, eo, S, w⟩ => by
    have w : PostS X W Dn O H (match get env j with
      | some (.int x) => (fc env h).sbind env fun y h => match y with
        | .int z => match binD h op (.int x) (.int z) with
          | some z => .nx (env.set j (some z)) h
          | none => .no
        | _ => .no
      | _ => .no) := w
    split at w
    · rename_i a hg
      obtain ⟨v, hv, rv⟩ := get_ok eo hg
      obtain rfl := rv.int_inv
      refine ⟨.int a, hv, O, env, h, eo, S, PostS.bind w eo fun y h3 O3 yv H3 _ s3 S3 r3 p3 => ?_⟩
      split at p3
      · rename_i b _
        rw [aug_binD hop] at p3
        exact ⟨a, b, rfl, r3.int_inv, p3 O3 _ H3 (Stp.refl _ _) S3 ((eo.stp s3).set j (.int _))⟩
      · exact p3.elim
    · exact w.elim
/-- o[i] op= e -/
theorem sS_augix {op : Bop} {tpos : Pos} (c : XOk X W G k T) (hop : augOk op = true) (hi : sliceless i = true) (ho : PE X o (tE X W fa)) (hx : PE X i (tE X W fb)) (he : PE X e (tE X W fc)) :
    PS X (.AugAssign (.Subscript o i tpos) (opOf op) e pos) (tS X W fun env h => (fa env h).sbind env fun x h => (fb env h).sbind env fun k h => match x, ixD h x k with
      | .ptr p, some (.int a) => (fc env h).sbind env fun y h => match y with
        | .int b => match binD h op (.int a) (.int b) with
          | some z => match setIxD h (.ptr p) k z with
            | some h => .nx env h
            | none => .no
          | none => .no
        | _ => .no
      | _, _ => .no) :=
  PS.weak (ps_augS ho hx (PGet.or get_list (get_dict (by have := c.room.units; omega))) he (ip_aug hop) (PSet.or set_list (set_dict (by have := c.room.units; omega))) (aug_ok hi)) fun Dn sg H ⟨O, env, h, eo, S, w⟩ =>
    ⟨O, env, h, eo, S, PostS.bind w eo fun x h1 O1 xv H1 _ s1 S1 r1 p1 => ⟨O1, env, h1, eo.stp s1, S1, PostS.bind p1 (eo.stp s1) fun ky h2 O2 kv H2 _ s2 S2 r2 p2 => by
      have r1' := r1.stp s2
      have eo2 := (eo.stp s1).stp s2
      split at p2
      · rename_i n a _ ei
        refine ix_of S2 r1' r2 ei rfl fun ov ro => ⟨O2, env, h2, eo2, S2, PostS.bind p2 eo2 fun y h3 O3 yv H3 _ s3 S3 r3 p3 => ?_⟩
        split at p3
        · rename_i b _
          rw [aug_binD hop] at p3
          refine ⟨a, b, ro.int_inv, r3.int_inv, ?_⟩
          have p3 : PostS X W Dn O3 H3 (match setIxD h3 (.ptr n) ky (.int (augF op a b)) with
            | some h => .nx env h
            | none => .no) := p3
          cases es : setIxD h3 (.ptr n) ky (.int (augF op a b)) with
          | none => rw [es] at p3; exact p3.elim
          | some h' =>
            rw [es] at p3
            exact set_ok S3 (r1'.stp s3) (r2.stp s3) (.int _) es fun H' s4 S4 => p3 O3 sg H' s4 S4 ((eo2.stp s3).stp s4)
        · exact p3.elim
      · exact p2.elim⟩⟩
/-! ### o[a:b] = e -/
def gSl (to : TE) (ta tb : TO) : TG := fun v σ H Q => to σ H fun o H1 => ta σ H1 fun i H2 => tb σ H2 fun j H3 => ∃ (l t : Addr) (xs ys : List V) (a c : Int), o = .ref l ∧ v = .ref t ∧ i = some a ∧ j = some c ∧ H3 l = some (.lst xs) ∧ H3 t = some (.lst ys) ∧ l ≠ t ∧
  0 ≤ a ∧ a ≤ c ∧ c ≤ xs.length ∧ xs.length + ys.length ≤ sizeLine ∧ Q σ (upd H3 l (.lst (xs.take a.toNat ++ ys ++ xs.drop c.toNat)))
theorem pg_sl {lo hi : Expr} {to : TE} {ta tb : TO} {p2 : Pos} (ho : PE X o to) (hl : PO X (some lo) ta) (hu : PO X (some hi) tb) : PG X (.Subscript o (.Slice (some lo) (some hi) none p2) pos) (gSl to ta tb) := by
  refine ⟨fun pins s σ H v u Q I r h => ?_⟩
  have e : assign (.Subscript o (.Slice (some lo) (some hi) none p2) pos) X.env u = (do
    let ov ← holding [u] (eval o X.env)
    let iv ← holding [u, ov] (eval (.Slice (some lo) (some hi) none p2) X.env)
    standAt pos
    holding [u, ov, iv] (setItem ov iv u)
    release [iv, u, ov] []) := by rfl
  rw [e]
  refine wpAny_bind (wpAny_holding (thn (ho.run pins s σ H _ I h) fun ov s1 ⟨x, H1, I1, r1, q1⟩ => ?_))
  refine wpAny_bind (wpAny_holding (wpAny_Slice (thn (hl.run pins s1 σ H1 _ I1 q1) fun vl s2 ⟨i0, H2, I2, pl, q2⟩ => thn (hu.run pins s2 σ H2 _ I2 q2) fun vu s3 ⟨j0, H3, I3, pu, l, t, xs, ys, a, c, ex, ev, ei, ej, hl1, ht1, hne, c0, c1, c2, c3, q⟩ => ?_)))
  rw [evalPart_none]
  refine wpAny_pure ?_
  subst ex ev ei ej
  obtain rfl : ov = Value.ref l := r1
  obtain rfl : u = Value.ref t := r
  have ra : RelV (.int a) vl := by cases pl; exact ⟨_, rfl⟩
  have rc : RelV (.int c) vu := by cases pu; exact ⟨_, rfl⟩
  have I4 : Inv X pins σ H3 { s3 with heap := s3.heap.push { cls := .type "slice", data := .fields #[vl, vu, .none] } } := I3.kept (t' := s3.toks) fun b ob q => Heap.get?_push_of_some _ q
  refine wpAny_bind (wpAny_standAt (wpAny_bind (wpAny_holding (set_slice (sl := s3.heap.objs.size) I4 hl1 ht1 hne (Heap.IsSliceOf.new ..) ra rc c0 c1 c2 c3 fun s' I' => ?_))))
  exact wpAny_release ⟨σ, _, I', q⟩
theorem slSet_ok {O : Om} {h h' : Hs} {H : Hp} (S : SR X.K X.mg O h H) {o v : D} {ov u : V} {lo hi : Option Int} (ro : RepX X O o ov) (rv : RepX X O v u) (e : setSlD h o lo hi v = some h') {Q : Hp → Prop} (q : ∀ H', Stp O H O H' → SR X.K X.mg O h' H' → Q H') :
    ∃ (l t : Addr) (xs ys : List V) (a c : Int), ov = .ref l ∧ u = .ref t ∧ lo = some a ∧ hi = some c ∧ H l = some (.lst xs) ∧ H t = some (.lst ys) ∧ l ≠ t ∧ 0 ≤ a ∧ a ≤ c ∧ c ≤ xs.length ∧ xs.length + ys.length ≤ sizeLine ∧ Q (upd H l (.lst (xs.take a.toNat ++ ys ++ xs.drop c.toNat))) := by
  have LE := LINE_eq
  unfold setSlD at e
  split at e
  · rename_i n
    split at e
    · rename_i xs hn
      split at e
      · rename_i a b ys
        split at e
        · rename_i hb
          obtain ⟨b0, b1, b2, b3⟩ := hb
          cases e
          obtain ⟨hlt, vs, hv, z, rl⟩ := S.at hn
          cases ro
          cases rv with
          | @lst t _ us qt zt rt =>
            have l1 := rl.length
            have l2 := rt.length
            have nf := S.nof n _ hn (by simp)
            obtain ⟨s3, S3⟩ := S.put (o := .lst (vs.take a.toNat ++ us ++ vs.drop b.toNat)) hn (by simp) (c := .lst (xs.take a.toNat ++ ys ++ xs.drop b.toNat)) ⟨_, upd_same, by
              rw [List.length_append, List.length_append, List.length_take, List.length_drop]; omega, ((rl.take _).app rt).app (rl.drop _)⟩
            exact ⟨_, t, vs, us, a, b, rfl, rfl, rfl, rfl, hv, S.sub _ _ qt, fun z => (by rw [z, qt] at nf; cases nf), b0, b1, by omega, by omega, q _ s3 S3⟩
        · cases e
      · cases e
    · cases e
  · cases e
theorem sS_setsl {lo hi : Expr} {opos p2 : Pos} {fl fu : Nv → Hs → Res (Option Int)} (ho : PE X o (tE X W fa)) (hl : PO X (some lo) (tO X W fl)) (hu : PO X (some hi) (tO X W fu)) (he : PE X e (tE X W fc)) (hs : compless e = true) :
    PS X (.Assign [.Subscript o (.Slice (some lo) (some hi) none p2) opos] e pos) (tS X W fun env h => (fc env h).sbind env fun v h => (fa env h).sbind env fun x h => (fl env h).sbind env fun a h => (fu env h).sbind env fun b h => match setSlD h x a b v with
      | some h => .nx env h
      | none => .no) :=
  PS.weak (ps_asg he (pg_sl ho hl hu) (no_swapS hs _ _ _) (by cases e <;> rfl) (by rfl)) fun Dn sg H ⟨O, env, h, eo, S, w⟩ =>
    ⟨O, env, h, eo, S, PostS.bind w eo fun v h1 O1 vv H1 _ s1 S1 r1 p1 => ⟨O1, env, h1, eo.stp s1, S1, PostS.bind p1 (eo.stp s1) fun x h2 O2 xv H2 _ s2 S2 r2 p2 => ⟨O2, env, h2, (eo.stp s1).stp s2, S2, PostS.bind p2 ((eo.stp s1).stp s2) fun a h3 O3 a' H3 _ s3 S3 r3 p3 =>
      ⟨O3, env, h3, ((eo.stp s1).stp s2).stp s3, S3, PostS.bind p3 (((eo.stp s1).stp s2).stp s3) fun b h4 O4 b' H4 _ s4 S4 r4 p4 => by
      cases (show a = a' from r3)
      cases (show b = b' from r4)
      cases es : setSlD h4 x a b v with
      | none => rw [es] at p4; exact p4.elim
      | some h' =>
        rw [es] at p4
        exact slSet_ok S4 ((r2.stp s3).stp s4) (((r1.stp s2).stp s3).stp s4) es fun H' s5 S5 => p4 O4 sg H' s5 S5 (((((eo.stp s1).stp s2).stp s3).stp s4).stp s5)⟩⟩⟩⟩
/-! ### list(e), to be changed -/
theorem bi_listm {sg : L2.St} {O : Om} {H : Hp} {h : Hs} {d : D} {v : V} {Q : VK} (S : SR X.K X.mg O h H) (r : RepX X O d v) (w : Post X W sg O H (reL true (.of (biD .list h d) h)) (RepX X) Q) :
    ∃ p vs, v = .ref p ∧ (SqL X.K H p vs ∨ SqT X.K H p vs) ∧ ∀ t, H t = none → Q (.ref t) (upd H t (.lst vs)) := by
  cases e2 : biD .list h d with
  | none => rw [e2] at w; exact (show False from w).elim
  | some z =>
    rw [e2] at w
    have e2 : (match un h d with
      | some (_, xs) => some (D.lst xs)
      | _ => none) = some z := e2
    split at e2
    · rename_i l ys hu
      cases e2
      obtain ⟨p, vs, rfl, hq, rl, zl⟩ := un_ok S r hu
      refine ⟨p, vs, rfl, ?_, fun t ht => mk_ok (m := true) S rl zl w ht⟩
      cases l with
      | true => exact .inl hq
      | false => exact .inr hq
    · cases e2
theorem sE_lstm (hg : Gl X "list") (hm : X.mg "list" = none) (hs : starless e = true) (ha : PE X e (tE X W fa)) :
    PE X (.Call (.Name "list" p) [e] [] pos) (tE X W fun env h => reL true ((fa env h).bind fun d h => .of (biD .list h d) h)) := by
  have h1 := star_cons (env := X.env) hs []
  have cr : CallR X (.type "list") (fun vs H Q => ∃ (sg : L2.St) (O : Om) (h : Hs) (d : D) (v : V), vs = [v] ∧ SR X.K X.mg O h H ∧ RepX X O d v ∧ Post X W sg O H (reL true (.of (biD .list h d) h)) (RepX X) Q) :=
    CallR.weak call_list_of fun xs H Q ⟨sg, O, h, d, v, e, S, r, w⟩ => by
      obtain ⟨p, vs, rfl, hq, q⟩ := bi_listm S r w
      exact ⟨p, vs, e, hq, q⟩
  refine PE.weak (pe_callTy cr hg hm (by decide +kernel) (sA_one hs ha) (by decide) (by decide) h1 rfl) fun sg H Q ⟨O, env, h, eo, S, w⟩ => ⟨O, env, h, eo, S, ?_⟩
  have w : Post X W sg O H (reL true ((fa env h).bind fun d h => .of (biD .list h d) h)) (RepX X) Q := w
  show Post X W sg O H ((fa env h).bind fun d h => .ok [d] h) (RepLX X) _
  cases q : fa env h with
  | no => rw [q] at w; exact w
  | ex e' h' => rw [q] at w; exact w
  | ok d h1 =>
    rw [q] at w
    intro O1 vs H1 s1 S1 r1
    cases r1 with
    | cons r t => cases t; exact ⟨sg, O1, h1, d, _, rfl, S1, r, Post.weak w s1⟩
end
end SI
end
section
set_option Elab.async false
set_option linter.all false
set_option maxRecDepth 100000
set_option maxHeartbeats 4000000
/-! SIX6: a list's slice, a list out of an operator, to be changed. -/
namespace SI
open PySem PySem.Spec PyProof.Rows L2
theorem reL_bind {α : Type} {m : Bool} {r : Res α} {f : α → Hs → Res D} : reL m (r.bind f) = r.bind fun a h => reL m (f a h) := by
  cases m <;> cases r <;> rfl
section
variable {X : Cx} {W : WX} {pos : Pos} {a : Expr} {fa : Nv → Hs → Res D}
theorem sE_slm {lo hi : Option Expr} {fl fh : Nv → Hs → Res (Option Int)} {p2 : Pos} (ha : PE X a (tE X W fa)) (hl : PO X lo (tO X W fl)) (hh : PO X hi (tO X W fh)) :
    PE X (.Subscript a (.Slice lo hi none p2) pos) (tE X W fun env h => reL true ((fa env h).bind fun x h => (fl env h).bind fun l h => (fh env h).bind fun u h => .of (slD h x l u) h)) := by
  have e : (fun env h => reL true ((fa env h).bind fun x h => (fl env h).bind fun l h => (fh env h).bind fun u h => .of (slD h x l u) h)) =
      fun env h => (fa env h).bind fun x h => (fl env h).bind fun l h => (fh env h).bind fun u h => reL true (.of (slD h x l u) h) := by
    funext env h
    simp only [reL_bind]
  rw [e]
  exact PE.weak (pe_slice (sl_list.or sl_tupA) ha hl hh) fun sg H Q ⟨O, env, h, eo, S, w⟩ => ⟨O, env, h, eo, S, w.bind fun x h1 O1 v H1 _ s1 S1 r1 p1 => ⟨O1, env, h1, eo.stp s1, S1, p1.bind fun l h2 O2 l' H2 _ s2 S2 r2 p2 => ⟨O2, env, h2, (eo.stp s1).stp s2, S2, p2.bind fun u h3 O3 u' H3 _ s3 S3 r3 p3 => by
    cases (show l = l' from r2)
    cases (show u = u' from r3)
    have r1' := (r1.stp s2).stp s3
    have p3 : Post X W sg O3 H3 (reL true (Res.of (slD h3 x l u) h3)) (RepX X) Q := p3
    cases es : slD h3 x l u with
    | none => rw [es] at p3; exact (show False from p3).elim
    | some z =>
      rw [es] at p3
      unfold slD at es
      split at es
      · cases es; exact (show False from p3).elim
      · split at es
        · rename_i xs hu
          cases es
          obtain ⟨p, vs, rfl, hq, rl, zl⟩ := un_ok S3 r1' hu
          have zc : (cutV vs l u).length ≤ sizeLine := Nat.le_trans (cutV_length vs l u) zl
          exact .inl ⟨p, vs, rfl, hq, fun t ht => mk_ok (m := true) S3 (cut_ok rl l u) zc p3 ht⟩
        · cases es⟩⟩⟩
theorem binm_ok {sg : L2.St} {O : Om} {H : Hp} {h : Hs} {op : Bop} {x y : D} {v u : V} {Q : VK} (S : SR X.K X.mg O h H) (rx : RepX X O x v) (ry : RepX X O y u) (p : Post X W sg O H (reL true (binM h op x y)) (RepX X) Q) : opR X op v u H Q := by
  have LE := LINE_eq
  unfold binM at p
  split at p
  · exact (show False from p).elim
  · rename_i hk
    have hk1 : isKs x = false := by
      cases q : isKs x with
      | false => rfl
      | true => exact absurd (by rw [q]; rfl) hk
    have hk2 : isKs y = false := by
      cases q : isKs y with
      | false => rfl
      | true => exact absurd (by rw [q]; simp) hk
    split at p
    · rename_i zs hz
      unfold binL at hz
      split at hz
      · split at hz
        · rename_i xs hu
          split at hz
          · rename_i ys hu2
            split at hz
            · rename_i hb
              cases hz
              obtain ⟨pa, vs, rfl, ha, ra, za⟩ := un_lst S rx hk1 hu
              obtain ⟨pb, ws, rfl, hb2, rb, zb⟩ := un_lst S ry hk2 hu2
              have la := ra.length
              have lb := rb.length
              refine .inr (.inr (.inr ⟨pa, pb, vs, ws, rfl, rfl, ha, hb2, by omega, fun q hq => ?_⟩))
              exact mk_ok (m := true) S (ra.app rb) (by rw [List.length_append]; omega) p hq
            · cases hz
          · cases hz
        · cases hz
      · split at hz
        · rename_i xs hu
          split at hz
          · rename_i k
            split at hz
            · rename_i hb
              obtain ⟨h1, h3⟩ := hb
              cases hz
              obtain ⟨pa, vs, rfl, ha, ra, za⟩ := un_lst S rx hk1 hu
              rw [ry.int_inv]
              have la := ra.length
              refine .inr (.inr (.inr (.inl ⟨pa, k, vs, rfl, rfl, ha, by omega, by omega, by rw [← la, ← LE]; exact h3, fun q hq => ?_⟩)))
              refine mk_ok (m := true) S (ra.rep k.toNat) ?_ p hq
              rw [len_rep, Nat.mul_comm, ← la, ← LE]
              exact h3
            · cases hz
          · cases hz
        · cases hz
      · cases hz
    · exact (show False from p).elim
theorem sE_binm {b : Expr} {fb : Nv → Hs → Res D} {op : Bop} (ha : PE X a (tE X W fa)) (hb : PE X b (tE X W fb)) : PE X (.BinOp a (opOf op) b pos) (tE X W fun env h => reL true ((fa env h).bind fun x h => (fb env h).bind fun y h => binM h op x y)) := by
  have e : (fun env h => reL true ((fa env h).bind fun x h => (fb env h).bind fun y h => binM h op x y)) = fun env h => (fa env h).bind fun x h => (fb env h).bind fun y h => reL true (binM h op x y) := by
    funext env h
    simp only [reL_bind]
  rw [e]
  exact PE.weak (pe_op (op_all op) ha hb) fun sg H Q ⟨O, env, h, eo, S, p⟩ => ⟨O, env, h, eo, S, p.bind fun x h1 O1 v H1 _ s1 S1 r1 p1 => ⟨O1, env, h1, eo.stp s1, S1, p1.bind fun y h2 O2 u H2 _ s2 S2 r2 p2 => binm_ok S2 (r1.stp s2) r2 p2⟩⟩
end
end SI
end
section
set_option Elab.async false
set_option linter.all false
set_option maxRecDepth 100000
set_option maxHeartbeats 4000000
/-! SIX8: d.update(e), both with number or text keys. -/
namespace SI
open PySem PySem.Spec PyProof.Rows L2
section
variable {X : Cx} {W : WX} {o e : Expr} {pos apos : Pos} {fa fb : Nv → Hs → Res D}
def mergeV (kvs more : List (Key × V)) : List (Key × V) := more.foldl (fun m q => putK m q.1 q.2) kvs
theorem merge_kv : ∀ {more : List (Key × V)} {ms : List (Key × Value)} {kvs : List (Key × V)} {vs : List (Key × Value)}, KV kvs vs → KV more ms → KV (mergeV kvs more) (merged vs ms)
  | [], ms, kvs, vs, r, rm => by
    unfold KV at rm
    cases rm
    exact r
  | q :: more, ms, kvs, vs, r, rm => by
    unfold KV at rm
    cases rm with
    | cons h t =>
      rename_i b bs
      have z := merge_kv (kvs := putK kvs q.1 q.2) (vs := stored vs b.1 b.2) (by rw [h.1]; exact KV.put r b.1 h.2) (show KV more bs from t)
      exact z
def rUpd : V → List V → Hp → VK → Prop := fun x vs H Q => ∃ a b kvs more, x = .ref a ∧ vs = [.ref b] ∧ a ≠ b ∧ H a = some (.dK kvs) ∧ H b = some (.dK more) ∧ kvs.length + more.length ≤ sizeLine ∧ Q .non (upd H a (.dK (mergeV kvs more)))
theorem mt_update : MtM X "dict.update" rUpd := by
  intro pins s σ H x xs v us Q I rx rv h
  obtain ⟨a, b, kvs, more, rfl, rfl, ab, ha, hb, hz, q⟩ := h
  cases rx
  obtain ⟨u, rfl, ru⟩ := rv.one
  cases ru
  obtain ⟨z1, y1, vs1, r1, d1⟩ := dk_of I.hok ha
  obtain ⟨z2, y2, vs2, r2, d2⟩ := dk_of I.hok hb
  have ml : (mergeV kvs more).length ≤ sizeLine := by
    have e : KV (mergeV kvs more) (merged vs1 vs2) := merge_kv r1 r2
    have := merged_length_le vs1 vs2
    rw [e.length]
    rw [r1.length, r2.length] at hz
    omega
  refine call_meetsIn PySem.F.slot_dict_update d1.typeIs PySem.F.entry_dict_update (PySem.F.args_dict_update_2 _ _) (meets_dict_update (mixKind X.prog X.w) a b ab y2)
    ⟨vs1, vs2, d1, d2, by rw [← r1.length, ← r2.length]; exact hz, fun h' dd' dd2 hs => ⟨.non, _, ?_, rfl, q⟩⟩
  have he : ∃ q, h'.get? a = some q := let ⟨q, _, _, hq, _⟩ := dd'; ⟨q, hq⟩
  exact d_write I (by rw [ha]; exact True.intro) hs he (dk_new ml y1 (merge_kv r1 r2) dd')
theorem merge_rep {O : Om} {more : List (Key × D)} {ms : List (Key × V)} (rm : RepP X.K X.mg O more ms) : ∀ {kvs : List (Key × D)} {ws : List (Key × V)}, RepP X.K X.mg O kvs ws → RepP X.K X.mg O (mergeD kvs more) (mergeV ws ms) := by
  induction rm with
  | nil => exact fun r => r
  | cons q t ih => exact fun r => ih (putK_ok r _ q)
theorem repP_len {O : Om} {kvs : List (Key × D)} {ws : List (Key × V)} (r : RepP X.K X.mg O kvs ws) : kvs.length = ws.length := by
  induction r with
  | nil => rfl
  | cons _ _ ih => simp [ih]
def updL (h : Hs) (x : D) (ds : List D) : Res D := match ds with
  | [y] => match updD h x y with
    | some h => .ok .non h
    | none => .no
  | _ => .no
theorem sM_update (hb : superless o = true) (hp : (apos.endLine == pos.line) = true) (hs : starless e = true) (ho : PE X o (tE X W fa)) (he : PE X e (tE X W fb)) :
    PE X (.Call (.Attribute o "update" apos) [e] [] pos) (tE X W fun env h => (fa env h).bind fun x h => if isDp h x then (fb env h).bind fun y h => match updD h x y with
      | some h => .ok .non h
      | none => .no else .no) := by
  refine PE.weak (pe_bm PySem.F.plainAttrs_dict PySem.F.slot_dict_update (by rfl) mt_update ho (sA_one hs he) (base_plain hb _ X.env _) ?_ hp (star_cons hs _ _) (by rfl)) fun sg H Q ⟨O, env, h, eo, S, w⟩ => ⟨O, env, h, eo, S, w.bind fun d h1 O1 v H1 _ s1 S1 r1 p1 => ?_⟩
  · rw [star_cons hs]; rfl
  by_cases hk : isDp h1 d = true
  · rw [if_pos hk] at p1
    cases d with
    | ptr n =>
      have hk : (match h1[n]? with
        | some (.dK _) => true
        | _ => false) = true := hk
      split at hk
      · rename_i kvs0 hn
        obtain ⟨hlt, ws0, hv0, _⟩ := S1.at hn
        cases r1
        have p2 : Post X W sg O1 H1 (((fb env h1).bind fun y h => Res.ok [y] h).bind fun ds h => updL h (.ptr n) ds) (RepX X) Q := by
          rw [Res.bind_assoc]; exact p1
        refine ⟨.inr (.inr (.inl ⟨rfl, .inl ⟨ws0, hv0⟩⟩)), O1, env, h1, eo.stp s1, S1, p2.bind fun ds h2 O2 us H2 er s2 S2 r2 p3 => ?_⟩
        rw [← s2.φ n hlt]
        cases r2 with
        | nil => exact (show False from p3).elim
        | cons ry t =>
          rename_i y u ds' us'
          cases t with
          | cons _ _ => exact (show False from p3).elim
          | nil =>
            have p3 : Post X W sg O2 H2 (match updD h2 (.ptr n) y with
              | some h => .ok .non h
              | none => .no) (RepX X) Q := p3
            cases eu : updD h2 (.ptr n) y with
            | none => rw [eu] at p3; exact (show False from p3).elim
            | some h3 =>
              rw [eu] at p3
              cases y with
              | ptr m =>
                have eu : (if n = m then none else match h2[n]?, h2[m]? with
                  | some (.dK a), some (.dK b) => if a.length + b.length ≤ LINE then some (h2.set n (.dK (mergeD a b))) else none
                  | _, _ => none) = some h3 := eu
                split at eu
                · cases eu
                · rename_i nm
                  split at eu
                  · rename_i a b ea eb
                    split at eu
                    · rename_i hz
                      cases eu
                      cases ry
                      obtain ⟨ln, ws, hv, ra⟩ := S2.at ea
                      obtain ⟨lm, ms, hm, rb⟩ := S2.at eb
                      have LE := LINE_eq
                      obtain ⟨s4, S4⟩ := S2.put (o := .dK (mergeV ws ms)) ea (by simp) (c := .dK (mergeD a b)) ⟨_, upd_same, merge_rep rb ra⟩
                      exact ⟨_, _, ws, ms, rfl, rfl, fun z => nm (S2.inj n m ln lm z), hv, hm, by rw [← repP_len ra, ← repP_len rb, ← LE]; exact hz, p3 _ _ _ s4 S4 .non⟩
                    · cases eu
                  · cases eu
              | _ => cases eu
      · cases hk
    | _ => exact (show False from by cases hk).elim
  · rw [if_neg hk] at p1; exact (show False from p1).elim
end
end SI
end
section
set_option Elab.async false
set_option linter.all false
set_option maxRecDepth 100000
set_option maxHeartbeats 4000000
/-! SIX9: comprehensions over a list that changes (read place by place). -/
namespace SI
open PySem PySem.Spec PyProof.Rows L2
section
variable {X : Cx} {W : WX} {G : Wr} {k : Nat} {T : Tab} {a b e o i : Expr} {es : List Expr} {p pos apos : Pos} {fa : Nv → Hs → Res D} {fe : Nv → Hs → Res D} {ft : Nv → Hs → Res Bool} {x m : Str}
def LstOk (X : Cx) (O : Om) (n : Nat) (J : It) : Prop := n < O.n ∧ J = Itl X.K (O.φ n)
def tIP (X : Cx) (W : WX) (fa : Nv → Hs → Res D) : TI := fun sg H R => ∃ (O : Om) (env : Nv) (h : Hs), NvOk X.K X.mg O env sg ∧ SR X.K X.mg O h H ∧ Post X W sg O H ((fa env h).bind fun d h => Res.of (lstP h d) h) (LstOk X) R
theorem lstP_inv {h : Hs} {d : D} {n : Nat} (e : lstP h d = some n) : d = .ptr n ∧ ∃ xs, h[n]? = some (.lst xs) := by
  cases d with
  | ptr j =>
    have e : (match h[j]? with
      | some (.lst _) => some j
      | _ => none) = some n := e
    split at e
    · rename_i xs hx
      cases e
      exact ⟨rfl, xs, hx⟩
    · cases e
  | _ => cases e
theorem sI_ptr {tg : Expr} (he : PE X e (tE X W fa)) : PI X tg e (tIP X W fa) := ⟨fun pn s sg H R I ⟨O, env, h, eo, S, w⟩ => by
  refine thn (he.run pn s sg H (fun v H1 => ∃ O1 d h1, RepX X O1 d v ∧ SR X.K X.mg O1 h1 H1 ∧ Post X W sg O1 H1 (Res.of (lstP h1 d) h1) (LstOk X) R) I ⟨O, env, h, eo, S, w.bind fun d h1 O1 v H1 _ s1 S1 r1 p1 => ⟨O1, d, h1, r1, S1, p1⟩⟩) fun u s1 ⟨v, H1, I1, rx, O1, d, h1, r1, S1, p1⟩ => ?_
  obtain ⟨n, en, q⟩ := p1.of S1
  obtain ⟨rfl, xs, hx⟩ := lstP_inv en
  obtain ⟨hlt, vs, hv, _, _⟩ := S1.at hx
  cases r1
  obtain rfl : u = Value.ref (O1.φ n) := rx
  obtain ⟨its, _, pl, _⟩ := I1.list (SqL.of hv)
  refine wpAny_pyIter_list pl.isList ⟨_, [s1.heap.objs.size], _, _, H1, rfl, I1.kept (t' := s1.toks) fun _ _ z => Heap.get?_push_of_some _ z, turn_list (O1.φ n) s1.heap.objs.size, ⟨_, Heap.get?_push_size _ rfl, rfl, rfl⟩, fun c hc => ?_, q _ ⟨hlt, rfl⟩⟩
  rw [List.mem_singleton.mp hc]
  exact I1.fpOk (Nat.le_refl _) I1.fresh⟩
/-- the turns of a comprehension that runs through -/
theorem lc_coreP {tg : Tg} {vs : List Nat} {envw : Nv} {sg : L2.St} {O1 : Om} {h1 : Hs} {H1 : Hp} {yF : List D} {hF : Hs} {q : Addr} {n kk : Nat} {Fin : Hp → Prop} (S1 : SR X.K X.mg O1 h1 H1) (hn : n < O1.n) (eo : NvOk X.K X.mg O1 envw (wipe sg vs))
    (hz : kk ≤ LINE) (hq : H1 q = none) (hsub : ∀ j ∈ ids tg, j ∈ vs) (run : compLoopP (turnF tg ft fe envw) n kk 0 h1 = .ok yF hF)
    (fin : ∀ O' ws H', SR X.K X.mg O' hF H' → Apart O' H' q → H' q = some (.lst ws) → RepLX X O' yF ws → ws.length ≤ sizeLine → StpX q O1 H1 O' H' → Fin H') :
    ∃ Wk : Nat → Nat → Hp → Prop, (∃ m, Wk 0 m (upd H1 q (.lst []))) ∧ ∀ i m H, Wk i m H →
      ((Itl X.K (O1.φ n)).stop i H ∧ Fin H) ∨ ((Itl X.K (O1.φ n)).go i H ∧ ∃ Nx : Hp → Prop, (∀ H', Nx H' → ∃ m', m' < m ∧ Wk (i + 1) m' H') ∧ ∀ x H', (Itl X.K (O1.φ n)).yld i H x H' → gT X tg x (wipe sg vs) H' fun σ2 H2 => wipe σ2 vs = wipe sg vs ∧ tT X W0 ft σ2 H2 fun b H3 =>
        if b = true then tE X W0 fe σ2 H3 fun y H4 => ∃ acc, H4 q = some (.lst acc) ∧ acc.length < sizeLine ∧ Nx (upd H4 q (.lst (acc ++ [y]))) else Nx H3) := by
  have LE := LINE_eq
  refine ⟨fun i m H' => m + i = kk ∧ ∃ O' h' acc ws ys, SR X.K X.mg O' h' H' ∧ Apart O' H' q ∧ H' q = some (.lst ws) ∧ RepLX X O' acc ws ∧ ws.length ≤ i ∧ StpX q O1 H1 O' H' ∧
    compLoopP (turnF tg ft fe envw) n m i h' = .ok ys hF ∧ yF = acc ++ ys, ?_, ?_⟩
  · obtain ⟨A0, S0⟩ := Apart.new S1 hq (.lst [])
    exact ⟨kk, by omega, O1, h1, [], [], yF, S0, A0, upd_same, .nil, Nat.le_refl _, StpX.put q O1 H1 _, run, rfl⟩
  · rintro i m H' ⟨hm, O', h', acc, ws, ys, S', A', e', rl, lz, sx, c', ey⟩
    have eφ : O'.φ n = O1.φ n := sx.le.φ n hn
    have ends : ∀ zs, h'[n]? = some (.lst zs) → zs.length ≤ i → (Res.ok [] h' : Res (List D)) = .ok ys hF → (Itl X.K (O1.φ n)).stop i H' ∧ Fin H' := fun zs hx hl ec => by
      obtain ⟨_, vs2, hv, _, rv⟩ := S'.at hx
      rw [eφ] at hv
      cases ec
      rw [List.append_nil] at ey
      subst ey
      exact ⟨⟨vs2, SqL.of hv, by rw [← rv.length]; exact hl⟩, fin O' ws H' S' A' e' rl (by omega) sx⟩
    cases m with
    | zero =>
      have c' : (match h'[n]? with
        | some (.lst zs) => if zs.length ≤ i then (Res.ok [] h' : Res (List D)) else .no
        | _ => .no) = .ok ys hF := c'
      split at c'
      · rename_i zs hx
        split at c'
        · exact .inl (ends zs hx (by assumption) c')
        · cases c'
      · cases c'
    | succ m =>
      have c' : (match h'[n]? with
        | some (.lst zs) => match zs[i]? with
          | some d => (turnF tg ft fe envw d h').bind fun o h => (compLoopP (turnF tg ft fe envw) n m (i + 1) h).bind fun ys h => .ok (match o with
            | some y => y :: ys
            | none => ys) h
          | none => (Res.ok [] h' : Res (List D))
        | _ => .no) = .ok ys hF := c'
      split at c'
      · rename_i zs hx
        split at c'
        · rename_i d hd
          obtain ⟨_, vs2, hv, _, rv⟩ := S'.at hx
          rw [eφ] at hv
          obtain ⟨vd, hvd, rd⟩ := rv.get hd
          refine .inr ⟨⟨vs2, vd, SqL.of hv, hvd⟩, fun H2 => m + (i + 1) = kk ∧ ∃ O' h' acc ws ys, SR X.K X.mg O' h' H2 ∧ Apart O' H2 q ∧ H2 q = some (.lst ws) ∧ RepLX X O' acc ws ∧ ws.length ≤ i + 1 ∧ StpX q O1 H1 O' H2 ∧
            compLoopP (turnF tg ft fe envw) n m (i + 1) h' = .ok ys hF ∧ yF = acc ++ ys, fun H2 w => ⟨m, Nat.lt_succ_self m, w⟩, fun x H2 hy => ?_⟩
          obtain ⟨rfl, hy⟩ := hy
          have ex := hy vs2 (SqL.of hv)
          rw [hvd] at ex
          cases ex
          have le2 : O1.Le O' := sx.le
          have hm2 : m + (i + 1) = kk := by omega
          cases ea : asg tg d envw with
          | none => rw [show turnF tg ft fe envw d h' = .no by unfold turnF; rw [ea]; rfl] at c'; cases c'
          | some env2 =>
            have et : turnF tg ft fe envw d h' = ((ft env2 h').bind fun b h => if b then (fe env2 h).bind fun y h => .ok (some y) h else .ok none h).calm := by unfold turnF; rw [ea]; rfl
            rw [et] at c'
            refine ⟨O', h', d, _, env2, S', eo.le le2, rd, ea, fun σ2 nv2 only => ⟨?_, O', env2, h', nv2, S', ?_⟩⟩
            · have z := wipe_eq (σ := sg) (σ2 := σ2) (l := ids tg) (vs := vs) (by rw [← nv2.len, asg_length ea, eo.len, wipe_length]) only hsub
              exact z
            cases ef : ft env2 h' with
            | no => rw [ef] at c'; cases c'
            | ex e1 h1 => rw [ef] at c'; cases c'
            | ok b h3 =>
              rw [ef] at c'
              intro O3 b' H3 s3 S3 (rb : b = b')
              subst rb
              obtain ⟨A3, e3⟩ := A'.stp s3 e'
              cases b with
              | false =>
                rw [if_neg (by decide)]
                have c' : ((compLoopP (turnF tg ft fe envw) n m (i + 1) h3).bind fun ys h => .ok ys h) = .ok ys hF := c'
                cases eq : compLoopP (turnF tg ft fe envw) n m (i + 1) h3 with
                | ok zs hh => rw [eq] at c'; cases c'; exact ⟨hm2, O3, h3, acc, ws, ys, S3, A3, e3, rl.stp s3, by omega, sx.trans s3.x, eq, ey⟩
                | ex _ _ => rw [eq] at c'; cases c'
                | no => rw [eq] at c'; cases c'
              | true =>
                rw [if_pos rfl]
                refine ⟨O3, env2, h3, nv2.stp s3, S3, ?_⟩
                have c' : ((((fe env2 h3).bind fun y h => Res.ok (some y) h).calm).bind fun o h => (compLoopP (turnF tg ft fe envw) n m (i + 1) h).bind fun ys h => .ok (match o with
                  | some y => y :: ys
                  | none => ys) h) = .ok ys hF := c'
                cases eg : fe env2 h3 with
                | no => rw [eg] at c'; cases c'
                | ex e1 h1 => rw [eg] at c'; cases c'
                | ok y h4 =>
                  rw [eg] at c'
                  intro O4 vy H4 s4 S4 ry
                  obtain ⟨A4, e4⟩ := A3.stp s4 e3
                  have c' : ((compLoopP (turnF tg ft fe envw) n m (i + 1) h4).bind fun ys h => .ok (y :: ys) h) = .ok ys hF := c'
                  cases eq : compLoopP (turnF tg ft fe envw) n m (i + 1) h4 with
                  | ok zs hh =>
                    rw [eq] at c'; cases c'
                    exact ⟨ws, e4, by omega, hm2, O4, h4, acc ++ [y], ws ++ [vy], zs, A4.srU S4 _, A4.upd _, upd_same, ((rl.stp s3).stp s4).app (.cons ry .nil), by simp; omega, ((sx.trans s3.x).trans s4.x).trans (StpX.put q O4 H4 _), eq, by simp [ey]⟩
                  | ex _ _ => rw [eq] at c'; cases c'
                  | no => rw [eq] at c'; cases c'
        · rename_i hd
          exact .inl (ends zs hx (by rw [List.getElem?_eq_none_iff] at hd; exact hd) c')
      · cases c'
theorem loopP_calm {tg : Tg} {envw : Nv} {n : Nat} : ∀ {kk i : Nat} {h : Hs} {e1 : Exc} {h1 : Hs}, compLoopP (turnF tg ft fe envw) n kk i h = .ex e1 h1 → False
  | 0, i, h, e1, h1, z => by
    unfold compLoopP at z
    split at z
    · split at z <;> cases z
    · cases z
  | kk + 1, i, h, e1, h1, z => by
    unfold compLoopP at z
    split at z
    · split at z
      · rename_i d _
        cases q : turnF tg ft fe envw d h with
        | no => rw [q] at z; cases z
        | ex e2 h2 => exact turn_calm q
        | ok o h2 =>
          rw [q] at z
          have z : ((compLoopP (turnF tg ft fe envw) n kk (i + 1) h2).bind fun ys h => .ok (match o with
            | some y => y :: ys
            | none => ys) h) = .ex e1 h1 := z
          cases q2 : compLoopP (turnF tg ft fe envw) n kk (i + 1) h2 with
          | no => rw [q2] at z; cases z
          | ok ys h3 => rw [q2] at z; cases z
          | ex e2 h3 => exact loopP_calm q2
      · cases z
    · cases z
/-- a comprehension, whatever its list is -/
def compQF (tg : Tg) (ft : Nv → Hs → Res Bool) (fe fa : Nv → Hs → Res D) (own : List Nat) (mm : Bool) : Nv → Hs → Res D := fun env h => reL mm ((fa env h).bind fun d h => match lstP h d with
      | some p => (compLoopP (turnF tg ft fe (wipeE env own)) p (lenP h p) 0 h).bind fun ys h => .ok (.lst ys) h
      | none => (Res.of (srcD .seq [d]) h).bind fun xs h => if xs.length ≤ LINE then (compLoop (turnF tg ft fe (wipeE env own)) xs h).bind fun ys h => .ok (.lst ys) h else .no)
theorem compP_im {tg : Tg} {own : List Nat} {mm : Bool} {sg : L2.St} {O : Om} {H : Hp} {Q : VK} {env : Nv} {h h1 : Hs} {d : D} {n : Nat} (hsub : ∀ j ∈ ids tg, j ∈ own) (eo : NvOk X.K X.mg O env sg) (S : SR X.K X.mg O h H) (ea : fa env h = .ok d h1) (el : lstP h1 d = some n)
    (w : Post X W sg O H (reL mm ((compLoopP (turnF tg ft fe (wipeE env own)) n (lenP h1 n) 0 h1).bind fun ys h => .ok (.lst ys) h)) (RepX X) Q) :
    tLc (tIP X W fa) (gT X tg) (tT X W0 ft) (tE X W0 fe) own sg H Q := by
  refine ⟨O, env, h, eo, S, ?_⟩
  rw [ea]
  show Post X W sg O H (Res.of (lstP h1 d) h1) (LstOk X) _
  rw [el]
  intro O1 J H1 s1 S1 ⟨hn, eJ⟩ q hq
  subst eJ
  obtain ⟨_, xs, hx⟩ := lstP_inv el
  obtain ⟨_, vs, hv, zl, rl⟩ := S1.at hx
  have LE := LINE_eq
  have hk : lenP h1 n ≤ LINE := by
    unfold lenP
    simp only [hx]
    rw [rl.length, LE]; exact zl
  cases run : compLoopP (turnF tg ft fe (wipeE env own)) n (lenP h1 n) 0 h1 with
  | no => rw [run] at w; cases mm <;> exact (show False from w).elim
  | ex e1 h2 => exact (loopP_calm run).elim
  | ok yF hF =>
    rw [run] at w
    have w : Post X W sg O H (reL mm (.ok (.lst yF) hF)) (RepX X) Q := w
    refine lc_coreP S1 hn ((eo.stp s1).wipe _) hk hq hsub run fun O' ws H' S' A' e' rl' lz sx => ?_
    exact reL_end (sg := sg) (W := W) (mm := mm) S' A' e' rl' lz hq sx (Post.weak w s1)
theorem popl_inv {c : Cell} {ds : List D} {v : D} {c' : Cell} (e : poplC c ds = some (v, c')) : ∃ xs, c = .lst (v :: xs) ∧ ds = [.int 0] ∧ c' = .lst xs := by
  unfold poplC at e
  split at e
  · rename_i x xs i
    split at e
    · rename_i hi
      subst hi
      cases e
      exact ⟨_, rfl, rfl, rfl⟩
    · cases e
  · cases e
theorem sM_popl {fb : Nv → Hs → Res D} (hb : superless o = true) (hp : (apos.endLine == pos.line) = true) (hs : starless e = true) (ho : PE X o (tE X W fa)) (he : PE X e (tE X W fb)) :
    PE X (.Call (.Attribute o "pop" apos) [e] [] pos) (tE X W fun env h => (fa env h).bind fun d h => if meOk .popl h d then ((fb env h).bind fun y h => Res.ok [y] h).bind fun ds h => meD .popl h d ds else .no) := by
  refine sM_list (fun _ => rfl) PySem.F.slot_list_pop (by rfl) mt_popAt (fun sg O h H n xs ds us v c' Q S hn rl hm w => ?_) (fun c ds v c' hm => ?_) hb hp hs ho he
  · obtain ⟨xs', e1, rfl, rfl⟩ := popl_inv hm
    cases e1
    obtain ⟨hlt, vs, hv, z, rx⟩ := S.at hn
    cases rl with
    | @cons _ u _ _ ry t =>
      cases t
      cases rx with
      | @cons _ v' _ vs' rv rt =>
        obtain ⟨s3, S3⟩ := S.put (o := .lst vs') hn (by simp) (c := .lst xs') ⟨_, upd_same, by simp at z; omega, rt⟩
        exact ⟨_, v' :: vs', 0, 0, v', rfl, by rw [ry.int_inv], hv, by decide, by decide, by simp [seqIndex?], rfl, w _ _ _ s3 S3 (rv.stp s3)⟩
  · obtain ⟨_, rfl, _⟩ := popl_inv hm; rfl
/-- either kind of list -/
def wiQ (X : Cx) (W : WX) (fs : Nv → Hs → Res (List D)) (fa : Nv → Hs → Res D) : TI := fun sg H R => tI X W .seq fs sg H R ∨ tIP X W fa sg H R
theorem pi_Q {tg : Expr} {fs : Nv → Hs → Res (List D)} (a : PI X tg e (tI X W .seq fs)) (he : PE X e (tE X W fa)) : PI X tg e (wiQ X W fs fa) := ⟨fun pn s sg H R I hw => hw.elim (a.run pn s sg H R I) ((sI_ptr he).run pn s sg H R I)⟩
theorem compQ_im {tg : Tg} {own : List Nat} {mm : Bool} {fs : Nv → Hs → Res (List D)} (hsub : ∀ j ∈ ids tg, j ∈ own) (hf : ∀ env h, fs env h = (fa env h).bind fun d h => .ok [d] h)
    (im : ∀ sg H Q, tE X W (fun env h => reL mm ((fs env h).bind fun ds h => (Res.of (srcD .seq ds) h).bind fun xs h => if xs.length ≤ LINE then (compLoop (turnF tg ft fe (wipeE env own)) xs h).bind fun ys h => .ok (.lst ys) h else .no)) sg H Q → tLc (tI X W .seq fs) (gT X tg) (tT X W0 ft) (tE X W0 fe) own sg H Q) :
    ∀ sg H Q, tE X W (compQF tg ft fe fa own mm) sg H Q → tLc (wiQ X W fs fa) (gT X tg) (tT X W0 ft) (tE X W0 fe) own sg H Q := fun sg H Q ⟨O, env, h, eo, S, w⟩ => by
  have w : Post X W sg O H (reL mm ((fa env h).bind fun d h => match lstP h d with
      | some p => (compLoopP (turnF tg ft fe (wipeE env own)) p (lenP h p) 0 h).bind fun ys h => .ok (.lst ys) h
      | none => (Res.of (srcD .seq [d]) h).bind fun xs h => if xs.length ≤ LINE then (compLoop (turnF tg ft fe (wipeE env own)) xs h).bind fun ys h => .ok (.lst ys) h else .no)) (RepX X) Q := w
  have left : Post X W sg O H (reL mm ((fs env h).bind fun ds h => (Res.of (srcD .seq ds) h).bind fun xs h => if xs.length ≤ LINE then (compLoop (turnF tg ft fe (wipeE env own)) xs h).bind fun ys h => .ok (.lst ys) h else .no)) (RepX X) Q → tLc (wiQ X W fs fa) (gT X tg) (tT X W0 ft) (tE X W0 fe) own sg H Q :=
    fun w2 => Or.inl (im sg H Q ⟨O, env, h, eo, S, w2⟩)
  cases q : fa env h with
  | no => rw [q] at w; cases mm <;> exact (show False from w).elim
  | ex e1 h1 => rw [q] at w; exact left (by rw [hf, q]; exact w)
  | ok d h1 =>
    rw [q] at w
    have w : Post X W sg O H (reL mm (match lstP h1 d with
      | some p => (compLoopP (turnF tg ft fe (wipeE env own)) p (lenP h1 p) 0 h1).bind fun ys h => .ok (.lst ys) h
      | none => (Res.of (srcD .seq [d]) h1).bind fun xs h => if xs.length ≤ LINE then (compLoop (turnF tg ft fe (wipeE env own)) xs h).bind fun ys h => .ok (.lst ys) h else .no)) (RepX X) Q := w
    cases el : lstP h1 d with
    | none => rw [el] at w; exact left (by rw [hf, q]; exact w)
    | some n => rw [el] at w; exact Or.inr (compP_im hsub eo S q el w)
end
end SI
end
section
set_option Elab.async false
set_option linter.all false
set_option maxRecDepth 100000
set_option maxHeartbeats 4000000
/-! SIL0: a lambda is made, handed to a def, called there; try with several clauses, named or not. -/
namespace SI
open PySem PySem.Spec PyProof.Rows L2
section
variable {X : Cx} {pn : List (Addr × Obj)} {sg : L2.St} {H : Hp} {s : Shared}
/-- one pin more -/
theorem pin_add (I : Inv X pn sg H s) {f : Addr} {ob : Obj} (e : s.heap.get? f = some ob) (n : H f = none) (nl : f ≠ X.env.locals) (nf : f ∉ X.fs) (nc : ∀ v, ob.data ≠ .cell v) : Inv X ((f, ob) :: pn) sg H s :=
  ⟨I.ok, I.os, I.bare, I.base, I.loc, I.cell, I.free, I.freeC, fun q hq => by
    rcases List.mem_append.mp hq with hq | hq
    · exact I.pin q (List.mem_append_left _ hq)
    · rcases List.mem_cons.mp hq with hq | hq
      · rw [hq]; exact ⟨e, n, nl, nf, fun v z => absurd z (nc v)⟩
      · exact I.pin q (List.mem_append_right _ hq), I.hok, I.len⟩
theorem pin_drop {q0 : Addr × Obj} (I : Inv X (q0 :: pn) sg H s) : Inv X pn sg H s :=
  ⟨I.ok, I.os, I.bare, I.base, I.loc, I.cell, I.free, I.freeC, fun q hq => I.pin q (by
    rcases List.mem_append.mp hq with hq | hq
    · exact List.mem_append_left _ hq
    · exact List.mem_append_right _ (List.mem_cons_of_mem _ hq)), I.hok, I.len⟩
theorem pin_at {f : Addr} {ob : Obj} (I : Inv X ((f, ob) :: pn) sg H s) : s.heap.get? f = some ob ∧ H f = none ∧ f ≠ X.env.locals ∧ f ∉ X.fs :=
  let z := I.pin (f, ob) (List.mem_append_right _ List.mem_cons_self)
  ⟨z.1, z.2.1, z.2.2.1, z.2.2.2.1⟩
/-- how the tracked heap stands behind the making of a lambda whose code object is at d -/
inductive Grew (H : Hp) (P : Addr) (ps : Array Value) (q : Str) (d : Addr) : Hp → Prop
  | hit {p : Pos} (e : codeAmong p ps.toList = some (.ref d)) : Grew H P ps q d H
  | new {a b : Nat} (n : H d = none) : Grew H P ps q d (upd (upd H P (.tbl (ps ++ #[rawInt a, rawInt b, .ref d]))) d (LamX.CodeO d q))
theorem lamMake {c P : Addr} {ps : Array Value} {prm : Arguments} {bd : Expr} {sc : Scope} {pos : Pos} {Q E : Value → Shared → Prop} (I : Inv X pn sg H s) (tb : LamX.TabB X.base X.mg c P) (cd : X.env.code = .ref c) (hP : H P = some (.tbl ps)) (tr : TriplesOk ps.toList)
    (old : ∀ (p : Pos) (cv : Value), codeAmong p ps.toList = some cv → ∃ d, cv = .ref d ∧ H d = some (LamX.CodeO d (X.env.qual ++ "<lambda>"))) (df : defaultsOf prm X.env = ([], [])) (fr : ∀ y ∈ sc.names, y.2 = .free → ∃ c, X.env.cells.lookup y.1 = some c)
    (k : ∀ (f d : Addr) (pm ct : Value) (H1 : Hp) (s1 : Shared), Inv X pn sg H1 s1 → Grew H P ps (X.env.qual ++ "<lambda>") d H1 → s1.heap.get? f = some (PySem.W.kla_obj "<lambda>" (X.env.qual ++ "<lambda>") prm bd sc (cloFrom X.env.cells sc.names []) pm d ct) →
      H1 f = none → f ∉ frs X.stack → f ≠ X.env.locals → f ∉ X.fs → Q (.ref f) s1) : wpAny (model X.prog X.w) X.A (eval (.Lambda prm bd sc pos) X.env) Q E s := by
  have gP : s.heap.get? P = some { cls := .none, data := .fields ps } := I.hok P _ hP
  have far : ∀ f, s.heap.objs.size ≤ f → f ∉ frs X.stack ∧ f ≠ X.env.locals ∧ f ∉ X.fs := fun f hf => by
    have nl : f ≠ X.env.locals := fun z => Nat.lt_irrefl _ (Nat.lt_of_lt_of_le I.lt (by rw [z] at hf; exact hf))
    have nf : f ∉ X.fs := I.nofs hf
    exact ⟨fun z => (List.mem_cons.mp (I.stkSub _ z)).elim nl nf, nl, nf⟩
  refine PySem.W.kla_eval df ?_
  cases hit : codeAmong pos ps.toList with
  | some cv =>
    obtain ⟨d, ed, hd⟩ := old pos cv hit
    subst ed
    refine PySem.W.kla_makeFunctionHit (mg := X.mg) (c := c) (P := P) (ps := ps) (closure_ok fr) I.ok.glob (I.mod.glob.keeps I.bk) cd (tb.code.keeps I.bk) gP tr hit (tb.bm.keeps I.bk) fun ct h2 tk keep big => ?_
    have J : Inv X pn sg H { s with heap := h2.push (PySem.W.kla_obj "<lambda>" (X.env.qual ++ "<lambda>") prm bd sc (cloFrom X.env.cells sc.names []) ((X.mg "__name__").getD .none) d ct), toks := tk } := I.kept fun b o e => Heap.get?_push_of_some _ (keep b o e)
    obtain ⟨f1, f2, f3⟩ := far h2.objs.size big
    exact k h2.objs.size d _ ct H _ J (.hit hit) (Heap.get?_push_size _ rfl) (I.hok.fresh big) f1 f2 f3
  | none =>
    refine PySem.W.kla_makeFunction (mg := X.mg) (c := c) (P := P) (ps := ps) (closure_ok fr) I.ok.glob (I.mod.glob.keeps I.bk) cd (tb.code.keeps I.bk) gP tr hit tb.gP (tb.bm.keeps I.bk) fun d ct h2 tk keep big small rec tab => ?_
    obtain ⟨d2, oc, vs, t, e2, hoc, hdt, hv⟩ := rec
    cases e2
    have wide : s.heap.objs.size ≤ h2.objs.size := Nat.le_trans big (Nat.le_of_lt small)
    have J := LamX.inv_table (t' := tk) (q := X.env.qual ++ "<lambda>") (more := #[rawInt pos.line, rawInt pos.col, .ref d]) (h' := h2.push (PySem.W.kla_obj "<lambda>" (X.env.qual ++ "<lambda>") prm bd sc (cloFrom X.env.cells sc.names []) ((X.mg "__name__").getD .none) d ct)) I hP
      (fun b o nb e => Heap.get?_push_of_some _ (keep b o nb e)) (Heap.get?_push_of_some _ tab) big ⟨oc, vs, t, Heap.get?_push_of_some _ hoc, hdt, hv⟩
    obtain ⟨f1, f2, f3⟩ := far h2.objs.size wide
    refine k h2.objs.size d _ ct _ _ J (.new (I.hok.fresh big)) (Heap.get?_push_size _ rfl) ?_ f1 f2 f3
    rw [upd_ne (Nat.ne_of_gt small), upd_ne (Nat.ne_of_gt (Nat.lt_of_lt_of_le (Heap.lt_size gP) wide))]
    exact I.hok.fresh wide
/-- .. for the plain heap -/
theorem SR.grew {O : Om} {h : Hs} (S : SR X.K X.mg O h H) {ti : Nat} {x : Str} (e : h[ti]? = some (.tab x)) {P : Addr} {ps : Array Value} (eP : P = O.φ ti) (hP : H P = some (.tbl ps)) (tr : TriplesOk ps.toList)
    (old : ∀ (p : Pos) (cv : Value), codeAmong p ps.toList = some cv → ∃ d, cv = .ref d ∧ O.F d = some (LamX.CodeO d (lamQ x))) {d : Addr} {H1 : Hp} (g : Grew H P ps (lamQ x) d H1) :
    ∃ O1, Stp O H O1 H1 ∧ SR X.K X.mg O1 h H1 ∧ O1.F d = some (LamX.CodeO d (lamQ x)) := by
  cases g with
  | hit e2 =>
    obtain ⟨d', e3, e4⟩ := old _ _ e2
    cases e3
    exact ⟨O, Stp.refl _ _, S, e4⟩
  | @new a b n =>
    obtain ⟨s1, S1⟩ := S.newF n (LamX.CodeO d (lamQ x))
    have nPd : P ≠ d := ne_of_none hP n
    have cell := S1.cell ti _ e
    obtain ⟨⟨c, ta⟩, _⟩ := cell
    have hh : (O.frz d (LamX.CodeO d (lamQ x))).φ ti = P := eP.symm
    have Fd : (O.frz d (LamX.CodeO d (lamQ x))).F d = some (LamX.CodeO d (lamQ x)) := by
      show upd O.F d _ d = _
      rw [upd_same]
    have Fo : ∀ b o, O.F b = some o → (O.frz d (LamX.CodeO d (lamQ x))).F b = some o := s1.F
    have put := S1.put (c := .tab x) (o := .tbl (ps ++ #[rawInt a, rawInt b, .ref d])) e (by simp) ⟨⟨c, ta⟩, ps ++ #[rawInt a, rawInt b, .ref d], upd_same, by
      rw [show (ps ++ #[rawInt a, rawInt b, Value.ref d]).toList = ps.toList ++ [rawInt a, rawInt b, .ref d] by simp]
      exact PySem.TriplesOk_snoc _ _ _ _ tr, fun p cv hc => by
      rw [show (ps ++ #[rawInt a, rawInt b, Value.ref d]).toList = ps.toList ++ [rawInt a, rawInt b, .ref d] by simp] at hc
      rcases LamX.among_app (pos := ⟨a, b, 0, 0⟩) _ tr hc with z | z
      · obtain ⟨d2, e1, e2⟩ := old p cv z
        exact ⟨d2, e1, Fo _ _ e2⟩
      · exact ⟨d, z, Fd⟩⟩
    obtain ⟨s2, S2⟩ := put
    rw [hh] at s2 S2
    have es : h.set ti (.tab x) = h := by
      have hl := (List.getElem?_eq_some_iff.mp e).1
      have hv := (List.getElem?_eq_some_iff.mp e).2
      rw [← hv, List.set_getElem_self]
    rw [es] at S2
    have eH : upd (upd H P (.tbl (ps ++ #[rawInt a, rawInt b, .ref d]))) d (LamX.CodeO d (lamQ x)) = upd (upd H d (LamX.CodeO d (lamQ x))) P (.tbl (ps ++ #[rawInt a, rawInt b, .ref d])) := by
      funext z
      by_cases h1 : z = d
      · rw [h1, upd_same, upd_ne (Ne.symm nPd), upd_same]
      · rw [upd_ne h1]
        by_cases h2 : z = P
        · rw [h2, upd_same, upd_same]
        · rw [upd_ne h2, upd_ne h2, upd_ne h1]
    rw [eH]
    exact ⟨_, s1.trans s2, S2, Fd⟩
end
end SI
end
section
set_option Elab.async false
set_option linter.all false
set_option maxRecDepth 100000
set_option maxHeartbeats 4000000
/-! SIL1: what was given is called; try with several clauses, named or not. -/
namespace SI
open PySem PySem.Spec PyProof.Rows L2
section
variable {X : Cx} {pn : List (Addr × Obj)} {sg : L2.St} {H : Hp} {s : Shared}
/-- a(), in the def Z that got the lambda made in X -/
theorem lamAct {Eg : XK} {Ng : List Str} {qg a : Str} {sc' sc : Scope} {g f d : Addr} {cdg pm ct : Value} {prm : Arguments} {bd : Expr} {k i : Nat} {pz : List (Addr × Obj)} {xe : Value → Shared → Prop} {W : WX} {tb : XK → TE} {p1 p2 : Pos}
    (I : Inv X pn sg H s) (L : LamX.LamS X.env.scope sc) (of : s.heap.get? f = some (PySem.W.kla_obj "<lambda>" (X.env.qual ++ "<lambda>") prm bd sc (cloFrom X.env.cells sc.names []) pm d ct)) (nf : H f = none) (ns : f ∉ frs X.stack)
    (bi : bindArgs (PySem.W.kla_fn "<lambda>" (X.env.qual ++ "<lambda>") prm bd sc (cloFrom X.env.cells sc.names []) pm (.ref d) ct) ⟨[], []⟩ = pure [])
    (tk : Takes ((cxOf (L2.CX X.prog X.w) X.prog X.w X.K X.mg X.base Ng qg sc' g cdg X.A X.stack s H Eg).tr pz xe) W) (rm : Room (k + 1) (X.A.deeper (envOfC qg sc' s.heap.objs.size g cdg))) (gd : X.A.guards = some [])
    (hb : ∀ (A : Around) (outer : List PySem.Env) (s2 : Shared) (H2 : Hp) (E : XK), Room k (A.deeper (LamX.lamEnv X sc s2.heap.objs.size f d)) → A.guards = some [] → PE (LamX.lamCx X A outer s2 H2 E sc f d) bd (tb E))
    (hN : Ng[i]? = some a) (hv : Vis sc' a) (hd : (a == ("__debug__" : Str)) = false) (hcd : (a == ("__classdict__" : Str)) = false) :
    PE ((cxOf (L2.CX X.prog X.w) X.prog X.w X.K X.mg X.base Ng qg sc' g cdg X.A X.stack s H Eg).tr pz xe) (.Call (.Name a p1) [] [] p2)
      (fun sz HZ Q => sz[i]? = some (some (.ref f)) ∧ HZ d = some (LamX.CodeO d (X.env.qual ++ "<lambda>")) ∧ tb (fun c u H' => W c u sz H') sg HZ Q) := by
  refine ⟨fun pinz sz2 sz HZ Q IZ ⟨at0, atd, tt⟩ => ?_⟩
  refine wpAny_Call_Name_kw (thn ((pe_var (i := i) hN hv hd hcd).run pinz sz2 sz HZ (fun v H1 => v = .ref f ∧ H1 = HZ) IZ ⟨.ref f, at0, rfl, rfl⟩) fun u s1 ⟨v, H1, I1, rv, ev, eH⟩ => ?_)
  subst ev
  subst eH
  obtain rfl : u = Value.ref f := rv
  have un : Un (frs X.stack) [] H H1 s.heap s1.heap := I1.base
  have of1 := I1.base.keep f _ of nf ns (fun z => nomatch (show f ∈ ([] : List Addr) from z))
  refine PySem.W.callWith_F0 ⟨_, _, _, _, of1⟩ (wpAny_call ?_)
  obtain ⟨⟨oc, vs, t, hoc, hdc, hvc⟩, _, _⟩ := I1.hok d _ atd
  refine codeAny_mono (R := CR (L2.CX X.prog X.w) (envOfC qg sc' s.heap.objs.size g cdg :: X.stack) X.prog X.w H1 s1 Q fun c u H' => W c u sz H') (PySem.W.kla_callFunE rm.depth of1 rfl L.co L.gen rfl ⟨d, oc, vs, t, rfl, hoc, hdc, hvc⟩ ?_) fun r s2 hq => ?_
  · show wpAny _ _ (bindArgs _ ⟨[], []⟩) _ _ _
    rw [bi]
    refine wpAny_pure (wpAny_newFunctionEnv (fun y hy => (L.own y hy).2) (fun y hy => absurd hy (by simp)) (fun h1 hns hsb => ⟨I1.nolimit.fresh _ hsb, ?_⟩) L.kind)
    have kp : ∀ b o, s1.heap.get? b = some o → h1.get? b = some o := fun b o e => hsb.extBut b o (Nat.ne_of_lt (Heap.lt_size e)) (Heap.get?_push_of_some _ e)
    have J : Inv (LamX.lamCx X (X.A.deeper (envOfC qg sc' s.heap.objs.size g cdg)) (envOfC qg sc' s.heap.objs.size g cdg :: X.stack) s1 H1 (fun c u H' => W c u sz H') sc f d) [] sg H1 { s1 with heap := h1, toks := s1.toks + ([] : List (Str × Value)).length } :=
      LamX.lam_start2 I L I1.env0 rm.hd un hns kp
    refine PySem.W.kla_codeExpr (wpAny_mono ((hb _ _ s1 H1 _ (rm.deeper _) gd).run [] _ _ H1 Q J tt) (fun v s' ⟨w', H', J', rw', q⟩ => ?_) fun e s' z => z)
    exact ⟨w', H', J'.os, J'.bare, J'.base, J'.hok, rw', q⟩
  · cases r with
    | error e => exact passAt tk sz pinz H1 s1 e s2 I1 hq
    | ok fl =>
      cases fl with
      | ret u => exact I1.after hq
      | _ => exact False.elim hq
/-! ### several clauses -/
/-- behind a clause: its name goes -/
def outE (oi : Option Nat) (D : Ends) : Ends := match oi with
  | none => D
  | some i => { nx := fun a b => D.nx (a.set i none) b, rt := D.rt, bk := fun a b => D.bk (a.set i none) b, ct := fun a b => D.ct (a.set i none) b }
def inE (oi : Option Nat) (a : Addr) (sg : L2.St) : L2.St := match oi with
  | none => sg
  | some i => sg.set i (some (.ref a))
structure Cls where
  c : Value
  oi : Option Nat
  ts : Addr → Value → Option Addr → TS
def wMix (K : PySem.W.Frag) (Wo : WX) (D : Ends) : List Cls → WX
  | [] => Wo
  | q :: r => fun cls d sg H => ∃ b, PySem.W.exmOne K cls q.c = some b ∧ (b = true → ∀ a, H a = none → q.ts a cls d (outE q.oi D) (inE q.oi a sg) H) ∧ (b = false → wMix K Wo D r cls d sg H)
def NmOk (X : Cx) : Option Str → Option Nat → Prop
  | none, none => True
  | some n, some i => X.N[i]? = some n ∧ X.env.kindOf n = some .local
  | _, _ => False
inductive ClsOk (X : Cx) : List ExceptHandler → List Cls → Prop
  | nil : ClsOk X [] []
  | cons {x : Str} {on : Option Str} {q : Cls} {st : Stmt} {sts : List Stmt} {np pos' : Pos} {hs : List ExceptHandler} {l : List Cls} (hc : Names X x q.c) (hn : NmOk X on q.oi)
      (su : ∀ (a : Addr) (oe : Obj) (cls : Value) (d : Option Addr) (pz : List (Addr × Obj)), Zc cls d oe → (∃ vs, oe.data = .fields vs) → PSs (X.suite a ((a, oe) :: pz)) (st :: sts) (q.ts a cls d)) (r : ClsOk X hs l) :
      ClsOk X (.ExceptHandler (some (.Name x np)) on (st :: sts) pos' :: hs) (q :: l)
theorem ps_tryMix {body : List Stmt} {h0 : ExceptHandler} {hs : List ExceptHandler} {l : List Cls} {pos : Pos} {tb : WX → TS} {Wo : WX} (st : X.stack = X.env :: X.outer) (fr : X.env.frame = some X.env.locals) (nd : X.N.Nodup) (tk : Takes X Wo)
    (hb : ∀ (W : WX) (pz : List (Addr × Obj)) (xe : Value → Shared → Prop), Takes (X.tr pz xe) W → PassesOwn (model X.prog X.w) X.A X.env xe → PSs (X.tr pz xe) body (tb W))
    (hh : ClsOk X (h0 :: hs) l) : PS X (.Try body (h0 :: hs) [] [] pos) (fun D sg H => tb (wMix X.K Wo D l) D sg H) := by
  refine ⟨fun pins s σ H D I h => ?_⟩
  have ok := I.ok
  have afr : X.A.frames = some (X.env :: X.outer) := by rw [ok.frames, st]
  refine wpAny_Try_except ?_
  refine wpAny_mono ((hb (wMix X.K Wo D l) (X.pn ++ pins) (fun e t1 => wpAny (model X.prog X.w) X.A (noteFrame e X.env) (fun _ t2 => wpAny (model X.prog X.w) X.A (setFlight e none) (fun _ t3 =>
    wpAny (model X.prog X.w) X.A (handleBy e X.env (h0 :: hs)) (SP X pins D) X.xe t3) X.xe t2) X.xe t1) (fun u s' air => ?_) PassesOwn.looking).run [] s σ H D (I.toTry _) h) (fun f s1 hsp => ?_) (fun _ _ he => he)
  · obtain ⟨a, B, sI, pins', σ', H', cls, d, rfl, Jt, nb, up, sky, na, os, ag, w⟩ := air
    have J : Inv X pins σ' H' sI := Jt.ofTry ok
    rw [st] at sky
    show wpAny _ _ (noteFrame (.ref a) X.env) _ _ _
    refine Sky.land Zc.steady afr fr sky fun hA flA upA => ?_
    have JA : Inv X pins σ' H' { s' with heap := hA } := J.landed nb flA.1 (up.trans upA) os ag
    obtain ⟨oA, vA, gA, zA, dA⟩ := flA.there
    have offFr : a ∉ frs (X.env :: X.outer) := fun hm => by
      obtain ⟨_, o2, e2, no⟩ := flA.2.2.1.mem hm
      rw [gA] at e2
      cases e2
      exact no _ dA
    have nL : a ≠ X.env.locals := fun z => offFr (List.mem_filterMap.mpr ⟨X.env, List.mem_cons_self, by rw [fr, z]⟩)
    have nF : a ∉ X.fs := fun hm => by
      obtain ⟨e, he, q⟩ := List.mem_filterMap.mp hm
      exact offFr (List.mem_filterMap.mpr ⟨e, List.mem_cons_of_mem _ he, q⟩)
    have SA := JA.suite gA dA na nL nF
    have walk : ∀ {hs' : List ExceptHandler} {l' : List Cls}, ClsOk X hs' l' → wMix X.K Wo D l' cls d σ' H' → wpAny (model X.prog X.w) X.A (handleBy (.ref a) X.env hs') (SP X pins D) X.xe { s' with heap := hA } := by
      intro hs' l' hk
      induction hk with
      | nil =>
        intro w
        obtain ⟨_, _, _, oB, vB, T, oT, tsT, gB, zB, dB, v1, rB⟩ := id flA
        refine wpAny_handleBy_nil ?_
        unfold PySem.passOn
        refine wpAny_bind (wpAny_field gB dB v1 ?_)
        rw [if_neg (show ¬ ((Value.ref T == Value.none) = true) by simp)]
        have last : wpAny (model X.prog X.w) X.A (setFlight (.ref a) X.env.frame) (fun _ t4 => wpAny (model X.prog X.w) X.A (throw (.ref a) : Sem Flow) (SP X pins D) X.xe t4) X.xe { s' with heap := hA } := by
          rw [fr]
          refine HandSPX.setFlight_upZ flA fun hB hhB upB => wpAny_throw (tk _ _ ?_)
          exact ⟨a, B, sI, pins, σ', H', cls, d, rfl, J, nb, (up.trans upA).trans upB, .inr (.inr (by rw [st]; exact hhB)), na, os, ag, w⟩
        first
          | exact wpAny_bind (wpAny_pure (wpAny_bind last))
          | exact wpAny_bind last
      | @cons x on q st1 sts np pos' hs2 l2 hc hn su r ih =>
        intro w
        obtain ⟨b, e1, yes, no⟩ := w
        refine wpAny_handleBy_cons (codeAny_handlers_test ?_) (by intro q; cases q)
        have LK : PySem.W.Looks (model X.prog X.w) hA (typeOf (.ref a)) cls := fun A2 Q2 E2 s2 k2 q2 => wpAny_typeOf_ref (k2 _ _ gA) (by rw [zA.1]; exact q2)
        have asked : ∀ {Q E : Value → Shared → Prop}, Q q.c { s' with heap := hA } → wpAny (model X.prog X.w) (X.A.mark (some (.ref a))) (eval (.Name x np) X.env) Q E { s' with heap := hA } := fun {Q E} z => by
          obtain ⟨g1, g2, hm | ⟨hm, hv, hnn⟩⟩ := hc
          · exact ld_glob (X := X.suite a ((a, oA) :: (X.pn ++ pins))) SA g1 hm z g2
          · exact ld_blt (X := X.suite a ((a, oA) :: (X.pn ++ pins))) SA g1 hm hv z hnn g2
        refine asked ((PySem.W.exm_one (M := model X.prog X.w) JA.kIn LK e1).here ?_)
        cases b with
        | false =>
          show wpAny _ X.A (handleBy (.ref a) X.env hs2) _ _ _
          exact ih (no rfl)
        | true =>
          have goes := yes rfl a na
          cases on with
          | none =>
            have eo : q.oi = none := by
              cases h5 : q.oi with
              | none => rfl
              | some i => rw [h5] at hn; exact hn.elim
            rw [eo] at goes
            refine codeAny_handlers_suite (HandSPX.lands_againZ flA fun hC flC upC => ?_)
            have JC : Inv X pins σ' H' { s' with heap := hC } := J.landed nb flC.1 ((up.trans upA).trans upC) os ag
            obtain ⟨oC, vC, gC, zC, dC⟩ := flC.there
            refine wpAny_mono ((su a oC cls d (X.pn ++ pins) zC ⟨_, dC⟩).run [] _ _ H' _ (JC.suite gC dC na nL nF) goes) (fun f s6 hsp => ?_) (fun _ _ z => False.elim z)
            cases f with
            | ret u =>
              obtain ⟨v6, σ6, H6, S6, r6, q6⟩ := hsp
              exact ⟨_, _, _, S6.unsuite ok, r6, q6⟩
            | next => obtain ⟨σ6, H6, S6, q6⟩ := hsp; exact ⟨_, _, S6.unsuite ok, q6⟩
            | brk => obtain ⟨σ6, H6, S6, q6⟩ := hsp; exact ⟨_, _, S6.unsuite ok, q6⟩
            | cont => obtain ⟨σ6, H6, S6, q6⟩ := hsp; exact ⟨_, _, S6.unsuite ok, q6⟩
          | some n =>
            obtain ⟨i, eo, hi, hl⟩ : ∃ i, q.oi = some i ∧ X.N[i]? = some n ∧ X.env.kindOf n = some .local := by
              cases h5 : q.oi with
              | none => rw [h5] at hn; exact hn.elim
              | some i => rw [h5] at hn; exact ⟨i, rfl, hn⟩
            rw [eo] at goes
            refine codeAny_handlers_suite_as (HandSPX.lands_againZ flA fun hC flC upC => ?_)
            have JC : Inv X pins σ' H' { s' with heap := hC } := J.landed nb flC.1 ((up.trans upA).trans upC) os ag
            obtain ⟨oC, vC, gC, zC, dC⟩ := flC.there
            refine store_ok (X := X.suite a ((a, oC) :: (X.pn ++ pins))) (v := .ref a) (JC.suite gC dC na nL nF) nd hi (.inl hl) rfl (fun s5 S5 => ?_) (.inr hl)
            refine wpAny_mono ((su a oC cls d (X.pn ++ pins) zC ⟨_, dC⟩).run [] s5 _ H' _ S5 goes) (fun f s6 hsp => ?_) (fun _ _ z => False.elim z)
            have gone : ∀ {σ6 : L2.St} {H6 : Hp} {Q : Shared → Prop}, Inv (X.suite a ((a, oC) :: (X.pn ++ pins))) [] σ6 H6 s6 → (∀ s7, Inv X pins (σ6.set i none) H6 s7 → Q s7) →
                wpAny (model X.prog X.w) X.A (do bindName X.env n .none; unbindBehindTheSuite X.env n pos') (fun _ s7 => Q s7) X.xe s6 := fun {σ6 H6 Q} S6 hq => gone_ok (S6.unsuite ok) nd hi hl hq
            cases f with
            | ret u =>
              obtain ⟨v6, σ6, H6, S6, r6, q6⟩ := hsp
              exact gone S6 fun s7 J7 => ⟨_, _, _, J7, r6, q6⟩
            | next => obtain ⟨σ6, H6, S6, q6⟩ := hsp; exact gone S6 fun s7 J7 => ⟨_, _, J7, q6⟩
            | brk => obtain ⟨σ6, H6, S6, q6⟩ := hsp; exact gone S6 fun s7 J7 => ⟨_, _, J7, q6⟩
            | cont => obtain ⟨σ6, H6, S6, q6⟩ := hsp; exact gone S6 fun s7 J7 => ⟨_, _, J7, q6⟩
    exact walk hh w
  · cases f with
    | next =>
      obtain ⟨σ1, H1, J1, q⟩ := hsp
      exact wpAny_execs_nil ⟨σ1, H1, J1.ofTry ok, q⟩
    | ret u => obtain ⟨v, σ1, H1, J1, r, q⟩ := hsp; exact ⟨v, σ1, H1, J1.ofTry ok, r, q⟩
    | brk => obtain ⟨σ1, H1, J1, q⟩ := hsp; exact ⟨σ1, H1, J1.ofTry ok, q⟩
    | cont => obtain ⟨σ1, H1, J1, q⟩ := hsp; exact ⟨σ1, H1, J1.ofTry ok, q⟩
end
end SI
end
section
set_option Elab.async false
set_option linter.all false
set_option maxRecDepth 100000
set_option maxHeartbeats 4000000
/-! SIL2: x(lambda: e, ..); raise C(..). -/
namespace SI
open PySem PySem.Spec PyProof.Rows L2
def noArgs : Arguments := ⟨[], [], none, [], [], none, []⟩
theorem noArgs_df (env : PySem.Env) : defaultsOf noArgs env = ([], []) := rfl
theorem noArgs_bi {q : Str} {bd : Expr} {sc : Scope} {cl : List (Str × Addr)} {pm cv ct : Value} : bindArgs (PySem.W.kla_fn "<lambda>" q noArgs bd sc cl pm cv ct) ⟨[], []⟩ = pure [] := by rfl
section
variable {X : Cx} {W : WX} {G : Wr} {k : Nat} {T : Tab} {e : Expr} {es : List Expr} {x nm : Str} {p pos lpos : Pos} {fs : Nv → Hs → Res (List D)}
/-- what is known of the code of the def in which a lambda is made -/
structure LamC (X : Cx) (nm : Str) : Prop where
  q : X.env.qual ++ "<lambda>" = lamQ nm
  c : ∀ c p, TabAt X.K X.mg nm c p → X.env.code = .ref c ∧ LamX.TabB X.base X.mg c p
theorem sE_lam {bd : Expr} {sc : Scope} {ti : Nat} {fb : Wr → Nv → Hs → Res D} (c : XOk X W G k T) (lc : LamC X nm) (hx : x ∈ T.cats) (hg : Gl X x) (hdb : (x == ("__debug__" : Str)) = false) (hs : es.all starless = true) (ha : PA X es (tA X W fs)) (L : LamX.LamS X.env.scope sc)
    (hb : ∀ (lo : Low) (j : Nat) (A : Around) (outer : List PySem.Env) (s2 : Shared) (H2 : Hp) (E : XK) (f d : Addr), Wf0 X (G.at lo) j T → Room j (A.deeper (LamX.lamEnv X sc s2.heap.objs.size f d)) → A.guards = some [] →
      PE (LamX.lamCx X A outer s2 H2 E sc f d) bd (tE (LamX.lamCx X A outer s2 H2 E sc f d) (fun c u _ H => E c u H) (fb (G.at lo)))) :
    PE X (.Call (.Name x p) (.Lambda noArgs bd sc lpos :: es) [] pos) (tE X W fun env h => if tabD h ti nm then (fs env h).bind fun ds h => G.lam x (fun l h => fb (G.at l) env h) ds h else .no) := ⟨fun pn s sg H Q I ⟨O, env, h, eo, S, w⟩ => by
  replace w : Post X W sg O H (if tabD h ti nm then (fs env h).bind fun ds h => G.lam x (fun l h => fb (G.at l) env h) ds h else .no) (RepX X) Q := w
  cases ht : tabD h ti nm with
  | false => rw [ht] at w; exact (show False from w).elim
  | true =>
  rw [ht] at w
  replace w : Post X W sg O H ((fs env h).bind fun ds h => G.lam x (fun l h => fb (G.at l) env h) ds h) (RepX X) Q := w
  have hcell : h[ti]? = some (.tab nm) := by
    unfold tabD at ht
    split at ht
    · rename_i y hy
      rw [hy, beq_iff_eq.mp ht]
    · cases ht
  obtain ⟨⟨cc, ta⟩, ps, hP, tr, old⟩ := S.cell ti _ hcell
  obtain ⟨cd, tb⟩ := lc.c _ _ ta
  obtain ⟨g, hm, hk⟩ := c.wf.cats x hx
  refine wpAny_Call_Name_kw (ld_glob I hg hm ?_ hdb)
  refine PySem.W.callWith_K (h₀ := X.base) I.ok.mod.kin hk ?_ rfl (star_any hs)
  show wpAny _ _ (spliced ((false, eval (.Lambda noArgs bd sc lpos) X.env) :: backTo pos (starEach es X.env))) _ _ s
  refine Calls.spliced_cons (lamMake I tb cd hP tr (fun q cv hc => by
    obtain ⟨d, e1, e2⟩ := old q cv hc
    exact ⟨d, e1, by rw [lc.q]; exact S.sub _ _ e2⟩) (noArgs_df _) (L.has I.ok) fun f d pm ct H1 s1 I1 gr of nf ns nl nF => ?_)
  rw [lc.q] at gr
  obtain ⟨O1, st1, S1, Fd⟩ := S.grew hcell rfl hP tr old gr
  have I1p := pin_add I1 of nf nl nF (fun v z => by cases z)
  refine thn (ha.run pos _ s1 sg H1 (fun vs H2 => ∃ (O2 : Om) (ds : List D) (h2 : Hs), Stp O1 H1 O2 H2 ∧ SR X.K X.mg O2 h2 H2 ∧ RepLX X O2 ds vs ∧ Post X W sg O2 H2 (G.lam x (fun l h => fb (G.at l) env h) ds h2) (RepX X) Q) I1p
    ⟨O1, env, h, eo.stp st1, S1, Post.bind (Post.weak w st1) fun ds h2 O2 vs H2 _ s2 S2 r2 p2 => ⟨O2, ds, h2, s2, S2, r2, p2⟩⟩) fun us s2 ⟨vs, H2, I2, rv, O2, ds, h2, st2, S2, r2, p2⟩ => ?_
  refine ⟨I2.kIn, ?_⟩
  have ne : G.lam x (fun l h => fb (G.at l) env h) ds h2 ≠ .no := fun z => by rw [z] at p2; exact p2
  obtain ⟨g', j, lo, F, hm', ek, eF, CG, wl⟩ := c.wf.lam x _ ds h2 ne
  rw [hm] at hm'
  cases hm'
  subst ek
  obtain ⟨of2, nf2, _, _⟩ := pin_at I2
  have rm := c.room
  have act : ActOk X.prog X.w X.K X.mg X.base j X.A X.stack s2 H2 g f d (X.env.qual ++ "<lambda>") (fun h => fb (G.at lo) env h) O2 := fun Ng qg a sc' cdg pz xe Wz i p1 p2 hN hv hd hcd hr tk => by
    refine PE.weak (lamAct (tb := fun E => tE X (fun c u _ H => E c u H) (fb (G.at lo))) I2 L of2 nf2 ns noArgs_bi tk hr c.grd (fun A outer s3 H3 E hr2 hg2 => hb lo j A outer s3 H3 E f d wl hr2 hg2) hN hv hd hcd) fun sz HZ Qz ⟨z1, z2, O3, h3, ⟨l1, l2, l3⟩, S3, z⟩ => ⟨z1, z2, O3, env, h3, ?_, S3, ?_⟩
    · exact ⟨(eo.stp st1).len, fun i d q => by
        obtain ⟨v, a, b⟩ := ((eo.stp st1).stp st2).val i d q
        exact ⟨v, a, b.up l1 l2 l3⟩⟩
    · cases er : fb (G.at lo) env h3 with
      | ok r h4 => simp only [er] at z; exact z
      | ex e4 h4 => simp only [er] at z; exact fun O' c u H' s4 S4 x4 => z O' c u H' s4 S4 x4
      | no => simp only [er] at z
  have call := CG X.A X.stack s2 H2 f d (X.env.qual ++ "<lambda>") (fun h => fb (G.at lo) env h) us vs O2 ds h2 Q rm c.grd I2.env0 act rv r2 S2 (by rw [lc.q]; exact st2.F _ _ Fd) (by
    rw [eF] at p2
    cases er : F ((fun l h => fb (G.at l) env h) lo) ds h2 with
    | ok r h4 => rw [er] at p2; exact p2
    | ex e4 h4 => rw [er] at p2; exact (show False from p2)
    | no => rw [er] at p2; exact (show False from p2))
  refine wpAny_call (codeAny_mono call fun r s3 hq => ?_)
  cases r with
  | error e =>
    obtain ⟨_, _, _, _, _, _, _, _, _, _, _, _, z⟩ := hq
    exact z.elim
  | ok fl =>
    cases fl with
    | ret u =>
      obtain ⟨v, H3, I3, r3, q3⟩ := I2.after hq
      exact ⟨v, H3, pin_drop I3, r3, q3⟩
    | _ => exact False.elim hq⟩
theorem repP_zip {O : Om} : ∀ {ns : List Str} {ds : List D} {vs : List V}, RepL X.K X.mg O ds vs → RepP X.K X.mg O (ns.zip ds) (ns.zip vs)
  | [], _, _, _ => .nil
  | _ :: _, _, _, .nil => .nil
  | n :: ns, _, _, .cons r t => .cons r (repP_zip t)
/-- C(..), to be raised -/
theorem run_ex {pn : List (Addr × Obj)} {sg : L2.St} {H : Hp} {s : Shared} {C f : Addr} {fd : FuncData} {ps fl : List Str} {us : List Value} {vs : List V} {Q : XK} (oc : OexC X.K C) (iC : PySem.W.findIn X.K (.ref C) "__init__" = some (some (.ref f))) (tI : PySem.W.typeIn X.K (.ref f) = some (.type "function"))
    (no : ∀ f ∈ fl, PySem.W.findIn X.K (.ref C) f = some none) (F : FnG X.prog X.w X.K X.mg X.base k f fd ps (spE X.K fl)) (hr : Room (k + 1) X.A) (hg : X.A.guards = some []) (hb : Binds X.K fd ps []) (tk : Takes X W) (I : Inv X pn sg H s) (r : Vals vs us) (hz : vs.length ≤ 1000) (hl : vs.length = fl.length)
    (h : ∀ dx, H dx = none → Q (.ref C) (some dx) (upd H dx (.xd (fl.reverse.zip vs.reverse)))) : wpAny (model X.prog X.w) X.A (PySem.call (.ref C) us) (MkP X pn sg Q) X.xe s := by
  obtain ⟨nm, q, N, bs, bm, sn, sub, ab, col, dd, k0, k1, k2, k3, k5, hC, hbm⟩ := oc.cls
  obtain ⟨hp, g, dr, t', os⟩ := s
  have big : hp.objs.size ≤ hp.objs.size + 1 := Nat.le_succ _
  have hn : H (hp.objs.size + 1) = none := I.hok.fresh big
  have keep : ∀ b o, hp.get? b = some o → ((hp.push (PySem.W.kdv_tup us)).push (PySem.HandSPX.excO C hp.objs.size)).get? b = some o := fun b o e => Heap.get?_push_of_some _ (Heap.get?_push_of_some _ e)
  have there : ((hp.push (PySem.W.kdv_tup us)).push (PySem.HandSPX.excO C hp.objs.size)).get? (hp.objs.size + 1) = some (PySem.HandSPX.excO C hp.objs.size) := by heap_get
  have I2 : Inv X pn sg (upd H (hp.objs.size + 1) (exo (hp.objs.size + 1) C none)) ⟨(hp.push (PySem.W.kdv_tup us)).push (PySem.HandSPX.excO C hp.objs.size), g, dr, t', os⟩ := I.laid (t' := t') (o := exo (hp.objs.size + 1) C none) keep big (exo_ok there)
  have r2 : Vals (V.ref (hp.objs.size + 1) :: vs) (Value.ref (hp.objs.size + 1) :: us) := .cons rfl r
  have sp : spE X.K fl (.ref (hp.objs.size + 1) :: vs) (upd H (hp.objs.size + 1) (exo (hp.objs.size + 1) C none)) (fun v H2 => v = .non ∧ ∃ (d : Addr) (fv : List (Str × V)), H2 (hp.objs.size + 1) = some (exo (hp.objs.size + 1) C (some d)) ∧ H2 d = some (exd d fv) ∧ H d = none ∧ Q (.ref C) (some d) (upd (del H2 (hp.objs.size + 1)) d (.xd fv))) fun _ _ _ => False := by
    refine ⟨by simp [hl], _, C, vs, rfl, oc, no, upd_same, fun dx hdx ne => ⟨rfl, dx, _, upd_same, by rw [upd_ne ne, upd_same], by rw [upd_ne ne] at hdx; exact hdx, ?_⟩⟩
    rw [upd_ne ne] at hdx
    have eq : upd (del (upd (upd (upd H (hp.objs.size + 1) (exo (hp.objs.size + 1) C none)) dx (exd dx (fl.reverse.zip vs.reverse))) (hp.objs.size + 1) (exo (hp.objs.size + 1) C (some dx))) (hp.objs.size + 1)) dx (.xd (fl.reverse.zip vs.reverse)) = upd H dx (.xd (fl.reverse.zip vs.reverse)) := by
      funext b
      by_cases b1 : b = dx
      · rw [b1, upd_same, upd_same]
      · rw [upd_ne b1, upd_ne b1]
        by_cases b2 : b = hp.objs.size + 1
        · rw [b2, del_same, hn]
        · rw [del_ne b2, upd_ne b2, upd_ne b1, upd_ne b2]
    rw [eq]
    exact h dx hdx
  have ll : (Value.ref (hp.objs.size + 1) :: us).length = ps.length := by
    rw [← r2.length]
    exact F.len _ _ _ _ sp
  have lu : us.length ≤ sizeLine := by
    rw [← Paired.length r, sizeLine_eq]
    omega
  have b := hb _ (Value.ref (hp.objs.size + 1) :: us) I2.kIn (by rw [List.append_nil]; exact ll)
  rw [List.append_nil] at b
  refine wpAny_call (PySem.HandSPX.call_own PySem.F.excBase_ValueError (fun Y => PySem.HandSPX.refsVE_contains Y bm hbm) (I.kIn _ _ hC) (PySem.W.looks_findIn I.kIn iC) (fun self => PySem.W.bind_fn I.kIn self tI) lu
    (codeAny_mono (F.run _ X.stack _ _ ⟨Value.ref (hp.objs.size + 1) :: us, []⟩ _ _ _ _ (hr.make C us []) (guards_make hg C us []) (I2.env0.make C us []) b r2 sp) fun r' s' hq => ?_))
  cases r' with
  | error ex =>
    obtain ⟨_, _, _, _, _, _, _, _, _, _, _, _, z⟩ := hq
    exact z.elim
  | ok fl' =>
    cases fl' with
    | ret u =>
      obtain ⟨v, H2, os2, bare2, un2, hok2, rv, ev, d, fv, ea, ed, hd1, q2⟩ := hq
      subst ev
      obtain ⟨h2, g2, d2, t2, os'⟩ := s'
      exact ⟨rv, mk_end (raises_own oc.exC oc.tyC) I big keep un2 hok2 os2 bare2 ea ed hd1 q2⟩
    | _ => exact False.elim hq
theorem sS_raise (c : XOk X W G k T) (hx : x ∈ T.cls) (hg : Gl X x) (hdb : (x == ("__debug__" : Str)) = false) (hs : starless e = true ∧ es.all starless = true) (ha : PA X (e :: es) (tA X W fs)) :
    PS X (.Raise (some (.Call (.Name x p) (e :: es) [] lpos)) none pos) (tS X W fun env h => (fs env h).sbind env fun ds h => match G.make x ds h with
      | .ok (.exv C' ns ds') h => if ns.isEmpty then .no else .ex ⟨C', ns.zip ds'⟩ env h
      | _ => .no) := by
  obtain ⟨cl, hm, hk, _⟩ := c.wf.clg x hx
  refine ⟨fun pn s sg H Dn I ⟨O, env, h, eo, S, w⟩ => ?_⟩
  let t : L2.St → Hp → XK → Prop := fun sg H Q => tA X W fs sg H fun vs H1 => ∃ (ds : List D) (h1 : Hs) (O1 : Om) (fl : List Str), RepLX X O1 ds vs ∧ SR X.K X.mg O1 h1 H1 ∧ fl ≠ [] ∧ fl.length = ds.length ∧ ds.length ≤ 1000 ∧
    (∃ f fd ps, OexC X.K cl ∧ (∀ f ∈ fl, PySem.W.findIn X.K (.ref cl) f = some none) ∧ PySem.W.findIn X.K (.ref cl) "__init__" = some (some (.ref f)) ∧ PySem.W.typeIn X.K (.ref f) = some (.type "function") ∧ Binds X.K fd ps [] ∧ 2 ≤ k ∧ FnG X.prog X.w X.K X.mg X.base 1 f fd ps (spE X.K fl)) ∧
    ∀ dx, H1 dx = none → Q (.ref cl) (some dx) (upd H1 dx (.xd (fl.reverse.zip vs.reverse)))
  have mk : PMk X (.Call (.Name x p) (e :: es) [] lpos) t := by
    intro pins s σ H Q I z
    refine wpAny_Call_Name_kw (ld_glob I hg hm ?_ hdb)
    refine PySem.W.callWith_K (h₀ := X.base) I.ok.mod.kin hk (thn (ha.run lpos pins s σ H _ I z) fun us s1 hh => ?_) (star_cons hs.1 es X.env) (star_any hs.2)
    obtain ⟨vs, H1, I1, r1, ds, h1, O1, fl, rl, S1, hne, hl, hz, ⟨f, fd, ps, o1, o2, o3, o4, o5, o6, o7⟩, q⟩ := hh
    exact ⟨I1.kIn, run_ex o1 o3 o4 o2 o7 (c.room.mono o6) c.grd o5 c.tk I1 r1 (by rw [← rl.length]; exact hz) (by rw [← rl.length, hl]) q⟩
  refine (ps_raise c.calm c.tk mk).run pn s sg H Dn I ⟨O, env, h, eo, S, PostS.bind w eo fun ds h1 O1 vs H1 _ s1 S1 r1 p1 => ?_⟩
  have ne : G.make x ds h1 ≠ .no := fun z => by rw [z] at p1; exact p1
  rcases c.wf.make x ds h1 ne with ⟨c', f, fd, ps, j, g, hm', M, hb, hl, hj, F, eg⟩ | ⟨c', fl, hm', hl, hz, eg, alt⟩
  · exfalso
    rw [eg] at p1
    cases er : g (.ptr h1.length :: ds) (h1 ++ [.ins x []]) with
    | ok d h2 => rw [er] at p1; cases d <;> exact p1
    | ex e2 h2 => rw [er] at p1; exact p1
    | no => rw [er] at p1; exact p1
  · rw [hm] at hm'
    cases hm'
    rw [eg] at p1
    have p1 : PostS X W Dn O1 H1 (if fl.reverse.isEmpty then .no else .ex ⟨x, fl.reverse.zip ds.reverse⟩ env h1) := p1
    rcases alt with ⟨rfl, _⟩ | ⟨hne, alt⟩
    · exact (show False from p1).elim
    · have hi : fl.reverse.isEmpty = false := by
        cases fl with
        | nil => exact absurd rfl hne
        | cons a b => simp
      rw [hi] at p1
      refine ⟨ds, h1, O1, fl, r1, S1, hne, hl, hz, alt, fun dx hdx => ?_⟩
      obtain ⟨s2, S2⟩ := S1.newF hdx (.xd (fl.reverse.zip vs.reverse))
      exact p1 _ _ _ _ _ s2 S2 ((eo.stp s1).stp s2) ⟨cl, dx, _, hm, rfl, rfl, by show upd O1.F dx _ dx = _; rw [upd_same], repP_zip ((RepL.rev r1).stp s2)⟩
end
end SI
end
section
set_option Elab.async false
set_option linter.all false
set_option maxRecDepth 100000
set_option maxHeartbeats 4000000
/-! SIL3: a call through a name that holds a def; s.split(sep); the tiny language of an except clause. -/
namespace SI
open PySem PySem.Spec PyProof.Rows L2
section
variable {X : Cx} {W : WX} {G : Wr} {k : Nat} {T : Tab} {e o : Expr} {es : List Expr} {x : Str} {p pos apos : Pos} {fs : Nv → Hs → Res (List D)} {fa fb : Nv → Hs → Res D}
theorem sE_callv {i : Nat} (c : XOk X W G k T) (hN : X.N[i]? = some x) (hv : Vis X.env.scope x) (hd : (x == ("__debug__" : Str)) = false) (hcd : (x == ("__classdict__" : Str)) = false) (hs : es.all starless = true) (ha : PA X es (tA X W fs)) (h0 : es = [] → fs = fun _ h => .ok [] h) :
    PE X (.Call (.Name x p) es [] pos) (tE X W fun env h => match get env i with
      | some (.glo y) => if G.fnk y then (fs env h).bind fun ds h => G.call y ds h else .no
      | _ => .no) := ⟨fun pn s sg H Q I ⟨O, env, h, eo, S, w⟩ => by
  replace w : Post X W sg O H (match get env i with
      | some (.glo y) => if G.fnk y then (fs env h).bind fun ds h => G.call y ds h else .no
      | _ => .no) (RepX X) Q := w
  split at w
  · rename_i y hy
    cases hf : G.fnk y with
    | false => rw [hf] at w; exact (show False from w).elim
    | true =>
    rw [hf] at w
    replace w : Post X W sg O H ((fs env h).bind fun ds h => G.call y ds h) (RepX X) Q := w
    obtain ⟨f, hm, hk⟩ := c.wf.fnk y hf
    obtain ⟨v, hv1, r⟩ := get_ok eo hy
    have ev : v = .ref f := by
      cases r with
      | glo hm2 rv =>
        rw [hm] at hm2
        cases hm2
        cases v <;> first | (cases rv; done) | (obtain ⟨_, z⟩ := rv; cases z) | (cases rv; rfl)
    subst ev
    refine wpAny_Call_Name_kw (thn ((pe_var hN hv hd hcd).run pn s sg H (fun v H1 => v = .ref f ∧ H1 = H) I ⟨.ref f, hv1, rfl, rfl⟩) fun u s0 ⟨v, H0, I0, rv, ev, eH⟩ => ?_)
    subst ev
    subst eH
    obtain rfl : u = Value.ref f := rv
    refine with_args (first := []) (R := fun vs H1 => ∃ O1 ds h1, RepLX X O1 ds vs ∧ SR X.K X.mg O1 h1 H1 ∧ Post X W sg O1 H1 (G.call y ds h1) (RepX X) Q) hk ha hs I0
      ⟨O, env, h, eo, S, w.bind fun ds h1 O1 vs H1 _ s1 S1 r1 p1 => ⟨O1, ds, h1, r1, S1, p1⟩⟩ (fun e0 => ?_) fun us vs H1 s1 I1 r1 ⟨O1, ds, h1, rl, S1, p1⟩ => ?_
    · rw [h0 e0] at w
      exact ⟨O, [], h, .nil, S, w⟩
    · obtain ⟨f', fd, ps, hm', hb, hl, F⟩ := c.wf.call y ds h1 p1.ne
      rw [hm] at hm'
      cases hm'
      exact run_g F c.room c.grd hb c.tk I1 r1 (p1.sp (by rw [hl]; exact rl.length.symm) rl S1)
  · exact w.elim⟩
theorem strs_ok (O : Om) : ∀ l : List Str, RepLX X O (l.map D.str) (l.map V.str)
  | [] => .nil
  | a :: l => .cons (.str a) (strs_ok O l)
/-- s.split(sep) -/
theorem sE_spl (hb : superless o = true) (hp : (apos.endLine == pos.line) = true) (hs : starless e = true) (ho : PE X o (tE X W fa)) (he : PE X e (tE X W fb)) :
    PE X (.Call (.Attribute o "split" apos) [e] [] pos) (tE X W fun env h => (fa env h).bind fun x h => if isStrD x then (fb env h).bind fun y h => .of (splD x y) h else .no) :=
  PE.weak (pe_split ho he (star_cons hs [] X.env) (base_plain hb _ _ _) hp) fun sg H Q ⟨O, env, h, eo, S, w⟩ => ⟨O, env, h, eo, S, w.bind fun x h1 O1 v H1 _ s1 S1 r1 p1 => by
    cases x with
    | str a =>
      replace p1 : Post X W sg O1 H1 ((fb env h1).bind fun y h => .of (splD (.str a) y) h) (RepX X) Q := p1
      refine ⟨⟨a, r1.str_inv⟩, O1, env, h1, eo.stp s1, S1, p1.bind fun y h2 O2 u H2 _ s2 S2 r2 p2 => ?_⟩
      cases y with
      | str b =>
        replace p2 : Post X W sg O2 H2 (Res.of (if (b.length == 0) = false ∧ a.length + 2 ≤ LINE then some (D.lst ((Txt.split a b).map .str)) else none) h2) (RepX X) Q := p2
        split at p2
        · rename_i hc
          have LE := LINE_eq
          have hl : (Txt.split a b).length ≤ sizeLine := Nat.le_trans (PyProof.Rows.split_le a b) (by omega)
          refine ⟨a, b, r1.str_inv, by rw [r2.str_inv], hc.1, by omega, fun t ht => ?_⟩
          exact Post.new (show Post X W sg O2 H2 (.ok (D.lst ((Txt.split a b).map .str)) h2) (RepX X) Q from p2) S2 ht _ (frz_lst S2 ht (by rw [List.length_map]; exact hl) (strs_ok _ _))
        · exact (show False from p2).elim
      | _ => exact (show False from p2).elim
    | _ => exact (show False from p1).elim⟩
/-! ### the tiny language of an except clause -/
inductive ME
  | c (d : D) | v (j : Nat) | f (n : Str) | rp (e : ME) | tup (es : List ME) | lst (es : List ME) | eq (a b : ME)
  deriving Inhabited
mutual
def mev (fs : List (Str × D)) (env : Nv) (h : Hs) : ME → Option D
  | .c d => some d
  | .v j => get env j
  | .f n => fs.lookup n
  | .rp e => match mev fs env h e with
    | some d => reprD h d
    | none => none
  | .tup es => (mevs fs env h es).map .tup
  | .lst es => (mevs fs env h es).map .lst
  | .eq a b => match mev fs env h a with
    | some x => match mev fs env h b with
      | some y => (cmpD h .eq x y).map .bl
      | none => none
    | none => none
def mevs (fs : List (Str × D)) (env : Nv) (h : Hs) : List ME → Option (List D)
  | [] => some []
  | e :: es => match mev fs env h e with
    | some d => match mevs fs env h es with
      | some ds => some (d :: ds)
      | none => none
    | none => none
end
/-- a clause: what it catches, its name's place, the place that it stores at (none: it returns), the expression -/
structure Hd where
  cls : Str
  oi : Option Nat
  set : Option Nat
  e : ME
structure CatB where
  pre : List (Nat × D)
  rc : Bool
  hds : List Hd
  rest : List IS
structure CatE where
  ps : List Str
  N : List Str
  fuel : Nat
  b : CatB
  tab : List ((Str × Str) × Bool)
def preE : List (Nat × D) → Nv → Nv
  | [], env => env
  | q :: r, env => preE r (env.set q.1 (some q.2))
def unE (oi : Option Nat) (env : Nv) : Nv := match oi with
  | none => env
  | some i => env.set i none
/-- what the clauses do with an exception -/
def hdsF (tab : List ((Str × Str) × Bool)) (x : Exc) (env : Nv) (h : Hs) : List Hd → Option (Sum D Nv)
  | [] => none
  | q :: r => match tab.lookup (x.cls, q.cls) with
    | some true => match mev x.fs (unE q.oi env) h q.e with
      | some d => match q.set with
        | none => some (.inl d)
        | some j => some (.inr (unE q.oi ((unE q.oi env).set j (some d))))
      | none => none
    | some false => hdsF tab x env h r
    | none => none
def catS (G : Wr) (n : Nat) (tab : List ((Str × Str) × Bool)) (b : CatB) (T : Hs → Res D) (env : Nv) (h : Hs) : SRes := match T h with
  | .ok d h => if b.rc then .rt d h else exs (ex G n) b.rest (preE b.pre env) h
  | .ex x h => if G.exc x.cls then (match hdsF tab x (preE b.pre env) h b.hds with
    | some (.inl d) => .rt d h
    | some (.inr env) => exs (ex G n) b.rest env h
    | none => .no) else .no
  | .no => .no
def finR : SRes → Res D
  | .nx _ h => .ok .non h
  | .rt d h => .ok d h
  | _ => .no
def catF (G : Wr) (c : CatE) (T : Hs → Res D) (ds : List D) (h : Hs) : Res D := if ds.length + 1 = c.ps.length then
    finR (catS G c.fuel c.tab c.b T (none :: (ds.map some ++ List.replicate (c.N.length - (ds.length + 1)) none)) h) else .no
end
end SI
end
section
set_option Elab.async false
set_option linter.all false
set_option maxRecDepth 100000
set_option maxHeartbeats 4000000
/-! SI16: from the text to the small language. -/
namespace SI
open PySem PySem.Spec PyProof.Rows L2

/-- what is known where a text stands -/
structure Ctx where
  N : List Str
  raw : Scope
  sc : Scope
  all : Bool
  T : Tab
  mu : List Str
  frz : List Str
  dT : List Str
  tk : List Str
  wk : List Str
  tn : Nat
  px : List Str
  nm : Str
def ixOf (N : List Str) (x : Str) : Option Nat := if N[N.idxOf x]? = some x then some (N.idxOf x) else none
theorem ixOf_ok {N : List Str} {x : Str} {i : Nat} (h : ixOf N x = some i) : N[i]? = some x := by
  unfold ixOf at h
  split at h
  · cases h; assumption
  · cases h
def Ctx.gl (C : Ctx) (x : Str) : Bool := decide (C.sc.names.lookup x = some .globalImplicit)
def Ctx.vis (C : Ctx) (x : Str) : Bool := decide (C.sc.names.lookup x = some .local ∨ C.sc.names.lookup x = some .cell ∨ C.sc.names.lookup x = some .free)
def Ctx.asn (C : Ctx) (x : Str) : Bool := decide (C.sc.names.lookup x = some .local) || (decide (C.sc.names.lookup x = some .cell) && (C.all || (C.raw.names.lookup x == some .cell)))
def Ctx.free (C : Ctx) (x : Str) : Bool := C.gl x && decide (x ∈ C.T.free)
/-- told in the config -/
def Ctx.opt (C : Ctx) (p x : Str) : Bool := decide ((p ++ x) ∈ C.px)
/-- what the things of a list are -/
def sub1 (m : Nat) : Nat := if m = 3 ∨ m = 4 then 1 else 0
def isM (m : Nat) : Bool := m == 1 || m == 4
def noDbg (x : Str) : Bool := !(x == ("__debug__" : Str)) && !(x == ("__classdict__" : Str))
def mapO {α β : Type} (g : α → Option β) : List α → Option (List β)
  | [] => some []
  | a :: as => match g a with
    | some b => match mapO g as with
      | some bs => some (b :: bs)
      | none => none
    | none => none
/-- the first one otherwise -/
def consO {α β : Type} (g1 g : α → Option β) : List α → Option (List β)
  | [] => some []
  | a :: as => match g1 a with
    | some b => match mapO g as with
      | some bs => some (b :: bs)
      | none => none
    | none => none
def bopOf : Operator → Option Bop
  | .Add => some .add
  | .Sub => some .sub
  | .Mult => some .mul
  | .FloorDiv => some .fdiv
  | .Mod => some .mod
  | .Pow => some .pow
  | _ => none
def copOf : CmpOp → Cop
  | .Eq => .eq
  | .NotEq => .ne
  | .Lt => .lt
  | .LtE => .le
  | .Gt => .gt
  | .GtE => .ge
  | .In => .isin
  | .NotIn => .notin
  | .Is => .is_
  | .IsNot => .isnot
def biOf (x : Str) : Option Bi :=
  if x = "len" then some .len else if x = "all" then some .all else if x = "any" then some .any else if x = "tuple" then some .tuple else if x = "list" then some .list else
  if x = "int" then some .int else if x = "bool" then some .bool else if x = "repr" then some .repr else if x = "abs" then some .abs else none
def compTy (C : Ctx) : Expr → Option (Sum String Str)
  | .Name x _ => if C.gl x then (if x ∈ C.T.cls ∧ (x == ("__debug__" : Str)) = false then some (.inr x) else match bTys.find? fun n => Str.ofString n == x with
    | some n => if x ∈ C.T.free then some (.inl n) else none
    | none => none) else none
  | _ => none
def compTg : Nat → Ctx → Expr → Option Tg
  | 0, _, _ => none
  | _ + 1, C, .Name x _ => if C.asn x then (ixOf C.N x).map .n else none
  | f + 1, C, .Tuple es _ _ => if es.all starless then (mapO (compTg f C) es).map .t else none
  | _ + 1, _, _ => none
def compB (g : Expr → Option IE) (op : PySem.BoolOp) : List Expr → Option IE
  | [] => none
  | [a] => g a
  | a :: rest => match g a with
    | some x => match compB g op rest with
      | some y => some (match op with
        | .And => .and x y
        | .Or => .or x y)
      | none => none
    | none => none
def compC (g : Expr → Option IE) (a : Expr) : List CmpOp → List Expr → Option IE
  | [o], [b] => if setless b = true then (match g a with
    | some x => match g b with
      | some y => some (.cmp (copOf o) x y)
      | none => none
    | none => none) else none
  | [o, o2], [b, c] => if setless b = true ∧ setless c = true then (match g a with
    | some x => match g b with
      | some y => match g c with
        | some z => some (.chain (copOf o) (copOf o2) x y z)
        | none => none
      | none => none
    | none => none) else none
  | _, _ => none
def isRange (C : Ctx) : Expr → Option (List Expr)
  | .Call (.Name x _) args [] _ => if x = "range" ∧ C.free x = true ∧ args.all starless = true then some args else none
  | _ => none
def isTup : Expr → Bool
  | .Tuple .. => true
  | _ => false
def compO (g : Expr → Option IE) : Option Expr → Option (Option IE)
  | none => some none
  | some e => (g e).map some
/-- what is walked -/
def compI (C : Ctx) (g : Expr → Option IE) (tg : Expr) : Expr → Option (SrcK × List IE)
  | .Call (.Name x p) args [] pos => if x = "range" ∧ C.free x = true then (if args.all starless = true ∧ (args.length = 1 ∨ args.length = 2) then (mapO g args).map fun l => (.rng, l) else none)
    else if x = "zip" ∧ C.free x = true then (if args.all starless = true ∧ args.length = 2 ∧ isTup tg = true then (mapO g args).map fun l => (.zip, l) else none)
    else if x = "enumerate" ∧ C.free x = true then (if args.all starless = true ∧ args.length = 1 ∧ isTup tg = true then (mapO g args).map fun l => (.enum, l) else none)
    else (g (.Call (.Name x p) args [] pos)).map fun e => (.seq, [e])
  | e => if setless e = true then (g e).map fun e => (.seq, [e]) else none
/-- a dict whose keys are walked -/
def wkOf (C : Ctx) : Expr → Option Nat
  | .Name x _ => if x ∈ C.wk ∧ C.vis x = true ∧ noDbg x = true then ixOf C.N x else none
  | _ => none
/-- the block of a comprehension -/
def Ctx.blk (C : Ctx) (scope : Scope) : Ctx := { C with raw := scope, sc := relS scope C.sc, all := false }
/-- the body of a lambda -/
def Ctx.lam (C : Ctx) (scope : Scope) : Ctx := { C with raw := scope, sc := scope, all := false, nm := "" }
def isNoArgs : Arguments → Bool
  | ⟨[], [], none, [], [], none, []⟩ => true
  | _ => false
theorem isNoArgs_ok {a : Arguments} (h : isNoArgs a = true) : a = noArgs := by
  unfold isNoArgs at h
  split at h
  · rfl
  · cases h
def ownOf (N : List Str) (scope : Scope) : List (Str × Nat) := scope.names.filterMap fun q => match q.2 with
  | .local => (ixOf N q.1).map fun i => (q.1, i)
  | .cell => (ixOf N q.1).map fun i => (q.1, i)
  | _ => none
def keyStr : Option Expr → Option Str
  | some (.Constant (.str z) _ _) => some z
  | _ => none
def keyH (C : Ctx) (z : Str) : Nat := if z ∈ C.tk then 2 else if C.opt "1:" z = true then 1 else if C.opt "3:" z = true then 3 else 0
def compDs (g : Nat → Expr → Option IE) (kh : Str → Nat) : List (Option Expr) → List Expr → Option (List Str × List IE)
  | [], [] => some ([], [])
  | k :: ks, v :: vs => match keyStr k with
    | some z => match g (kh z) v with
      | some e => match compDs g kh ks vs with
        | some (zs, es) => some (z :: zs, e :: es)
        | none => none
      | none => none
    | none => none
  | _, _ => none
/-- where a thing that is put behind a list is one that changes -/
def argM (C : Ctx) (o : Expr) (mm : Str) : Nat := match o with
  | .Name r _ => if mm = "append" ∧ C.opt "4:" r = true then 1 else 0
  | _ => 0
def popL (C : Ctx) : Expr → Bool
  | .Name r _ => C.opt "p:" r
  | _ => false
/-- a comprehension; where it is told, one whose list may be one that changes -/
def mkComp (C : Ctx) (m : Bool) (x : IE) (t : Tg) (k : SrcK) (args : List IE) (ifs : Option IE) (own : List Nat) : IE := if C.opt "q" "" = true then (match k, args with
    | .seq, [e] => .compQ m x t e ifs own
    | _, _ => .comp m x t k args ifs own) else .comp m x t k args ifs own
mutual
def compE : Nat → Ctx → Nat → Expr → Option IE
  | 0, _, _, _ => none
  | f + 1, C, m, e => match e with
    | .Constant c _ _ => match c with
      | .int i => some (.c (.int i))
      | .bool i => some (.c (.bl i))
      | .str i => some (.c (.str i))
      | .none => some (.c .non)
      | _ => none
    | .Name x _ => if noDbg x = true then (if C.vis x = true then (ixOf C.N x).map .v else if C.gl x = true then (C.T.cst.lookup x).map .c else none) else none
    | .Tuple es _ _ => if es.all starless = true ∧ es.length ≤ 1000 then (consO (compE f C (if m = 5 then 1 else 0)) (compE f C 0) es).map .tup else none
    | .List es _ => if es.all starless = true ∧ es.length ≤ 1000 then (mapO (compE f C (sub1 m)) es).map (.lst (isM m)) else none
    | .BinOp a op b _ => match bopOf op with
      | some o => match compE f C 0 a with
        | some x => match compE f C 0 b with
          | some y => some (if m = 1 then .binm o x y else .bin o x y)
          | none => none
        | none => none
      | none => none
    | .UnaryOp op a _ => match op with
      | .USub => (compE f C 0 a).map .neg
      | .Not => (compE f C 0 a).map .not
      | _ => none
    | .BoolOp op vs _ => compB (compE f C 0) op vs
    | .Compare a ops bs _ => compC (compE f C 0) a ops bs
    | .IfExp c a b _ => match compT f C c with
      | some z => match compE f C 0 a with
        | some x => match compE f C 0 b with
          | some y => some (.ife z x y)
          | none => none
        | none => none
      | none => none
    | .Attribute o g _ => if superless o = true ∧ g ∈ C.T.attrs then (compE f C 0 o).map fun x => .fld x g else none
    | .Subscript o i _ => match i with
      | .Slice lo hi st _ => match st with
        | none => match compE f C 0 o with
          | some x => match compO (compE f C 0) lo with
            | some l => match compO (compE f C 0) hi with
              | some h => some (if m = 1 then .slm x l h else .sl x l h)
              | none => none
            | none => none
          | none => none
        | some _ => none
      | i => if sliceless i = true then (match compE f C 0 o with
        | some x => match compE f C 0 i with
          | some y => some (.ix x y)
          | none => none
        | none => none) else none
    | .ListComp elt gens scope _ => match gens with
      | [⟨tg, iter, ifs, as⟩] => if as = 0 ∧ setless iter = true ∧ blkC C.N C.sc scope (ownOf C.N scope) = true then (match wkOf C iter with
        | some i => match compTg f (C.blk scope) tg with
          | some t => if (ids t).all (fun j => decide (j ∈ (ownOf C.N scope).map (·.2))) = true then (match compE f (C.blk scope) 0 elt with
            | some x => match ifs with
              | [] => some (.compK (m == 1) x t i none ((ownOf C.N scope).map (·.2)))
              | [c] => match compT f (C.blk scope) c with
                | some y => some (.compK (m == 1) x t i (some y) ((ownOf C.N scope).map (·.2)))
                | none => none
              | _ => none
            | none => none) else none
          | none => none
        | none => match compI C (compE f C 0) tg iter with
        | some (k, args) => match compTg f (C.blk scope) tg with
          | some t => if (ids t).all (fun j => decide (j ∈ (ownOf C.N scope).map (·.2))) = true then (match compE f (C.blk scope) (sub1 m) elt with
            | some x => match ifs with
              | [] => some (mkComp C (isM m) x t k args none ((ownOf C.N scope).map (·.2)))
              | [c] => match compT f (C.blk scope) c with
                | some y => some (mkComp C (isM m) x t k args (some y) ((ownOf C.N scope).map (·.2)))
                | none => none
              | _ => none
            | none => none) else none
          | none => none
        | none => none) else none
      | _ => none
    | .Dict keys vals _ => match keys with
      | [] => match vals with
        | [] => some (.dic (m == 2))
        | _ => none
      | keys => if m = 2 then (match keys, vals with
        | [some k], [v] => match compE f C 0 k with
          | some x => match compE f C 0 v with
            | some y => some (.dic1 x y)
            | none => none
          | none => none
        | _, _ => none) else match compDs (compE f C) (keyH C) keys vals with
        | some (zs, es) => if keys.length ≤ 15 ∧ zs.Nodup then some (.dicd zs es) else none
        | none => none
    | .Call fn args kws pos => match kws with
      | [] => if args.all starless = true then (match fn with
        | .Name x _ => if C.gl x = true ∧ noDbg x = true then (
            if x ∈ C.T.cats then (match args with
              | .Lambda prm bd sc _ :: as => if isNoArgs prm = true ∧ LamX.lamSB C.sc sc = true ∧ (C.nm == ("" : Str)) = false then (match mapO (compE f C 0) as with
                | some zs => (compE f (C.lam sc) 0 bd).map (.lam (C.T.lams.idxOf C.nm) C.nm x zs)
                | none => none) else none
              | _ => none)
            else if x ∈ C.T.fns then (mapO (compE f C 0) args).map (.call x)
            else if x ∈ C.T.cls then (mapO (compE f C 0) args).map (.make x)
            else if x ∈ C.T.free then (match args with
              | [a] => match isRange C a with
                | some rs => if rs.length = 1 ∨ rs.length = 2 then (if x = "list" then (mapO (compE f C 0) rs).map (.rngs true (m == 1)) else if x = "tuple" then (mapO (compE f C 0) rs).map (.rngs false false) else none) else none
                | none => if m = 1 then (if x = "list" then (compE f C 0 a).map .lstm else none) else match biOf x with
                  | some b => (compE f C 0 a).map (.bi b)
                  | none => none
              | [a, t] => if x = "min" ∨ x = "max" then (match compE f C 0 a with
                | some y => match compE f C 0 t with
                  | some z => some (.mm (x == "max") y z)
                  | none => none
                | none => none) else if x = "isinstance" then (match compE f C 0 a with
                | some y => match compTy C t with
                  | some z => some (.isi y [z])
                  | none => none
                | none => none) else none
              | _ => none)
            else none) else if C.vis x = true ∧ noDbg x = true then (match ixOf C.N x with
              | some i => (mapO (compE f C 0) args).map (.callv i)
              | none => none) else none
        | .Attribute o mm apos => if superless o = true ∧ apos.endLine = pos.line ∧ args.length < 30 then (
            match (match o with
              | .Name c _ => if (c, mm) ∈ C.T.cms ∧ C.gl c = true ∧ noDbg c = true then some c else none
              | _ => none) with
            | some c => (mapO (compE f C 0) args).map (.cmeth c mm)
             | none => match compE f C 0 o with
              | some y => match mapO (compE f C (argM C o mm)) args with
                | some zs => match args with
                  | [_] => if mm = "append" then some (.bm .append y zs) else if mm = "extend" then some (.bm .extend y zs) else if mm = "pop" then some (.bm (if popL C o = true then .popl else .pop1) y zs) else if mm = "split" then (match zs with
                    | [z] => some (.spl y z)
                    | _ => none) else if mm = "update" then (match zs with
                    | [z] => some (.upd y z)
                    | _ => none) else if mm = "get" then (match zs with
                    | [z] => some (.bm .get2 y [z, .c .non])
                    | _ => none) else some (.meth y mm zs)
                  | [_, _] => if mm = "get" then some (.bm .get2 y zs) else some (.meth y mm zs)
                  | _ => some (.meth y mm zs)
                | none => none
              | none => none) else none
        | _ => none) else none
      | _ => none
    | _ => none
def compT : Nat → Ctx → Expr → Option IE
  | 0, _, _ => none
  | f + 1, C, e => match e with
    | .UnaryOp op a _ => match op with
      | .Not => (compT f C a).map .not
      | _ => (compE f C 0 e).map .val
    | .BoolOp op vs _ => compB (compT f C) op vs
    | .Compare a ops bs _ => compC (compE f C 0) a ops bs
    | .IfExp .. => none
    | e => if plainT e = true then (compE f C 0 e).map .val else none
end

/-! ### statements -/
def frzs (C : Ctx) : List Expr → List Nat
  | [] => []
  | .Name x _ :: es => if x ∈ C.frz ∧ C.vis x = true then (match ixOf C.N x with
    | some i => i :: frzs C es
    | none => frzs C es) else frzs C es
  | _ :: es => frzs C es
/-- lists that change no more behind a loop -/
def frzF (C : Ctx) : List Nat := (List.range C.N.length).filter fun i => C.opt "f:" (C.N.getD i "")
def argsOf : Expr → List Expr
  | .Call (.Name x _) args _ _ => if x = "len" then [] else args
  | .Call _ args _ _ => args
  | .Name x p => [.Name x p]
  | .Tuple es _ _ => es
  | _ => []
def isE : Expr → Bool
  | .List [] _ => true
  | _ => false
def hint (C : Ctx) (x : Str) (e : Expr) : Nat := if x ∈ C.mu then 1 else if C.opt "e:" x = true ∧ isE e = true then 1 else if x ∈ C.dT then 2 else if C.opt "3:" x = true then 3 else if C.opt "4:" x = true then 4 else 0
def hintT (C : Ctx) (ts : List Expr) (e : Expr) : Nat := match ts, e with
  | .Name x _ :: _, .Tuple (a :: _) _ _ => if hint C x a = 1 then 5 else 0
  | _, _ => 0
def swB (sc : Scope) (y : Str) (py : Pos) (scope : Scope) (pos : Pos) : Bool := (sc.names.lookup y == some .local) && (py.line == pos.line) && !(scope.names.any fun q => q.1 == y && (q.2 == .local || q.2 == .cell))
def swNames (sc : Scope) (ts : List Expr) : List Str := ts.filterMap fun
  | .Name id pos => if sc.names.lookup id == some .local && pos.line == (ts.head?.map (·.pos.line)).getD 0 then some id else none
  | _ => none
def swNo (sc : Scope) (ts : List Expr) : Expr → Bool
  | .Tuple vs _ _ => decide ((swNames sc ts).length ≠ ts.length) || vs.all (foldedForSure 8)
  | _ => false
def compA (f : Nat) (C : Ctx) (targets : List Expr) (e : Expr) : Option IS := match targets with
  | [.Name x px] => if C.asn x = true ∧ compless e = true then (match ixOf C.N x with
      | some i => (compE f C (hint C x e) e).map (.set (.n i))
      | none => none) else (match e with
      | .ListComp elt gs scope pos => if C.asn x = true then (match ixOf C.N x with
        | some i => (compE f C (hint C x (.ListComp elt gs scope pos)) (.ListComp elt gs scope pos)).map (.set (.n i))
        | none => none) else none
      | _ => none)
  | [.Tuple [.Subscript o1 i1 q1, .Subscript o2 i2 q2] k pt] => if ((isTup e = false ∧ compless e = true) ∨ swNo C.sc [.Subscript o1 i1 q1, .Subscript o2 i2 q2] e = true) ∧ sliceless i1 = true ∧ sliceless i2 = true then (match compE f C 0 o1 with
      | some x1 => match compE f C 0 i1 with
        | some y1 => match compE f C 0 o2 with
          | some x2 => match compE f C 0 i2 with
            | some y2 => (compE f C 0 e).map (.set2 x1 y1 x2 y2)
            | none => none
          | none => none
        | none => none
      | none => none) else none
  | [.Tuple ts k pt] => if swNo C.sc ts e = true then (match compTg f C (.Tuple ts k pt) with
      | some t => (compE f C (hintT C ts e) e).map (.set t)
      | none => none) else if isTup e = true then (match ts, e with
      | [.Name x px, .Name y py], .Tuple [a, b] k2 pt2 =>
        if C.sc.names.lookup x = some .local ∧ C.sc.names.lookup y = some .local ∧ (py.line == px.line) = true ∧ x ≠ y ∧ starless a = true ∧ starless b = true ∧ [a, b].all (foldedForSure 8) = false ∧ [a, b].all (constantsAlone 8) = false then
          (match ixOf C.N x with
          | some i => match ixOf C.N y with
            | some j => if i ≠ j then (match compE f C (hint C x a) a with
              | some u => match compE f C (hint C y b) b with
                | some v => some (.par i j u v)
                | none => none
              | none => none) else none
            | none => none
          | none => none) else none
      | [.Name x px, .Name y py, .Name w pw], .Tuple [a, b, c] k2 pt2 =>
        if (C.sc.names.lookup x = some .local ∧ C.sc.names.lookup y = some .local ∧ C.sc.names.lookup w = some .local) ∧ ((py.line == px.line) = true ∧ (pw.line == px.line) = true) ∧ (x ≠ y ∧ x ≠ w ∧ y ≠ w) ∧ (starless a = true ∧ starless b = true ∧ starless c = true) ∧ [a, b, c].all (foldedForSure 8) = false ∧ [a, b, c].all (constantsAlone 8) = false then
          (match ixOf C.N x with
          | some i => match ixOf C.N y with
            | some j => match ixOf C.N w with
              | some l => if i ≠ j ∧ i ≠ l ∧ j ≠ l then (match compE f C (hint C x a) a with
                | some u => match compE f C (hint C y b) b with
                  | some v => match compE f C (hint C w c) c with
                    | some t => some (.par3 i j l u v t)
                    | none => none
                  | none => none
                | none => none) else none
              | none => none
            | none => none
          | none => none) else none
      | _, _ => none)
    else (match compTg f C (.Tuple ts k pt) with
      | some t => (compE f C 0 e).map (.set t)
      | none => none)
  | [.Subscript o (.Slice (some lo) (some hi) none _) _] => if compless e = true then (match compE f C 0 o with
      | some x => match compE f C 0 lo with
        | some a => match compE f C 0 hi with
          | some b => match compE f C 0 e with
            | some z => some (.setsl x a b z)
            | none => none
          | none => none
        | none => none
      | none => none) else none
  | [.Subscript o i _] => if sliceless i = true ∧ compless e = true then (match compE f C 0 o with
      | some x => match compE f C 0 i with
        | some y => match compE f C 0 e with
          | some z => some (.setix x y z)
          | none => none
        | none => none
      | none => none) else none
  | [.Attribute o g _] => if g ∈ C.T.attrs ∧ compless e = true then (match compE f C 0 o with
      | some x => match compE f C 0 e with
        | some z => some (.setf x g z)
        | none => none
      | none => none) else none
  | _ => none
def isDoc : Expr → Bool
  | .Constant (.str _) _ _ => true
  | _ => false
def compR (g : Expr → Option IE) (C : Ctx) (a b : Option Expr) : IS := match a, b with
  | some (.Call (.Name x _) args [] _), none => if x ∈ C.T.cls ∧ C.gl x = true ∧ noDbg x = true ∧ args.all starless = true ∧ args.isEmpty = false then (match mapO g args with
      | some l => .raise x l
      | none => .bad) else .bad
  | _, _ => .bad
mutual
def compS : Nat → Ctx → Stmt → Option IS
  | 0, _, _ => none
  | f + 1, C, s => match s with
    | .Assign ts e _ => compA f C ts e
    | .Return v _ => match v with
      | none => some .retN
      | some e => (compE f C 0 e).map .ret
    | .Expr e _ => if isDoc e = true then some .pass else if compless e = true then (compE f C 0 e).map .ex else none
    | .If c a b _ => match compT f C c with
      | some x => match compSs f C a with
        | some y => match compSs f C b with
          | some z => some (.ife x y z)
          | none => none
        | none => none
      | none => none
    | .For t iter body els _ => match els with
      | [] => if setless iter = true then (match compI C (compE f C 0) t iter with
        | some (k, args) => match compTg f C t with
          | some tg => match compSs f C body with
            | some b => some (.loop tg k args b)
            | none => none
          | none => none
        | none => none) else none
      | _ => none
    | .While c body els _ => match els with
      | [] => match compT f C c with
        | some x => match compSs f C body with
          | some b => some (.whil C.tn x b)
          | none => none
        | none => none
      | _ => none
    | .Pass _ => some .pass
    | .Break _ => some .brk
    | .Continue _ => some .cnt
    | .Raise a b _ => some (compR (compE f C 0) C a b)
    | .AugAssign t op e _ => match bopOf op with
      | some o => if augOk o = true then (match t with
        | .Name x _ => if C.asn x = true then (match ixOf C.N x with
          | some i => (compE f C 0 e).map (.aug i o)
          | none => none) else none
        | .Subscript b i _ => if sliceless i = true then (match compE f C 0 b with
          | some x => match compE f C 0 i with
            | some y => (compE f C 0 e).map (.augix x y o)
            | none => none
          | none => none) else none
        | _ => none) else none
      | none => none
    | _ => none
def compSs : Nat → Ctx → List Stmt → Option (List IS)
  | 0, _, _ => none
  | f + 1, C, ss => match ss with
    | [] => some []
    | s :: ss => match compS f C s with
      | some x => match compSs f C ss with
        | some xs => some ((match s with
          | .Assign _ e _ => frzs C (argsOf e)
          | .Return (some e) _ => frzs C (argsOf e)
          | _ => []).map IS.frz ++ x :: ((match s with
          | .For .. => frzF C
          | _ => []).map IS.frz ++ xs))
        | none => none
      | none => none
end
end SI
end
section
set_option Elab.async false
set_option linter.all false
set_option maxRecDepth 100000
set_option maxHeartbeats 4000000
/-! SI17: the small language keeps to the text: expressions. -/
namespace SI
open PySem PySem.Spec PyProof.Rows L2

structure CxOk (X : Cx) (W : WX) (G : Wr) (k : Nat) (C : Ctx) : Prop where
  x : XOk X W G k C.T
  N : X.N = C.N
  sc : X.env.scope = C.sc
  kind : X.env.scope.kind = .function
  fn : ∀ x, (C.all || (C.raw.names.lookup x == some .cell)) = true → X.fn x = true
  cod : (C.nm == ("" : Str)) = false → LamC X C.nm
section
variable {X : Cx} {W : WX} {G : Wr} {k : Nat} {C : Ctx} {e : Expr} {es : List Expr} {x : Str} {pos p : Pos}
theorem CxOk.gl (c : CxOk X W G k C) (h : C.gl x = true) : Gl X x := by
  show X.env.scope.names.lookup x = _
  rw [c.sc]; exact of_decide_eq_true h
theorem CxOk.vis (c : CxOk X W G k C) (h : C.vis x = true) : Vis X.env.scope x := by
  unfold Vis
  rw [c.sc]; exact of_decide_eq_true h
theorem CxOk.asn (c : CxOk X W G k C) (h : C.asn x = true) : Loc X.env.scope x ∧ (X.fn x = true ∨ X.env.scope.names.lookup x = some .local) := by
  unfold L2.Loc
  rw [c.sc]
  unfold Ctx.asn at h
  simp only [Bool.or_eq_true, Bool.and_eq_true, decide_eq_true_eq] at h
  rcases h with h | ⟨h1, h2⟩
  · exact ⟨.inl h, .inr h⟩
  · exact ⟨.inr h1, .inl (c.fn x (by simp only [Bool.or_eq_true]; exact h2))⟩
theorem CxOk.free (c : CxOk X W G k C) (h : C.free x = true) : Gl X x ∧ X.mg x = none := by
  unfold Ctx.free at h
  simp only [Bool.and_eq_true, decide_eq_true_eq] at h
  exact ⟨c.gl h.1, c.x.wf.free x h.2⟩
theorem CxOk.ix (c : CxOk X W G k C) {i : Nat} (h : ixOf C.N x = some i) : X.N[i]? = some x := by rw [c.N]; exact ixOf_ok h
theorem noDbg_ok (h : noDbg x = true) : (x == ("__debug__" : Str)) = false ∧ (x == ("__classdict__" : Str)) = false := by
  unfold noDbg at h
  simpa using h
theorem Wf.blk {T : Tab} (w : Wf X G k T) (s : Shared) (H : Hp) (scope : Scope) (ce : PySem.Env) (fp : List Addr) : Wf (X.blk s H scope ce fp) G k T :=
  ⟨w.toWf0.to, fun x Tf ds h ne => by
    obtain ⟨g, j, lo, F, a, b, c, d, e⟩ := w.lam x Tf ds h ne
    exact ⟨g, j, lo, F, a, b, c, d, e.to⟩⟩
theorem CxOk.lam {G : Wr} {j : Nat} (c : CxOk X W G k C) {lo : Low} (w : Wf0 X (G.at lo) j C.T) {sc : Scope} (L : LamX.LamS X.env.scope sc) (A : Around) (outer : List PySem.Env) (s2 : Shared) (H2 : Hp) (E : XK) (f d : Addr) (rm : Room j (A.deeper (LamX.lamEnv X sc s2.heap.objs.size f d))) (gd : A.guards = some []) :
    CxOk (LamX.lamCx X A outer s2 H2 E sc f d) (fun c u _ H => E c u H) (G.at lo) j (C.lam sc) :=
  ⟨⟨rm, guards_deeper gd _, takes_of rfl rfl rfl rfl, ⟨w.to, fun x Tf ds h ne => absurd rfl ne⟩, c.x.nd, rfl⟩, c.N, rfl, L.kind, fun x h => by
    have h : (sc.names.lookup x == some .cell) = true := by simpa [Ctx.lam] using h
    exact absurd rfl (L.own _ (PySem.mem_of_lookup (beq_iff_eq.mp h))).2, fun h => by
    have h : (("" : Str) == ("" : Str)) = false := h
    simp at h⟩
theorem CxOk.blk (c : CxOk X W G k C) (s : Shared) (H : Hp) (scope : Scope) (cl : List (Str × Addr)) (a : Addr) (fp : List Addr) (hk : scope.kind = .function) :
    CxOk (X.blk s H scope (compEnvC scope cl a X.env) fp) W0 G k (C.blk scope) :=
  ⟨⟨c.x.room, c.x.grd, fun u s' ⟨_, _, _, _, _, _, _, _, _, _, _, _, _, _, _, _, w⟩ => w.elim, c.x.wf.blk _ _ _ _ _, c.x.nd, c.x.calm⟩, c.N, by
    show relS scope X.env.scope = relS scope C.sc
    rw [c.sc], hk, fun x h => by simpa [Ctx.blk] using h, fun h => ⟨(c.cod h).q, (c.cod h).c⟩⟩
theorem PE_no : PE X e (tE X W fun _ _ => .no) := ⟨fun pn s sg H Q I ⟨O, env, h, eo, S, w⟩ => w.elim⟩
theorem PT_no : PT X e (tT X W fun _ _ => .no) := ⟨fun pn s sg H Q I ⟨O, env, h, eo, S, w⟩ => w.elim⟩
theorem PI_no {tg : Expr} {kS : SrcK} : PI X tg e (tI X W kS fun _ _ => .no) := ⟨fun pn s sg H Q I ⟨O, env, h, eo, S, w⟩ => w.elim⟩
theorem opt_map {α β : Type} {g : α → β} {o : Option α} {b : β} (h : o.map g = some b) : ∃ a, o = some a ∧ b = g a := by
  cases o with
  | none => cases h
  | some a => cases h; exact ⟨a, rfl, rfl⟩
theorem mapO_len {α β : Type} {g : α → Option β} : ∀ {as : List α} {bs : List β}, mapO g as = some bs → as.length = bs.length
  | [], _, h => by cases h; rfl
  | a :: as, _, h => by
    simp only [mapO] at h
    split at h
    · split at h
      · rename_i hb; cases h; simp [mapO_len hb]
      · cases h
    · cases h
theorem evs_len {f : IE → Nv → Hs → Res D} : ∀ {es : List IE} {env : Nv} {h : Hs} {ds : List D} {h' : Hs}, evs f es env h = .ok ds h' → ds.length = es.length
  | [], _, _, _, _, e => by cases e; rfl
  | a :: as, env, h, ds, h', e => by
    have e : ((f a env h).bind fun d h => (evs f as env h).bind fun ds h => .ok (d :: ds) h) = Res.ok ds h' := e
    cases q : f a env h with
    | ok d h1 =>
      rw [q] at e
      have e : ((evs f as env h1).bind fun ds h => .ok (d :: ds) h) = Res.ok ds h' := e
      cases q2 : evs f as env h1 with
      | ok ds2 h2 => rw [q2] at e; cases e; simp [evs_len q2]
      | ex x h => rw [q2] at e; cases e
      | no => rw [q2] at e; cases e
    | ex x h => rw [q] at e; cases e
    | no => rw [q] at e; cases e
theorem args_ok {n : Nat} {g : Expr → Option IE} (ih : ∀ e ie, g e = some ie → PE X e (tE X W (ev G n ie))) : ∀ {es : List Expr} {ies : List IE}, es.all starless = true → mapO g es = some ies → PA X es (tA X W (evs (ev G n) ies))
  | [], _, _, h => by cases h; exact sA_nil
  | e :: es, _, hs, h => by
    have h1 : starless e = true ∧ es.all starless = true := by simpa using hs
    simp only [mapO] at h
    split at h
    · rename_i ie he
      split at h
      · rename_i ies hb
        cases h
        exact sA_cons h1.1 (ih e ie he) (args_ok ih h1.2 hb)
      · cases h
    · cases h
theorem consO_len {α β : Type} {g1 g : α → Option β} : ∀ {as : List α} {bs : List β}, consO g1 g as = some bs → as.length = bs.length
  | [], _, h => by cases h; rfl
  | a :: as, _, h => by
    simp only [consO] at h
    split at h
    · split at h
      · rename_i hb
        cases h
        simp [mapO_len hb]
      · cases h
    · cases h
theorem args_okC {n : Nat} {g1 g : Expr → Option IE} (ih1 : ∀ e ie, g1 e = some ie → PE X e (tE X W (ev G n ie))) (ih : ∀ e ie, g e = some ie → PE X e (tE X W (ev G n ie))) : ∀ {es : List Expr} {ies : List IE}, es.all starless = true → consO g1 g es = some ies → PA X es (tA X W (evs (ev G n) ies))
  | [], _, _, h => by cases h; exact sA_nil
  | e :: es, _, hs, h => by
    have h1 : starless e = true ∧ es.all starless = true := by simpa using hs
    simp only [consO] at h
    split at h
    · rename_i ie he
      split at h
      · rename_i ies hb
        cases h
        exact sA_cons h1.1 (ih1 e ie he) (args_ok ih h1.2 hb)
      · cases h
    · cases h
theorem args_nil' {n : Nat} {g : Expr → Option IE} {ies : List IE} (h : mapO g es = some ies) : es = [] → evs (ev G n) ies = fun _ h => .ok [] h := fun e => by
  subst e
  cases h; rfl
theorem cop_ok (o : CmpOp) : cpOf (copOf o) = o := by cases o <;> rfl
theorem bop_ok {o : Operator} {b : Bop} (h : bopOf o = some b) : opOf b = o := by cases o <;> cases h <;> rfl
theorem boolE {g : Expr → Option IE} {op : PySem.BoolOp} (ih : ∀ n e ie, g e = some ie → PE X e (tE X W (ev G n ie))) : ∀ {vs : List Expr} {ie : IE} (n : Nat), compB g op vs = some ie → PE X (.BoolOp op vs pos) (tE X W (ev G n ie))
  | [], _, _, h => by cases h
  | [a], _, n, h => sE_one (ih n a _ h)
  | a :: b :: rest, _, n, h => by
    simp only [compB] at h
    split at h
    · rename_i u hu
      split at h
      · rename_i v hv
        cases h
        cases n with
        | zero => cases op <;> exact PE_no
        | succ n =>
          cases op with
          | And => exact sE_and (ih n a u hu) (boolE ih n hv)
          | Or => exact sE_or (ih n a u hu) (boolE ih n hv)
      · cases h
    · cases h
theorem boolT {g : Expr → Option IE} {op : PySem.BoolOp} (ih : ∀ n e ie, g e = some ie → PT X e (tT X W (evT G n ie))) : ∀ {vs : List Expr} {ie : IE} (n : Nat), compB g op vs = some ie → PW X (.BoolOp op vs pos) (tT X W (evT G n ie))
  | [], _, _, h => by cases h
  | [a], _, n, h => by cases op with
    | And => exact sW_and1 (ih n a _ h)
    | Or => exact sW_or1 (ih n a _ h)
  | a :: b :: rest, _, n, h => by
    simp only [compB] at h
    split at h
    · rename_i u hu
      split at h
      · rename_i v hv
        cases h
        cases n with
        | zero => cases op <;> exact ⟨fun wh pn s sg H Q I ⟨O, env, h, eo, S, w⟩ => w.elim⟩
        | succ n =>
          cases op with
          | And => exact sW_and (ih n a u hu) (boolT ih n hv)
          | Or => exact sW_or (ih n a u hu) (boolT ih n hv)
      · cases h
    · cases h
theorem compO_ok {n : Nat} {g : Expr → Option IE} (ih : ∀ e ie, g e = some ie → PE X e (tE X W (ev G n ie))) {o : Option Expr} {l : Option IE} (h : compO g o = some l) : PO X o (tO X W (evo (ev G n) l)) := by
  cases o with
  | none => cases h; exact sO_none
  | some e =>
    obtain ⟨ie, he, rfl⟩ := opt_map h
    exact sO_some (ih e ie he)
theorem compI_ok {n : Nat} {g : Expr → Option IE} {tg : Expr} (c : CxOk X W G k C) (ih : ∀ e ie, g e = some ie → PE X e (tE X W (ev G n ie))) {kS : SrcK} {args : List IE} (h : compI C g tg e = some (kS, args)) : PI X tg e (tI X W kS (evs (ev G n) args)) := by
  unfold compI at h
  split at h
  · rename_i x p as pos
    split at h
    · rename_i hx
      obtain ⟨rfl, hf⟩ := hx
      obtain ⟨hg, hm⟩ := c.free hf
      split at h
      · rename_i hl
        obtain ⟨l, hl2, e2⟩ := opt_map h
        cases e2
        obtain ⟨hs, hl⟩ := hl
        have len := mapO_len hl2
        match as, args, hl2, hs, hl, len with
        | [a], [u], hl2, hs, _, _ =>
          have ha : starless a = true := by simpa using hs
          simp only [mapO] at hl2
          split at hl2
          · rename_i u' hu; cases hl2; exact sI_rng1 hg hm ha (ih a u hu)
          · cases hl2
        | [a, b], [u, v], hl2, hs, _, _ =>
          have ha : starless a = true ∧ starless b = true := by simpa using hs
          simp only [mapO] at hl2
          split at hl2
          · rename_i u' hu
            split at hl2
            · rename_i v' hv
              split at hv
              · rename_i w hw; cases hv; cases hl2; exact sI_rng2 hg hm ha.1 ha.2 (ih a u hu) (ih b v hw)
              · cases hv
            · cases hl2
          · cases hl2
      · cases h
    · split at h
      · rename_i hx
        obtain ⟨rfl, hf⟩ := hx
        obtain ⟨hg, hm⟩ := c.free hf
        split at h
        · rename_i hl
          obtain ⟨l, hl2, e2⟩ := opt_map h
          cases e2
          obtain ⟨hs, hl, ht⟩ := hl
          have len := mapO_len hl2
          match as, args, hl2, hs, hl, len with
          | [a, b], [u, v], hl2, hs, _, _ =>
            have ha : starless a = true ∧ starless b = true := by simpa using hs
            simp only [mapO] at hl2
            split at hl2
            · rename_i u' hu
              split at hl2
              · rename_i v' hv
                split at hv
                · rename_i w hw
                  cases hv; cases hl2
                  cases tg <;> first | exact sI_zip hg hm ha.1 ha.2 (ih a u hu) (ih b v hw) | cases ht
                · cases hv
              · cases hl2
            · cases hl2
        · cases h
      · split at h
        · rename_i hx
          obtain ⟨rfl, hf⟩ := hx
          obtain ⟨hg, hm⟩ := c.free hf
          split at h
          · rename_i hl
            obtain ⟨l, hl2, e2⟩ := opt_map h
            cases e2
            obtain ⟨hs, hl, ht⟩ := hl
            have len := mapO_len hl2
            match as, args, hl2, hs, hl, len with
            | [a], [u], hl2, hs, _, _ =>
              have ha : starless a = true := by simpa using hs
              simp only [mapO] at hl2
              split at hl2
              · rename_i u' hu
                cases hl2
                cases tg <;> first | exact sI_enum hg hm ha (ih a u hu) | cases ht
              · cases hl2
          · cases h
        · obtain ⟨ie, he, e2⟩ := opt_map h
          cases e2
          exact sI_seq (ih _ ie he)
  · split at h
    · obtain ⟨ie, he, e2⟩ := opt_map h
      cases e2
      exact sI_seq (ih _ ie he)
    · cases h
theorem asgE_all : ∀ {ts : List Expr} {l : List Tg} {g : Expr → Option Tg}, (∀ e t, g e = some t → PG X e (gT X t)) → ts.all starless = true → mapO g ts = some l → PGs X ts (gTs X l)
  | [], _, _, _, _, h => by cases h; exact sG_nil
  | e :: es, _, g, ih, hs, h => by
    have h1 : starless e = true ∧ es.all starless = true := by simpa using hs
    simp only [mapO] at h
    split at h
    · rename_i t ht
      split at h
      · rename_i l hb
        cases h
        exact sG_cons h1.1 (ih e t ht) (asgE_all ih h1.2 hb)
      · cases h
    · cases h
theorem compTg_ok (c : CxOk X W G k C) : ∀ (f : Nat) (e : Expr) (t : Tg), compTg f C e = some t → PG X e (gT X t)
  | 0, _, _, h => by simp [compTg] at h
  | f + 1, .Name x p, t, h => by
    simp only [compTg] at h
    split at h
    · rename_i ha
      obtain ⟨i, hi, rfl⟩ := opt_map h
      exact sG_name c.x.nd (c.ix hi) (c.asn ha).1 (c.asn ha).2
    · cases h
  | f + 1, .Tuple es j p, t, h => by
    simp only [compTg] at h
    split at h
    · rename_i hs
      obtain ⟨l, hl, rfl⟩ := opt_map h
      exact sG_tup c.x.calm hs (mapO_len hl) (asgE_all (compTg_ok c f) hs hl)
    · cases h
  | f + 1, .BoolOp .., t, h => by simp [compTg] at h
  | f + 1, .NamedExpr .., t, h => by simp [compTg] at h
  | f + 1, .BinOp .., t, h => by simp [compTg] at h
  | f + 1, .UnaryOp .., t, h => by simp [compTg] at h
  | f + 1, .Lambda .., t, h => by simp [compTg] at h
  | f + 1, .IfExp .., t, h => by simp [compTg] at h
  | f + 1, .Dict .., t, h => by simp [compTg] at h
  | f + 1, .Set .., t, h => by simp [compTg] at h
  | f + 1, .ListComp .., t, h => by simp [compTg] at h
  | f + 1, .SetComp .., t, h => by simp [compTg] at h
  | f + 1, .DictComp .., t, h => by simp [compTg] at h
  | f + 1, .GeneratorExp .., t, h => by simp [compTg] at h
  | f + 1, .Await .., t, h => by simp [compTg] at h
  | f + 1, .Yield .., t, h => by simp [compTg] at h
  | f + 1, .YieldFrom .., t, h => by simp [compTg] at h
  | f + 1, .Compare .., t, h => by simp [compTg] at h
  | f + 1, .Call .., t, h => by simp [compTg] at h
  | f + 1, .FormattedValue .., t, h => by simp [compTg] at h
  | f + 1, .JoinedStr .., t, h => by simp [compTg] at h
  | f + 1, .Constant .., t, h => by simp [compTg] at h
  | f + 1, .Attribute .., t, h => by simp [compTg] at h
  | f + 1, .Subscript .., t, h => by simp [compTg] at h
  | f + 1, .Starred .., t, h => by simp [compTg] at h
  | f + 1, .List .., t, h => by simp [compTg] at h
  | f + 1, .Slice .., t, h => by simp [compTg] at h
end
end SI
end
section
set_option Elab.async false
set_option linter.all false
set_option maxRecDepth 100000
set_option maxHeartbeats 4000000
/-! SI18: the small language keeps to the text: expressions, all of them. -/
namespace SI
open PySem PySem.Spec PyProof.Rows L2

section
variable {X : Cx} {W : WX} {G : Wr} {k : Nat} {C : Ctx} {a b c e o i : Expr} {es : List Expr} {x : Str} {pos p apos : Pos} {fa fb fc : Nv → Hs → Res D}
def chainF (op op' : Cop) (fa fb fc : Nv → Hs → Res D) : Nv → Hs → Res D := fun env h => (fa env h).bind fun x h => (fb env h).bind fun y h => (Res.of (cmpD h op x y) h).bind fun k h => if k then (fc env h).bind fun z h => .of ((cmpD h op' y z).map .bl) h else .ok (.bl false) h
theorem chain_bl {op op' : Cop} {env : Nv} {h h' : Hs} {d : D} (e : chainF op op' fa fb fc env h = .ok d h') : ∃ t, d = .bl t := by
  unfold chainF at e
  cases q1 : fa env h with
  | ok x h1 =>
    rw [q1] at e
    have e : ((fb env h1).bind fun y h => (Res.of (cmpD h op x y) h).bind fun k h => if k then (fc env h).bind fun z h => .of ((cmpD h op' y z).map .bl) h else .ok (.bl false) h) = .ok d h' := e
    cases q2 : fb env h1 with
    | ok y h2 =>
      rw [q2] at e
      have e : ((Res.of (cmpD h2 op x y) h2).bind fun k h => if k then (fc env h).bind fun z h => .of ((cmpD h op' y z).map .bl) h else .ok (.bl false) h) = .ok d h' := e
      cases q3 : cmpD h2 op x y with
      | none => rw [q3] at e; cases e
      | some t =>
        rw [q3] at e
        cases t with
        | false => cases e; exact ⟨_, rfl⟩
        | true =>
          have e : ((fc env h2).bind fun z h => Res.of ((cmpD h op' y z).map .bl) h) = .ok d h' := e
          cases q4 : fc env h2 with
          | ok z h3 =>
            rw [q4] at e
            have e : Res.of ((cmpD h3 op' y z).map D.bl) h3 = .ok d h' := e
            cases q5 : cmpD h3 op' y z with
            | none => rw [q5] at e; cases e
            | some t => rw [q5] at e; cases e; exact ⟨_, rfl⟩
          | ex u h => rw [q4] at e; cases e
          | no => rw [q4] at e; cases e
    | ex u h => rw [q2] at e; cases e
    | no => rw [q2] at e; cases e
  | ex u h => rw [q1] at e; cases e
  | no => rw [q1] at e; cases e
theorem chain_rd {op op' : Cop} {sg : L2.St} {H : Hp} {Q : VK} : tE X W (chainF op op' fa fb fc) sg H Q → tChain (cmpR X op) (cmpR X op') (tE X W fa) (tE X W fb) (tE X W fc) sg H Q := fun ⟨O, env, h, eo, S, w⟩ =>
  ⟨O, env, h, eo, S, Post.bind w fun x h1 O1 v H1 _ s1 S1 r1 p1 => ⟨O1, env, h1, eo.stp s1, S1, p1.bind fun y h2 O2 u H2 _ s2 S2 r2 p2 => by
    obtain ⟨t, e, q⟩ := p2.ofb
    refine cmp_ok S2 (r1.stp s2) r2 e ⟨t, rfl, ?_⟩
    cases t with
    | true =>
      rw [if_pos rfl] at q ⊢
      refine ⟨O2, env, h2, (eo.stp s1).stp s2, S2, q.bind fun z h3 O3 w H3 _ s3 S3 r3 p3 => ?_⟩
      obtain ⟨d, e3, q3⟩ := p3.of S3
      simp only [Option.map_eq_some_iff] at e3
      obtain ⟨t3, e3, rfl⟩ := e3
      exact cmp_ok S3 (r2.stp s3) r3 e3 (q3 _ (.bl t3))
    | false => rw [if_neg (by decide)] at q ⊢; exact q.here S2 (.bl false)⟩⟩
theorem sT_chain {op op' : Cop} (hr : Room k X.A) (ha : PE X a (tE X W fa)) (hb : PE X b (tE X W fb)) (hc : PE X c (tE X W fc)) (hbm : setless b = true) (hcm : setless c = true) :
    PT X (.Compare a [cpOf op, cpOf op'] [b, c] pos) (tT X W fun env h => (chainF op op' fa fb fc env h).bind fun x h => .of (truth h x) h) :=
  PT.weak (pt_chain (cmp_all hr op) (cmp_all hr op') ha hb hc (behind_plain hcm _)) fun sg H Q ⟨O, env, h, eo, S, w⟩ => chain_rd ⟨O, env, h, eo, S, w.bind fun x h1 O1 v H1 er s1 S1 r1 p1 => by
    obtain ⟨t, rfl⟩ := chain_bl er
    exact ⟨t, r1.bl_inv, p1.here S1 rfl⟩⟩
theorem biOf_ok {f : Bi} (h : biOf x = some f) : nmBi f = x := by
  unfold biOf at h
  repeat (split at h; · rename_i e; cases h; exact e.symm)
  cases h
theorem mem_find {l : List String} {q : String → Bool} {n : String} (h : l.find? q = some n) : n ∈ l ∧ q n = true := ⟨List.mem_of_find?_eq_some h, List.find?_some h⟩
theorem compTy_ok (cx : CxOk X W G k C) {t : Sum String Str} (h : compTy C e = some t) : ∃ p, e = .Name (tName t) p ∧ TOk X C.T t := by
  cases e with
  | Name x p =>
    simp only [compTy] at h
    split at h
    · rename_i hg
      split at h
      · rename_i hc
        cases h
        exact ⟨p, rfl, cx.gl hg, hc⟩
      · split at h
        · rename_i n hn
          split at h
          · rename_i hf
            cases h
            obtain ⟨h1, h2⟩ := mem_find hn
            have e1 : Str.ofString n = x := by simpa using h2
            refine ⟨p, by rw [← e1]; rfl, ?_, h1, ?_⟩
            · show Gl X (Str.ofString n); rw [e1]; exact cx.gl hg
            · show X.mg (Str.ofString n) = none; rw [e1]; exact cx.x.wf.free x hf
          · cases h
        · cases h
    · cases h
  | _ => cases h
theorem rg_args {n : Nat} {g : Expr → Option IE} (cx : CxOk X W G k C) (ih : ∀ e ie, g e = some ie → PE X e (tE X W (ev G n ie))) {rs : List Expr} {l : List IE} (h : isRange C e = some rs) (hl : rs.length = 1 ∨ rs.length = 2) (hm : mapO g rs = some l) : PRg X e (tRg X W (evs (ev G n) l)) ∧ starless e = true := by
  cases e with
  | Call fn args kws pos =>
    cases fn with
    | Name y p =>
      cases kws with
      | nil =>
        simp only [isRange] at h
        split at h
        · rename_i hx
          cases h
          obtain ⟨rfl, hf, hs⟩ := hx
          obtain ⟨hg, hmn⟩ := cx.free hf
          refine ⟨?_, rfl⟩
          have len := mapO_len hm
          match rs, l, hm, hs, hl, len with
          | [a], [u], hl2, hs, _, _ =>
            have ha : starless a = true := by simpa using hs
            simp only [mapO] at hl2
            split at hl2
            · rename_i u' hu; cases hl2; exact sR_1 hg hmn ha (ih a u hu)
            · cases hl2
          | [a, b], [u, v], hl2, hs, _, _ =>
            have ha : starless a = true ∧ starless b = true := by simpa using hs
            simp only [mapO] at hl2
            split at hl2
            · rename_i u' hu
              split at hl2
              · rename_i v' hv
                split at hv
                · rename_i w hw; cases hv; cases hl2; exact sR_2 hg hmn ha.1 ha.2 (ih a u hu) (ih b v hw)
                · cases hv
              · cases hl2
            · cases hl2
        · cases h
      | cons => simp [isRange] at h
    | _ => cases kws <;> simp [isRange] at h
  | _ => simp [isRange] at h
theorem blk_kind {N : List Str} {sc scope : Scope} {own : List (Str × Nat)} (h : blkC N sc scope own = true) : scope.kind = .function := (blkOk_by h).kind
theorem ds_ok {n : Nat} {g : Nat → Expr → Option IE} (ih : ∀ m e ie, g m e = some ie → PE X e (tE X W (ev G n ie))) {tk : Str → Nat} : ∀ {keys : List (Option Expr)} {vals : List Expr} {zs : List Str} {es : List IE}, compDs g tk keys vals = some (zs, es) → DPs X W pos keys vals zs (evs (ev G n) es)
  | [], [], _, _, h => by cases h; exact dps_nil
  | [], _ :: _, _, _, h => by cases h
  | _ :: _, [], _, _, h => by cases h
  | q :: ks, v :: vs, _, _, h => by
    simp only [compDs] at h
    split at h
    · rename_i z hz
      split at h
      · rename_i u hu
        split at h
        · rename_i zs es hr
          cases h
          have e1 : ∃ j p, q = some (.Constant (.str z) j p) := by
            unfold keyStr at hz
            split at hz
            · cases hz; exact ⟨_, _, rfl⟩
            · cases hz
          obtain ⟨j, p, rfl⟩ := e1
          exact dps_cons (ih _ v u hu) (ds_ok ih hr)
        · cases h
      · cases h
    · cases h
/-- the sound translation -/
def SndE (f : Nat) : Prop := ∀ (X : Cx) (W : WX) (G : Wr) (k : Nat) (C : Ctx) (m : Nat) (e : Expr) (ie : IE) (n : Nat), CxOk X W G k C → compE f C m e = some ie → PE X e (tE X W (ev G n ie))
def SndT (f : Nat) : Prop := ∀ (X : Cx) (W : WX) (G : Wr) (k : Nat) (C : Ctx) (e : Expr) (ie : IE) (n : Nat), CxOk X W G k C → compT f C e = some ie → PT X e (tT X W (evT G n ie))
theorem ev0 (ie : IE) : ev G 0 ie = fun _ _ => .no := rfl
/-- a call by a global's name -/
theorem call_snd {f n m : Nat} {args : List Expr} {ie : IE} (ihE : SndE f) (cx : CxOk X W G k C) (hs : args.all starless = true) (hg : C.gl x = true) (hd : noDbg x = true)
    (h : (if x ∈ C.T.cats then (match args with
              | .Lambda prm bd sc _ :: as => if isNoArgs prm = true ∧ LamX.lamSB C.sc sc = true ∧ (C.nm == ("" : Str)) = false then (match mapO (compE f C 0) as with
                | some zs => (compE f (C.lam sc) 0 bd).map (.lam (C.T.lams.idxOf C.nm) C.nm x zs)
                | none => none) else none
              | _ => none)
            else if x ∈ C.T.fns then (mapO (compE f C 0) args).map (.call x)
            else if x ∈ C.T.cls then (mapO (compE f C 0) args).map (.make x)
            else if x ∈ C.T.free then (match args with
              | [a] => match isRange C a with
                | some rs => if rs.length = 1 ∨ rs.length = 2 then (if x = "list" then (mapO (compE f C 0) rs).map (.rngs true (m == 1)) else if x = "tuple" then (mapO (compE f C 0) rs).map (.rngs false false) else none) else none
                | none => if m = 1 then (if x = "list" then (compE f C 0 a).map .lstm else none) else match biOf x with
                  | some b => (compE f C 0 a).map (.bi b)
                  | none => none
              | [a, t] => if x = "min" ∨ x = "max" then (match compE f C 0 a with
                | some y => match compE f C 0 t with
                  | some z => some (.mm (x == "max") y z)
                  | none => none
                | none => none) else if x = "isinstance" then (match compE f C 0 a with
                | some y => match compTy C t with
                  | some z => some (.isi y [z])
                  | none => none
                | none => none) else none
              | _ => none)
            else none) = some ie) : PE X (.Call (.Name x p) args [] pos) (tE X W (ev G (n + 1) ie)) := by
  have hdb := (noDbg_ok hd).1
  have ih : ∀ e ie, compE f C 0 e = some ie → PE X e (tE X W (ev G n ie)) := fun e ie h => ihE X W G k C 0 e ie n cx h
  split at h
  · rename_i hx
    split at h
    · rename_i prm bd sc lpos as
      split at h
      · rename_i hh
        obtain ⟨h1, h2, h3⟩ := hh
        split at h
        · rename_i zs hz
          obtain ⟨u, hu, rfl⟩ := opt_map h
          have e1 := isNoArgs_ok h1
          subst e1
          have hs2 : as.all starless = true := by
            have q := hs
            simp only [List.all_cons, Bool.and_eq_true] at q
            exact q.2
          have L : LamX.LamS X.env.scope sc := by
            rw [cx.sc]
            exact LamX.lamS_by h2
          exact sE_lam (fb := fun G' => ev G' n u) cx.x (cx.cod h3) hx (cx.gl hg) hdb hs2 (args_ok ih hs2 hz) L fun lo j A outer s2 H2 E f' d w rm gd => ihE _ _ _ j _ 0 bd u n (cx.lam w L A outer s2 H2 E f' d rm gd) hu
        · cases h
      · cases h
    · cases h
  split at h
  · rename_i hx
    obtain ⟨l, hl, rfl⟩ := opt_map h
    exact sE_call cx.x hx (cx.gl hg) hdb hs (args_ok ih hs hl) (args_nil' hl)
  · split at h
    · rename_i hx
      obtain ⟨l, hl, rfl⟩ := opt_map h
      exact sE_make cx.x hx (cx.gl hg) hdb hs (args_ok ih hs hl) (args_nil' hl)
    · split at h
      · rename_i hx
        have hmn := cx.x.wf.free x hx
        split at h
        · rename_i a
          have ha : starless a = true := by simpa using hs
          split at h
          · rename_i rs hr
            split at h
            · rename_i hl
              split at h
              · rename_i e1
                subst e1
                obtain ⟨l, hl2, rfl⟩ := opt_map h
                obtain ⟨pr, hsa⟩ := rg_args cx ih hr hl hl2
                exact sE_lrg cx.x.calm (cx.gl hg) hmn hsa pr
              · split at h
                · rename_i e1
                  subst e1
                  obtain ⟨l, hl2, rfl⟩ := opt_map h
                  obtain ⟨pr, hsa⟩ := rg_args cx ih hr hl hl2
                  exact sE_trg cx.x.calm (cx.gl hg) hmn hsa pr
                · cases h
            · cases h
          · split at h
            · split at h
              · rename_i e1
                subst e1
                obtain ⟨u, hu, rfl⟩ := opt_map h
                exact sE_lstm (cx.gl hg) hmn ha (ih a u hu)
              · cases h
            · split at h
              · rename_i b hb
                obtain ⟨u, hu, rfl⟩ := opt_map h
                have e1 := biOf_ok hb
                subst e1
                exact sE_bi cx.x b (cx.gl hg) hmn ha (ih a u hu)
              · cases h
        · rename_i a t
          have ha : starless a = true ∧ starless t = true := by simpa using hs
          split at h
          · rename_i e1
            split at h
            · rename_i u hu
              split at h
              · rename_i v hv
                cases h
                rcases e1 with e1 | e1
                · subst e1
                  exact sE_mm false rfl cx.x.calm (cx.gl hg) hmn ha.1 ha.2 (ih a u hu) (ih t v hv)
                · subst e1
                  exact sE_mm true rfl cx.x.calm (cx.gl hg) hmn ha.1 ha.2 (ih a u hu) (ih t v hv)
              · cases h
            · cases h
          split at h
          · rename_i e1
            subst e1
            split at h
            · rename_i u hu
              split at h
              · rename_i z hz
                cases h
                obtain ⟨p2, rfl, tk⟩ := compTy_ok cx hz
                exact sE_isi1 cx.x tk (cx.gl hg) hmn ha.1 (ih a u hu)
              · cases h
            · cases h
          · cases h
        · cases h
      · cases h
theorem compI_seq {g : Expr → Option IE} {tg it : Expr} {e' : IE} (h : compI C g tg it = some (.seq, [e'])) : g it = some e' := by
  have fin : ∀ {o : Option IE}, (o.map fun e => ((SrcK.seq, [e]) : SrcK × List IE)) = some (.seq, [e']) → o = some e' := fun {o} h => by
    cases o with
    | none => cases h
    | some a => cases h; rfl
  unfold compI at h
  split at h
  · split at h
    · split at h
      · obtain ⟨_, _, z⟩ := opt_map h; cases z
      · cases h
    · split at h
      · split at h
        · obtain ⟨_, _, z⟩ := opt_map h; cases z
        · cases h
      · split at h
        · split at h
          · obtain ⟨_, _, z⟩ := opt_map h; cases z
          · cases h
        · exact fin h
  · split at h
    · exact fin h
    · cases h
theorem mk_snd {E : Expr} {n : Nat} {m : Bool} {x' : IE} {t : Tg} {kk : SrcK} {args : List IE} {ifs : Option IE} {own : List Nat} (z : PE X E (tE X W (ev G (n + 1) (.comp m x' t kk args ifs own)))) (zq : ∀ e', kk = .seq → args = [e'] → PE X E (tE X W (ev G (n + 1) (.compQ m x' t e' ifs own)))) :
    PE X E (tE X W (ev G (n + 1) (mkComp C m x' t kk args ifs own))) := by
  unfold mkComp
  split
  · split
    · exact zq _ rfl rfl
    · exact z
  · exact z
/-- a call of an attribute -/
theorem meth_snd {f n : Nat} {args : List Expr} {mm : Str} {ie : IE} (ihE : SndE f) (cx : CxOk X W G k C)
    (h : (match (match o with
              | .Name c _ => if (c, mm) ∈ C.T.cms ∧ C.gl c = true ∧ noDbg c = true then some c else none
              | _ => none) with
            | some c => (mapO (compE f C 0) args).map (.cmeth c mm)
            | none => match compE f C 0 o with
              | some y => match mapO (compE f C (argM C o mm)) args with
                | some zs => match args with
                  | [_] => if mm = "append" then some (.bm .append y zs) else if mm = "extend" then some (.bm .extend y zs) else if mm = "pop" then some (.bm (if popL C o = true then .popl else .pop1) y zs) else if mm = "split" then (match zs with
                    | [z] => some (.spl y z)
                    | _ => none) else if mm = "update" then (match zs with
                    | [z] => some (.upd y z)
                    | _ => none) else if mm = "get" then (match zs with
                    | [z] => some (.bm .get2 y [z, .c .non])
                    | _ => none) else some (.meth y mm zs)
                  | [_, _] => if mm = "get" then some (.bm .get2 y zs) else some (.meth y mm zs)
                  | _ => some (.meth y mm zs)
                | none => none
              | none => none) = some ie) (hs : args.all starless = true) (ho : superless o = true) (hp : apos.endLine = pos.line) (hl : args.length < 30) : PE X (.Call (.Attribute o mm apos) args [] pos) (tE X W (ev G (n + 1) ie)) := by
  have ih : ∀ e ie, compE f C 0 e = some ie → PE X e (tE X W (ev G n ie)) := fun e ie h => ihE X W G k C 0 e ie n cx h
  have ihm : ∀ m e ie, compE f C m e = some ie → PE X e (tE X W (ev G n ie)) := fun m e ie h => ihE X W G k C m e ie n cx h
  have hpb : (apos.endLine == pos.line) = true := by simpa using hp
  split at h
  · rename_i c hc
    obtain ⟨l, hl2, rfl⟩ := opt_map h
    cases o with
    | Name c' q =>
      simp only at hc
      split at hc
      · rename_i hh
        cases hc
        exact sE_cmeth cx.x hh.1 (cx.gl hh.2.1) (noDbg_ok hh.2.2).1 hl hpb hs (args_ok ih hs hl2) (args_nil' hl2)
      · cases hc
    | _ => cases hc
  · split at h
    · rename_i y hy
      split at h
      · rename_i zs hz
        have hme : PE X (.Call (.Attribute o mm apos) args [] pos) (tE X W (ev G (n + 1) (.meth y mm zs))) := sE_meth cx.x hl ho hpb hs (ih o y hy) (args_ok (ihm _) hs hz) (args_nil' hz)
        cases args with
        | nil => cases h; exact hme
        | cons a r =>
          cases r with
          | nil =>
            have ha : starless a = true := by simpa using hs
            simp only [mapO] at hz
            split at hz
            · rename_i u hu
              cases hz
              simp only at h
              split at h
              · rename_i e1; subst e1; cases h; exact sM_append ho hpb ha (ih o y hy) (ihm _ a u hu)
              · split at h
                · rename_i e1; subst e1; cases h; exact sM_extend ho hpb ha (ih o y hy) (ihm _ a u hu)
                · split at h
                  · rename_i e1; subst e1; cases h
                    cases popL C o with
                    | true => exact sM_popl ho hpb ha (ih o y hy) (ihm _ a u hu)
                    | false => exact sM_pop cx.x.room ho hpb ha (ih o y hy) (ihm _ a u hu)
                  split at h
                  · rename_i e1; subst e1; cases h; exact sE_spl ho hpb ha (ih o y hy) (ihm _ a u hu)
                  · split at h
                    · rename_i e1; subst e1; cases h; exact sM_update ho hpb ha (ih o y hy) (ihm _ a u hu)
                    · split at h
                      · rename_i e1; subst e1; cases h
                        cases n with
                        | zero => exact PE_no
                        | succ n => exact sM_get1 cx.x.room ho hpb ha (ih o y hy) (ihm _ a u hu)
                      · cases h; exact hme
            · cases hz
          | cons b r2 =>
            cases r2 with
            | cons => cases h; exact hme
            | nil =>
              have ha : starless a = true ∧ starless b = true := by simpa using hs
              simp only [mapO] at hz
              split at hz
              · rename_i u hu
                split at hz
                · rename_i v' hv
                  split at hv
                  · rename_i v hv2
                    cases hv; cases hz
                    simp only at h
                    split at h
                    · rename_i e1; subst e1; cases h; exact sM_get cx.x.room ho hpb ha.1 ha.2 (ih o y hy) (ihm _ a u hu) (ihm _ b v hv2)
                    · cases h; exact hme
                  · cases hv
                · cases hz
              · cases hz
      · cases h
    · cases h
theorem wkOf_ok (cx : CxOk X W G k C) {i : Nat} (h : wkOf C e = some i) : ∃ y p, e = .Name y p ∧ X.N[i]? = some y ∧ Vis X.env.scope y ∧ (y == ("__debug__" : Str)) = false ∧ (y == ("__classdict__" : Str)) = false := by
  cases e with
  | Name y p =>
    simp only [wkOf] at h
    split at h
    · rename_i hh
      obtain ⟨d1, d2⟩ := noDbg_ok hh.2.2
      exact ⟨y, p, rfl, cx.ix h, cx.vis hh.2.1, d1, d2⟩
    · cases h
  | _ => cases h
theorem lookup_memD {l : List (Str × D)} {d : D} (h : l.lookup x = some d) : (x, d) ∈ l := PySem.mem_of_lookup h
end
end SI
end
section
set_option Elab.async false
set_option linter.all false
set_option maxRecDepth 100000
set_option maxHeartbeats 4000000
/-! SI19: expressions, the theorem. -/
namespace SI
open PySem PySem.Spec PyProof.Rows L2

theorem cmp_ok' {X : Cx} {W : WX} {G : Wr} {k : Nat} {C : Ctx} {g : Expr → Option IE} {a : Expr} {pos : Pos} (cx : CxOk X W G k C) {n : Nat} (ih : ∀ e ie, g e = some ie → PE X e (tE X W (ev G n ie))) {ops : List CmpOp} {bs : List Expr} {ie : IE} (h : compC g a ops bs = some ie) :
    PE X (.Compare a ops bs pos) (tE X W (ev G (n + 1) ie)) := by
  unfold compC at h
  split at h
  · rename_i o b
    split at h
    · rename_i hs
      split at h
      · rename_i u hu
        split at h
        · rename_i v hv
          cases h
          have z := sE_cmp (pos := pos) cx.x.room (op := copOf o) hs (ih a u hu) (ih b v hv)
          rw [cop_ok] at z
          exact z
        · cases h
      · cases h
    · cases h
  · rename_i o o2 b c
    split at h
    · rename_i hs
      split at h
      · rename_i u hu
        split at h
        · rename_i v hv
          split at h
          · rename_i w hw
            cases h
            have z := sE_chain (pos := pos) cx.x.room (op := copOf o) (op' := copOf o2) (ih a u hu) (ih b v hv) (ih c w hw) hs.1 hs.2
            rw [cop_ok, cop_ok] at z
            exact z
          · cases h
        · cases h
      · cases h
    · cases h
  · cases h
theorem PT_no' {X : Cx} {W : WX} {e : Expr} {f : Nv → Hs → Res Bool} (h : ∀ env hh, f env hh = .no) : PT X e (tT X W f) := ⟨fun pn s sg H Q I ⟨O, env, hh, eo, S, w⟩ => by rw [h] at w; exact w.elim⟩
theorem cmpT_ok {X : Cx} {W : WX} {G : Wr} {k : Nat} {C : Ctx} {g : Expr → Option IE} {a : Expr} {pos : Pos} (cx : CxOk X W G k C) {n : Nat} (ih : ∀ e ie n, g e = some ie → PE X e (tE X W (ev G n ie))) {ops : List CmpOp} {bs : List Expr} {ie : IE} (h : compC g a ops bs = some ie) :
    PT X (.Compare a ops bs pos) (tT X W (evT G (n + 1) ie)) := by
  unfold compC at h
  split at h
  · rename_i o b
    split at h
    · rename_i hs
      split at h
      · rename_i u hu
        split at h
        · rename_i v hv
          cases h
          cases n with
          | zero => exact PT_no' fun _ _ => rfl
          | succ n =>
            have z := sT_cmp (pos := pos) cx.x.room (op := copOf o) hs (ih a u n hu) (ih b v n hv)
            rw [cop_ok] at z
            exact z
        · cases h
      · cases h
    · cases h
  · rename_i o o2 b c
    split at h
    · rename_i hs
      split at h
      · rename_i u hu
        split at h
        · rename_i v hv
          split at h
          · rename_i w hw
            cases h
            cases n with
            | zero => exact PT_no' fun _ _ => rfl
            | succ n =>
              have z := sT_chain (pos := pos) (op := copOf o) (op' := copOf o2) cx.x.room (ih a u n hu) (ih b v n hv) (ih c w n hw) hs.1 hs.2
              rw [cop_ok, cop_ok] at z
              exact z
          · cases h
        · cases h
      · cases h
    · cases h
  · cases h
theorem snd_T {f : Nat} (ihE : SndE f) (ihT : SndT f) : SndT (f + 1) := by
  intro X W G k C e ie n cx h
  have ev1 : ∀ e ie n, compE f C 0 e = some ie → PE X e (tE X W (ev G n ie)) := fun e ie n h => ihE X W G k C 0 e ie n cx h
  have tv1 : ∀ n e ie, compT f C e = some ie → PT X e (tT X W (evT G n ie)) := fun n e ie h => ihT X W G k C e ie n cx h
  cases n with
  | zero => exact PT_no
  | succ n =>
    have val : plainT e = true → (compE f C 0 e).map IE.val = some ie → PT X e (tT X W (evT G (n + 1) ie)) := fun hp h => by
      obtain ⟨u, hu, rfl⟩ := opt_map h
      cases n with
      | zero => exact PT_no' fun _ _ => rfl
      | succ n => exact sT_val hp (ev1 e u n hu)
    cases e with
    | UnaryOp op a pos =>
      cases op with
      | Not =>
        simp only [compT] at h
        obtain ⟨u, hu, rfl⟩ := opt_map h
        exact sT_not (tv1 n a u hu)
      | USub =>
        simp only [compT] at h
        exact val rfl h
      | UAdd =>
        simp only [compT] at h
        exact val rfl h
      | Invert =>
        simp only [compT] at h
        exact val rfl h
    | BoolOp op vs pos =>
      simp only [compT] at h
      exact (boolT tv1 (n + 1) h).pt
    | Compare a ops bs pos =>
      simp only [compT] at h
      exact cmpT_ok cx ev1 h
    | IfExp => simp [compT] at h
    | _ =>
      simp only [compT] at h
      split at h
      · exact val rfl h
      · cases h
theorem snd_E {f : Nat} (ihE : SndE f) (ihT : SndT f) : SndE (f + 1) := by
  intro X W G k C m e ie n cx h
  have ih0 : ∀ n m e ie, compE f C m e = some ie → PE X e (tE X W (ev G n ie)) := fun n m e ie h => ihE X W G k C m e ie n cx h
  cases n with
  | zero => exact PE_no
  | succ n =>
    have ih : ∀ e ie, compE f C 0 e = some ie → PE X e (tE X W (ev G n ie)) := fun e ie h => ih0 n 0 e ie h
    cases e with
    | Constant c j pos =>
      simp only [compE] at h
      cases c <;> first | (cases h; first | exact sE_int | exact sE_bl | exact sE_str | exact sE_non) | cases h
    | Name x pos =>
      simp only [compE] at h
      split at h
      · rename_i hd
        obtain ⟨d1, d2⟩ := noDbg_ok hd
        split at h
        · rename_i hv
          obtain ⟨i, hi, rfl⟩ := opt_map h
          exact sE_var (cx.ix hi) (cx.vis hv) d1 d2
        · split at h
          · rename_i hg
            obtain ⟨d, hl, rfl⟩ := opt_map h
            exact sE_glob (cx.gl hg) d1 (cx.x.wf.cst _ (lookup_memD hl))
          · cases h
      · cases h
    | Tuple es j pos =>
      simp only [compE] at h
      split at h
      · rename_i hh
        obtain ⟨l, hl, rfl⟩ := opt_map h
        exact sE_tup (fun env h ds h' er => by rw [evs_len er, ← consO_len hl]; exact hh.2) (args_okC (fun e ie h => ih0 n _ e ie h) ih hh.1 hl)
      · cases h
    | List es pos =>
      simp only [compE] at h
      split at h
      · rename_i hh
        obtain ⟨l, hl, rfl⟩ := opt_map h
        exact sE_lst (fun env h ds h' er => by rw [evs_len er, ← mapO_len hl]; exact hh.2) (args_ok (fun e ie h => ihE X W G k C _ e ie n cx h) hh.1 hl)
      · cases h
    | BinOp a op b pos =>
      simp only [compE] at h
      split at h
      · rename_i o ho
        split at h
        · rename_i u hu
          split at h
          · rename_i v hv
            cases h
            by_cases hm : m = 1
            · rw [if_pos hm]
              have z := sE_binm (op := o) (pos := pos) (ih a u hu) (ih b v hv)
              rw [bop_ok ho] at z
              exact z
            · rw [if_neg hm]
              have z := sE_bin (op := o) (pos := pos) (ih a u hu) (ih b v hv)
              rw [bop_ok ho] at z
              exact z
          · cases h
        · cases h
      · cases h
    | UnaryOp op a pos =>
      simp only [compE] at h
      split at h
      · obtain ⟨u, hu, rfl⟩ := opt_map h
        exact sE_neg (ih a u hu)
      · obtain ⟨u, hu, rfl⟩ := opt_map h
        exact sE_not (ih a u hu)
      · cases h
    | BoolOp op vs pos =>
      simp only [compE] at h
      exact boolE (fun n e ie h => ih0 n 0 e ie h) (n + 1) h
    | Compare a ops bs pos =>
      simp only [compE] at h
      exact cmp_ok' cx ih h
    | IfExp c a b pos =>
      simp only [compE] at h
      split at h
      · rename_i w hw
        split at h
        · rename_i u hu
          split at h
          · rename_i v hv
            cases h
            exact sE_ife (ihT X W G k C c w n cx hw) (ih a u hu) (ih b v hv)
          · cases h
        · cases h
      · cases h
    | Attribute o g pos =>
      simp only [compE] at h
      split at h
      · rename_i hh
        obtain ⟨u, hu, rfl⟩ := opt_map h
        exact sE_fld cx.x hh.2 hh.1 (ih o u hu)
      · cases h
    | Subscript o i pos =>
      simp only [compE] at h
      split at h
      · rename_i lo hi st p2
        split at h
        · split at h
          · rename_i u hu
            split at h
            · rename_i l hl
              split at h
              · rename_i r hr
                cases h
                by_cases hm : m = 1
                · rw [if_pos hm]
                  exact sE_slm (ih o u hu) (compO_ok ih hl) (compO_ok ih hr)
                · rw [if_neg hm]
                  exact sE_sl (ih o u hu) (compO_ok ih hl) (compO_ok ih hr)
              · cases h
            · cases h
          · cases h
        · cases h
      · split at h
        · rename_i hs
          split at h
          · rename_i u hu
            split at h
            · rename_i v hv
              cases h
              exact sE_ix cx.x hs (ih o u hu) (ih i v hv)
            · cases h
          · cases h
        · cases h
    | ListComp elt gens scope pos =>
      simp only [compE] at h
      split at h
      · rename_i tg iter ifs as
        split at h
        · rename_i hh
          obtain ⟨rfl, hs, hb⟩ := hh
          split at h
          · rename_i j0 hj0
            split at h
            · rename_i t ht
              split at h
              · rename_i hj
                split at h
                · rename_i u hu
                  have ok : BlkOk X.N X.env.scope scope (ownOf C.N scope) := by
                    rw [cx.N, cx.sc]; exact blkOk_by hb
                  have hsub : ∀ j ∈ ids t, j ∈ (ownOf C.N scope).map (·.2) := fun j hj' => by
                    have := List.all_eq_true.mp hj j hj'
                    simpa using this
                  have cb : ∀ (s : Shared) (H : Hp) (Ca : Addr) (cl : List (Str × Addr)) (fp : List Addr), CxOk (X.blk s H scope (compEnvC scope cl Ca X.env) fp) W0 G k (C.blk scope) := fun s H Ca cl fp => cx.blk s H scope cl Ca fp (blk_kind hb)
                  obtain ⟨y, py, rfl, hix, hvis, hd1, hd2⟩ := wkOf_ok cx hj0
                  split at h
                  · cases h
                    have z := sE_compK (k := k) (T := C.T) (W := W) (G := G) (mm := m == 1) (p := py) (pos := pos) (tg := t) (ft := fun _ h => .ok true h) (fe := ev G n u) cx.x hix hvis hd1 hd2 ok
                      (fun s H Ca cl fp => compTg_ok (cb s H Ca cl fp) f tg t ht) (fun s H Ca cl fp => ts_nil (W := W0)) (fun s H Ca cl fp => ihE _ _ G k _ 0 elt u n (cb s H Ca cl fp) hu) hsub
                    exact z
                  · rename_i c
                    split at h
                    · rename_i v hv
                      cases h
                      have z := sE_compK (k := k) (T := C.T) (W := W) (G := G) (mm := m == 1) (p := py) (pos := pos) (tg := t) (ft := evT G n v) (fe := ev G n u) cx.x hix hvis hd1 hd2 ok
                        (fun s H Ca cl fp => compTg_ok (cb s H Ca cl fp) f tg t ht) (fun s H Ca cl fp => pts_one (ihT _ _ G k _ c v n (cb s H Ca cl fp) hv)) (fun s H Ca cl fp => ihE _ _ G k _ 0 elt u n (cb s H Ca cl fp) hu) hsub
                      exact z
                    · cases h
                  · cases h
                · cases h
              · cases h
            · cases h
          · split at h
            · rename_i kS args hi
              split at h
              · rename_i t ht
                split at h
                · rename_i hj
                  split at h
                  · rename_i u hu
                    have ok : BlkOk X.N X.env.scope scope (ownOf C.N scope) := by
                      rw [cx.N, cx.sc]; exact blkOk_by hb
                    have hsub : ∀ j ∈ ids t, j ∈ (ownOf C.N scope).map (·.2) := fun j hj' => by
                      have := List.all_eq_true.mp hj j hj'
                      simpa using this
                    have cb : ∀ (s : Shared) (H : Hp) (Ca : Addr) (cl : List (Str × Addr)) (fp : List Addr), CxOk (X.blk s H scope (compEnvC scope cl Ca X.env) fp) W0 G k (C.blk scope) := fun s H Ca cl fp => cx.blk s H scope cl Ca fp (blk_kind hb)
                    split at h
                    · cases h
                      obtain ⟨_, pe, rfl, im⟩ := sE_comp (k := k) (T := C.T) (W := W) (G := G) (mm := isM m) (pos := pos) (tg := t) (ft := fun _ h => .ok true h) (fe := ev G n u) cx.x (compI_ok cx ih hi) ok
                        (fun s H Ca cl fp => compTg_ok (cb s H Ca cl fp) f tg t ht) (fun s H Ca cl fp => ts_nil (W := W0)) (fun s H Ca cl fp => ihE _ _ G k _ _ elt u n (cb s H Ca cl fp) hu) hs hsub
                      refine mk_snd (PE.weak pe im) fun e' hk ha => ?_
                      subst hk ha
                      exact PE.weak (pe_lc cx.x.calm cx.x.nd (pi_Q (compI_ok cx ih hi) (ih _ e' (compI_seq hi))) ok (fun s H Ca cl fp => compTg_ok (cb s H Ca cl fp) f tg t ht) (fun s H Ca cl fp => ts_nil (W := W0)) (fun s H Ca cl fp => ihE _ _ G k _ _ elt u n (cb s H Ca cl fp) hu) (fold_set hs X.env)) (compQ_im hsub (fun _ _ => rfl) im)
                    · rename_i c
                      split at h
                      · rename_i v hv
                        cases h
                        obtain ⟨_, pe, rfl, im⟩ := sE_comp (k := k) (T := C.T) (W := W) (G := G) (mm := isM m) (pos := pos) (tg := t) (ft := evT G n v) (fe := ev G n u) cx.x (compI_ok cx ih hi) ok
                          (fun s H Ca cl fp => compTg_ok (cb s H Ca cl fp) f tg t ht) (fun s H Ca cl fp => pts_one (ihT _ _ G k _ c v n (cb s H Ca cl fp) hv)) (fun s H Ca cl fp => ihE _ _ G k _ _ elt u n (cb s H Ca cl fp) hu) hs hsub
                        refine mk_snd (PE.weak pe im) fun e' hk ha => ?_
                        subst hk ha
                        exact PE.weak (pe_lc cx.x.calm cx.x.nd (pi_Q (compI_ok cx ih hi) (ih _ e' (compI_seq hi))) ok (fun s H Ca cl fp => compTg_ok (cb s H Ca cl fp) f tg t ht) (fun s H Ca cl fp => pts_one (ihT _ _ G k _ c v n (cb s H Ca cl fp) hv)) (fun s H Ca cl fp => ihE _ _ G k _ _ elt u n (cb s H Ca cl fp) hu) (fold_set hs X.env)) (compQ_im hsub (fun _ _ => rfl) im)
                      · cases h
                    · cases h
                  · cases h
                · cases h
              · cases h
            · cases h
        · cases h
      · cases h
    | Dict keys vals pos =>
      simp only [compE] at h
      split at h
      · split at h
        · cases h
          have z := sE_dic (X := X) (W := W) (pos := pos) (t := m == 2)
          exact z
        · cases h
      · rename_i hne
        split at h
        · split at h
          · rename_i k1 v1 _
            split at h
            · rename_i u hu
              split at h
              · rename_i w hw
                cases h
                exact sE_dic1 (by have := cx.x.room.units; omega) (ih _ u hu) (ih _ w hw)
              · cases h
            · cases h
          · cases h
        split at h
        · rename_i zs es hd
          split at h
          · rename_i hh
            cases h
            exact sE_dicd (ds_ok (fun m e ie h => ih0 n m e ie h) hd) (fun z => hne z) hh.1 hh.2
          · cases h
        · cases h
    | Call fn args kws pos =>
      simp only [compE] at h
      split at h
      · split at h
        · rename_i hs
          split at h
          · rename_i x p
            split at h
            · rename_i hh
              exact call_snd ihE cx hs hh.1 hh.2 h
            · split at h
              · rename_i hh
                obtain ⟨d1, d2⟩ := noDbg_ok hh.2
                split at h
                · rename_i i hi
                  obtain ⟨l, hl, rfl⟩ := opt_map h
                  exact sE_callv cx.x (cx.ix hi) (cx.vis hh.1) d1 d2 hs (args_ok ih hs hl) (args_nil' hl)
                · cases h
              · cases h
          · rename_i o mm apos
            split at h
            · rename_i hh
              exact meth_snd ihE cx h hs hh.1 hh.2.1 hh.2.2
            · cases h
          · cases h
        · cases h
      · cases h
    | _ => simp [compE] at h
end SI
end
section
set_option Elab.async false
set_option linter.all false
set_option maxRecDepth 100000
set_option maxHeartbeats 4000000
/-! SI20: statements keep to the text. -/
namespace SI
open PySem PySem.Spec PyProof.Rows L2

theorem snd_all : ∀ f, SndE f ∧ SndT f
  | 0 => ⟨fun X W G k C m e ie n cx h => by simp [compE] at h, fun X W G k C e ie n cx h => by simp [compT] at h⟩
  | f + 1 => ⟨snd_E (snd_all f).1 (snd_all f).2, snd_T (snd_all f).1 (snd_all f).2⟩
section
variable {X : Cx} {W : WX} {G : Wr} {k : Nat} {C : Ctx} {a b c e o i : Expr} {es : List Expr} {x : Str} {pos p apos : Pos}
theorem CxOk.E (cx : CxOk X W G k C) {f m n : Nat} {ie : IE} (h : compE f C m e = some ie) : PE X e (tE X W (ev G n ie)) := (snd_all f).1 X W G k C m e ie n cx h
theorem CxOk.T (cx : CxOk X W G k C) {f n : Nat} {ie : IE} (h : compT f C e = some ie) : PT X e (tT X W (evT G n ie)) := (snd_all f).2 X W G k C e ie n cx h
theorem sw_is {elt : Expr} {gs : List Comprehension} {scope : Scope} {y : Str} {py : Pos} {l : Nat} {env : PySem.Env} (hk : env.scope.kind = .function) :
    swapsWith (.ListComp elt gs scope pos) (some (.Name y py)) l env = pure (swB env.scope y py scope pos) := by
  have hb : env.blockKind = .function := by unfold Env.blockKind; rw [hk]; rfl
  unfold swapsWith
  simp only [hb]
  rfl
theorem sole (t e : Expr) (l : Nat) (env : PySem.Env) : swapsWithSole [t] e l env = swapsWith e (some t) l env := rfl
theorem PS_no {st : Stmt} {f : Nv → Hs → SRes} (h : ∀ env hh, f env hh = .no) : PS X st (tS X W f) := ⟨fun pn s sg H Dn I ⟨O, env, hh, eo, S, w⟩ => by rw [h] at w; exact w.elim⟩
theorem PSs_no {st : List Stmt} {f : Nv → Hs → SRes} (h : ∀ env hh, f env hh = .no) : PSs X st (tS X W f) := ⟨fun pn s sg H Dn I ⟨O, env, hh, eo, S, w⟩ => by rw [h] at w; exact w.elim⟩
/-- name = [.. for ..] -/
theorem setLc_snd {f n i : Nat} {elt : Expr} {gs : List Comprehension} {scope : Scope} {m : Nat} {ie : IE} {px : Pos} (cx : CxOk X W G k C) (ha : C.asn x = true) (hi : ixOf C.N x = some i) (h : compE f C m (.ListComp elt gs scope p) = some ie) :
    PS X (.Assign [.Name x px] (.ListComp elt gs scope p) pos) (tS X W (ex G (n + 1) (.set (.n i) ie))) := by
  cases hsw : swB X.env.scope x px scope p with
  | false =>
    exact sS_set (cx.E h) (sG_name cx.x.nd (cx.ix hi) (cx.asn ha).1 (cx.asn ha).2) (by rw [sole, sw_is cx.kind, hsw]) rfl rfl
  | true =>
    cases n with
    | zero => exact PS_no fun _ _ => rfl
    | succ n =>
    cases f with
    | zero => simp [compE] at h
    | succ f =>
      have hl : X.env.scope.names.lookup x = some .local := by
        unfold swB at hsw
        simp only [Bool.and_eq_true, beq_iff_eq] at hsw
        exact hsw.1.1
      simp only [compE] at h
      split at h
      · rename_i tg iter ifs as
        split at h
        · rename_i hh
          obtain ⟨rfl, hs, hb⟩ := hh
          split at h
          · rename_i j0 hj0
            split at h
            · rename_i t ht
              split at h
              · rename_i hj
                split at h
                · rename_i u hu
                  have ok : BlkOk X.N X.env.scope scope (ownOf C.N scope) := by
                    rw [cx.N, cx.sc]; exact blkOk_by hb
                  have hsub : ∀ j ∈ ids t, j ∈ (ownOf C.N scope).map (·.2) := fun j hj' => by
                    have := List.all_eq_true.mp hj j hj'
                    simpa using this
                  have cb : ∀ (s : Shared) (H : Hp) (Ca : Addr) (cl : List (Str × Addr)) (fp : List Addr), CxOk (X.blk s H scope (compEnvC scope cl Ca X.env) fp) W0 G k (C.blk scope) := fun s H Ca cl fp => cx.blk s H scope cl Ca fp (blk_kind hb)
                  obtain ⟨y, py, rfl, hix, hvis, hd1, hd2⟩ := wkOf_ok cx hj0
                  have go : ∀ {ft : Nv → Hs → Res Bool} (ht : ∀ (s : Shared) (H : Hp) (Ca : Addr) (cl : List (Str × Addr)) (fp : List Addr), PTs (X.blk s H scope (compEnvC scope cl Ca X.env) fp) ifs (tT X W0 ft)),
                      PS X (.Assign [.Name x px] (.ListComp elt [⟨tg, .Name y py, ifs, 0⟩] scope p) pos) (tS X W fun env h => (compKF t ft (ev G n u) ((ownOf C.N scope).map (·.2)) j0 (m == 1) env h).sbind env fun d h => .nx (env.set i (some d)) h) := fun {ft} hts => by
                    refine PS.weak (ps_lock (ps_setLc (g := gT X t) (tt := tT X W0 ft) (te := tE X W0 (ev G n u)) cx.x.calm cx.x.nd (cx.ix hi) hl (by rw [sw_is cx.kind, hsw]) (pi_keys (pe_var hix hvis hd1 hd2)) ok (fun s H Ca cl fp => compTg_ok (cb s H Ca cl fp) f tg t ht) hts (fun s H Ca cl fp => (cb s H Ca cl fp).E hu) (fold_set (e := .Name y py) rfl X.env))) fun Dn sg H ⟨O, env, h, eo, S, w⟩ => ?_
                    have z := compK_im (X := X) (W := W) (tg := t) (ft := ft) (fe := ev G n u) (mm := m == 1) (i := j0) (sg := sg) (H := H) (Q := fun v H1 => Dn.nx (sg.set i (some v)) H1) hsub ⟨O, env, h, eo, S, PostS.bind w eo fun d h1 O1 v H1 _ s1 S1 r1 p1 => p1 O1 _ H1 (Stp.refl _ _) S1 ((eo.stp s1).set i r1)⟩
                    exact z
                  split at h
                  · cases h
                    exact go (ft := fun _ h => .ok true h) fun s H Ca cl fp => ts_nil (W := W0)
                  · rename_i c
                    split at h
                    · rename_i v hv
                      cases h
                      exact go (ft := evT G n v) fun s H Ca cl fp => pts_one ((cb s H Ca cl fp).T hv)
                    · cases h
                  · cases h
                · cases h
              · cases h
            · cases h
          · split at h
            · rename_i kS args hi2
              split at h
              · rename_i t ht
                split at h
                · rename_i hj
                  split at h
                  · rename_i u hu
                    have ok : BlkOk X.N X.env.scope scope (ownOf C.N scope) := by
                      rw [cx.N, cx.sc]; exact blkOk_by hb
                    have hsub : ∀ j ∈ ids t, j ∈ (ownOf C.N scope).map (·.2) := fun j hj' => by
                      have := List.all_eq_true.mp hj j hj'
                      simpa using this
                    have cb : ∀ (s : Shared) (H : Hp) (Ca : Addr) (cl : List (Str × Addr)) (fp : List Addr), CxOk (X.blk s H scope (compEnvC scope cl Ca X.env) fp) W0 G k (C.blk scope) := fun s H Ca cl fp => cx.blk s H scope cl Ca fp (blk_kind hb)
                    have go : ∀ {ft : Nv → Hs → Res Bool} {io : Option IE} (ec : ∀ kq aq, ev G (n + 1) (.comp (isM m) u t kq aq io ((ownOf C.N scope).map (·.2))) = fun env h => reL (isM m) ((evs (ev G n) aq env h).bind fun ds h => (Res.of (srcD kq ds) h).bind fun xs h => if xs.length ≤ LINE then (compLoop (turnF t ft (ev G n u) (wipeE env ((ownOf C.N scope).map (·.2)))) xs h).bind fun ys h => .ok (.lst ys) h else .no))
                        (eq : ∀ e', ev G (n + 1) (.compQ (isM m) u t e' io ((ownOf C.N scope).map (·.2))) = compQF t ft (ev G n u) (ev G n e') ((ownOf C.N scope).map (·.2)) (isM m)) (ht : ∀ (s : Shared) (H : Hp) (Ca : Addr) (cl : List (Str × Addr)) (fp : List Addr), PTs (X.blk s H scope (compEnvC scope cl Ca X.env) fp) ifs (tT X W0 ft)),
                        PS X (.Assign [.Name x px] (.ListComp elt [⟨tg, iter, ifs, 0⟩] scope p) pos) (tS X W fun env h => (ev G (n + 1) (mkComp C (isM m) u t kS args io ((ownOf C.N scope).map (·.2))) env h).sbind env fun d h => .nx (env.set i (some d)) h) := fun {ft io} ec eq hts => by
                      obtain ⟨_, pe, rfl, im⟩ := sE_comp (k := k) (T := C.T) (W := W) (G := G) (mm := isM m) (pos := p) (tg := t) (ft := ft) (fe := ev G n u) cx.x (compI_ok cx (fun e ie h => cx.E h) hi2) ok
                        (fun s H Ca cl fp => compTg_ok (cb s H Ca cl fp) f tg t ht) hts (fun s H Ca cl fp => (cb s H Ca cl fp).E hu) hs hsub
                      have old : PS X (.Assign [.Name x px] (.ListComp elt [⟨tg, iter, ifs, 0⟩] scope p) pos) (tS X W fun env h => (ev G (n + 1) (.comp (isM m) u t kS args io ((ownOf C.N scope).map (·.2))) env h).sbind env fun d h => .nx (env.set i (some d)) h) := by
                        rw [ec]
                        exact PS.weak (ps_setLc cx.x.calm cx.x.nd (cx.ix hi) hl (by rw [sw_is cx.kind, hsw]) (compI_ok cx (fun e ie h => cx.E h) hi2) ok (fun s H Ca cl fp => compTg_ok (cb s H Ca cl fp) f tg t ht) hts (fun s H Ca cl fp => (cb s H Ca cl fp).E hu) (fold_set hs X.env)) fun Dn sg H ⟨O, env, h, eo, S, w⟩ => im sg H _ ⟨O, env, h, eo, S, PostS.bind w eo fun d h1 O1 v H1 _ s1 S1 r1 p1 => p1 O1 _ H1 (Stp.refl _ _) S1 ((eo.stp s1).set i r1)⟩
                      unfold mkComp
                      split
                      · split
                        · rename_i e'
                          rw [eq]
                          exact PS.weak (ps_setLc cx.x.calm cx.x.nd (cx.ix hi) hl (by rw [sw_is cx.kind, hsw]) (pi_Q (compI_ok cx (fun e ie h => cx.E h) hi2) (cx.E (compI_seq hi2))) ok (fun s H Ca cl fp => compTg_ok (cb s H Ca cl fp) f tg t ht) hts (fun s H Ca cl fp => (cb s H Ca cl fp).E hu) (fold_set hs X.env)) fun Dn sg H ⟨O, env, h, eo, S, w⟩ => compQ_im hsub (fun _ _ => rfl) im sg H _ ⟨O, env, h, eo, S, PostS.bind w eo fun d h1 O1 v H1 _ s1 S1 r1 p1 => p1 O1 _ H1 (Stp.refl _ _) S1 ((eo.stp s1).set i r1)⟩
                        · exact old
                      · exact old
                    split at h
                    · cases h
                      exact go (ft := fun _ h => .ok true h) (io := none) (fun _ _ => rfl) (fun _ => rfl) fun s H Ca cl fp => ts_nil (W := W0)
                    · rename_i c
                      split at h
                      · rename_i v hv
                        cases h
                        exact go (ft := evT G n v) (io := some v) (fun _ _ => rfl) (fun _ => rfl) fun s H Ca cl fp => pts_one ((cb s H Ca cl fp).T hv)
                      · cases h
                    · cases h
                  · cases h
                · cases h
              · cases h
            · cases h
        · cases h
      · cases h
theorem no_swapT {ts : List Expr} {kt : Nat} {pt : Pos} (l : Nat) (env : PySem.Env) : swapsWithSole [.Tuple ts kt pt] e l env = pure false := by
  cases e <;> rfl
theorem swapped_none (hn : isTup e = false) (t : Expr) (env : PySem.Env) : swappedStores [t] e env = pure none := by
  cases e <;> first | (cases t <;> rfl) | cases hn
theorem swapped2 {y : Str} {px py pt : Pos} {kt k2 : Nat} {pt2 : Pos} {env : PySem.Env} (hk : env.scope.kind = .function) (hx : env.scope.names.lookup x = some .local) (hy : env.scope.names.lookup y = some .local) (hl : (py.line == px.line) = true) (hxy : x ≠ y)
    (sa : starless a = true) (sb : starless b = true) (hf : [a, b].all (foldedForSure 8) = false) (hc : [a, b].all (constantsAlone 8) = false) : swappedStores [.Tuple [.Name x px, .Name y py] kt pt] (.Tuple [a, b] k2 pt2) env = pure (some [x, y]) := by
  have hb : env.blockKind = .function := by unfold Env.blockKind; rw [hk]; rfl
  have kx : env.kindOf x = some .local := hx
  have ky : env.kindOf y = some .local := hy
  have st : ([a, b].any fun | .Starred .. => true | _ => false) = false := by
    cases a <;> first | exact (Bool.noConfusion (show false = true from sa)) | (cases b <;> first | exact (Bool.noConfusion (show false = true from sb)) | rfl)
  unfold swappedStores
  simp only [hb, st, hf, hc, List.filterMap_cons, List.filterMap_nil, kx, ky, hl, List.head?_cons, Option.map_some, Option.getD_some, Expr.pos]
  have hpx : (px.line == px.line) = true := by simp
  have hs : (some NameKind.local == some NameKind.local) = true := rfl
  have hd : [x, y].eraseDups = [x, y] := by
    have z : (y == x) = false := by simp [Ne.symm hxy]
    rw [List.eraseDups_cons, List.filter_cons, z]
    simp [List.eraseDups_cons]
  simp only [hpx, hs, Bool.and_self, if_true, hd]
  rw [if_neg (by simp)]
  refine (if_neg ?_).trans ?_
  · intro z
    exact Bool.noConfusion (st.symm.trans z)
  rw [if_neg (by simp), if_neg (by decide), if_neg (by decide)]
theorem swapped3 {y z : Str} {c : Expr} {px py pz pt : Pos} {kt k2 : Nat} {pt2 : Pos} {env : PySem.Env} (hk : env.scope.kind = .function) (hx : env.scope.names.lookup x = some .local) (hy : env.scope.names.lookup y = some .local) (hz : env.scope.names.lookup z = some .local) (hl : (py.line == px.line) = true) (hl2 : (pz.line == px.line) = true) (hxy : x ≠ y) (hxz : x ≠ z) (hyz : y ≠ z)
    (sa : starless a = true) (sb : starless b = true) (sc : starless c = true) (hf : [a, b, c].all (foldedForSure 8) = false) (hc : [a, b, c].all (constantsAlone 8) = false) : swappedStores [.Tuple [.Name x px, .Name y py, .Name z pz] kt pt] (.Tuple [a, b, c] k2 pt2) env = pure (some [x, y, z]) := by
  have hb : env.blockKind = .function := by unfold Env.blockKind; rw [hk]; rfl
  have kx : env.kindOf x = some .local := hx
  have ky : env.kindOf y = some .local := hy
  have kz : env.kindOf z = some .local := hz
  have st : ([a, b, c].any fun | .Starred .. => true | _ => false) = false := by
    rw [List.any_eq_false]
    intro q hq
    have sq : starless q = true := by
      simp only [List.mem_cons, List.not_mem_nil, or_false] at hq
      rcases hq with rfl | rfl | rfl <;> assumption
    cases q <;> first | exact (Bool.noConfusion (show false = true from sq)) | exact fun z => Bool.noConfusion z
  unfold swappedStores
  simp only [hb, st, hf, hc, List.filterMap_cons, List.filterMap_nil, kx, ky, kz, hl, hl2, List.head?_cons, Option.map_some, Option.getD_some, Expr.pos]
  have hpx : (px.line == px.line) = true := by simp
  have hs : (some NameKind.local == some NameKind.local) = true := rfl
  have hd : [x, y, z].eraseDups = [x, y, z] := by
    have z1 : (y == x) = false := by simp [Ne.symm hxy]
    have z2 : (z == x) = false := by simp [Ne.symm hxz]
    have z3 : (z == y) = false := by simp [Ne.symm hyz]
    rw [List.eraseDups_cons, List.filter_cons, z1]
    simp [List.eraseDups_cons, z2, z3, Ne.symm hxz, Ne.symm hyz]
  simp only [hpx, hs, Bool.and_self, if_true, hd]
  rw [if_neg (by simp)]
  refine (if_neg ?_).trans ?_
  · intro q
    exact Bool.noConfusion (st.symm.trans q)
  rw [if_neg (by simp), if_neg (by decide), if_neg (by decide)]
theorem swapped_no {ts : List Expr} {kt : Nat} {pt : Pos} {env : PySem.Env} (h : swNo env.scope ts e = true) : swappedStores [.Tuple ts kt pt] e env = pure none ∧ compless e = true := by
  cases e with
  | Tuple vs k2 p2 =>
    refine ⟨?_, rfl⟩
    simp only [swNo, Bool.or_eq_true, decide_eq_true_eq] at h
    unfold swappedStores
    simp only []
    split
    · rfl
    · split
      · rfl
      · split
        · rfl
        · rename_i h3
          rcases h with h | h
          · exfalso
            apply h3
            have : (swNames env.scope ts).length ≠ ts.length := h
            rw [Bool.or_eq_true]
            left
            exact bne_iff_ne.mpr this
          · rw [if_pos h]
  | _ => cases h
theorem setLcA {f n : Nat} {targets : List Expr} {ie : IS} (cx : CxOk X W G k C) (h : compA f C targets e = some ie) : PS X (.Assign targets e pos) (tS X W (ex G n ie)) := by
  cases n with
  | zero => exact PS_no fun _ _ => rfl
  | succ n =>
  unfold compA at h
  split at h
  · rename_i x px
    split at h
    · rename_i hh
      split at h
      · rename_i i hi
        obtain ⟨u, hu, rfl⟩ := opt_map h
        exact sS_set (cx.E hu) (sG_name cx.x.nd (cx.ix hi) (cx.asn hh.1).1 (cx.asn hh.1).2) (no_swapS hh.2 _ _ _) (by cases e <;> rfl) rfl
      · cases h
    · split at h
      · rename_i elt gs scope p _
        split at h
        · rename_i ha
          split at h
          · rename_i i hi
            obtain ⟨u, hu, rfl⟩ := opt_map h
            exact setLc_snd cx ha hi hu
          · cases h
        · cases h
      · cases h
  · rename_i o1 i1 q1 o2 i2 q2 kk pt
    split at h
    · rename_i hh
      obtain ⟨hw, h1, h2⟩ := hh
      split at h
      · rename_i x1 hx1
        split at h
        · rename_i y1 hy1
          split at h
          · rename_i x2 hx2
            split at h
            · rename_i y2 hy2
              obtain ⟨u, hu, rfl⟩ := opt_map h
              rcases hw with ⟨hn, hs⟩ | hw
              · exact sS_set2 cx.x h1 h2 (cx.E hx1) (cx.E hy1) (cx.E hx2) (cx.E hy2) (cx.E hu) hs (swapped_none hn _ _)
              · rw [← cx.sc] at hw
                obtain ⟨w1, w2⟩ := swapped_no (kt := kk) (pt := pt) hw
                exact sS_set2 cx.x h1 h2 (cx.E hx1) (cx.E hy1) (cx.E hx2) (cx.E hy2) (cx.E hu) w2 w1
            · cases h
          · cases h
        · cases h
      · cases h
    · cases h
  · rename_i ts kk pt _
    split at h
    · rename_i hw
      rw [← cx.sc] at hw
      obtain ⟨w1, w2⟩ := swapped_no (kt := kk) (pt := pt) hw
      split at h
      · rename_i t ht
        obtain ⟨u, hu, rfl⟩ := opt_map h
        exact sS_set (cx.E hu) (compTg_ok cx f _ t ht) (no_swapS w2 _ _ _) w1 rfl
      · cases h
    split at h
    · split at h
      · rename_i x px y py a b k2 pt2 _
        split at h
        · rename_i hh
          obtain ⟨hx, hy, hl, hxy, sa, sb, hf, hc⟩ := hh
          split at h
          · rename_i i hi
            split at h
            · rename_i j hj
              split at h
              · rename_i hij
                split at h
                · rename_i u hu
                  split at h
                  · rename_i v hv
                    cases h
                    rw [← cx.sc] at hx hy
                    exact sS_par cx.x.calm cx.x.nd (cx.ix hi) (cx.ix hj) hij hx hy sa sb (cx.E hu) (cx.E hv) (swapped2 cx.kind hx hy hl hxy sa sb hf hc)
                  · cases h
                · cases h
              · cases h
            · cases h
          · cases h
        · cases h
      · rename_i x px y py z pz a b c k2 pt2 _
        split at h
        · rename_i hh
          obtain ⟨⟨hx, hy, hz⟩, ⟨hl, hl2⟩, ⟨hxy, hxz, hyz⟩, ⟨sa, sb, sc⟩, hf, hc⟩ := hh
          split at h
          · rename_i i hi
            split at h
            · rename_i j hj
              split at h
              · rename_i l hl3
                split at h
                · rename_i hij
                  split at h
                  · rename_i u hu
                    split at h
                    · rename_i v hv
                      split at h
                      · rename_i t ht
                        cases h
                        rw [← cx.sc] at hx hy hz
                        exact sS_par3 cx.x.calm cx.x.nd (cx.ix hi) (cx.ix hj) (cx.ix hl3) hij.1 hij.2.1 hij.2.2 hx hy hz sa sb sc (cx.E hu) (cx.E hv) (cx.E ht) (swapped3 cx.kind hx hy hz hl hl2 hxy hxz hyz sa sb sc hf hc)
                      · cases h
                    · cases h
                  · cases h
                · cases h
              · cases h
            · cases h
          · cases h
        · cases h
      · cases h
    · rename_i hn
      split at h
      · rename_i t ht
        obtain ⟨u, hu, rfl⟩ := opt_map h
        exact sS_set (cx.E hu) (compTg_ok cx f _ t ht) (no_swapT _ _) (swapped_none (by simpa using hn) _ _) rfl
      · cases h
  · rename_i o lo hi p2 opos
    split at h
    · rename_i hh
      split at h
      · rename_i u hu
        split at h
        · rename_i a ha
          split at h
          · rename_i b hb
            split at h
            · rename_i z hz
              cases h
              have q := sS_setsl (X := X) (W := W) (opos := opos) (p2 := p2) (pos := pos) (cx.E (n := n) hu) (sO_some (cx.E (n := n) ha)) (sO_some (cx.E (n := n) hb)) (cx.E (n := n) hz) hh
              exact q
            · cases h
          · cases h
        · cases h
      · cases h
    · cases h
  · rename_i o i opos _
    split at h
    · rename_i hh
      split at h
      · rename_i u hu
        split at h
        · rename_i v hv
          split at h
          · rename_i w hw
            cases h
            exact sS_setix cx.x hh.1 (cx.E hu) (cx.E hv) (cx.E hw) hh.2
          · cases h
        · cases h
      · cases h
    · cases h
  · rename_i o g opos
    split at h
    · rename_i hh
      split at h
      · rename_i u hu
        split at h
        · rename_i w hw
          cases h
          exact sS_setf cx.x hh.1 (cx.E hu) (cx.E hw) hh.2
        · cases h
      · cases h
    · cases h
  · cases h
theorem frz_snd {n : Nat} {sts : List Stmt} {rest : List IS} (hr : PSs X sts (tS X W (exs (ex G n) rest))) : ∀ l : List Nat, PSs X sts (tS X W (exs (ex G n) (l.map IS.frz ++ rest)))
  | [] => hr
  | j :: l => by
    cases n with
    | zero => exact PSs_no fun _ _ => rfl
    | succ n => exact sSs_frz (frz_snd hr l)
theorem isDoc_inv (h : isDoc e = true) : ∃ z j p, e = .Constant (.str z) j p := by
  unfold isDoc at h
  split at h
  · exact ⟨_, _, _, rfl⟩
  · cases h
end
def SndS (f : Nat) : Prop := ∀ (X : Cx) (W : WX) (G : Wr) (k : Nat) (C : Ctx) (s : Stmt) (is : IS) (n : Nat), CxOk X W G k C → PassesOwn (model X.prog X.w) X.A X.env X.xe → compS f C s = some is → PS X s (tS X W (ex G n is))
def SndSs (f : Nat) : Prop := ∀ (X : Cx) (W : WX) (G : Wr) (k : Nat) (C : Ctx) (s : List Stmt) (is : List IS) (n : Nat), CxOk X W G k C → PassesOwn (model X.prog X.w) X.A X.env X.xe → compSs f C s = some is → PSs X s (tS X W (exs (ex G n) is))
theorem snd_S {f : Nat} (ihS : SndSs f) : SndS (f + 1) := by
  intro X W G k C s is n cx hp h
  cases n with
  | zero => exact PS_no fun _ _ => rfl
  | succ n =>
    cases s with
    | Assign ts e pos => simp only [compS] at h; exact setLcA cx h
    | Return v pos =>
      simp only [compS] at h
      split at h
      · cases h; exact sS_retN
      · obtain ⟨u, hu, rfl⟩ := opt_map h
        exact sS_ret (cx.E hu)
    | Expr e pos =>
      simp only [compS] at h
      split at h
      · rename_i hd
        cases h
        obtain ⟨z, j, p, rfl⟩ := isDoc_inv hd
        exact sS_doc
      · split at h
        · rename_i hs
          obtain ⟨u, hu, rfl⟩ := opt_map h
          exact sS_ex (cx.E hu) hs
        · cases h
    | If c a b pos =>
      simp only [compS] at h
      split at h
      · rename_i u hu
        split at h
        · rename_i v hv
          split at h
          · rename_i w hw
            cases h
            exact sS_ife (cx.T hu) (ihS X W G k C a v n cx hp hv) (ihS X W G k C b w n cx hp hw)
          · cases h
        · cases h
      · cases h
    | For t iter body els pos =>
      simp only [compS] at h
      split at h
      · split at h
        · rename_i hs
          split at h
          · rename_i kS args hi
            split at h
            · rename_i tg ht
              split at h
              · rename_i b hb
                cases h
                exact sS_loop cx.x hp (compI_ok cx (fun e ie h => cx.E h) hi) (compTg_ok cx f t tg ht) (ihS X W G k C body b n cx hp hb) hs
              · cases h
            · cases h
          · cases h
        · cases h
      · cases h
    | While c body els pos =>
      simp only [compS] at h
      split at h
      · split at h
        · rename_i u hu
          split at h
          · rename_i b hb
            cases h
            exact sS_while hp (cx.T hu) (ihS X W G k C body b n cx hp hb)
          · cases h
        · cases h
      · cases h
    | Pass pos => simp only [compS] at h; cases h; exact sS_pass
    | Break pos => simp only [compS] at h; cases h; exact sS_brk
    | Continue pos => simp only [compS] at h; cases h; exact sS_cnt
    | Raise a b pos =>
      simp only [compS] at h
      cases h
      unfold compR
      split
      · rename_i x p args lpos
        split
        · rename_i hh
          obtain ⟨h1, h2, h3, h4, h5⟩ := hh
          split
          · rename_i l hl
            cases args with
            | nil => cases h5
            | cons e es =>
              have hs2 : starless e = true ∧ es.all starless = true := by simpa using h4
              exact sS_raise cx.x h1 (cx.gl h2) (noDbg_ok h3).1 hs2 (args_ok (fun e ie h => cx.E h) h4 hl)
          · exact sS_never
        · exact sS_never
      · exact sS_never
    | AugAssign t op e pos =>
      simp only [compS] at h
      split at h
      · rename_i o ho
        have eo := bop_ok ho
        split at h
        · rename_i hop
          split at h
          · rename_i x px
            split at h
            · rename_i ha
              split at h
              · rename_i i hi
                obtain ⟨u, hu, rfl⟩ := opt_map h
                rw [← eo]
                have q := sS_aug (X := X) (W := W) (px := px) (pos := pos) hop cx.x.nd (cx.ix hi) (cx.asn ha).1 (cx.asn ha).2 (cx.E (n := n) hu)
                exact q
              · cases h
            · cases h
          · rename_i b i px
            split at h
            · rename_i hs
              split at h
              · rename_i u hu
                split at h
                · rename_i v hv
                  obtain ⟨w, hw, rfl⟩ := opt_map h
                  rw [← eo]
                  have q := sS_augix (X := X) (W := W) (tpos := px) (pos := pos) cx.x hop hs (cx.E (n := n) hu) (cx.E (n := n) hv) (cx.E (n := n) hw)
                  exact q
                · cases h
              · cases h
            · cases h
          · cases h
        · cases h
      · cases h
    | _ => simp [compS] at h
theorem snd_Ss {f : Nat} (ihA : SndS f) (ihS : SndSs f) : SndSs (f + 1) := by
  intro X W G k C ss is n cx hp h
  simp only [compSs] at h
  split at h
  · cases h; exact sSs_nil
  · rename_i s ss
    split at h
    · rename_i u hu
      split at h
      · rename_i us hus
        cases h
        exact frz_snd (sSs_cons (ihA X W G k C s u n cx hp hu) (frz_snd (ihS X W G k C ss us n cx hp hus) _)) _
      · cases h
    · cases h
theorem snd_allS : ∀ f, SndS f ∧ SndSs f
  | 0 => ⟨fun X W G k C s is n cx hp h => by simp [compS] at h, fun X W G k C s is n cx hp h => by simp [compSs] at h⟩
  | f + 1 => ⟨snd_S (snd_allS f).2, snd_Ss (snd_allS f).1 (snd_allS f).2⟩
end SI
end
section
set_option Elab.async false
set_option linter.all false
set_option maxRecDepth 100000
set_option maxHeartbeats 4000000
/-! SIL4: a def that calls what it was given, within try: its text, and that it keeps to it. -/
namespace SI
open PySem PySem.Spec PyProof.Rows L2
def constD : Const → Option D
  | .int i => some (.int i)
  | .bool b => some (.bl b)
  | .str s => some (.str s)
  | .none => some .non
  | _ => none
def compM : Nat → Ctx → Option Str → Expr → Option ME
  | 0, _, _, _ => none
  | f + 1, C, nm, e => match e with
    | .Constant c _ _ => (constD c).map .c
    | .Name x _ => if noDbg x = true ∧ C.vis x = true then (ixOf C.N x).map .v else none
    | .Attribute o n _ => match o with
      | .Name y _ => if nm = some y ∧ noDbg y = true ∧ C.vis y = true ∧ n ∈ C.T.attrs then some (.f n) else none
      | _ => none
    | .Tuple es _ _ => if es.all starless = true ∧ es.length ≤ 1000 then (mapO (compM f C nm) es).map .tup else none
    | .List es _ => if es.all starless = true ∧ es.length ≤ 1000 then (mapO (compM f C nm) es).map .lst else none
    | .Call fn args kws _ => match fn, args, kws with
      | .Name x _, [a], [] => if x = "repr" ∧ C.free x = true ∧ starless a = true then (compM f C nm a).map .rp else none
      | _, _, _ => none
    | .Compare a ops bs _ => match ops, bs with
      | [.Eq], [b] => if setless b = true then (match compM f C nm a with
        | some u => match compM f C nm b with
          | some v => some (.eq u v)
          | none => none
        | none => none) else none
      | _, _ => none
    | _ => none
def catNm (C : Ctx) : Option Str → Option (Option Nat)
  | none => some none
  | some n => if C.sc.names.lookup n = some .local then (ixOf C.N n).map some else none
def catHd (f : Nat) (C : Ctx) : ExceptHandler → Option Hd
  | .ExceptHandler (some (.Name x _)) on [st] _ => if C.gl x = true ∧ noDbg x = true ∧ x ∈ C.T.cls then (match catNm C on with
    | some oi => match st with
      | .Return (some e) _ => (compM f C on e).map fun m => ⟨x, oi, none, m⟩
      | .Assign [.Name y _] e _ => if C.asn y = true ∧ compless e = true then (match ixOf C.N y with
        | some j => (compM f C on e).map fun m => ⟨x, oi, some j, m⟩
        | none => none) else none
      | _ => none
    | none => none) else none
  | _ => none
/-- what is called within try: true, if it is returned -/
def catT (a : Str) : List Stmt → Option Bool
  | [.Expr (.Call (.Name b _) [] [] _) _] => if b = a then some false else none
  | [.Return (some (.Call (.Name b _) [] [] _)) _] => if b = a then some true else none
  | _ => none
def catOf (f : Nat) (C : Ctx) (a : Str) : List Stmt → Option CatB
  | .Assign [.Name y _] (.Constant c _ _) _ :: r => if C.asn y = true then (match ixOf C.N y with
    | some j => match constD c with
      | some d => if j = 0 then none else (catOf f C a r).map fun b => { b with pre := (j, d) :: b.pre }
      | none => none
    | none => none) else none
  | .Try body (h0 :: hs) [] [] _ :: r => match catT a body with
    | some rc => match mapO (catHd f C) (h0 :: hs) with
      | some l => match compSs f C r with
        | some is => some ⟨[], rc, l, is⟩
        | none => none
      | none => none
    | none => none
  | _ => none
/-! ### a clause -/
section
variable {X : Cx} {W : WX} {G : Wr} {k : Nat} {C : Ctx} {a cx dd : Addr} {oe : Obj} {cls : Value} {d : Option Addr} {pz : List (Addr × Obj)} {on : Option Str} {oi : Option Nat} {xe : Exc} {fv : List (Str × V)}
/-- what is known where a clause stands -/
structure Fct (X : Cx) (C : Ctx) (a cx dd : Addr) (cls : Value) (d : Option Addr) (oi : Option Nat) (xe : Exc) (fv : List (Str × V)) (O : Om) (sg : L2.St) : Prop where
  cl : cls = .ref cx
  d : d = some dd
  at_ : ∀ i, oi = some i → sg[i]? = some (some (.ref a))
  F : O.F dd = some (.xd fv)
  rp : RepP X.K X.mg O xe.fs fv
  xf : XfC X.K cx
  no : ∀ n ∈ C.T.attrs, PySem.W.findIn X.K (.ref cx) n = some none
theorem Fct.stp {O O' : Om} {H H' : Hp} {sg : L2.St} (f : Fct X C a cx dd cls d oi xe fv O sg) (s : Stp O H O' H') : Fct X C a cx dd cls d oi xe fv O' sg := ⟨f.cl, f.d, f.at_, s.F _ _ f.F, f.rp.stp s, f.xf, f.no⟩
theorem look_rp {O : Om} {n : Str} {x : D} : ∀ {fs : List (Str × D)} {gs : List (Str × V)}, RepP X.K X.mg O fs gs → fs.lookup n = some x → ∃ v, gs.lookup n = some v ∧ RepX X O x v
  | _, _, .nil, e => by cases e
  | _, _, .cons (k := k) (d := d) (v := v) r t, e => by
    simp only [List.lookup_cons] at e ⊢
    split at e
    · rename_i h
      cases e
      exact ⟨v, rfl, r⟩
    · rename_i h
      obtain ⟨w, h1, h2⟩ := look_rp t e
      exact ⟨w, h1, h2⟩
variable (X C a cx dd cls d oi xe fv)
def tM (m : ME) : TE := fun sg H Q => ∃ (O : Om) (env : Nv) (h : Hs), NvOk X.K X.mg O env sg ∧ SR X.K X.mg O h H ∧ Fct X C a cx dd cls d oi xe fv O sg ∧ ∃ r, mev xe.fs env h m = some r ∧ ∀ O' v H', Stp O H O' H' → SR X.K X.mg O' h H' → RepX X O' r v → Q v H'
def tMs (m : List ME) : TA := fun sg H Q => ∃ (O : Om) (env : Nv) (h : Hs), NvOk X.K X.mg O env sg ∧ SR X.K X.mg O h H ∧ Fct X C a cx dd cls d oi xe fv O sg ∧ ∃ r, mevs xe.fs env h m = some r ∧ ∀ O' vs H', Stp O H O' H' → SR X.K X.mg O' h H' → RepLX X O' r vs → Q vs H'
variable {X C a cx dd cls d oi xe fv}
theorem repr_S {Y : Cx} (hu : Y.A.units + 200 < cLine) (hg : Y.A.guards = some []) : CallR Y (.builtin "repr") fun xs H Q => ∃ (O : Om) (h : Hs) (d : D) (v : V) (z : D), xs = [v] ∧ SR Y.K Y.mg O h H ∧ RepX Y O d v ∧ reprD h d = some z ∧ ∀ s, z = .str s → Q (.str s) H := fun pn s sg H xs us Q I rv ⟨O, h, d, v, z, e, S, r, e2, q⟩ => by
  have LE := LINE_eq
  unfold reprD at e2
  split at e2
  · rename_i y hd
    split at e2
    · rename_i hc
      cases e2
      simp only [Bool.and_eq_true, decide_eq_true_eq, Bool.not_eq_true'] at hc
      subst e
      obtain ⟨u, rfl, ru⟩ := vals1 rv
      obtain ⟨as, rd⟩ := Dp.reads I y v u (deep_ok S hd r) ru
      obtain ⟨p, rfl⟩ := ref_of r hc.1.1.1.1
      obtain rfl : u = Value.ref p := ru
      exact repr_of_reads' rd hc.1.1.1.2 (fun z => by rw [hc.1.1.2] at z; cases z) hg (by omega) (fun b ob eb => eb) (fun h' u tk hk => ⟨.str _, H, I.kept (t' := tk) hk, ⟨_, rfl⟩, q _ rfl⟩) (by omega)
    · cases e2
  · cases e2
theorem ms_ok {Y : Cx} {g : Expr → Option ME} (ih : ∀ e m, g e = some m → PE Y e (tM X C a cx dd cls d oi xe fv m)) : ∀ {es : List Expr} {ms : List ME}, es.all starless = true → mapO g es = some ms → PA Y es (tMs X C a cx dd cls d oi xe fv ms)
  | [], _, _, h => by
    cases h
    exact PA.weak pa_nil fun sg H Q ⟨O, env, h, eo, S, F, r, e, q⟩ => by cases e; exact q O [] H (Stp.refl _ _) S .nil
  | e :: es, _, hs, h => by
    have h1 : starless e = true ∧ es.all starless = true := by simpa using hs
    simp only [mapO] at h
    split at h
    · rename_i m hm
      split at h
      · rename_i ms hms
        cases h
        refine PA.weak (pa_cons (ih e m hm) (ms_ok ih h1.2 hms) (star_cons h1.1 es _)) fun sg H Q ⟨O, env, h, eo, S, F, r, e, q⟩ => ?_
        simp only [mevs] at e
        split at e
        · rename_i x hx
          split at e
          · rename_i xs hxs
            cases e
            exact ⟨O, env, h, eo, S, F, x, hx, fun O1 v H1 s1 S1 r1 => ⟨O1, env, h, eo.stp s1, S1, F.stp s1, xs, hxs, fun O2 vs H2 s2 S2 r2 => q O2 _ H2 (s1.trans s2) S2 (.cons (r1.stp s2) r2)⟩⟩
          · cases e
        · cases e
      · cases h
    · cases h
theorem mevs_len {env : Nv} {h : Hs} : ∀ {ms : List ME} {ds : List D}, mevs xe.fs env h ms = some ds → ds.length = ms.length
  | [], _, e => by cases e; rfl
  | m :: ms, _, e => by
    simp only [mevs] at e
    split at e
    · split at e
      · rename_i hxs; cases e; simp [mevs_len hxs]
      · cases e
    · cases e
theorem compM_ok (c : CxOk X W G k C) (hz : Zc cls d oe) (hf : ∃ vs, oe.data = .fields vs) (hoi : ∀ y, on = some y → ∃ i, oi = some i ∧ X.N[i]? = some y) : ∀ (f : Nat) (e : Expr) (m : ME), compM f C on e = some m → PE (X.suite a ((a, oe) :: pz)) e (tM X C a cx dd cls d oi xe fv m)
  | 0, _, _, h => by simp [compM] at h
  | f + 1, e, m, h => by
    have ih := compM_ok c hz hf hoi f
    have un : (X.suite a ((a, oe) :: pz)).A.units + 200 < cLine := by
      have := c.x.room.un
      show X.A.units + 200 < cLine
      omega
    cases e with
    | Constant q j p =>
      simp only [compM] at h
      obtain ⟨x, hx, rfl⟩ := opt_map h
      cases q <;> cases hx <;> first
        | exact PE.weak pe_int fun sg H Q ⟨O, env, h, eo, S, F, r, e, z⟩ => by cases e; exact z O _ H (Stp.refl _ _) S (.int _)
        | exact PE.weak pe_bl fun sg H Q ⟨O, env, h, eo, S, F, r, e, z⟩ => by cases e; exact z O _ H (Stp.refl _ _) S (.bl _)
        | exact PE.weak pe_str fun sg H Q ⟨O, env, h, eo, S, F, r, e, z⟩ => by cases e; exact z O _ H (Stp.refl _ _) S (.str _)
        | exact PE.weak pe_non fun sg H Q ⟨O, env, h, eo, S, F, r, e, z⟩ => by cases e; exact z O _ H (Stp.refl _ _) S .non
    | Name x p =>
      simp only [compM] at h
      split at h
      · rename_i hh
        obtain ⟨i, hi, rfl⟩ := opt_map h
        obtain ⟨d1, d2⟩ := noDbg_ok hh.1
        exact PE.weak (pe_var (X := X.suite a ((a, oe) :: pz)) (c.ix hi) (c.vis hh.2) d1 d2) fun sg H Q ⟨O, env, h, eo, S, F, r, e, z⟩ => by
          obtain ⟨v, h1, h2⟩ := get_ok eo e
          exact ⟨v, h1, z O v H (Stp.refl _ _) S h2⟩
      · cases h
    | Attribute o n p =>
      cases o with
      | Name y py =>
        simp only [compM] at h
        split at h
        · rename_i hh
          obtain ⟨h1, h2, h3, h4⟩ := hh
          cases h
          obtain ⟨i, hi, hN⟩ := hoi y h1
          obtain ⟨d1, d2⟩ := noDbg_ok h2
          refine ⟨fun pn s sg H Q I ⟨O, env, h, eo, S, F, r, e, z⟩ => ?_⟩
          obtain ⟨v, l, rv⟩ := look_rp F.rp e
          refine (pe_xf (X := X) (a := a) (oe := oe) (pn := pz) F.xf (F.no n h4) hz hf (pe_var (X := X.suite a ((a, oe) :: pz)) (pos := py) (i := i) hN (c.vis h3) d1 d2)).run pn s sg H Q I ⟨.ref a, F.at_ i hi, rfl, F.cl, dd, fv, v, F.d, S.sub _ _ F.F, l, z O v H (Stp.refl _ _) S rv⟩
        · cases h
      | _ => simp [compM] at h
    | Tuple es j p =>
      simp only [compM] at h
      split at h
      · rename_i hh
        obtain ⟨ms, hm, rfl⟩ := opt_map h
        refine PE.weak (pe_tup (ms_ok ih hh.1 hm)) fun sg H Q ⟨O, env, h, eo, S, F, r, e, z⟩ => ?_
        simp only [mev, Option.map_eq_some_iff] at e
        obtain ⟨ds, e, rfl⟩ := e
        refine ⟨O, env, h, eo, S, F, ds, e, fun O1 vs H1 s1 S1 r1 => ?_⟩
        have zl : vs.length ≤ sizeLine := by
          rw [← r1.length, mevs_len e, ← mapO_len hm, ← LINE_eq]
          exact Nat.le_trans hh.2 (by decide)
        refine ⟨zl, fun t ht => ?_⟩
        obtain ⟨s2, S2⟩ := S1.newF ht (.tup vs)
        exact z _ _ _ (s1.trans s2) S2 (frz_tup S1 ht zl r1)
      · cases h
    | List es p =>
      simp only [compM] at h
      split at h
      · rename_i hh
        obtain ⟨ms, hm, rfl⟩ := opt_map h
        refine PE.weak (pe_lst (ms_ok ih hh.1 hm)) fun sg H Q ⟨O, env, h, eo, S, F, r, e, z⟩ => ?_
        simp only [mev, Option.map_eq_some_iff] at e
        obtain ⟨ds, e, rfl⟩ := e
        refine ⟨O, env, h, eo, S, F, ds, e, fun O1 vs H1 s1 S1 r1 => ?_⟩
        have zl : vs.length ≤ sizeLine := by
          rw [← r1.length, mevs_len e, ← mapO_len hm, ← LINE_eq]
          exact Nat.le_trans hh.2 (by decide)
        refine ⟨zl, fun t ht => ?_⟩
        obtain ⟨s2, S2⟩ := S1.newF ht (.lst vs)
        exact z _ _ _ (s1.trans s2) S2 (frz_lst S1 ht zl r1)
      · cases h
    | Call fn args kws p =>
      simp only [compM] at h
      split at h
      · rename_i x px q
        split at h
        · rename_i hh
          obtain ⟨rfl, h2, h3⟩ := hh
          obtain ⟨u, hu, rfl⟩ := opt_map h
          obtain ⟨hg, hm⟩ := c.free h2
          have hs : [q].all starless = true := by simpa using h3
          refine PE.weak (pe_callB (X := X.suite a ((a, oe) :: pz)) (repr_S un c.x.grd) hg hm (by decide +kernel) (pa_cons (ih q u hu) pa_nil (star_cons h3 [] _)) (by decide) (by decide) (star_cons h3 [] _) rfl) fun sg H Q ⟨O, env, h, eo, S, F, r, e, z⟩ => ?_
          simp only [mev] at e
          split at e
          · rename_i x hx
            refine ⟨O, env, h, eo, S, F, x, hx, fun O1 v H1 s1 S1 r1 => ?_⟩
            exact ⟨O1, h, x, v, r, rfl, S1, r1, e, fun s es => z O1 _ H1 s1 S1 (by rw [es]; exact .str s)⟩
          · cases e
        · cases h
      · cases h
    | Compare x ops ys p =>
      simp only [compM] at h
      split at h
      · rename_i y
        split at h
        · rename_i hm
          split at h
          · rename_i u hu
            split at h
            · rename_i v hv
              cases h
              refine PE.weak (pe_cmpR (X := X.suite a ((a, oe) :: pz)) (op_eqD (X := X.suite a ((a, oe) :: pz)) (by omega)) (ih x u hu) (ih y v hv) (behind_plain hm _)) fun sg H Q ⟨O, env, h, eo, S, F, r, e, z⟩ => ?_
              simp only [mev] at e
              split at e
              · rename_i d1 e1
                split at e
                · rename_i d2 e2
                  obtain ⟨t, e3, rfl⟩ := Option.map_eq_some_iff.mp e
                  exact ⟨O, env, h, eo, S, F, d1, e1, fun O1 v1 H1 s1 S1 r1 => ⟨O1, env, h, eo.stp s1, S1, F.stp s1, d2, e2, fun O2 v2 H2 s2 S2 r2 => cmp_ok (X := X) (op := .eq) S2 (r1.stp s2) r2 e3 (z O2 _ H2 (s1.trans s2) S2 (.bl t))⟩⟩
                · cases e
              · cases e
            · cases h
          · cases h
        · cases h
      · cases h
    | _ => simp [compM] at h
/-! ### the clauses, and the def -/
theorem NvOk.put {O : Om} {env : Nv} {sg : L2.St} (e : NvOk X.K X.mg O env sg) (i : Nat) (v : Option V) : NvOk X.K X.mg O (env.set i none) (sg.set i v) := by
  refine ⟨by rw [List.length_set, List.length_set]; exact e.len, fun j d' q => ?_⟩
  by_cases h : i = j
  · subst h
    by_cases hl : i < env.length
    · rw [List.getElem?_set_self hl] at q; cases q
    · rw [List.getElem?_eq_none (by rw [List.length_set]; omega)] at q; cases q
  · rw [List.getElem?_set_ne h] at q
    obtain ⟨w, p1, p2⟩ := e.val j d' q
    exact ⟨w, by rw [List.getElem?_set_ne h]; exact p1, p2⟩
theorem NvOk.inE {O : Om} {env : Nv} {sg : L2.St} (e : NvOk X.K X.mg O env sg) (oi : Option Nat) (a : Addr) : NvOk X.K X.mg O (unE oi env) (inE oi a sg) := by
  cases oi with
  | none => exact e
  | some i => exact e.put i _
def cAt (X : Cx) (x : Str) : Addr := match X.mg x with
  | some (.ref c) => c
  | _ => 0
/-- a clause, as it is wished for -/
def clOf (X : Cx) (C : Ctx) (q : Hd) : Cls := ⟨.ref (cAt X q.cls), q.oi, fun a cls d D sg H => ∃ (cx dd : Addr) (xe : Exc) (fv : List (Str × V)) (O : Om) (env : Nv) (h : Hs), NvOk X.K X.mg O env sg ∧ SR X.K X.mg O h H ∧ Fct X C a cx dd cls d q.oi xe fv O sg ∧
  ∃ r, mev xe.fs env h q.e = some r ∧ ∀ O' v H', Stp O H O' H' → SR X.K X.mg O' h H' → RepX X O' r v → match q.set with
    | none => D.rt v H'
    | some j => D.nx (sg.set j (some v)) H'⟩
theorem catHd_ok {f : Nat} {eh : ExceptHandler} {q : Hd} (c : CxOk X W G k C) (h : catHd f C eh = some q) : ∃ (x : Str) (on : Option Str) (st : Stmt) (np p : Pos), eh = .ExceptHandler (some (.Name x np)) on [st] p ∧ q.cls = x ∧ Names X x (.ref (cAt X x)) ∧ NmOk X on q.oi ∧ X.mg x = some (.ref (cAt X x)) ∧
    ∀ (a : Addr) (oe : Obj) (cls : Value) (d : Option Addr) (pz : List (Addr × Obj)), Zc cls d oe → (∃ vs, oe.data = .fields vs) → PSs (X.suite a ((a, oe) :: pz)) [st] ((clOf X C q).ts a cls d) := by
  unfold catHd at h
  split at h
  · rename_i x np on st p
    split at h
    · rename_i hh
      obtain ⟨h1, h2, h3⟩ := hh
      split at h
      · rename_i oi hoi
        obtain ⟨cc, hm, _⟩ := c.x.wf.clg x h3
        have ec : cAt X x = cc := by unfold cAt; rw [hm]
        have nm : Names X x (.ref (cAt X x)) := ⟨c.gl h1, (noDbg_ok h2).1, .inl (by rw [ec]; exact hm)⟩
        have nk : NmOk X on oi := by
          unfold catNm at hoi
          split at hoi
          · cases hoi; exact trivial
          · rename_i n
            split at hoi
            · rename_i hl
              obtain ⟨i, hi, rfl⟩ := opt_map hoi
              exact ⟨c.ix hi, by show X.env.scope.names.lookup n = _; rw [c.sc]; exact hl⟩
            · cases hoi
        have hN : ∀ y, on = some y → ∃ i, oi = some i ∧ X.N[i]? = some y := fun y ey => by
          subst ey
          cases oi with
          | none => exact nk.elim
          | some i => exact ⟨i, rfl, nk.1⟩
        split at h
        · rename_i e rp
          obtain ⟨m, hm2, rfl⟩ := opt_map h
          refine ⟨x, on, _, np, p, rfl, rfl, nm, nk, by rw [ec]; exact hm, fun a oe cls d pz hz hf => ⟨fun pn s sg H D I z => ?_⟩⟩
          obtain ⟨cx, dd, xe, fv, O, env, h, eo, S, F, r, er, z⟩ := z
          exact (pss_one (ps_ret (compM_ok (cx := cx) (dd := dd) (xe := xe) (fv := fv) c hz hf hN f e m hm2))).run pn s sg H D I ⟨O, env, h, eo, S, F, r, er, z⟩
        · rename_i y py e ap
          split at h
          · rename_i hc
            split at h
            · rename_i j hj
              obtain ⟨m, hm2, rfl⟩ := opt_map h
              refine ⟨x, on, _, np, p, rfl, rfl, nm, nk, by rw [ec]; exact hm, fun a oe cls d pz hz hf => ⟨fun pn s sg H D I z => ?_⟩⟩
              obtain ⟨cx, dd, xe, fv, O, env, h, eo, S, F, r, er, z⟩ := z
              exact (pss_one (ps_set (X := X.suite a ((a, oe) :: pz)) c.x.nd (c.ix hj) (c.asn hc.1).1 (compM_ok (cx := cx) (dd := dd) (xe := xe) (fv := fv) c hz hf hN f e m hm2) (no_swap hc.2 _ _ _) (c.asn hc.1).2)).run pn s sg H D I ⟨O, env, h, eo, S, F, r, er, z⟩
            · cases h
          · cases h
        · cases h
      · cases h
    · cases h
  · cases h
theorem hds_ok {f : Nat} (c : CxOk X W G k C) : ∀ {hs : List ExceptHandler} {l : List Hd}, mapO (catHd f C) hs = some l → ClsOk X hs (l.map (clOf X C))
  | [], _, h => by cases h; exact .nil
  | eh :: hs, _, h => by
    simp only [mapO] at h
    split at h
    · rename_i q hq
      split at h
      · rename_i l hl
        cases h
        obtain ⟨x, on, st, np, p, rfl, ex, nm, nk, _, su⟩ := catHd_ok c hq
        exact .cons (q := clOf X C q) (by show Names X x (.ref (cAt X q.cls)); rw [ex]; exact nm) nk su (hds_ok c hl)
      · cases h
    · cases h
theorem hds_mg {f : Nat} (c : CxOk X W G k C) : ∀ {hs : List ExceptHandler} {l : List Hd}, mapO (catHd f C) hs = some l → ∀ q ∈ l, X.mg q.cls = some (.ref (cAt X q.cls)) ∧ ∀ i, q.oi = some i → i < X.N.length
  | [], _, h, q, hq => by cases h; cases hq
  | eh :: hs, _, h, q, hq => by
    simp only [mapO] at h
    split at h
    · rename_i q0 hq0
      split at h
      · rename_i l hl
        cases h
        rcases List.mem_cons.mp hq with e | hq
        · subst e
          obtain ⟨x, on, _, _, _, _, ex, _, nk, hm, _⟩ := catHd_ok c hq0
          refine ⟨by rw [ex]; exact hm, fun i hi => ?_⟩
          rw [hi] at nk
          cases on with
          | none => exact nk.elim
          | some n => exact (List.getElem?_eq_some_iff.mp nk.1).1
        · exact hds_mg c hl q hq
      · cases h
    · cases h
/-- what the clauses' table tells of the classes -/
def TabOk (X : Cx) (tab : List ((Str × Str) × Bool)) : Prop := ∀ x y b, tab.lookup (x, y) = some b → ∀ c1 c2, X.mg x = some (.ref c1) → X.mg y = some (.ref c2) → PySem.W.exmOne X.K (.ref c1) (.ref c2) = some b
theorem hds_w {tab : List ((Str × Str) × Bool)} {Dn : Ends} {O : Om} {h : Hs} {H : Hp} {env : Nv} {sg : L2.St} {x : Exc} {cls : Value} {d : Option Addr} (to : TabOk X tab) (eo : NvOk X.K X.mg O env sg) (S : SR X.K X.mg O h H) (ex : ExOk X.K X.mg O x cls d)
    (xf : ∀ c, X.mg x.cls = some (.ref c) → XfC X.K c ∧ ∀ n ∈ C.T.attrs, PySem.W.findIn X.K (.ref c) n = some none) : ∀ {l : List Hd} {r : Sum D Nv}, (∀ q ∈ l, X.mg q.cls = some (.ref (cAt X q.cls)) ∧ ∀ i, q.oi = some i → i < sg.length) → hdsF tab x env h l = some r →
    (match r with
      | .inl d => ∀ (O' : Om) (v : V) (H' : Hp), Stp O H O' H' → SR X.K X.mg O' h H' → RepX X O' d v → Dn.rt v H'
      | .inr env' => ∀ (O' : Om) (sg' : L2.St) (H' : Hp), Stp O H O' H' → SR X.K X.mg O' h H' → NvOk X.K X.mg O' env' sg' → Dn.nx sg' H') → wMix X.K W Dn (l.map (clOf X C)) cls d sg H
  | [], _, _, h, _ => by cases h
  | q :: l, r, hm, hr, z => by
    obtain ⟨c1, dd, fv, m1, e1, e2, e3, e4⟩ := ex
    simp only [hdsF] at hr
    split at hr
    · rename_i ht
      split at hr
      · rename_i dr hd
        refine ⟨true, by rw [e1]; exact to _ _ _ ht _ _ m1 (hm q List.mem_cons_self).1, fun _ a na => ⟨c1, dd, x, fv, O, unE q.oi env, h, eo.inE q.oi a, S, ⟨e1, e2, fun i hi => ?_, e3, e4, (xf c1 m1).1, (xf c1 m1).2⟩, dr, hd, fun O' v H' s' S' r' => ?_⟩, fun z => by cases z⟩
        · show (inE q.oi a sg)[i]? = _
          rw [hi]
          exact List.getElem?_set_self ((hm q List.mem_cons_self).2 i hi)
        · have e1 := eo.inE q.oi a
          cases hs : q.set with
          | none =>
            rw [hs] at hr
            cases hr
            show (outE q.oi Dn).rt v H'
            cases q.oi <;> exact z O' v H' s' S' r'
          | some j =>
            rw [hs] at hr
            cases hr
            have e2 := (e1.stp s').set j r'
            show (outE q.oi Dn).nx ((inE q.oi a sg).set j (some v)) H'
            cases ho : q.oi with
            | none => rw [ho] at e2 z; exact z O' _ H' s' S' e2
            | some i => rw [ho] at e2 z; exact z O' _ H' s' S' (e2.clear i)
      · cases hr
    · rename_i ht
      exact ⟨false, by rw [e1]; exact to _ _ _ ht _ _ m1 (hm q List.mem_cons_self).1, fun z => by (cases z), fun _ => hds_w to eo S ⟨c1, dd, fv, m1, e1, e2, e3, e4⟩ xf (fun q hq => hm q (List.mem_cons_of_mem _ hq)) hr z⟩
    · cases hr
/-- what was given, as it is called -/
def actT (X : Cx) (f d : Addr) (q : Str) (T : Hs → Res D) (O0 : Om) (W : WX) : TE := fun sz HZ Q => sz[0]? = some (some (.ref f)) ∧ HZ d = some (LamX.CodeO d q) ∧ ∃ (O : Om) (h : Hs), (O0.n ≤ O.n ∧ (∀ i, i < O0.n → O.φ i = O0.φ i) ∧ ∀ a o, O0.F a = some o → O.F a = some o) ∧ SR X.K X.mg O h HZ ∧ match T h with
      | .ok r h1 => ∀ (O' : Om) (v : V) (H' : Hp), Stp O HZ O' H' → SR X.K X.mg O' h1 H' → Rep X.K X.mg O' r v → Q v H'
      | .ex e h1 => ∀ (O' : Om) (c : Value) (u : Option Addr) (H' : Hp), Stp O HZ O' H' → SR X.K X.mg O' h1 H' → ExOk X.K X.mg O' e c u → W c u sz H'
      | .no => False
/-- a catcher's statements -/
def tCat (X : Cx) (W : WX) (G : Wr) (n : Nat) (tab : List ((Str × Str) × Bool)) (f d : Addr) (q : Str) (T : Hs → Res D) (b : CatB) : TS := fun Dn sg H => ∃ (O : Om) (env : Nv) (h : Hs), NvOk X.K X.mg O env sg ∧ SR X.K X.mg O h H ∧ sg[0]? = some (some (.ref f)) ∧ O.F d = some (LamX.CodeO d q) ∧ PostS X W Dn O H (catS G n tab b T env h)
theorem const_ok {c : Const} {dv : D} {j : Nat} {pos : Pos} (h : constD c = some dv) : ∃ v, PE X (.Constant c j pos) (fun _ H Q => Q v H) ∧ ∀ O, RepX X O dv v := by
  cases c <;> cases h
  · exact ⟨_, pe_non, fun _ => .non⟩
  · exact ⟨_, pe_bl, fun _ => .bl _⟩
  · exact ⟨_, pe_int, fun _ => .int _⟩
  · exact ⟨_, pe_str, fun _ => .str _⟩
theorem cat_ok {fu n : Nat} {a : Str} {tab : List ((Str × Str) × Bool)} {f d : Addr} {q : Str} {T : Hs → Res D} {O0 : Om} (c : CxOk X W G k C) (hp : PassesOwn (model X.prog X.w) X.A X.env X.xe) (st : X.stack = X.env :: X.outer) (fr : X.env.frame = some X.env.locals) (to : TabOk X tab)
    (act : ∀ (pz : List (Addr × Obj)) (xe : Value → Shared → Prop) (W : WX) (p1 p2 : Pos), Takes (X.tr pz xe) W → PE (X.tr pz xe) (.Call (.Name a p1) [] [] p2) (actT X f d q T O0 W)) :
    ∀ {ss : List Stmt} {b : CatB}, catOf fu C a ss = some b → PSs X ss fun Dn sg H => ∃ (O : Om) (env : Nv) (h : Hs), (O0.n ≤ O.n ∧ (∀ i, i < O0.n → O.φ i = O0.φ i) ∧ ∀ a o, O0.F a = some o → O.F a = some o) ∧ NvOk X.K X.mg O env sg ∧ SR X.K X.mg O h H ∧ sg[0]? = some (some (.ref f)) ∧ O.F d = some (LamX.CodeO d q) ∧ PostS X W Dn O H (catS G n tab b T env h)
  | [], _, h => by simp [catOf] at h
  | s0 :: r, b, h => by
    unfold catOf at h
    split at h
    · rename_i y py cst jc pc ps r' es
      cases es
      split at h
      · rename_i ha
        split at h
        · rename_i j hj
          split at h
          · rename_i dv hdv
            split at h
            · cases h
            · rename_i nj
              obtain ⟨b', hb', rfl⟩ := opt_map h
              obtain ⟨v, pv, rv⟩ := const_ok (X := X) (j := jc) (pos := pc) hdv
              refine PSs.weak (pss_cons (ps_set c.x.nd (c.ix hj) (c.asn ha).1 pv (no_swap rfl _ _ _) (c.asn ha).2) (cat_ok (n := n) c hp st fr to act hb')) fun Dn sg H ⟨O, env, h, le, eo, S, h0, Fd, w⟩ => ?_
              exact ⟨O, env.set j (some dv), h, le, eo.set j (rv O), S, by rw [List.getElem?_set_ne (fun z => nj z)]; exact h0, Fd, w⟩
          · cases h
        · cases h
      · cases h
    · rename_i body h0 hs pt r' es
      cases es
      split at h
      · rename_i rc hrc
        split at h
        · rename_i l hl
          split at h
          · rename_i is his
            cases h
            let tb : WX → TS := fun W' D sg H => actT X f d q T O0 W' sg H fun v H' => if rc = true then D.rt v H' else D.nx sg H'
            have hb : ∀ (W' : WX) (pz : List (Addr × Obj)) (xe : Value → Shared → Prop), Takes (X.tr pz xe) W' → PassesOwn (model X.prog X.w) X.A X.env xe → PSs (X.tr pz xe) body (tb W') := fun W' pz xe tk _ => by
              unfold catT at hrc
              split at hrc
              · split at hrc
                · rename_i e1
                  subst e1
                  cases hrc
                  exact pss_one (ps_expr (act pz xe W' _ _ tk) (no_swap rfl _ _ _))
                · cases hrc
              · split at hrc
                · rename_i e1
                  subst e1
                  cases hrc
                  exact pss_one (ps_ret (act pz xe W' _ _ tk))
                · cases hrc
              · cases hrc
            have tt := pss_cons (ps_tryMix (pos := pt) (tb := tb) st fr c.x.nd c.x.tk hb (hds_ok c hl)) ((snd_allS fu).2 X W G k C _ is n c hp his)
            refine ⟨fun pn s sg H Dn I ⟨O, env, h, le, eo, S, z0, Fd, w⟩ => tt.run pn s sg H Dn I ⟨z0, S.sub _ _ Fd, O, h, le, S, ?_⟩⟩
            cases er : T h with
            | no => unfold catS at w; simp only [er] at w; exact w.elim
            | ok r h1 =>
              unfold catS at w
              simp only [er] at w
              intro O' v H' s' S' R
              cases rc with
              | true => exact w O' v H' s' S' R
              | false => exact ⟨O', env, h1, eo.stp s', S', PostS.weak w s'⟩
            | ex x h1 =>
              unfold catS at w
              simp only [er] at w
              intro O' cls u H' s' S' xo
              split at w
              · rename_i hx
                have w : PostS X W Dn O H (match hdsF tab x env h1 l with
                  | some (.inl d) => .rt d h1
                  | some (.inr env) => exs (ex G n) is env h1
                  | none => .no) := w
                cases eh : hdsF tab x env h1 l with
                | none => rw [eh] at w; exact w.elim
                | some r =>
                  rw [eh] at w
                  refine hds_w (C := C) (O := O') to (eo.stp s') S' xo (fun cc hm => ⟨(c.x.wf.exc _ hx cc hm).1, (c.x.wf.exc _ hx cc hm).2.2.1⟩) (fun q hq => ⟨(hds_mg c hl q hq).1, fun i hi => by rw [I.len]; exact (hds_mg c hl q hq).2 i hi⟩) eh ?_
                  cases r with
                  | inl dv => exact fun O2 v H2 s2 S2 R => w O2 v H2 (s'.trans s2) S2 R
                  | inr env2 => exact fun O2 sg2 H2 s2 S2 e2 => ⟨O2, env2, h1, e2, S2, PostS.weak w (s'.trans s2)⟩
              · exact w.elim
          · cases h
        · cases h
      · cases h
    · cases h
end
end SI
end
section
set_option Elab.async false
set_option linter.all false
set_option maxRecDepth 100000
set_option maxHeartbeats 4000000
/-! SI21: defs, and the law's end. -/
namespace SI
open PySem PySem.Spec PyProof.Rows L2

/-- a def's body in the small language -/
structure FnE where
  ps : List Str
  N : List Str
  fuel : Nat
  body : List IS
def runF (G : Wr) (e : FnE) (ds : List D) (h : Hs) : Res D := if ds.length = e.ps.length then (match exs (ex G e.fuel) e.body (ds.map some ++ List.replicate (e.N.length - ds.length) none) h with
  | .nx _ h => .ok .non h
  | .rt d h => .ok d h
  | .ex x _ h => .ex x h
  | _ => .no) else .no
/-- the defs, the methods, the classes of a program -/
structure Pg where
  fns : List (Str × FnE)
  mths : List ((Str × Str) × FnE)
  mks : List Str
  cls : List Str
  sub : List ((Str × Str) × Bool)
  exs : List (Str × List Str)
  cats : List (Str × CatE)
/-- an own exception, made -/
def mkE (P : Pg) (k : Nat) (C : Str) (ds : List D) (h : Hs) : Res D := match P.exs.lookup C with
  | some fs => if k ≠ 0 ∧ fs.length = ds.length ∧ ds.length ≤ 1000 then .ok (.exv C fs.reverse ds.reverse) h else .no
  | none => .no
def wr (P : Pg) : Nat → Wr
  | 0 => ⟨fun _ _ _ => .no, fun _ _ _ _ => .no, fun _ _ _ => .no, fun C T => P.sub.lookup (C, T), fun C => decide (C ∈ P.cls), fun C m => (P.mths.lookup (C, m)).isSome, fun C => (P.exs.lookup C).isSome, fun x => (P.fns.lookup x).isSome, none, fun _ _ _ _ => .no⟩
  | k + 1 => ⟨fun x ds h => match P.fns.lookup x with
      | some e => runF (wr P k) e ds h
      | none => .no, fun C m ds h => match P.mths.lookup (C, m) with
      | some e => runF (wr P k) e ds h
      | none => .no, fun C ds h => if C ∈ P.mks then ((wr P k).meth C "__init__" (.ptr h.length :: ds) (h ++ [.ins C []])).bind fun d h' => match d with
        | .non => .ok (.ptr h.length) h'
        | _ => .no else mkE P k C ds h, fun C T => P.sub.lookup (C, T), fun C => decide (C ∈ P.cls), fun C m => (P.mths.lookup (C, m)).isSome, fun C => (P.exs.lookup C).isSome, fun x => (P.fns.lookup x).isSome, some ⟨(wr P k).call, (wr P k).meth, (wr P k).make⟩,
      fun x Tf ds h => match (wr P k).low with
      | none => .no
      | some l => match P.cats.lookup x with
        | some c => (catF (wr P k) c (Tf l) ds h).calm
        | none => .no⟩
section
variable {P : Program} {w : World} {K : PySem.W.Frag} {mg : Mg} {base : Heap}
/-- a def, walked -/
theorem fn_G {kk : Nat} {fa : Addr} {nm ql : Str} {prm : Arguments} {bd : List Stmt} {scp : Scope} {dv kv dc pm cv cx oc : Value} {an od : Option Addr} {osl : Array (Option Value)} {Ns prs : List Str} {spr : Sp}
    (lk : K.lookup fa = some ⟨oc, od, .func (PySem.W.fnOf nm ql prm bd scp dv kv dc pm an cv cx), osl⟩) (cdi : PySem.W.codeIn K cv ql = true) (Sc : FnScope Ns prs scp) (hlen : ∀ vs H Q E, spr vs H Q E → vs.length = prs.length)
    (walk : ∀ (A : Around) (stk : List PySem.Env) (s0 : Shared) (H0 : Hp) (xs : List V) (R : VK) (X0 : XK), Room kk (A.deeper (envOfC ql scp s0.heap.objs.size fa cv)) → A.guards = some [] → spr xs H0 R X0 →
      ∃ t, PSs (cxOf (L2.CX P w) P w K mg base Ns ql scp fa cv A stk s0 H0 X0) bd t ∧ t { nx := fun _ H' => R .non H', rt := R } (start Ns xs) H0) :
    FnG P w K mg base (kk + 1) fa (PySem.W.fnOf nm ql prm bd scp dv kv dc pm an cv cx) prs spr := by
  refine ⟨hlen, fun A stk s0 H0 ar us xs R X0 rm gd ev bt rl hs => ?_⟩
  have kin : K.In s0.heap := ev.mod.kin.keeps fun q u z => (ev.bs q u z).1
  have nl : s0.heap.NoLimit := ev.mod.nolimit.keeps fun q u z => (ev.bs q u z).1
  refine codeAny_call_function rm.depth (kin _ _ lk) rfl Sc.co Sc.gen rfl (PySem.W.codeRec_of kin cdi) (bt _ _ _ _ ?_)
  have kinds : ∀ y ∈ prs.zip us, scp.names.lookup y.1 = some .local ∨ (scp.names.lookup y.1 = some .cell ∧ ((cellsFrom (s0.heap.objs.size + 1) scp.names []).lookup y.1).isSome = true) := fun ⟨n, u⟩ hy =>
    (Sc.par n (List.of_mem_zip hy).1).imp id fun q => ⟨q, PySem.W.cellsFrom_some _ _ _ (.inl q)⟩
  refine wpAny_newFunctionEnv_cells Sc.kind kinds fun en he s1 ic => ?_
  subst he
  refine ⟨nl.keeps ic.toInCall.keep, codeAny_func ?_⟩
  obtain ⟨t, pt, qt⟩ := walk A stk s0 H0 xs R X0 (rm.deeper _) gd hs
  have I := inv_start (E := X0) (CX := L2.CX P w) Sc rm.hd ev (hlen _ _ _ _ hs) rl ic
  refine wpAny_mono (pt.run [] s1 (start Ns xs) H0 _ I qt) (fun fl s' z => ?_) fun _ _ z => z
  have done : ∀ {σ' : L2.St} {H' : Hp} {v : V} {u : Value}, Inv (cxOf (L2.CX P w) P w K mg base Ns ql scp fa cv A stk s0 H0 X0) [] σ' H' s' → RelV v u → R v H' → CE stk P w H0 s0 R u s' := fun {σ' H' v u} J rv q => ⟨v, H', J.os, J.bare, J.base, J.hok, rv, q⟩
  cases fl with
  | ret u => obtain ⟨v, σ', H', J, rv, q⟩ := z; exact done J rv q
  | next => obtain ⟨σ', H', J, q⟩ := z; exact done (v := V.non) (u := Value.none) J rfl q
  | brk => obtain ⟨_, _, _, q⟩ := z; exact q.elim
  | cont => obtain ⟨_, _, _, q⟩ := z; exact q.elim
end
/-! ### an exception's own __init__ -/
def visS (sc : Scope) (x : Str) : Bool := decide (sc.names.lookup x = some .local ∨ sc.names.lookup x = some .cell ∨ sc.names.lookup x = some .free) && noDbg x
def initOf (N : List Str) (sc : Scope) : Nat → List Stmt → Option (List Str)
  | _, [] => some []
  | i, .Assign [.Attribute (.Name s _) f _] (.Name x _) _ :: r => if (N[0]? = some s ∧ N[i]? = some x) ∧ visS sc s = true ∧ visS sc x = true then (initOf N sc (i + 1) r).map (f :: ·) else none
  | _, _ :: _ => none
theorem upd_upd {H : Hp} {a : Addr} {o u : HO} : upd (upd H a o) a u = upd H a u := by
  funext b
  by_cases h : b = a
  · rw [h, upd_same, upd_same]
  · rw [upd_ne h, upd_ne h, upd_ne h]
theorem upd_id {H : Hp} {a : Addr} {o : HO} (h : H a = some o) : upd H a o = H := by
  funext b
  by_cases e : b = a
  · rw [e, upd_same, h]
  · rw [upd_ne e]
theorem init_cons {N : List Str} {sc : Scope} {i : Nat} {st : Stmt} {r : List Stmt} {fs : List Str} (h : initOf N sc i (st :: r) = some fs) : ∃ s p1 f p2 x p3 pos fr, st = .Assign [.Attribute (.Name s p1) f p2] (.Name x p3) pos ∧ fs = f :: fr ∧ N[0]? = some s ∧ N[i]? = some x ∧ visS sc s = true ∧ visS sc x = true ∧ initOf N sc (i + 1) r = some fr := by
  unfold initOf at h
  split at h
  · rename_i h1 h2; cases h2
  · rename_i s p1 f p2 x p3 pos r' hr
    cases hr
    split at h
    · rename_i hc
      obtain ⟨fr, h2, h3⟩ := Option.map_eq_some_iff.mp h
      exact ⟨s, p1, f, p2, x, p3, pos, fr, rfl, h3.symm, hc.1.1, hc.1.2, hc.2.1, hc.2.2, h2⟩
    · cases h
  · cases h
theorem init_old {X : Cx} : ∀ {b : List Stmt} {i : Nat} {fs : List Str}, initOf X.N X.env.scope i b = some fs → ∃ t, PSs X b t ∧ ∀ (D : Ends) (σ : L2.St) (H : Hp) (a c dx : Addr) (acc : List (Str × V)) (vs : List V), OexC X.K c → (∀ f ∈ fs, PySem.W.findIn X.K (.ref c) f = some none) → σ[0]? = some (some (.ref a)) → vs.length = fs.length → (∀ j v, vs[j]? = some v → σ[i + j]? = some (some v)) →
    H a = some (exo a c (some dx)) → H dx = some (exd dx acc) → acc.length + fs.length ≤ 900 → dx ≠ a → D.nx σ (upd H dx (exd dx ((fs.zip vs).reverse ++ acc))) → t D σ H
  | [], i, fs, h => by
    cases h
    refine ⟨_, pss_nil, fun D σ H a c dx acc vs T hno h0 hl hv ha hd hz ne q => ?_⟩
    have q : D.nx σ (upd H dx (exd dx acc)) := q
    rw [upd_id hd] at q
    exact q
  | st :: r, i, fs, h => by
    obtain ⟨s, p1, f, p2, x, p3, pos, fr, rfl, rfl, n0, ni, v1, v2, h2⟩ := init_cons h
    obtain ⟨u, hu, ku⟩ := init_old h2
    simp only [visS, noDbg, Bool.and_eq_true, decide_eq_true_eq, Bool.not_eq_true'] at v1 v2
    refine ⟨_, pss_cons (ps_ost (pe_var n0 v1.1 v1.2.1 v1.2.2) (pe_var ni v2.1 v2.2.1 v2.2.2)) hu, fun D σ H a c dx acc vs T hno h0 hl hv ha hd hz ne q => ?_⟩
    cases vs with
    | nil => simp at hl
    | cons v vs =>
      refine ⟨v, hv 0 v rfl, .ref a, h0, a, c, rfl, T, hno f List.mem_cons_self, .inr ⟨dx, acc, ha, hd, by simp at hz; omega, ?_⟩⟩
      refine ku D σ _ a c dx ((f, v) :: acc) vs T (fun g hg => hno g (List.mem_cons_of_mem _ hg)) h0 (by simpa using hl) (fun j w e => by rw [Nat.add_right_comm]; exact hv (j + 1) w (by simpa using e)) (by rw [upd_ne (Ne.symm ne)]; exact ha) upd_same (by simp at hz ⊢; omega) ne ?_
      rw [upd_upd]
      have e : ((f :: fr).zip (v :: vs)).reverse ++ acc = (fr.zip vs).reverse ++ (f, v) :: acc := by simp
      rw [e] at q
      exact q
theorem init_new {X : Cx} {b : List Stmt} {fs : List Str} (hne : fs ≠ []) (h : initOf X.N X.env.scope 1 b = some fs) : ∃ t, PSs X b t ∧ ∀ (D : Ends) (σ : L2.St) (H : Hp) (a c : Addr) (vs : List V), OexC X.K c → (∀ f ∈ fs, PySem.W.findIn X.K (.ref c) f = some none) → σ[0]? = some (some (.ref a)) → vs.length = fs.length → (∀ j v, vs[j]? = some v → σ[1 + j]? = some (some v)) →
    H a = some (exo a c none) → fs.length ≤ 900 → (∀ dx, H dx = none → dx ≠ a → D.nx σ (upd (upd H dx (exd dx (fs.zip vs).reverse)) a (exo a c (some dx)))) → t D σ H := by
  cases b with
  | nil => cases h; exact absurd rfl hne
  | cons st r =>
    obtain ⟨s, p1, f, p2, x, p3, pos, fr, rfl, rfl, n0, ni, v1, v2, h2⟩ := init_cons h
    obtain ⟨u, hu, ku⟩ := init_old h2
    simp only [visS, noDbg, Bool.and_eq_true, decide_eq_true_eq, Bool.not_eq_true'] at v1 v2
    refine ⟨_, pss_cons (ps_ost (pe_var n0 v1.1 v1.2.1 v1.2.2) (pe_var ni v2.1 v2.2.1 v2.2.2)) hu, fun D σ H a c vs T hno h0 hl hv ha hz q => ?_⟩
    cases vs with
    | nil => simp at hl
    | cons v vs =>
      refine ⟨v, hv 0 v rfl, .ref a, h0, a, c, rfl, T, hno f List.mem_cons_self, .inl ⟨ha, fun dx hdx ne => ?_⟩⟩
      refine ku D σ _ a c dx [(f, v)] vs T (fun g hg => hno g (List.mem_cons_of_mem _ hg)) h0 (by simpa using hl) (fun j w e => by rw [Nat.add_right_comm]; exact hv (j + 1) w (by simpa using e)) upd_same (by rw [upd_ne ne, upd_same]) (by simp at hz ⊢; omega) ne ?_
      have z := q dx hdx ne
      have e : ((f :: fr).zip (v :: vs)).reverse = (fr.zip vs).reverse ++ [(f, v)] := by simp
      rw [e] at z
      have eu : upd (upd (upd H dx (exd dx [(f, v)])) a (exo a c (some dx))) dx (exd dx ((fr.zip vs).reverse ++ [(f, v)])) = upd (upd H dx (exd dx ((fr.zip vs).reverse ++ [(f, v)]))) a (exo a c (some dx)) := by
        funext b
        by_cases hb1 : b = dx
        · rw [hb1, upd_same, upd_ne ne, upd_same]
        · rw [upd_ne hb1]
          by_cases hb2 : b = a
          · rw [hb2, upd_same, upd_same]
          · rw [upd_ne hb2, upd_ne hb2, upd_ne hb1, upd_ne hb1]
      rw [eu]
      exact z
structure InitOk (K : PySem.W.Frag) (fs : List Str) (f : Addr) (fd : FuncData) (ps : List Str) : Prop where
  ex : ∃ (x qual : Str) (params : Arguments) (body : List Stmt) (scope : Scope), FunD K x qual params body scope [] [] f fd ∧ FnScope ps ps scope ∧ initOf ps scope 1 body = some fs
  bi : Binds K fd ps []
  len : ps.length = fs.length + 1
  z : fs.length ≤ 900
  ne : fs ≠ []
theorem init_G {P : Program} {w : World} {K : PySem.W.Frag} {mg : Mg} {base : Heap} {fs : List Str} {f : Addr} {fd : FuncData} {ps : List Str} (o : InitOk K fs f fd ps) : FnG P w K mg base 1 f fd ps (spE K fs) := by
  obtain ⟨x, qual, params, body, scope, F, Sc, hi⟩ := o.ex
  obtain ⟨oc, od, dV, kV, doc, pm, an, cdv, ct, osl, rfl, lk, hcd, _, _⟩ := F.ex
  refine fn_G lk hcd Sc (fun vs H Q E h => h.1.trans o.len.symm) fun A stk s0 H0 xs R X0 rm gd ⟨hl, a, c, vs, ex, T, hno, ha, q⟩ => ?_
  subst ex
  obtain ⟨t, pt, kt⟩ := init_new (X := cxOf (L2.CX P w) P w K mg base ps qual scope f cdv A stk s0 H0 X0) o.ne hi
  have hv : vs.length = fs.length := by simpa using hl
  refine ⟨t, pt, kt _ _ _ a c vs T hno rfl hv (fun j v e => ?_) ha o.z fun dx hdx ne => ?_⟩
  · unfold L2.start
    have hj := (List.getElem?_eq_some_iff.mp e).1
    rw [List.getElem?_append_left (by simp; omega), Nat.add_comm, List.map_cons, List.getElem?_cons_succ, List.getElem?_map, e]; rfl
  · have z := q dx hdx ne
    rw [← zip_rev hv.symm] at z
    exact z
section
variable {P : Program} {w : World} {K : PySem.W.Frag} {mg : Mg} {base : Heap}
/-- a def of the text and its body in the small language -/
structure EntOk (K : PySem.W.Frag) (mg : Mg) (T : Tab) (f : Addr) (fd : FuncData) (e : FnE) : Prop where
  ex : ∃ (x qual : Str) (params : Arguments) (body : List Stmt) (scope : Scope) (C : Ctx) (fu : Nat), FunD K x qual params body scope [] [] f fd ∧ FnScope e.N e.ps scope ∧ C.N = e.N ∧ C.sc = scope ∧ C.all = true ∧ C.T = T ∧ compSs fu C body = some e.body ∧
    ((C.nm == ("" : Str)) = false → C.nm ∈ T.lams ∧ mg C.nm = some (.ref f) ∧ qual = C.nm)
  bi : Binds K fd e.ps []
theorem start_env {O : Om} {e : FnE} {ds : List D} {vs : List V} (r : RepL K mg O ds vs) : NvOk K mg O (ds.map some ++ List.replicate (e.N.length - ds.length) none) (start e.N vs) := by
  have hl := r.length
  refine ⟨by unfold L2.start; simp [hl], fun i d q => ?_⟩
  by_cases hi : i < ds.length
  · rw [List.getElem?_append_left (by simpa using hi), List.getElem?_map] at q
    cases h : ds[i]? with
    | none => rw [h] at q; cases q
    | some d' =>
      rw [h] at q
      cases q
      obtain ⟨v, hv, rv⟩ := r.get h
      refine ⟨v, ?_, rv⟩
      unfold L2.start
      rw [List.getElem?_append_left (by rw [List.length_map]; omega), List.getElem?_map, hv]; rfl
  · rw [List.getElem?_append_right (by rw [List.length_map]; omega), List.getElem?_replicate] at q
    split at q <;> cases q
theorem runF_len {G : Wr} {e : FnE} {ds : List D} {h : Hs} (ne : runF G e ds h ≠ .no) : ds.length = e.ps.length := by
  unfold runF at ne
  split at ne
  · assumption
  · exact absurd rfl ne
/-- a def that calls what it was given -/
structure CatX (K : PySem.W.Frag) (mg : Mg) (T : Tab) (g : Addr) (fd : FuncData) (c : CatE) : Prop where
  ex : ∃ (x qual : Str) (params : Arguments) (body : List Stmt) (scope : Scope) (C : Ctx) (fu : Nat) (a : Str) (r : List Str), FunD K x qual params body scope [] [] g fd ∧ FnScope c.N c.ps scope ∧ C.N = c.N ∧ C.sc = scope ∧ C.all = true ∧ C.T = T ∧ (C.nm == ("" : Str)) = true ∧ c.ps = a :: r ∧ noDbg a = true ∧ C.vis a = true ∧ catOf fu C a body = some c.b
  bi : Binds K fd c.ps []
  tab : ∀ x y b, c.tab.lookup (x, y) = some b → ∀ c1 c2, mg x = some (.ref c1) → mg y = some (.ref c2) → PySem.W.exmOne K (.ref c1) (.ref c2) = some b
/-- the facts of a program's text -/
structure PgOk (K : PySem.W.Frag) (mg : Mg) (Pr : Pg) (T : Tab) : Prop where
  fns : ∀ x e, Pr.fns.lookup x = some e → ∃ f fd, mg x = some (.ref f) ∧ EntOk K mg T f fd e
  glo : ∀ x ∈ T.fns, ∃ f, mg x = some (.ref f) ∧ PySem.W.keepIn K (.ref f) = true
  mths : ∀ C m e, Pr.mths.lookup (C, m) = some e → ∃ c f fd, mg C = some (.ref c) ∧ Meth K c m f ∧ EntOk K mg T f fd e
  mks : ∀ C ∈ Pr.mks, ∃ c f, mg C = some (.ref c) ∧ Mk K c f
  cls : ∀ C ∈ Pr.cls, ∀ c, mg C = some (.ref c) → ClsF K c ∧ (∀ f ∈ T.attrs, NoAttr K c f) ∧ ∀ B ∈ bTys, PySem.W.kitOne K (.ref c) (.type B) = some false
  clg : ∀ C ∈ T.cls, ∃ c, mg C = some (.ref c) ∧ PySem.W.keepIn K (.ref c) = true ∧ ∀ B ∈ ["NoneType", "bool", "int", "str", "tuple", "list", "dict"], PySem.W.kitOne K (.type B) (.ref c) = some false
  sub : ∀ C T' b, Pr.sub.lookup (C, T') = some b → ∀ c t, mg C = some (.ref c) → mg T' = some (.ref t) → PySem.W.kitOne K (.ref c) (.ref t) = some b
  cst : ∀ p ∈ T.cst, ∃ u v, mg p.1 = some u ∧ L2.RelV v u ∧ ∀ O, Rep K mg O p.2 v
  free : ∀ x ∈ T.free, mg x = none
  cms : ∀ p ∈ T.cms, ∃ c f, mg p.1 = some (.ref c) ∧ PySem.W.keepIn K (.ref f) = true ∧ Meth K c p.2 f ∧ PySem.W.readsIn K c (.type "type") = true ∧ PySem.W.specialIn K (.ref c) "__getattribute__" = some (some (.builtin "type.__getattribute__")) ∧
    PySem.W.findCls K (.ref c) (.type "type") p.2 = some (.val (.ref f))
  exs : ∀ C fs, Pr.exs.lookup C = some fs → ∃ c, mg C = some (.ref c) ∧ ((fs = [] ∧ PySem.W.excIn K c He.veBase "ValueError.__new__" = true) ∨ (∃ f fd ps, OexC K c ∧ (∀ f ∈ fs, PySem.W.findIn K (.ref c) f = some none) ∧ PySem.W.findIn K (.ref c) "__init__" = some (some (.ref f)) ∧ PySem.W.typeIn K (.ref f) = some (.type "function") ∧ InitOk K fs f fd ps))
  exc : ∀ C, (Pr.exs.lookup C).isSome = true → ∀ c, mg C = some (.ref c) → XfC K c ∧ ExcC K c ∧ (∀ f ∈ T.attrs, PySem.W.findIn K (.ref c) f = some none) ∧ PySem.W.kitOne K (.ref c) (.type "ValueError") = some true
  cats : ∀ x c, Pr.cats.lookup x = some c → ∃ g fd, mg x = some (.ref g) ∧ CatX K mg T g fd c
  catg : ∀ x ∈ T.cats, ∃ f, mg x = some (.ref f) ∧ PySem.W.keepIn K (.ref f) = true
/-- every def keeps its promise at level k -/
def AllG (P : Program) (w : World) (K : PySem.W.Frag) (mg : Mg) (base : Heap) (Pr : Pg) (T : Tab) (k : Nat) : Prop := ∀ f fd e, EntOk K mg T f fd e → FnG P w K mg base k f fd e.ps (spF K mg e.ps.length fun ds h => match k with
  | 0 => .no
  | k + 1 => runF (wr Pr k) e ds h)
theorem wf0_of {Pr : Pg} {T : Tab} {k : Nat} {X : Cx} (pg : PgOk X.K X.mg Pr T) (ih : ∀ j, j ≤ k → AllG X.prog X.w X.K X.mg X.base Pr T j) : Wf0 X (wr Pr k) k T := by
  have same : ∀ k, (wr Pr k).sub = (fun C T => Pr.sub.lookup (C, T)) ∧ (wr Pr k).cls = (fun C => decide (C ∈ Pr.cls)) ∧ (wr Pr k).mth = fun C m => (Pr.mths.lookup (C, m)).isSome := fun k => by cases k <;> exact ⟨rfl, rfl, rfl⟩
  have sameE : ∀ k, (wr Pr k).exc = fun C => (Pr.exs.lookup C).isSome := fun k => by cases k <;> rfl
  refine ⟨pg.glo, fun x ds h ne => ?_, fun C m h => ?_, fun C m ds h ne => ?_, fun C ds h ne => ?_, fun C hc => ?_, fun C hc => ?_, pg.clg, fun C T' b h => ?_, pg.cst, pg.free, pg.cms, fun x hx => ?_, pg.catg⟩
  · cases k with
    | zero => exact absurd rfl ne
    | succ k =>
      cases hl : Pr.fns.lookup x with
      | none => exact absurd (show (wr Pr (k + 1)).call x ds h = .no by show (match Pr.fns.lookup x with | some e => runF (wr Pr k) e ds h | none => .no) = _; rw [hl]) ne
      | some e =>
        obtain ⟨f, fd, hm, en⟩ := pg.fns x e hl
        have ec : (wr Pr (k + 1)).call x = fun ds h => runF (wr Pr k) e ds h := by
          funext ds h
          show (match Pr.fns.lookup x with | some e => runF (wr Pr k) e ds h | none => .no) = _
          rw [hl]
        rw [ec] at ne ⊢
        exact ⟨f, fd, e.ps, hm, en.bi, (runF_len ne).symm, ih (k + 1) (Nat.le_refl _) f fd e en⟩
  · rw [(same k).2.2] at h
    obtain ⟨e, hl⟩ := Option.isSome_iff_exists.mp h
    obtain ⟨c, f, fd, hm, M, _⟩ := pg.mths C m e hl
    exact ⟨c, f, hm, M⟩
  · cases k with
    | zero => exact absurd rfl ne
    | succ k =>
      cases hl : Pr.mths.lookup (C, m) with
      | none => exact absurd (show (wr Pr (k + 1)).meth C m ds h = .no by show (match Pr.mths.lookup (C, m) with | some e => runF (wr Pr k) e ds h | none => .no) = _; rw [hl]) ne
      | some e =>
        obtain ⟨c, f, fd, hm, M, en⟩ := pg.mths C m e hl
        have ec : (wr Pr (k + 1)).meth C m = fun ds h => runF (wr Pr k) e ds h := by
          funext ds h
          show (match Pr.mths.lookup (C, m) with | some e => runF (wr Pr k) e ds h | none => .no) = _
          rw [hl]
        rw [ec] at ne ⊢
        exact ⟨c, f, fd, e.ps, hm, M, en.bi, (runF_len ne).symm, ih (k + 1) (Nat.le_refl _) f fd e en⟩
  · cases k with
    | zero => exact absurd rfl ne
    | succ k =>
      by_cases hC : C ∈ Pr.mks
      · have em : ∀ ds h, (wr Pr (k + 1)).make C ds h = ((wr Pr k).meth C "__init__" (.ptr h.length :: ds) (h ++ [.ins C []])).bind fun d h' => match d with
          | .non => .ok (.ptr h.length) h'
          | _ => .no := fun ds h => if_pos hC
        rw [em] at ne
        obtain ⟨c, f, hm, M⟩ := pg.mks C hC
        have ne2 : (wr Pr k).meth C "__init__" (.ptr h.length :: ds) (h ++ [.ins C []]) ≠ .no := fun z => ne (by rw [z]; rfl)
        cases k with
        | zero => exact absurd rfl ne2
        | succ k =>
          cases hl : Pr.mths.lookup (C, ("__init__" : Str)) with
          | none => exact absurd (show (wr Pr (k + 1)).meth C "__init__" _ _ = .no by show (match Pr.mths.lookup (C, ("__init__" : Str)) with | some e => runF (wr Pr k) e _ _ | none => .no) = _; rw [hl]) ne2
          | some e =>
            obtain ⟨c', f', fd, hm', M', en⟩ := pg.mths C "__init__" e hl
            rw [hm] at hm'
            cases hm'
            have ef : f = f' := by
              have z := M.init.symm.trans M'.at_
              simpa using z
            subst ef
            have ec : (wr Pr (k + 1)).meth C "__init__" = fun ds h => runF (wr Pr k) e ds h := by
              funext ds h
              show (match Pr.mths.lookup (C, ("__init__" : Str)) with | some e => runF (wr Pr k) e ds h | none => .no) = _
              rw [hl]
            have em' := em
            rw [ec] at ne2 em'
            exact .inl ⟨c, f, fd, e.ps, k + 1, fun ds h => runF (wr Pr k) e ds h, hm, M, en.bi, (runF_len ne2).symm, Nat.le_refl _, ih (k + 1) (Nat.le_succ _) f fd e en, em'⟩
      · have em : (wr Pr (k + 1)).make C ds h = mkE Pr k C ds h := if_neg hC
        unfold mkE at em
        cases hl : Pr.exs.lookup C with
        | none => rw [hl] at em; exact absurd em ne
        | some fs =>
          rw [hl] at em
          have em : (wr Pr (k + 1)).make C ds h = if k ≠ 0 ∧ fs.length = ds.length ∧ ds.length ≤ 1000 then .ok (.exv C fs.reverse ds.reverse) h else .no := em
          by_cases hc : k ≠ 0 ∧ fs.length = ds.length ∧ ds.length ≤ 1000
          · rw [if_pos hc] at em
            obtain ⟨c, hm, z⟩ := pg.exs C fs hl
            refine .inr ⟨c, fs, hm, hc.2.1, hc.2.2, em, ?_⟩
            rcases z with ⟨z1, z2⟩ | ⟨f, fd, ps, T1, T2, T3, T4, o⟩
            · exact .inl ⟨z1, z2⟩
            · exact .inr ⟨o.ne, f, fd, ps, T1, T2, T3, T4, o.bi, by omega, init_G o⟩
          · rw [em, if_neg hc] at ne; exact absurd rfl ne
  · rw [sameE k] at hc
    exact pg.exc C hc
  · rw [(same k).2.1] at hc
    exact pg.cls C (of_decide_eq_true hc)
  · rw [(same k).1] at h
    exact pg.sub C T' b h
  · have e1 : (wr Pr k).fnk = fun x => (Pr.fns.lookup x).isSome := by cases k <;> rfl
    rw [e1] at hx
    obtain ⟨e, hl⟩ := Option.isSome_iff_exists.mp hx
    obtain ⟨f, fd, hm, en⟩ := pg.fns x e hl
    obtain ⟨_, _, _, _, _, _, _, F, _⟩ := en.ex
    exact ⟨f, hm, F.kp⟩
theorem start_cat {O : Om} {N : List Str} {ds : List D} {vs : List V} {v0 : V} (r : RepL K mg O ds vs) (hN : N ≠ []) : NvOk K mg O (none :: (ds.map some ++ List.replicate (N.length - (ds.length + 1)) none)) (start N (v0 :: vs)) := by
  have hl := r.length
  refine ⟨by unfold L2.start; simp [hl], fun i d q => ?_⟩
  cases i with
  | zero => cases q
  | succ i =>
    have q : (ds.map some ++ List.replicate (N.length - (ds.length + 1)) none)[i]? = some (some d) := q
    by_cases hi : i < ds.length
    · rw [List.getElem?_append_left (by simpa using hi), List.getElem?_map] at q
      cases h : ds[i]? with
      | none => rw [h] at q; cases q
      | some d' =>
        rw [h] at q
        cases q
        obtain ⟨v, hv, rv⟩ := r.get h
        refine ⟨v, ?_, rv⟩
        unfold L2.start
        rw [List.getElem?_append_left (by simp; omega), List.map_cons, List.getElem?_cons_succ, List.getElem?_map, hv]; rfl
    · rw [List.getElem?_append_right (by rw [List.length_map]; omega), List.getElem?_replicate] at q
      split at q <;> cases q
theorem cat_G {Pr : Pg} {T : Tab} {j : Nat} {g : Addr} {fd : FuncData} {c : CatE} (cx : CatX K mg T g fd c) (wf : ∀ X : Cx, X.prog = P → X.w = w → X.K = K → X.mg = mg → X.base = base → Wf X (wr Pr (j + 1)) (j + 1) T) : CatG P w K mg base j g (catF (wr Pr (j + 1)) c) := by
  intro A outer s H f d q Tk us vs O ds h Q rm gd e0 act rv rl S Fd post
  obtain ⟨x, qual, params, body, scope, C, fu, a, r, F, Sc, hN, hsc, hall, hT, hnm, hps, hda, hva, hcat⟩ := cx.ex
  obtain ⟨oc, od, dV, kV, doc, pm, an, cdv, ct, osl, rfl, lk, hcd, _, _⟩ := F.ex
  unfold catF at post
  by_cases hlen : ds.length + 1 = c.ps.length
  · rw [if_pos hlen] at post
    have hl : (V.ref f :: vs).length = c.ps.length := by rw [List.length_cons, ← rl.length]; exact hlen
    have hu : (Value.ref f :: us).length = c.ps.length := by rw [List.length_cons, ← Vals.length rv]; exact hl
    have b := cx.bi s (Value.ref f :: us) (e0.mod.kin.keeps fun q u z => (e0.bs q u z).1) (by rw [List.append_nil]; exact hu)
    rw [List.append_nil] at b
    have a0 : c.N[0]? = some a := by
      have z := Sc.pre
      rw [hps] at z
      cases hn : c.N with
      | nil => rw [hn] at z; cases z
      | cons n0 nr =>
        rw [hn] at z
        have z : n0 :: nr.take r.length = a :: r := z
        rw [(List.cons.inj z).1]; rfl
    refine LamX.run_ofS (CX := L2.CX P w) (N := c.N) (ps := c.ps) (vs := .ref f :: vs) lk hcd Sc rm e0 b (.cons rfl rv) hl fun hr' => ?_
    let X := cxOf (L2.CX P w) P w K mg base c.N qual scope g cdv A outer s H EK0
    let W : WX := fun cls d _ H => EK0 cls d H
    have tk : Takes X W := takes_of rfl rfl rfl rfl
    have cxo : CxOk X W (wr Pr (j + 1)) (j + 1) C := ⟨⟨hr', gd, tk, by rw [hT]; exact wf X rfl rfl rfl rfl rfl, Sc.nd, rfl⟩, hN.symm, hsc.symm, Sc.kind, fun _ _ => rfl, fun z => by rw [hnm] at z; cases z⟩
    have hv : Vis scope a := by
      have z := cxo.vis hva
      exact z
    refine ⟨_, cat_ok (n := c.fuel) (tab := c.tab) (f := f) (d := d) (q := q) (T := Tk) (O0 := O) cxo (passes_of rfl) rfl rfl cx.tab (fun pz xe W' p1 p2 tk' => act c.N qual a scope cdv pz xe W' 0 p1 p2 a0 hv (noDbg_ok hda).1 (noDbg_ok hda).2 hr' tk') hcat, O, _, h, ⟨Nat.le_refl _, fun _ _ => rfl, fun _ _ e => e⟩, start_cat rl (fun z => by rw [z] at a0; cases a0), S, rfl, Fd, ?_⟩
    cases er : catS (wr Pr (j + 1)) c.fuel c.tab c.b Tk (none :: (ds.map some ++ List.replicate (c.N.length - (ds.length + 1)) none)) h with
    | nx env h' => rw [er] at post; exact fun O' sg' H' s S' e' => post O' _ H' s S' .non
    | rt d h' => rw [er] at post; exact fun O' v H' s S' r => post O' v H' s S' r
    | ex x env h' => rw [er] at post; exact post.elim
    | bk env h' => rw [er] at post; exact post.elim
    | ct env h' => rw [er] at post; exact post.elim
    | no => rw [er] at post; exact post.elim
  · rw [if_neg hlen] at post
    exact post.elim
theorem wf_of {Pr : Pg} {T : Tab} (pg : PgOk K mg Pr T) : ∀ k : Nat, (∀ j, j ≤ k → AllG P w K mg base Pr T j) → ∀ X : Cx, X.prog = P → X.w = w → X.K = K → X.mg = mg → X.base = base → Wf X (wr Pr k) k T
  | 0, ih, X, e1, e2, e3, e4, e5 => by
    subst e1 e2 e3 e4 e5
    exact ⟨wf0_of pg ih, fun x Tf ds h ne => absurd rfl ne⟩
  | 1, ih, X, e1, e2, e3, e4, e5 => by
    subst e1 e2 e3 e4 e5
    exact ⟨wf0_of pg ih, fun x Tf ds h ne => absurd rfl ne⟩
  | j + 2, ih, X, e1, e2, e3, e4, e5 => by
    have w1 := wf_of pg (j + 1) fun i hi => ih i (by omega)
    subst e1 e2 e3 e4 e5
    refine ⟨wf0_of pg ih, fun x Tf ds h ne => ?_⟩
    have el : ∀ Tf ds h, (wr Pr (j + 2)).lam x Tf ds h = match Pr.cats.lookup x with
        | some c => (catF (wr Pr (j + 1)) c (Tf ⟨(wr Pr j).call, (wr Pr j).meth, (wr Pr j).make⟩) ds h).calm
        | none => .no := fun _ _ _ => rfl
    cases hl : Pr.cats.lookup x with
    | none => exact absurd (by rw [el, hl]) ne
    | some c =>
      obtain ⟨g, fd, hm, cx⟩ := pg.cats x c hl
      have w0 : Wf0 X (wr Pr j) j T := wf0_of pg fun i hi => ih i (by omega)
      have same : (wr Pr (j + 2)).at ⟨(wr Pr j).call, (wr Pr j).meth, (wr Pr j).make⟩ = ⟨(wr Pr j).call, (wr Pr j).meth, (wr Pr j).make, (wr Pr j).sub, (wr Pr j).cls, (wr Pr j).mth, (wr Pr j).exc, (wr Pr j).fnk, none, fun _ _ _ _ => .no⟩ := by cases j <;> rfl
      refine ⟨g, j, ⟨(wr Pr j).call, (wr Pr j).meth, (wr Pr j).make⟩, fun T ds h => catF (wr Pr (j + 1)) c T ds h, hm, rfl, fun Tf ds h => by rw [el, hl], cat_G cx w1, ?_⟩
      rw [same]
      exact ⟨w0.glo, w0.call, w0.mth, w0.meth, w0.make, w0.exc, w0.cls, w0.clg, w0.sub, w0.cst, w0.free, w0.cms, w0.fnk, w0.cats⟩
theorem all_G {Pr : Pg} {T : Tab} (pg : PgOk K mg Pr T) (tb : ∀ x ∈ T.lams, ∀ c p, TabAt K mg x c p → LamX.TabB base mg c p) : ∀ k j, j ≤ k → AllG P w K mg base Pr T j
  | 0, 0, _ => fun f fd e en => ⟨fun vs H Q E h => h.1, fun A outer s H args us vs Q E hr hg he hb rv ⟨_, O, ds, h, _, _, z⟩ => z.elim⟩
  | 0, j + 1, h => absurd h (by omega)
  | k + 1, j, h => by
    by_cases hj : j ≤ k
    · exact all_G pg tb k j hj
    · have : j = k + 1 := by omega
      subst this
      intro f fd e en
      obtain ⟨x, qual, params, body, scope, C, fu, F, Sc, hN, hsc, hall, hT, hc, hnm⟩ := en.ex
      obtain ⟨oc, od, dV, kV, doc, pm, an, cdv, ct, osl, rfl, lk, hcd, _, _⟩ := F.ex
      refine fn_G lk hcd Sc (fun vs H Q E h => h.1) fun A stk s0 H0 xs R X0 rm gd ⟨hl, O, ds, h, rl, S, z⟩ => ?_
      let X := cxOf (L2.CX P w) P w K mg base e.N qual scope f cdv A stk s0 H0 X0
      let W : WX := fun cls d _ H => X0 cls d H
      have tk : Takes X W := takes_of rfl rfl rfl rfl
      have wf : Wf X (wr Pr k) k T := wf_of pg k (all_G pg tb k) X rfl rfl rfl rfl rfl
      have cx : CxOk X W (wr Pr k) k C := ⟨⟨rm, gd, tk, by rw [hT]; exact wf, Sc.nd, rfl⟩, hN.symm, hsc.symm, Sc.kind, fun _ _ => rfl, fun z => by
        obtain ⟨z1, z2, z3⟩ := hnm z
        subst z3
        refine ⟨rfl, fun c p ta => ?_⟩
        have tb' := tb _ z1 c p ta
        obtain ⟨f', ob, fd', m1, m2, m3, m4, m5⟩ := ta
        have m1 : mg C.nm = some (.ref f') := m1
        rw [z2] at m1
        cases m1
        have m2 : K.lookup f = some ob := m2
        rw [lk] at m2
        cases m2
        cases m3
        exact ⟨m4, tb'⟩⟩
      refine ⟨_, (snd_allS fu).2 X W (wr Pr k) k C body e.body e.fuel cx (passes_of rfl) hc, O, _, h, start_env rl, S, ?_⟩
      have z : (match runF (wr Pr k) e ds h with
        | .ok d h' => ∀ (O' : Om) (v : V) (H' : Hp), Stp O H0 O' H' → SR K mg O' h' H' → Rep K mg O' d v → R v H'
        | .ex x h' => ∀ (O' : Om) (cls : Value) (d : Option Addr) (H' : Hp), Stp O H0 O' H' → SR K mg O' h' H' → ExOk K mg O' x cls d → X0 cls d H'
        | .no => False) := z
      have hd : ds.length = e.ps.length := by rw [rl.length, hl]
      unfold runF at z
      rw [if_pos hd] at z
      cases q : exs (ex (wr Pr k) e.fuel) e.body (ds.map some ++ List.replicate (e.N.length - ds.length) none) h with
      | nx env h' => rw [q] at z; exact fun O' sg' H' s S' e' => z O' _ H' s S' .non
      | rt d h' => rw [q] at z; exact fun O' v H' s S' r => z O' v H' s S' r
      | ex x env h' => rw [q] at z; exact fun O' cls d sg' H' s S' e' x => z O' cls d H' s S' x
      | bk env h' => rw [q] at z; exact z.elim
      | ct env h' => rw [q] at z; exact z.elim
      | no => rw [q] at z; exact z.elim
end
end SI
end
section
set_option Elab.async false
set_option linter.all false
set_option maxRecDepth 100000
set_option maxHeartbeats 4000000
/-! SI22: the law's end over defs that know that no repr is under way; the facts of a text. -/
namespace SI
open PySem PySem.Spec PyProof.Rows L2

theorem law_G {P : Program} {w : World} {K : PySem.W.Frag} {mg mb : Str → Option Value} {kk : Nat} {fa sa : Addr} {fd : FuncData} {y : Str} {spr : Sp} {st : Shared} {its : List Value} {zs : List Int}
    (kin : K.In st.heap) (gl : st.heap.Ns mainGlobals mg) (bl : st.heap.Ns builtinsNs mb) (bb : ∀ z : Str, z ≠ "__name__" → mb z = bootBuiltins z) (nl : st.heap.NoLimit) (gn : st.gens = #[])
    (sc : st.heap.get? sa = some { cls := .type "list", data := .seq its.toArray }) (ia : IntsAre its zs) (ll : zs.length ≤ sizeLine) (rm : Room kk callerA)
    (Fn : ∀ B : Heap, K.In B → B.Ns mainGlobals mg → FnG P w K mg B kk fa fd [y] spr) (bi : ∀ (s : Shared) (u : Value), BindsTo s fd ⟨[u], []⟩ [(y, u)])
    (want : ∀ T : Hp, Only T → SqL K T sa (zs.map V.int) → spr [.ref sa] T (fun v _ => v = .bl true) fun _ _ _ => False) :
    codeAny (model P w) callerA (.call (.ref fa) ⟨[.ref sa], []⟩) (fun r s' => r = .ok (.ret (.bool true)) ∧ OldK st.heap s'.heap ∧ s'.os = st.os ∧ AllBare s'.gens) st := by
  have vi := vals_ints ia
  have main : ∀ T : Hp, Only T → SqL K T sa (zs.map V.int) → HOk P w T st.heap → (∀ c, T c ≠ none → c = sa) → (T sa ≠ none → K.lookup sa = none) →
      codeAny (model P w) callerA (.call (.ref fa) ⟨[.ref sa], []⟩) (fun r s' => r = .ok (.ret (.bool true)) ∧ OldK st.heap s'.heap ∧ s'.os = st.os ∧ AllBare s'.gens) st := by
    intro T on sq ok at_ nk
    have inB : ∀ {c : Addr} {u : Obj}, st.heap.get? c = some u → T c = none → (hidT st.heap T).get? c = some u := fun e z => hidT_get e z
    have dictN : ∀ {c : Addr} {u : Obj} {es : Array DictEntry} {ep : Nat}, st.heap.get? c = some u → u.data = .dict es ep → T c = none := fun {c u es ep} e dd => by
      cases q : T c with
      | none => rfl
      | some z =>
        obtain rfl : c = sa := at_ c (by rw [q]; exact Option.some_ne_none z)
        rw [sc] at e
        cases e
        exact absurd dd (fun t => by cases t)
    have nsB : ∀ {c : Addr} {m : Str → Option Value}, st.heap.Ns c m → (hidT st.heap T).Ns c m := fun {c m} ⟨u, es, ep, e, dd, r⟩ => ⟨u, es, ep, inB e (dictN e dd), dd, r⟩
    have kB : K.In (hidT st.heap T) := fun c u e => inB (kin c u e) (by
      cases q : T c with
      | none => rfl
      | some z =>
        obtain rfl : c = sa := at_ c (by rw [q]; exact Option.some_ne_none z)
        rw [nk (by rw [q]; exact Option.some_ne_none z)] at e
        cases e)
    have md : Mod K mg (hidT st.heap T) := ⟨kB, nsB gl, ⟨mb, nsB bl, bb⟩, let ⟨mc, h1, h2⟩ := nl; ⟨mc, nsB h1, h2⟩⟩
    have ev : Env0 P w K mg (hidT st.heap T) callerA [] st T := ⟨rfl, md, fun c u e => of_hidT e, Nat.le_of_eq (hidT_size _ _), trivial, fun c hc => (List.not_mem_nil hc).elim, ok, .of_eq gn⟩
    refine codeAny_mono ((Fn _ kB (nsB gl)).run callerA [] st T ⟨[.ref sa], []⟩ [.ref sa] [.ref sa] _ _ rm rfl ev (bi st (.ref sa)) (.cons rfl .nil) (want T on sq)) fun r s' z => ?_
    cases r with
    | error ex => exact (let ⟨_, _, _, _, _, _, _, _, _, _, _, _, t⟩ := z; t.elim)
    | ok fl =>
      cases fl with
      | ret u =>
        obtain ⟨v, T', os, br, un, ok', rv, e⟩ := z
        obtain rfl : v = .bl true := e
        obtain rfl : u = Value.bool true := rv
        refine ⟨rfl, OldK.of_keep fun c ob e => ?_, os, br⟩
        cases q : T c with
        | none => exact un.keep c ob e q (fun t => (List.not_mem_nil t).elim) (by simp)
        | some u =>
          rcases on c with t | ⟨o2, xs, t⟩
          · rw [q] at t; cases t
          · obtain ⟨e1, _⟩ := ok c _ t
            obtain ⟨e2, _⟩ := ok' c _ (un.frzs c o2 _ t)
            rw [e] at e1
            cases e1
            exact e2
      | _ => exact z.elim
  cases hk : K.lookup sa with
  | some ob =>
    have e := kin sa ob hk
    rw [sc] at e
    cases e
    exact main (fun _ => none) (fun _ => .inl rfl) (.inr ⟨_, its.toArray, _, hk, rfl, rfl, rfl, by rw [List.size_toArray, ia.length]; exact ll, by simpa using vi⟩) (fun c u z => by cases (show (none : Option HO) = some u from z)) (fun c z => absurd rfl z) fun z => absurd rfl z
  | none =>
    refine main (fun c => if c = sa then some (.frz { cls := .type "list", data := .seq its.toArray } (.lst (zs.map V.int))) else none) (fun c => ?_) (.inl (.inr ⟨{ cls := .type "list", data := .seq its.toArray }, if_pos rfl⟩)) (fun c u z => ?_) (fun c z => ?_) fun _ => hk
    · by_cases hc : c = sa
      · exact .inr ⟨_, _, if_pos hc⟩
      · exact .inl (if_neg hc)
    · by_cases hc : c = sa
      · subst hc
        have z : (if c = c then some (HO.frz { cls := .type "list", data := .seq its.toArray } (.lst (zs.map V.int))) else none) = some u := z
        rw [if_pos rfl] at z
        cases z
        exact ⟨sc, by rw [List.length_map]; exact ll, its, _, vi, sc⟩
      · have z : (if c = sa then some (HO.frz { cls := .type "list", data := .seq its.toArray } (.lst (zs.map V.int))) else none) = some u := z
        rw [if_neg hc] at z
        cases z
    · by_cases hc : c = sa
      · exact hc
      · exact absurd (if_neg hc) z
theorem walk_G {l : PySem.W.OpenLaw} {n kk : Nat} {q : Program} {loose : List Str} {XP : (Str → Option Value) → Heap → Prop} {YP : World → Heap → Prop} {d : DefRec} {y : Str}
    (mo : l.most = some n) (mz : n ≤ sizeLine) (df : d.params.defaults = []) (rm : Room kk callerA)
    (Fn : ∀ (w : World) (mg : Str → Option Value) (fa : Addr) (hp : Heap), YP w hp → hp.Ns mainGlobals mg → mg d.name = some (.ref fa) →
      ∃ (K : PySem.W.Frag) (fd : FuncData) (spr : Sp), K.In hp ∧ (∀ (s : Shared) (u : Value), BindsTo s fd ⟨[u], []⟩ [(y, u)]) ∧
        (∀ (T : Hp) (sa : Addr) (zs : List Int), zs.length ≤ n → Only T → SqL K T sa (zs.map V.int) → spr [.ref sa] T (fun v _ => v = .bl true) fun _ _ _ => False) ∧
        ∀ B : Heap, K.In B → B.Ns mainGlobals mg → FnG l.prog w K mg B kk fa fd [y] spr) :
    PySem.W.WalkO q loose XP YP l.row.toRowW d [] (fun f vs => PySem.call f vs) := by
  refine Att.attach_call mo df fun w s₀ s₁ mg mb fa o pm cd doc sa its zs Gd Y _ _ _ hm obj ia hl gn => ?_
  obtain ⟨K, fd, spr, kin, bi, want, Fw⟩ := Fn w mg fa _ Y Gd.T.g hm
  exact law_G kin Gd.T.g Gd.T.b Gd.T.builtins Gd.T.nolimit gn obj ia (Nat.le_trans hl mz) rm Fw bi fun T on sq => want T sa zs hl on sq
/-! ### .. where tables of code objects are tracked -/
def tabO0 : Obj := { cls := .none, data := .fields #[] }
theorem law_GT {P : Program} {w : World} {K : PySem.W.Frag} {mg mb : Str → Option Value} {kk : Nat} {fa sa : Addr} {fd : FuncData} {y : Str} {spr : Sp} {st : Shared} {its : List Value} {zs : List Int} {cs : List (Addr × Addr)}
    (kin : K.In st.heap) (gl : st.heap.Ns mainGlobals mg) (bl : st.heap.Ns builtinsNs mb) (bb : ∀ z : Str, z ≠ "__name__" → mb z = bootBuiltins z) (nl : st.heap.NoLimit) (gn : st.gens = #[])
    (tT : ∀ p ∈ cs, st.heap.get? p.2 = some tabO0) (tN : ∀ p ∈ cs, K.lookup p.2 = none) (tC : ∀ p ∈ cs, PySem.W.CodeHd st.heap p.1 p.2)
    (bm : ∃ (b : Addr) (ob : Obj), mg "__builtins__" = some (.ref b) ∧ b ≠ builtinsNs ∧ st.heap.get? b = some ob ∧ ob.cls = .type "module" ∧ ob.dict = some builtinsNs ∧ ob.data = .plain)
    (sc : st.heap.get? sa = some { cls := .type "list", data := .seq its.toArray }) (ia : IntsAre its zs) (ll : zs.length ≤ sizeLine) (rm : Room kk callerA)
    (Fn : ∀ B : Heap, K.In B → B.Ns mainGlobals mg → (∀ p ∈ cs, LamX.TabB B mg p.1 p.2) → FnG P w K mg B kk fa fd [y] spr) (bi : ∀ (s : Shared) (u : Value), BindsTo s fd ⟨[u], []⟩ [(y, u)])
    (want : ∀ T : Hp, (∀ p ∈ cs, T p.2 = some (.tbl #[])) → (∀ p ∈ cs, p.2 ≠ sa) → SqL K T sa (zs.map V.int) → spr [.ref sa] T (fun v _ => v = .bl true) fun _ _ _ => False) :
    codeAny (model P w) callerA (.call (.ref fa) ⟨[.ref sa], []⟩) (fun r s' => r = .ok (.ret (.bool true)) ∧ OldK st.heap s'.heap ∧ s'.os = st.os ∧ AllBare s'.gens) st := by
  have vi := vals_ints ia
  have inT : ∀ b, b ∈ cs.map (·.2) → st.heap.get? b = some tabO0 := fun b hb => by
    obtain ⟨p, hp, e⟩ := List.mem_map.mp hb
    rw [← e]; exact tT p hp
  have memT : ∀ p ∈ cs, p.2 ∈ cs.map (·.2) := fun p hp => List.mem_map.mpr ⟨p, hp, rfl⟩
  have saT : sa ∉ cs.map (·.2) := fun z => by
    have q := inT sa z
    rw [sc] at q
    have q : Data.seq its.toArray _ = Data.fields #[] := congrArg Obj.data (Option.some.inj q)
    cases q
  have main : ∀ T : Hp, (∀ p ∈ cs, T p.2 = some (.tbl #[])) → (∀ b, T b = none ∨ b ∈ cs.map (·.2) ∨ ∃ o xs, T b = some (.frz o (.lst xs))) → SqL K T sa (zs.map V.int) → HOk P w T st.heap → (∀ c, T c ≠ none → c = sa ∨ c ∈ cs.map (·.2)) → (T sa ≠ none → K.lookup sa = none) →
      codeAny (model P w) callerA (.call (.ref fa) ⟨[.ref sa], []⟩) (fun r s' => r = .ok (.ret (.bool true)) ∧ OldK st.heap s'.heap ∧ s'.os = st.os ∧ AllBare s'.gens) st := by
    intro T tt on sq ok at_ nk
    have inB : ∀ {c : Addr} {u : Obj}, st.heap.get? c = some u → T c = none → (hidT st.heap T).get? c = some u := fun e z => hidT_get e z
    have free : ∀ {c : Addr} {u : Obj}, st.heap.get? c = some u → (∀ vs n, u.data ≠ .seq vs n) → u.data ≠ .fields #[] → T c = none := fun {c u} e h1 h2 => by
      cases q : T c with
      | none => rfl
      | some z =>
        rcases at_ c (by rw [q]; exact Option.some_ne_none z) with e2 | e2
        · rw [e2, sc] at e
          cases e
          exact absurd rfl (h1 _ _)
        · rw [inT c e2] at e
          cases e
          exact absurd rfl h2
    have freeD : ∀ {c : Addr} {u : Obj} {es : Array DictEntry} {ep : Nat}, st.heap.get? c = some u → u.data = .dict es ep → T c = none := fun {c u es ep} e dd => free e (fun vs n z => by rw [dd] at z; cases z) (fun z => by rw [dd] at z; cases z)
    have nsB : ∀ {c : Addr} {m : Str → Option Value}, st.heap.Ns c m → (hidT st.heap T).Ns c m := fun {c m} ⟨u, es, ep, e, dd, r⟩ => ⟨u, es, ep, inB e (freeD e dd), dd, r⟩
    have kB : K.In (hidT st.heap T) := fun c u e => inB (kin c u e) (by
      cases q : T c with
      | none => rfl
      | some z =>
        rcases at_ c (by rw [q]; exact Option.some_ne_none z) with e2 | e2
        · rw [e2] at e q
          rw [nk (by rw [q]; exact Option.some_ne_none z)] at e
          cases e
        · obtain ⟨p, hp, ep⟩ := List.mem_map.mp e2
          rw [← ep, tN p hp] at e
          cases e)
    have md : Mod K mg (hidT st.heap T) := ⟨kB, nsB gl, ⟨mb, nsB bl, bb⟩, let ⟨mc, h1, h2⟩ := nl; ⟨mc, nsB h1, h2⟩⟩
    have tbs : ∀ p ∈ cs, LamX.TabB (hidT st.heap T) mg p.1 p.2 := fun p hp => by
      have gP : ∀ {b : Addr} {m : Str → Option Value}, st.heap.Ns b m → b ≠ p.2 := fun {b m} ⟨o, es, ep, e, hd, _⟩ z => by
        rw [z, tT p hp] at e
        cases e
        cases hd
      refine ⟨?_, ?_, gP gl⟩
      · obtain ⟨o, us, file, tf, flags, tg, inF, text, tx, e1, r1, r2, r3, r4⟩ := tC p hp
        refine ⟨o, us, file, tf, flags, tg, inF, text, tx, inB e1 (free e1 (fun vs n z => by rw [r2] at z; cases z) fun z => ?_), r1, r2, r3, r4⟩
        rw [r2] at z
        cases z
        simp at r3
      · obtain ⟨b, ob, b1, b2, b3, b4, b5, b6⟩ := bm
        refine ⟨b, ob, b1, b2, fun q => ?_, fun q => ?_, inB b3 (free b3 (fun vs n z => by rw [b6] at z; cases z) fun z => by rw [b6] at z; cases z), b4, b5, b6⟩
        · obtain ⟨o, es, ep, e, hd, _⟩ := gl
          rw [q, e] at b3
          cases b3
          rw [hd] at b6
          cases b6
        · rw [q, tT p hp] at b3
          cases b3
          cases b6
    have ev : Env0 P w K mg (hidT st.heap T) callerA [] st T := ⟨rfl, md, fun c u e => of_hidT e, Nat.le_of_eq (hidT_size _ _), trivial, fun c hc => (List.not_mem_nil hc).elim, ok, .of_eq gn⟩
    refine codeAny_mono ((Fn _ kB (nsB gl) tbs).run callerA [] st T ⟨[.ref sa], []⟩ [.ref sa] [.ref sa] _ _ rm rfl ev (bi st (.ref sa)) (.cons rfl .nil) (want T tt (fun p hp z => saT (by rw [← z]; exact memT p hp)) sq)) fun r s' z => ?_
    cases r with
    | error ex => exact (let ⟨_, _, _, _, _, _, _, _, _, _, _, _, t⟩ := z; t.elim)
    | ok fl =>
      cases fl with
      | ret u =>
        obtain ⟨v, T', os, br, un, ok', rv, e⟩ := z
        obtain rfl : v = .bl true := e
        obtain rfl : u = Value.bool true := rv
        have keep : ∀ c ob, c ∉ cs.map (·.2) → st.heap.get? c = some ob → s'.heap.get? c = some ob := fun c ob nb e => by
          cases q : T c with
          | none => exact un.keep c ob e q (fun t => (List.not_mem_nil t).elim) (by simp)
          | some u =>
            rcases on c with t | t | ⟨o2, xs, t⟩
            · rw [q] at t; cases t
            · exact absurd t nb
            · obtain ⟨e1, _⟩ := ok c _ t
              obtain ⟨e2, _⟩ := ok' c _ (un.frzs c o2 _ t)
              rw [e] at e1
              cases e1
              exact e2
        have grown : ∀ p ∈ cs, ∃ more : Array Value, s'.heap.get? p.2 = some { cls := .none, data := .fields more } := fun p hp => by
          obtain ⟨more, t⟩ := un.tbls p.2 #[] (tt p hp)
          exact ⟨_, ok' p.2 _ t⟩
        refine ⟨rfl, ⟨fun c ob e => ?_, fun c ob e => ?_⟩, os, br⟩
        · by_cases hc : c ∈ cs.map (·.2)
          · obtain ⟨p, hp, ep⟩ := List.mem_map.mp hc
            obtain ⟨more, hm⟩ := grown p hp
            rw [← ep] at e ⊢
            rw [tT p hp] at e
            cases e
            exact .inr (.inl ⟨((tC p hp).tab (tT p hp)).isCodeTable, rfl, #[], more, rfl, by rw [Array.empty_append]; exact hm⟩)
          · exact .inl (keep c ob hc e)
        · by_cases hc : c ∈ cs.map (·.2)
          · obtain ⟨p, hp, ep⟩ := List.mem_map.mp hc
            obtain ⟨more, hm⟩ := grown p hp
            exact ⟨_, by rw [← ep]; exact hm⟩
          · exact ⟨ob, keep c ob hc e⟩
      | _ => exact z.elim
  cases hk : K.lookup sa with
  | some ob =>
    have e := kin sa ob hk
    rw [sc] at e
    cases e
    refine main (fun b => if b ∈ cs.map (·.2) then some (.tbl #[]) else none) (fun p hp => if_pos (memT p hp)) (fun b => ?_) (.inr ⟨_, its.toArray, _, hk, rfl, rfl, rfl, by rw [List.size_toArray, ia.length]; exact ll, by simpa using vi⟩) (fun c u z => ?_) (fun c z => ?_) fun z => absurd (if_neg saT) z
    · by_cases hb : b ∈ cs.map (·.2)
      · exact .inr (.inl hb)
      · exact .inl (if_neg hb)
    · by_cases hb : c ∈ cs.map (·.2)
      · have z := (if_pos hb).symm.trans z
        cases z
        exact inT c hb
      · cases (if_neg hb).symm.trans z
    · by_cases hb : c ∈ cs.map (·.2)
      · exact .inr hb
      · exact absurd (if_neg hb) z
  | none =>
    refine main (fun c => if c = sa then some (.frz { cls := .type "list", data := .seq its.toArray } (.lst (zs.map V.int))) else if c ∈ cs.map (·.2) then some (.tbl #[]) else none) (fun p hp => (if_neg (fun z : p.2 = sa => saT (by rw [← z]; exact memT p hp))).trans (if_pos (memT p hp))) (fun b => ?_)
      (.inl (.inr ⟨{ cls := .type "list", data := .seq its.toArray }, if_pos rfl⟩)) (fun c u z => ?_) (fun c z => ?_) fun _ => hk
    · by_cases h1 : b = sa
      · exact .inr (.inr ⟨_, _, if_pos h1⟩)
      · by_cases hb : b ∈ cs.map (·.2)
        · exact .inr (.inl hb)
        · exact .inl ((if_neg h1).trans (if_neg hb))
    · by_cases h1 : c = sa
      · have z := (if_pos h1).symm.trans z
        cases z
        rw [h1]
        exact ⟨sc, by rw [List.length_map]; exact ll, its, _, vi, sc⟩
      · have z := (if_neg h1).symm.trans z
        by_cases hb : c ∈ cs.map (·.2)
        · have z := (if_pos hb).symm.trans z
          cases z
          exact inT c hb
        · cases (if_neg hb).symm.trans z
    · by_cases h1 : c = sa
      · exact .inl h1
      · by_cases hb : c ∈ cs.map (·.2)
        · exact .inr hb
        · exact absurd ((if_neg h1).trans (if_neg hb)) z
theorem walk_GT {l : PySem.W.OpenLaw} {n kk : Nat} {q : Program} {loose : List Str} {XP : (Str → Option Value) → Heap → Prop} {YP : World → Heap → Prop} {d : DefRec} {y : Str}
    (mo : l.most = some n) (mz : n ≤ sizeLine) (df : d.params.defaults = []) (rm : Room kk callerA)
    (Fn : ∀ (w : World) (mg : Str → Option Value) (fa : Addr) (hp : Heap), YP w hp → hp.Ns mainGlobals mg → mg d.name = some (.ref fa) →
      ∃ (K : PySem.W.Frag) (fd : FuncData) (spr : Sp) (cs : List (Addr × Addr)), K.In hp ∧ (∀ p ∈ cs, hp.get? p.2 = some tabO0) ∧ (∀ p ∈ cs, K.lookup p.2 = none) ∧ (∀ p ∈ cs, PySem.W.CodeHd hp p.1 p.2) ∧ (∀ (s : Shared) (u : Value), BindsTo s fd ⟨[u], []⟩ [(y, u)]) ∧
        (∀ (T : Hp) (sa : Addr) (zs : List Int), zs.length ≤ n → (∀ p ∈ cs, T p.2 = some (.tbl #[])) → (∀ p ∈ cs, p.2 ≠ sa) → SqL K T sa (zs.map V.int) → spr [.ref sa] T (fun v _ => v = .bl true) fun _ _ _ => False) ∧
        ∀ B : Heap, K.In B → B.Ns mainGlobals mg → (∀ p ∈ cs, LamX.TabB B mg p.1 p.2) → FnG l.prog w K mg B kk fa fd [y] spr) :
    PySem.W.WalkO q loose XP YP l.row.toRowW d [] (fun f vs => PySem.call f vs) := by
  refine Att.attach_call mo df fun w s₀ s₁ mg mb fa o pm cd doc sa its zs Gd Y _ _ _ hm obj ia hl gn => ?_
  obtain ⟨K, fd, spr, cs, kin, t1, t2, t3, bi, want, Fw⟩ := Fn w mg fa _ Y Gd.T.g hm
  exact law_GT kin Gd.T.g Gd.T.b Gd.T.builtins Gd.T.nolimit gn t1 t2 t3 Gd.T.bmain obj ia (Nat.le_trans hl mz) rm Fw bi fun T tt ts sq => want T sa zs hl tt ts sq
/-! ### the facts -/
inductive Fx where
  | glo (x : Str) | free (x : Str) | clsf (x : Str) | noat (x f : Str) | kit (a b : Str) (r : Bool) | kitB (x : Str) (b : String) | kitA (b : String) (x : Str) | meth (x m : Str) | mkr (x : Str) | cms (x m : Str) | keep (x : Str) | ex0 (x : Str) | ex1 (x : Str) | exf (x : Str) | exm (a b : Str) (r : Bool) | cst (x : Str) (d : D)
/-- a constant of the module: a number, a text, a tuple of such -/
def atomB : D → Value → Bool
  | .int i, .int j _ => i == j
  | .str a, .str b _ => a == b
  | .bl a, .bool b => a == b
  | .non, .none => true
  | _, _ => false
def atomsB : List D → List Value → Bool
  | [], [] => true
  | d :: ds, v :: vs => atomB d v && atomsB ds vs
  | _, _ => false
def cstB (K : PySem.W.Frag) (x : Str) (d : D) : Bool := match PySem.W.nsIn K mainGlobals x with
  | some (some v) => atomB d v || (match d, v with
    | .ks false ds, .ref a => (match K.lookup a with
      | some ⟨.type "tuple", _, .seq vs _, _⟩ => atomsB ds vs.toList && decide (vs.size ≤ 1000)
      | _ => false)
    | _, _ => false)
  | _ => false
def Fx.ok (K : PySem.W.Frag) : Fx → Bool
  | .exm a b r => decide (PySem.W.exmOne K (.ref (He.ga K a)) (.ref (He.ga K b)) = some r)
  | .cst x d => cstB K x d
  | .glo x => (He.Fa.glo x).ok K
  | .free x => (He.Fa.free x).ok K
  | .clsf x => (He.Fa.cls x).ok K && (He.eqO (PySem.W.findIn K (.ref (He.ga K x)) "__class__") (some (some (.builtin "object.__class__"))) && (He.eqO (PySem.W.specialIn K (.builtin "object.__class__") "__get__") (some (some (.builtin "getset_descriptor.__get__"))) &&
      (decide (PySem.W.takesIn K (.builtin "object.__class__") = some true) && decide (PySem.W.mroIn K (He.ga K x) (.type "object") = some true))))
  | .noat x f => (He.Fa.noat x f).ok K
  | .kit a b r => decide (PySem.W.kitOne K (.ref (He.ga K a)) (.ref (He.ga K b)) = some r)
  | .kitB x b => decide (PySem.W.kitOne K (.ref (He.ga K x)) (.type b) = some false)
  | .kitA b x => decide (PySem.W.kitOne K (.type b) (.ref (He.ga K x)) = some false)
  | .meth x m => (He.Fa.meth x m).ok K
  | .mkr x => (He.Fa.mkr x).ok K
  | .keep x => (He.Fa.keep x).ok K
  | .ex0 x => PySem.W.excIn K (He.ga K x) He.veBase "ValueError.__new__"
  | .ex1 x => oexB K (He.ga K x) && (He.eqO (PySem.W.findIn K (.ref (He.ga K x)) "__init__") (some (some (.ref (He.ma K (He.ga K x) "__init__")))) && decide (PySem.W.typeIn K (.ref (He.ma K (He.ga K x) "__init__")) = some (.type "function")))
  | .exf x => xfB K (He.ga K x) && (He.eqO (PySem.W.findIn K (.ref (He.ga K x)) "__class__") (some (some (.builtin "object.__class__"))) && (He.eqO (PySem.W.specialIn K (.builtin "object.__class__") "__get__") (some (some (.builtin "getset_descriptor.__get__"))) &&
      (decide (PySem.W.takesIn K (.builtin "object.__class__") = some true) && (decide (PySem.W.mroIn K (He.ga K x) (.type "object") = some true) && decide (PySem.W.kitOne K (.ref (He.ga K x)) (.type "ValueError") = some true)))))
  | .cms x m => (He.Fa.meth x m).ok K && (PySem.W.readsIn K (He.ga K x) (.type "type") && (He.eqO (PySem.W.specialIn K (.ref (He.ga K x)) "__getattribute__") (some (some (.builtin "type.__getattribute__"))) &&
      (match PySem.W.findCls K (.ref (He.ga K x)) (.type "type") m with
      | some (.val (.ref f)) => decide (f = He.ma K (He.ga K x) m)
      | _ => false)))
def obsX (fx : List Fx) (fn : List He.DefD) (K : PySem.W.Frag) : He.AlD := ((fx.all fun f => f.ok K) && fn.all fun d => d.ok K, fn.map fun d => He.fnW K d.at_)
def SaysX (fx : List Fx) (fn : List He.DefD) (K : PySem.W.Frag) : Prop := obsX fx fn K = He.valD fn
/-- what the module's names reach in n steps, each step from the last one's -/
def bfsA (g : Addr → Option Obj) : Nat → List Addr → List Addr
  | 0, fr => fr
  | n + 1, fr => fr ++ bfsA g n (fr.flatMap fun a => match g a with
    | some o => He.refsD o
    | none => [])
def obsXG (n : Nat) (fx : List Fx) (fn : List He.DefD) (g : Addr → Option Obj) : He.AlD := obsX fx fn (He.frG g (cStatics :: bfsA g n [mainGlobals]))
def hookX (n : Nat) (fx : List Fx) (fn : List He.DefD) : PySem.W.Hook where
  α := He.AlD
  obs := fun s => obsXG n fx fn s.heap.get?
  val := fun _ => He.valD fn
  says := fun _ h => ∃ K : PySem.W.Frag, K.In h ∧ SaysX fx fn K
  of := fun _ _ z => ⟨_, He.frG_in, z⟩
  keeps := fun _ _ _ ⟨K, hK, c⟩ z => ⟨K, PySem.W.Frag.In.keeps hK z, c⟩
/-- no table of code objects -/
def noTab (g : Addr → Option Obj) (a : Addr) : Bool := match g a with
  | some ⟨.none, _, .fields _, _⟩ => false
  | _ => true
/-- a def's code and its table -/
def lamP (K : PySem.W.Frag) (x : Str) : Option (Addr × Addr) := match K.lookup (He.ga K x) with
  | some ⟨_, _, .func fd, _⟩ => (match fd.code with
    | .ref c => (match K.lookup c with
      | some ⟨_, _, .fields vs, _⟩ => (match (vs[11]? : Option Value) with
        | some (.ref P) => some (c, P)
        | _ => none)
      | _ => none)
    | _ => none)
  | _ => none
def lamB (K : PySem.W.Frag) (g : Addr → Option Obj) (x : Str) : Bool := match lamP K x with
  | some (c, P) => PySem.W.codeHdIn K c P && ((K.lookup P).isNone && (match g P with
    | some ⟨.none, none, .fields vs, sl⟩ => vs.isEmpty && sl.isEmpty
    | _ => false))
  | none => false
def obsLG (n : Nat) (fx : List Fx) (fn : List He.DefD) (lams : List Str) (g : Addr → Option Obj) : He.AlD :=
  let K := He.frG g ((cStatics :: bfsA g n [mainGlobals]).filter (noTab g))
  let z := obsX fx fn K
  (z.1 && ((lams.all fun x => lamB K g x) && decide ((lams.map fun x => (lamP K x).map (·.2)).Nodup)), z.2)
/-- what is known of the defs that make lambdas -/
def LamsOk (K : PySem.W.Frag) (lams : List Str) (h : Heap) : Prop := (∀ x ∈ lams, ∃ c P, lamP K x = some (c, P) ∧ PySem.W.codeHdIn K c P = true ∧ K.lookup P = none ∧ h.get? P = some tabO0) ∧ (lams.map fun x => (lamP K x).map (·.2)).Nodup
theorem lamB_ok {K : PySem.W.Frag} {h : Heap} {x : Str} (e : lamB K h.get? x = true) : ∃ c P, lamP K x = some (c, P) ∧ PySem.W.codeHdIn K c P = true ∧ K.lookup P = none ∧ h.get? P = some tabO0 := by
  unfold lamB at e
  split at e
  · rename_i c P hp
    simp only [Bool.and_eq_true] at e
    obtain ⟨e1, e2, e3⟩ := e
    refine ⟨c, P, hp, e1, Option.isNone_iff_eq_none.mp e2, ?_⟩
    split at e3
    · rename_i vs sl ho
      simp only [Bool.and_eq_true, Array.isEmpty_iff] at e3
      rw [ho, e3.1, e3.2]; rfl
    · cases e3
  · cases e
def hookL (n : Nat) (fx : List Fx) (fn : List He.DefD) (lams : List Str) : PySem.W.Hook where
  α := He.AlD
  obs := fun s => obsLG n fx fn lams s.heap.get?
  val := fun _ => He.valD fn
  says := fun _ h => ∃ K : PySem.W.Frag, K.In h ∧ SaysX fx fn K ∧ LamsOk K lams h
  of := fun w s z => by
    have z1 : obsLG n fx fn lams s.heap.get? = He.valD fn := z
    refine ⟨He.frG s.heap.get? ((cStatics :: bfsA s.heap.get? n [mainGlobals]).filter (noTab s.heap.get?)), He.frG_in, ?_, ?_⟩
    · have h1 := congrArg (fun z : He.AlD => z.1) z1
      have h2 := congrArg (fun z : He.AlD => z.2) z1
      have h1 : (_ && _) = true := h1
      exact Prod.ext (Bool.and_eq_true_iff.mp h1).1 h2
    · have h1 := congrArg (fun z : He.AlD => z.1) z1
      have h1 : (_ && (_ && _)) = true := h1
      obtain ⟨h3, h4⟩ := Bool.and_eq_true_iff.mp (Bool.and_eq_true_iff.mp h1).2
      exact ⟨fun x hx => lamB_ok (List.all_eq_true.mp h3 x hx), of_decide_eq_true h4⟩
  keeps := fun _ _ _ ⟨K, hK, c, l⟩ z => ⟨K, PySem.W.Frag.In.keeps hK z, c, fun x hx => by
    obtain ⟨c, P, h1, h2, h3, h4⟩ := l.1 x hx
    exact ⟨c, P, h1, h2, h3, z _ _ h4⟩, l.2⟩
theorem obsLG_eq {n : Nat} {fx : List Fx} {fn : List He.DefD} {lams : List Str} {g : Addr → Option Obj} {s : Shared} (h : ∀ a, g a = s.heap.get? a) : obsLG n fx fn lams g = (hookL n fx fn lams).obs s := by
  obtain rfl : g = s.heap.get? := funext h
  rfl
theorem obsXG_eq {n : Nat} {fx : List Fx} {fn : List He.DefD} {g : Addr → Option Obj} {s : Shared} (h : ∀ a, g a = s.heap.get? a) : obsXG n fx fn g = (hookX n fx fn).obs s := by
  obtain rfl : g = s.heap.get? := funext h
  rfl
section
variable {fx : List Fx} {fn : List He.DefD} {K : PySem.W.Frag}
theorem SaysX.all (c : SaysX fx fn K) : (∀ f ∈ fx, f.ok K = true) ∧ ∀ d ∈ fn, ∃ fd, FunD K d.name d.qual d.params d.body d.scope (d.dvs K) (d.kws K) (He.fAd K d.at_) fd := by
  have z := He.ba (show ((fx.all fun f => f.ok K) && fn.all fun d => d.ok K) = true from congrArg (fun z : He.AlD => z.1) c)
  have e : fn.map (fun d => He.fnW K d.at_) = fn.map He.DefD.val := congrArg (fun z : He.AlD => z.2) c
  refine ⟨fun f hf => List.all_eq_true.mp z.1 f hf, fun d hd => ?_⟩
  obtain ⟨i, hi, rfl⟩ := List.getElem_of_mem hd
  have e2 : (fn.map fun d => He.fnW K d.at_)[i]? = (fn.map He.DefD.val)[i]? := by rw [e]
  rw [List.getElem?_map, List.getElem?_map, List.getElem?_eq_getElem hi] at e2
  exact He.DefD.funD (Option.some.inj e2) (List.all_eq_true.mp z.2 _ hd)
theorem clsf_ok {x : Str} (c : (Fx.clsf x).ok K = true) : ClsF K (He.ga K x) := by
  obtain ⟨c1, c⟩ := He.ba c
  obtain ⟨c2, c⟩ := He.ba c
  obtain ⟨c3, c⟩ := He.ba c
  obtain ⟨c4, c5⟩ := He.ba c
  exact ⟨He.cls_ok c1, He.eqO_ok c2, He.eqO_ok c3, of_decide_eq_true c4, of_decide_eq_true c5⟩
theorem ex1_ok {x : Str} (c : (Fx.ex1 x).ok K = true) : OexC K (He.ga K x) ∧ PySem.W.findIn K (.ref (He.ga K x)) "__init__" = some (some (.ref (He.ma K (He.ga K x) "__init__"))) ∧ PySem.W.typeIn K (.ref (He.ma K (He.ga K x) "__init__")) = some (.type "function") := by
  obtain ⟨c1, c⟩ := He.ba c
  obtain ⟨c2, c3⟩ := He.ba c
  exact ⟨oexB_ok c1, He.eqO_ok c2, of_decide_eq_true c3⟩
theorem exf_ok {x : Str} (c : (Fx.exf x).ok K = true) : XfC K (He.ga K x) ∧ ExcC K (He.ga K x) ∧ PySem.W.kitOne K (.ref (He.ga K x)) (.type "ValueError") = some true := by
  obtain ⟨c1, c⟩ := He.ba c
  obtain ⟨c2, c⟩ := He.ba c
  obtain ⟨c3, c⟩ := He.ba c
  obtain ⟨c4, c⟩ := He.ba c
  obtain ⟨c5, c6⟩ := He.ba c
  have X := xfB_ok c1
  exact ⟨X, ⟨X.ga, X.gg, X.exC, X.hdC, He.eqO_ok c2, He.eqO_ok c3, of_decide_eq_true c4, of_decide_eq_true c5⟩, of_decide_eq_true c6⟩
theorem cms_ok {x m : Str} (c : (Fx.cms x m).ok K = true) : Meth K (He.ga K x) m (He.ma K (He.ga K x) m) ∧ PySem.W.readsIn K (He.ga K x) (.type "type") = true ∧ PySem.W.specialIn K (.ref (He.ga K x)) "__getattribute__" = some (some (.builtin "type.__getattribute__")) ∧
    PySem.W.findCls K (.ref (He.ga K x)) (.type "type") m = some (.val (.ref (He.ma K (He.ga K x) m))) := by
  obtain ⟨c1, c⟩ := He.ba c
  obtain ⟨c2, c⟩ := He.ba c
  obtain ⟨c3, c4⟩ := He.ba c
  refine ⟨He.meth_ok c1, c2, He.eqO_ok c3, ?_⟩
  revert c4
  split
  · rename_i f hf
    intro c4
    rw [hf, of_decide_eq_true c4]
  · intro c4; cases c4
end
end SI
end
section
set_option Elab.async false
set_option linter.all false
set_option maxRecDepth 100000
set_option maxHeartbeats 4000000
/-! SI23: a text's defs as data; the facts make the program. -/
namespace SI
open PySem PySem.Spec PyProof.Rows L2

structure DX where
  d : He.DefD
  e : FnE
  C : Ctx
  fu : Nat
/-- an own exception with its own __init__ -/
structure EX where
  fs : List Str
  d : He.DefD
  ps : List Str
/-- a def that calls what it was given -/
structure CX where
  d : He.DefD
  c : CatE
  C : Ctx
  fu : Nat
structure Txt where
  fns : List (Str × DX)
  mths : List ((Str × Str) × DX)
  mks : List Str
  cls : List Str
  sub : List ((Str × Str) × Bool)
  T : Tab
  exs0 : List Str
  exs1 : List (Str × EX)
  cats : List (Str × CX) := []
  exm : List ((Str × Str) × Bool) := []
def Txt.pg (t : Txt) : Pg := ⟨t.fns.map fun q => (q.1, q.2.e), t.mths.map fun q => (q.1, q.2.e), t.mks, t.cls, t.sub, (t.exs0.map fun C => (C, [])) ++ t.exs1.map fun q => (q.1, q.2.fs), t.cats.map fun q => (q.1, q.2.c)⟩
def Txt.fn (t : Txt) : List He.DefD := (t.fns.map fun q => q.2.d) ++ ((t.mths.map fun q => q.2.d) ++ ((t.exs1.map fun q => q.2.d) ++ t.cats.map fun q => q.2.d))
def b7 : List String := ["NoneType", "bool", "int", "str", "tuple", "list", "dict"]
def Txt.fx1 (t : Txt) : List Fx :=
  (t.fns.map fun q => Fx.glo q.1) ++ ((t.T.cls.map Fx.glo) ++ ((t.T.cls.map Fx.keep) ++ ((t.T.cls.flatMap fun C => b7.map fun b => Fx.kitA b C) ++ ((t.cls.map Fx.clsf) ++ ((t.cls.flatMap fun C => t.T.attrs.map fun f => Fx.noat C f) ++
  ((t.cls.flatMap fun C => bTys.map fun b => Fx.kitB C b) ++ ((t.mths.map fun q => Fx.meth q.1.1 q.1.2) ++ ((t.mks.map Fx.mkr) ++ ((t.sub.map fun q => Fx.kit q.1.1 q.1.2 q.2) ++ ((t.T.free.map Fx.free) ++ (t.T.cms.map fun q => Fx.cms q.1 q.2)))))))))))
def Txt.exn (t : Txt) : List Str := t.exs0 ++ t.exs1.map (·.1)
def Txt.fx2 (t : Txt) : List Fx := (t.exs0.map Fx.ex0) ++ ((t.exs1.map fun q => Fx.ex1 q.1) ++ ((t.exn.map Fx.exf) ++ ((t.exn.flatMap fun C => t.T.attrs.map fun f => Fx.noat C f) ++ (t.exs1.flatMap fun q => q.2.fs.map fun f => Fx.noat q.1 f))))
def Txt.fx3 (t : Txt) : List Fx := (t.cats.map fun q => Fx.glo q.1) ++ ((t.exm.map fun q => Fx.exm q.1.1 q.1.2 q.2) ++ (t.T.cst.map fun q => Fx.cst q.1 q.2))
def Txt.fx (t : Txt) : List Fx := t.fx1 ++ (t.fx2 ++ t.fx3)
structure EXOk (q : Str × EX) : Prop where
  at_ : q.2.d.at_ = (q.1, some ("__init__" : Str))
  sc : FnScope q.2.ps q.2.ps q.2.d.scope
  init : initOf q.2.ps q.2.d.scope 1 q.2.d.body = some q.2.fs
  len : q.2.ps.length = q.2.fs.length + 1
  z : q.2.fs.length ≤ 900
  ne : q.2.fs ≠ []
  df : q.2.d.dfl = []
  kw : q.2.d.kwd = []
  bi : ∀ (kV doc pm : Value) (an : Option Addr) (cdv ct : Value) (us : List Value), us.length = q.2.ps.length → bindArgs (PySem.W.fnOf q.2.d.name q.2.d.qual q.2.d.params q.2.d.body q.2.d.scope .none kV doc pm an cdv ct) ⟨us, []⟩ = pure (q.2.ps.zip us)
structure DXOk (T : Tab) (x : DX) : Prop where
  nm : (x.C.nm == ("" : Str)) = false → x.C.nm ∈ T.lams ∧ x.d.at_ = (x.C.nm, none) ∧ x.d.qual = x.C.nm
  N : x.C.N = x.e.N
  sc : x.C.sc = x.d.scope
  all : x.C.all = true
  T : x.C.T = T
  cp : compSs x.fu x.C x.d.body = some x.e.body
  fs : FnScope x.e.N x.e.ps x.d.scope
  df : x.d.dfl = []
  kw : x.d.kwd = []
  bi : ∀ (kV doc pm : Value) (an : Option Addr) (cdv ct : Value) (us : List Value), us.length = x.e.ps.length → bindArgs (PySem.W.fnOf x.d.name x.d.qual x.d.params x.d.body x.d.scope .none kV doc pm an cdv ct) ⟨us, []⟩ = pure (x.e.ps.zip us)
structure CXOk (T : Tab) (tab : List ((Str × Str) × Bool)) (x : CX) : Prop where
  N : x.C.N = x.c.N
  sc : x.C.sc = x.d.scope
  all : x.C.all = true
  T : x.C.T = T
  nm : (x.C.nm == ("" : Str)) = true
  cp : ∃ a r, x.c.ps = a :: r ∧ noDbg a = true ∧ x.C.vis a = true ∧ catOf x.fu x.C a x.d.body = some x.c.b
  fs : FnScope x.c.N x.c.ps x.d.scope
  df : x.d.dfl = []
  kw : x.d.kwd = []
  bi : ∀ (kV doc pm : Value) (an : Option Addr) (cdv ct : Value) (us : List Value), us.length = x.c.ps.length → bindArgs (PySem.W.fnOf x.d.name x.d.qual x.d.params x.d.body x.d.scope .none kV doc pm an cdv ct) ⟨us, []⟩ = pure (x.c.ps.zip us)
  tab : x.c.tab = tab
def cstK (T : Tab) (p : Str × D) : Bool := match p.2 with
  | .glo x => x == p.1 && decide (p.1 ∈ T.fns)
  | _ => true
structure TxtOk (t : Txt) : Prop where
  fns : ∀ q ∈ t.fns, DXOk t.T q.2 ∧ q.2.d.at_ = (q.1, none)
  mths : ∀ q ∈ t.mths, DXOk t.T q.2 ∧ q.2.d.at_ = (q.1.1, some q.1.2) ∧ q.1.1 ∈ t.T.cls
  tf : ∀ x ∈ t.T.fns, x ∈ t.fns.map (·.1)
  cst : ∀ p ∈ t.T.cst, cstK t.T p = true
  mks : ∀ C ∈ t.mks, C ∈ t.T.cls
  cls : ∀ C ∈ t.cls, C ∈ t.T.cls
  sub : ∀ q ∈ t.sub, q.1.1 ∈ t.T.cls ∧ q.1.2 ∈ t.T.cls
  cms : ∀ q ∈ t.T.cms, q.1 ∈ t.T.cls
  exs0 : ∀ C ∈ t.exs0, C ∈ t.T.cls
  exs1 : ∀ q ∈ t.exs1, EXOk q ∧ q.1 ∈ t.T.cls
  cats : ∀ q ∈ t.cats, CXOk t.T t.exm q.2 ∧ q.2.d.at_ = (q.1, none)
  tc : ∀ x ∈ t.T.cats, x ∈ t.cats.map (·.1)
  exm : ∀ q ∈ t.exm, q.1.1 ∈ t.T.cls ∧ q.1.2 ∈ t.T.cls
  lams : ∀ x ∈ t.T.lams, x ∈ t.fns.map (·.1)
section
variable {t : Txt} {K : PySem.W.Frag} {mg : Mg} {hp : Heap}
theorem ent_of {x : DX} {T : Tab} (o : DXOk T x) {fd : FuncData} {f : Addr} (F : FunD K x.d.name x.d.qual x.d.params x.d.body x.d.scope (x.d.dvs K) (x.d.kws K) f fd) (hn : (x.C.nm == ("" : Str)) = false → mg x.C.nm = some (.ref f)) : EntOk K mg T f fd x.e := by
  have F : FunD K x.d.name x.d.qual x.d.params x.d.body x.d.scope [] [] f fd := by
    have e1 : x.d.dvs K = [] := by unfold He.DefD.dvs; rw [o.df]; rfl
    have e2 : x.d.kws K = [] := by unfold He.DefD.kws; rw [o.kw]; rfl
    rw [e1, e2] at F
    exact F
  exact ⟨⟨_, _, _, _, _, x.C, x.fu, F, o.fs, o.N, o.sc, o.all, o.T, o.cp, fun z => ⟨(o.nm z).1, hn z, (o.nm z).2.2⟩⟩, F.bindsN o.bi⟩
theorem look_map {κ : Type} [BEq κ] [LawfulBEq κ] {l : List (κ × DX)} {x : κ} {e : FnE} (h : (l.map fun q => (q.1, q.2.e)).lookup x = some e) : ∃ q ∈ l, q.1 = x ∧ q.2.e = e := by
  induction l with
  | nil => cases h
  | cons q r ih =>
    have h : (match x == q.1 with
      | true => some q.2.e
      | false => (r.map fun q => (q.1, q.2.e)).lookup x) = some e := h
    split at h
    · rename_i hb
      cases h
      exact ⟨q, List.mem_cons_self, (eq_of_beq hb).symm, rfl⟩
    · obtain ⟨q', m, z⟩ := ih h
      exact ⟨q', List.mem_cons_of_mem _ m, z⟩
theorem look_mem {κ β : Type} [BEq κ] [LawfulBEq κ] {l : List (κ × β)} {x : κ} {e : β} (h : l.lookup x = some e) : (x, e) ∈ l := by
  induction l with
  | nil => cases h
  | cons q r ih =>
    have h : (match x == q.1 with
      | true => some q.2
      | false => r.lookup x) = some e := h
    split at h
    · rename_i hb
      cases h
      rw [eq_of_beq hb]
      exact List.mem_cons_self
    · exact List.mem_cons_of_mem _ (ih h)
theorem cat_of {x : CX} {T : Tab} {tab : List ((Str × Str) × Bool)} (o : CXOk T tab x) {fd : FuncData} {f : Addr} (F : FunD K x.d.name x.d.qual x.d.params x.d.body x.d.scope (x.d.dvs K) (x.d.kws K) f fd)
    (ht : ∀ a b r, tab.lookup (a, b) = some r → ∀ c1 c2, mg a = some (.ref c1) → mg b = some (.ref c2) → PySem.W.exmOne K (.ref c1) (.ref c2) = some r) : CatX K mg T f fd x.c := by
  have F : FunD K x.d.name x.d.qual x.d.params x.d.body x.d.scope [] [] f fd := by
    have e1 : x.d.dvs K = [] := by unfold He.DefD.dvs; rw [o.df]; rfl
    have e2 : x.d.kws K = [] := by unfold He.DefD.kws; rw [o.kw]; rfl
    rw [e1, e2] at F
    exact F
  obtain ⟨a, r, h1, h2, h3, h4⟩ := o.cp
  exact ⟨⟨_, _, _, _, _, x.C, x.fu, a, r, F, o.fs, o.N, o.sc, o.all, o.T, o.nm, h1, h2, h3, h4⟩, F.bindsN o.bi, by rw [o.tab]; exact ht⟩
theorem atom_ok {d : D} {v : Value} (h : atomB d v = true) : ∃ w : V, RelV w v ∧ ∀ O, Rep K mg O d w := by
  unfold atomB at h
  split at h
  · rename_i i j t
    rw [beq_iff_eq.mp h]
    exact ⟨.int j, ⟨t, rfl⟩, fun O => .int _⟩
  · rename_i a b t
    rw [beq_iff_eq.mp h]
    exact ⟨.str b, ⟨t, rfl⟩, fun O => .str _⟩
  · rename_i a b
    rw [beq_iff_eq.mp h]
    exact ⟨.bl b, rfl, fun O => .bl _⟩
  · exact ⟨.non, rfl, fun O => .non⟩
  · cases h
theorem atoms_ok : ∀ {ds : List D} {us : List Value}, atomsB ds us = true → ∃ ws : List V, Vals ws us ∧ ∀ O, RepL K mg O ds ws
  | [], [], _ => ⟨[], .nil, fun _ => .nil⟩
  | d :: ds, v :: us, h => by
    simp only [atomsB, Bool.and_eq_true] at h
    obtain ⟨w, h1, h2⟩ := atom_ok (K := K) (mg := mg) h.1
    obtain ⟨ws, h3, h4⟩ := atoms_ok h.2
    exact ⟨w :: ws, .cons h1 h3, fun O => .cons (h2 O) (h4 O)⟩
  | [], _ :: _, h => by cases h
  | _ :: _, [], h => by cases h
theorem cst_ok (kin : K.In hp) (gl : hp.Ns mainGlobals mg) {x : Str} {d : D} (h : cstB K x d = true) : ∃ u v, mg x = some u ∧ L2.RelV v u ∧ ∀ O, Rep K mg O d v := by
  unfold cstB at h
  split at h
  · rename_i v hv
    have hm := PySem.W.mg_of kin gl hv
    rcases Bool.or_eq_true_iff.mp h with h | h
    · obtain ⟨w, h1, h2⟩ := atom_ok (K := K) (mg := mg) h
      exact ⟨v, w, hm, h1, h2⟩
    · split at h
      · rename_i ds a _
        split at h
        · rename_i dct vs ep sl ho
          simp only [Bool.and_eq_true, decide_eq_true_eq] at h
          obtain ⟨ws, h1, h2⟩ := atoms_ok (K := K) (mg := mg) h.1
          have LE := LINE_eq
          have hl : ws.length = vs.size := by rw [Vals.length h1, Array.length_toList]
          have hz : ws.length ≤ sizeLine := by rw [hl, ← LE]; exact Nat.le_trans h.2 (by decide)
          refine ⟨_, .ref a, hm, rfl, fun O => .kst (.inr ⟨_, vs, _, ho, rfl, rfl, by rw [← hl]; exact hz, h1⟩) hz (h2 O)⟩
        · cases h
      · cases h
  · cases h
theorem pg_of (o : TxtOk t) (kin : K.In hp) (gl : hp.Ns mainGlobals mg) (c : SaysX t.fx t.fn K) : PgOk K mg t.pg t.T := by
  obtain ⟨cf, cd⟩ := c.all
  have inF : ∀ {f : Fx}, f ∈ t.fx1 → f.ok K = true := fun h => cf _ (List.mem_append_left _ h)
  have inG : ∀ {f : Fx}, f ∈ t.fx2 → f.ok K = true := fun h => cf _ (List.mem_append_right _ (List.mem_append_left _ h))
  have inH : ∀ {f : Fx}, f ∈ t.fx3 → f.ok K = true := fun h => cf _ (List.mem_append_right _ (List.mem_append_right _ h))
  have gC : ∀ C ∈ t.T.cls, mg C = some (.ref (He.ga K C)) := fun C hC => He.glo_ok kin gl (inF (f := .glo C) (by
    unfold Txt.fx1
    exact List.mem_append_right _ (List.mem_append_left _ (List.mem_map_of_mem hC))))
  have gF : ∀ q ∈ t.fns, mg q.1 = some (.ref (He.ga K q.1)) := fun q hq => He.glo_ok kin gl (inF (f := .glo q.1) (by
    unfold Txt.fx1
    exact List.mem_append_left _ (List.mem_map_of_mem (f := fun q => Fx.glo q.1) hq)))
  have fD : ∀ q ∈ t.fns, ∃ fd, FunD K q.2.d.name q.2.d.qual q.2.d.params q.2.d.body q.2.d.scope (q.2.d.dvs K) (q.2.d.kws K) (He.ga K q.1) fd := fun q hq => by
    have z := cd q.2.d (List.mem_append_left _ (List.mem_map_of_mem (f := fun q : Str × DX => q.2.d) hq))
    rw [(o.fns q hq).2] at z
    exact z
  refine ⟨fun x e h => ?_, fun x hx => ?_, fun C m e h => ?_, fun C hC => ?_, fun C hC c' hm => ?_, fun C hC => ?_, fun C T' b h c1 t1 h1 h2 => ?_, fun p hp => ?_, fun x hx => ?_, fun p hp => ?_, fun C fs h => ?_, fun C hC c' hm => ?_, fun x c' h => ?_, fun x hx => ?_⟩
  · obtain ⟨q, hq, rfl, rfl⟩ := look_map (l := t.fns) h
    obtain ⟨fd, F⟩ := fD q hq
    refine ⟨_, fd, gF q hq, ent_of (o.fns q hq).1 F fun z => ?_⟩
    have z2 := ((o.fns q hq).1.nm z).2.1
    rw [(o.fns q hq).2] at z2
    have z3 : q.1 = q.2.C.nm := congrArg Prod.fst z2
    rw [← z3]; exact gF q hq
  · obtain ⟨q, hq, rfl⟩ := List.mem_map.mp (o.tf x hx)
    obtain ⟨fd, F⟩ := fD q hq
    exact ⟨_, gF q hq, F.kp⟩
  · obtain ⟨q, hq, e1, rfl⟩ := look_map (l := t.mths) h
    obtain ⟨o1, o2, o3⟩ := o.mths q hq
    have z := cd q.2.d (List.mem_append_right _ (List.mem_append_left _ (List.mem_map_of_mem (f := fun q : (Str × Str) × DX => q.2.d) hq)))
    rw [o2] at z
    obtain ⟨fd, F⟩ := z
    have e2 : q.1.1 = C ∧ q.1.2 = m := by rw [e1]; exact ⟨rfl, rfl⟩
    obtain ⟨rfl, rfl⟩ := e2
    refine ⟨_, _, fd, gC _ o3, He.meth_ok (inF (f := .meth q.1.1 q.1.2) ?_), ent_of o1 F fun z => ?_⟩
    rotate_left
    · have z2 := (o1.nm z).2.1
      rw [o2] at z2
      cases congrArg Prod.snd z2
    unfold Txt.fx1
    simp only [List.mem_append]
    exact .inr (.inr (.inr (.inr (.inr (.inr (.inr (.inl (List.mem_map_of_mem (f := fun q : (Str × Str) × DX => Fx.meth q.1.1 q.1.2) hq))))))))
  · refine ⟨_, _, gC C (o.mks C hC), He.mkr_ok (inF (f := .mkr C) ?_)⟩
    unfold Txt.fx1
    simp only [List.mem_append]
    exact .inr (.inr (.inr (.inr (.inr (.inr (.inr (.inr (.inl (List.mem_map_of_mem hC)))))))))
  · rw [gC C (o.cls C hC)] at hm
    cases hm
    refine ⟨clsf_ok (inF (f := .clsf C) ?_), fun f hf => He.noat_ok (inF (f := .noat C f) ?_), fun B hB => of_decide_eq_true (inF (f := .kitB C B) ?_)⟩
    · unfold Txt.fx1
      simp only [List.mem_append]
      exact .inr (.inr (.inr (.inr (.inl (List.mem_map_of_mem hC)))))
    · unfold Txt.fx1
      simp only [List.mem_append]
      exact .inr (.inr (.inr (.inr (.inr (.inl (List.mem_flatMap.mpr ⟨C, hC, List.mem_map_of_mem hf⟩))))))
    · unfold Txt.fx1
      simp only [List.mem_append]
      exact .inr (.inr (.inr (.inr (.inr (.inr (.inl (List.mem_flatMap.mpr ⟨C, hC, List.mem_map_of_mem hB⟩)))))))
  · refine ⟨_, gC C hC, inF (f := .keep C) ?_, fun B hB => of_decide_eq_true (inF (f := .kitA B C) ?_)⟩
    · unfold Txt.fx1
      simp only [List.mem_append]
      exact .inr (.inr (.inl (List.mem_map_of_mem hC)))
    · unfold Txt.fx1
      simp only [List.mem_append]
      exact .inr (.inr (.inr (.inl (List.mem_flatMap.mpr ⟨C, hC, List.mem_map_of_mem (f := fun b => Fx.kitA b C) hB⟩))))
  · have hm := look_mem (l := t.sub) h
    obtain ⟨s1, s2⟩ := o.sub _ hm
    rw [gC C s1] at h1
    rw [gC T' s2] at h2
    cases h1
    cases h2
    refine of_decide_eq_true (inF (f := .kit C T' b) ?_)
    unfold Txt.fx1
    simp only [List.mem_append]
    exact .inr (.inr (.inr (.inr (.inr (.inr (.inr (.inr (.inr (.inl (List.mem_map_of_mem (f := fun q : (Str × Str) × Bool => Fx.kit q.1.1 q.1.2 q.2) hm))))))))))
  · have hk := o.cst p hp
    unfold cstK at hk
    split at hk
    · rename_i x hx
      simp only [Bool.and_eq_true, beq_iff_eq, decide_eq_true_eq] at hk
      obtain ⟨q, hq, e⟩ := List.mem_map.mp (o.tf p.1 hk.2)
      have g := gF q hq
      rw [e] at g
      exact ⟨_, .ref (He.ga K p.1), g, rfl, fun O => by rw [hx, hk.1]; exact .glo g rfl⟩
    · exact cst_ok kin gl (inH (f := .cst p.1 p.2) (List.mem_append_right _ (List.mem_append_right _ (List.mem_map_of_mem (f := fun q : Str × D => Fx.cst q.1 q.2) hp))))
  · refine He.free_ok kin gl (inF (f := .free x) ?_)
    unfold Txt.fx1
    simp only [List.mem_append]
    exact .inr (.inr (.inr (.inr (.inr (.inr (.inr (.inr (.inr (.inr (.inl (List.mem_map_of_mem hx)))))))))))
  · have z := inF (f := .cms p.1 p.2) (by
      unfold Txt.fx1
      simp only [List.mem_append]
      exact .inr (.inr (.inr (.inr (.inr (.inr (.inr (.inr (.inr (.inr (.inr (List.mem_map_of_mem (f := fun q : Str × Str => Fx.cms q.1 q.2) hp))))))))))))
    obtain ⟨m, r1, r2, r3⟩ := cms_ok z
    exact ⟨_, _, gC _ (o.cms p hp), m.kp, m, r1, r2, r3⟩
  · have hm := look_mem (l := (t.exs0.map fun C => (C, ([] : List Str))) ++ t.exs1.map fun q => (q.1, q.2.fs)) h
    rcases List.mem_append.mp hm with hm | hm
    · obtain ⟨C', hC, e⟩ := List.mem_map.mp hm
      cases e
      refine ⟨_, gC C (o.exs0 C hC), .inl ⟨rfl, inG (f := .ex0 C) ?_⟩⟩
      exact List.mem_append_left _ (List.mem_map_of_mem hC)
    · obtain ⟨q, hq, e⟩ := List.mem_map.mp hm
      cases e
      obtain ⟨e1, e2⟩ := o.exs1 q hq
      have z := inG (f := .ex1 q.1) (List.mem_append_right _ (List.mem_append_left _ (List.mem_map_of_mem (f := fun q : Str × EX => Fx.ex1 q.1) hq)))
      obtain ⟨z1, z2, z3⟩ := ex1_ok z
      have fd := cd q.2.d (List.mem_append_right _ (List.mem_append_right _ (List.mem_append_left _ (List.mem_map_of_mem (f := fun q : Str × EX => q.2.d) hq))))
      rw [e1.at_] at fd
      obtain ⟨fd, F⟩ := fd
      have F : FunD K q.2.d.name q.2.d.qual q.2.d.params q.2.d.body q.2.d.scope [] [] (He.ma K (He.ga K q.1) "__init__") fd := by
        have y1 : q.2.d.dvs K = [] := by unfold He.DefD.dvs; rw [e1.df]; rfl
        have y2 : q.2.d.kws K = [] := by unfold He.DefD.kws; rw [e1.kw]; rfl
        rw [y1, y2] at F
        exact F
      refine ⟨_, gC q.1 e2, .inr ⟨_, fd, q.2.ps, z1, fun f hf => He.noat_ok (inG (f := .noat q.1 f) ?_), z2, z3, ⟨⟨_, _, _, _, _, F, e1.sc, e1.init⟩, F.bindsN e1.bi, e1.len, e1.z, e1.ne⟩⟩⟩
      exact List.mem_append_right _ (List.mem_append_right _ (List.mem_append_right _ (List.mem_append_right _ (List.mem_flatMap.mpr ⟨q, hq, List.mem_map_of_mem hf⟩))))
  · obtain ⟨fs, h⟩ := Option.isSome_iff_exists.mp hC
    have hm2 := look_mem (l := (t.exs0.map fun C => (C, ([] : List Str))) ++ t.exs1.map fun q => (q.1, q.2.fs)) h
    have hx : C ∈ t.exn ∧ C ∈ t.T.cls := by
      rcases List.mem_append.mp hm2 with hm2 | hm2
      · obtain ⟨C', hC', e⟩ := List.mem_map.mp hm2
        cases e
        exact ⟨List.mem_append_left _ hC', o.exs0 C hC'⟩
      · obtain ⟨q, hq, e⟩ := List.mem_map.mp hm2
        cases e
        exact ⟨List.mem_append_right _ (List.mem_map_of_mem (f := fun q : Str × EX => q.1) hq), (o.exs1 q hq).2⟩
    rw [gC C hx.2] at hm
    cases hm
    obtain ⟨z1, z2, z3⟩ := exf_ok (inG (f := .exf C) (List.mem_append_right _ (List.mem_append_right _ (List.mem_append_left _ (List.mem_map_of_mem hx.1)))))
    exact ⟨z1, z2, fun f hf => He.noat_ok (inG (f := .noat C f) (List.mem_append_right _ (List.mem_append_right _ (List.mem_append_right _ (List.mem_append_left _ (List.mem_flatMap.mpr ⟨C, hx.1, List.mem_map_of_mem hf⟩)))))), z3⟩
  · obtain ⟨q, hq, e⟩ := List.mem_map.mp (look_mem (l := t.cats.map fun q => (q.1, q.2.c)) h)
    cases e
    obtain ⟨o1, o2⟩ := o.cats q hq
    have z := cd q.2.d (List.mem_append_right _ (List.mem_append_right _ (List.mem_append_right _ (List.mem_map_of_mem (f := fun q : Str × CX => q.2.d) hq))))
    rw [o2] at z
    obtain ⟨fd, F⟩ := z
    refine ⟨_, fd, He.glo_ok kin gl (inH (f := .glo q.1) (List.mem_append_left _ (List.mem_map_of_mem (f := fun q : Str × CX => Fx.glo q.1) hq))), cat_of o1 F fun a b r hl c1 c2 m1 m2 => ?_⟩
    have hm := look_mem hl
    obtain ⟨t1, t2⟩ := o.exm _ hm
    rw [gC a t1] at m1
    rw [gC b t2] at m2
    cases m1
    cases m2
    exact of_decide_eq_true (inH (f := .exm a b r) (List.mem_append_right _ (List.mem_append_left _ (List.mem_map_of_mem (f := fun q : (Str × Str) × Bool => Fx.exm q.1.1 q.1.2 q.2) hm))))
  · obtain ⟨q, hq, e⟩ := List.mem_map.mp (o.tc x hx)
    obtain ⟨o1, o2⟩ := o.cats q hq
    have z := cd q.2.d (List.mem_append_right _ (List.mem_append_right _ (List.mem_append_right _ (List.mem_map_of_mem (f := fun q : Str × CX => q.2.d) hq))))
    rw [o2] at z
    obtain ⟨fd, F⟩ := z
    have g := He.glo_ok kin gl (inH (f := .glo q.1) (List.mem_append_left _ (List.mem_map_of_mem (f := fun q : Str × CX => Fx.glo q.1) hq)))
    rw [← e]
    exact ⟨_, g, F.kp⟩
theorem tab_same {x : Str} {c p c1 p1 : Addr} (hm : mg x = some (.ref (He.ga K x))) (hl : lamP K x = some (c1, p1)) (t : TabAt K mg x c p) : c = c1 ∧ p = p1 := by
  obtain ⟨f, ob, fd, m1, m2, m3, m4, m5⟩ := t
  rw [hm] at m1
  cases m1
  unfold lamP at hl
  split at hl
  · rename_i q1 q2 fd' q3 ho
    rw [m2] at ho
    cases ho
    cases m3
    rw [m4] at hl
    simp only at hl
    split at hl
    · rename_i w1 w2 vs w3 hc
      unfold PySem.W.codeHdIn at m5
      rw [hc] at m5
      split at hl
      · rename_i P hP
        cases hl
        refine ⟨rfl, ?_⟩
        split at m5
        · rename_i heq
          cases heq
          simp only [hP, Bool.and_eq_true, beq_iff_eq] at m5
          exact Eq.symm (by simpa using m5.1.1.1.1.1)
        · cases m5
      · cases hl
    · cases hl
  · cases hl
/-- the promise of the law -/
theorem law_end {P : Program} {w : World} {x : Str} {k : Nat} {q : Str × DX} (o : TxtOk t) (hq : t.fns.find? (fun q => q.1 == ("law" : Str)) = some q) (hps : q.2.e.ps = [x])
    (law : ∀ zs : List Int, zs.length ≤ 63 → ∃ h', runF (wr t.pg k) q.2.e [.ks true (zs.map D.int)] (t.T.lams.map Cell.tab) = .ok (.bl true) h')
    (kin : K.In hp) (gl : hp.Ns mainGlobals mg) (c : SaysX t.fx t.fn K) (lm : LamsOk K t.T.lams hp) (fa : Addr) (hm : mg ("law" : Str) = some (.ref fa)) :
    ∃ (fd : FuncData) (spr : Sp) (cs : List (Addr × Addr)), (∀ p ∈ cs, hp.get? p.2 = some tabO0) ∧ (∀ p ∈ cs, K.lookup p.2 = none) ∧ (∀ p ∈ cs, PySem.W.CodeHd hp p.1 p.2) ∧ (∀ (s : Shared) (u : Value), BindsTo s fd ⟨[u], []⟩ [(x, u)]) ∧
        (∀ (T : Hp) (sa : Addr) (zs : List Int), zs.length ≤ 63 → (∀ p ∈ cs, T p.2 = some (.tbl #[])) → (∀ p ∈ cs, p.2 ≠ sa) → SqL K T sa (zs.map V.int) → spr [.ref sa] T (fun v _ => v = .bl true) fun _ _ _ => False) ∧
        ∀ B : Heap, K.In B → B.Ns mainGlobals mg → (∀ p ∈ cs, LamX.TabB B mg p.1 p.2) → FnG P w K mg B (k + 1) fa fd [x] spr := by
  obtain ⟨cf, cd⟩ := c.all
  have gl1 : ∀ q ∈ t.fns, mg q.1 = some (.ref (He.ga K q.1)) := fun q hq => He.glo_ok kin gl (cf (.glo q.1) (List.mem_append_left _ (by
    unfold Txt.fx1
    exact List.mem_append_left _ (List.mem_map_of_mem (f := fun q => Fx.glo q.1) hq))))
  have hmem := List.mem_of_find?_eq_some hq
  have hnm : q.1 = ("law" : Str) := by simpa using List.find?_some hq
  obtain ⟨o1, o2⟩ := o.fns q hmem
  have z := cd q.2.d (List.mem_append_left _ (List.mem_map_of_mem (f := fun q : Str × DX => q.2.d) hmem))
  rw [o2, hnm] at z
  obtain ⟨fd, F⟩ := z
  have ea : He.fAd K (("law" : Str), none) = fa := by
    have g := gl1 q hmem
    rw [hnm, hm] at g
    exact (Value.ref.inj (Option.some.inj g)).symm
  rw [ea] at F
  have en := ent_of (mg := mg) o1 F fun z => by
    have z2 := (o1.nm z).2.1
    rw [o2] at z2
    have z3 : q.1 = q.2.C.nm := congrArg Prod.fst z2
    rw [← z3, hnm]; exact hm
  have csm : ∀ p, p ∈ t.T.lams.filterMap (lamP K) → ∃ y ∈ t.T.lams, lamP K y = some p := fun p hp => by
    obtain ⟨y, hy, e⟩ := List.mem_filterMap.mp hp
    exact ⟨y, hy, e⟩
  have csl : ∀ y ∈ t.T.lams, ∃ p ∈ t.T.lams.filterMap (lamP K), lamP K y = some p := fun y hy => by
    obtain ⟨c1, p1, e, _⟩ := lm.1 y hy
    exact ⟨(c1, p1), List.mem_filterMap.mpr ⟨y, hy, e⟩, e⟩
  refine ⟨fd, spF K mg 1 fun ds h => runF (wr t.pg k) q.2.e ds h, t.T.lams.filterMap (lamP K), fun p hp => ?_, fun p hp => ?_, fun p hp => ?_, fun s u => ?_, fun T sa zs hl tt ts sq => ?_, fun B kB gB tB => ?_⟩
  · obtain ⟨y, hy, e⟩ := csm p hp
    obtain ⟨c1, p1, e2, _, _, e5⟩ := lm.1 y hy
    rw [e] at e2; cases e2; exact e5
  · obtain ⟨y, hy, e⟩ := csm p hp
    obtain ⟨c1, p1, e2, _, e4, _⟩ := lm.1 y hy
    rw [e] at e2; cases e2; exact e4
  · obtain ⟨y, hy, e⟩ := csm p hp
    obtain ⟨c1, p1, e2, e3, _⟩ := lm.1 y hy
    rw [e] at e2; cases e2; exact PySem.W.codeHd_of_K kin e3
  · have F0 : FunD K q.2.d.name q.2.d.qual q.2.d.params q.2.d.body q.2.d.scope [] [] fa fd := by
      have e1 : q.2.d.dvs K = [] := by unfold He.DefD.dvs; rw [o1.df]; rfl
      have e2 : q.2.d.kws K = [] := by unfold He.DefD.kws; rw [o1.kw]; rfl
      rw [e1, e2] at F
      exact F
    have b := F0.bindsA o1.bi s [u] (by rw [hps]; rfl)
    rw [hps] at b
    exact b
  · let tabs := (t.T.lams.filterMap (lamP K)).map (·.2)
    let O : Om := ⟨t.T.lams.length, fun i => ((t.T.lams[i]?.bind (lamP K)).map (·.2)).getD 0, fun b => if b ∈ tabs then none else T b⟩
    have at_ : ∀ i y, t.T.lams[i]? = some y → ∃ c1 p1, lamP K y = some (c1, p1) ∧ O.φ i = p1 ∧ T p1 = some (.tbl #[]) ∧ p1 ∈ tabs ∧ PySem.W.codeHdIn K c1 p1 = true := fun i y e => by
      obtain ⟨c1, p1, e2, e3, _⟩ := lm.1 y (List.mem_of_getElem? e)
      have m : (c1, p1) ∈ t.T.lams.filterMap (lamP K) := List.mem_filterMap.mpr ⟨y, List.mem_of_getElem? e, e2⟩
      refine ⟨c1, p1, e2, ?_, tt _ m, List.mem_map_of_mem (f := fun p : Addr × Addr => p.2) m, e3⟩
      show ((t.T.lams[i]?.bind (lamP K)).map (·.2)).getD 0 = p1
      rw [e]
      show ((lamP K y).map (·.2)).getD 0 = p1
      rw [e2]; rfl
    have lt_ : ∀ i, i < t.T.lams.length → ∃ y, t.T.lams[i]? = some y := fun i hi => ⟨_, List.getElem?_eq_getElem hi⟩
    have nsa : sa ∉ tabs := fun z => by
      obtain ⟨p, hp, e⟩ := List.mem_map.mp z
      exact ts p hp e
    have Fsa : O.F sa = T sa := if_neg nsa
    have sq2 : SqL K O.F sa (zs.map V.int) := by
      rcases sq with (q | ⟨ob, q⟩) | q
      · exact .inl (.inl (Fsa.trans q))
      · exact .inl (.inr ⟨ob, Fsa.trans q⟩)
      · exact .inr q
    refine ⟨rfl, O, [.ks true (zs.map D.int)], t.T.lams.map Cell.tab, .cons (.ksl sq2 ?_ (RepL.ints _ zs)) .nil, ⟨?_, fun b u e => ?_, fun i j hi hj e => ?_, fun i hi => ?_, fun i c e nd => ?_, fun i c e => ?_⟩, ?_⟩
    · rw [List.length_map, sizeLine_eq]; omega
    · rw [List.length_map]
    · have e : (if b ∈ tabs then none else T b) = some u := e
      split at e
      · cases e
      · exact e
    · obtain ⟨y1, h1⟩ := lt_ i hi
      obtain ⟨y2, h2⟩ := lt_ j hj
      obtain ⟨c1, p1, a1, a2, _⟩ := at_ i y1 h1
      obtain ⟨c2, p2, b1, b2, _⟩ := at_ j y2 h2
      rw [a2, b2] at e
      subst e
      have nd := lm.2
      have li : i < (t.T.lams.map fun x => (lamP K x).map (·.2)).length := by rw [List.length_map]; exact hi
      have lj : j < (t.T.lams.map fun x => (lamP K x).map (·.2)).length := by rw [List.length_map]; exact hj
      have g1 : (t.T.lams.map fun x => (lamP K x).map (·.2))[i]? = some (some p1) := by rw [List.getElem?_map, h1]; show some ((lamP K y1).map (·.2)) = _; rw [a1]; rfl
      have g2 : (t.T.lams.map fun x => (lamP K x).map (·.2))[j]? = some (some p1) := by rw [List.getElem?_map, h2]; show some ((lamP K y2).map (·.2)) = _; rw [b1]; rfl
      exact (List.getElem?_inj li nd).mp (g1.trans g2.symm)
    · obtain ⟨y1, h1⟩ := lt_ i hi
      obtain ⟨c1, p1, a1, a2, a3, _⟩ := at_ i y1 h1
      exact ⟨_, by rw [a2]; exact a3⟩
    · rw [List.getElem?_map, Option.map_eq_some_iff] at e
      obtain ⟨y1, h1, rfl⟩ := e
      obtain ⟨c1, p1, a1, a2, a3, a4, _⟩ := at_ i y1 h1
      rw [a2]
      exact if_pos a4
    · rw [List.getElem?_map, Option.map_eq_some_iff] at e
      obtain ⟨y1, h1, rfl⟩ := e
      obtain ⟨c1, p1, a1, a2, a3, a4, a5⟩ := at_ i y1 h1
      rw [a2]
      refine ⟨⟨c1, ?_⟩, #[], a3, True.intro, fun pos cv hc => ?_⟩
      · obtain ⟨q0, hq0, e0⟩ := List.mem_map.mp (o.lams y1 (List.mem_of_getElem? h1))
        have g := gl1 q0 hq0
        rw [e0] at g
        unfold lamP at a1
        split at a1
        · rename_i w1 w2 fd' w3 ho
          split at a1
          · rename_i c2 hc2
            split at a1
            · split at a1
              · cases a1
                exact ⟨_, _, fd', g, ho, rfl, hc2, a5⟩
              · cases a1
            · cases a1
          · cases a1
        · cases a1
      · have hc : codeAmong pos [] = some cv := hc
        simp [codeAmong] at hc
    · obtain ⟨h', e⟩ := law zs hl
      simp only [e]
      exact fun O' v H' _ _ r => by cases r; rfl
  · have fg := all_G (P := P) (w := w) (base := B) (pg_of o kin gl c) (fun y hy c1 p1 ta => by
      obtain ⟨p, hp, e⟩ := csl y hy
      obtain ⟨q0, hq0, e0⟩ := List.mem_map.mp (o.lams y hy)
      have g := gl1 q0 hq0
      rw [e0] at g
      obtain ⟨e1, e2⟩ := tab_same g e ta
      rw [e1, e2]
      exact tB p hp) (k + 1) (k + 1) (Nat.le_refl _) fa fd q.2.e en
    rw [hps] at fg
    exact fg
end
end SI
end
section
set_option Elab.async false
set_option linter.all false
set_option maxRecDepth 100000
set_option maxHeartbeats 4000000
/-! SI24: printing, small checks. -/
namespace SI
open PySem PySem.Spec PyProof.Rows L2
def dArgs : Stmt → Arguments
  | .FunctionDef _ a _ _ _ _ _ _ _ _ => a
  | _ => default
def dBody : Stmt → List Stmt
  | .FunctionDef _ _ b _ _ _ _ _ _ _ => b
  | _ => []
def dScope : Stmt → Scope
  | .FunctionDef _ _ _ _ _ _ s _ _ _ => s
  | _ => default
def scopeB (N P : List Str) (sc : Scope) : Bool := (match sc.kind with
  | .function => true
  | _ => false) && (!sc.isCoroutine && (!sc.isGenerator && (decide N.Nodup && (decide (N.take P.length = P) && ((P.all fun x => decide (sc.names.lookup x = some .local ∨ sc.names.lookup x = some .cell)) && sc.names.all fun y => match y.2 with
  | .free => false
  | _ => true)))))
theorem scopeB_ok {N P : List Str} {sc : Scope} (h : scopeB N P sc = true) : FnScope N P sc := by
  unfold scopeB at h
  simp only [Bool.and_eq_true, List.all_eq_true, decide_eq_true_eq, Bool.not_eq_true'] at h
  obtain ⟨h1, h2, h3, h4, h5, h6, h7⟩ := h
  refine ⟨?_, h2, h3, h4, h5, h6, fun y hy e => ?_⟩
  · split at h1
    · assumption
    · cases h1
  · have z := h7 y hy
    rw [e] at z
    cases z
/-- how a body's end is a call's end -/
def fin : SRes → Res D
  | .nx _ h => .ok .non h
  | .rt d h => .ok d h
  | .ex x _ h => .ex x h
  | _ => .no
@[simp] theorem fin_rt {d : D} {h : Hs} : fin (.rt d h) = .ok d h := rfl
@[simp] theorem fin_nx {env : Nv} {h : Hs} : fin (.nx env h) = .ok .non h := rfl
end SI
end
section
set_option Elab.async false
set_option linter.all false
set_option maxRecDepth 100000
set_option maxHeartbeats 4000000
/-! SI25: the small language, step by step. -/
namespace SI
open PySem L2

section
variable {G : Wr} {n : Nat} {env : Nv} {h : Hs}
@[simp] theorem ev_c {d : D} : ev G (n + 1) (.c d) env h = .ok d h := rfl
@[simp] theorem ev_v {i : Nat} : ev G (n + 1) (.v i) env h = .of (get env i) h := rfl
@[simp] theorem ev_val {e : IE} : ev G (n + 1) (.val e) env h = ev G n e env h := rfl
@[simp] theorem ev_tup {es : List IE} : ev G (n + 1) (.tup es) env h = (evs (ev G n) es env h).bind fun ds h => .ok (.tup ds) h := rfl
@[simp] theorem ev_lst {m : Bool} {es : List IE} : ev G (n + 1) (.lst m es) env h = (evs (ev G n) es env h).bind fun ds h => mkL m ds h := rfl
@[simp] theorem ev_bin {o : Bop} {a b : IE} : ev G (n + 1) (.bin o a b) env h = (ev G n a env h).bind fun x h => (ev G n b env h).bind fun y h => binA h o x y := rfl
@[simp] theorem ev_cmp {o : Cop} {a b : IE} : ev G (n + 1) (.cmp o a b) env h = (ev G n a env h).bind fun x h => (ev G n b env h).bind fun y h => .of ((cmpD h o x y).map .bl) h := rfl
@[simp] theorem ev_chain {o p : Cop} {a b c : IE} : ev G (n + 1) (.chain o p a b c) env h = (ev G n a env h).bind fun x h => (ev G n b env h).bind fun y h => (Res.of (cmpD h o x y) h).bind fun k h =>
        if k then (ev G n c env h).bind fun z h => .of ((cmpD h p y z).map .bl) h else .ok (.bl false) h := rfl
@[simp] theorem ev_and {a b : IE} : ev G (n + 1) (.and a b) env h = (ev G n a env h).bind fun x h => (Res.of (truth h x) h).bind fun k h => if k then ev G n b env h else .ok x h := rfl
@[simp] theorem ev_or {a b : IE} : ev G (n + 1) (.or a b) env h = (ev G n a env h).bind fun x h => (Res.of (truth h x) h).bind fun k h => if k then .ok x h else ev G n b env h := rfl
@[simp] theorem ev_not {a : IE} : ev G (n + 1) (.not a) env h = (ev G n a env h).bind fun x h => .of ((truth h x).map fun k => .bl (!k)) h := rfl
@[simp] theorem ev_ife {c a b : IE} : ev G (n + 1) (.ife c a b) env h = (evT G n c env h).bind fun k h => if k then ev G n a env h else ev G n b env h := rfl
@[simp] theorem ev_call {x : Str} {es : List IE} : ev G (n + 1) (.call x es) env h = (evs (ev G n) es env h).bind fun ds h => G.call x ds h := rfl
@[simp] theorem ev_make {x : Str} {es : List IE} : ev G (n + 1) (.make x es) env h = (evs (ev G n) es env h).bind fun ds h => G.make x ds h := rfl
@[simp] theorem ev_meth {o : IE} {m : Str} {es : List IE} : ev G (n + 1) (.meth o m es) env h = (ev G n o env h).bind fun d h => match clsOf G h d m with
      | some C => (evs (ev G n) es env h).bind fun ds h => G.meth C m (d :: ds) h
      | none => .no := rfl
@[simp] theorem ev_cmeth {C m : Str} {es : List IE} : ev G (n + 1) (.cmeth C m es) env h = (evs (ev G n) es env h).bind fun ds h => G.meth C m ds h := rfl
@[simp] theorem ev_bi {f : Bi} {e : IE} : ev G (n + 1) (.bi f e) env h = (ev G n e env h).bind fun d h => .of (biD f h d) h := rfl
@[simp] theorem ev_isi {e : IE} {ts : List (Sum String Str)} : ev G (n + 1) (.isi e ts) env h = (ev G n e env h).bind fun d h => .of ((isAny G h d ts).map .bl) h := rfl
@[simp] theorem ev_bm {m : Me} {o : IE} {es : List IE} : ev G (n + 1) (.bm m o es) env h = (ev G n o env h).bind fun d h => if meOk m h d then (evs (ev G n) es env h).bind fun ds h => meD m h d ds else .no := rfl
@[simp] theorem ev_fld {o : IE} {f : Str} : ev G (n + 1) (.fld o f) env h = (ev G n o env h).bind fun d h => .of (fldD G h d f) h := rfl
@[simp] theorem ev_ix {o i : IE} : ev G (n + 1) (.ix o i) env h = (ev G n o env h).bind fun x h => (ev G n i env h).bind fun y h => .of (ixD h x y) h := rfl
@[simp] theorem ev_sl {o : IE} {lo hi : Option IE} : ev G (n + 1) (.sl o lo hi) env h = (ev G n o env h).bind fun x h => (evo (ev G n) lo env h).bind fun l h => (evo (ev G n) hi env h).bind fun u h => .of (slD h x l u) h := rfl
@[simp] theorem ev_rngs {l m : Bool} {as : List IE} : ev G (n + 1) (.rngs l m as) env h = reL m ((evs (ev G n) as env h).bind fun ds h => (Res.of (rngA ds) h).bind fun xs h =>
        if xs.length ≤ LINE then .ok (if l then .lst xs else .tup xs) h else .no) := rfl
@[simp] theorem ev_dic {t : Bool} : ev G (n + 1) (.dic t) env h = .ok (.ptr h.length) (h ++ [if t then .dT [] else .dK []]) := rfl
@[simp] theorem ev_dicd {ks : List Str} {es : List IE} : ev G (n + 1) (.dicd ks es) env h = (evs (ev G n) es env h).calm.bind fun ds h =>
        if ks.length = ds.length then .ok (.ptr h.length) (h ++ [.dK ((ks.map Sum.inr).zip ds)]) else .no := rfl
/-- a comprehension's test -/
def ifsF (G : Wr) (n : Nat) : Option IE → Nv → Hs → Res Bool
  | none => fun _ h => .ok true h
  | some c => evT G n c
@[simp] theorem ifsF_none : ifsF G n none = fun _ h => .ok true h := rfl
@[simp] theorem ifsF_some {c : IE} : ifsF G n (some c) = evT G n c := rfl
theorem ev_comp {m : Bool} {e : IE} {t : Tg} {k : SrcK} {as : List IE} {i : Option IE} {own : List Nat} : ev G (n + 1) (.comp m e t k as i own) env h = reL m ((evs (ev G n) as env h).bind fun ds h => (Res.of (srcD k ds) h).bind fun xs h => if xs.length ≤ LINE then
        (compLoop (turnF t (ifsF G n i) (ev G n e) (wipeE env own)) xs h).bind fun ys h => .ok (.lst ys) h else .no) := by
  cases i <;> rfl
theorem ev_compK {m : Bool} {e : IE} {t : Tg} {i : Nat} {c : Option IE} {own : List Nat} : ev G (n + 1) (.compK m e t i c own) env h = match get env i with
      | some (.ptr p) => match h[p]? with
        | some ce => match keysD ce with
          | some xs => if xs.length ≤ LINE then reL m ((compLoop (turnF t (ifsF G n c) (ev G n e) ((wipeE env own).set i none)) xs (h.set p .dead)).bind fun ys h2 => .ok (.lst ys) (h2.set p ce)) else .no
          | none => .no
        | none => .no
      | _ => .no := by
  cases c <;> rfl
@[simp] theorem ev_dic1 {k v : IE} : ev G (n + 1) (.dic1 k v) env h = (((ev G n k env h).bind fun d h => (ev G n v env h).bind fun u h => Res.ok (d, u) h).calm).bind fun q h => match keyT q.1 with
      | some ks => .ok (.ptr h.length) (h ++ [.dT [(ks, q.2)]])
      | none => .no := rfl
@[simp] theorem ev_mm {mx : Bool} {a b : IE} : ev G (n + 1) (.mm mx a b) env h = (ev G n a env h).bind fun x h => (ev G n b env h).bind fun y h => mmD mx x y h := rfl
@[simp] theorem mm_ii {mx : Bool} {i j : Int} : mmD mx (.int i) (.int j) h = .ok (.int (if mx then (if j > i then j else i) else if j < i then j else i)) h := rfl
theorem ex_whil {m : Nat} {c : IE} {b : List IS} : ex G (n + 1) (.whil m c b) env h = whileF (evT G n c) (exs (ex G n) b) m env h := rfl
@[simp] theorem ev_lstm {e : IE} : ev G (n + 1) (.lstm e) env h = reL true ((ev G n e env h).bind fun d h => .of (biD .list h d) h) := rfl
@[simp] theorem ev_upd {o e : IE} : ev G (n + 1) (.upd o e) env h = (ev G n o env h).bind fun x h => if isDp h x then (ev G n e env h).bind fun y h => match updD h x y with
      | some h => .ok .non h
      | none => .no else .no := rfl
@[simp] theorem ev_binm {op : Bop} {a b : IE} : ev G (n + 1) (.binm op a b) env h = reL true ((ev G n a env h).bind fun x h => (ev G n b env h).bind fun y h => binM h op x y) := rfl
@[simp] theorem ev_slm {o : IE} {lo hi : Option IE} : ev G (n + 1) (.slm o lo hi) env h = reL true ((ev G n o env h).bind fun x h => (evo (ev G n) lo env h).bind fun l h => (evo (ev G n) hi env h).bind fun u h => .of (slD h x l u) h) := rfl
@[simp] theorem ex_aug {i : Nat} {op : Bop} {e : IE} : ex G (n + 1) (.aug i op e) env h = match get env i with
      | some (.int x) => (ev G n e env h).sbind env fun y h => match y with
        | .int z => match binD h op (.int x) (.int z) with
          | some z => .nx (env.set i (some z)) h
          | none => .no
        | _ => .no
      | _ => .no := rfl
@[simp] theorem ex_augix {o i e : IE} {op : Bop} : ex G (n + 1) (.augix o i op e) env h = (ev G n o env h).sbind env fun x h => (ev G n i env h).sbind env fun k h => match x, ixD h x k with
      | .ptr p, some (.int a) => (ev G n e env h).sbind env fun y h => match y with
        | .int b => match binD h op (.int a) (.int b) with
          | some z => match setIxD h (.ptr p) k z with
            | some h => .nx env h
            | none => .no
          | none => .no
        | _ => .no
      | _, _ => .no := rfl
@[simp] theorem ex_setsl {o lo hi e : IE} : ex G (n + 1) (.setsl o lo hi e) env h = (ev G n e env h).sbind env fun v h => (ev G n o env h).sbind env fun x h => (evo (ev G n) (some lo) env h).sbind env fun a h => (evo (ev G n) (some hi) env h).sbind env fun b h => match setSlD h x a b v with
      | some h => .nx env h
      | none => .no := rfl
@[simp] theorem evT_and {a b : IE} : evT G (n + 1) (.and a b) env h = (evT G n a env h).bind fun k h => if k then evT G n b env h else .ok false h := rfl
@[simp] theorem evT_or {a b : IE} : evT G (n + 1) (.or a b) env h = (evT G n a env h).bind fun k h => if k then .ok true h else evT G n b env h := rfl
@[simp] theorem evT_not {a : IE} : evT G (n + 1) (.not a) env h = (evT G n a env h).bind fun k h => .ok (!k) h := rfl
@[simp] theorem evT_val {a : IE} : evT G (n + 1) (.val a) env h = (ev G n (.val a) env h).bind fun x h => .of (truth h x) h := rfl
@[simp] theorem evT_cmp {o : Cop} {a b : IE} : evT G (n + 1) (.cmp o a b) env h = (ev G n (.cmp o a b) env h).bind fun x h => .of (truth h x) h := rfl
@[simp] theorem evT_chain {o p : Cop} {a b c : IE} : evT G (n + 1) (.chain o p a b c) env h = (ev G n (.chain o p a b c) env h).bind fun x h => .of (truth h x) h := rfl
@[simp] theorem evs_nil {f : IE → Nv → Hs → Res D} : evs f [] env h = .ok [] h := rfl
@[simp] theorem evs_cons {f : IE → Nv → Hs → Res D} {e : IE} {es : List IE} : evs f (e :: es) env h = (f e env h).bind fun d h => (evs f es env h).bind fun ds h => .ok (d :: ds) h := rfl
@[simp] theorem evo_none {f : IE → Nv → Hs → Res D} : evo f none env h = .ok none h := rfl
@[simp] theorem evo_some {f : IE → Nv → Hs → Res D} {e : IE} : evo f (some e) env h = (f e env h).bind fun d h => match d with
    | .int i => .ok (some i) h
    | _ => .no := rfl
@[simp] theorem of_some {α : Type} {a : α} : Res.of (some a) h = .ok a h := rfl
@[simp] theorem of_none {α : Type} : (Res.of (none : Option α) h) = .no := rfl
@[simp] theorem calm_ok {α : Type} {a : α} : (Res.ok a h).calm = .ok a h := rfl
@[simp] theorem exs_nil {f : IS → Nv → Hs → SRes} : exs f [] env h = .nx env h := rfl
@[simp] theorem exs_cons {f : IS → Nv → Hs → SRes} {s : IS} {ss : List IS} : exs f (s :: ss) env h = (f s env h).then (exs f ss) := rfl
@[simp] theorem then_nx {f : Nv → Hs → SRes} : (SRes.nx env h).then f = f env h := rfl
@[simp] theorem then_rt {f : Nv → Hs → SRes} {d : D} : (SRes.rt d h).then f = .rt d h := rfl
@[simp] theorem then_bk {f : Nv → Hs → SRes} : (SRes.bk env h).then f = .bk env h := rfl
@[simp] theorem then_ct {f : Nv → Hs → SRes} : (SRes.ct env h).then f = .ct env h := rfl
@[simp] theorem ex_set {t : Tg} {e : IE} : ex G (n + 1) (.set t e) env h = (ev G n e env h).sbind env fun d h => match asg t d env with
      | some env => .nx env h
      | none => .no := rfl
@[simp] theorem ex_par3 {i j l : Nat} {a b c : IE} : ex G (n + 1) (.par3 i j l a b c) env h = (ev G n a env h).sbind env fun x h => (ev G n b env h).sbind env fun y h => (ev G n c env h).sbind env fun z h => .nx (((env.set i (some x)).set j (some y)).set l (some z)) h := rfl
@[simp] theorem ex_set2 {o1 i1 o2 i2 e : IE} : ex G (n + 1) (.set2 o1 i1 o2 i2 e) env h = (ev G n e env h).sbind env fun d h => match pairOf d with
      | some (u, v) => (ev G n o1 env h).sbind env fun x h => (ev G n i1 env h).sbind env fun y h => match setIxD h x y u with
        | some h => (ev G n o2 env h).sbind env fun x h => (ev G n i2 env h).sbind env fun y h => match setIxD h x y v with
          | some h => .nx env h
          | none => .no
        | none => .no
      | none => .no := rfl
@[simp] theorem ex_par {i j : Nat} {a b : IE} : ex G (n + 1) (.par i j a b) env h = (ev G n a env h).sbind env fun x h => (ev G n b env h).sbind env fun y h => .nx ((env.set i (some x)).set j (some y)) h := rfl
@[simp] theorem ex_setix {o i e : IE} : ex G (n + 1) (.setix o i e) env h = (ev G n e env h).sbind env fun v h => (ev G n o env h).sbind env fun x h => (ev G n i env h).sbind env fun y h => match setIxD h x y v with
      | some h => .nx env h
      | none => .no := rfl
@[simp] theorem ex_setf {o e : IE} {f : Str} : ex G (n + 1) (.setf o f e) env h = (ev G n e env h).sbind env fun v h => (ev G n o env h).sbind env fun x h => match setFD G h x f v with
      | some h => .nx env h
      | none => .no := rfl
@[simp] theorem ex_ex {e : IE} : ex G (n + 1) (.ex e) env h = (ev G n e env h).sbind env fun _ h => .nx env h := rfl
@[simp] theorem ex_ret {e : IE} : ex G (n + 1) (.ret e) env h = (ev G n e env h).sbind env fun d h => .rt d h := rfl
@[simp] theorem ex_retN : ex G (n + 1) .retN env h = .rt .non h := rfl
@[simp] theorem ex_ife {c : IE} {a b : List IS} : ex G (n + 1) (.ife c a b) env h = (evT G n c env h).sbind env fun k h => if k then exs (ex G n) a env h else exs (ex G n) b env h := rfl
@[simp] theorem ex_loop {t : Tg} {k : SrcK} {as : List IE} {b : List IS} : ex G (n + 1) (.loop t k as b) env h = (evs (ev G n) as env h).sbind env fun ds h => match srcD k ds with
      | some xs => forLoop (fun x env h => match asg t x env with
        | some env => exs (ex G n) b env h
        | none => .no) xs env h
      | none => .no := rfl
@[simp] theorem ex_pass : ex G (n + 1) .pass env h = .nx env h := rfl
@[simp] theorem asg_n {i : Nat} {d : D} : asg (.n i) d env = some (env.set i (some d)) := rfl
@[simp] theorem get_zero {d : Option D} : get (d :: env) 0 = d := rfl
@[simp] theorem get_succ {d : Option D} {i : Nat} : get (d :: env) (i + 1) = get env i := rfl
@[simp] theorem truth_bl {b : Bool} : truth h (.bl b) = some b := rfl
@[simp] theorem mkL_f {xs : List D} : mkL false xs h = .ok (.lst xs) h := rfl
@[simp] theorem mkL_t {xs : List D} : mkL true xs h = .ok (.ptr h.length) (h ++ [.lst xs]) := rfl
@[simp] theorem reL_f {r : Res D} : reL false r = r := rfl
end
end SI
end
section
set_option Elab.async false
set_option linter.all false
set_option maxRecDepth 100000
set_option maxHeartbeats 4000000
/-! SI26: plain laws: loops, equality, repr. -/
namespace SI
open PySem L2

/-! ### loops -/
theorem comp_pure {f : D → Hs → Res (Option D)} {g : D → Option D} {h : Hs} : ∀ {xs : List D}, (∀ x ∈ xs, f x h = .ok (g x) h) → compLoop f xs h = .ok (xs.filterMap g) h
  | [], _ => rfl
  | x :: xs, hx => by
    unfold compLoop
    rw [hx x List.mem_cons_self, Res.bind_ok, comp_pure fun y hy => hx y (List.mem_cons_of_mem _ hy), Res.bind_ok, List.filterMap_cons]
    cases g x <;> rfl
/-- every turn gives a thing -/
theorem comp_map {f : D → Hs → Res (Option D)} {g : D → D} {h : Hs} {xs : List D} (hx : ∀ x ∈ xs, f x h = .ok (some (g x)) h) : compLoop f xs h = .ok (xs.map g) h := by
  rw [comp_pure (g := fun x => some (g x)) hx]
  simp
/-- every turn gives a thing, the heap may change: I by what is left -/
theorem comp_inv {f : D → Hs → Res (Option D)} {R : D → D → Prop} {I : Nat → Hs → Prop} : ∀ {xs : List D} {h : Hs}, I xs.length h → (∀ x ∈ xs, ∀ n h, I (n + 1) h → ∃ y h', f x h = .ok (some y) h' ∧ I n h' ∧ R x y) → ∃ ys h', compLoop f xs h = .ok ys h' ∧ I 0 h' ∧ Paired R xs ys
  | [], h, i, _ => ⟨[], h, rfl, i, .nil⟩
  | x :: xs, h, i, k => by
    obtain ⟨y, h1, e1, i1, r1⟩ := k x List.mem_cons_self xs.length h i
    obtain ⟨ys, h2, e2, i2, r2⟩ := comp_inv i1 fun z hz => k z (List.mem_cons_of_mem _ hz)
    refine ⟨y :: ys, h2, ?_, i2, .cons r1 r2⟩
    unfold compLoop
    rw [e1, Res.bind_ok, e2, Res.bind_ok]
/-- turns that may give nothing -/
theorem comp_invO {f : D → Hs → Res (Option D)} {R : D → D → Prop} {I : Nat → Hs → Prop} : ∀ {xs : List D} {h : Hs}, I xs.length h → (∀ x ∈ xs, ∀ n h, I (n + 1) h → ∃ o h', f x h = .ok o h' ∧ I n h' ∧ ∀ y, o = some y → R x y) →
    ∃ ys zs h', compLoop f xs h = .ok ys h' ∧ I 0 h' ∧ List.Sublist zs xs ∧ Paired R zs ys
  | [], h, i, _ => ⟨[], [], h, rfl, i, .slnil, .nil⟩
  | x :: xs, h, i, k => by
    obtain ⟨o, h1, e1, i1, r1⟩ := k x List.mem_cons_self xs.length h i
    obtain ⟨ys, zs, h2, e2, i2, sl, r2⟩ := comp_invO i1 fun z hz => k z (List.mem_cons_of_mem _ hz)
    cases o with
    | none => exact ⟨ys, zs, h2, by unfold compLoop; rw [e1, Res.bind_ok, e2, Res.bind_ok], i2, .cons _ sl, r2⟩
    | some y => exact ⟨y :: ys, x :: zs, h2, by unfold compLoop; rw [e1, Res.bind_ok, e2, Res.bind_ok], i2, .cons₂ _ sl, .cons (r1 y rfl) r2⟩
/-- a loop that runs through: I by what is left -/
theorem for_inv {f : D → Nv → Hs → SRes} {I : Nat → Nv → Hs → Prop} : ∀ {xs : List D} {env : Nv} {h : Hs}, I xs.length env h → (∀ x ∈ xs, ∀ n env h, I (n + 1) env h → ∃ env' h', f x env h = .nx env' h' ∧ I n env' h') → ∃ env' h', forLoop f xs env h = .nx env' h' ∧ I 0 env' h'
  | [], env, h, i, _ => ⟨env, h, rfl, i⟩
  | x :: xs, env, h, i, k => by
    obtain ⟨env1, h1, e1, i1⟩ := k x List.mem_cons_self xs.length env h i
    obtain ⟨env2, h2, e2, i2⟩ := for_inv i1 fun z hz => k z (List.mem_cons_of_mem _ hz)
    exact ⟨env2, h2, by unfold forLoop; rw [e1]; exact e2, i2⟩
/-- the same with the items in sight -/
theorem for_seq {f : D → Nv → Hs → SRes} {I : List D → Nv → Hs → Prop} : ∀ {xs : List D} {env : Nv} {h : Hs}, I xs env h → (∀ x xs env h, I (x :: xs) env h → ∃ env' h', f x env h = .nx env' h' ∧ I xs env' h') → ∃ env' h', forLoop f xs env h = .nx env' h' ∧ I [] env' h'
  | [], env, h, i, _ => ⟨env, h, rfl, i⟩
  | x :: xs, env, h, i, k => by
    obtain ⟨env1, h1, e1, i1⟩ := k x xs env h i
    obtain ⟨env2, h2, e2, i2⟩ := for_seq i1 k
    exact ⟨env2, h2, by unfold forLoop; rw [e1]; exact e2, i2⟩
/-! ### plain data -/
mutual
theorem pyD_eq : ∀ (d : D) (g g' : Nat → Option PyData) (y : PyData), (∀ n, g n = none) → pyD g d = some y → pyD g' d = some y
  | .non, _, _, _, _, e => e
  | .bl _, _, _, _, _, e => e
  | .int _, _, _, _, _, e => e
  | .str _, _, _, _, _, e => e
  | .tup xs, g, g', y, hn, e => by
    simp only [pyD, Option.map_eq_some_iff] at e ⊢
    obtain ⟨ys, e, rfl⟩ := e
    exact ⟨ys, pyL_eq xs g g' ys hn e, rfl⟩
  | .lst xs, g, g', y, hn, e => by
    simp only [pyD, Option.map_eq_some_iff] at e ⊢
    obtain ⟨ys, e, rfl⟩ := e
    exact ⟨ys, pyL_eq xs g g' ys hn e, rfl⟩
  | .ks l xs, g, g', y, hn, e => by
    simp only [pyD, Option.map_eq_some_iff] at e ⊢
    obtain ⟨ys, e, rfl⟩ := e
    exact ⟨ys, pyL_eq xs g g' ys hn e, rfl⟩
  | .ptr n, g, g', y, hn, e => by
    have e : g n = some y := e
    rw [hn] at e; cases e
  | .glo _, _, _, _, _, e => by cases e
theorem pyL_eq : ∀ (ds : List D) (g g' : Nat → Option PyData) (ys : List PyData), (∀ n, g n = none) → pyL g ds = some ys → pyL g' ds = some ys
  | [], _, _, _, _, e => e
  | d :: ds, g, g', ys, hn, e => by
    simp only [pyL] at e ⊢
    split at e
    · rename_i y hy
      split at e
      · rename_i zs hz
        cases e
        rw [pyD_eq d g g' y hn hy, pyL_eq ds g g' zs hn hz]
      · cases e
    · cases e
end
/-- a value's data -/
def py (d : D) : Option PyData := pyD (fun _ => none) d
def pys (ds : List D) : Option (List PyData) := pyL (fun _ => none) ds
theorem deep_py {h : Hs} {d : D} {y : PyData} (e : py d = some y) : deep h d = some y := pyD_eq d _ _ y (fun _ => rfl) e
theorem pyL_pys {g : Nat → Option PyData} {ds : List D} {ys : List PyData} (e : pys ds = some ys) : pyL g ds = some ys := pyL_eq ds _ _ ys (fun _ => rfl) e
theorem py_tup {xs : List D} {ys : List PyData} (e : pys xs = some ys) : py (.tup xs) = some (.tuple ys) := by
  show (pyL _ xs).map _ = _
  rw [show pyL (fun _ => none) xs = some ys from e]; rfl
theorem py_lst {xs : List D} {ys : List PyData} (e : pys xs = some ys) : py (.lst xs) = some (.list ys) := by
  show (pyL _ xs).map _ = _
  rw [show pyL (fun _ => none) xs = some ys from e]; rfl
theorem pys_ints : ∀ xs : List Int, pys (xs.map D.int) = some (xs.map PyData.int)
  | [] => rfl
  | x :: xs => by
    show (match some (PyData.int x) with
      | some d => match pys (xs.map D.int) with
        | some ds => some (d :: ds)
        | none => none
      | none => none) = _
    rw [pys_ints xs]; rfl
theorem pys_map {α : Type} {f : α → D} {g : α → PyData} (h : ∀ a, py (f a) = some (g a)) : ∀ xs : List α, pys (xs.map f) = some (xs.map g)
  | [] => rfl
  | x :: xs => by
    show (match py (f x) with
      | some d => match pys (xs.map f) with
        | some ds => some (d :: ds)
        | none => none
      | none => none) = _
    rw [h, pys_map h xs]; rfl
theorem eqD_same {h : Hs} {d : D} {y : PyData} (e : py d = some y) (s : SeqAt.shaped y = true) : eqD h d d = some true := by
  unfold eqD
  rw [deep_py e]
  simp [s, SeqAt.eqv_refl y (SeqAt.canLay_of_shaped s)]
theorem eqD_py {h : Hs} {d e : D} {y z : PyData} (h1 : py d = some y) (h2 : py e = some z) (s : SeqAt.shaped y = true) (t : SeqAt.shaped z = true) : eqD h d e = some (PyData.eqv y z) := by
  unfold eqD
  rw [deep_py h1, deep_py h2]
  simp [s, t]
/-! ### small data: shown in a few signs -/
mutual
def good : PyData → Bool
  | .none => true
  | .bool _ => true
  | .int i => decide (0 ≤ i ∧ i < 10)
  | .str x => decide (x = "slots" ∨ x = "early" ∨ x = "upward")
  | .list xs => goods xs
  | .tuple xs => goods xs
  | .dict _ => false
def goods : List PyData → Bool
  | [] => true
  | x :: xs => good x && goods xs
end
mutual
def siz : PyData → Nat
  | .list xs => sizs xs + 1
  | .tuple xs => sizs xs + 1
  | _ => 1
def sizs : List PyData → Nat
  | [] => 0
  | x :: xs => siz x + sizs xs
end
theorem digit_len {i : Int} (h : 0 ≤ i ∧ i < 10) : (PyData.int i).shown.length ≤ 17 ∧ (PyData.int i).showable = true := by
  have : i = 0 ∨ i = 1 ∨ i = 2 ∨ i = 3 ∨ i = 4 ∨ i = 5 ∨ i = 6 ∨ i = 7 ∨ i = 8 ∨ i = 9 := by omega
  rcases this with rfl | rfl | rfl | rfl | rfl | rfl | rfl | rfl | rfl | rfl <;> exact ⟨by decide +kernel, by decide +kernel⟩
theorem word_len {x : Str} (h : x = "slots" ∨ x = "early" ∨ x = "upward") : (PyData.str x).shown.length ≤ 17 ∧ (PyData.str x).canLay0 = true := by
  rcases h with rfl | rfl | rfl <;> exact ⟨by decide +kernel, by decide +kernel⟩
mutual
theorem good_ok : ∀ d : PyData, good d = true → d.showable = true ∧ d.hasDict = false ∧ d.canLay0 = true ∧ d.shown.length + 3 ≤ 20 * siz d ∧ d.depth ≤ siz d
  | .none, _ => ⟨rfl, rfl, rfl, by decide +kernel, by decide⟩
  | .bool b, _ => ⟨rfl, rfl, rfl, by cases b <;> decide +kernel, by simp [PyData.depth]⟩
  | .int i, h => by
    have h1 := digit_len (of_decide_eq_true h)
    exact ⟨h1.2, rfl, rfl, by simp only [siz]; omega, by simp [PyData.depth]⟩
  | .str x, h => by
    have h1 := word_len (of_decide_eq_true h)
    exact ⟨rfl, rfl, h1.2, by simp only [siz]; omega, by simp [PyData.depth]⟩
  | .list xs, h => by
    obtain ⟨h1, h2, h3, h4, h5⟩ := goods_ok xs h
    have z := listText_len_le (PyData.shownAll xs)
    refine ⟨h1, h2, h3, ?_, ?_⟩
    · show (listText (PyData.shownAll xs)).length + 3 ≤ 20 * (sizs xs + 1)
      omega
    · show PyData.depthAll xs + 1 ≤ sizs xs + 1
      omega
  | .tuple xs, h => by
    obtain ⟨h1, h2, h3, h4, h5⟩ := goods_ok xs h
    have z := tupleText_len_le (PyData.shownAll xs)
    refine ⟨h1, h2, h3, ?_, ?_⟩
    · show (tupleText (PyData.shownAll xs)).length + 3 ≤ 20 * (sizs xs + 1)
      omega
    · show PyData.depthAll xs + 1 ≤ sizs xs + 1
      omega
  | .dict _, h => by cases h
theorem goods_ok : ∀ ds : List PyData, goods ds = true → PyData.showableAll ds = true ∧ PyData.hasDictAll ds = false ∧ PyData.canLayAll0 ds = true ∧ ((PyData.shownAll ds).map (·.length)).sum + 3 * (PyData.shownAll ds).length ≤ 20 * sizs ds ∧ PyData.depthAll ds ≤ sizs ds
  | [], _ => ⟨rfl, rfl, rfl, by simp [PyData.shownAll], by simp [PyData.depthAll]⟩
  | d :: ds, h => by
    simp only [goods, Bool.and_eq_true] at h
    obtain ⟨a1, a2, a3, a4, a5⟩ := good_ok d h.1
    obtain ⟨b1, b2, b3, b4, b5⟩ := goods_ok ds h.2
    refine ⟨by simp [PyData.showableAll, a1, b1], by simp [PyData.hasDictAll, a2, b2], by simp [PyData.canLayAll0, a3, b3], ?_, ?_⟩
    · simp only [PyData.shownAll, List.map_cons, List.sum_cons, List.length_cons, sizs]
      omega
    · simp only [PyData.depthAll, sizs]
      omega
end
theorem shaped_of {y : PyData} (g : good y = true) (z : y.depth ≤ 60) : SeqAt.shaped y = true := by
  obtain ⟨_, _, h3, _, h5⟩ := good_ok y g
  unfold SeqAt.shaped
  rw [h3, decide_eq_true (by omega)]; rfl
theorem repr_ok {h : Hs} {d : D} {y : PyData} (e : py d = some y) (p : isPtr d = true) (g : good y = true) (z : siz y ≤ 10000) (z2 : y.depth ≤ 60) : reprD h d = some (.str y.shown) := by
  obtain ⟨h1, h2, _, h4, _⟩ := good_ok y g
  have hl : y.shown.length ≤ LINE := by
    show _ ≤ 16777216
    omega
  unfold reprD
  rw [deep_py e]
  simp [p, h1, h2, hl, z2]
end SI
end
section
set_option Elab.async false
set_option linter.all false
set_option maxRecDepth 100000
set_option maxHeartbeats 4000000
/-! SI27: the laws' pen. -/
namespace SI
open PySem L2

/-- the pen's dict -/
def pen (cs : List D) (a g n f : Int) : Cell := .dK [(.inr "cells", .lst cs), (.inr "at", .int a), (.inr "digits", .int g), (.inr "count", .int n), (.inr "fold", .int f)]
section
variable {cs : List D} {a g n f m : Int} {h : Hs} {p : Nat}
theorem pen_cells : dget (pen cs a g n f) (.str "cells") = some (some (.lst cs)) := rfl
theorem pen_at : dget (pen cs a g n f) (.str "at") = some (some (.int a)) := rfl
theorem pen_digits : dget (pen cs a g n f) (.str "digits") = some (some (.int g)) := rfl
theorem pen_count : dget (pen cs a g n f) (.str "count") = some (some (.int n)) := rfl
theorem pen_fold : dget (pen cs a g n f) (.str "fold") = some (some (.int f)) := rfl
theorem put_at : dput (pen cs a g n f) (.str "at") (.int m) = some (pen cs m g n f) := rfl
theorem put_digits : dput (pen cs a g n f) (.str "digits") (.int m) = some (pen cs a m n f) := rfl
theorem put_count : dput (pen cs a g n f) (.str "count") (.int m) = some (pen cs a g m f) := rfl
theorem put_fold : dput (pen cs a g n f) (.str "fold") (.int m) = some (pen cs a g n m) := rfl
/-- reading and writing the pen at p -/
theorem pen_ix (hp : h[p]? = some (pen cs a g n f)) (k : D) : ixD h (.ptr p) k = (dget (pen cs a g n f) k).join := by
  show (match h[p]? with
    | some (.lst xs) => idx k xs
    | some c => (dget c k).join
    | none => none) = _
  rw [hp]; rfl
theorem pen_set (hp : h[p]? = some (pen cs a g n f)) (k v : D) : setIxD h (.ptr p) k v = (match dput (pen cs a g n f) k v with
      | some c' => some (h.set p c')
      | none => none) := by
  show (match h[p]? with
    | some (.lst xs) => match k with
      | .int k => match ixN xs.length k with
        | some j => some (h.set p (.lst (xs.set j v)))
        | none => none
      | _ => none
    | some c => match dput c k v with
      | some c' => some (h.set p c')
      | none => none
    | none => none) = _
  rw [hp]; rfl
theorem set_get (hp : h[p]? = some (pen cs a g n f)) (c : Cell) : (h.set p c)[p]? = some c := List.getElem?_set_self (List.getElem?_eq_some_iff.mp hp).1
end
/-- the pen stands at p, r more draws may come -/
def PenAt (r : Nat) (h : Hs) (p : Nat) : Prop := ∃ (ns : List Int) (a g n f : Int), h[p]? = some (pen (ns.map D.int) a g n f) ∧ 0 ≤ a ∧ 0 ≤ g ∧ 0 ≤ n ∧ n + r ≤ 1000000 ∧ 0 ≤ f ∧ f < 2 ^ 40
theorem PenAt.mono {r s : Nat} {h : Hs} {p : Nat} (x : PenAt r h p) (e : s ≤ r) : PenAt s h p := by
  obtain ⟨ns, a, g, n, f, h1, h2, h3, h4, h5, h6⟩ := x
  exact ⟨ns, a, g, n, f, h1, h2, h3, h4, by omega, h6⟩
/-- all else is as it was -/
structure Same (p : Nat) (h h' : Hs) : Prop where
  len : h'.length = h.length
  at_ : ∀ j, j ≠ p → h'[j]? = h[j]?
theorem Same.refl (p : Nat) (h : Hs) : Same p h h := ⟨rfl, fun _ _ => rfl⟩
theorem Same.trans {p : Nat} {h h1 h2 : Hs} (a : Same p h h1) (b : Same p h1 h2) : Same p h h2 := ⟨b.len.trans a.len, fun j hj => (b.at_ j hj).trans (a.at_ j hj)⟩
theorem Same.set (p : Nat) (h : Hs) (c : Cell) : Same p h (h.set p c) := ⟨List.length_set, fun j hj => List.getElem?_set_ne (Ne.symm hj)⟩
/-- a draw's text, by its numbers -/
def drawIR (c1 c2 c3 : Int) : List IS := [.setix (.v 0) (.c (.str "count")) (.bin .add (.ix (.v 0) (.c (.str "count"))) (.c (.int 1))),
  .ife (.and (.cmp .eq (.ix (.v 0) (.c (.str "digits"))) (.c (.int 0))) (.cmp .lt (.ix (.v 0) (.c (.str "at"))) (.bi .len (.ix (.v 0) (.c (.str "cells"))))))
    [.set (.n 2) (.ix (.ix (.v 0) (.c (.str "cells"))) (.ix (.v 0) (.c (.str "at")))), .setix (.v 0) (.c (.str "at")) (.bin .add (.ix (.v 0) (.c (.str "at"))) (.c (.int 1))),
     .ife (.cmp .ge (.v 2) (.bin .pow (.c (.int 10)) (.c (.int 18)))) [.setix (.v 0) (.c (.str "digits")) (.bin .sub (.v 2) (.bin .pow (.c (.int 10)) (.c (.int 18))))]
       [.setix (.v 0) (.c (.str "fold")) (.bin .mod (.bi .int (.bin .add (.bin .mul (.ix (.v 0) (.c (.str "fold"))) (.c (.int c1))) (.v 2))) (.c (.int 2147483543)))]] [],
  .ife (.cmp .gt (.ix (.v 0) (.c (.str "digits"))) (.c (.int 0))) [.set (.n 3) (.bin .mod (.bi .int (.ix (.v 0) (.c (.str "digits")))) (.v 1)), .setix (.v 0) (.c (.str "digits")) (.bin .fdiv (.ix (.v 0) (.c (.str "digits"))) (.v 1)), .ret (.v 3)] [],
  .set (.n 4) (.bin .add (.bin .add (.ix (.v 0) (.c (.str "fold"))) (.bin .mul (.ix (.v 0) (.c (.str "count"))) (.c (.int c2)))) (.c (.int c3))),
  .ret (.bin .mod (.bin .fdiv (.bi .int (.bin .mod (.bin .pow (.v 4) (.c (.int 23))) (.c (.int 2305843009213693951)))) (.c (.int 128))) (.v 1))]
section
variable {G : Wr} {c1 c2 c3 : Int} {cs : List D} {a g n f m : Int} {h : Hs} {p : Nat} {ns : List Int} {x2 x3 x4 : Option D}
@[simp] theorem binA_int {op : Bop} {i j : Int} {z : D} (e : binD h op (.int i) (.int j) = some z) : binA h op (.int i) (.int j) = .ok z h := by
  unfold binA; rw [e]
@[simp] theorem add_ii {i j : Int} : binA h .add (.int i) (.int j) = .ok (.int (i + j)) h := rfl
@[simp] theorem sub_ii {i j : Int} : binA h .sub (.int i) (.int j) = .ok (.int (i - j)) h := rfl
theorem mul_ic {i j : Int} (hb : big64 j = true) : binA h .mul (.int i) (.int j) = .ok (.int (i * j)) h := by
  unfold binA binD
  simp [hb]
theorem mod_ii {i j : Int} (hj : 0 < j) : binA h .mod (.int i) (.int j) = .ok (.int (i % j)) h := by
  unfold binA binD
  simp [hj]
theorem fdiv_ii {i j : Int} (hj : 0 < j) (h2 : j < 1073741824) : binA h .fdiv (.int i) (.int j) = .ok (.int (i / j)) h := by
  have h3 : j.natAbs < 1073741824 := by omega
  unfold binA binD
  simp [hj, h3]
theorem pow_10 : binA h .pow (.int 10) (.int 18) = .ok (.int 1000000000000000000) h := rfl
theorem pow_23 {i : Int} (hi : i.natAbs < 2 ^ 64) : binA h .pow (.int i) (.int 23) = .ok (.int (i ^ 23)) h := by
  unfold binA binD
  have : i.natAbs < 18446744073709551616 := hi
  simp [this]
@[simp] theorem eq_ii {i j : Int} : cmpD h .eq (.int i) (.int j) = some (i == j) := rfl
@[simp] theorem ne_ii {i j : Int} : cmpD h .ne (.int i) (.int j) = some (!(i == j)) := rfl
@[simp] theorem lt_ii {i j : Int} : cmpD h .lt (.int i) (.int j) = some (decide (i < j)) := rfl
@[simp] theorem gt_ii {i j : Int} : cmpD h .gt (.int i) (.int j) = some (decide (j < i)) := rfl
@[simp] theorem le_ii {i j : Int} : cmpD h .le (.int i) (.int j) = some (decide (i ≤ j)) := rfl
@[simp] theorem ge_ii {i j : Int} : cmpD h .ge (.int i) (.int j) = some (decide (j ≤ i)) := rfl
@[simp] theorem int_i {i : Int} : biD .int h (.int i) = some (.int i) := rfl
@[simp] theorem len_lst {xs : List D} : biD .len h (.lst xs) = some (.int xs.length) := rfl
@[simp] theorem len_tup {xs : List D} : biD .len h (.tup xs) = some (.int xs.length) := rfl
/-- the end of a draw -/
theorem draw_tail {k : Nat} (hp : h[p]? = some (pen cs a g n f)) (hg : 0 ≤ g) (hn : 0 ≤ n ∧ n ≤ 1000000) (hf : 0 ≤ f ∧ f < 2 ^ 40) (hc2 : 0 ≤ c2 ∧ c2 < 2 ^ 20) (hc3 : 0 ≤ c3 ∧ c3 < 2 ^ 20) (hm : 0 < m) (hm2 : m < 1073741824) :
    ∃ d g', exs (ex G (k + 10)) ((drawIR c1 c2 c3).drop 2) [some (.ptr p), some (.int m), x2, x3, x4] h = .rt (.int d) (h.set p (pen cs a g' n f)) ∧ 0 ≤ d ∧ d < m ∧ 0 ≤ g' := by
  by_cases hg0 : 0 < g
  · refine ⟨g % m, g / m, ?_, Int.emod_nonneg _ (by omega), Int.emod_lt_of_pos _ hm, Int.ediv_nonneg hg (by omega)⟩
    simp [drawIR, pen_ix hp, pen_digits, hg0, mod_ii hm, fdiv_ii hm hm2, pen_set hp, put_digits]
  · have hb : 0 ≤ f + n * c2 + c3 := by
      have := Int.mul_nonneg hn.1 hc2.1
      omega
    have hb2 : n * c2 ≤ 1000000 * 2 ^ 20 := Int.mul_le_mul hn.2 (by omega) hc2.1 (by omega)
    have hb3 : (f + n * c2 + c3).natAbs < 2 ^ 64 := by omega
    have hbig : big64 c2 = true := decide_eq_true (by omega)
    refine ⟨(f + n * c2 + c3) ^ 23 % 2305843009213693951 / 128 % m, g, ?_, Int.emod_nonneg _ (by omega), Int.emod_lt_of_pos _ hm, hg⟩
    have e0 : h.set p (pen cs a g n f) = h := set_same hp
    rw [e0]
    simp [drawIR, pen_ix hp, pen_digits, pen_fold, pen_count, hg0, mod_ii hm, fdiv_ii, mul_ic hbig, pow_23 hb3, mod_ii]
end
end SI
end
section
set_option Elab.async false
set_option linter.all false
set_option maxRecDepth 100000
set_option maxHeartbeats 4000000
/-! SI28: a draw, a row of draws. -/
namespace SI
open PySem L2
section
variable {G : Wr} {c1 c2 c3 : Int} {cs : List D} {a g n f m : Int} {h : Hs} {p : Nat} {ns : List Int} {x2 x3 x4 : Option D}
theorem at_ints {ns : List Int} {a : Int} (h0 : 0 ≤ a) (h1 : a < ns.length) : ∃ v, atI (ns.map D.int) a = some (.int v) := by
  have hl : (ns.map D.int).length = ns.length := List.length_map ..
  unfold atI ixN
  rw [hl, if_pos h0, if_pos h1]
  refine ⟨ns[a.toNat]'(by omega), ?_⟩
  simp [show a.toNat < ns.length by omega]
/-- the middle of a draw -/
theorem draw_mid {k : Nat} (hp : h[p]? = some (pen (ns.map D.int) a g n f)) (ha : 0 ≤ a) (hg : 0 ≤ g) (hf : 0 ≤ f ∧ f < 2 ^ 40) (hc1 : 0 ≤ c1 ∧ c1 < 2 ^ 20) :
    ∃ a' g' f' y2, exs (ex G (k + 10)) (((drawIR c1 c2 c3).drop 1).take 1) [some (.ptr p), some (.int m), x2, x3, x4] h = .nx [some (.ptr p), some (.int m), y2, x3, x4] (h.set p (pen (ns.map D.int) a' g' n f')) ∧ 0 ≤ a' ∧ 0 ≤ g' ∧ 0 ≤ f' ∧ f' < 2 ^ 40 := by
  have e0 : h.set p (pen (ns.map D.int) a g n f) = h := set_same hp
  by_cases hg0 : g = 0
  · by_cases hl : a < ns.length
    · obtain ⟨v, hv⟩ := at_ints ha hl
      have hix : ixD h (.lst (ns.map D.int)) (.int a) = some (.int v) := hv
      have hp2 : (h.set p (pen (ns.map D.int) (a + 1) g n f))[p]? = some (pen (ns.map D.int) (a + 1) g n f) := set_get hp _
      by_cases hb : 1000000000000000000 ≤ v
      · refine ⟨a + 1, v - 1000000000000000000, f, some (.int v), ?_, by omega, by omega, hf⟩
        simp [drawIR, pen_ix hp, pen_digits, pen_at, pen_cells, hg0, hl, hix, pen_set hp, put_at, pow_10, hb]
        subst hg0
        simp [pen_set hp2, put_digits]
      · refine ⟨a + 1, g, (f * c1 + v) % 2147483543, some (.int v), ?_, by omega, hg, Int.emod_nonneg _ (by decide), ?_⟩
        · have hbig : big64 c1 = true := decide_eq_true (by omega)
          simp [drawIR, pen_ix hp, pen_digits, pen_at, pen_cells, hg0, hl, hix, pen_set hp, put_at, pow_10, hb]
          subst hg0
          simp [pen_ix hp2, pen_fold, pen_set hp2, put_fold, mul_ic hbig, mod_ii]
        · have := Int.emod_lt_of_pos (f * c1 + v) (show (0 : Int) < 2147483543 by decide)
          omega
    · refine ⟨a, g, f, x2, ?_, ha, hg, hf⟩
      rw [e0]
      simp [drawIR, pen_ix hp, pen_digits, pen_at, pen_cells, hg0, hl]
  · refine ⟨a, g, f, x2, ?_, ha, hg, hf⟩
    rw [e0]
    simp [drawIR, pen_ix hp, pen_digits, hg0]
theorem exs_app {F : IS → Nv → Hs → SRes} : ∀ {l r : List IS} {env : Nv} {h : Hs}, exs F (l ++ r) env h = (exs F l env h).then (exs F r)
  | [], _, _, _ => rfl
  | s :: l, r, env, h => by
    show (F s env h).then (exs F (l ++ r)) = ((F s env h).then (exs F l)).then (exs F r)
    cases F s env h with
    | nx env h => exact exs_app
    | _ => rfl
theorem draw_run {k r : Nat} (hp : PenAt (r + 1) h p) (hc1 : 0 ≤ c1 ∧ c1 < 2 ^ 20) (hc2 : 0 ≤ c2 ∧ c2 < 2 ^ 20) (hc3 : 0 ≤ c3 ∧ c3 < 2 ^ 20) (hm : 0 < m) (hm2 : m < 1073741824) :
    ∃ d h', exs (ex G (k + 10)) (drawIR c1 c2 c3) [some (.ptr p), some (.int m), x2, x3, x4] h = .rt (.int d) h' ∧ 0 ≤ d ∧ d < m ∧ PenAt r h' p ∧ Same p h h' := by
  obtain ⟨ns, a, g, n, f, hp, ha, hg, hn, hr, hf⟩ := hp
  have hp1 : (h.set p (pen (ns.map D.int) a g (n + 1) f))[p]? = some (pen (ns.map D.int) a g (n + 1) f) := set_get hp _
  obtain ⟨a', g', f', y2, e2, ha', hg', hf'⟩ := draw_mid (G := G) (k := k) (c1 := c1) (c2 := c2) (c3 := c3) (m := m) (x2 := x2) (x3 := x3) (x4 := x4) hp1 ha hg hf hc1
  have hp2 := set_get hp1 (pen (ns.map D.int) a' g' (n + 1) f')
  obtain ⟨d, g2, e3, d0, d1, hg2⟩ := draw_tail (G := G) (k := k) (c1 := c1) (c2 := c2) (c3 := c3) (x2 := y2) (x3 := x3) (x4 := x4) hp2 hg' ⟨by omega, by omega⟩ hf' hc2 hc3 hm hm2
  refine ⟨d, _, ?_, d0, d1, ⟨ns, a', g2, n + 1, f', set_get hp2 _, ha', hg2, by omega, by omega, hf'⟩, ((Same.set _ _ _).trans (Same.set _ _ _)).trans (Same.set _ _ _)⟩
  have e1 : ex G (k + 10) (.setix (.v 0) (.c (.str "count")) (.bin .add (.ix (.v 0) (.c (.str "count"))) (.c (.int 1)))) [some (.ptr p), some (.int m), x2, x3, x4] h = .nx [some (.ptr p), some (.int m), x2, x3, x4] (h.set p (pen (ns.map D.int) a g (n + 1) f)) := by
    simp [pen_ix hp, pen_count, pen_set hp, put_count]
  show (ex G (k + 10) (.setix (.v 0) (.c (.str "count")) (.bin .add (.ix (.v 0) (.c (.str "count"))) (.c (.int 1)))) _ h).then (exs (ex G (k + 10)) (((drawIR c1 c2 c3).drop 1).take 1 ++ (drawIR c1 c2 c3).drop 2)) = _
  rw [e1, then_nx, exs_app, e2, then_nx, e3]
end
/-- one turn of a for -/
def bodyF (G : Wr) (n : Nat) (t : Tg) (b : List IS) : D → Nv → Hs → SRes := fun x env h => match asg t x env with
  | some env => exs (ex G n) b env h
  | none => .no
theorem loop_run {G : Wr} {n : Nat} {t : Tg} {k : SrcK} {as : List IE} {b : List IS} {env : Nv} {h h1 : Hs} {ds xs : List D} {r : SRes} (ea : evs (ev G n) as env h = .ok ds h1) (es : srcD k ds = some xs) (el : forLoop (bodyF G n t b) xs env h1 = r) :
    ex G (n + 1) (.loop t k as b) env h = r := by
  rw [ex_loop, ea, Res.sbind_ok, es]
  exact el
theorem comp_run {G : Wr} {n : Nat} {m : Bool} {e : IE} {t : Tg} {k : SrcK} {as : List IE} {i : Option IE} {own : List Nat} {env : Nv} {h h1 h2 : Hs} {ds xs ys : List D} (ea : evs (ev G n) as env h = .ok ds h1) (es : srcD k ds = some xs) (hz : xs.length ≤ LINE)
    (ec : compLoop (turnF t (ifsF G n i) (ev G n e) (wipeE env own)) xs h1 = .ok ys h2) : ev G (n + 1) (.comp m e t k as i own) env h = reL m (.ok (.lst ys) h2) := by
  rw [ev_comp, ea, Res.bind_ok, es, of_some, Res.bind_ok, if_pos hz, ec, Res.bind_ok]
/-- what a program's draw does -/
def Draws (G : Wr) : Prop := ∀ (r : Nat) (m : Int) (h : Hs) (p : Nat), PenAt (r + 1) h p → 0 < m → m < 1073741824 → ∃ d h', G.call "_law_draw" [.ptr p, .int m] h = .ok (.int d) h' ∧ 0 ≤ d ∧ d < m ∧ PenAt r h' p ∧ Same p h h'
end SI
end
section
set_option Elab.async false
set_option linter.all false
set_option maxRecDepth 100000
set_option maxHeartbeats 1000000
/-! SIP: plain laws, what any law may use. -/
namespace SI
open PySem L2
namespace PL
/-! ### running a def -/
theorem run_rt {G : Wr} {e : FnE} {ds : List D} {h h' : Hs} {d : D} (hl : ds.length = e.ps.length) (x : exs (ex G e.fuel) e.body (ds.map some ++ List.replicate (e.N.length - ds.length) none) h = .rt d h') : runF G e ds h = .ok d h' := by
  unfold runF
  rw [if_pos hl, x]
/-! ### names in a long environment -/
theorem get_set {env : Nv} {i j : Nat} {v : D} (hi : i < env.length) : get (env.set i (some v)) j = if i = j then some v else get env j := by
  unfold get
  rw [List.getElem?_set]
  by_cases e : i = j
  · subst e; simp [hi]
  · simp [e]
theorem len_set {env : Nv} {i : Nat} {v : Option D} : (env.set i v).length = env.length := List.length_set ..
theorem get_eq {env : Nv} {m : Nat} {v : D} (hi : m < env.length) : get (env.set m (some v)) m = some v := (get_set hi).trans (if_pos rfl)
theorem get_ne {env : Nv} {m j : Nat} {v : D} (hi : m < env.length) (e : m ≠ j) : get (env.set m (some v)) j = get env j := (get_set hi).trans (if_neg e)
theorem get_wipe {env : Nv} {i j : Nat} : i ≠ j → get (env.set i none) j = get env j := fun e => by
  unfold get
  rw [List.getElem?_set]
  simp [e]
@[simp] theorem wipe_nil {env : Nv} : wipeE env [] = env := rfl
@[simp] theorem wipe_cons {env : Nv} {v : Nat} {vs : List Nat} : wipeE env (v :: vs) = (wipeE env vs).set v none := rfl
/-! ### cells -/
section
variable {h : Hs} {p q f : Nat}
theorem get_app {c d : Cell} (hq : h[q]? = some c) : (h ++ [d])[q]? = some c := by
  have : q < h.length := (List.getElem?_eq_some_iff.mp hq).1
  rw [List.getElem?_append_left this]
  exact hq
theorem get_last {d : Cell} : (h ++ [d])[h.length]? = some d := by
  rw [List.getElem?_append_right (Nat.le_refl _), Nat.sub_self]; rfl
theorem at_lt {c : Cell} (hq : h[q]? = some c) : q < h.length := (List.getElem?_eq_some_iff.mp hq).1
theorem at_set {c d : Cell} (hq : h[q]? = some c) : (h.set q d)[q]? = some d := List.getElem?_set_self (at_lt hq)
theorem at_ne {c d : Cell} (hq : h[q]? = some c) (e : p ≠ q) : (h.set p d)[q]? = some c := by rw [List.getElem?_set_ne e]; exact hq
theorem set_app {d : Cell} {e : Cell} : (h ++ [d]).set h.length e = h ++ [e] := by
  rw [List.set_append_right _ _ (Nat.le_refl _), Nat.sub_self]; rfl
/-! ### lists of numbers -/
/-- numbers as data -/
def nL (xs : List Nat) : List D := xs.map fun x => .int (x : Nat)
@[simp] theorem nL_nil : nL [] = [] := rfl
@[simp] theorem nL_cons {x : Nat} {xs : List Nat} : nL (x :: xs) = .int x :: nL xs := rfl
@[simp] theorem nL_len {xs : List Nat} : (nL xs).length = xs.length := List.length_map ..
theorem nL_app {xs ys : List Nat} : nL (xs ++ ys) = nL xs ++ nL ys := List.map_append
theorem nL_take {xs : List Nat} {k : Nat} : nL (xs.take k) = (nL xs).take k := List.map_take ..
theorem nL_drop {xs : List Nat} {k : Nat} : nL (xs.drop k) = (nL xs).drop k := List.map_drop ..
theorem nL_rep {x k : Nat} : nL (List.replicate k x) = List.replicate k (.int x) := List.map_replicate
theorem nL_set {xs : List Nat} {k x : Nat} : nL (xs.set k x) = (nL xs).set k (.int x) := List.map_set ..
theorem nL_get {xs : List Nat} {p : Nat} (hp : p < xs.length) : (nL xs)[p]? = some (.int (xs.getD p 0 : Nat)) := by
  unfold nL
  rw [List.getElem?_map, List.getElem?_eq_getElem hp]
  simp [List.getD, List.getElem?_eq_getElem hp]
theorem atI_nat {xs : List D} {p : Nat} {d : D} (e : xs[p]? = some d) : atI xs (p : Int) = some d := by
  have hp : p < xs.length := (List.getElem?_eq_some_iff.mp e).1
  unfold atI ixN
  rw [if_pos (Int.natCast_nonneg p), if_pos (by omega)]
  exact e
theorem ixt {xs : List D} {p : Nat} {d : D} (e : xs[p]? = some d) : ixD h (.tup xs) (.int p) = some d := atI_nat e
theorem ixv {xs : List D} {p : Nat} {d : D} (e : xs[p]? = some d) : ixD h (.lst xs) (.int p) = some d := atI_nat e
theorem ixp {xs : List D} {p : Nat} {d : D} (hf : h[f]? = some (.lst xs)) (e : xs[p]? = some d) : ixD h (.ptr f) (.int p) = some d := by
  simp only [ixD, hf]
  exact atI_nat e
theorem ixtn {xs : List Nat} {p : Nat} (hp : p < xs.length) : ixD h (.tup (nL xs)) (.int p) = some (.int (xs.getD p 0 : Nat)) := ixt (nL_get hp)
theorem ixpn {xs : List Nat} {p : Nat} (hf : h[f]? = some (.lst (nL xs))) (hp : p < xs.length) : ixD h (.ptr f) (.int p) = some (.int (xs.getD p 0 : Nat)) := ixp hf (nL_get hp)
theorem ixN_nat {n p : Nat} (hp : p < n) : ixN n (p : Int) = some p := by
  unfold ixN
  rw [if_pos (Int.natCast_nonneg p), if_pos (by omega)]
  rfl
theorem setp {xs : List D} {p : Nat} {v : D} (hf : h[f]? = some (.lst xs)) (hp : p < xs.length) : setIxD h (.ptr f) (.int p) v = some (h.set f (.lst (xs.set p v))) := by
  simp only [setIxD, hf, ixN_nat hp]
theorem setpn {xs : List Nat} {p x : Nat} (hf : h[f]? = some (.lst (nL xs))) (hp : p < xs.length) : setIxD h (.ptr f) (.int p) (.int x) = some (h.set f (.lst (nL (xs.set p x)))) := by
  rw [setp hf (by rw [nL_len]; exact hp), nL_set]
theorem len_t {xs : List D} : biD .len h (.tup xs) = some (.int xs.length) := rfl
theorem len_l {xs : List D} : biD .len h (.lst xs) = some (.int xs.length) := rfl
theorem len_p {xs : List D} (hf : h[f]? = some (.lst xs)) : biD .len h (.ptr f) = some (.int xs.length) := by
  show lenD h (.ptr f) = _
  simp only [lenD, hf]
theorem isT {G : Wr} {xs : List D} : isAny G h (.tup xs) [.inl "tuple"] = some true := rfl
theorem isB {G : Wr} {i : Int} : isAny G h (.int i) [.inl "bool"] = some false := rfl
theorem tru_p {xs : List D} (hf : h[f]? = some (.lst xs)) : truth h (.ptr f) = some (!xs.isEmpty) := by
  simp only [truth, hf]
theorem tru_i {i : Int} : truth h (.int i) = some (i != 0) := rfl
theorem app_ok {xs : List D} (hf : h[f]? = some (.lst xs)) : meOk .append h (.ptr f) = true := by
  unfold meOk
  simp only [hf]
  rfl
theorem app_d {xs : List D} {y : D} (hf : h[f]? = some (.lst xs)) (hl : xs.length < 16777216) : meD .append h (.ptr f) [y] = .ok .non (h.set f (.lst (xs ++ [y]))) := by
  have e : meC .append (.lst xs) [y] = some (.non, .lst (xs ++ [y])) := by
    show (if xs.length < LINE then some (D.non, Cell.lst (xs ++ [y])) else none) = _
    rw [if_pos (show xs.length < LINE from hl)]
  unfold meD
  simp only [hf, e]
theorem tup_p {xs : List D} (hf : h[f]? = some (.lst xs)) : biD .tuple h (.ptr f) = some (.tup xs) := by
  simp [biD, tupD, un, hf]
@[simp] theorem tup_lst {xs : List D} : biD .tuple h (.lst xs) = some (.tup xs) := rfl
@[simp] theorem tup_tup {xs : List D} : biD .tuple h (.tup xs) = some (.tup xs) := rfl
@[simp] theorem list_lst {xs : List D} : biD .list h (.lst xs) = some (.lst xs) := rfl
@[simp] theorem list_tup {xs : List D} : biD .list h (.tup xs) = some (.lst xs) := rfl
/-! ### operators -/
theorem add_lst {xs ys : List D} (z : xs.length + ys.length ≤ 16777216) : binA h .add (.lst xs) (.lst ys) = .ok (.lst (xs ++ ys)) h := by
  have z : xs.length + ys.length ≤ LINE := z
  unfold binA binD binL
  simp [isKs, un, z]
theorem add_pp {xs ys : List D} (hp : h[p]? = some (.lst xs)) (hq : h[q]? = some (.lst ys)) (z : xs.length + ys.length ≤ 16777216) : binA h .add (.ptr p) (.ptr q) = .ok (.lst (xs ++ ys)) h := by
  have z : xs.length + ys.length ≤ LINE := z
  unfold binA binD binL
  simp [isKs, un, hp, hq, z]
theorem add_lp {xs ys : List D} (hq : h[q]? = some (.lst ys)) (z : xs.length + ys.length ≤ 16777216) : binA h .add (.lst xs) (.ptr q) = .ok (.lst (xs ++ ys)) h := by
  have z : xs.length + ys.length ≤ LINE := z
  unfold binA binD binL
  simp [isKs, un, hq, z]
theorem add_tt {xs ys : List D} (z : xs.length + ys.length ≤ 16777216) : binA h .add (.tup xs) (.tup ys) = .ok (.tup (xs ++ ys)) h := by
  have z : xs.length + ys.length ≤ LINE := z
  unfold binA binD
  simp [z]
theorem mul_ti {xs : List D} {k : Nat} (h1 : 1 ≤ k) (h2 : k ≤ 1000) (h3 : xs.length ≤ 1000) : binA h .mul (.tup xs) (.int k) = .ok (.tup (List.replicate k xs).flatten) h := by
  unfold binA binD
  have e : (1 ≤ (k : Int) ∧ (k : Int) ≤ 1000 ∧ xs.length ≤ 1000) := ⟨by omega, by omega, h3⟩
  simp only [e, and_self, if_true]
  rfl
theorem mul_t0 {xs : List D} (h3 : xs ≠ []) : binA h .mul (.tup xs) (.int (0 : Nat)) = .ok (.tup []) h := by
  unfold binA binD
  have e : ¬ (1 ≤ ((0 : Nat) : Int) ∧ ((0 : Nat) : Int) ≤ 1000 ∧ xs.length ≤ 1000) := fun z => by have := z.1; omega
  have e2 : (-1000 ≤ ((0 : Nat) : Int) ∧ ((0 : Nat) : Int) ≤ 0) ∧ xs.isEmpty = false := ⟨by omega, by cases xs with
    | nil => exact absurd rfl h3
    | cons => rfl⟩
  simp only [if_neg e, if_pos e2]
/-- a tuple of one, so many times -/
theorem mul_tk {d : D} {k : Nat} (h2 : k ≤ 1000) : binA h .mul (.tup [d]) (.int k) = .ok (.tup (List.replicate k d)) h := by
  cases k with
  | zero => exact mul_t0 (by simp)
  | succ k =>
    have e : (List.replicate (k + 1) [d]).flatten = List.replicate (k + 1) d := by
      generalize k + 1 = n
      induction n with
      | zero => rfl
      | succ n ih => rw [List.replicate_succ, List.replicate_succ, List.flatten_cons, ih]; rfl
    rw [mul_ti (by omega) h2 (by simp), e]
theorem flat1 {d : D} {k : Nat} : (List.replicate k [d]).flatten = List.replicate k d := by
  induction k with
  | zero => rfl
  | succ k ih => rw [List.replicate_succ, List.replicate_succ, List.flatten_cons, ih]; rfl
theorem mul_t1 {d : D} {k : Nat} (h1 : 1 ≤ k) (h2 : k ≤ 1000) : binA h .mul (.tup [d]) (.int k) = .ok (.tup (List.replicate k d)) h := by
  rw [mul_ti h1 h2 (by simp), flat1]
theorem mul_nn {a b : Nat} (hb : b < 1000000) : binA h .mul (.int a) (.int b) = .ok (.int ((a * b : Nat) : Int)) h := by
  rw [mul_ic (decide_eq_true (by omega))]
  simp
theorem mul_nn' {a b : Nat} (ha : a < 1000000) : binA h .mul (.int a) (.int b) = .ok (.int ((a * b : Nat) : Int)) h := by
  unfold binA binD
  have : big64 (a : Int) = true := decide_eq_true (by omega)
  simp [this]
theorem slt {xs : List D} {lo hi : Option Int} : slD h (.tup xs) lo hi = some (.tup (cutD xs lo hi)) := rfl
theorem cut_to {xs : List D} {k : Nat} (hk : k ≤ xs.length) : cutD xs none (some (k : Int)) = xs.take k := by
  unfold cutD
  rw [HT.sIx_none, HT.sIx_nat, List.drop_zero, Nat.sub_zero, Nat.min_eq_left hk]
theorem cut_from {xs : List D} {k : Nat} (hk : k ≤ xs.length) : cutD xs (some (k : Int)) none = xs.drop k := by
  unfold cutD
  rw [HT.sIx_none, HT.sIx_nat, Nat.min_eq_left hk, List.take_of_length_le (by rw [List.length_drop]; omega)]
theorem cut_ft {xs : List D} {j k : Nat} (hj : j ≤ xs.length) (hk : k ≤ xs.length) : cutD xs (some (j : Int)) (some (k : Int)) = (xs.drop j).take (k - j) := by
  unfold cutD
  rw [HT.sIx_nat, HT.sIx_nat, Nat.min_eq_left hj, Nat.min_eq_left hk]
/-! ### ranges -/
theorem rng_ok {n : Nat} (h : n ≤ 1000000) : rngOk (n : Int) = true := by
  unfold rngOk
  exact decide_eq_true (by omega)
theorem rngD_nat (a b : Nat) : rngD (a : Int) (b : Int) = nL (List.range' a (b - a)) := by
  unfold rngD nL
  have : ((b : Int) - (a : Int)).toNat = b - a := by omega
  rw [this, List.range'_eq_map_range, List.map_map]
  apply List.map_congr_left
  intro i _
  simp
theorem rngD_n0 (n : Nat) : rngD 0 (n : Int) = nL (List.range n) := by
  have := rngD_nat 0 n
  rw [Nat.sub_zero, ← List.range_eq_range'] at this
  exact this
theorem src_rng {n : Nat} (h : n ≤ 1000000) : srcD .rng [.int n] = some (nL (List.range n)) := by
  show (if rngOk (n : Int) = true then some (rngD 0 n) else none) = _
  rw [if_pos (rng_ok h), rngD_n0]
theorem rngA1 {n : Nat} (h : n ≤ 1000000) : rngA [.int n] = some (nL (List.range n)) := src_rng h
theorem rngA2 {a b : Nat} (ha : a ≤ 1000000) (hb : b ≤ 1000000) : rngA [.int a, .int b] = some (nL (List.range' a (b - a))) := by
  show (if rngOk (a : Int) && rngOk (b : Int) then some (rngD a b) else none) = _
  rw [rng_ok ha, rng_ok hb, rngD_nat]; rfl
/-! ### comparisons -/
theorem eq_str {x y : Str} (e : (PyData.str x).canLay0 = true) (f : (PyData.str y).canLay0 = true) : cmpD h .eq (.str x) (.str y) = some (x == y) := by
  have s1 : SeqAt.shaped (.str x) = true := by unfold SeqAt.shaped; rw [e]; rfl
  have s2 : SeqAt.shaped (.str y) = true := by unfold SeqAt.shaped; rw [f]; rfl
  show eqD h (.str x) (.str y) = _
  rw [eqD_py (y := .str x) (z := .str y) rfl rfl s1 s2]; rfl
theorem ne_of_eq {x y : D} {b : Bool} (e : cmpD h .eq x y = some b) : cmpD h .ne x y = some (!b) := by
  show (eqD h x y).map _ = _
  rw [show eqD h x y = some b from e]; rfl
theorem ne_same {d : D} {y : PyData} (e : py d = some y) (s : SeqAt.shaped y = true) : cmpD h .ne d d = some false := ne_of_eq (b := true) (eqD_same e s)
theorem ii_nat {a b : Nat} : ((a : Int) == (b : Int)) = (a == b) := by rw [Bool.eq_iff_iff, beq_iff_eq, beq_iff_eq]; omega
theorem comp_true {fn : D → Hs → Res (Option D)} {xs : List D} (hx : ∀ x ∈ xs, fn x h = .ok (some (.bl true)) h) : compLoop fn xs h = .ok (List.replicate xs.length (.bl true)) h := by
  rw [comp_map (g := fun _ => .bl true) hx, List.map_const']
theorem all_true : ∀ n : Nat, boolsOf (List.replicate n (D.bl true)) = some (List.replicate n true)
  | 0 => rfl
  | n + 1 => by rw [List.replicate_succ, List.replicate_succ]; simp [boolsOf, all_true n]
theorem all_bi {n : Nat} : biD .all h (.lst (List.replicate n (D.bl true))) = some (.bl true) := by
  show (boolsOf (List.replicate n (D.bl true))).map _ = _
  rw [all_true]
  simp
theorem zip_nL : ∀ (xs ys : List Nat), zipD (nL xs) (nL ys) = (xs.zip ys).map fun w => .tup [.int w.1, .int w.2]
  | [], ys => by cases ys <;> rfl
  | _ :: _, [] => rfl
  | x :: xs, y :: ys => by
    simp only [nL_cons, zipD, List.zip_cons_cons, List.map_cons, zip_nL xs ys]
theorem enum_nL : ∀ (xs : List Nat) (i : Nat), enumD i (nL xs) = (xs.zipIdx i).map fun w => .tup [.int w.2, .int w.1]
  | [], _ => rfl
  | x :: xs, i => by
    simp only [nL_cons, enumD, List.zipIdx_cons, List.map_cons, enum_nL xs (i + 1)]
theorem asg2 {i j : Nat} {a b : D} {env : Nv} : asg (.t [(.n i), (.n j)]) (.tup [a, b]) env = some ((env.set i (some a)).set j (some b)) := rfl
/-- a filter's outcome over numbers -/
theorem filt {fn : D → Hs → Res (Option D)} {xs : List Nat} {b : Nat → Bool} (hx : ∀ x ∈ xs, fn (.int (x : Nat)) h = .ok (if b x then some (.int (x : Nat)) else none) h) : compLoop fn (nL xs) h = .ok (nL (xs.filter b)) h := by
  induction xs with
  | nil => rfl
  | cons x xs ih =>
    have h1 := hx x List.mem_cons_self
    have h2 := ih fun y hy => hx y (List.mem_cons_of_mem _ hy)
    rw [nL_cons]
    unfold compLoop
    rw [h1, Res.bind_ok, h2, Res.bind_ok, List.filter_cons]
    cases b x <;> rfl
end
/-! ### small data: shown in a few signs -/
mutual
def gd (ws : List Str) : PyData → Bool
  | .none => true
  | .bool _ => true
  | .int i => decide (i.natAbs < 10 ^ 50)
  | .str x => decide (x ∈ ws)
  | .list xs => gds ws xs
  | .tuple xs => gds ws xs
  | .dict _ => false
def gds (ws : List Str) : List PyData → Bool
  | [] => true
  | x :: xs => gd ws x && gds ws xs
end
def WordsOk (ws : List Str) : Bool := ws.all fun x => PyData.strOk x && (PyData.strOk (PyData.str x).shown && decide ((PyData.str x).shown.length ≤ 60))
theorem ok_app {a b : Str} (ha : PyData.strOk a = true) (hb : PyData.strOk b = true) : PyData.strOk (a ++ b) = true := by
  unfold PyData.strOk at *
  show ((a.cps ++ b.cps).all _) = true
  rw [Array.all_append, ha, hb]; rfl
theorem ok_from : ∀ (ts : List Str) (k : Nat) (acc : Str), PyData.strOk acc = true → (∀ t ∈ ts, PyData.strOk t = true) → PyData.strOk (textFrom k acc ts) = true
  | [], _, _, h, _ => h
  | t :: ts, k, acc, h, hs => by
    unfold textFrom
    refine ok_from ts _ _ (ok_app (ok_app h ?_) (hs t List.mem_cons_self)) fun u hu => hs u (List.mem_cons_of_mem _ hu)
    split <;> decide +kernel
theorem ok_list {ts : List Str} (hs : ∀ t ∈ ts, PyData.strOk t = true) : PyData.strOk (listText ts) = true := by
  unfold listText
  exact ok_app (ok_from ts 0 _ (by decide +kernel) hs) (by decide +kernel)
theorem ok_join {sep : Str} (h : PyData.strOk sep = true) : ∀ {ts : List Str}, (∀ t ∈ ts, PyData.strOk t = true) → PyData.strOk (Str.join sep ts) = true
  | [], _ => by show PyData.strOk Str.empty = true; decide +kernel
  | [x], hs => hs x List.mem_cons_self
  | x :: y :: r, hs => by
    unfold Str.join
    exact ok_app (ok_app (hs x List.mem_cons_self) h) (ok_join h fun u hu => hs u (List.mem_cons_of_mem _ hu))
theorem ok_tup {ts : List Str} (hs : ∀ t ∈ ts, PyData.strOk t = true) : PyData.strOk (tupleText ts) = true := by
  unfold tupleText
  refine ok_app (ok_app (by decide +kernel) (ok_join (by decide +kernel) hs)) ?_
  split <;> decide +kernel
theorem ok_ofString (s : String) : PyData.strOk (Str.ofString s) = true := by
  rw [Str.ofString_eq_toList]
  unfold PyData.strOk
  rw [Array.all_eq_true_iff_forall_mem]
  intro x hx
  have hx : x ∈ s.toList.map Char.toNat := by simpa using hx
  obtain ⟨c, _, rfl⟩ := List.mem_map.mp hx
  have z : c.val.toNat < 0xD800 ∨ (0xDFFF < c.val.toNat ∧ c.val.toNat < 0x110000) := c.valid
  have z2 : c.toNat = c.val.toNat := rfl
  exact decide_eq_true (by omega)
mutual
/-- how large -/
def sz : PyData → Nat
  | .list xs => szs xs + 1
  | .tuple xs => szs xs + 1
  | _ => 1
def szs : List PyData → Nat
  | [] => 0
  | x :: xs => sz x + szs xs
end
structure Shows (d : PyData) : Prop where
  sh : d.showable = true
  nd : d.hasDict = false
  cl : d.canLay0 = true
  ok : PyData.strOk d.shown = true
  ln : d.shown.length + 3 ≤ 63 * sz d
  dp : d.depth ≤ sz d
structure ShowsL (ds : List PyData) : Prop where
  sh : PyData.showableAll ds = true
  nd : PyData.hasDictAll ds = false
  cl : PyData.canLayAll0 ds = true
  ok : ∀ t ∈ PyData.shownAll ds, PyData.strOk t = true
  ln : ((PyData.shownAll ds).map (·.length)).sum + 3 * (PyData.shownAll ds).length ≤ 63 * szs ds
  dp : PyData.depthAll ds ≤ szs ds
mutual
theorem gd_ok {ws : List Str} (W : WordsOk ws = true) : ∀ d : PyData, gd ws d = true → Shows d
  | .none, _ => ⟨rfl, rfl, rfl, by decide +kernel, by decide +kernel, by decide⟩
  | .bool b, _ => ⟨rfl, rfl, rfl, by cases b <;> decide +kernel, by cases b <;> decide +kernel, by simp [PyData.depth]⟩
  | .int i, h => by
    have hi : i.natAbs < 10 ^ 50 := of_decide_eq_true h
    refine ⟨?_, rfl, rfl, ok_ofString _, ?_, by simp [PyData.depth]⟩
    · show decide (i.natAbs.log2 < 1920) = true
      refine decide_eq_true ?_
      by_cases h0 : i.natAbs = 0
      · rw [h0]; decide
      · rw [Nat.log2_lt h0]
        exact Nat.lt_trans hi (by decide)
    · have e := int_text_length_le10 (k := 50) (by decide) hi
      show (Str.ofString (toString i)).length + 3 ≤ 63 * 1
      rw [ofString_length]; omega
  | .str x, h => by
    have hm : x ∈ ws := of_decide_eq_true h
    have z := List.all_eq_true.mp W x hm
    simp only [Bool.and_eq_true, decide_eq_true_eq] at z
    exact ⟨rfl, rfl, z.1, z.2.1, by simp only [sz]; omega, by simp [PyData.depth]⟩
  | .list xs, h => by
    obtain ⟨h1, h2, h3, h4, h5, h6⟩ := gds_ok W xs h
    have z := listText_len_le (PyData.shownAll xs)
    refine ⟨h1, h2, h3, ok_list h4, ?_, ?_⟩
    · show (listText (PyData.shownAll xs)).length + 3 ≤ 63 * (szs xs + 1)
      omega
    · show PyData.depthAll xs + 1 ≤ szs xs + 1
      omega
  | .tuple xs, h => by
    obtain ⟨h1, h2, h3, h4, h5, h6⟩ := gds_ok W xs h
    have z := tupleText_len_le (PyData.shownAll xs)
    refine ⟨h1, h2, h3, ok_tup h4, ?_, ?_⟩
    · show (tupleText (PyData.shownAll xs)).length + 3 ≤ 63 * (szs xs + 1)
      omega
    · show PyData.depthAll xs + 1 ≤ szs xs + 1
      omega
  | .dict _, h => by cases h
theorem gds_ok {ws : List Str} (W : WordsOk ws = true) : ∀ ds : List PyData, gds ws ds = true → ShowsL ds
  | [], _ => ⟨rfl, rfl, rfl, fun t ht => by simp [PyData.shownAll] at ht, by simp [PyData.shownAll], by simp [PyData.depthAll]⟩
  | d :: ds, h => by
    simp only [gds, Bool.and_eq_true] at h
    obtain ⟨a1, a2, a3, a4, a5, a6⟩ := gd_ok W d h.1
    obtain ⟨b1, b2, b3, b4, b5, b6⟩ := gds_ok W ds h.2
    refine ⟨by simp [PyData.showableAll, a1, b1], by simp [PyData.hasDictAll, a2, b2], by simp [PyData.canLayAll0, a3, b3], fun t ht => ?_, ?_, ?_⟩
    · simp only [PyData.shownAll, List.mem_cons] at ht
      rcases ht with rfl | ht
      · exact a4
      · exact b4 t ht
    · simp only [PyData.shownAll, List.map_cons, List.sum_cons, List.length_cons, szs]
      omega
    · simp only [PyData.depthAll, szs]
      omega
end
theorem shp {ws : List Str} (W : WordsOk ws = true) {y : PyData} (g : gd ws y = true) (z : y.depth ≤ 60) : SeqAt.shaped y = true := by
  have s := gd_ok W y g
  unfold SeqAt.shaped
  rw [s.cl, decide_eq_true (by omega)]; rfl
theorem shpz {ws : List Str} (W : WordsOk ws = true) {y : PyData} (g : gd ws y = true) (z : sz y ≤ 60) : SeqAt.shaped y = true := shp W g (by have := (gd_ok W y g).dp; omega)
theorem rpr {ws : List Str} (W : WordsOk ws = true) {h : Hs} {d : D} {y : PyData} (e : py d = some y) (p : isPtr d = true) (g : gd ws y = true) (z : sz y ≤ 100000) (z2 : y.depth ≤ 60) : reprD h d = some (.str y.shown) := by
  have s := gd_ok W y g
  have hl : y.shown.length ≤ LINE := by
    have := s.ln
    show _ ≤ 16777216
    omega
  unfold reprD
  rw [deep_py e]
  simp [p, s.sh, s.nd, hl, z2]
/-- the text of data is the text of the same data -/
theorem rpr_same {ws : List Str} (W : WordsOk ws = true) {h : Hs} {d : D} {y : PyData} (e : py d = some y) (p : isPtr d = true) (g : gd ws y = true) (z : sz y ≤ 60) : ∃ s, biD .repr h d = some (.str s) ∧ cmpD h .ne (.str s) (.str s) = some false := by
  have t := gd_ok W y g
  refine ⟨_, rpr W e p g (by omega) (by have := t.dp; omega), ?_⟩
  have s : (PyData.str y.shown).canLay0 = true := t.ok
  rw [ne_of_eq (eq_str (h := h) s s)]
  simp
theorem py_tn (l : List Nat) : py (.tup (nL l)) = some (.tuple (l.map fun x => .int (x : Nat))) := py_tup (pys_map (fun _ => rfl) l)
theorem py_ln (l : List Nat) : py (.lst (nL l)) = some (.list (l.map fun x => .int (x : Nat))) := py_lst (pys_map (fun _ => rfl) l)
theorem pys_cons {d : D} {y : PyData} {ds : List D} {ys : List PyData} (e : py d = some y) (f : pys ds = some ys) : pys (d :: ds) = some (y :: ys) := by
  show (match py d with
    | some d => match pys ds with
      | some ds => some (d :: ds)
      | none => none
    | none => none) = _
  rw [e, f]
theorem gds_map {α : Type} {ws : List Str} {f : α → PyData} : ∀ {l : List α}, (∀ a ∈ l, gd ws (f a) = true) → gds ws (l.map f) = true
  | [], _ => rfl
  | a :: l, h => by
    rw [List.map_cons]
    unfold gds
    rw [h a List.mem_cons_self, gds_map fun b hb => h b (List.mem_cons_of_mem _ hb)]; rfl
theorem szs_map {α : Type} {f : α → PyData} {m : Nat} : ∀ {l : List α}, (∀ a ∈ l, sz (f a) ≤ m) → szs (l.map f) ≤ m * l.length
  | [], _ => by simp [szs]
  | a :: l, h => by
    rw [List.map_cons]
    unfold szs
    have h1 := h a List.mem_cons_self
    have h2 := szs_map (f := f) (m := m) fun b hb => h b (List.mem_cons_of_mem _ hb)
    rw [List.length_cons, Nat.mul_succ]
    omega
theorem szn : ∀ l : List Nat, szs (l.map fun x => PyData.int (x : Nat)) = l.length
  | [] => rfl
  | x :: l => by
    rw [List.map_cons]
    unfold szs
    rw [szn l]
    simp [sz]
    omega
theorem gdn {ws : List Str} {l : List Nat} (hx : ∀ x ∈ l, x < 1000000) : gds ws (l.map fun x => PyData.int (x : Nat)) = true := gds_map fun x hm => by
  have := hx x hm
  exact decide_eq_true (Nat.lt_of_lt_of_le (by omega : ((x : Nat) : Int).natAbs < 1000000) (by decide))
theorem gdi {ws : List Str} {x : Nat} (hx : x < 1000000) : gd ws (.int (x : Nat)) = true := decide_eq_true (Nat.lt_of_lt_of_le (by omega : ((x : Nat) : Int).natAbs < 1000000) (by decide))
end PL
end SI
end
section
set_option Elab.async false
set_option linter.all false
set_option maxRecDepth 100000
set_option maxHeartbeats 1000000
/-! SIQ: dicts whose keys stand for numbers. -/
namespace SI
open PySem L2
namespace PL
section
variable {κ β : Type} [DecidableEq κ]
def kvs (e : Nat → κ) (v : β → D) (ps : List (Nat × β)) : List (κ × D) := ps.map fun w => (e w.1, v w.2)
structure DRel (look : Nat → Option β) (ps : List (Nat × β)) : Prop where
  nd : (ps.map (·.1)).Nodup
  mem : ∀ p x, (p, x) ∈ ps ↔ look p = some x
def updL (look : Nat → Option β) (p : Nat) (o : Option β) : Nat → Option β := fun q => if q = p then o else look q
variable {e : Nat → κ} {v : β → D} {ps : List (Nat × β)} {look : Nat → Option β} {p : Nat} {x : β}
theorem kv_find (he : ∀ p q, e p = e q → p = q) : ∀ ps : List (Nat × β), getK (kvs e v ps) (e p) = (ps.find? fun w => decide (w.1 = p)).map fun w => v w.2
  | [] => rfl
  | w :: ps => by
    have ih := kv_find he ps
    unfold getK kvs at *
    by_cases q : w.1 = p
    · simp [List.find?_cons, q]
    · have : ¬ e w.1 = e p := fun z => q (he _ _ z)
      simp only [List.map_cons, List.find?_cons, this, decide_false, q]
      exact ih
theorem DRel.get (r : DRel look ps) (he : ∀ p q, e p = e q → p = q) : getK (kvs e v ps) (e p) = (look p).map v := by
  rw [kv_find he]
  cases h : ps.find? fun w => decide (w.1 = p) with
  | none =>
    cases l : look p with
    | none => rfl
    | some x =>
      have m := (r.mem p x).mpr l
      have := List.find?_eq_none.mp h _ m
      simp at this
  | some w =>
    have m := List.mem_of_find?_eq_some h
    have q := List.find?_some h
    obtain ⟨a, b⟩ := w
    simp at q
    subst q
    rw [(r.mem _ _).mp m]
    rfl
theorem DRel.any (r : DRel look ps) (he : ∀ p q, e p = e q → p = q) : ((kvs e v ps).any fun w => decide (w.1 = e p)) = (look p).isSome := by
  rw [Bool.eq_iff_iff, List.any_eq_true]
  constructor
  · rintro ⟨w, hw, q⟩
    obtain ⟨⟨a, b⟩, hm, rfl⟩ := List.mem_map.mp hw
    have := he _ _ (of_decide_eq_true q)
    simp at this
    subst this
    rw [(r.mem _ _).mp hm]; rfl
  · intro h
    obtain ⟨x, hx⟩ := Option.isSome_iff_exists.mp h
    exact ⟨(e p, v x), List.mem_map.mpr ⟨(p, x), (r.mem _ _).mpr hx, rfl⟩, decide_eq_true rfl⟩
theorem DRel.put (r : DRel look ps) (he : ∀ p q, e p = e q → p = q) (x : β) : ∃ ps', putD (kvs e v ps) (e p) (v x) = kvs e v ps' ∧ DRel (updL look p (some x)) ps' := by
  unfold putD
  rw [r.any he]
  cases l : look p with
  | none =>
    refine ⟨ps ++ [(p, x)], by simp [kvs], ?_, fun q y => ?_⟩
    · rw [List.map_append, List.nodup_append]
      refine ⟨r.nd, by simp, fun a ha b hb => ?_⟩
      simp at hb
      subst hb
      obtain ⟨⟨c, d⟩, hm, rfl⟩ := List.mem_map.mp ha
      rintro rfl
      rw [(r.mem _ _).mp hm] at l
      cases l
    · rw [List.mem_append, r.mem]
      unfold updL
      by_cases qp : q = p
      · subst qp; simp [l, eq_comm]
      · simp [qp]
  | some x0 =>
    refine ⟨ps.map fun w => if w.1 = p then (w.1, x) else w, ?_, ?_, fun q y => ?_⟩
    · simp only [Option.isSome_some, if_true, kvs, List.map_map]
      apply List.map_congr_left
      intro w _
      simp only [Function.comp]
      by_cases q : w.1 = p
      · simp [q]
      · have : ¬ e w.1 = e p := fun z => q (he _ _ z)
        simp [q, this]
    · rw [List.map_map]
      have : ((fun w : Nat × β => w.1) ∘ fun w => if w.1 = p then (w.1, x) else w) = fun w => w.1 := by
        funext w; simp only [Function.comp]; split <;> rfl
      rw [this]; exact r.nd
    · unfold updL
      rw [List.mem_map]
      constructor
      · rintro ⟨⟨a, b⟩, hm, q2⟩
        by_cases ap : a = p
        · simp [ap] at q2; obtain ⟨rfl, rfl⟩ := q2; simp
        · simp [ap] at q2; obtain ⟨rfl, rfl⟩ := q2; simp [ap, (r.mem _ _).mp hm]
      · intro q2
        by_cases ap : q = p
        · subst ap; simp at q2; subst q2; exact ⟨(q, x0), (r.mem _ _).mpr l, by simp⟩
        · rw [if_neg ap] at q2; exact ⟨(q, y), (r.mem _ _).mpr q2, by simp [ap]⟩
theorem DRel.del (r : DRel look ps) (he : ∀ p q, e p = e q → p = q) : ∃ ps', delD (kvs e v ps) (e p) = kvs e v ps' ∧ DRel (updL look p none) ps' := by
  refine ⟨ps.filter fun w => decide (w.1 ≠ p), ?_, ?_, fun q y => ?_⟩
  · unfold delD kvs
    rw [List.filter_map]
    congr 1
    apply List.filter_congr
    intro w _
    simp only [Function.comp]
    by_cases q : w.1 = p
    · simp [q]
    · have : ¬ e w.1 = e p := fun z => q (he _ _ z)
      simp [q, this]
  · exact r.nd.sublist (List.Sublist.map _ List.filter_sublist)
  · unfold updL
    rw [List.mem_filter, r.mem]
    by_cases ap : q = p
    · simp [ap]
    · simp [ap]
theorem DRel.nil : DRel (fun _ => (none : Option β)) [] := ⟨by simp, by simp⟩
theorem DRel.congr {l2 : Nat → Option β} (r : DRel look ps) (h : ∀ p, look p = l2 p) : DRel l2 ps := ⟨r.nd, fun p x => by rw [r.mem, h]⟩
/-- the keys, counted -/
theorem DRel.count (r : DRel look ps) {l : List Nat} {b : Nat → Bool} (nd : l.Nodup) (hl : ∀ p, p ∈ l ↔ (∃ x, look p = some x) ∧ b p = true) : (ps.filter fun w => b w.1).length = l.length := by
  have n2 : ((ps.filter fun w => b w.1).map (·.1)).Nodup := r.nd.sublist (List.Sublist.map _ List.filter_sublist)
  have pm := (List.perm_ext_iff_of_nodup n2 nd).mpr fun p => by
    rw [hl, List.mem_map]
    constructor
    · rintro ⟨⟨a, c⟩, hm, rfl⟩
      rw [List.mem_filter, r.mem] at hm
      exact ⟨⟨c, hm.1⟩, hm.2⟩
    · rintro ⟨⟨x, hx⟩, hb⟩
      exact ⟨(p, x), by rw [List.mem_filter, r.mem]; exact ⟨hx, hb⟩, rfl⟩
  have := pm.length_eq
  rwa [List.length_map] at this
/-- a comprehension that keeps some -/
theorem filtG {α : Type} {fn : D → Hs → Res (Option D)} {f : α → D} {g : α → D} {b : α → Bool} {h : Hs} {xs : List α} (hx : ∀ x ∈ xs, fn (f x) h = .ok (if b x then some (g x) else none) h) : compLoop fn (xs.map f) h = .ok ((xs.filter b).map g) h := by
  induction xs with
  | nil => rfl
  | cons x xs ih =>
    have h1 := hx x List.mem_cons_self
    have h2 := ih fun y hy => hx y (List.mem_cons_of_mem _ hy)
    rw [List.map_cons]
    unfold compLoop
    rw [h1]
    simp only [Res.bind_ok, h2, List.filter_cons]
    cases b x <;> simp
end
/-! ### rows of numbers -/
theorem dep_map {α : Type} {f : α → PyData} {m : Nat} : ∀ {l : List α}, (∀ a ∈ l, (f a).depth ≤ m) → PyData.depthAll (l.map f) ≤ m
  | [], _ => by simp [PyData.depthAll]
  | a :: l, h => by
    have h1 := h a List.mem_cons_self
    have h2 := dep_map (f := f) (m := m) fun b hb => h b (List.mem_cons_of_mem a hb)
    simp only [List.map_cons, PyData.depthAll]
    exact Nat.max_le.mpr ⟨h1, h2⟩
def pyN (r : List Nat) : List PyData := r.map fun x => .int (x : Nat)
def pyR (l : List (List Nat)) : List PyData := l.map fun r => .tuple (pyN r)
theorem dep_nats (r : List Nat) : PyData.depthAll (pyN r) ≤ 1 := dep_map fun x _ => by simp [PyData.depth]
theorem pys_rows (l : List (List Nat)) : pys (l.map fun r => .tup (nL r)) = some (pyR l) := pys_map (f := fun r => D.tup (nL r)) (g := fun r => .tuple (pyN r)) (fun r => py_tn r) l
theorem gd_rows {ws : List Str} {l : List (List Nat)} (hx : ∀ r ∈ l, ∀ x ∈ r, x < 1000000) : gds ws (pyR l) = true := gds_map fun r hr => by
  show gds ws (pyN r) = true
  exact gdn (hx r hr)
theorem dep_rows (l : List (List Nat)) : PyData.depthAll (pyR l) ≤ 2 := dep_map fun r _ => by
  have := dep_nats r
  show PyData.depthAll _ + 1 ≤ 2
  omega
theorem shp_rows {l : List (List Nat)} (hx : ∀ r ∈ l, ∀ x ∈ r, x < 1000000) : SeqAt.shaped (.tuple (pyR l)) = true := shp (ws := []) rfl (gd_rows hx) (by
  have := dep_rows l
  show PyData.depthAll _ + 1 ≤ 60
  omega)
theorem shp_nats {l : List Nat} (hx : ∀ x ∈ l, x < 1000000) : SeqAt.shaped (.list (pyN l)) = true := shp (ws := []) rfl (gdn hx) (by
  have := dep_nats l
  show PyData.depthAll _ + 1 ≤ 60
  omega)
theorem ne_rows {h : Hs} {l : List (List Nat)} (hx : ∀ r ∈ l, ∀ x ∈ r, x < 1000000) : cmpD h .ne (.tup (l.map fun r => .tup (nL r))) (.tup (l.map fun r => .tup (nL r))) = some false := ne_same (py_tup (pys_rows l)) (shp_rows hx)
theorem ne_nats {h : Hs} {l : List Nat} (hx : ∀ x ∈ l, x < 1000000) : cmpD h .ne (.lst (nL l)) (.lst (nL l)) = some false := ne_same (py_ln l) (shp_nats hx)
/-! ### while -/
/-- a while whose measure falls -/
theorem while_inv {f : Nv → Hs → Res Bool} {b : Nv → Hs → SRes} {I : Nat → Nv → Hs → Prop} {Fin : Nv → Hs → Prop} (hs : ∀ m env h, I m env h → (∃ h', f env h = .ok false h' ∧ Fin env h') ∨ (∃ h1 env2 h2, f env h = .ok true h1 ∧ b env h1 = .nx env2 h2 ∧ ∃ m', m' < m ∧ I m' env2 h2)) :
    ∀ (N m : Nat) (env : Nv) (h : Hs), m < N → I m env h → ∃ env' h', whileF f b N env h = .nx env' h' ∧ Fin env' h'
  | 0, _, _, _, hm, _ => absurd hm (Nat.not_lt_zero _)
  | N + 1, m, env, h, hm, i => by
    rcases hs m env h i with ⟨h', e, q⟩ | ⟨h1, env2, h2, e1, e2, m', hm', i'⟩
    · refine ⟨env, h', ?_, q⟩
      unfold whileF
      rw [e]
      rfl
    · obtain ⟨env', h', e, q⟩ := while_inv hs N m' env2 h2 (by omega) i'
      refine ⟨env', h', ?_, q⟩
      unfold whileF
      rw [e1, Res.sbind_ok, if_pos rfl, e2]
      exact e
end PL
end SI
end
section
set_option Elab.async false
set_option linter.all false
set_option maxRecDepth 100000
set_option maxHeartbeats 4000000
namespace SI.K14
open PySem PySem.Spec PyProof.Rows L2
abbrev prg : Program := PySem.Challenge.pw_silenthouses_k14_errors_and_words_of_kin
def top (i : Nat) : Stmt := prg.main.body.getD i (.Pass ⟨0, 0, 0, 0⟩)
def sub (i j : Nat) : Stmt := match top i with
  | .ClassDef _ _ _ b _ _ _ _ _ _ _ => b.getD j (.Pass ⟨0, 0, 0, 0⟩)
  | _ => .Pass ⟨0, 0, 0, 0⟩
def tab : Tab := ⟨("_wall" :: "is_whole" :: "is_count" :: "is_box" :: "need_box" :: "are_same_ports" :: "same_ports" :: "is_between" :: "is_lot_below" :: "are_planner_parts" :: "is_first_place" :: "next_stretch" :: "is_files_kind" :: "ask_size" :: "ask_apart" :: "divmod_small" :: "file_cells" :: "file_place" :: "room_of" :: "room_files" :: "is_room_left" :: "wait_cells" :: "waiting" :: "room_count" :: "is_log_kind" :: "log_count" :: "log_of" :: "key_count" :: "key_of" :: "place_of_key" :: "log_ports" :: "changed_file" :: "number_of" :: "numbers_of" :: "word_told" :: "words_read" :: "need_end" :: "planner_told" :: "planner_box" :: "store_words" :: "files_told" :: "files_box" :: "plain_told" :: "mailbox_told" :: "mailbox_box" :: "numbers_told_of" :: "numbers_box" :: "bench_told" :: "bench_box" :: "log_told" :: "log_box" :: "_law_pen" :: "_law_told" :: "_law_box" :: "_law_parts_right" :: "_law_kinds" :: "law" :: []), ["HouseError", "BadText", "BadBox", "Box", "Planner", "Always", "Bench", "Names", "Blocks", "Counter", "Logged", "Mail", "Torn"], [("UPPER", .ks false [.str "meaning", .str "code", .str "pages"])], ["isinstance", "len", "all", "tuple", "list", "int", "range", "zip", "repr", "bool", "enumerate", "str", "min", "max"], ("line" :: "column" :: "box" :: "starts" :: "ins" :: "outs" :: "cells" :: "many" :: "wheel" :: "option" :: "over" :: "size" :: "kind" :: "files" :: "order" :: "times" :: "fresh" :: "rooms" :: "quota" :: "ends" :: "entry" :: "bound" :: "writers" :: "mend" :: "key_many" :: "width" :: []), [("Box", "__init__")], ["_law_refused", "_law_place"], ["law", "_law_parts_right"]⟩
def exmT : List ((Str × Str) × Bool) := [(("BadText", "BadBox"), false), (("BadText", "HouseError"), true), (("BadText", "BadText"), true), (("BadBox", "BadBox"), true), (("BadBox", "HouseError"), true), (("BadBox", "BadText"), false)]
abbrev s_wall : Stmt := top 0
def d_wall : He.DefD := ⟨("_wall", none), "_wall", "_wall", dArgs s_wall, dBody s_wall, dScope s_wall, [], []⟩
def c_wall : Ctx := ⟨["k"], dScope s_wall, dScope s_wall, true, tab, [], [], [], [], [], 1000000, [], ""⟩
def i_wall : List IS := [.whil 1000000 (.val (.c (.bl true))) [.pass]]
def e_wall : FnE := ⟨["k"], ["k"], 60, i_wall⟩
def x_wall : DX := ⟨d_wall, e_wall, c_wall, 60⟩
theorem o_wall : DXOk tab x_wall := ⟨(fun h => by cases h), rfl, rfl, rfl, rfl, by kernel_rfl, scopeB_ok (by kernel_rfl), rfl, rfl, fun _ _ _ _ _ _ us hl => match us, hl with | [_], _ => rfl⟩
abbrev s_is_whole : Stmt := top 5
def d_is_whole : He.DefD := ⟨("is_whole", none), "is_whole", "is_whole", dArgs s_is_whole, dBody s_is_whole, dScope s_is_whole, [], []⟩
def c_is_whole : Ctx := ⟨["value"], dScope s_is_whole, dScope s_is_whole, true, tab, [], [], [], [], [], 1000000, [], ""⟩
def i_is_whole : List IS := [.ret (.and (.isi (.v 0) [.inl "int"]) (.not (.isi (.v 0) [.inl "bool"])))]
def e_is_whole : FnE := ⟨["value"], ["value"], 60, i_is_whole⟩
def x_is_whole : DX := ⟨d_is_whole, e_is_whole, c_is_whole, 60⟩
theorem o_is_whole : DXOk tab x_is_whole := ⟨(fun h => by cases h), rfl, rfl, rfl, rfl, by kernel_rfl, scopeB_ok (by kernel_rfl), rfl, rfl, fun _ _ _ _ _ _ us hl => match us, hl with | [_], _ => rfl⟩
abbrev s_is_count : Stmt := top 6
def d_is_count : He.DefD := ⟨("is_count", none), "is_count", "is_count", dArgs s_is_count, dBody s_is_count, dScope s_is_count, [], []⟩
def c_is_count : Ctx := ⟨["value"], dScope s_is_count, dScope s_is_count, true, tab, [], [], [], [], [], 1000000, [], ""⟩
def i_is_count : List IS := [.ret (.and (.call "is_whole" [(.v 0)]) (.cmp .ge (.v 0) (.c (.int 0))))]
def e_is_count : FnE := ⟨["value"], ["value"], 60, i_is_count⟩
def x_is_count : DX := ⟨d_is_count, e_is_count, c_is_count, 60⟩
theorem o_is_count : DXOk tab x_is_count := ⟨(fun h => by cases h), rfl, rfl, rfl, rfl, by kernel_rfl, scopeB_ok (by kernel_rfl), rfl, rfl, fun _ _ _ _ _ _ us hl => match us, hl with | [_], _ => rfl⟩
abbrev s_is_box : Stmt := top 9
def d_is_box : He.DefD := ⟨("is_box", none), "is_box", "is_box", dArgs s_is_box, dBody s_is_box, dScope s_is_box, [], []⟩
def c_is_box : Ctx := ⟨["value"], dScope s_is_box, dScope s_is_box, true, tab, [], [], [], [], [], 1000000, [], ""⟩
def i_is_box : List IS := [.ret (.isi (.v 0) [.inr "Box"])]
def e_is_box : FnE := ⟨["value"], ["value"], 60, i_is_box⟩
def x_is_box : DX := ⟨d_is_box, e_is_box, c_is_box, 60⟩
theorem o_is_box : DXOk tab x_is_box := ⟨(fun h => by cases h), rfl, rfl, rfl, rfl, by kernel_rfl, scopeB_ok (by kernel_rfl), rfl, rfl, fun _ _ _ _ _ _ us hl => match us, hl with | [_], _ => rfl⟩
abbrev s_need_box : Stmt := top 10
def d_need_box : He.DefD := ⟨("need_box", none), "need_box", "need_box", dArgs s_need_box, dBody s_need_box, dScope s_need_box, [], []⟩
def c_need_box : Ctx := ⟨["box"], dScope s_need_box, dScope s_need_box, true, tab, [], [], [], [], [], 1000000, [], ""⟩
def i_need_box : List IS := [.ife (.not (.val (.call "is_box" [(.v 0)]))) [.raise "BadBox" [(.v 0)]] []]
def e_need_box : FnE := ⟨["box"], ["box"], 60, i_need_box⟩
def x_need_box : DX := ⟨d_need_box, e_need_box, c_need_box, 60⟩
theorem o_need_box : DXOk tab x_need_box := ⟨(fun h => by cases h), rfl, rfl, rfl, rfl, by kernel_rfl, scopeB_ok (by kernel_rfl), rfl, rfl, fun _ _ _ _ _ _ us hl => match us, hl with | [_], _ => rfl⟩
abbrev s_are_same_ports : Stmt := top 11
def d_are_same_ports : He.DefD := ⟨("are_same_ports", none), "are_same_ports", "are_same_ports", dArgs s_are_same_ports, dBody s_are_same_ports, dScope s_are_same_ports, [], []⟩
def c_are_same_ports : Ctx := ⟨["first", "second"], dScope s_are_same_ports, dScope s_are_same_ports, true, tab, [], [], [], [], [], 1000000, [], ""⟩
def i_are_same_ports : List IS := [.ret (.cmp .eq (.tup [(.fld (.v 0) "starts"), (.fld (.v 0) "ins"), (.fld (.v 0) "outs")]) (.tup [(.fld (.v 1) "starts"), (.fld (.v 1) "ins"), (.fld (.v 1) "outs")]))]
def e_are_same_ports : FnE := ⟨["first", "second"], ["first", "second"], 60, i_are_same_ports⟩
def x_are_same_ports : DX := ⟨d_are_same_ports, e_are_same_ports, c_are_same_ports, 60⟩
theorem o_are_same_ports : DXOk tab x_are_same_ports := ⟨(fun h => by cases h), rfl, rfl, rfl, rfl, by kernel_rfl, scopeB_ok (by kernel_rfl), rfl, rfl, fun _ _ _ _ _ _ us hl => match us, hl with | [_, _], _ => rfl⟩
abbrev s_same_ports : Stmt := top 12
def d_same_ports : He.DefD := ⟨("same_ports", none), "same_ports", "same_ports", dArgs s_same_ports, dBody s_same_ports, dScope s_same_ports, [], []⟩
def c_same_ports : Ctx := ⟨["first", "second"], dScope s_same_ports, dScope s_same_ports, true, tab, [], [], [], [], [], 1000000, [], ""⟩
def i_same_ports : List IS := [.ex (.call "need_box" [(.v 0)]), .ex (.call "need_box" [(.v 1)]), .ret (.call "are_same_ports" [(.v 0), (.v 1)])]
def e_same_ports : FnE := ⟨["first", "second"], ["first", "second"], 60, i_same_ports⟩
def x_same_ports : DX := ⟨d_same_ports, e_same_ports, c_same_ports, 60⟩
theorem o_same_ports : DXOk tab x_same_ports := ⟨(fun h => by cases h), rfl, rfl, rfl, rfl, by kernel_rfl, scopeB_ok (by kernel_rfl), rfl, rfl, fun _ _ _ _ _ _ us hl => match us, hl with | [_, _], _ => rfl⟩
abbrev s_is_between : Stmt := top 14
def d_is_between : He.DefD := ⟨("is_between", none), "is_between", "is_between", dArgs s_is_between, dBody s_is_between, dScope s_is_between, [], []⟩
def c_is_between : Ctx := ⟨["value", "low", "high"], dScope s_is_between, dScope s_is_between, true, tab, [], [], [], [], [], 1000000, [], ""⟩
def i_is_between : List IS := [.ret (.and (.call "is_count" [(.v 0)]) (.chain .le .le (.v 1) (.v 0) (.v 2)))]
def e_is_between : FnE := ⟨["value", "low", "high"], ["value", "low", "high"], 60, i_is_between⟩
def x_is_between : DX := ⟨d_is_between, e_is_between, c_is_between, 60⟩
theorem o_is_between : DXOk tab x_is_between := ⟨(fun h => by cases h), rfl, rfl, rfl, rfl, by kernel_rfl, scopeB_ok (by kernel_rfl), rfl, rfl, fun _ _ _ _ _ _ us hl => match us, hl with | [_, _, _], _ => rfl⟩
abbrev s_is_lot_below : Stmt := top 15
def d_is_lot_below : He.DefD := ⟨("is_lot_below", none), "is_lot_below", "is_lot_below", dArgs s_is_lot_below, dBody s_is_lot_below, dScope s_is_lot_below, [], []⟩
def c_is_lot_below : Ctx := ⟨["value", "many", "item", "one", "two"], dScope s_is_lot_below, dScope s_is_lot_below, true, tab, [], [], [], [], [], 1000000, [], ""⟩
def i_is_lot_below : List IS := [.ife (.or (.not (.val (.isi (.v 0) [.inl "tuple"]))) (.not (.val (.bi .all (.comp false (.and (.call "is_count" [(.v 2)]) (.cmp .lt (.v 2) (.v 1))) (.n 2) .seq [(.v 0)] none [2]))))) [.ret (.c (.bl false))] [], .ret (.bi .all (.comp false (.cmp .lt (.v 3) (.v 4)) (.t [(.n 3), (.n 4)]) .zip [(.v 0), (.sl (.v 0) (some (.c (.int 1))) none)] none [3, 4]))]
def e_is_lot_below : FnE := ⟨["value", "many"], ["value", "many", "item", "one", "two"], 60, i_is_lot_below⟩
def x_is_lot_below : DX := ⟨d_is_lot_below, e_is_lot_below, c_is_lot_below, 60⟩
theorem o_is_lot_below : DXOk tab x_is_lot_below := ⟨(fun h => by cases h), rfl, rfl, rfl, rfl, by kernel_rfl, scopeB_ok (by kernel_rfl), rfl, rfl, fun _ _ _ _ _ _ us hl => match us, hl with | [_, _], _ => rfl⟩
abbrev s_are_planner_parts : Stmt := top 16
def d_are_planner_parts : He.DefD := ⟨("are_planner_parts", none), "are_planner_parts", "are_planner_parts", dArgs s_are_planner_parts, dBody s_are_planner_parts, dScope s_are_planner_parts, [], []⟩
def c_are_planner_parts : Ctx := ⟨["many", "wheel", "option", "over", "item", "lot"], dScope s_are_planner_parts, dScope s_are_planner_parts, true, tab, [], [], [], [], [], 1000000, [], ""⟩
def i_are_planner_parts : List IS := [.ife (.or (.not (.val (.call "is_between" [(.v 0), (.c (.int 1)), (.c (.int 4))]))) (.or (.not (.val (.isi (.v 1) [.inl "tuple"]))) (.not (.chain .lt .le (.c (.int 0)) (.bi .len (.v 1)) (.c (.int 12)))))) [.ret (.c (.bl false))] [], .ife (.not (.val (.bi .all (.comp false (.call "is_between" [(.v 4), (.c (.int 0)), (.v 0)]) (.n 4) .seq [(.v 1)] none [4])))) [.ret (.c (.bl false))] [], .ife (.cmp .ne (.v 2) (.c (.str "upward"))) [.ret (.and (.cmp .isin (.v 2) (.tup [(.c (.str "slots")), (.c (.str "early"))])) (.cmp .eq (.v 3) (.tup [])))] [], .ret (.and (.isi (.v 3) [.inl "tuple"]) (.and (.cmp .eq (.bi .len (.v 3)) (.v 0)) (.bi .all (.comp false (.call "is_lot_below" [(.v 5), (.v 0)]) (.n 5) .seq [(.v 3)] none [5]))))]
def e_are_planner_parts : FnE := ⟨["many", "wheel", "option", "over"], ["many", "wheel", "option", "over", "item", "lot"], 60, i_are_planner_parts⟩
def x_are_planner_parts : DX := ⟨d_are_planner_parts, e_are_planner_parts, c_are_planner_parts, 60⟩
theorem o_are_planner_parts : DXOk tab x_are_planner_parts := ⟨(fun h => by cases h), rfl, rfl, rfl, rfl, by kernel_rfl, scopeB_ok (by kernel_rfl), rfl, rfl, fun _ _ _ _ _ _ us hl => match us, hl with | [_, _, _, _], _ => rfl⟩
abbrev s_is_first_place : Stmt := top 17
def d_is_first_place : He.DefD := ⟨("is_first_place", none), "is_first_place", "is_first_place", dArgs s_is_first_place, dBody s_is_first_place, dScope s_is_first_place, [], []⟩
def c_is_first_place : Ctx := ⟨["wheel", "place", "item"], dScope s_is_first_place, dScope s_is_first_place, true, tab, [], [], [], [], [], 1000000, [], ""⟩
def i_is_first_place : List IS := [.ife (.val (.bi .all (.comp false (.cmp .eq (.v 2) (.ix (.v 0) (.c (.int 0)))) (.n 2) .seq [(.v 0)] none [2]))) [.ret (.cmp .eq (.v 1) (.c (.int 0)))] [], .ret (.cmp .ne (.ix (.v 0) (.bin .sub (.v 1) (.c (.int 1)))) (.ix (.v 0) (.v 1)))]
def e_is_first_place : FnE := ⟨["wheel", "place"], ["wheel", "place", "item"], 60, i_is_first_place⟩
def x_is_first_place : DX := ⟨d_is_first_place, e_is_first_place, c_is_first_place, 60⟩
theorem o_is_first_place : DXOk tab x_is_first_place := ⟨(fun h => by cases h), rfl, rfl, rfl, rfl, by kernel_rfl, scopeB_ok (by kernel_rfl), rfl, rfl, fun _ _ _ _ _ _ us hl => match us, hl with | [_, _], _ => rfl⟩
abbrev s_next_stretch : Stmt := top 18
def d_next_stretch : He.DefD := ⟨("next_stretch", none), "next_stretch", "next_stretch", dArgs s_next_stretch, dBody s_next_stretch, dScope s_next_stretch, [], []⟩
def c_next_stretch : Ctx := ⟨["wheel", "place", "more", "other"], dScope s_next_stretch, dScope s_next_stretch, true, tab, [], [], [], [], [], 1000000, [], ""⟩
def i_next_stretch : List IS := [.loop (.n 2) .rng [(.c (.int 1)), (.bi .len (.v 0))] [.set (.n 3) (.bin .mod (.bin .add (.v 1) (.v 2)) (.bi .len (.v 0))), .ife (.cmp .ne (.ix (.v 0) (.v 3)) (.ix (.v 0) (.v 1))) [.ret (.v 3)] []], .ret (.bin .mod (.bin .add (.v 1) (.c (.int 1))) (.bi .len (.v 0)))]
def e_next_stretch : FnE := ⟨["wheel", "place"], ["wheel", "place", "more", "other"], 60, i_next_stretch⟩
def x_next_stretch : DX := ⟨d_next_stretch, e_next_stretch, c_next_stretch, 60⟩
theorem o_next_stretch : DXOk tab x_next_stretch := ⟨(fun h => by cases h), rfl, rfl, rfl, rfl, by kernel_rfl, scopeB_ok (by kernel_rfl), rfl, rfl, fun _ _ _ _ _ _ us hl => match us, hl with | [_, _], _ => rfl⟩
abbrev s_is_files_kind : Stmt := top 24
def d_is_files_kind : He.DefD := ⟨("is_files_kind", none), "is_files_kind", "is_files_kind", dArgs s_is_files_kind, dBody s_is_files_kind, dScope s_is_files_kind, [], []⟩
def c_is_files_kind : Ctx := ⟨["value", "many", "names", "values", "whose", "rooms", "quota", "delay"], dScope s_is_files_kind, dScope s_is_files_kind, true, tab, [], [], [], [], [], 1000000, [], ""⟩
def i_is_files_kind : List IS := [.ife (.or (.not (.val (.isi (.v 0) [.inl "tuple"]))) (.cmp .ne (.bi .len (.v 0)) (.c (.int 7)))) [.ret (.c (.bl false))] [], .set (.t [(.n 1), (.n 2), (.n 3), (.n 4), (.n 5), (.n 6), (.n 7)]) (.v 0), .ife (.or (.not (.val (.call "is_between" [(.v 1), (.c (.int 1)), (.c (.int 2))]))) (.or (.not (.val (.call "is_between" [(.v 2), (.c (.int 1)), (.c (.int 4))]))) (.not (.val (.call "is_between" [(.v 3), (.c (.int 2)), (.c (.int 12))]))))) [.ret (.c (.bl false))] [], .ife (.or (.cmp .gt (.bin .add (.c (.int 1)) (.bin .mul (.v 2) (.bin .add (.c (.int 3)) (.v 3)))) (.c (.int 16))) (.cmp .notin (.tup [(.v 4), (.v 5)]) (.tup [(.tup [(.c (.str "own")), (.c (.str "own"))]), (.tup [(.c (.str "own")), (.c (.str "shared"))]), (.tup [(.c (.str "shared")), (.c (.str "shared"))])]))) [.ret (.c (.bl false))] [], .ret (.and (.call "is_between" [(.v 6), (.c (.int 1)), (.c (.int 8))]) (.call "is_between" [(.v 7), (.c (.int 1)), (.c (.int 4))]))]
def e_is_files_kind : FnE := ⟨["value"], ["value", "many", "names", "values", "whose", "rooms", "quota", "delay"], 60, i_is_files_kind⟩
def x_is_files_kind : DX := ⟨d_is_files_kind, e_is_files_kind, c_is_files_kind, 60⟩
theorem o_is_files_kind : DXOk tab x_is_files_kind := ⟨(fun h => by cases h), rfl, rfl, rfl, rfl, by kernel_rfl, scopeB_ok (by kernel_rfl), rfl, rfl, fun _ _ _ _ _ _ us hl => match us, hl with | [_], _ => rfl⟩
abbrev s_ask_size : Stmt := top 25
def d_ask_size : He.DefD := ⟨("ask_size", none), "ask_size", "ask_size", dArgs s_ask_size, dBody s_ask_size, dScope s_ask_size, [], []⟩
def c_ask_size : Ctx := ⟨["kind"], dScope s_ask_size, dScope s_ask_size, true, tab, [], [], [], [], [], 1000000, [], ""⟩
def i_ask_size : List IS := [.ret (.bin .add (.c (.int 1)) (.bin .mul (.ix (.v 0) (.c (.int 1))) (.bin .add (.c (.int 3)) (.ix (.v 0) (.c (.int 2))))))]
def e_ask_size : FnE := ⟨["kind"], ["kind"], 60, i_ask_size⟩
def x_ask_size : DX := ⟨d_ask_size, e_ask_size, c_ask_size, 60⟩
theorem o_ask_size : DXOk tab x_ask_size := ⟨(fun h => by cases h), rfl, rfl, rfl, rfl, by kernel_rfl, scopeB_ok (by kernel_rfl), rfl, rfl, fun _ _ _ _ _ _ us hl => match us, hl with | [_], _ => rfl⟩
abbrev s_ask_apart : Stmt := top 26
def d_ask_apart : He.DefD := ⟨("ask_apart", none), "ask_apart", "ask_apart", dArgs s_ask_apart, dBody s_ask_apart, dScope s_ask_apart, [], []⟩
def c_ask_apart : Ctx := ⟨["kind", "ask"], dScope s_ask_apart, dScope s_ask_apart, true, tab, [], [], [], [], [], 1000000, [], ""⟩
def i_ask_apart : List IS := [.ret (.call "divmod_small" [(.bin .sub (.v 1) (.c (.int 1))), (.bin .add (.c (.int 3)) (.ix (.v 0) (.c (.int 2))))])]
def e_ask_apart : FnE := ⟨["kind", "ask"], ["kind", "ask"], 60, i_ask_apart⟩
def x_ask_apart : DX := ⟨d_ask_apart, e_ask_apart, c_ask_apart, 60⟩
theorem o_ask_apart : DXOk tab x_ask_apart := ⟨(fun h => by cases h), rfl, rfl, rfl, rfl, by kernel_rfl, scopeB_ok (by kernel_rfl), rfl, rfl, fun _ _ _ _ _ _ us hl => match us, hl with | [_, _], _ => rfl⟩
abbrev s_divmod_small : Stmt := top 27
def d_divmod_small : He.DefD := ⟨("divmod_small", none), "divmod_small", "divmod_small", dArgs s_divmod_small, dBody s_divmod_small, dScope s_divmod_small, [], []⟩
def c_divmod_small : Ctx := ⟨["a", "b"], dScope s_divmod_small, dScope s_divmod_small, true, tab, [], [], [], [], [], 1000000, [], ""⟩
def i_divmod_small : List IS := [.ret (.tup [(.bin .fdiv (.v 0) (.v 1)), (.bin .mod (.v 0) (.v 1))])]
def e_divmod_small : FnE := ⟨["a", "b"], ["a", "b"], 60, i_divmod_small⟩
def x_divmod_small : DX := ⟨d_divmod_small, e_divmod_small, c_divmod_small, 60⟩
theorem o_divmod_small : DXOk tab x_divmod_small := ⟨(fun h => by cases h), rfl, rfl, rfl, rfl, by kernel_rfl, scopeB_ok (by kernel_rfl), rfl, rfl, fun _ _ _ _ _ _ us hl => match us, hl with | [_, _], _ => rfl⟩
abbrev s_file_cells : Stmt := top 28
def d_file_cells : He.DefD := ⟨("file_cells", none), "file_cells", "file_cells", dArgs s_file_cells, dBody s_file_cells, dScope s_file_cells, [], []⟩
def c_file_cells : Ctx := ⟨["kind"], dScope s_file_cells, dScope s_file_cells, true, tab, [], [], [], [], [], 1000000, [], ""⟩
def i_file_cells : List IS := [.ret (.bin .mul (.ix (.v 0) (.c (.int 1))) (.ife (.cmp .eq (.ix (.v 0) (.c (.int 3))) (.c (.str "own"))) (.ix (.v 0) (.c (.int 0))) (.c (.int 1))))]
def e_file_cells : FnE := ⟨["kind"], ["kind"], 60, i_file_cells⟩
def x_file_cells : DX := ⟨d_file_cells, e_file_cells, c_file_cells, 60⟩
theorem o_file_cells : DXOk tab x_file_cells := ⟨(fun h => by cases h), rfl, rfl, rfl, rfl, by kernel_rfl, scopeB_ok (by kernel_rfl), rfl, rfl, fun _ _ _ _ _ _ us hl => match us, hl with | [_], _ => rfl⟩
abbrev s_file_place : Stmt := top 29
def d_file_place : He.DefD := ⟨("file_place", none), "file_place", "file_place", dArgs s_file_place, dBody s_file_place, dScope s_file_place, [], []⟩
def c_file_place : Ctx := ⟨["kind", "client", "name"], dScope s_file_place, dScope s_file_place, true, tab, [], [], [], [], [], 1000000, [], ""⟩
def i_file_place : List IS := [.ret (.ife (.cmp .eq (.ix (.v 0) (.c (.int 3))) (.c (.str "own"))) (.bin .add (.bin .mul (.v 1) (.ix (.v 0) (.c (.int 1)))) (.v 2)) (.v 2))]
def e_file_place : FnE := ⟨["kind", "client", "name"], ["kind", "client", "name"], 60, i_file_place⟩
def x_file_place : DX := ⟨d_file_place, e_file_place, c_file_place, 60⟩
theorem o_file_place : DXOk tab x_file_place := ⟨(fun h => by cases h), rfl, rfl, rfl, rfl, by kernel_rfl, scopeB_ok (by kernel_rfl), rfl, rfl, fun _ _ _ _ _ _ us hl => match us, hl with | [_, _, _], _ => rfl⟩
abbrev s_room_of : Stmt := top 30
def d_room_of : He.DefD := ⟨("room_of", none), "room_of", "room_of", dArgs s_room_of, dBody s_room_of, dScope s_room_of, [], []⟩
def c_room_of : Ctx := ⟨["kind", "client"], dScope s_room_of, dScope s_room_of, true, tab, [], [], [], [], [], 1000000, [], ""⟩
def i_room_of : List IS := [.ret (.ife (.cmp .eq (.ix (.v 0) (.c (.int 4))) (.c (.str "own"))) (.v 1) (.c (.int 0)))]
def e_room_of : FnE := ⟨["kind", "client"], ["kind", "client"], 60, i_room_of⟩
def x_room_of : DX := ⟨d_room_of, e_room_of, c_room_of, 60⟩
theorem o_room_of : DXOk tab x_room_of := ⟨(fun h => by cases h), rfl, rfl, rfl, rfl, by kernel_rfl, scopeB_ok (by kernel_rfl), rfl, rfl, fun _ _ _ _ _ _ us hl => match us, hl with | [_, _], _ => rfl⟩
abbrev s_room_files : Stmt := top 31
def d_room_files : He.DefD := ⟨("room_files", none), "room_files", "room_files", dArgs s_room_files, dBody s_room_files, dScope s_room_files, [], []⟩
def c_room_files : Ctx := ⟨["kind", "room"], dScope s_room_files, dScope s_room_files, true, tab, [], [], [], [], [], 1000000, [], ""⟩
def i_room_files : List IS := [.ife (.cmp .eq (.ix (.v 0) (.c (.int 4))) (.c (.str "shared"))) [.ret (.rngs true false [(.call "file_cells" [(.v 0)])])] [], .ret (.rngs true false [(.bin .mul (.v 1) (.ix (.v 0) (.c (.int 1)))), (.bin .mul (.bin .add (.v 1) (.c (.int 1))) (.ix (.v 0) (.c (.int 1))))])]
def e_room_files : FnE := ⟨["kind", "room"], ["kind", "room"], 60, i_room_files⟩
def x_room_files : DX := ⟨d_room_files, e_room_files, c_room_files, 60⟩
theorem o_room_files : DXOk tab x_room_files := ⟨(fun h => by cases h), rfl, rfl, rfl, rfl, by kernel_rfl, scopeB_ok (by kernel_rfl), rfl, rfl, fun _ _ _ _ _ _ us hl => match us, hl with | [_, _], _ => rfl⟩
abbrev s_is_room_left : Stmt := top 32
def d_is_room_left : He.DefD := ⟨("is_room_left", none), "is_room_left", "is_room_left", dArgs s_is_room_left, dBody s_is_room_left, dScope s_is_room_left, [], []⟩
def c_is_room_left : Ctx := ⟨["kind", "files", "client", "there", "place"], dScope s_is_room_left, dScope s_is_room_left, true, tab, [], [], [], [], [], 1000000, [], ""⟩
def i_is_room_left : List IS := [.set (.n 3) (.comp false (.v 4) (.n 4) .seq [(.call "room_files" [(.v 0), (.call "room_of" [(.v 0), (.v 2)])])] (some (.val (.ix (.v 1) (.v 4)))) [4]), .ret (.cmp .lt (.bi .len (.v 3)) (.ix (.v 0) (.c (.int 5))))]
def e_is_room_left : FnE := ⟨["kind", "files", "client"], ["kind", "files", "client", "there", "place"], 60, i_is_room_left⟩
def x_is_room_left : DX := ⟨d_is_room_left, e_is_room_left, c_is_room_left, 60⟩
theorem o_is_room_left : DXOk tab x_is_room_left := ⟨(fun h => by cases h), rfl, rfl, rfl, rfl, by kernel_rfl, scopeB_ok (by kernel_rfl), rfl, rfl, fun _ _ _ _ _ _ us hl => match us, hl with | [_, _, _], _ => rfl⟩
abbrev s_wait_cells : Stmt := top 33
def d_wait_cells : He.DefD := ⟨("wait_cells", none), "wait_cells", "wait_cells", dArgs s_wait_cells, dBody s_wait_cells, dScope s_wait_cells, [], []⟩
def c_wait_cells : Ctx := ⟨["kind"], dScope s_wait_cells, dScope s_wait_cells, true, tab, [], [], [], [], [], 1000000, [], ""⟩
def i_wait_cells : List IS := [.ret (.ife (.cmp .gt (.ix (.v 0) (.c (.int 6))) (.c (.int 1))) (.bin .mul (.tup [(.call "ask_size" [(.v 0)]), (.ix (.v 0) (.c (.int 6)))]) (.ix (.v 0) (.c (.int 0)))) (.tup []))]
def e_wait_cells : FnE := ⟨["kind"], ["kind"], 60, i_wait_cells⟩
def x_wait_cells : DX := ⟨d_wait_cells, e_wait_cells, c_wait_cells, 60⟩
theorem o_wait_cells : DXOk tab x_wait_cells := ⟨(fun h => by cases h), rfl, rfl, rfl, rfl, by kernel_rfl, scopeB_ok (by kernel_rfl), rfl, rfl, fun _ _ _ _ _ _ us hl => match us, hl with | [_], _ => rfl⟩
abbrev s_waiting : Stmt := top 35
def d_waiting : He.DefD := ⟨("waiting", none), "waiting", "waiting", dArgs s_waiting, dBody s_waiting, dScope s_waiting, [], []⟩
def c_waiting : Ctx := ⟨["waits", "client", "ask", "delay", "at", "kept"], dScope s_waiting, dScope s_waiting, true, tab, [], [], [], [], [], 1000000, [], ""⟩
def i_waiting : List IS := [.set (.n 4) (.bin .mul (.c (.int 2)) (.v 1)), .ife (.cmp .eq (.ix (.v 0) (.v 4)) (.c (.int 0))) [.setsl (.v 0) (.v 4) (.bin .add (.v 4) (.c (.int 2))) (.lst false [(.v 2), (.ife (.val (.v 2)) (.bin .sub (.v 3) (.c (.int 1))) (.c (.int 0)))]), .ret (.c (.int 0))] [], .augix (.v 0) (.bin .add (.v 4) (.c (.int 1))) .sub (.c (.int 1)), .ife (.val (.ix (.v 0) (.bin .add (.v 4) (.c (.int 1))))) [.ret (.c (.int 0))] [], .set (.n 5) (.ix (.v 0) (.v 4)), .setix (.v 0) (.v 4) (.c (.int 0)), .ret (.v 5)]
def e_waiting : FnE := ⟨["waits", "client", "ask", "delay"], ["waits", "client", "ask", "delay", "at", "kept"], 60, i_waiting⟩
def x_waiting : DX := ⟨d_waiting, e_waiting, c_waiting, 60⟩
theorem o_waiting : DXOk tab x_waiting := ⟨(fun h => by cases h), rfl, rfl, rfl, rfl, by kernel_rfl, scopeB_ok (by kernel_rfl), rfl, rfl, fun _ _ _ _ _ _ us hl => match us, hl with | [_, _, _, _], _ => rfl⟩
abbrev s_room_count : Stmt := top 37
def d_room_count : He.DefD := ⟨("room_count", none), "room_count", "room_count", dArgs s_room_count, dBody s_room_count, dScope s_room_count, [], []⟩
def c_room_count : Ctx := ⟨["kind"], dScope s_room_count, dScope s_room_count, true, tab, [], [], [], [], [], 1000000, [], ""⟩
def i_room_count : List IS := [.ret (.ife (.cmp .eq (.ix (.v 0) (.c (.int 4))) (.c (.str "own"))) (.ix (.v 0) (.c (.int 0))) (.c (.int 1)))]
def e_room_count : FnE := ⟨["kind"], ["kind"], 60, i_room_count⟩
def x_room_count : DX := ⟨d_room_count, e_room_count, c_room_count, 60⟩
theorem o_room_count : DXOk tab x_room_count := ⟨(fun h => by cases h), rfl, rfl, rfl, rfl, by kernel_rfl, scopeB_ok (by kernel_rfl), rfl, rfl, fun _ _ _ _ _ _ us hl => match us, hl with | [_], _ => rfl⟩
abbrev s_is_log_kind : Stmt := top 42
def d_is_log_kind : He.DefD := ⟨("is_log_kind", none), "is_log_kind", "is_log_kind", dArgs s_is_log_kind, dBody s_is_log_kind, dScope s_is_log_kind, [], []⟩
def c_is_log_kind : Ctx := ⟨["value", "many", "names", "values", "bound", "log", "beat"], dScope s_is_log_kind, dScope s_is_log_kind, true, tab, [], [], [], [], [], 1000000, [], ""⟩
def i_is_log_kind : List IS := [.ife (.or (.not (.val (.isi (.v 0) [.inl "tuple"]))) (.cmp .ne (.bi .len (.v 0)) (.c (.int 6)))) [.ret (.c (.bl false))] [], .set (.t [(.n 1), (.n 2), (.n 3), (.n 4), (.n 5), (.n 6)]) (.v 0), .ife (.or (.not (.val (.call "is_between" [(.v 1), (.c (.int 1)), (.c (.int 2))]))) (.or (.not (.val (.call "is_between" [(.v 2), (.c (.int 1)), (.c (.int 4))]))) (.not (.val (.call "is_between" [(.v 3), (.c (.int 2)), (.c (.int 12))]))))) [.ret (.c (.bl false))] [], .ife (.or (.cmp .gt (.bin .add (.c (.int 1)) (.bin .mul (.v 2) (.bin .add (.c (.int 3)) (.v 3)))) (.c (.int 16))) (.not (.val (.call "is_between" [(.v 4), (.c (.int 1)), (.c (.int 3))])))) [.ret (.c (.bl false))] [], .ret (.and (.cmp .isin (.v 5) (.tup [(.c (.str "own")), (.c (.str "shared"))])) (.call "is_between" [(.v 6), (.c (.int 1)), (.c (.int 4))]))]
def e_is_log_kind : FnE := ⟨["value"], ["value", "many", "names", "values", "bound", "log", "beat"], 60, i_is_log_kind⟩
def x_is_log_kind : DX := ⟨d_is_log_kind, e_is_log_kind, c_is_log_kind, 60⟩
theorem o_is_log_kind : DXOk tab x_is_log_kind := ⟨(fun h => by cases h), rfl, rfl, rfl, rfl, by kernel_rfl, scopeB_ok (by kernel_rfl), rfl, rfl, fun _ _ _ _ _ _ us hl => match us, hl with | [_], _ => rfl⟩
abbrev s_log_count : Stmt := top 43
def d_log_count : He.DefD := ⟨("log_count", none), "log_count", "log_count", dArgs s_log_count, dBody s_log_count, dScope s_log_count, [], []⟩
def c_log_count : Ctx := ⟨["kind"], dScope s_log_count, dScope s_log_count, true, tab, [], [], [], [], [], 1000000, [], ""⟩
def i_log_count : List IS := [.ret (.ife (.cmp .eq (.ix (.v 0) (.c (.int 4))) (.c (.str "own"))) (.ix (.v 0) (.c (.int 0))) (.c (.int 1)))]
def e_log_count : FnE := ⟨["kind"], ["kind"], 60, i_log_count⟩
def x_log_count : DX := ⟨d_log_count, e_log_count, c_log_count, 60⟩
theorem o_log_count : DXOk tab x_log_count := ⟨(fun h => by cases h), rfl, rfl, rfl, rfl, by kernel_rfl, scopeB_ok (by kernel_rfl), rfl, rfl, fun _ _ _ _ _ _ us hl => match us, hl with | [_], _ => rfl⟩
abbrev s_log_of : Stmt := top 44
def d_log_of : He.DefD := ⟨("log_of", none), "log_of", "log_of", dArgs s_log_of, dBody s_log_of, dScope s_log_of, [], []⟩
def c_log_of : Ctx := ⟨["kind", "client"], dScope s_log_of, dScope s_log_of, true, tab, [], [], [], [], [], 1000000, [], ""⟩
def i_log_of : List IS := [.ret (.ife (.cmp .eq (.ix (.v 0) (.c (.int 4))) (.c (.str "own"))) (.v 1) (.c (.int 0)))]
def e_log_of : FnE := ⟨["kind", "client"], ["kind", "client"], 60, i_log_of⟩
def x_log_of : DX := ⟨d_log_of, e_log_of, c_log_of, 60⟩
theorem o_log_of : DXOk tab x_log_of := ⟨(fun h => by cases h), rfl, rfl, rfl, rfl, by kernel_rfl, scopeB_ok (by kernel_rfl), rfl, rfl, fun _ _ _ _ _ _ us hl => match us, hl with | [_, _], _ => rfl⟩
abbrev s_key_count : Stmt := top 45
def d_key_count : He.DefD := ⟨("key_count", none), "key_count", "key_count", dArgs s_key_count, dBody s_key_count, dScope s_key_count, [], []⟩
def c_key_count : Ctx := ⟨["kind"], dScope s_key_count, dScope s_key_count, true, tab, [], [], [], [], [], 1000000, [], ""⟩
def i_key_count : List IS := [.ret (.ife (.cmp .eq (.ix (.v 0) (.c (.int 4))) (.c (.str "own"))) (.ix (.v 0) (.c (.int 1))) (.bin .mul (.ix (.v 0) (.c (.int 0))) (.ix (.v 0) (.c (.int 1)))))]
def e_key_count : FnE := ⟨["kind"], ["kind"], 60, i_key_count⟩
def x_key_count : DX := ⟨d_key_count, e_key_count, c_key_count, 60⟩
theorem o_key_count : DXOk tab x_key_count := ⟨(fun h => by cases h), rfl, rfl, rfl, rfl, by kernel_rfl, scopeB_ok (by kernel_rfl), rfl, rfl, fun _ _ _ _ _ _ us hl => match us, hl with | [_], _ => rfl⟩
abbrev s_key_of : Stmt := top 46
def d_key_of : He.DefD := ⟨("key_of", none), "key_of", "key_of", dArgs s_key_of, dBody s_key_of, dScope s_key_of, [], []⟩
def c_key_of : Ctx := ⟨["kind", "client", "name"], dScope s_key_of, dScope s_key_of, true, tab, [], [], [], [], [], 1000000, [], ""⟩
def i_key_of : List IS := [.ret (.ife (.cmp .eq (.ix (.v 0) (.c (.int 4))) (.c (.str "own"))) (.v 2) (.bin .add (.bin .mul (.v 1) (.ix (.v 0) (.c (.int 1)))) (.v 2)))]
def e_key_of : FnE := ⟨["kind", "client", "name"], ["kind", "client", "name"], 60, i_key_of⟩
def x_key_of : DX := ⟨d_key_of, e_key_of, c_key_of, 60⟩
theorem o_key_of : DXOk tab x_key_of := ⟨(fun h => by cases h), rfl, rfl, rfl, rfl, by kernel_rfl, scopeB_ok (by kernel_rfl), rfl, rfl, fun _ _ _ _ _ _ us hl => match us, hl with | [_, _, _], _ => rfl⟩
abbrev s_place_of_key : Stmt := top 47
def d_place_of_key : He.DefD := ⟨("place_of_key", none), "place_of_key", "place_of_key", dArgs s_place_of_key, dBody s_place_of_key, dScope s_place_of_key, [], []⟩
def c_place_of_key : Ctx := ⟨["kind", "log", "key"], dScope s_place_of_key, dScope s_place_of_key, true, tab, [], [], [], [], [], 1000000, [], ""⟩
def i_place_of_key : List IS := [.ret (.ife (.cmp .eq (.ix (.v 0) (.c (.int 4))) (.c (.str "own"))) (.bin .add (.bin .mul (.v 1) (.ix (.v 0) (.c (.int 1)))) (.v 2)) (.v 2))]
def e_place_of_key : FnE := ⟨["kind", "log", "key"], ["kind", "log", "key"], 60, i_place_of_key⟩
def x_place_of_key : DX := ⟨d_place_of_key, e_place_of_key, c_place_of_key, 60⟩
theorem o_place_of_key : DXOk tab x_place_of_key := ⟨(fun h => by cases h), rfl, rfl, rfl, rfl, by kernel_rfl, scopeB_ok (by kernel_rfl), rfl, rfl, fun _ _ _ _ _ _ us hl => match us, hl with | [_, _, _], _ => rfl⟩
abbrev s_log_ports : Stmt := top 48
def d_log_ports : He.DefD := ⟨("log_ports", none), "log_ports", "log_ports", dArgs s_log_ports, dBody s_log_ports, dScope s_log_ports, [], []⟩
def c_log_ports : Ctx := ⟨["kind"], dScope s_log_ports, dScope s_log_ports, true, tab, [], [], [], [], [], 1000000, [], ""⟩
def i_log_ports : List IS := [.ret (.bin .add (.bin .mul (.tup [(.bin .add (.c (.int 1)) (.bin .mul (.ix (.v 0) (.c (.int 1))) (.bin .add (.c (.int 3)) (.ix (.v 0) (.c (.int 2))))))]) (.ix (.v 0) (.c (.int 0)))) (.tup [(.c (.int 2))]))]
def e_log_ports : FnE := ⟨["kind"], ["kind"], 60, i_log_ports⟩
def x_log_ports : DX := ⟨d_log_ports, e_log_ports, c_log_ports, 60⟩
theorem o_log_ports : DXOk tab x_log_ports := ⟨(fun h => by cases h), rfl, rfl, rfl, rfl, by kernel_rfl, scopeB_ok (by kernel_rfl), rfl, rfl, fun _ _ _ _ _ _ us hl => match us, hl with | [_], _ => rfl⟩
abbrev s_changed_file : Stmt := top 49
def d_changed_file : He.DefD := ⟨("changed_file", none), "changed_file", "changed_file", dArgs s_changed_file, dBody s_changed_file, dScope s_changed_file, [], []⟩
def c_changed_file : Ctx := ⟨["there", "deed"], dScope s_changed_file, dScope s_changed_file, true, tab, [], [], [], [], [], 1000000, [], ""⟩
def i_changed_file : List IS := [.ife (.cmp .eq (.v 1) (.c (.int 1))) [.ret (.ife (.val (.v 0)) (.tup [(.c (.int 1)), (.c .non)]) (.tup [(.c (.int 2)), (.c (.int 1))]))] [], .ife (.not (.val (.v 0))) [.ret (.tup [(.c (.int 1)), (.c .non)])] [], .ife (.cmp .eq (.v 1) (.c (.int 0))) [.ret (.tup [(.bin .add (.c (.int 1)) (.v 0)), (.c .non)])] [], .ret (.tup [(.c (.int 2)), (.ife (.cmp .eq (.v 1) (.c (.int 2))) (.c (.int 0)) (.bin .sub (.v 1) (.c (.int 2))))])]
def e_changed_file : FnE := ⟨["there", "deed"], ["there", "deed"], 60, i_changed_file⟩
def x_changed_file : DX := ⟨d_changed_file, e_changed_file, c_changed_file, 60⟩
theorem o_changed_file : DXOk tab x_changed_file := ⟨(fun h => by cases h), rfl, rfl, rfl, rfl, by kernel_rfl, scopeB_ok (by kernel_rfl), rfl, rfl, fun _ _ _ _ _ _ us hl => match us, hl with | [_, _], _ => rfl⟩
abbrev s_number_of : Stmt := top 57
def d_number_of : He.DefD := ⟨("number_of", none), "number_of", "number_of", dArgs s_number_of, dBody s_number_of, dScope s_number_of, [], []⟩
def c_number_of : Ctx := ⟨["word", "sign"], dScope s_number_of, dScope s_number_of, true, tab, [], [], [], [], [], 1000000, [], ""⟩
def i_number_of : List IS := [.ife (.or (.not (.val (.isi (.v 0) [.inl "str"]))) (.or (.not (.chain .lt .lt (.c (.int 0)) (.bi .len (.v 0)) (.c (.int 5)))) (.not (.val (.bi .all (.comp false (.cmp .isin (.v 1) (.c (.str "0123456789"))) (.n 1) .seq [(.v 0)] none [1])))))) [.ret (.c .non)] [], .ret (.ife (.or (.cmp .eq (.v 0) (.c (.str "0"))) (.cmp .ne (.ix (.v 0) (.c (.int 0))) (.c (.str "0")))) (.bi .int (.v 0)) (.c .non))]
def e_number_of : FnE := ⟨["word"], ["word", "sign"], 60, i_number_of⟩
def x_number_of : DX := ⟨d_number_of, e_number_of, c_number_of, 60⟩
theorem o_number_of : DXOk tab x_number_of := ⟨(fun h => by cases h), rfl, rfl, rfl, rfl, by kernel_rfl, scopeB_ok (by kernel_rfl), rfl, rfl, fun _ _ _ _ _ _ us hl => match us, hl with | [_], _ => rfl⟩
abbrev s_numbers_of : Stmt := top 58
def d_numbers_of : He.DefD := ⟨("numbers_of", none), "numbers_of", "numbers_of", dArgs s_numbers_of, dBody s_numbers_of, dScope s_numbers_of, [], []⟩
def c_numbers_of : Ctx := ⟨["word", "found", "part"], dScope s_numbers_of, dScope s_numbers_of, true, tab, [], [], [], [], [], 1000000, [], ""⟩
def i_numbers_of : List IS := [.ife (.cmp .eq (.v 0) (.c (.str "-"))) [.ret (.tup [])] [], .set (.n 1) (.bi .tuple (.comp false (.call "number_of" [(.v 2)]) (.n 2) .seq [(.spl (.v 0) (.c (.str ",")))] none [2])), .ret (.ife (.cmp .isin (.c .non) (.v 1)) (.c .non) (.v 1))]
def e_numbers_of : FnE := ⟨["word"], ["word", "found", "part"], 60, i_numbers_of⟩
def x_numbers_of : DX := ⟨d_numbers_of, e_numbers_of, c_numbers_of, 60⟩
theorem o_numbers_of : DXOk tab x_numbers_of := ⟨(fun h => by cases h), rfl, rfl, rfl, rfl, by kernel_rfl, scopeB_ok (by kernel_rfl), rfl, rfl, fun _ _ _ _ _ _ us hl => match us, hl with | [_], _ => rfl⟩
abbrev s_word_told : Stmt := top 59
def d_word_told : He.DefD := ⟨("word_told", none), "word_told", "word_told", dArgs s_word_told, dBody s_word_told, dScope s_word_told, [], []⟩
def c_word_told : Ctx := ⟨["word", "form", "value"], dScope s_word_told, dScope s_word_told, true, tab, [], [], [], [], [], 1000000, [], ""⟩
def i_word_told : List IS := [.ife (.val (.isi (.ix (.v 1) (.c (.int 0))) [.inl "str"])) [.ret (.ife (.cmp .isin (.v 0) (.v 1)) (.v 0) (.c .non))] [], .set (.n 2) (.call "number_of" [(.v 0)]), .ret (.ife (.and (.cmp .isnot (.v 2) (.c .non)) (.chain .le .le (.ix (.v 1) (.c (.int 0))) (.v 2) (.ix (.v 1) (.c (.int 1))))) (.v 2) (.c .non))]
def e_word_told : FnE := ⟨["word", "form"], ["word", "form", "value"], 60, i_word_told⟩
def x_word_told : DX := ⟨d_word_told, e_word_told, c_word_told, 60⟩
theorem o_word_told : DXOk tab x_word_told := ⟨(fun h => by cases h), rfl, rfl, rfl, rfl, by kernel_rfl, scopeB_ok (by kernel_rfl), rfl, rfl, fun _ _ _ _ _ _ us hl => match us, hl with | [_, _], _ => rfl⟩
abbrev s_words_read : Stmt := top 60
def d_words_read : He.DefD := ⟨("words_read", none), "words_read", "words_read", dArgs s_words_read, dBody s_words_read, dScope s_words_read, [], []⟩
def c_words_read : Ctx := ⟨["words", "first", "forms", "found", "k", "form", "value"], dScope s_words_read, dScope s_words_read, true, tab, ["found"], [], [], [], [], 1000000, [], ""⟩
def i_words_read : List IS := [.set (.n 3) (.lst true []), .loop (.t [(.n 4), (.n 5)]) .enum [(.v 2)] [.set (.n 6) (.ife (.cmp .lt (.bin .add (.v 1) (.v 4)) (.bi .len (.v 0))) (.call "word_told" [(.ix (.v 0) (.bin .add (.v 1) (.v 4))), (.v 5)]) (.c .non)), .ife (.cmp .is_ (.v 6) (.c .non)) [.raise "BadText" [(.c (.int 0)), (.bin .add (.bin .add (.v 1) (.v 4)) (.c (.int 1)))]] [], .ex (.bm .append (.v 3) [(.v 6)])], .ret (.bi .tuple (.v 3))]
def e_words_read : FnE := ⟨["words", "first", "forms"], ["words", "first", "forms", "found", "k", "form", "value"], 60, i_words_read⟩
def x_words_read : DX := ⟨d_words_read, e_words_read, c_words_read, 60⟩
theorem o_words_read : DXOk tab x_words_read := ⟨(fun h => by cases h), rfl, rfl, rfl, rfl, by kernel_rfl, scopeB_ok (by kernel_rfl), rfl, rfl, fun _ _ _ _ _ _ us hl => match us, hl with | [_, _, _], _ => rfl⟩
abbrev s_need_end : Stmt := top 61
def d_need_end : He.DefD := ⟨("need_end", none), "need_end", "need_end", dArgs s_need_end, dBody s_need_end, dScope s_need_end, [], []⟩
def c_need_end : Ctx := ⟨["words", "rows", "many"], dScope s_need_end, dScope s_need_end, true, tab, [], [], [], [], [], 1000000, [], ""⟩
def i_need_end : List IS := [.ife (.cmp .gt (.bi .len (.v 0)) (.v 2)) [.raise "BadText" [(.c (.int 0)), (.bin .add (.v 2) (.c (.int 1)))]] [], .ife (.val (.v 1)) [.raise "BadText" [(.c (.int 1)), (.c (.int 1))]] []]
def e_need_end : FnE := ⟨["words", "rows", "many"], ["words", "rows", "many"], 60, i_need_end⟩
def x_need_end : DX := ⟨d_need_end, e_need_end, c_need_end, 60⟩
theorem o_need_end : DXOk tab x_need_end := ⟨(fun h => by cases h), rfl, rfl, rfl, rfl, by kernel_rfl, scopeB_ok (by kernel_rfl), rfl, rfl, fun _ _ _ _ _ _ us hl => match us, hl with | [_, _, _], _ => rfl⟩
abbrev s_planner_told : Stmt := top 62
def d_planner_told : He.DefD := ⟨("planner_told", none), "planner_told", "planner_told", dArgs s_planner_told, dBody s_planner_told, dScope s_planner_told, [], []⟩
def c_planner_told : Ctx := ⟨["words", "rows", "many", "option", "wheel", "item", "over", "part", "lot"], dScope s_planner_told, dScope s_planner_told, true, tab, [], [], [], [], [], 1000000, [], ""⟩
def i_planner_told : List IS := [.set (.t [(.n 2), (.n 3)]) (.call "words_read" [(.v 0), (.c (.int 0)), (.lst false [(.tup [(.c (.int 1)), (.c (.int 4))]), (.tup [(.c (.str "slots")), (.c (.str "early")), (.c (.str "upward"))])])]), .set (.n 4) (.ife (.cmp .gt (.bi .len (.v 0)) (.c (.int 2))) (.call "numbers_of" [(.ix (.v 0) (.c (.int 2)))]) (.c .non)), .ife (.or (.cmp .is_ (.v 4) (.c .non)) (.or (.not (.chain .lt .le (.c (.int 0)) (.bi .len (.v 4)) (.c (.int 12)))) (.not (.val (.bi .all (.comp false (.cmp .le (.v 5) (.v 2)) (.n 5) .seq [(.v 4)] none [5])))))) [.raise "BadText" [(.c (.int 0)), (.c (.int 3))]] [], .set (.n 6) (.tup []), .ife (.cmp .eq (.v 3) (.c (.str "upward"))) [.set (.n 6) (.ife (.cmp .gt (.bi .len (.v 0)) (.c (.int 3))) (.bi .tuple (.comp false (.call "numbers_of" [(.v 7)]) (.n 7) .seq [(.spl (.ix (.v 0) (.c (.int 3))) (.c (.str "/")))] none [7])) (.tup [])), .ife (.or (.cmp .isin (.c .non) (.v 6)) (.or (.cmp .ne (.bi .len (.v 6)) (.v 2)) (.not (.val (.bi .all (.comp false (.call "is_lot_below" [(.v 8), (.v 2)]) (.n 8) .seq [(.v 6)] none [8])))))) [.raise "BadText" [(.c (.int 0)), (.c (.int 4))]] []] [], .ex (.call "need_end" [(.v 0), (.v 1), (.ife (.cmp .eq (.v 3) (.c (.str "upward"))) (.c (.int 4)) (.c (.int 3)))]), .ret (.tup [(.v 2), (.v 4), (.v 3), (.v 6)])]
def e_planner_told : FnE := ⟨["words", "rows"], ["words", "rows", "many", "option", "wheel", "item", "over", "part", "lot"], 60, i_planner_told⟩
def x_planner_told : DX := ⟨d_planner_told, e_planner_told, c_planner_told, 60⟩
theorem o_planner_told : DXOk tab x_planner_told := ⟨(fun h => by cases h), rfl, rfl, rfl, rfl, by kernel_rfl, scopeB_ok (by kernel_rfl), rfl, rfl, fun _ _ _ _ _ _ us hl => match us, hl with | [_, _], _ => rfl⟩
abbrev s_planner_box : Stmt := top 63
def d_planner_box : He.DefD := ⟨("planner_box", none), "planner_box", "planner_box", dArgs s_planner_box, dBody s_planner_box, dScope s_planner_box, [], []⟩
def c_planner_box : Ctx := ⟨["told", "layer"], dScope s_planner_box, dScope s_planner_box, true, tab, [], [], [], [], [], 1000000, [], ""⟩
def i_planner_box : List IS := [.ret (.make "Planner" [(.ix (.v 0) (.c (.int 0))), (.ix (.v 0) (.c (.int 1))), (.ix (.v 0) (.c (.int 2))), (.ix (.v 0) (.c (.int 3)))])]
def e_planner_box : FnE := ⟨["told", "layer"], ["told", "layer"], 60, i_planner_box⟩
def x_planner_box : DX := ⟨d_planner_box, e_planner_box, c_planner_box, 60⟩
theorem o_planner_box : DXOk tab x_planner_box := ⟨(fun h => by cases h), rfl, rfl, rfl, rfl, by kernel_rfl, scopeB_ok (by kernel_rfl), rfl, rfl, fun _ _ _ _ _ _ us hl => match us, hl with | [_, _], _ => rfl⟩
abbrev s_store_words : Stmt := top 64
def d_store_words : He.DefD := ⟨("store_words", none), "store_words", "store_words", dArgs s_store_words, dBody s_store_words, dScope s_store_words, [], []⟩
def c_store_words : Ctx := ⟨["words", "told"], dScope s_store_words, dScope s_store_words, true, tab, [], [], [], [], [], 1000000, [], ""⟩
def i_store_words : List IS := [.set (.n 1) (.call "words_read" [(.v 0), (.c (.int 0)), (.lst false [(.tup [(.c (.int 1)), (.c (.int 2))]), (.tup [(.c (.int 1)), (.c (.int 4))]), (.tup [(.c (.int 2)), (.c (.int 12))])])]), .ife (.cmp .gt (.bin .add (.c (.int 1)) (.bin .mul (.ix (.v 1) (.c (.int 1))) (.bin .add (.c (.int 3)) (.ix (.v 1) (.c (.int 2)))))) (.c (.int 16))) [.raise "BadText" [(.c (.int 0)), (.c (.int 3))]] [], .ret (.v 1)]
def e_store_words : FnE := ⟨["words"], ["words", "told"], 60, i_store_words⟩
def x_store_words : DX := ⟨d_store_words, e_store_words, c_store_words, 60⟩
theorem o_store_words : DXOk tab x_store_words := ⟨(fun h => by cases h), rfl, rfl, rfl, rfl, by kernel_rfl, scopeB_ok (by kernel_rfl), rfl, rfl, fun _ _ _ _ _ _ us hl => match us, hl with | [_], _ => rfl⟩
abbrev s_files_told : Stmt := top 65
def d_files_told : He.DefD := ⟨("files_told", none), "files_told", "files_told", dArgs s_files_told, dBody s_files_told, dScope s_files_told, [], []⟩
def c_files_told : Ctx := ⟨["words", "rows", "told", "forms"], dScope s_files_told, dScope s_files_told, true, tab, [], [], [], [], [], 1000000, [], ""⟩
def i_files_told : List IS := [.set (.n 2) (.bin .add (.call "store_words" [(.v 0)]) (.call "words_read" [(.v 0), (.c (.int 3)), (.lst false [(.tup [(.c (.str "own")), (.c (.str "shared"))]), (.tup [(.c (.str "own")), (.c (.str "shared"))])])])), .ife (.and (.cmp .eq (.ix (.v 2) (.c (.int 3))) (.c (.str "shared"))) (.cmp .eq (.ix (.v 2) (.c (.int 4))) (.c (.str "own")))) [.raise "BadText" [(.c (.int 0)), (.c (.int 5))]] [], .set (.n 3) (.lst false [(.tup [(.c (.int 1)), (.c (.int 8))]), (.tup [(.c (.int 1)), (.c (.int 4))]), (.tup [(.c (.str "least")), (.c (.str "last")), (.c (.str "round"))]), (.tup [(.c (.str "filled")), (.c (.str "seek"))]), (.tup [(.c (.str "zeroed")), (.c (.str "left"))])]), .set (.n 2) (.bin .add (.v 2) (.call "words_read" [(.v 0), (.c (.int 5)), (.v 3)])), .ex (.call "need_end" [(.v 0), (.v 1), (.c (.int 10))]), .ret (.bin .add (.tup [(.sl (.v 2) none (some (.c (.int 7))))]) (.sl (.v 2) (some (.c (.int 7))) none))]
def e_files_told : FnE := ⟨["words", "rows"], ["words", "rows", "told", "forms"], 60, i_files_told⟩
def x_files_told : DX := ⟨d_files_told, e_files_told, c_files_told, 60⟩
theorem o_files_told : DXOk tab x_files_told := ⟨(fun h => by cases h), rfl, rfl, rfl, rfl, by kernel_rfl, scopeB_ok (by kernel_rfl), rfl, rfl, fun _ _ _ _ _ _ us hl => match us, hl with | [_, _], _ => rfl⟩
abbrev s_files_box : Stmt := top 66
def d_files_box : He.DefD := ⟨("files_box", none), "files_box", "files_box", dArgs s_files_box, dBody s_files_box, dScope s_files_box, [], []⟩
def c_files_box : Ctx := ⟨["told", "layer"], dScope s_files_box, dScope s_files_box, true, tab, [], [], [], [], [], 1000000, [], ""⟩
def i_files_box : List IS := [.ret (.ife (.cmp .isin (.v 1) (.c (.ks false [.str "meaning", .str "code", .str "pages"]))) (.make "Names" [(.ix (.v 0) (.c (.int 0)))]) (.make "Blocks" [(.ix (.v 0) (.c (.int 0))), (.ix (.v 0) (.c (.int 1))), (.ix (.v 0) (.c (.int 2))), (.ix (.v 0) (.c (.int 3)))]))]
def e_files_box : FnE := ⟨["told", "layer"], ["told", "layer"], 60, i_files_box⟩
def x_files_box : DX := ⟨d_files_box, e_files_box, c_files_box, 60⟩
theorem o_files_box : DXOk tab x_files_box := ⟨(fun h => by cases h), rfl, rfl, rfl, rfl, by kernel_rfl, scopeB_ok (by kernel_rfl), rfl, rfl, fun _ _ _ _ _ _ us hl => match us, hl with | [_, _], _ => rfl⟩
abbrev s_plain_told : Stmt := top 67
def d_plain_told : He.DefD := ⟨("plain_told", none), "plain_told", "plain_told", dArgs s_plain_told, dBody s_plain_told, dScope s_plain_told, [], []⟩
def c_plain_told : Ctx := ⟨["words", "rows", "forms", "told"], dScope s_plain_told, dScope s_plain_told, true, tab, [], [], [], [], [], 1000000, [], ""⟩
def i_plain_told : List IS := [.set (.n 3) (.call "words_read" [(.v 0), (.c (.int 0)), (.v 2)]), .ex (.call "need_end" [(.v 0), (.v 1), (.bi .len (.v 2))]), .ret (.v 3)]
def e_plain_told : FnE := ⟨["words", "rows", "forms"], ["words", "rows", "forms", "told"], 60, i_plain_told⟩
def x_plain_told : DX := ⟨d_plain_told, e_plain_told, c_plain_told, 60⟩
theorem o_plain_told : DXOk tab x_plain_told := ⟨(fun h => by cases h), rfl, rfl, rfl, rfl, by kernel_rfl, scopeB_ok (by kernel_rfl), rfl, rfl, fun _ _ _ _ _ _ us hl => match us, hl with | [_, _, _], _ => rfl⟩
abbrev s_mailbox_told : Stmt := top 68
def d_mailbox_told : He.DefD := ⟨("mailbox_told", none), "mailbox_told", "mailbox_told", dArgs s_mailbox_told, dBody s_mailbox_told, dScope s_mailbox_told, [], []⟩
def c_mailbox_told : Ctx := ⟨["words", "rows"], dScope s_mailbox_told, dScope s_mailbox_told, true, tab, [], [], [], [], [], 1000000, [], ""⟩
def i_mailbox_told : List IS := [.ret (.call "plain_told" [(.v 0), (.v 1), (.lst false [(.tup [(.c (.int 1)), (.c (.int 4))]), (.tup [(.c (.int 2)), (.c (.int 14))]), (.tup [(.c (.int 1)), (.c (.int 3))]), (.tup [(.c (.str "silent")), (.c (.str "answers"))])])])]
def e_mailbox_told : FnE := ⟨["words", "rows"], ["words", "rows"], 60, i_mailbox_told⟩
def x_mailbox_told : DX := ⟨d_mailbox_told, e_mailbox_told, c_mailbox_told, 60⟩
theorem o_mailbox_told : DXOk tab x_mailbox_told := ⟨(fun h => by cases h), rfl, rfl, rfl, rfl, by kernel_rfl, scopeB_ok (by kernel_rfl), rfl, rfl, fun _ _ _ _ _ _ us hl => match us, hl with | [_, _], _ => rfl⟩
abbrev s_mailbox_box : Stmt := top 69
def d_mailbox_box : He.DefD := ⟨("mailbox_box", none), "mailbox_box", "mailbox_box", dArgs s_mailbox_box, dBody s_mailbox_box, dScope s_mailbox_box, [], []⟩
def c_mailbox_box : Ctx := ⟨["told", "layer"], dScope s_mailbox_box, dScope s_mailbox_box, true, tab, [], [], [], [], [], 1000000, [], ""⟩
def i_mailbox_box : List IS := [.ret (.make "Mail" [(.ix (.v 0) (.c (.int 0))), (.ix (.v 0) (.c (.int 1))), (.ix (.v 0) (.c (.int 2))), (.ix (.v 0) (.c (.int 3)))])]
def e_mailbox_box : FnE := ⟨["told", "layer"], ["told", "layer"], 60, i_mailbox_box⟩
def x_mailbox_box : DX := ⟨d_mailbox_box, e_mailbox_box, c_mailbox_box, 60⟩
theorem o_mailbox_box : DXOk tab x_mailbox_box := ⟨(fun h => by cases h), rfl, rfl, rfl, rfl, by kernel_rfl, scopeB_ok (by kernel_rfl), rfl, rfl, fun _ _ _ _ _ _ us hl => match us, hl with | [_, _], _ => rfl⟩
abbrev s_numbers_told_of : Stmt := top 70
def d_numbers_told_of : He.DefD := ⟨("numbers_told_of", none), "numbers_told_of", "numbers_told_of", dArgs s_numbers_told_of, dBody s_numbers_told_of, dScope s_numbers_told_of, [], []⟩
def c_numbers_told_of : Ctx := ⟨["words", "rows"], dScope s_numbers_told_of, dScope s_numbers_told_of, true, tab, [], [], [], [], [], 1000000, [], ""⟩
def i_numbers_told_of : List IS := [.ret (.call "plain_told" [(.v 0), (.v 1), (.lst false [(.tup [(.c (.int 1)), (.c (.int 3))]), (.tup [(.c (.int 2)), (.c (.int 14))]), (.tup [(.c (.str "own")), (.c (.str "shared"))])])])]
def e_numbers_told_of : FnE := ⟨["words", "rows"], ["words", "rows"], 60, i_numbers_told_of⟩
def x_numbers_told_of : DX := ⟨d_numbers_told_of, e_numbers_told_of, c_numbers_told_of, 60⟩
theorem o_numbers_told_of : DXOk tab x_numbers_told_of := ⟨(fun h => by cases h), rfl, rfl, rfl, rfl, by kernel_rfl, scopeB_ok (by kernel_rfl), rfl, rfl, fun _ _ _ _ _ _ us hl => match us, hl with | [_, _], _ => rfl⟩
abbrev s_numbers_box : Stmt := top 71
def d_numbers_box : He.DefD := ⟨("numbers_box", none), "numbers_box", "numbers_box", dArgs s_numbers_box, dBody s_numbers_box, dScope s_numbers_box, [], []⟩
def c_numbers_box : Ctx := ⟨["told", "layer"], dScope s_numbers_box, dScope s_numbers_box, true, tab, [], [], [], [], [], 1000000, [], ""⟩
def i_numbers_box : List IS := [.ret (.make "Counter" [(.ix (.v 0) (.c (.int 0))), (.ix (.v 0) (.c (.int 1))), (.ix (.v 0) (.c (.int 2)))])]
def e_numbers_box : FnE := ⟨["told", "layer"], ["told", "layer"], 60, i_numbers_box⟩
def x_numbers_box : DX := ⟨d_numbers_box, e_numbers_box, c_numbers_box, 60⟩
theorem o_numbers_box : DXOk tab x_numbers_box := ⟨(fun h => by cases h), rfl, rfl, rfl, rfl, by kernel_rfl, scopeB_ok (by kernel_rfl), rfl, rfl, fun _ _ _ _ _ _ us hl => match us, hl with | [_, _], _ => rfl⟩
abbrev s_bench_told : Stmt := top 72
def d_bench_told : He.DefD := ⟨("bench_told", none), "bench_told", "bench_told", dArgs s_bench_told, dBody s_bench_told, dScope s_bench_told, [], []⟩
def c_bench_told : Ctx := ⟨["words", "rows"], dScope s_bench_told, dScope s_bench_told, true, tab, [], [], [], [], [], 1000000, [], ""⟩
def i_bench_told : List IS := [.ret (.call "plain_told" [(.v 0), (.v 1), (.lst false [(.tup [(.c (.int 1)), (.c (.int 2))]), (.tup [(.c (.int 2)), (.c (.int 14))]), (.tup [(.c (.str "clear")), (.c (.str "left"))])])])]
def e_bench_told : FnE := ⟨["words", "rows"], ["words", "rows"], 60, i_bench_told⟩
def x_bench_told : DX := ⟨d_bench_told, e_bench_told, c_bench_told, 60⟩
theorem o_bench_told : DXOk tab x_bench_told := ⟨(fun h => by cases h), rfl, rfl, rfl, rfl, by kernel_rfl, scopeB_ok (by kernel_rfl), rfl, rfl, fun _ _ _ _ _ _ us hl => match us, hl with | [_, _], _ => rfl⟩
abbrev s_bench_box : Stmt := top 73
def d_bench_box : He.DefD := ⟨("bench_box", none), "bench_box", "bench_box", dArgs s_bench_box, dBody s_bench_box, dScope s_bench_box, [], []⟩
def c_bench_box : Ctx := ⟨["told", "layer"], dScope s_bench_box, dScope s_bench_box, true, tab, [], [], [], [], [], 1000000, [], ""⟩
def i_bench_box : List IS := [.ife (.cmp .eq (.v 1) (.c (.str "meaning"))) [.ret (.make "Bench" [(.ix (.v 0) (.c (.int 0))), (.ix (.v 0) (.c (.int 1))), (.c (.str "own"))])] [], .ret (.make "Bench" [(.ix (.v 0) (.c (.int 0))), (.ix (.v 0) (.c (.int 1))), (.ife (.cmp .eq (.ix (.v 0) (.c (.int 2))) (.c (.str "clear"))) (.c (.str "saved")) (.c (.str "left")))])]
def e_bench_box : FnE := ⟨["told", "layer"], ["told", "layer"], 60, i_bench_box⟩
def x_bench_box : DX := ⟨d_bench_box, e_bench_box, c_bench_box, 60⟩
theorem o_bench_box : DXOk tab x_bench_box := ⟨(fun h => by cases h), rfl, rfl, rfl, rfl, by kernel_rfl, scopeB_ok (by kernel_rfl), rfl, rfl, fun _ _ _ _ _ _ us hl => match us, hl with | [_, _], _ => rfl⟩
abbrev s_log_told : Stmt := top 74
def d_log_told : He.DefD := ⟨("log_told", none), "log_told", "log_told", dArgs s_log_told, dBody s_log_told, dScope s_log_told, [], []⟩
def c_log_told : Ctx := ⟨["words", "rows", "told"], dScope s_log_told, dScope s_log_told, true, tab, [], [], [], [], [], 1000000, [], ""⟩
def i_log_told : List IS := [.set (.n 2) (.bin .add (.call "store_words" [(.v 0)]) (.call "words_read" [(.v 0), (.c (.int 3)), (.lst false [(.tup [(.c (.int 1)), (.c (.int 3))]), (.tup [(.c (.str "own")), (.c (.str "shared"))]), (.tup [(.c (.int 1)), (.c (.int 4))]), (.tup [(.c (.str "whole")), (.c (.str "any"))])])])), .ex (.call "need_end" [(.v 0), (.v 1), (.c (.int 7))]), .ret (.tup [(.sl (.v 2) none (some (.c (.int 6)))), (.ix (.v 2) (.c (.int 6)))])]
def e_log_told : FnE := ⟨["words", "rows"], ["words", "rows", "told"], 60, i_log_told⟩
def x_log_told : DX := ⟨d_log_told, e_log_told, c_log_told, 60⟩
theorem o_log_told : DXOk tab x_log_told := ⟨(fun h => by cases h), rfl, rfl, rfl, rfl, by kernel_rfl, scopeB_ok (by kernel_rfl), rfl, rfl, fun _ _ _ _ _ _ us hl => match us, hl with | [_, _], _ => rfl⟩
abbrev s_log_box : Stmt := top 75
def d_log_box : He.DefD := ⟨("log_box", none), "log_box", "log_box", dArgs s_log_box, dBody s_log_box, dScope s_log_box, [], []⟩
def c_log_box : Ctx := ⟨["told", "layer"], dScope s_log_box, dScope s_log_box, true, tab, [], [], [], [], [], 1000000, [], ""⟩
def i_log_box : List IS := [.ret (.ife (.cmp .isin (.v 1) (.c (.ks false [.str "meaning", .str "code", .str "pages"]))) (.make "Logged" [(.ix (.v 0) (.c (.int 0)))]) (.make "Torn" [(.ix (.v 0) (.c (.int 0))), (.ix (.v 0) (.c (.int 1)))]))]
def e_log_box : FnE := ⟨["told", "layer"], ["told", "layer"], 60, i_log_box⟩
def x_log_box : DX := ⟨d_log_box, e_log_box, c_log_box, 60⟩
theorem o_log_box : DXOk tab x_log_box := ⟨(fun h => by cases h), rfl, rfl, rfl, rfl, by kernel_rfl, scopeB_ok (by kernel_rfl), rfl, rfl, fun _ _ _ _ _ _ us hl => match us, hl with | [_, _], _ => rfl⟩
abbrev s_l_pen : Stmt := top 77
def d_l_pen : He.DefD := ⟨("_law_pen", none), "_law_pen", "_law_pen", dArgs s_l_pen, dBody s_l_pen, dScope s_l_pen, [], []⟩
def c_l_pen : Ctx := ⟨["script", "total", "cell"], dScope s_l_pen, dScope s_l_pen, true, tab, [], [], [], [], [], 1000000, [], ""⟩
def i_l_pen : List IS := [.set (.n 1) (.c (.int 0)), .loop (.n 2) .seq [(.v 0)] [.set (.n 1) (.bin .mod (.bi .int (.bin .add (.bin .mul (.v 1) (.c (.int 151))) (.v 2))) (.c (.int 1000000033)))], .ret (.dicd ["cells", "at", "digits", "count", "fold"] [(.bi .list (.v 0)), (.c (.int 0)), (.c (.int 0)), (.c (.int 0)), (.v 1)])]
def e_l_pen : FnE := ⟨["script"], ["script", "total", "cell"], 60, i_l_pen⟩
def x_l_pen : DX := ⟨d_l_pen, e_l_pen, c_l_pen, 60⟩
theorem o_l_pen : DXOk tab x_l_pen := ⟨(fun h => by cases h), rfl, rfl, rfl, rfl, by kernel_rfl, scopeB_ok (by kernel_rfl), rfl, rfl, fun _ _ _ _ _ _ us hl => match us, hl with | [_], _ => rfl⟩
abbrev s_l_told : Stmt := top 78
def d_l_told : He.DefD := ⟨("_law_told", none), "_law_told", "_law_told", dArgs s_l_told, dBody s_l_told, dScope s_l_told, [], []⟩
def c_l_told : Ctx := ⟨["way", "words", "rows"], dScope s_l_told, dScope s_l_told, true, tab, [], [], [], [], [], 1000000, [], ""⟩
def i_l_told : List IS := [.ife (.cmp .lt (.v 0) (.c (.int 3))) [.ife (.cmp .eq (.v 0) (.c (.int 0))) [.ret (.call "planner_told" [(.v 1), (.v 2)])] [], .ret (.ife (.cmp .eq (.v 0) (.c (.int 1))) (.call "files_told" [(.v 1), (.v 2)]) (.call "mailbox_told" [(.v 1), (.v 2)]))] [], .ife (.cmp .lt (.v 0) (.c (.int 5))) [.ret (.ife (.cmp .eq (.v 0) (.c (.int 3))) (.call "numbers_told_of" [(.v 1), (.v 2)]) (.call "bench_told" [(.v 1), (.v 2)]))] [], .ret (.call "log_told" [(.v 1), (.v 2)])]
def e_l_told : FnE := ⟨["way", "words", "rows"], ["way", "words", "rows"], 60, i_l_told⟩
def x_l_told : DX := ⟨d_l_told, e_l_told, c_l_told, 60⟩
theorem o_l_told : DXOk tab x_l_told := ⟨(fun h => by cases h), rfl, rfl, rfl, rfl, by kernel_rfl, scopeB_ok (by kernel_rfl), rfl, rfl, fun _ _ _ _ _ _ us hl => match us, hl with | [_, _, _], _ => rfl⟩
abbrev s_l_box : Stmt := top 79
def d_l_box : He.DefD := ⟨("_law_box", none), "_law_box", "_law_box", dArgs s_l_box, dBody s_l_box, dScope s_l_box, [], []⟩
def c_l_box : Ctx := ⟨["way", "told", "layer"], dScope s_l_box, dScope s_l_box, true, tab, [], [], [], [], [], 1000000, [], ""⟩
def i_l_box : List IS := [.ife (.cmp .lt (.v 0) (.c (.int 3))) [.ife (.cmp .eq (.v 0) (.c (.int 0))) [.ret (.call "planner_box" [(.v 1), (.v 2)])] [], .ret (.ife (.cmp .eq (.v 0) (.c (.int 1))) (.call "files_box" [(.v 1), (.v 2)]) (.call "mailbox_box" [(.v 1), (.v 2)]))] [], .ife (.cmp .lt (.v 0) (.c (.int 5))) [.ret (.ife (.cmp .eq (.v 0) (.c (.int 3))) (.call "numbers_box" [(.v 1), (.v 2)]) (.call "bench_box" [(.v 1), (.v 2)]))] [], .ret (.call "log_box" [(.v 1), (.v 2)])]
def e_l_box : FnE := ⟨["way", "told", "layer"], ["way", "told", "layer"], 60, i_l_box⟩
def x_l_box : DX := ⟨d_l_box, e_l_box, c_l_box, 60⟩
theorem o_l_box : DXOk tab x_l_box := ⟨(fun h => by cases h), rfl, rfl, rfl, rfl, by kernel_rfl, scopeB_ok (by kernel_rfl), rfl, rfl, fun _ _ _ _ _ _ us hl => match us, hl with | [_, _, _], _ => rfl⟩
abbrev s_l_parts_right : Stmt := top 82
def d_l_parts_right : He.DefD := ⟨("_law_parts_right", none), "_law_parts_right", "_law_parts_right", dArgs s_l_parts_right, dBody s_l_parts_right, dScope s_l_parts_right, [], []⟩
def c_l_parts_right : Ctx := ⟨["pen", "odd", "kind", "log", "odds"], dScope s_l_parts_right, dScope s_l_parts_right, true, tab, [], [], [], [], [], 1000000, [], "_law_parts_right"⟩
def i_l_parts_right : List IS := [.loop (.n 1) .seq [(.lst false [(.c (.int 0)), (.c (.int 5)), (.c (.bl true)), (.c .non), (.c (.str "1"))])] [.ife (.not (.val (.lam 1 "_law_parts_right" "_law_refused" [(.tup [(.v 1), (.tup [(.c (.int 0))]), (.c (.str "slots")), (.tup [])])] (.make "Planner" [(.v 1), (.tup [(.c (.int 0))]), (.c (.str "slots")), (.tup [])])))) [.ret (.c (.bl false))] []], .loop (.n 1) .seq [(.lst false [(.tup []), (.lst false [(.c (.int 0))]), (.tup [(.c (.int 3))]), (.tup [(.neg (.c (.int 1)))]), (.bin .mul (.tup [(.c (.int 0))]) (.c (.int 13))), (.tup [(.c (.bl true))]), (.c .non)])] [.ife (.not (.val (.lam 1 "_law_parts_right" "_law_refused" [(.tup [(.c (.int 2)), (.v 1), (.c (.str "early")), (.tup [])])] (.make "Planner" [(.c (.int 2)), (.v 1), (.c (.str "early")), (.tup [])])))) [.ret (.c (.bl false))] []], .loop (.n 1) .seq [(.lst false [(.tup [(.c (.str "slots")), (.tup [(.tup []), (.tup [])])]), (.tup [(.c (.str "upward")), (.tup [])]), (.tup [(.c (.str "upward")), (.tup [(.tup []), (.tup [(.c (.int 2))])])]), (.tup [(.c (.str "upward")), (.tup [(.tup []), (.tup [(.c (.int 0)), (.c (.int 0))])])]), (.tup [(.c (.str "late")), (.tup [])])])] [.ife (.not (.val (.lam 1 "_law_parts_right" "_law_refused" [(.bin .add (.tup [(.c (.int 2)), (.tup [(.c (.int 0)), (.c (.int 1))])]) (.v 1))] (.make "Planner" [(.c (.int 2)), (.tup [(.c (.int 0)), (.c (.int 1))]), (.ix (.v 1) (.c (.int 0))), (.ix (.v 1) (.c (.int 1)))])))) [.ret (.c (.bl false))] []], .loop (.n 1) .seq [(.lst false [(.tup [(.c (.int 0)), (.c (.int 2)), (.c (.str "own"))]), (.tup [(.c (.int 3)), (.c (.int 2)), (.c (.str "own"))]), (.tup [(.c (.int 1)), (.c (.int 1)), (.c (.str "own"))]), (.tup [(.c (.int 1)), (.c (.int 15)), (.c (.str "left"))]), (.tup [(.c (.int 1)), (.c (.int 2)), (.c (.str "none"))]), (.tup [(.c (.bl true)), (.c (.int 2)), (.c (.str "own"))])])] [.ife (.not (.val (.lam 1 "_law_parts_right" "_law_refused" [(.v 1)] (.make "Bench" [(.ix (.v 1) (.c (.int 0))), (.ix (.v 1) (.c (.int 1))), (.ix (.v 1) (.c (.int 2)))])))) [.ret (.c (.bl false))] []], .loop (.n 1) .seq [(.lst false [(.tup [(.c (.int 0)), (.c (.int 2)), (.c (.int 1)), (.c (.str "silent"))]), (.tup [(.c (.int 5)), (.c (.int 2)), (.c (.int 1)), (.c (.str "silent"))]), (.tup [(.c (.int 1)), (.c (.int 1)), (.c (.int 1)), (.c (.str "silent"))]), (.tup [(.c (.int 1)), (.c (.int 2)), (.c (.int 4)), (.c (.str "silent"))]), (.tup [(.c (.int 1)), (.c (.int 2)), (.c (.int 1)), (.c (.str "loud"))])])] [.ife (.not (.val (.lam 1 "_law_parts_right" "_law_refused" [(.v 1)] (.make "Mail" [(.ix (.v 1) (.c (.int 0))), (.ix (.v 1) (.c (.int 1))), (.ix (.v 1) (.c (.int 2))), (.ix (.v 1) (.c (.int 3)))])))) [.ret (.c (.bl false))] []], .loop (.n 1) .seq [(.lst false [(.tup [(.c (.int 0)), (.c (.int 2)), (.c (.str "own"))]), (.tup [(.c (.int 4)), (.c (.int 2)), (.c (.str "own"))]), (.tup [(.c (.int 1)), (.c (.int 1)), (.c (.str "own"))]), (.tup [(.c (.int 1)), (.c (.int 15)), (.c (.str "own"))]), (.tup [(.c (.int 1)), (.c (.int 2)), (.c (.str "each"))]), (.tup [(.c (.int 1)), (.c .non), (.c (.str "own"))])])] [.ife (.not (.val (.lam 1 "_law_parts_right" "_law_refused" [(.v 1)] (.make "Counter" [(.ix (.v 1) (.c (.int 0))), (.ix (.v 1) (.c (.int 1))), (.ix (.v 1) (.c (.int 2)))])))) [.ret (.c (.bl false))] []], .set (.t [(.n 2), (.n 3)]) (.tup [(.tup [(.c (.int 2)), (.c (.int 1)), (.c (.int 2)), (.c (.str "own")), (.c (.str "own")), (.c (.int 1)), (.c (.int 1))]), (.tup [(.c (.int 2)), (.c (.int 1)), (.c (.int 2)), (.c (.int 1)), (.c (.str "own")), (.c (.int 1))])]), .set (.n 4) (.lst false [(.c .non), (.tup []), (.bi .list (.v 2)), (.sl (.v 2) none (some (.neg (.c (.int 1))))), (.bin .add (.tup [(.c (.int 3))]) (.sl (.v 2) (some (.c (.int 1))) none)), (.bin .add (.tup [(.c (.int 0))]) (.sl (.v 2) (some (.c (.int 1))) none)), (.bin .add (.tup [(.c (.int 2)), (.c (.int 5))]) (.sl (.v 2) (some (.c (.int 2))) none)), (.bin .add (.tup [(.c (.int 2)), (.c (.int 1)), (.c (.int 1))]) (.sl (.v 2) (some (.c (.int 3))) none))]), .set (.n 4) (.bin .add (.v 4) (.lst false [(.bin .add (.tup [(.c (.int 2)), (.c (.int 3)), (.c (.int 3))]) (.sl (.v 2) (some (.c (.int 3))) none)), (.bin .add (.tup [(.c (.int 2)), (.c (.int 1)), (.c (.int 13))]) (.sl (.v 2) (some (.c (.int 3))) none)), (.bin .add (.sl (.v 2) none (some (.c (.int 3)))) (.tup [(.c (.str "shared")), (.c (.str "own")), (.c (.int 1)), (.c (.int 1))]))])), .loop (.n 1) .seq [(.bin .add (.v 4) (.lst false [(.bin .add (.sl (.v 2) none (some (.c (.int 5)))) (.tup [(.c (.int 0)), (.c (.int 1))])), (.bin .add (.sl (.v 2) none (some (.c (.int 5)))) (.tup [(.c (.int 9)), (.c (.int 1))])), (.bin .add (.sl (.v 2) none (some (.c (.int 6)))) (.tup [(.c (.int 0))])), (.bin .add (.sl (.v 2) none (some (.c (.int 6)))) (.tup [(.c (.int 5))])), (.bin .add (.sl (.v 2) none (some (.c (.int 6)))) (.tup [(.c (.bl true))]))]))] [.ife (.not (.val (.lam 1 "_law_parts_right" "_law_refused" [(.tup [(.v 1)])] (.make "Names" [(.v 1)])))) [.ret (.c (.bl false))] [], .ife (.not (.val (.lam 1 "_law_parts_right" "_law_refused" [(.tup [(.v 1), (.c (.str "least")), (.c (.str "filled")), (.c (.str "zeroed"))])] (.make "Blocks" [(.v 1), (.c (.str "least")), (.c (.str "filled")), (.c (.str "zeroed"))])))) [.ret (.c (.bl false))] []], .loop (.n 1) .seq [(.lst false [(.tup [(.c (.str "none")), (.c (.str "filled")), (.c (.str "zeroed"))]), (.tup [(.c (.str "least")), (.c (.str "none")), (.c (.str "zeroed"))]), (.tup [(.c (.str "least")), (.c (.str "filled")), (.c .non)])])] [.ife (.not (.val (.lam 1 "_law_parts_right" "_law_refused" [(.bin .add (.tup [(.v 2)]) (.v 1))] (.make "Blocks" [(.v 2), (.ix (.v 1) (.c (.int 0))), (.ix (.v 1) (.c (.int 1))), (.ix (.v 1) (.c (.int 2)))])))) [.ret (.c (.bl false))] []], .set (.n 4) (.lst false [(.c .non), (.bi .list (.v 3)), (.sl (.v 3) none (some (.neg (.c (.int 1))))), (.bin .add (.tup [(.c (.int 3))]) (.sl (.v 3) (some (.c (.int 1))) none)), (.bin .add (.sl (.v 3) none (some (.c (.int 3)))) (.tup [(.c (.int 4)), (.c (.str "own")), (.c (.int 1))])), (.bin .add (.sl (.v 3) none (some (.c (.int 4)))) (.tup [(.c (.str "any")), (.c (.int 1))]))]), .loop (.n 1) .seq [(.bin .add (.v 4) (.lst false [(.bin .add (.sl (.v 3) none (some (.c (.int 5)))) (.tup [(.c (.int 5))]))]))] [.ife (.not (.val (.lam 1 "_law_parts_right" "_law_refused" [(.tup [(.v 1)])] (.make "Logged" [(.v 1)])))) [.ret (.c (.bl false))] [], .ife (.not (.val (.lam 1 "_law_parts_right" "_law_refused" [(.tup [(.v 1), (.c (.str "any"))])] (.make "Torn" [(.v 1), (.c (.str "any"))])))) [.ret (.c (.bl false))] []], .ret (.lam 1 "_law_parts_right" "_law_refused" [(.tup [(.v 3), (.c (.str "none"))])] (.make "Torn" [(.v 3), (.c (.str "none"))]))]
def e_l_parts_right : FnE := ⟨["pen"], ["pen", "odd", "kind", "log", "odds"], 60, i_l_parts_right⟩
def x_l_parts_right : DX := ⟨d_l_parts_right, e_l_parts_right, c_l_parts_right, 60⟩
theorem o_l_parts_right : DXOk tab x_l_parts_right := ⟨(fun _ => ⟨by decide +kernel, rfl, rfl⟩), rfl, rfl, rfl, rfl, by kernel_rfl, scopeB_ok (by kernel_rfl), rfl, rfl, fun _ _ _ _ _ _ us hl => match us, hl with | [_], _ => rfl⟩
abbrev s_l_kinds : Stmt := top 83
def d_l_kinds : He.DefD := ⟨("_law_kinds", none), "_law_kinds", "_law_kinds", dArgs s_l_kinds, dBody s_l_kinds, dScope s_l_kinds, [], []⟩
def c_l_kinds : Ctx := ⟨["many", "words", "told"], dScope s_l_kinds, dScope s_l_kinds, true, tab, ["many"], ["many"], [], [], [], 1000000, [], ""⟩
def i_l_kinds : List IS := [.set (.n 0) (.lst true [(.tup [(.c (.int 0)), (.lst false [(.c (.str "2")), (.c (.str "slots")), (.c (.str "0,1,2"))]), (.tup [(.c (.int 2)), (.tup [(.c (.int 0)), (.c (.int 1)), (.c (.int 2))]), (.c (.str "slots")), (.tup [])]), (.lst false [(.c (.str "0")), (.c (.str "slot")), (.c (.str "0,3"))])])]), .ex (.bm .append (.v 0) [(.tup [(.c (.int 0)), (.lst false [(.c (.str "2")), (.c (.str "upward")), (.c (.str "0,0,1")), (.c (.str "1/-"))]), (.tup [(.c (.int 2)), (.tup [(.c (.int 0)), (.c (.int 0)), (.c (.int 1))]), (.c (.str "upward")), (.tup [(.tup [(.c (.int 1))]), (.tup [])])]), (.lst false [(.c (.str "5")), (.c (.str "up")), (.c (.str "")), (.c (.str "1"))])])]), .set (.n 1) (.lst false [(.c (.str "2")), (.c (.str "1")), (.c (.str "3")), (.c (.str "own")), (.c (.str "shared")), (.c (.str "2")), (.c (.str "1")), (.c (.str "last")), (.c (.str "filled")), (.c (.str "left"))]), .set (.n 2) (.tup [(.tup [(.c (.int 2)), (.c (.int 1)), (.c (.int 3)), (.c (.str "own")), (.c (.str "shared")), (.c (.int 2)), (.c (.int 1))]), (.c (.str "last")), (.c (.str "filled")), (.c (.str "left"))]), .ex (.bm .append (.v 0) [(.tup [(.c (.int 1)), (.v 1), (.v 2), (.lst false [(.c (.str "3")), (.c (.str "0")), (.c (.str "14")), (.c (.str "none")), (.c (.str "all")), (.c (.str "9")), (.c (.str "5")), (.c (.str "first")), (.c (.str "never")), (.c (.str "old"))])])]), .ex (.bm .append (.v 0) [(.tup [(.c (.int 2)), (.lst false [(.c (.str "1")), (.c (.str "3")), (.c (.str "2")), (.c (.str "answers"))]), (.tup [(.c (.int 1)), (.c (.int 3)), (.c (.int 2)), (.c (.str "answers"))]), (.lst false [(.c (.str "00")), (.c (.str "15")), (.c (.str "4")), (.c (.str "talks"))])])]), .ex (.bm .append (.v 0) [(.tup [(.c (.int 3)), (.lst false [(.c (.str "2")), (.c (.str "5")), (.c (.str "shared"))]), (.tup [(.c (.int 2)), (.c (.int 5)), (.c (.str "shared"))]), (.lst false [(.c (.str "4")), (.c (.str "1")), (.c (.str "all"))])])]), .ex (.bm .append (.v 0) [(.tup [(.c (.int 4)), (.lst false [(.c (.str "2")), (.c (.str "3")), (.c (.str "clear"))]), (.tup [(.c (.int 2)), (.c (.int 3)), (.c (.str "clear"))]), (.lst false [(.c (.str "x")), (.c (.str "+3")), (.c (.str "own"))])])]), .set (.n 1) (.lst false [(.c (.str "1")), (.c (.str "2")), (.c (.str "2")), (.c (.str "3")), (.c (.str "shared")), (.c (.str "2")), (.c (.str "any"))]), .ex (.bm .append (.v 0) [(.tup [(.c (.int 5)), (.v 1), (.tup [(.tup [(.c (.int 1)), (.c (.int 2)), (.c (.int 2)), (.c (.int 3)), (.c (.str "shared")), (.c (.int 2))]), (.c (.str "any"))]), (.lst false [(.c (.str "-1")), (.c (.str "5")), (.c (.str "13")), (.c (.str "4")), (.c (.str "some")), (.c (.str "0")), (.c (.str "half"))])])]), .frz 0, .ret (.v 0)]
def e_l_kinds : FnE := ⟨[], ["many", "words", "told"], 60, i_l_kinds⟩
def x_l_kinds : DX := ⟨d_l_kinds, e_l_kinds, c_l_kinds, 60⟩
theorem o_l_kinds : DXOk tab x_l_kinds := ⟨(fun h => by cases h), rfl, rfl, rfl, rfl, by kernel_rfl, scopeB_ok (by kernel_rfl), rfl, rfl, fun _ _ _ _ _ _ us hl => match us, hl with | [], _ => rfl⟩
abbrev s_law : Stmt := top 84
def d_law : He.DefD := ⟨("law", none), "law", "law", dArgs s_law, dBody s_law, dScope s_law, [], []⟩
def c_law : Ctx := ⟨["script", "pen", "always", "way", "words", "told", "wrong", "k", "bent", "later", "boxes", "layer", "box", "files", "logs", "kinds", "word"], dScope s_law, dScope s_law, true, tab, [], [], [], [], [], 1000000, [], "law"⟩
def i_law : List IS := [.set (.n 1) (.call "_law_pen" [(.v 0)]), .set (.n 2) (.make "Always" []), .ife (.or (.cmp .ne (.tup [(.meth (.v 2) "shown" [(.tup [(.c (.int 0))])]), (.meth (.v 2) "step" [(.tup [(.c (.int 0))]), (.tup [])]), (.fld (.v 2) "cells")]) (.tup [(.tup [(.c (.int 1))]), (.tup [(.c (.int 0))]), (.tup [(.c (.int 1))])])) (.not (.val (.call "_law_parts_right" [(.v 1)])))) [.ret (.c (.bl false))] [], .loop (.t [(.n 3), (.n 4), (.n 5), (.n 6)]) .seq [(.call "_law_kinds" [])] [.ife (.cmp .ne (.bi .repr (.call "_law_told" [(.v 3), (.bi .tuple (.v 4)), (.tup [])])) (.bi .repr (.v 5))) [.ret (.c (.bl false))] [], .loop (.n 7) .rng [(.bi .len (.v 4))] [.set (.n 8) (.bi .tuple (.bin .add (.bin .add (.sl (.v 4) none (some (.v 7))) (.lst false [(.ix (.v 6) (.v 7))])) (.sl (.v 4) (some (.bin .add (.v 7) (.c (.int 1)))) none))), .ife (.cmp .ne (.lam 0 "law" "_law_place" [] (.call "_law_told" [(.v 3), (.v 8), (.tup [])])) (.tup [(.c (.int 0)), (.bin .add (.v 7) (.c (.int 1)))])) [.ret (.c (.bl false))] [], .ife (.cmp .ne (.lam 0 "law" "_law_place" [] (.call "_law_told" [(.v 3), (.bi .tuple (.sl (.v 4) none (some (.v 7)))), (.tup [(.c (.str "row"))])])) (.tup [(.c (.int 0)), (.bin .add (.v 7) (.c (.int 1)))])) [.ret (.c (.bl false))] [], .set (.n 9) (.bi .tuple (.bin .add (.bin .add (.sl (.v 4) none (some (.v 7))) (.lst false [(.ix (.v 6) (.v 7))])) (.bin .mul (.lst false [(.c (.str ""))]) (.bin .sub (.bi .len (.v 4)) (.v 7))))), .ife (.cmp .ne (.lam 0 "law" "_law_place" [] (.call "_law_told" [(.v 3), (.v 9), (.tup [])])) (.tup [(.c (.int 0)), (.bin .add (.v 7) (.c (.int 1)))])) [.ret (.c (.bl false))] []], .ife (.cmp .ne (.lam 0 "law" "_law_place" [] (.call "_law_told" [(.v 3), (.bi .tuple (.bin .add (.v 4) (.lst false [(.c (.str "more"))]))), (.tup [(.c (.str "row"))])])) (.tup [(.c (.int 0)), (.bin .add (.bi .len (.v 4)) (.c (.int 1)))])) [.ret (.c (.bl false))] [], .ife (.cmp .ne (.lam 0 "law" "_law_place" [] (.call "_law_told" [(.v 3), (.bi .tuple (.v 4)), (.tup [(.c (.str "row"))])])) (.tup [(.c (.int 1)), (.c (.int 1))])) [.ret (.c (.bl false))] [], .set (.n 10) (.comp false (.call "_law_box" [(.v 3), (.v 5), (.v 11)]) (.n 11) .seq [(.lst false [(.c (.str "meaning")), (.c (.str "code")), (.c (.str "pages")), (.c (.str "blocks")), (.c (.str "letters"))])] none [11]), .loop (.n 12) .seq [(.v 10)] [.ife (.or (.cmp .isnot (.call "is_box" [(.v 12)]) (.c (.bl true))) (.cmp .isnot (.call "same_ports" [(.v 12), (.ix (.v 10) (.c (.int 0)))]) (.c (.bl true)))) [.ret (.c (.bl false))] []]], .set (.n 5) (.tup [(.tup [(.c (.int 1)), (.c (.int 1)), (.c (.int 2)), (.c (.str "own")), (.c (.str "own")), (.c (.int 1)), (.c (.int 1))]), (.c (.str "round")), (.c (.str "filled")), (.c (.str "zeroed"))]), .set (.n 13) (.comp false (.call "files_box" [(.v 5), (.v 11)]) (.n 11) .seq [(.lst false [(.c (.str "pages")), (.c (.str "blocks"))])] none [11]), .ife (.or (.not (.val (.isi (.ix (.v 13) (.c (.int 0))) [.inr "Names"]))) (.or (.not (.val (.isi (.ix (.v 13) (.c (.int 1))) [.inr "Blocks"]))) (.cmp .ne (.fld (.ix (.v 13) (.c (.int 1))) "order") (.c (.str "round"))))) [.ret (.c (.bl false))] [], .set (.n 14) (.comp false (.call "log_box" [(.tup [(.tup [(.c (.int 1)), (.c (.int 1)), (.c (.int 2)), (.c (.int 1)), (.c (.str "own")), (.c (.int 1))]), (.c (.str "whole"))]), (.v 11)]) (.n 11) .seq [(.lst false [(.c (.str "code")), (.c (.str "letters"))])] none [11]), .ife (.or (.not (.val (.isi (.ix (.v 14) (.c (.int 0))) [.inr "Logged"]))) (.or (.not (.val (.isi (.ix (.v 14) (.c (.int 1))) [.inr "Torn"]))) (.cmp .ne (.fld (.ix (.v 14) (.c (.int 1))) "mend") (.c (.str "whole"))))) [.ret (.c (.bl false))] [], .set (.n 15) (.comp false (.fld (.call "bench_box" [(.tup [(.c (.int 2)), (.c (.int 2)), (.v 16)]), (.c (.str "meaning"))]) "kind") (.n 16) .seq [(.lst false [(.c (.str "clear")), (.c (.str "left"))])] none [16]), .set (.n 15) (.bin .add (.v 15) (.comp false (.fld (.call "bench_box" [(.tup [(.c (.int 2)), (.c (.int 2)), (.v 16)]), (.c (.str "code"))]) "kind") (.n 16) .seq [(.lst false [(.c (.str "clear")), (.c (.str "left"))])] none [16])), .ife (.cmp .ne (.lam 0 "law" "_law_place" [] (.call "files_told" [(.tup [(.c (.str "2")), (.c (.str "2")), (.c (.str "5")), (.c (.str "own"))]), (.tup [])])) (.tup [(.c (.int 0)), (.c (.int 3))])) [.ret (.c (.bl false))] [], .ife (.cmp .ne (.lam 0 "law" "_law_place" [] (.call "files_told" [(.tup [(.c (.str "2")), (.c (.str "1")), (.c (.str "2")), (.c (.str "shared")), (.c (.str "own"))]), (.tup [])])) (.tup [(.c (.int 0)), (.c (.int 5))])) [.ret (.c (.bl false))] [], .ret (.cmp .eq (.v 15) (.lst false [(.c (.str "own")), (.c (.str "own")), (.c (.str "saved")), (.c (.str "left"))]))]
def e_law : FnE := ⟨["script"], ["script", "pen", "always", "way", "words", "told", "wrong", "k", "bent", "later", "boxes", "layer", "box", "files", "logs", "kinds", "word"], 60, i_law⟩
def x_law : DX := ⟨d_law, e_law, c_law, 60⟩
theorem o_law : DXOk tab x_law := ⟨(fun _ => ⟨by decide +kernel, rfl, rfl⟩), rfl, rfl, rfl, rfl, by kernel_rfl, scopeB_ok (by kernel_rfl), rfl, rfl, fun _ _ _ _ _ _ us hl => match us, hl with | [_], _ => rfl⟩
abbrev s_Box_init : Stmt := sub 8 0
def d_Box_init : He.DefD := ⟨("Box", some "__init__"), "__init__", "Box.__init__", dArgs s_Box_init, dBody s_Box_init, dScope s_Box_init, [], []⟩
def c_Box_init : Ctx := ⟨["self", "starts", "ins", "outs", "cells"], dScope s_Box_init, dScope s_Box_init, true, tab, [], [], [], [], [], 1000000, [], ""⟩
def i_Box_init : List IS := [.setf (.v 0) "starts" (.v 1), .setf (.v 0) "ins" (.v 2), .setf (.v 0) "outs" (.v 3), .setf (.v 0) "cells" (.v 4)]
def e_Box_init : FnE := ⟨["self", "starts", "ins", "outs", "cells"], ["self", "starts", "ins", "outs", "cells"], 60, i_Box_init⟩
def x_Box_init : DX := ⟨d_Box_init, e_Box_init, c_Box_init, 60⟩
theorem o_Box_init : DXOk tab x_Box_init := ⟨(fun h => by cases h), rfl, rfl, rfl, rfl, by kernel_rfl, scopeB_ok (by kernel_rfl), rfl, rfl, fun _ _ _ _ _ _ us hl => match us, hl with | [_, _, _, _, _], _ => rfl⟩
abbrev s_Planner_init : Stmt := sub 19 0
def d_Planner_init : He.DefD := ⟨("Planner", some "__init__"), "__init__", "Planner.__init__", dArgs s_Planner_init, dBody s_Planner_init, dScope s_Planner_init, [], []⟩
def c_Planner_init : Ctx := ⟨["self", "many", "wheel", "option", "over", "ins", "cells"], dScope s_Planner_init, dScope s_Planner_init, true, tab, [], [], [], [], [], 1000000, [], ""⟩
def i_Planner_init : List IS := [.ife (.not (.val (.call "are_planner_parts" [(.v 1), (.v 2), (.v 3), (.v 4)]))) [.raise "BadBox" [(.tup [(.v 1), (.v 2), (.v 3), (.v 4)])]] [], .setf (.v 0) "many" (.v 1), .setf (.v 0) "wheel" (.v 2), .setf (.v 0) "option" (.v 3), .setf (.v 0) "over" (.v 4), .set (.n 5) (.ife (.cmp .eq (.v 3) (.c (.str "slots"))) (.tup []) (.bin .mul (.tup [(.c (.int 2))]) (.v 1))), .set (.n 6) (.ife (.cmp .eq (.v 3) (.c (.str "upward"))) (.tup [(.bi .len (.v 2)), (.bin .add (.v 1) (.c (.int 1)))]) (.tup [(.bi .len (.v 2))])), .ex (.cmeth "Box" "__init__" [(.v 0), (.tup []), (.v 5), (.bin .mul (.tup [(.c (.int 2))]) (.v 1)), (.v 6)])]
def e_Planner_init : FnE := ⟨["self", "many", "wheel", "option", "over"], ["self", "many", "wheel", "option", "over", "ins", "cells"], 60, i_Planner_init⟩
def x_Planner_init : DX := ⟨d_Planner_init, e_Planner_init, c_Planner_init, 60⟩
theorem o_Planner_init : DXOk tab x_Planner_init := ⟨(fun h => by cases h), rfl, rfl, rfl, rfl, by kernel_rfl, scopeB_ok (by kernel_rfl), rfl, rfl, fun _ _ _ _ _ _ us hl => match us, hl with | [_, _, _, _, _], _ => rfl⟩
abbrev s_Planner_begin : Stmt := sub 19 1
def d_Planner_begin : He.DefD := ⟨("Planner", some "begin"), "begin", "Planner.begin", dArgs s_Planner_begin, dBody s_Planner_begin, dScope s_Planner_begin, [], []⟩
def c_Planner_begin : Ctx := ⟨["self", "row"], dScope s_Planner_begin, dScope s_Planner_begin, true, tab, [], [], [], [], [], 1000000, [], ""⟩
def i_Planner_begin : List IS := [.ex (.call "_wall" [(.c (.int 0))])]
def e_Planner_begin : FnE := ⟨["self", "row"], ["self", "row"], 60, i_Planner_begin⟩
def x_Planner_begin : DX := ⟨d_Planner_begin, e_Planner_begin, c_Planner_begin, 60⟩
theorem o_Planner_begin : DXOk tab x_Planner_begin := ⟨(fun h => by cases h), rfl, rfl, rfl, rfl, by kernel_rfl, scopeB_ok (by kernel_rfl), rfl, rfl, fun _ _ _ _ _ _ us hl => match us, hl with | [_, _], _ => rfl⟩
abbrev s_Planner_goer : Stmt := sub 19 2
def d_Planner_goer : He.DefD := ⟨("Planner", some "goer"), "goer", "Planner.goer", dArgs s_Planner_goer, dBody s_Planner_goer, dScope s_Planner_goer, [], []⟩
def c_Planner_goer : Ctx := ⟨["self", "state"], dScope s_Planner_goer, dScope s_Planner_goer, true, tab, [], [], [], [], [], 1000000, [], ""⟩
def i_Planner_goer : List IS := [.ret (.ife (.cmp .eq (.fld (.v 0) "option") (.c (.str "upward"))) (.ix (.v 1) (.c (.int 1))) (.ix (.fld (.v 0) "wheel") (.ix (.v 1) (.c (.int 0)))))]
def e_Planner_goer : FnE := ⟨["self", "state"], ["self", "state"], 60, i_Planner_goer⟩
def x_Planner_goer : DX := ⟨d_Planner_goer, e_Planner_goer, c_Planner_goer, 60⟩
theorem o_Planner_goer : DXOk tab x_Planner_goer := ⟨(fun h => by cases h), rfl, rfl, rfl, rfl, by kernel_rfl, scopeB_ok (by kernel_rfl), rfl, rfl, fun _ _ _ _ _ _ us hl => match us, hl with | [_, _], _ => rfl⟩
abbrev s_Planner_shown : Stmt := sub 19 3
def d_Planner_shown : He.DefD := ⟨("Planner", some "shown"), "shown", "Planner.shown", dArgs s_Planner_shown, dBody s_Planner_shown, dScope s_Planner_shown, [], []⟩
def c_Planner_shown : Ctx := ⟨["self", "state", "goer", "i"], dScope s_Planner_shown, dScope s_Planner_shown, true, tab, [], [], [], [], [], 1000000, [], ""⟩
def i_Planner_shown : List IS := [.set (.n 2) (.meth (.v 0) "goer" [(.v 1)]), .ret (.bi .tuple (.comp false (.bi .int (.cmp .eq (.v 3) (.v 2))) (.n 3) .rng [(.fld (.v 0) "many")] none [3]))]
def e_Planner_shown : FnE := ⟨["self", "state"], ["self", "state", "goer", "i"], 60, i_Planner_shown⟩
def x_Planner_shown : DX := ⟨d_Planner_shown, e_Planner_shown, c_Planner_shown, 60⟩
theorem o_Planner_shown : DXOk tab x_Planner_shown := ⟨(fun h => by cases h), rfl, rfl, rfl, rfl, by kernel_rfl, scopeB_ok (by kernel_rfl), rfl, rfl, fun _ _ _ _ _ _ us hl => match us, hl with | [_, _], _ => rfl⟩
abbrev s_Planner_given : Stmt := sub 19 4
def d_Planner_given : He.DefD := ⟨("Planner", some "given"), "given", "Planner.given", dArgs s_Planner_given, dBody s_Planner_given, dScope s_Planner_given, [], []⟩
def c_Planner_given : Ctx := ⟨["self", "place", "row", "own", "fits", "j"], dScope s_Planner_given, dScope s_Planner_given, true, tab, [], [], [], [], [], 1000000, [], ""⟩
def i_Planner_given : List IS := [.set (.n 3) (.ix (.fld (.v 0) "wheel") (.v 1)), .ife (.or (.cmp .eq (.v 3) (.fld (.v 0) "many")) (.or (.val (.call "is_first_place" [(.fld (.v 0) "wheel"), (.v 1)])) (.cmp .eq (.ix (.v 2) (.v 3)) (.c (.int 0))))) [.ret (.v 3)] [], .set (.n 4) (.comp false (.v 5) (.n 5) .seq [(.ix (.fld (.v 0) "over") (.v 3))] (some (.cmp .eq (.ix (.v 2) (.v 5)) (.c (.int 0)))) [5]), .ret (.ife (.val (.v 4)) (.ix (.v 4) (.c (.int 0))) (.fld (.v 0) "many"))]
def e_Planner_given : FnE := ⟨["self", "place", "row"], ["self", "place", "row", "own", "fits", "j"], 60, i_Planner_given⟩
def x_Planner_given : DX := ⟨d_Planner_given, e_Planner_given, c_Planner_given, 60⟩
theorem o_Planner_given : DXOk tab x_Planner_given := ⟨(fun h => by cases h), rfl, rfl, rfl, rfl, by kernel_rfl, scopeB_ok (by kernel_rfl), rfl, rfl, fun _ _ _ _ _ _ us hl => match us, hl with | [_, _, _], _ => rfl⟩
abbrev s_Planner_step : Stmt := sub 19 5
def d_Planner_step : He.DefD := ⟨("Planner", some "step"), "step", "Planner.step", dArgs s_Planner_step, dBody s_Planner_step, dScope s_Planner_step, [], []⟩
def c_Planner_step : Ctx := ⟨["self", "state", "row", "place", "wheel", "own", "behind"], dScope s_Planner_step, dScope s_Planner_step, true, tab, [], [], [], [], [], 1000000, [], ""⟩
def i_Planner_step : List IS := [.par 3 4 (.ix (.v 1) (.c (.int 0))) (.fld (.v 0) "wheel"), .par 5 6 (.ix (.v 4) (.v 3)) (.bin .mod (.bin .add (.v 3) (.c (.int 1))) (.bi .len (.v 4))), .ife (.and (.cmp .eq (.fld (.v 0) "option") (.c (.str "early"))) (.and (.cmp .lt (.v 5) (.fld (.v 0) "many")) (.cmp .eq (.ix (.v 2) (.v 5)) (.c (.int 1))))) [.set (.n 6) (.call "next_stretch" [(.v 4), (.v 3)])] [], .ret (.ife (.cmp .eq (.fld (.v 0) "option") (.c (.str "upward"))) (.tup [(.v 6), (.meth (.v 0) "given" [(.v 6), (.v 2)])]) (.tup [(.v 6)]))]
def e_Planner_step : FnE := ⟨["self", "state", "row"], ["self", "state", "row", "place", "wheel", "own", "behind"], 60, i_Planner_step⟩
def x_Planner_step : DX := ⟨d_Planner_step, e_Planner_step, c_Planner_step, 60⟩
theorem o_Planner_step : DXOk tab x_Planner_step := ⟨(fun h => by cases h), rfl, rfl, rfl, rfl, by kernel_rfl, scopeB_ok (by kernel_rfl), rfl, rfl, fun _ _ _ _ _ _ us hl => match us, hl with | [_, _, _], _ => rfl⟩
abbrev s_Always_init : Stmt := sub 20 0
def d_Always_init : He.DefD := ⟨("Always", some "__init__"), "__init__", "Always.__init__", dArgs s_Always_init, dBody s_Always_init, dScope s_Always_init, [], []⟩
def c_Always_init : Ctx := ⟨["self"], dScope s_Always_init, dScope s_Always_init, true, tab, [], [], [], [], [], 1000000, [], ""⟩
def i_Always_init : List IS := [.ex (.cmeth "Box" "__init__" [(.v 0), (.tup []), (.tup []), (.tup [(.c (.int 2))]), (.tup [(.c (.int 1))])])]
def e_Always_init : FnE := ⟨["self"], ["self"], 60, i_Always_init⟩
def x_Always_init : DX := ⟨d_Always_init, e_Always_init, c_Always_init, 60⟩
theorem o_Always_init : DXOk tab x_Always_init := ⟨(fun h => by cases h), rfl, rfl, rfl, rfl, by kernel_rfl, scopeB_ok (by kernel_rfl), rfl, rfl, fun _ _ _ _ _ _ us hl => match us, hl with | [_], _ => rfl⟩
abbrev s_Always_begin : Stmt := sub 20 1
def d_Always_begin : He.DefD := ⟨("Always", some "begin"), "begin", "Always.begin", dArgs s_Always_begin, dBody s_Always_begin, dScope s_Always_begin, [], []⟩
def c_Always_begin : Ctx := ⟨["self", "row"], dScope s_Always_begin, dScope s_Always_begin, true, tab, [], [], [], [], [], 1000000, [], ""⟩
def i_Always_begin : List IS := [.ex (.call "_wall" [(.c (.int 1))])]
def e_Always_begin : FnE := ⟨["self", "row"], ["self", "row"], 60, i_Always_begin⟩
def x_Always_begin : DX := ⟨d_Always_begin, e_Always_begin, c_Always_begin, 60⟩
theorem o_Always_begin : DXOk tab x_Always_begin := ⟨(fun h => by cases h), rfl, rfl, rfl, rfl, by kernel_rfl, scopeB_ok (by kernel_rfl), rfl, rfl, fun _ _ _ _ _ _ us hl => match us, hl with | [_, _], _ => rfl⟩
abbrev s_Always_shown : Stmt := sub 20 2
def d_Always_shown : He.DefD := ⟨("Always", some "shown"), "shown", "Always.shown", dArgs s_Always_shown, dBody s_Always_shown, dScope s_Always_shown, [], []⟩
def c_Always_shown : Ctx := ⟨["self", "state"], dScope s_Always_shown, dScope s_Always_shown, true, tab, [], [], [], [], [], 1000000, [], ""⟩
def i_Always_shown : List IS := [.ret (.tup [(.c (.int 1))])]
def e_Always_shown : FnE := ⟨["self", "state"], ["self", "state"], 60, i_Always_shown⟩
def x_Always_shown : DX := ⟨d_Always_shown, e_Always_shown, c_Always_shown, 60⟩
theorem o_Always_shown : DXOk tab x_Always_shown := ⟨(fun h => by cases h), rfl, rfl, rfl, rfl, by kernel_rfl, scopeB_ok (by kernel_rfl), rfl, rfl, fun _ _ _ _ _ _ us hl => match us, hl with | [_, _], _ => rfl⟩
abbrev s_Always_step : Stmt := sub 20 3
def d_Always_step : He.DefD := ⟨("Always", some "step"), "step", "Always.step", dArgs s_Always_step, dBody s_Always_step, dScope s_Always_step, [], []⟩
def c_Always_step : Ctx := ⟨["self", "state", "row"], dScope s_Always_step, dScope s_Always_step, true, tab, [], [], [], [], [], 1000000, [], ""⟩
def i_Always_step : List IS := [.ret (.v 1)]
def e_Always_step : FnE := ⟨["self", "state", "row"], ["self", "state", "row"], 60, i_Always_step⟩
def x_Always_step : DX := ⟨d_Always_step, e_Always_step, c_Always_step, 60⟩
theorem o_Always_step : DXOk tab x_Always_step := ⟨(fun h => by cases h), rfl, rfl, rfl, rfl, by kernel_rfl, scopeB_ok (by kernel_rfl), rfl, rfl, fun _ _ _ _ _ _ us hl => match us, hl with | [_, _, _], _ => rfl⟩
abbrev s_Bench_init : Stmt := sub 22 0
def d_Bench_init : He.DefD := ⟨("Bench", some "__init__"), "__init__", "Bench.__init__", dArgs s_Bench_init, dBody s_Bench_init, dScope s_Bench_init, [], []⟩
def c_Bench_init : Ctx := ⟨["self", "many", "size", "kind", "registers", "ports"], dScope s_Bench_init, dScope s_Bench_init, true, tab, [], [], [], [], [], 1000000, [], ""⟩
def i_Bench_init : List IS := [.ife (.or (.not (.val (.call "is_between" [(.v 1), (.c (.int 1)), (.c (.int 2))]))) (.or (.not (.val (.call "is_between" [(.v 2), (.c (.int 2)), (.c (.int 14))]))) (.cmp .notin (.v 3) (.tup [(.c (.str "own")), (.c (.str "saved")), (.c (.str "left"))])))) [.raise "BadBox" [(.tup [(.v 1), (.v 2), (.v 3)])]] [], .setf (.v 0) "many" (.v 1), .setf (.v 0) "size" (.v 2), .setf (.v 0) "kind" (.v 3), .set (.n 4) (.ix (.dicd ["own", "saved", "left"] [(.bin .mul (.tup [(.v 2)]) (.v 1)), (.bin .add (.tup [(.v 2), (.v 1)]) (.bin .mul (.tup [(.v 2)]) (.v 1))), (.tup [(.v 2)])]) (.v 3)), .set (.n 5) (.bin .mul (.tup [(.bin .add (.v 2) (.c (.int 2)))]) (.v 1)), .ex (.cmeth "Box" "__init__" [(.v 0), (.tup []), (.v 5), (.v 5), (.bin .add (.v 4) (.v 5))])]
def e_Bench_init : FnE := ⟨["self", "many", "size", "kind"], ["self", "many", "size", "kind", "registers", "ports"], 60, i_Bench_init⟩
def x_Bench_init : DX := ⟨d_Bench_init, e_Bench_init, c_Bench_init, 60⟩
theorem o_Bench_init : DXOk tab x_Bench_init := ⟨(fun h => by cases h), rfl, rfl, rfl, rfl, by kernel_rfl, scopeB_ok (by kernel_rfl), rfl, rfl, fun _ _ _ _ _ _ us hl => match us, hl with | [_, _, _, _], _ => rfl⟩
abbrev s_Bench_begin : Stmt := sub 22 1
def d_Bench_begin : He.DefD := ⟨("Bench", some "begin"), "begin", "Bench.begin", dArgs s_Bench_begin, dBody s_Bench_begin, dScope s_Bench_begin, [], []⟩
def c_Bench_begin : Ctx := ⟨["self", "row"], dScope s_Bench_begin, dScope s_Bench_begin, true, tab, [], [], [], [], [], 1000000, [], ""⟩
def i_Bench_begin : List IS := [.ex (.call "_wall" [(.c (.int 2))])]
def e_Bench_begin : FnE := ⟨["self", "row"], ["self", "row"], 60, i_Bench_begin⟩
def x_Bench_begin : DX := ⟨d_Bench_begin, e_Bench_begin, c_Bench_begin, 60⟩
theorem o_Bench_begin : DXOk tab x_Bench_begin := ⟨(fun h => by cases h), rfl, rfl, rfl, rfl, by kernel_rfl, scopeB_ok (by kernel_rfl), rfl, rfl, fun _ _ _ _ _ _ us hl => match us, hl with | [_, _], _ => rfl⟩
abbrev s_Bench_shown : Stmt := sub 22 2
def d_Bench_shown : He.DefD := ⟨("Bench", some "shown"), "shown", "Bench.shown", dArgs s_Bench_shown, dBody s_Bench_shown, dScope s_Bench_shown, [], []⟩
def c_Bench_shown : Ctx := ⟨["self", "state"], dScope s_Bench_shown, dScope s_Bench_shown, true, tab, [], [], [], [], [], 1000000, [], ""⟩
def i_Bench_shown : List IS := [.ret (.sl (.v 1) (some (.bin .sub (.bi .len (.v 1)) (.fld (.v 0) "many"))) none)]
def e_Bench_shown : FnE := ⟨["self", "state"], ["self", "state"], 60, i_Bench_shown⟩
def x_Bench_shown : DX := ⟨d_Bench_shown, e_Bench_shown, c_Bench_shown, 60⟩
theorem o_Bench_shown : DXOk tab x_Bench_shown := ⟨(fun h => by cases h), rfl, rfl, rfl, rfl, by kernel_rfl, scopeB_ok (by kernel_rfl), rfl, rfl, fun _ _ _ _ _ _ us hl => match us, hl with | [_, _], _ => rfl⟩
abbrev s_Bench_turned : Stmt := sub 22 3
def d_Bench_turned : He.DefD := ⟨("Bench", some "turned"), "turned", "Bench.turned", dArgs s_Bench_turned, dBody s_Bench_turned, dScope s_Bench_turned, [], []⟩
def c_Bench_turned : Ctx := ⟨["self", "cells", "client"], dScope s_Bench_turned, dScope s_Bench_turned, true, tab, [], [], [], [], [], 1000000, [], ""⟩
def i_Bench_turned : List IS := [.ife (.and (.cmp .eq (.fld (.v 0) "kind") (.c (.str "saved"))) (.cmp .ne (.ix (.v 1) (.c (.int 1))) (.v 2))) [.setix (.v 1) (.bin .add (.c (.int 2)) (.ix (.v 1) (.c (.int 1)))) (.ix (.v 1) (.c (.int 0))), .setix (.v 1) (.c (.int 0)) (.ix (.v 1) (.bin .add (.c (.int 2)) (.v 2))), .setix (.v 1) (.c (.int 1)) (.v 2)] [], .ret (.ife (.cmp .eq (.fld (.v 0) "kind") (.c (.str "own"))) (.v 2) (.c (.int 0)))]
def e_Bench_turned : FnE := ⟨["self", "cells", "client"], ["self", "cells", "client"], 60, i_Bench_turned⟩
def x_Bench_turned : DX := ⟨d_Bench_turned, e_Bench_turned, c_Bench_turned, 60⟩
theorem o_Bench_turned : DXOk tab x_Bench_turned := ⟨(fun h => by cases h), rfl, rfl, rfl, rfl, by kernel_rfl, scopeB_ok (by kernel_rfl), rfl, rfl, fun _ _ _ _ _ _ us hl => match us, hl with | [_, _, _], _ => rfl⟩
abbrev s_Bench_step : Stmt := sub 22 4
def d_Bench_step : He.DefD := ⟨("Bench", some "step"), "step", "Bench.step", dArgs s_Bench_step, dBody s_Bench_step, dScope s_Bench_step, [], []⟩
def c_Bench_step : Ctx := ⟨["self", "state", "row", "cells", "answers", "client", "ask", "answer", "place"], dScope s_Bench_step, dScope s_Bench_step, true, tab, [], [], [], [], [], 1000000, [], ""⟩
def i_Bench_step : List IS := [.par 3 4 (.bi .list (.sl (.v 1) none (some (.bin .sub (.bi .len (.v 1)) (.fld (.v 0) "many"))))) (.lst false []), .loop (.t [(.n 5), (.n 6)]) .enum [(.v 2)] [.set (.n 7) (.c (.int 0)), .ife (.val (.v 6)) [.par 8 7 (.meth (.v 0) "turned" [(.v 3), (.v 5)]) (.c (.int 2)), .ife (.cmp .eq (.v 6) (.c (.int 1))) [.set (.n 7) (.bin .add (.c (.int 2)) (.ix (.v 3) (.v 8)))] [.setix (.v 3) (.v 8) (.bin .sub (.v 6) (.c (.int 2)))]] [], .ex (.bm .append (.v 4) [(.v 7)])], .ret (.bi .tuple (.bin .add (.v 3) (.v 4)))]
def e_Bench_step : FnE := ⟨["self", "state", "row"], ["self", "state", "row", "cells", "answers", "client", "ask", "answer", "place"], 60, i_Bench_step⟩
def x_Bench_step : DX := ⟨d_Bench_step, e_Bench_step, c_Bench_step, 60⟩
theorem o_Bench_step : DXOk tab x_Bench_step := ⟨(fun h => by cases h), rfl, rfl, rfl, rfl, by kernel_rfl, scopeB_ok (by kernel_rfl), rfl, rfl, fun _ _ _ _ _ _ us hl => match us, hl with | [_, _, _], _ => rfl⟩
abbrev s_Names_init : Stmt := sub 34 0
def d_Names_init : He.DefD := ⟨("Names", some "__init__"), "__init__", "Names.__init__", dArgs s_Names_init, dBody s_Names_init, dScope s_Names_init, [], []⟩
def c_Names_init : Ctx := ⟨["self", "kind", "answers", "cells"], dScope s_Names_init, dScope s_Names_init, true, tab, [], [], [], [], [], 1000000, [], ""⟩
def i_Names_init : List IS := [.ife (.not (.val (.call "is_files_kind" [(.v 1)]))) [.raise "BadBox" [(.tup [(.v 1)])]] [], .setf (.v 0) "kind" (.v 1), .setf (.v 0) "files" (.call "file_cells" [(.v 1)]), .set (.n 2) (.bin .mul (.tup [(.bin .add (.ix (.v 1) (.c (.int 2))) (.c (.int 2)))]) (.ix (.v 1) (.c (.int 0)))), .set (.n 3) (.bin .add (.bin .add (.bin .mul (.tup [(.bin .add (.ix (.v 1) (.c (.int 2))) (.c (.int 1)))]) (.fld (.v 0) "files")) (.call "wait_cells" [(.v 1)])) (.v 2)), .ex (.cmeth "Box" "__init__" [(.v 0), (.tup []), (.bin .mul (.tup [(.call "ask_size" [(.v 1)])]) (.ix (.v 1) (.c (.int 0)))), (.v 2), (.v 3)])]
def e_Names_init : FnE := ⟨["self", "kind"], ["self", "kind", "answers", "cells"], 60, i_Names_init⟩
def x_Names_init : DX := ⟨d_Names_init, e_Names_init, c_Names_init, 60⟩
theorem o_Names_init : DXOk tab x_Names_init := ⟨(fun h => by cases h), rfl, rfl, rfl, rfl, by kernel_rfl, scopeB_ok (by kernel_rfl), rfl, rfl, fun _ _ _ _ _ _ us hl => match us, hl with | [_, _], _ => rfl⟩
abbrev s_Names_begin : Stmt := sub 34 1
def d_Names_begin : He.DefD := ⟨("Names", some "begin"), "begin", "Names.begin", dArgs s_Names_begin, dBody s_Names_begin, dScope s_Names_begin, [], []⟩
def c_Names_begin : Ctx := ⟨["self", "row"], dScope s_Names_begin, dScope s_Names_begin, true, tab, [], [], [], [], [], 1000000, [], ""⟩
def i_Names_begin : List IS := [.ex (.call "_wall" [(.c (.int 3))])]
def e_Names_begin : FnE := ⟨["self", "row"], ["self", "row"], 60, i_Names_begin⟩
def x_Names_begin : DX := ⟨d_Names_begin, e_Names_begin, c_Names_begin, 60⟩
theorem o_Names_begin : DXOk tab x_Names_begin := ⟨(fun h => by cases h), rfl, rfl, rfl, rfl, by kernel_rfl, scopeB_ok (by kernel_rfl), rfl, rfl, fun _ _ _ _ _ _ us hl => match us, hl with | [_, _], _ => rfl⟩
abbrev s_Names_shown : Stmt := sub 34 2
def d_Names_shown : He.DefD := ⟨("Names", some "shown"), "shown", "Names.shown", dArgs s_Names_shown, dBody s_Names_shown, dScope s_Names_shown, [], []⟩
def c_Names_shown : Ctx := ⟨["self", "state"], dScope s_Names_shown, dScope s_Names_shown, true, tab, [], [], [], [], [], 1000000, [], ""⟩
def i_Names_shown : List IS := [.ret (.sl (.v 1) (some (.bin .sub (.bi .len (.v 1)) (.ix (.fld (.v 0) "kind") (.c (.int 0))))) none)]
def e_Names_shown : FnE := ⟨["self", "state"], ["self", "state"], 60, i_Names_shown⟩
def x_Names_shown : DX := ⟨d_Names_shown, e_Names_shown, c_Names_shown, 60⟩
theorem o_Names_shown : DXOk tab x_Names_shown := ⟨(fun h => by cases h), rfl, rfl, rfl, rfl, by kernel_rfl, scopeB_ok (by kernel_rfl), rfl, rfl, fun _ _ _ _ _ _ us hl => match us, hl with | [_, _], _ => rfl⟩
abbrev s_Names_done : Stmt := sub 34 3
def d_Names_done : He.DefD := ⟨("Names", some "done"), "done", "Names.done", dArgs s_Names_done, dBody s_Names_done, dScope s_Names_done, [], []⟩
def c_Names_done : Ctx := ⟨["self", "files", "client", "ask", "name", "deed", "place", "there"], dScope s_Names_done, dScope s_Names_done, true, tab, [], [], [], [], [], 1000000, [], ""⟩
def i_Names_done : List IS := [.set (.t [(.n 4), (.n 5)]) (.call "ask_apart" [(.fld (.v 0) "kind"), (.v 3)]), .set (.n 6) (.call "file_place" [(.fld (.v 0) "kind"), (.v 2), (.v 4)]), .set (.n 7) (.cmp .gt (.ix (.v 1) (.v 6)) (.c (.int 0))), .ife (.cmp .eq (.v 5) (.c (.int 1))) [.ife (.or (.val (.v 7)) (.not (.val (.call "is_room_left" [(.fld (.v 0) "kind"), (.v 1), (.v 2)])))) [.ret (.c (.int 1))] [], .setix (.v 1) (.v 6) (.c (.int 1)), .ret (.c (.int 2))] [], .ife (.not (.val (.v 7))) [.ret (.c (.int 1))] [], .ife (.cmp .eq (.v 5) (.c (.int 0))) [.ret (.bin .add (.c (.int 1)) (.ix (.v 1) (.v 6)))] [], .setix (.v 1) (.v 6) (.ife (.cmp .eq (.v 5) (.c (.int 2))) (.c (.int 0)) (.bin .sub (.v 5) (.c (.int 2)))), .ret (.c (.int 2))]
def e_Names_done : FnE := ⟨["self", "files", "client", "ask"], ["self", "files", "client", "ask", "name", "deed", "place", "there"], 60, i_Names_done⟩
def x_Names_done : DX := ⟨d_Names_done, e_Names_done, c_Names_done, 60⟩
theorem o_Names_done : DXOk tab x_Names_done := ⟨(fun h => by cases h), rfl, rfl, rfl, rfl, by kernel_rfl, scopeB_ok (by kernel_rfl), rfl, rfl, fun _ _ _ _ _ _ us hl => match us, hl with | [_, _, _, _], _ => rfl⟩
abbrev s_Names_step : Stmt := sub 34 4
def d_Names_step : He.DefD := ⟨("Names", some "step"), "step", "Names.step", dArgs s_Names_step, dBody s_Names_step, dScope s_Names_step, [], []⟩
def c_Names_step : Ctx := ⟨["self", "state", "row", "many", "files", "waits", "answers", "client", "ask", "now"], dScope s_Names_step, dScope s_Names_step, true, tab, [], [], [], [], [], 1000000, [], ""⟩
def i_Names_step : List IS := [.set (.n 3) (.ix (.fld (.v 0) "kind") (.c (.int 0))), .par 4 5 (.bi .list (.sl (.v 1) none (some (.fld (.v 0) "files")))) (.bi .list (.sl (.v 1) (some (.fld (.v 0) "files")) (some (.bin .sub (.bi .len (.v 1)) (.v 3))))), .set (.n 6) (.lst false []), .loop (.t [(.n 7), (.n 8)]) .enum [(.v 2)] [.set (.n 9) (.ife (.not (.val (.v 5))) (.v 8) (.call "waiting" [(.v 5), (.v 7), (.v 8), (.ix (.fld (.v 0) "kind") (.c (.int 6)))])), .ex (.bm .append (.v 6) [(.ife (.val (.v 9)) (.meth (.v 0) "done" [(.v 4), (.v 7), (.v 9)]) (.c (.int 0)))])], .ret (.bi .tuple (.bin .add (.bin .add (.v 4) (.v 5)) (.v 6)))]
def e_Names_step : FnE := ⟨["self", "state", "row"], ["self", "state", "row", "many", "files", "waits", "answers", "client", "ask", "now"], 60, i_Names_step⟩
def x_Names_step : DX := ⟨d_Names_step, e_Names_step, c_Names_step, 60⟩
theorem o_Names_step : DXOk tab x_Names_step := ⟨(fun h => by cases h), rfl, rfl, rfl, rfl, by kernel_rfl, scopeB_ok (by kernel_rfl), rfl, rfl, fun _ _ _ _ _ _ us hl => match us, hl with | [_, _, _], _ => rfl⟩
abbrev s_Blocks_init : Stmt := sub 38 0
def d_Blocks_init : He.DefD := ⟨("Blocks", some "__init__"), "__init__", "Blocks.__init__", dArgs s_Blocks_init, dBody s_Blocks_init, dScope s_Blocks_init, [], []⟩
def c_Blocks_init : Ctx := ⟨["self", "kind", "order", "times", "fresh", "parts", "many", "blocks", "rows", "waits", "answers", "cells"], dScope s_Blocks_init, dScope s_Blocks_init, true, tab, [], [], [], [], [], 1000000, [], ""⟩
def i_Blocks_init : List IS := [.set (.n 5) (.tup [(.v 1), (.v 2), (.v 3), (.v 4)]), .ife (.or (.not (.val (.call "is_files_kind" [(.v 1)]))) (.cmp .notin (.v 2) (.tup [(.c (.str "least")), (.c (.str "last")), (.c (.str "round"))]))) [.raise "BadBox" [(.v 5)]] [], .ife (.or (.cmp .notin (.v 3) (.tup [(.c (.str "filled")), (.c (.str "seek"))])) (.cmp .notin (.v 4) (.tup [(.c (.str "zeroed")), (.c (.str "left"))]))) [.raise "BadBox" [(.v 5)]] [], .setf (.v 0) "kind" (.v 1), .setf (.v 0) "order" (.v 2), .setf (.v 0) "times" (.v 3), .setf (.v 0) "fresh" (.v 4), .setf (.v 0) "files" (.call "file_cells" [(.v 1)]), .setf (.v 0) "rooms" (.call "room_count" [(.v 1)]), .setf (.v 0) "quota" (.ix (.v 1) (.c (.int 5))), .par 6 7 (.ix (.v 1) (.c (.int 0))) (.bin .mul (.fld (.v 0) "rooms") (.fld (.v 0) "quota")), .set (.n 8) (.ix (.dicd ["least", "last", "round"] [(.tup []), (.bin .mul (.tup [(.bin .add (.fld (.v 0) "quota") (.c (.int 1)))]) (.v 7)), (.bin .mul (.tup [(.fld (.v 0) "quota")]) (.fld (.v 0) "rooms"))]) (.v 2)), .set (.n 9) (.ife (.cmp .gt (.ix (.v 1) (.c (.int 6))) (.c (.int 1))) (.bin .mul (.tup [(.call "ask_size" [(.v 1)]), (.ix (.v 1) (.c (.int 6)))]) (.v 6)) (.tup [])), .set (.n 10) (.bin .mul (.tup [(.bin .add (.ix (.v 1) (.c (.int 2))) (.c (.int 2)))]) (.v 6)), .set (.n 11) (.bin .add (.bin .add (.bin .add (.bin .add (.bin .mul (.tup [(.bin .add (.fld (.v 0) "quota") (.c (.int 1)))]) (.fld (.v 0) "files")) (.bin .mul (.tup [(.ix (.v 1) (.c (.int 2)))]) (.v 7))) (.v 8)) (.v 9)) (.v 10)), .setf (.v 0) "ends" (.tup [(.fld (.v 0) "files"), (.bin .add (.fld (.v 0) "files") (.v 7)), (.bin .add (.bin .add (.fld (.v 0) "files") (.v 7)) (.bi .len (.v 8))), (.bin .sub (.bi .len (.v 11)) (.v 6))]), .ex (.cmeth "Box" "__init__" [(.v 0), (.tup []), (.bin .mul (.tup [(.call "ask_size" [(.v 1)])]) (.v 6)), (.v 10), (.v 11)])]
def e_Blocks_init : FnE := ⟨["self", "kind", "order", "times", "fresh"], ["self", "kind", "order", "times", "fresh", "parts", "many", "blocks", "rows", "waits", "answers", "cells"], 60, i_Blocks_init⟩
def x_Blocks_init : DX := ⟨d_Blocks_init, e_Blocks_init, c_Blocks_init, 60⟩
theorem o_Blocks_init : DXOk tab x_Blocks_init := ⟨(fun h => by cases h), rfl, rfl, rfl, rfl, by kernel_rfl, scopeB_ok (by kernel_rfl), rfl, rfl, fun _ _ _ _ _ _ us hl => match us, hl with | [_, _, _, _, _], _ => rfl⟩
abbrev s_Blocks_begin : Stmt := sub 38 1
def d_Blocks_begin : He.DefD := ⟨("Blocks", some "begin"), "begin", "Blocks.begin", dArgs s_Blocks_begin, dBody s_Blocks_begin, dScope s_Blocks_begin, [], []⟩
def c_Blocks_begin : Ctx := ⟨["self", "row"], dScope s_Blocks_begin, dScope s_Blocks_begin, true, tab, [], [], [], [], [], 1000000, [], ""⟩
def i_Blocks_begin : List IS := [.ex (.call "_wall" [(.c (.int 4))])]
def e_Blocks_begin : FnE := ⟨["self", "row"], ["self", "row"], 60, i_Blocks_begin⟩
def x_Blocks_begin : DX := ⟨d_Blocks_begin, e_Blocks_begin, c_Blocks_begin, 60⟩
theorem o_Blocks_begin : DXOk tab x_Blocks_begin := ⟨(fun h => by cases h), rfl, rfl, rfl, rfl, by kernel_rfl, scopeB_ok (by kernel_rfl), rfl, rfl, fun _ _ _ _ _ _ us hl => match us, hl with | [_, _], _ => rfl⟩
abbrev s_Blocks_shown : Stmt := sub 38 2
def d_Blocks_shown : He.DefD := ⟨("Blocks", some "shown"), "shown", "Blocks.shown", dArgs s_Blocks_shown, dBody s_Blocks_shown, dScope s_Blocks_shown, [], []⟩
def c_Blocks_shown : Ctx := ⟨["self", "state"], dScope s_Blocks_shown, dScope s_Blocks_shown, true, tab, [], [], [], [], [], 1000000, [], ""⟩
def i_Blocks_shown : List IS := [.ret (.sl (.v 1) (some (.ix (.fld (.v 0) "ends") (.c (.int 3)))) none)]
def e_Blocks_shown : FnE := ⟨["self", "state"], ["self", "state"], 60, i_Blocks_shown⟩
def x_Blocks_shown : DX := ⟨d_Blocks_shown, e_Blocks_shown, c_Blocks_shown, 60⟩
theorem o_Blocks_shown : DXOk tab x_Blocks_shown := ⟨(fun h => by cases h), rfl, rfl, rfl, rfl, by kernel_rfl, scopeB_ok (by kernel_rfl), rfl, rfl, fun _ _ _ _ _ _ us hl => match us, hl with | [_, _], _ => rfl⟩
abbrev s_Blocks_free_block : Stmt := sub 38 3
def d_Blocks_free_block : He.DefD := ⟨("Blocks", some "free_block"), "free_block", "Blocks.free_block", dArgs s_Blocks_free_block, dBody s_Blocks_free_block, dScope s_Blocks_free_block, [], []⟩
def c_Blocks_free_block : Ctx := ⟨["self", "parts", "room", "table", "rows", "quota", "taken", "place", "free", "block", "item", "behind"], dScope s_Blocks_free_block, dScope s_Blocks_free_block, true, tab, [], [], [], [], [], 1000000, [], ""⟩
def i_Blocks_free_block : List IS := [.set (.t [(.n 3), (.n 4), (.n 5)]) (.tup [(.ix (.v 1) (.c (.str "table"))), (.ix (.v 1) (.c (.str "rows"))), (.fld (.v 0) "quota")]), .set (.n 6) (.comp false (.ix (.v 3) (.v 7)) (.n 7) .seq [(.call "room_files" [(.fld (.v 0) "kind"), (.v 2)])] (some (.val (.ix (.v 3) (.v 7)))) [7]), .set (.n 8) (.comp false (.v 9) (.n 9) .rng [(.c (.int 1)), (.bin .add (.v 5) (.c (.int 1)))] (some (.cmp .notin (.v 9) (.v 6))) [9]), .ife (.not (.val (.v 8))) [.ret (.c .non)] [], .ife (.cmp .eq (.fld (.v 0) "order") (.c (.str "least"))) [.ret (.ix (.v 8) (.c (.int 0)))] [], .ife (.cmp .eq (.fld (.v 0) "order") (.c (.str "last"))) [.ret (.ix (.comp false (.v 10) (.n 10) .seq [(.sl (.v 4) (some (.bin .mul (.v 2) (.v 5))) (some (.bin .mul (.bin .add (.v 2) (.c (.int 1))) (.v 5))))] (some (.val (.v 10))) [10]) (.neg (.c (.int 1))))] [], .set (.n 11) (.comp false (.v 9) (.n 9) .seq [(.v 8)] (some (.cmp .gt (.bin .sub (.v 9) (.c (.int 1))) (.ix (.v 4) (.v 2)))) [9]), .ret (.ife (.val (.v 11)) (.ix (.v 11) (.c (.int 0))) (.ix (.v 8) (.c (.int 0))))]
def e_Blocks_free_block : FnE := ⟨["self", "parts", "room"], ["self", "parts", "room", "table", "rows", "quota", "taken", "place", "free", "block", "item", "behind"], 60, i_Blocks_free_block⟩
def x_Blocks_free_block : DX := ⟨d_Blocks_free_block, e_Blocks_free_block, c_Blocks_free_block, 60⟩
theorem o_Blocks_free_block : DXOk tab x_Blocks_free_block := ⟨(fun h => by cases h), rfl, rfl, rfl, rfl, by kernel_rfl, scopeB_ok (by kernel_rfl), rfl, rfl, fun _ _ _ _ _ _ us hl => match us, hl with | [_, _, _], _ => rfl⟩
abbrev s_Blocks_take_block : Stmt := sub 38 4
def d_Blocks_take_block : He.DefD := ⟨("Blocks", some "take_block"), "take_block", "Blocks.take_block", dArgs s_Blocks_take_block, dBody s_Blocks_take_block, dScope s_Blocks_take_block, [], []⟩
def c_Blocks_take_block : Ctx := ⟨["self", "parts", "room", "block", "rows", "quota", "own", "item"], dScope s_Blocks_take_block, dScope s_Blocks_take_block, true, tab, [], [], [], [], [], 1000000, [], ""⟩
def i_Blocks_take_block : List IS := [.par3 3 4 5 (.meth (.v 0) "free_block" [(.v 1), (.v 2)]) (.ix (.v 1) (.c (.str "rows"))) (.fld (.v 0) "quota"), .ife (.cmp .eq (.fld (.v 0) "order") (.c (.str "last"))) [.set (.n 6) (.sl (.comp false (.v 7) (.n 7) .seq [(.sl (.v 4) (some (.bin .mul (.v 2) (.v 5))) (some (.bin .mul (.bin .add (.v 2) (.c (.int 1))) (.v 5))))] (some (.val (.v 7))) [7]) none (some (.neg (.c (.int 1))))), .setsl (.v 4) (.bin .mul (.v 2) (.v 5)) (.bin .mul (.bin .add (.v 2) (.c (.int 1))) (.v 5)) (.bin .add (.v 6) (.bin .mul (.lst false [(.c (.int 0))]) (.bin .sub (.v 5) (.bi .len (.v 6)))))] [], .ife (.cmp .eq (.fld (.v 0) "order") (.c (.str "round"))) [.setix (.v 4) (.v 2) (.bin .sub (.v 3) (.c (.int 1)))] [], .ret (.v 3)]
def e_Blocks_take_block : FnE := ⟨["self", "parts", "room"], ["self", "parts", "room", "block", "rows", "quota", "own", "item"], 60, i_Blocks_take_block⟩
def x_Blocks_take_block : DX := ⟨d_Blocks_take_block, e_Blocks_take_block, c_Blocks_take_block, 60⟩
theorem o_Blocks_take_block : DXOk tab x_Blocks_take_block := ⟨(fun h => by cases h), rfl, rfl, rfl, rfl, by kernel_rfl, scopeB_ok (by kernel_rfl), rfl, rfl, fun _ _ _ _ _ _ us hl => match us, hl with | [_, _, _], _ => rfl⟩
abbrev s_Blocks_free_again : Stmt := sub 38 5
def d_Blocks_free_again : He.DefD := ⟨("Blocks", some "free_again"), "free_again", "Blocks.free_again", dArgs s_Blocks_free_again, dBody s_Blocks_free_again, dScope s_Blocks_free_again, [], []⟩
def c_Blocks_free_again : Ctx := ⟨["self", "parts", "room", "block", "rows", "quota", "own", "item"], dScope s_Blocks_free_again, dScope s_Blocks_free_again, true, tab, [], [], [], [], [], 1000000, [], ""⟩
def i_Blocks_free_again : List IS := [.par 4 5 (.ix (.v 1) (.c (.str "rows"))) (.fld (.v 0) "quota"), .ife (.cmp .eq (.fld (.v 0) "order") (.c (.str "last"))) [.set (.n 6) (.bin .add (.comp false (.v 7) (.n 7) .seq [(.sl (.v 4) (some (.bin .mul (.v 2) (.v 5))) (some (.bin .mul (.bin .add (.v 2) (.c (.int 1))) (.v 5))))] (some (.val (.v 7))) [7]) (.lst false [(.v 3)])), .setsl (.v 4) (.bin .mul (.v 2) (.v 5)) (.bin .mul (.bin .add (.v 2) (.c (.int 1))) (.v 5)) (.bin .add (.v 6) (.bin .mul (.lst false [(.c (.int 0))]) (.bin .sub (.v 5) (.bi .len (.v 6)))))] []]
def e_Blocks_free_again : FnE := ⟨["self", "parts", "room", "block"], ["self", "parts", "room", "block", "rows", "quota", "own", "item"], 60, i_Blocks_free_again⟩
def x_Blocks_free_again : DX := ⟨d_Blocks_free_again, e_Blocks_free_again, c_Blocks_free_again, 60⟩
theorem o_Blocks_free_again : DXOk tab x_Blocks_free_again := ⟨(fun h => by cases h), rfl, rfl, rfl, rfl, by kernel_rfl, scopeB_ok (by kernel_rfl), rfl, rfl, fun _ _ _ _ _ _ us hl => match us, hl with | [_, _, _, _], _ => rfl⟩
abbrev s_Blocks_done : Stmt := sub 38 6
def d_Blocks_done : He.DefD := ⟨("Blocks", some "done"), "done", "Blocks.done", dArgs s_Blocks_done, dBody s_Blocks_done, dScope s_Blocks_done, [], []⟩
def c_Blocks_done : Ctx := ⟨["self", "parts", "client", "ask", "name", "deed", "place", "room", "table", "contents", "at"], dScope s_Blocks_done, dScope s_Blocks_done, true, tab, [], [], [], [], [], 1000000, [], ""⟩
def i_Blocks_done : List IS := [.set (.t [(.n 4), (.n 5)]) (.call "ask_apart" [(.fld (.v 0) "kind"), (.v 3)]), .par 6 7 (.call "file_place" [(.fld (.v 0) "kind"), (.v 2), (.v 4)]) (.call "room_of" [(.fld (.v 0) "kind"), (.v 2)]), .par 8 9 (.ix (.v 1) (.c (.str "table"))) (.ix (.v 1) (.c (.str "contents"))), .ife (.cmp .eq (.v 5) (.c (.int 1))) [.ife (.or (.val (.ix (.v 8) (.v 6))) (.cmp .is_ (.meth (.v 0) "free_block" [(.v 1), (.v 7)]) (.c .non))) [.ret (.c (.int 1))] [], .setix (.v 8) (.v 6) (.meth (.v 0) "take_block" [(.v 1), (.v 7)]), .ife (.cmp .eq (.fld (.v 0) "fresh") (.c (.str "zeroed"))) [.setix (.v 9) (.bin .sub (.bin .add (.bin .mul (.v 7) (.fld (.v 0) "quota")) (.ix (.v 8) (.v 6))) (.c (.int 1))) (.c (.int 0))] [], .ret (.c (.int 2))] [], .ife (.cmp .eq (.ix (.v 8) (.v 6)) (.c (.int 0))) [.ret (.c (.int 1))] [], .set (.n 10) (.bin .sub (.bin .add (.bin .mul (.v 7) (.fld (.v 0) "quota")) (.ix (.v 8) (.v 6))) (.c (.int 1))), .ife (.cmp .eq (.v 5) (.c (.int 0))) [.ret (.bin .add (.c (.int 2)) (.ix (.v 9) (.v 10)))] [], .ife (.cmp .eq (.v 5) (.c (.int 2))) [.ex (.meth (.v 0) "free_again" [(.v 1), (.v 7), (.ix (.v 8) (.v 6))]), .setix (.v 8) (.v 6) (.c (.int 0))] [.setix (.v 9) (.v 10) (.bin .sub (.v 5) (.c (.int 3)))], .ret (.c (.int 2))]
def e_Blocks_done : FnE := ⟨["self", "parts", "client", "ask"], ["self", "parts", "client", "ask", "name", "deed", "place", "room", "table", "contents", "at"], 60, i_Blocks_done⟩
def x_Blocks_done : DX := ⟨d_Blocks_done, e_Blocks_done, c_Blocks_done, 60⟩
theorem o_Blocks_done : DXOk tab x_Blocks_done := ⟨(fun h => by cases h), rfl, rfl, rfl, rfl, by kernel_rfl, scopeB_ok (by kernel_rfl), rfl, rfl, fun _ _ _ _ _ _ us hl => match us, hl with | [_, _, _, _], _ => rfl⟩
abbrev s_Blocks_steps_for : Stmt := sub 38 7
def d_Blocks_steps_for : He.DefD := ⟨("Blocks", some "steps_for"), "steps_for", "Blocks.steps_for", dArgs s_Blocks_steps_for, dBody s_Blocks_steps_for, dScope s_Blocks_steps_for, [], []⟩
def c_Blocks_steps_for : Ctx := ⟨["self", "parts", "client", "ask", "name", "deed", "block"], dScope s_Blocks_steps_for, dScope s_Blocks_steps_for, true, tab, [], [], [], [], [], 1000000, [], ""⟩
def i_Blocks_steps_for : List IS := [.ife (.cmp .eq (.fld (.v 0) "times") (.c (.str "filled"))) [.ret (.ix (.fld (.v 0) "kind") (.c (.int 6)))] [], .set (.t [(.n 4), (.n 5)]) (.call "ask_apart" [(.fld (.v 0) "kind"), (.v 3)]), .set (.n 6) (.ix (.ix (.v 1) (.c (.str "table"))) (.call "file_place" [(.fld (.v 0) "kind"), (.v 2), (.v 4)])), .ife (.and (.cmp .eq (.v 5) (.c (.int 1))) (.cmp .eq (.v 6) (.c (.int 0)))) [.set (.n 6) (.or (.meth (.v 0) "free_block" [(.v 1), (.call "room_of" [(.fld (.v 0) "kind"), (.v 2)])]) (.c (.int 0)))] [], .ret (.mm false (.ix (.fld (.v 0) "kind") (.c (.int 6))) (.mm true (.c (.int 1)) (.v 6)))]
def e_Blocks_steps_for : FnE := ⟨["self", "parts", "client", "ask"], ["self", "parts", "client", "ask", "name", "deed", "block"], 60, i_Blocks_steps_for⟩
def x_Blocks_steps_for : DX := ⟨d_Blocks_steps_for, e_Blocks_steps_for, c_Blocks_steps_for, 60⟩
theorem o_Blocks_steps_for : DXOk tab x_Blocks_steps_for := ⟨(fun h => by cases h), rfl, rfl, rfl, rfl, by kernel_rfl, scopeB_ok (by kernel_rfl), rfl, rfl, fun _ _ _ _ _ _ us hl => match us, hl with | [_, _, _, _], _ => rfl⟩
abbrev s_Blocks_now : Stmt := sub 38 8
def d_Blocks_now : He.DefD := ⟨("Blocks", some "now"), "now", "Blocks.now", dArgs s_Blocks_now, dBody s_Blocks_now, dScope s_Blocks_now, [], []⟩
def c_Blocks_now : Ctx := ⟨["self", "parts", "waits", "client", "ask", "at", "left", "kept"], dScope s_Blocks_now, dScope s_Blocks_now, true, tab, [], [], [], [], [], 1000000, [], ""⟩
def i_Blocks_now : List IS := [.set (.n 5) (.bin .mul (.c (.int 2)) (.v 3)), .ife (.not (.val (.v 2))) [.ret (.v 4)] [], .ife (.cmp .eq (.ix (.v 2) (.v 5)) (.c (.int 0))) [.set (.n 6) (.ife (.val (.v 4)) (.bin .sub (.meth (.v 0) "steps_for" [(.v 1), (.v 3), (.v 4)]) (.c (.int 1))) (.c (.int 0))), .ife (.cmp .eq (.v 6) (.c (.int 0))) [.ret (.v 4)] [], .setsl (.v 2) (.v 5) (.bin .add (.v 5) (.c (.int 2))) (.lst false [(.v 4), (.v 6)]), .ret (.c (.int 0))] [], .augix (.v 2) (.bin .add (.v 5) (.c (.int 1))) .sub (.c (.int 1)), .ife (.val (.ix (.v 2) (.bin .add (.v 5) (.c (.int 1))))) [.ret (.c (.int 0))] [], .set (.n 7) (.ix (.v 2) (.v 5)), .setix (.v 2) (.v 5) (.c (.int 0)), .ret (.v 7)]
def e_Blocks_now : FnE := ⟨["self", "parts", "waits", "client", "ask"], ["self", "parts", "waits", "client", "ask", "at", "left", "kept"], 60, i_Blocks_now⟩
def x_Blocks_now : DX := ⟨d_Blocks_now, e_Blocks_now, c_Blocks_now, 60⟩
theorem o_Blocks_now : DXOk tab x_Blocks_now := ⟨(fun h => by cases h), rfl, rfl, rfl, rfl, by kernel_rfl, scopeB_ok (by kernel_rfl), rfl, rfl, fun _ _ _ _ _ _ us hl => match us, hl with | [_, _, _, _, _], _ => rfl⟩
abbrev s_Blocks_step : Stmt := sub 38 9
def d_Blocks_step : He.DefD := ⟨("Blocks", some "step"), "step", "Blocks.step", dArgs s_Blocks_step, dBody s_Blocks_step, dScope s_Blocks_step, [], []⟩
def c_Blocks_step : Ctx := ⟨["self", "state", "row", "a", "b", "c", "d", "parts", "waits", "answers", "client", "ask", "now"], dScope s_Blocks_step, dScope s_Blocks_step, true, tab, [], [], [], [], [], 1000000, [], ""⟩
def i_Blocks_step : List IS := [.set (.t [(.n 3), (.n 4), (.n 5), (.n 6)]) (.fld (.v 0) "ends"), .set (.n 7) (.dicd ["table", "contents", "rows"] [(.bi .list (.sl (.v 1) none (some (.v 3)))), (.bi .list (.sl (.v 1) (some (.v 3)) (some (.v 4)))), (.bi .list (.sl (.v 1) (some (.v 4)) (some (.v 5))))]), .par 8 9 (.bi .list (.sl (.v 1) (some (.v 5)) (some (.v 6)))) (.lst false []), .loop (.t [(.n 10), (.n 11)]) .enum [(.v 2)] [.set (.n 12) (.meth (.v 0) "now" [(.v 7), (.v 8), (.v 10), (.v 11)]), .ex (.bm .append (.v 9) [(.ife (.val (.v 12)) (.meth (.v 0) "done" [(.v 7), (.v 10), (.v 12)]) (.c (.int 0)))])], .ret (.bi .tuple (.bin .add (.bin .add (.bin .add (.bin .add (.ix (.v 7) (.c (.str "table"))) (.ix (.v 7) (.c (.str "contents")))) (.ix (.v 7) (.c (.str "rows")))) (.v 8)) (.v 9)))]
def e_Blocks_step : FnE := ⟨["self", "state", "row"], ["self", "state", "row", "a", "b", "c", "d", "parts", "waits", "answers", "client", "ask", "now"], 60, i_Blocks_step⟩
def x_Blocks_step : DX := ⟨d_Blocks_step, e_Blocks_step, c_Blocks_step, 60⟩
theorem o_Blocks_step : DXOk tab x_Blocks_step := ⟨(fun h => by cases h), rfl, rfl, rfl, rfl, by kernel_rfl, scopeB_ok (by kernel_rfl), rfl, rfl, fun _ _ _ _ _ _ us hl => match us, hl with | [_, _, _], _ => rfl⟩
abbrev s_Counter_init : Stmt := sub 40 0
def d_Counter_init : He.DefD := ⟨("Counter", some "__init__"), "__init__", "Counter.__init__", dArgs s_Counter_init, dBody s_Counter_init, dScope s_Counter_init, [], []⟩
def c_Counter_init : Ctx := ⟨["self", "many", "size", "option", "counts", "answers"], dScope s_Counter_init, dScope s_Counter_init, true, tab, [], [], [], [], [], 1000000, [], ""⟩
def i_Counter_init : List IS := [.ife (.or (.not (.val (.call "is_between" [(.v 1), (.c (.int 1)), (.c (.int 3))]))) (.or (.not (.val (.call "is_between" [(.v 2), (.c (.int 2)), (.c (.int 14))]))) (.cmp .notin (.v 3) (.tup [(.c (.str "own")), (.c (.str "shared"))])))) [.raise "BadBox" [(.tup [(.v 1), (.v 2), (.v 3)])]] [], .setf (.v 0) "many" (.v 1), .setf (.v 0) "size" (.v 2), .setf (.v 0) "option" (.v 3), .set (.n 4) (.bin .mul (.tup [(.v 2)]) (.ife (.cmp .eq (.v 3) (.c (.str "own"))) (.v 1) (.c (.int 1)))), .set (.n 5) (.bin .mul (.tup [(.bin .add (.v 2) (.c (.int 2)))]) (.v 1)), .ex (.cmeth "Box" "__init__" [(.v 0), (.tup []), (.bin .mul (.tup [(.c (.int 2))]) (.v 1)), (.v 5), (.bin .add (.v 4) (.v 5))])]
def e_Counter_init : FnE := ⟨["self", "many", "size", "option"], ["self", "many", "size", "option", "counts", "answers"], 60, i_Counter_init⟩
def x_Counter_init : DX := ⟨d_Counter_init, e_Counter_init, c_Counter_init, 60⟩
theorem o_Counter_init : DXOk tab x_Counter_init := ⟨(fun h => by cases h), rfl, rfl, rfl, rfl, by kernel_rfl, scopeB_ok (by kernel_rfl), rfl, rfl, fun _ _ _ _ _ _ us hl => match us, hl with | [_, _, _, _], _ => rfl⟩
abbrev s_Counter_begin : Stmt := sub 40 1
def d_Counter_begin : He.DefD := ⟨("Counter", some "begin"), "begin", "Counter.begin", dArgs s_Counter_begin, dBody s_Counter_begin, dScope s_Counter_begin, [], []⟩
def c_Counter_begin : Ctx := ⟨["self", "row"], dScope s_Counter_begin, dScope s_Counter_begin, true, tab, [], [], [], [], [], 1000000, [], ""⟩
def i_Counter_begin : List IS := [.ex (.call "_wall" [(.c (.int 5))])]
def e_Counter_begin : FnE := ⟨["self", "row"], ["self", "row"], 60, i_Counter_begin⟩
def x_Counter_begin : DX := ⟨d_Counter_begin, e_Counter_begin, c_Counter_begin, 60⟩
theorem o_Counter_begin : DXOk tab x_Counter_begin := ⟨(fun h => by cases h), rfl, rfl, rfl, rfl, by kernel_rfl, scopeB_ok (by kernel_rfl), rfl, rfl, fun _ _ _ _ _ _ us hl => match us, hl with | [_, _], _ => rfl⟩
abbrev s_Counter_shown : Stmt := sub 40 2
def d_Counter_shown : He.DefD := ⟨("Counter", some "shown"), "shown", "Counter.shown", dArgs s_Counter_shown, dBody s_Counter_shown, dScope s_Counter_shown, [], []⟩
def c_Counter_shown : Ctx := ⟨["self", "state"], dScope s_Counter_shown, dScope s_Counter_shown, true, tab, [], [], [], [], [], 1000000, [], ""⟩
def i_Counter_shown : List IS := [.ret (.sl (.v 1) (some (.bin .sub (.bi .len (.v 1)) (.fld (.v 0) "many"))) none)]
def e_Counter_shown : FnE := ⟨["self", "state"], ["self", "state"], 60, i_Counter_shown⟩
def x_Counter_shown : DX := ⟨d_Counter_shown, e_Counter_shown, c_Counter_shown, 60⟩
theorem o_Counter_shown : DXOk tab x_Counter_shown := ⟨(fun h => by cases h), rfl, rfl, rfl, rfl, by kernel_rfl, scopeB_ok (by kernel_rfl), rfl, rfl, fun _ _ _ _ _ _ us hl => match us, hl with | [_, _], _ => rfl⟩
abbrev s_Counter_step : Stmt := sub 40 3
def d_Counter_step : He.DefD := ⟨("Counter", some "step"), "step", "Counter.step", dArgs s_Counter_step, dBody s_Counter_step, dScope s_Counter_step, [], []⟩
def c_Counter_step : Ctx := ⟨["self", "state", "row", "counts", "answers", "client", "ask", "place"], dScope s_Counter_step, dScope s_Counter_step, true, tab, [], [], [], [], [], 1000000, [], ""⟩
def i_Counter_step : List IS := [.par 3 4 (.bi .list (.sl (.v 1) none (some (.bin .sub (.bi .len (.v 1)) (.fld (.v 0) "many"))))) (.lst false []), .loop (.t [(.n 5), (.n 6)]) .enum [(.v 2)] [.set (.n 7) (.ife (.cmp .eq (.fld (.v 0) "option") (.c (.str "own"))) (.v 5) (.c (.int 0))), .ex (.bm .append (.v 4) [(.ife (.val (.v 6)) (.bin .add (.c (.int 2)) (.ix (.v 3) (.v 7))) (.c (.int 0)))]), .setix (.v 3) (.v 7) (.bin .mod (.bin .add (.ix (.v 3) (.v 7)) (.v 6)) (.fld (.v 0) "size"))], .ret (.bi .tuple (.bin .add (.v 3) (.v 4)))]
def e_Counter_step : FnE := ⟨["self", "state", "row"], ["self", "state", "row", "counts", "answers", "client", "ask", "place"], 60, i_Counter_step⟩
def x_Counter_step : DX := ⟨d_Counter_step, e_Counter_step, c_Counter_step, 60⟩
theorem o_Counter_step : DXOk tab x_Counter_step := ⟨(fun h => by cases h), rfl, rfl, rfl, rfl, by kernel_rfl, scopeB_ok (by kernel_rfl), rfl, rfl, fun _ _ _ _ _ _ us hl => match us, hl with | [_, _, _], _ => rfl⟩
abbrev s_Logged_init : Stmt := sub 50 0
def d_Logged_init : He.DefD := ⟨("Logged", some "__init__"), "__init__", "Logged.__init__", dArgs s_Logged_init, dBody s_Logged_init, dScope s_Logged_init, [], []⟩
def c_Logged_init : Ctx := ⟨["self", "kind", "many", "names", "values", "bound", "log", "beat", "answers", "logs"], dScope s_Logged_init, dScope s_Logged_init, true, tab, [], [], [], [], [], 1000000, [], ""⟩
def i_Logged_init : List IS := [.ife (.not (.val (.call "is_log_kind" [(.v 1)]))) [.raise "BadBox" [(.tup [(.v 1)])]] [], .setf (.v 0) "kind" (.v 1), .set (.t [(.n 2), (.n 3), (.n 4), (.n 5), (.n 6), (.n 7)]) (.v 1), .setf (.v 0) "files" (.bin .mul (.v 2) (.v 3)), .setf (.v 0) "entry" (.bin .add (.c (.int 1)) (.bin .mul (.call "key_count" [(.v 1)]) (.bin .add (.v 4) (.c (.int 1))))), .set (.n 8) (.bin .mul (.tup [(.bin .add (.v 4) (.c (.int 2)))]) (.v 2)), .set (.n 9) (.bin .mul (.tup [(.fld (.v 0) "entry")]) (.bin .mul (.v 5) (.call "log_count" [(.v 1)]))), .ex (.cmeth "Box" "__init__" [(.v 0), (.tup []), (.call "log_ports" [(.v 1)]), (.v 8), (.bin .add (.bin .add (.bin .add (.bin .mul (.tup [(.bin .add (.v 4) (.c (.int 1)))]) (.fld (.v 0) "files")) (.tup [(.v 7)])) (.v 9)) (.v 8))])]
def e_Logged_init : FnE := ⟨["self", "kind"], ["self", "kind", "many", "names", "values", "bound", "log", "beat", "answers", "logs"], 60, i_Logged_init⟩
def x_Logged_init : DX := ⟨d_Logged_init, e_Logged_init, c_Logged_init, 60⟩
theorem o_Logged_init : DXOk tab x_Logged_init := ⟨(fun h => by cases h), rfl, rfl, rfl, rfl, by kernel_rfl, scopeB_ok (by kernel_rfl), rfl, rfl, fun _ _ _ _ _ _ us hl => match us, hl with | [_, _], _ => rfl⟩
abbrev s_Logged_begin : Stmt := sub 50 1
def d_Logged_begin : He.DefD := ⟨("Logged", some "begin"), "begin", "Logged.begin", dArgs s_Logged_begin, dBody s_Logged_begin, dScope s_Logged_begin, [], []⟩
def c_Logged_begin : Ctx := ⟨["self", "row"], dScope s_Logged_begin, dScope s_Logged_begin, true, tab, [], [], [], [], [], 1000000, [], ""⟩
def i_Logged_begin : List IS := [.ex (.call "_wall" [(.c (.int 6))])]
def e_Logged_begin : FnE := ⟨["self", "row"], ["self", "row"], 60, i_Logged_begin⟩
def x_Logged_begin : DX := ⟨d_Logged_begin, e_Logged_begin, c_Logged_begin, 60⟩
theorem o_Logged_begin : DXOk tab x_Logged_begin := ⟨(fun h => by cases h), rfl, rfl, rfl, rfl, by kernel_rfl, scopeB_ok (by kernel_rfl), rfl, rfl, fun _ _ _ _ _ _ us hl => match us, hl with | [_, _], _ => rfl⟩
abbrev s_Logged_shown : Stmt := sub 50 2
def d_Logged_shown : He.DefD := ⟨("Logged", some "shown"), "shown", "Logged.shown", dArgs s_Logged_shown, dBody s_Logged_shown, dScope s_Logged_shown, [], []⟩
def c_Logged_shown : Ctx := ⟨["self", "state"], dScope s_Logged_shown, dScope s_Logged_shown, true, tab, [], [], [], [], [], 1000000, [], ""⟩
def i_Logged_shown : List IS := [.ret (.sl (.v 1) (some (.bin .sub (.bi .len (.v 1)) (.ix (.fld (.v 0) "kind") (.c (.int 0))))) none)]
def e_Logged_shown : FnE := ⟨["self", "state"], ["self", "state"], 60, i_Logged_shown⟩
def x_Logged_shown : DX := ⟨d_Logged_shown, e_Logged_shown, c_Logged_shown, 60⟩
theorem o_Logged_shown : DXOk tab x_Logged_shown := ⟨(fun h => by cases h), rfl, rfl, rfl, rfl, by kernel_rfl, scopeB_ok (by kernel_rfl), rfl, rfl, fun _ _ _ _ _ _ us hl => match us, hl with | [_, _], _ => rfl⟩
abbrev s_Logged_logs_apart : Stmt := sub 50 3
def d_Logged_logs_apart : He.DefD := ⟨("Logged", some "logs_apart"), "logs_apart", "Logged.logs_apart", dArgs s_Logged_logs_apart, dBody s_Logged_logs_apart, dScope s_Logged_logs_apart, [], []⟩
def c_Logged_logs_apart : Ctx := ⟨["self", "state", "bound", "found", "log", "at", "item"], dScope s_Logged_logs_apart, dScope s_Logged_logs_apart, true, tab, [], [], [], [], [], 1000000, [], ""⟩
def i_Logged_logs_apart : List IS := [.par 2 3 (.ix (.fld (.v 0) "kind") (.c (.int 3))) (.lst false []), .loop (.n 4) .rng [(.call "log_count" [(.fld (.v 0) "kind")])] [.set (.n 5) (.bin .add (.bin .add (.fld (.v 0) "files") (.c (.int 1))) (.bin .mul (.v 4) (.v 2))), .ex (.bm .append (.v 3) [(.comp false (.v 6) (.n 6) .seq [(.sl (.v 1) (some (.v 5)) (some (.bin .add (.v 5) (.v 2))))] (some (.val (.v 6))) [6])])], .ret (.v 3)]
def e_Logged_logs_apart : FnE := ⟨["self", "state"], ["self", "state", "bound", "found", "log", "at", "item"], 60, i_Logged_logs_apart⟩
def x_Logged_logs_apart : DX := ⟨d_Logged_logs_apart, e_Logged_logs_apart, c_Logged_logs_apart, 60⟩
theorem o_Logged_logs_apart : DXOk tab x_Logged_logs_apart := ⟨(fun h => by cases h), rfl, rfl, rfl, rfl, by kernel_rfl, scopeB_ok (by kernel_rfl), rfl, rfl, fun _ _ _ _ _ _ us hl => match us, hl with | [_, _], _ => rfl⟩
abbrev s_Logged_entry_apart : Stmt := sub 50 4
def d_Logged_entry_apart : He.DefD := ⟨("Logged", some "entry_apart"), "entry_apart", "Logged.entry_apart", dArgs s_Logged_entry_apart, dBody s_Logged_entry_apart, dScope s_Logged_entry_apart, [], []⟩
def c_Logged_entry_apart : Ctx := ⟨["self", "item", "size"], dScope s_Logged_entry_apart, dScope s_Logged_entry_apart, true, tab, [], [], [], [], [], 1000000, [], ""⟩
def i_Logged_entry_apart : List IS := [.set (.n 2) (.bin .add (.ix (.fld (.v 0) "kind") (.c (.int 2))) (.c (.int 1))), .ret (.tup [(.bin .fdiv (.bin .sub (.v 1) (.c (.int 1))) (.v 2)), (.bin .mod (.bin .sub (.v 1) (.c (.int 1))) (.v 2))])]
def e_Logged_entry_apart : FnE := ⟨["self", "item"], ["self", "item", "size"], 60, i_Logged_entry_apart⟩
def x_Logged_entry_apart : DX := ⟨d_Logged_entry_apart, e_Logged_entry_apart, c_Logged_entry_apart, 60⟩
theorem o_Logged_entry_apart : DXOk tab x_Logged_entry_apart := ⟨(fun h => by cases h), rfl, rfl, rfl, rfl, by kernel_rfl, scopeB_ok (by kernel_rfl), rfl, rfl, fun _ _ _ _ _ _ us hl => match us, hl with | [_, _], _ => rfl⟩
abbrev s_Logged_latest : Stmt := sub 50 5
def d_Logged_latest : He.DefD := ⟨("Logged", some "latest"), "latest", "Logged.latest", dArgs s_Logged_latest, dBody s_Logged_latest, dScope s_Logged_latest, [], []⟩
def c_Logged_latest : Ctx := ⟨["self", "files", "logs", "client", "name", "log", "key", "told", "item", "some", "one", "there"], dScope s_Logged_latest, dScope s_Logged_latest, true, tab, [], [], [], [], [], 1000000, [], ""⟩
def i_Logged_latest : List IS := [.set (.t [(.n 5), (.n 6)]) (.tup [(.call "log_of" [(.fld (.v 0) "kind"), (.v 3)]), (.call "key_of" [(.fld (.v 0) "kind"), (.v 3), (.v 4)])]), .set (.n 7) (.comp false (.meth (.v 0) "entry_apart" [(.v 8)]) (.n 8) .seq [(.ix (.v 2) (.v 5))] none [8]), .set (.n 9) (.comp false (.v 11) (.t [(.n 10), (.n 11)]) .seq [(.v 7)] (some (.cmp .eq (.v 10) (.v 6))) [10, 11]), .ret (.ife (.val (.v 9)) (.ix (.v 9) (.neg (.c (.int 1)))) (.ix (.v 1) (.bin .add (.bin .mul (.v 3) (.ix (.fld (.v 0) "kind") (.c (.int 1)))) (.v 4))))]
def e_Logged_latest : FnE := ⟨["self", "files", "logs", "client", "name"], ["self", "files", "logs", "client", "name", "log", "key", "told", "item", "some", "one", "there"], 60, i_Logged_latest⟩
def x_Logged_latest : DX := ⟨d_Logged_latest, e_Logged_latest, c_Logged_latest, 60⟩
theorem o_Logged_latest : DXOk tab x_Logged_latest := ⟨(fun h => by cases h), rfl, rfl, rfl, rfl, by kernel_rfl, scopeB_ok (by kernel_rfl), rfl, rfl, fun _ _ _ _ _ _ us hl => match us, hl with | [_, _, _, _, _], _ => rfl⟩
abbrev s_Logged_answered : Stmt := sub 50 6
def d_Logged_answered : He.DefD := ⟨("Logged", some "answered"), "answered", "Logged.answered", dArgs s_Logged_answered, dBody s_Logged_answered, dScope s_Logged_answered, [], []⟩
def c_Logged_answered : Ctx := ⟨["self", "files", "logs", "client", "ask", "name", "deed", "answer", "fresh", "log"], dScope s_Logged_answered, dScope s_Logged_answered, true, tab, [], [], [], [], [], 1000000, [], ""⟩
def i_Logged_answered : List IS := [.par 5 6 (.bin .fdiv (.bin .sub (.v 4) (.c (.int 1))) (.bin .add (.c (.int 3)) (.ix (.fld (.v 0) "kind") (.c (.int 2))))) (.bin .mod (.bin .sub (.v 4) (.c (.int 1))) (.bin .add (.c (.int 3)) (.ix (.fld (.v 0) "kind") (.c (.int 2))))), .set (.t [(.n 7), (.n 8)]) (.call "changed_file" [(.meth (.v 0) "latest" [(.v 1), (.v 2), (.v 3), (.v 5)]), (.v 6)]), .ife (.cmp .is_ (.v 8) (.c .non)) [.ret (.v 7)] [], .set (.n 9) (.ix (.v 2) (.call "log_of" [(.fld (.v 0) "kind"), (.v 3)])), .ife (.cmp .eq (.bi .len (.v 9)) (.ix (.fld (.v 0) "kind") (.c (.int 3)))) [.ret (.c (.int 1))] [], .ex (.bm .append (.v 9) [(.bin .add (.bin .add (.c (.int 1)) (.bin .mul (.call "key_of" [(.fld (.v 0) "kind"), (.v 3), (.v 5)]) (.bin .add (.ix (.fld (.v 0) "kind") (.c (.int 2))) (.c (.int 1))))) (.v 8))]), .ret (.v 7)]
def e_Logged_answered : FnE := ⟨["self", "files", "logs", "client", "ask"], ["self", "files", "logs", "client", "ask", "name", "deed", "answer", "fresh", "log"], 60, i_Logged_answered⟩
def x_Logged_answered : DX := ⟨d_Logged_answered, e_Logged_answered, c_Logged_answered, 60⟩
theorem o_Logged_answered : DXOk tab x_Logged_answered := ⟨(fun h => by cases h), rfl, rfl, rfl, rfl, by kernel_rfl, scopeB_ok (by kernel_rfl), rfl, rfl, fun _ _ _ _ _ _ us hl => match us, hl with | [_, _, _, _, _], _ => rfl⟩
abbrev s_Logged_laid_down : Stmt := sub 50 7
def d_Logged_laid_down : He.DefD := ⟨("Logged", some "laid_down"), "laid_down", "Logged.laid_down", dArgs s_Logged_laid_down, dBody s_Logged_laid_down, dScope s_Logged_laid_down, [], []⟩
def c_Logged_laid_down : Ctx := ⟨["self", "files", "logs", "log", "entries", "key", "there"], dScope s_Logged_laid_down, dScope s_Logged_laid_down, true, tab, [], [], [], [], [], 1000000, [], ""⟩
def i_Logged_laid_down : List IS := [.loop (.t [(.n 3), (.n 4)]) .enum [(.v 2)] [.ife (.val (.v 4)) [.set (.t [(.n 5), (.n 6)]) (.meth (.v 0) "entry_apart" [(.bm .pop1 (.v 4) [(.c (.int 0))])]), .setix (.v 1) (.call "place_of_key" [(.fld (.v 0) "kind"), (.v 3), (.v 5)]) (.v 6)] []]]
def e_Logged_laid_down : FnE := ⟨["self", "files", "logs"], ["self", "files", "logs", "log", "entries", "key", "there"], 60, i_Logged_laid_down⟩
def x_Logged_laid_down : DX := ⟨d_Logged_laid_down, e_Logged_laid_down, c_Logged_laid_down, 60⟩
theorem o_Logged_laid_down : DXOk tab x_Logged_laid_down := ⟨(fun h => by cases h), rfl, rfl, rfl, rfl, by kernel_rfl, scopeB_ok (by kernel_rfl), rfl, rfl, fun _ _ _ _ _ _ us hl => match us, hl with | [_, _, _], _ => rfl⟩
abbrev s_Logged_step : Stmt := sub 50 8
def d_Logged_step : He.DefD := ⟨("Logged", some "step"), "step", "Logged.step", dArgs s_Logged_step, dBody s_Logged_step, dScope s_Logged_step, [], []⟩
def c_Logged_step : Ctx := ⟨["self", "state", "row", "many", "bound", "files", "clock", "logs", "answers", "client", "ask", "found", "entries"], dScope s_Logged_step, dScope s_Logged_step, true, tab, [], [], [], [], [], 1000000, [], ""⟩
def i_Logged_step : List IS := [.par 3 4 (.ix (.fld (.v 0) "kind") (.c (.int 0))) (.ix (.fld (.v 0) "kind") (.c (.int 3))), .ife (.val (.ix (.v 2) (.v 3))) [.ret (.bin .add (.sl (.v 1) none (some (.bin .sub (.bi .len (.v 1)) (.v 3)))) (.bin .mul (.tup [(.c (.int 0))]) (.v 3)))] [], .set (.t [(.n 5), (.n 6), (.n 7)]) (.tup [(.bi .list (.sl (.v 1) none (some (.fld (.v 0) "files")))), (.ix (.v 1) (.fld (.v 0) "files")), (.meth (.v 0) "logs_apart" [(.v 1)])]), .ife (.cmp .eq (.v 6) (.bin .sub (.ix (.fld (.v 0) "kind") (.c (.int 5))) (.c (.int 1)))) [.ex (.meth (.v 0) "laid_down" [(.v 5), (.v 7)])] [], .set (.n 8) (.comp false (.ife (.val (.v 10)) (.meth (.v 0) "answered" [(.v 5), (.v 7), (.v 9), (.v 10)]) (.c (.int 0))) (.t [(.n 9), (.n 10)]) .enum [(.sl (.v 2) none (some (.v 3)))] none [9, 10]), .set (.n 11) (.bin .add (.v 5) (.lst false [(.bin .mod (.bin .add (.v 6) (.c (.int 1))) (.ix (.fld (.v 0) "kind") (.c (.int 5))))])), .loop (.n 12) .seq [(.v 7)] [.set (.n 11) (.bin .add (.bin .add (.v 11) (.v 12)) (.bin .mul (.lst false [(.c (.int 0))]) (.bin .sub (.v 4) (.bi .len (.v 12)))))], .ret (.bi .tuple (.bin .add (.v 11) (.v 8)))]
def e_Logged_step : FnE := ⟨["self", "state", "row"], ["self", "state", "row", "many", "bound", "files", "clock", "logs", "answers", "client", "ask", "found", "entries"], 60, i_Logged_step⟩
def x_Logged_step : DX := ⟨d_Logged_step, e_Logged_step, c_Logged_step, 60⟩
theorem o_Logged_step : DXOk tab x_Logged_step := ⟨(fun h => by cases h), rfl, rfl, rfl, rfl, by kernel_rfl, scopeB_ok (by kernel_rfl), rfl, rfl, fun _ _ _ _ _ _ us hl => match us, hl with | [_, _, _], _ => rfl⟩
abbrev s_Mail_init : Stmt := sub 52 0
def d_Mail_init : He.DefD := ⟨("Mail", some "__init__"), "__init__", "Mail.__init__", dArgs s_Mail_init, dBody s_Mail_init, dScope s_Mail_init, [], []⟩
def c_Mail_init : Ctx := ⟨["self", "bound", "size", "writers", "option", "outs"], dScope s_Mail_init, dScope s_Mail_init, true, tab, [], [], [], [], [], 1000000, [], ""⟩
def i_Mail_init : List IS := [.ife (.or (.not (.val (.call "is_between" [(.v 1), (.c (.int 1)), (.c (.int 4))]))) (.or (.not (.val (.call "is_between" [(.v 2), (.c (.int 2)), (.c (.int 14))]))) (.not (.val (.call "is_between" [(.v 3), (.c (.int 1)), (.c (.int 3))]))))) [.raise "BadBox" [(.tup [(.v 1), (.v 2), (.v 3), (.v 4)])]] [], .ife (.cmp .notin (.v 4) (.tup [(.c (.str "silent")), (.c (.str "answers"))])) [.raise "BadBox" [(.tup [(.v 1), (.v 2), (.v 3), (.v 4)])]] [], .setf (.v 0) "bound" (.v 1), .setf (.v 0) "size" (.v 2), .setf (.v 0) "writers" (.v 3), .setf (.v 0) "option" (.v 4), .set (.n 5) (.ife (.cmp .eq (.v 4) (.c (.str "answers"))) (.tup [(.bin .add (.v 2) (.c (.int 2))), (.c (.int 2))]) (.tup [(.bin .add (.v 2) (.c (.int 2)))])), .ex (.cmeth "Box" "__init__" [(.v 0), (.tup []), (.bin .add (.bin .mul (.tup [(.bin .add (.v 2) (.c (.int 1)))]) (.v 3)) (.tup [(.c (.int 2))])), (.v 5), (.bin .add (.bin .mul (.tup [(.bin .add (.v 2) (.c (.int 1)))]) (.v 1)) (.tup [(.bin .add (.v 2) (.c (.int 2)))]))])]
def e_Mail_init : FnE := ⟨["self", "bound", "size", "writers", "option"], ["self", "bound", "size", "writers", "option", "outs"], 60, i_Mail_init⟩
def x_Mail_init : DX := ⟨d_Mail_init, e_Mail_init, c_Mail_init, 60⟩
theorem o_Mail_init : DXOk tab x_Mail_init := ⟨(fun h => by cases h), rfl, rfl, rfl, rfl, by kernel_rfl, scopeB_ok (by kernel_rfl), rfl, rfl, fun _ _ _ _ _ _ us hl => match us, hl with | [_, _, _, _, _], _ => rfl⟩
abbrev s_Mail_begin : Stmt := sub 52 1
def d_Mail_begin : He.DefD := ⟨("Mail", some "begin"), "begin", "Mail.begin", dArgs s_Mail_begin, dBody s_Mail_begin, dScope s_Mail_begin, [], []⟩
def c_Mail_begin : Ctx := ⟨["self", "row"], dScope s_Mail_begin, dScope s_Mail_begin, true, tab, [], [], [], [], [], 1000000, [], ""⟩
def i_Mail_begin : List IS := [.ex (.call "_wall" [(.c (.int 7))])]
def e_Mail_begin : FnE := ⟨["self", "row"], ["self", "row"], 60, i_Mail_begin⟩
def x_Mail_begin : DX := ⟨d_Mail_begin, e_Mail_begin, c_Mail_begin, 60⟩
theorem o_Mail_begin : DXOk tab x_Mail_begin := ⟨(fun h => by cases h), rfl, rfl, rfl, rfl, by kernel_rfl, scopeB_ok (by kernel_rfl), rfl, rfl, fun _ _ _ _ _ _ us hl => match us, hl with | [_, _], _ => rfl⟩
abbrev s_Mail_shown : Stmt := sub 52 2
def d_Mail_shown : He.DefD := ⟨("Mail", some "shown"), "shown", "Mail.shown", dArgs s_Mail_shown, dBody s_Mail_shown, dScope s_Mail_shown, [], []⟩
def c_Mail_shown : Ctx := ⟨["self", "state"], dScope s_Mail_shown, dScope s_Mail_shown, true, tab, [], [], [], [], [], 1000000, [], ""⟩
def i_Mail_shown : List IS := [.ife (.cmp .eq (.fld (.v 0) "option") (.c (.str "silent"))) [.ret (.tup [(.ix (.v 1) (.fld (.v 0) "bound"))])] [], .ret (.tup [(.ix (.v 1) (.fld (.v 0) "bound")), (.bi .int (.cmp .gt (.ix (.v 1) (.bin .sub (.fld (.v 0) "bound") (.c (.int 1)))) (.c (.int 0))))])]
def e_Mail_shown : FnE := ⟨["self", "state"], ["self", "state"], 60, i_Mail_shown⟩
def x_Mail_shown : DX := ⟨d_Mail_shown, e_Mail_shown, c_Mail_shown, 60⟩
theorem o_Mail_shown : DXOk tab x_Mail_shown := ⟨(fun h => by cases h), rfl, rfl, rfl, rfl, by kernel_rfl, scopeB_ok (by kernel_rfl), rfl, rfl, fun _ _ _ _ _ _ us hl => match us, hl with | [_, _], _ => rfl⟩
abbrev s_Mail_step : Stmt := sub 52 3
def d_Mail_step : He.DefD := ⟨("Mail", some "step"), "step", "Mail.step", dArgs s_Mail_step, dBody s_Mail_step, dScope s_Mail_step, [], []⟩
def c_Mail_step : Ctx := ⟨["self", "state", "row", "kept", "got", "item"], dScope s_Mail_step, dScope s_Mail_step, true, tab, [], [], [], [], [], 1000000, [], ""⟩
def i_Mail_step : List IS := [.par 3 4 (.comp false (.v 5) (.n 5) .seq [(.sl (.v 1) none (some (.fld (.v 0) "bound")))] (some (.val (.v 5))) [5]) (.c (.int 0)), .ife (.val (.ix (.v 2) (.fld (.v 0) "writers"))) [.set (.n 4) (.ife (.val (.v 3)) (.bin .add (.c (.int 1)) (.ix (.v 3) (.c (.int 0)))) (.c (.int 1))), .set (.n 3) (.sl (.v 3) (some (.c (.int 1))) none)] [], .loop (.n 5) .seq [(.sl (.v 2) none (some (.fld (.v 0) "writers")))] [.ife (.and (.val (.v 5)) (.cmp .lt (.bi .len (.v 3)) (.fld (.v 0) "bound"))) [.ex (.bm .append (.v 3) [(.v 5)])] []], .ret (.bin .add (.bin .add (.bi .tuple (.v 3)) (.bin .mul (.tup [(.c (.int 0))]) (.bin .sub (.fld (.v 0) "bound") (.bi .len (.v 3))))) (.tup [(.v 4)]))]
def e_Mail_step : FnE := ⟨["self", "state", "row"], ["self", "state", "row", "kept", "got", "item"], 60, i_Mail_step⟩
def x_Mail_step : DX := ⟨d_Mail_step, e_Mail_step, c_Mail_step, 60⟩
theorem o_Mail_step : DXOk tab x_Mail_step := ⟨(fun h => by cases h), rfl, rfl, rfl, rfl, by kernel_rfl, scopeB_ok (by kernel_rfl), rfl, rfl, fun _ _ _ _ _ _ us hl => match us, hl with | [_, _, _], _ => rfl⟩
abbrev s_Torn_init : Stmt := sub 54 0
def d_Torn_init : He.DefD := ⟨("Torn", some "__init__"), "__init__", "Torn.__init__", dArgs s_Torn_init, dBody s_Torn_init, dScope s_Torn_init, [], []⟩
def c_Torn_init : Ctx := ⟨["self", "kind", "mend", "many", "names", "values", "bound", "log", "beat", "one", "answers", "cells"], dScope s_Torn_init, dScope s_Torn_init, true, tab, [], [], [], [], [], 1000000, [], ""⟩
def i_Torn_init : List IS := [.ife (.or (.not (.val (.call "is_log_kind" [(.v 1)]))) (.cmp .notin (.v 2) (.tup [(.c (.str "whole")), (.c (.str "any"))]))) [.raise "BadBox" [(.tup [(.v 1), (.v 2)])]] [], .setf (.v 0) "kind" (.v 1), .setf (.v 0) "mend" (.v 2), .set (.t [(.n 3), (.n 4), (.n 5), (.n 6), (.n 7), (.n 8)]) (.v 1), .setf (.v 0) "files" (.bin .mul (.v 3) (.v 4)), .setf (.v 0) "key_many" (.call "key_count" [(.v 1)]), .set (.n 9) (.bin .add (.bin .add (.tup [(.v 6), (.c (.int 2)), (.bin .add (.v 6) (.c (.int 1)))]) (.bin .mul (.tup [(.bin .mul (.c (.int 2)) (.fld (.v 0) "key_many"))]) (.v 6))) (.bin .mul (.tup [(.bin .mul (.c (.int 2)) (.bin .add (.v 5) (.c (.int 1))))]) (.v 6))), .setf (.v 0) "width" (.bi .len (.v 9)), .set (.n 10) (.bin .mul (.tup [(.bin .add (.v 5) (.c (.int 2)))]) (.v 3)), .set (.n 11) (.bin .add (.bin .add (.bin .add (.bin .mul (.tup [(.bin .add (.v 5) (.c (.int 1)))]) (.fld (.v 0) "files")) (.tup [(.v 8)])) (.bin .mul (.v 9) (.call "log_count" [(.v 1)]))) (.v 10)), .ex (.cmeth "Box" "__init__" [(.v 0), (.tup []), (.call "log_ports" [(.v 1)]), (.v 10), (.v 11)])]
def e_Torn_init : FnE := ⟨["self", "kind", "mend"], ["self", "kind", "mend", "many", "names", "values", "bound", "log", "beat", "one", "answers", "cells"], 60, i_Torn_init⟩
def x_Torn_init : DX := ⟨d_Torn_init, e_Torn_init, c_Torn_init, 60⟩
theorem o_Torn_init : DXOk tab x_Torn_init := ⟨(fun h => by cases h), rfl, rfl, rfl, rfl, by kernel_rfl, scopeB_ok (by kernel_rfl), rfl, rfl, fun _ _ _ _ _ _ us hl => match us, hl with | [_, _, _], _ => rfl⟩
abbrev s_Torn_begin : Stmt := sub 54 1
def d_Torn_begin : He.DefD := ⟨("Torn", some "begin"), "begin", "Torn.begin", dArgs s_Torn_begin, dBody s_Torn_begin, dScope s_Torn_begin, [], []⟩
def c_Torn_begin : Ctx := ⟨["self", "row"], dScope s_Torn_begin, dScope s_Torn_begin, true, tab, [], [], [], [], [], 1000000, [], ""⟩
def i_Torn_begin : List IS := [.ex (.call "_wall" [(.c (.int 8))])]
def e_Torn_begin : FnE := ⟨["self", "row"], ["self", "row"], 60, i_Torn_begin⟩
def x_Torn_begin : DX := ⟨d_Torn_begin, e_Torn_begin, c_Torn_begin, 60⟩
theorem o_Torn_begin : DXOk tab x_Torn_begin := ⟨(fun h => by cases h), rfl, rfl, rfl, rfl, by kernel_rfl, scopeB_ok (by kernel_rfl), rfl, rfl, fun _ _ _ _ _ _ us hl => match us, hl with | [_, _], _ => rfl⟩
abbrev s_Torn_shown : Stmt := sub 54 2
def d_Torn_shown : He.DefD := ⟨("Torn", some "shown"), "shown", "Torn.shown", dArgs s_Torn_shown, dBody s_Torn_shown, dScope s_Torn_shown, [], []⟩
def c_Torn_shown : Ctx := ⟨["self", "state"], dScope s_Torn_shown, dScope s_Torn_shown, true, tab, [], [], [], [], [], 1000000, [], ""⟩
def i_Torn_shown : List IS := [.ret (.sl (.v 1) (some (.bin .sub (.bi .len (.v 1)) (.ix (.fld (.v 0) "kind") (.c (.int 0))))) none)]
def e_Torn_shown : FnE := ⟨["self", "state"], ["self", "state"], 60, i_Torn_shown⟩
def x_Torn_shown : DX := ⟨d_Torn_shown, e_Torn_shown, c_Torn_shown, 60⟩
theorem o_Torn_shown : DXOk tab x_Torn_shown := ⟨(fun h => by cases h), rfl, rfl, rfl, rfl, by kernel_rfl, scopeB_ok (by kernel_rfl), rfl, rfl, fun _ _ _ _ _ _ us hl => match us, hl with | [_, _], _ => rfl⟩
abbrev s_Torn_rows_apart : Stmt := sub 54 3
def d_Torn_rows_apart : He.DefD := ⟨("Torn", some "rows_apart"), "rows_apart", "Torn.rows_apart", dArgs s_Torn_rows_apart, dBody s_Torn_rows_apart, dScope s_Torn_rows_apart, [], []⟩
def c_Torn_rows_apart : Ctx := ⟨["self", "state", "found", "bound", "log", "at", "one", "told"], dScope s_Torn_rows_apart, dScope s_Torn_rows_apart, true, tab, [], [], [], [], [], 1000000, [], ""⟩
def i_Torn_rows_apart : List IS := [.par 2 3 (.lst false []) (.ix (.fld (.v 0) "kind") (.c (.int 3))), .loop (.n 4) .rng [(.call "log_count" [(.fld (.v 0) "kind")])] [.set (.n 5) (.bin .add (.bin .add (.fld (.v 0) "files") (.c (.int 1))) (.bin .mul (.v 4) (.fld (.v 0) "width"))), .set (.n 6) (.bi .list (.sl (.v 1) (some (.v 5)) (some (.bin .add (.v 5) (.fld (.v 0) "width"))))), .set (.n 7) (.dicd ["oldest", "turn", "many"] [(.ix (.v 6) (.c (.int 0))), (.ix (.v 6) (.c (.int 1))), (.ix (.v 6) (.c (.int 2)))]), .ex (.upd (.v 7) (.dicd ["one", "two"] [(.sl (.v 6) (some (.c (.int 3))) (some (.bin .add (.c (.int 3)) (.v 3)))), (.sl (.v 6) (some (.bin .add (.c (.int 3)) (.v 3))) none)])), .ex (.bm .append (.v 2) [(.v 7)])], .ret (.v 2)]
def e_Torn_rows_apart : FnE := ⟨["self", "state"], ["self", "state", "found", "bound", "log", "at", "one", "told"], 60, i_Torn_rows_apart⟩
def x_Torn_rows_apart : DX := ⟨d_Torn_rows_apart, e_Torn_rows_apart, c_Torn_rows_apart, 60⟩
theorem o_Torn_rows_apart : DXOk tab x_Torn_rows_apart := ⟨(fun h => by cases h), rfl, rfl, rfl, rfl, by kernel_rfl, scopeB_ok (by kernel_rfl), rfl, rfl, fun _ _ _ _ _ _ us hl => match us, hl with | [_, _], _ => rfl⟩
abbrev s_Torn_place_at : Stmt := sub 54 4
def d_Torn_place_at : He.DefD := ⟨("Torn", some "place_at"), "place_at", "Torn.place_at", dArgs s_Torn_place_at, dBody s_Torn_place_at, dScope s_Torn_place_at, [], []⟩
def c_Torn_place_at : Ctx := ⟨["self", "told", "k", "at"], dScope s_Torn_place_at, dScope s_Torn_place_at, true, tab, [], [], [], [], [], 1000000, [], ""⟩
def i_Torn_place_at : List IS := [.set (.n 3) (.bin .add (.ix (.v 1) (.c (.str "oldest"))) (.v 2)), .ret (.tup [(.bin .mod (.v 3) (.ix (.fld (.v 0) "kind") (.c (.int 3)))), (.ife (.cmp .lt (.v 3) (.ix (.fld (.v 0) "kind") (.c (.int 3)))) (.ix (.v 1) (.c (.str "turn"))) (.bin .sub (.c (.int 1)) (.ix (.v 1) (.c (.str "turn")))))])]
def e_Torn_place_at : FnE := ⟨["self", "told", "k"], ["self", "told", "k", "at"], 60, i_Torn_place_at⟩
def x_Torn_place_at : DX := ⟨d_Torn_place_at, e_Torn_place_at, c_Torn_place_at, 60⟩
theorem o_Torn_place_at : DXOk tab x_Torn_place_at := ⟨(fun h => by cases h), rfl, rfl, rfl, rfl, by kernel_rfl, scopeB_ok (by kernel_rfl), rfl, rfl, fun _ _ _ _ _ _ us hl => match us, hl with | [_, _, _], _ => rfl⟩
abbrev s_Torn_entries_of : Stmt := sub 54 5
def d_Torn_entries_of : He.DefD := ⟨("Torn", some "entries_of"), "entries_of", "Torn.entries_of", dArgs s_Torn_entries_of, dBody s_Torn_entries_of, dScope s_Torn_entries_of, [], []⟩
def c_Torn_entries_of : Ctx := ⟨["self", "told", "found", "k", "place", "turn"], dScope s_Torn_entries_of, dScope s_Torn_entries_of, true, tab, [], [], [], [], [], 1000000, [], ""⟩
def i_Torn_entries_of : List IS := [.set (.n 2) (.lst false []), .loop (.n 3) .rng [(.ix (.v 1) (.c (.str "many")))] [.set (.t [(.n 4), (.n 5)]) (.meth (.v 0) "place_at" [(.v 1), (.v 3)]), .ex (.bm .append (.v 2) [(.tup [(.bin .mod (.ix (.ix (.v 1) (.c (.str "one"))) (.v 4)) (.fld (.v 0) "key_many")), (.bin .mod (.ix (.ix (.v 1) (.c (.str "two"))) (.v 4)) (.bin .add (.ix (.fld (.v 0) "kind") (.c (.int 2))) (.c (.int 1))))])])], .ret (.v 2)]
def e_Torn_entries_of : FnE := ⟨["self", "told"], ["self", "told", "found", "k", "place", "turn"], 60, i_Torn_entries_of⟩
def x_Torn_entries_of : DX := ⟨d_Torn_entries_of, e_Torn_entries_of, c_Torn_entries_of, 60⟩
theorem o_Torn_entries_of : DXOk tab x_Torn_entries_of := ⟨(fun h => by cases h), rfl, rfl, rfl, rfl, by kernel_rfl, scopeB_ok (by kernel_rfl), rfl, rfl, fun _ _ _ _ _ _ us hl => match us, hl with | [_, _], _ => rfl⟩
abbrev s_Torn_latest : Stmt := sub 54 6
def d_Torn_latest : He.DefD := ⟨("Torn", some "latest"), "latest", "Torn.latest", dArgs s_Torn_latest, dBody s_Torn_latest, dScope s_Torn_latest, [], []⟩
def c_Torn_latest : Ctx := ⟨["self", "files", "rows", "client", "name", "told", "key", "some", "one", "there"], dScope s_Torn_latest, dScope s_Torn_latest, true, tab, [], [], [], [], [], 1000000, [], ""⟩
def i_Torn_latest : List IS := [.set (.t [(.n 5), (.n 6)]) (.tup [(.ix (.v 2) (.call "log_of" [(.fld (.v 0) "kind"), (.v 3)])), (.call "key_of" [(.fld (.v 0) "kind"), (.v 3), (.v 4)])]), .set (.n 7) (.comp false (.v 9) (.t [(.n 8), (.n 9)]) .seq [(.meth (.v 0) "entries_of" [(.v 5)])] (some (.cmp .eq (.v 8) (.v 6))) [8, 9]), .ret (.ife (.val (.v 7)) (.ix (.v 7) (.neg (.c (.int 1)))) (.ix (.v 1) (.bin .add (.bin .mul (.v 3) (.ix (.fld (.v 0) "kind") (.c (.int 1)))) (.v 4))))]
def e_Torn_latest : FnE := ⟨["self", "files", "rows", "client", "name"], ["self", "files", "rows", "client", "name", "told", "key", "some", "one", "there"], 60, i_Torn_latest⟩
def x_Torn_latest : DX := ⟨d_Torn_latest, e_Torn_latest, c_Torn_latest, 60⟩
theorem o_Torn_latest : DXOk tab x_Torn_latest := ⟨(fun h => by cases h), rfl, rfl, rfl, rfl, by kernel_rfl, scopeB_ok (by kernel_rfl), rfl, rfl, fun _ _ _ _ _ _ us hl => match us, hl with | [_, _, _, _, _], _ => rfl⟩
abbrev s_Torn_answered : Stmt := sub 54 7
def d_Torn_answered : He.DefD := ⟨("Torn", some "answered"), "answered", "Torn.answered", dArgs s_Torn_answered, dBody s_Torn_answered, dScope s_Torn_answered, [], []⟩
def c_Torn_answered : Ctx := ⟨["self", "files", "rows", "client", "ask", "torn", "size", "name", "deed", "answer", "fresh", "told", "place", "turn"], dScope s_Torn_answered, dScope s_Torn_answered, true, tab, [], [], [], [], [], 1000000, [], ""⟩
def i_Torn_answered : List IS := [.set (.n 6) (.bin .add (.c (.int 3)) (.ix (.fld (.v 0) "kind") (.c (.int 2)))), .par 7 8 (.bin .fdiv (.bin .sub (.v 4) (.c (.int 1))) (.v 6)) (.bin .mod (.bin .sub (.v 4) (.c (.int 1))) (.v 6)), .set (.t [(.n 9), (.n 10)]) (.call "changed_file" [(.meth (.v 0) "latest" [(.v 1), (.v 2), (.v 3), (.v 7)]), (.v 8)]), .ife (.cmp .is_ (.v 10) (.c .non)) [.ret (.v 9)] [], .set (.n 11) (.ix (.v 2) (.call "log_of" [(.fld (.v 0) "kind"), (.v 3)])), .ife (.cmp .eq (.ix (.v 11) (.c (.str "many"))) (.ix (.fld (.v 0) "kind") (.c (.int 3)))) [.ret (.c (.int 1))] [], .set (.t [(.n 12), (.n 13)]) (.meth (.v 0) "place_at" [(.v 11), (.ix (.v 11) (.c (.str "many")))]), .setix (.ix (.v 11) (.c (.str "one"))) (.v 12) (.bin .add (.bin .mul (.v 13) (.fld (.v 0) "key_many")) (.call "key_of" [(.fld (.v 0) "kind"), (.v 3), (.v 7)])), .ife (.not (.val (.v 5))) [.setix (.ix (.v 11) (.c (.str "two"))) (.v 12) (.bin .add (.bin .mul (.v 13) (.bin .add (.ix (.fld (.v 0) "kind") (.c (.int 2))) (.c (.int 1)))) (.v 10))] [], .augix (.v 11) (.c (.str "many")) .add (.c (.int 1)), .ret (.v 9)]
def e_Torn_answered : FnE := ⟨["self", "files", "rows", "client", "ask", "torn"], ["self", "files", "rows", "client", "ask", "torn", "size", "name", "deed", "answer", "fresh", "told", "place", "turn"], 60, i_Torn_answered⟩
def x_Torn_answered : DX := ⟨d_Torn_answered, e_Torn_answered, c_Torn_answered, 60⟩
theorem o_Torn_answered : DXOk tab x_Torn_answered := ⟨(fun h => by cases h), rfl, rfl, rfl, rfl, by kernel_rfl, scopeB_ok (by kernel_rfl), rfl, rfl, fun _ _ _ _ _ _ us hl => match us, hl with | [_, _, _, _, _, _], _ => rfl⟩
abbrev s_Torn_laid_down : Stmt := sub 54 8
def d_Torn_laid_down : He.DefD := ⟨("Torn", some "laid_down"), "laid_down", "Torn.laid_down", dArgs s_Torn_laid_down, dBody s_Torn_laid_down, dScope s_Torn_laid_down, [], []⟩
def c_Torn_laid_down : Ctx := ⟨["self", "files", "rows", "log", "told", "key", "there"], dScope s_Torn_laid_down, dScope s_Torn_laid_down, true, tab, [], [], [], [], [], 1000000, [], ""⟩
def i_Torn_laid_down : List IS := [.loop (.t [(.n 3), (.n 4)]) .enum [(.v 2)] [.ife (.val (.ix (.v 4) (.c (.str "many")))) [.set (.t [(.n 5), (.n 6)]) (.ix (.meth (.v 0) "entries_of" [(.v 4)]) (.c (.int 0))), .setix (.v 1) (.call "place_of_key" [(.fld (.v 0) "kind"), (.v 3), (.v 5)]) (.v 6), .augix (.v 4) (.c (.str "many")) .sub (.c (.int 1)), .augix (.v 4) (.c (.str "oldest")) .add (.c (.int 1)), .ife (.cmp .eq (.ix (.v 4) (.c (.str "oldest"))) (.ix (.fld (.v 0) "kind") (.c (.int 3)))) [.set2 (.v 4) (.c (.str "oldest")) (.v 4) (.c (.str "turn")) (.tup [(.c (.int 0)), (.bin .sub (.c (.int 1)) (.ix (.v 4) (.c (.str "turn"))))])] []] []]]
def e_Torn_laid_down : FnE := ⟨["self", "files", "rows"], ["self", "files", "rows", "log", "told", "key", "there"], 60, i_Torn_laid_down⟩
def x_Torn_laid_down : DX := ⟨d_Torn_laid_down, e_Torn_laid_down, c_Torn_laid_down, 60⟩
theorem o_Torn_laid_down : DXOk tab x_Torn_laid_down := ⟨(fun h => by cases h), rfl, rfl, rfl, rfl, by kernel_rfl, scopeB_ok (by kernel_rfl), rfl, rfl, fun _ _ _ _ _ _ us hl => match us, hl with | [_, _, _], _ => rfl⟩
abbrev s_Torn_read_again : Stmt := sub 54 9
def d_Torn_read_again : He.DefD := ⟨("Torn", some "read_again"), "read_again", "Torn.read_again", dArgs s_Torn_read_again, dBody s_Torn_read_again, dScope s_Torn_read_again, [], []⟩
def c_Torn_read_again : Ctx := ⟨["self", "told", "k", "place", "turn", "is_first", "is_second"], dScope s_Torn_read_again, dScope s_Torn_read_again, true, tab, [], [], [], [], [], 1000000, [], ""⟩
def i_Torn_read_again : List IS := [.setix (.v 1) (.c (.str "many")) (.c (.int 0)), .loop (.n 2) .rng [(.ix (.fld (.v 0) "kind") (.c (.int 3)))] [.set (.t [(.n 3), (.n 4)]) (.meth (.v 0) "place_at" [(.v 1), (.v 2)]), .set (.n 5) (.cmp .eq (.bin .fdiv (.ix (.ix (.v 1) (.c (.str "one"))) (.v 3)) (.fld (.v 0) "key_many")) (.v 4)), .set (.n 6) (.cmp .eq (.bin .fdiv (.ix (.ix (.v 1) (.c (.str "two"))) (.v 3)) (.bin .add (.ix (.fld (.v 0) "kind") (.c (.int 2))) (.c (.int 1)))) (.v 4)), .ife (.or (.not (.val (.v 5))) (.and (.cmp .eq (.fld (.v 0) "mend") (.c (.str "whole"))) (.not (.val (.v 6))))) [.retN] [], .augix (.v 1) (.c (.str "many")) .add (.c (.int 1))]]
def e_Torn_read_again : FnE := ⟨["self", "told"], ["self", "told", "k", "place", "turn", "is_first", "is_second"], 60, i_Torn_read_again⟩
def x_Torn_read_again : DX := ⟨d_Torn_read_again, e_Torn_read_again, c_Torn_read_again, 60⟩
theorem o_Torn_read_again : DXOk tab x_Torn_read_again := ⟨(fun h => by cases h), rfl, rfl, rfl, rfl, by kernel_rfl, scopeB_ok (by kernel_rfl), rfl, rfl, fun _ _ _ _ _ _ us hl => match us, hl with | [_, _], _ => rfl⟩
abbrev s_Torn_step : Stmt := sub 54 10
def d_Torn_step : He.DefD := ⟨("Torn", some "step"), "step", "Torn.step", dArgs s_Torn_step, dBody s_Torn_step, dScope s_Torn_step, [], []⟩
def c_Torn_step : Ctx := ⟨["self", "state", "row", "many", "torn", "files", "clock", "rows", "answers", "client", "ask", "told", "found"], dScope s_Torn_step, dScope s_Torn_step, true, tab, [], [], [], [], [], 1000000, [], ""⟩
def i_Torn_step : List IS := [.par 3 4 (.ix (.fld (.v 0) "kind") (.c (.int 0))) (.cmp .eq (.ix (.v 2) (.ix (.fld (.v 0) "kind") (.c (.int 0)))) (.c (.int 1))), .par3 5 6 7 (.bi .list (.sl (.v 1) none (some (.fld (.v 0) "files")))) (.ix (.v 1) (.fld (.v 0) "files")) (.meth (.v 0) "rows_apart" [(.v 1)]), .ife (.and (.cmp .eq (.v 6) (.bin .sub (.ix (.fld (.v 0) "kind") (.c (.int 5))) (.c (.int 1)))) (.not (.val (.v 4)))) [.ex (.meth (.v 0) "laid_down" [(.v 5), (.v 7)])] [], .set (.n 8) (.lst false []), .loop (.t [(.n 9), (.n 10)]) .enum [(.sl (.v 2) none (some (.v 3)))] [.ex (.bm .append (.v 8) [(.ife (.val (.v 10)) (.meth (.v 0) "answered" [(.v 5), (.v 7), (.v 9), (.v 10), (.v 4)]) (.c (.int 0)))])], .ife (.val (.v 4)) [.set (.n 8) (.bin .mul (.lst false [(.c (.int 0))]) (.v 3)), .loop (.n 11) .seq [(.v 7)] [.ex (.meth (.v 0) "read_again" [(.v 11)])]] [], .set (.n 12) (.bin .add (.v 5) (.lst false [(.ife (.val (.v 4)) (.v 6) (.bin .mod (.bin .add (.v 6) (.c (.int 1))) (.ix (.fld (.v 0) "kind") (.c (.int 5)))))])), .loop (.n 11) .seq [(.v 7)] [.set (.n 12) (.bin .add (.bin .add (.bin .add (.v 12) (.lst false [(.ix (.v 11) (.c (.str "oldest"))), (.ix (.v 11) (.c (.str "turn"))), (.ix (.v 11) (.c (.str "many")))])) (.ix (.v 11) (.c (.str "one")))) (.ix (.v 11) (.c (.str "two"))))], .ret (.bi .tuple (.bin .add (.v 12) (.v 8)))]
def e_Torn_step : FnE := ⟨["self", "state", "row"], ["self", "state", "row", "many", "torn", "files", "clock", "rows", "answers", "client", "ask", "told", "found"], 60, i_Torn_step⟩
def x_Torn_step : DX := ⟨d_Torn_step, e_Torn_step, c_Torn_step, 60⟩
theorem o_Torn_step : DXOk tab x_Torn_step := ⟨(fun h => by cases h), rfl, rfl, rfl, rfl, by kernel_rfl, scopeB_ok (by kernel_rfl), rfl, rfl, fun _ _ _ _ _ _ us hl => match us, hl with | [_, _, _], _ => rfl⟩
abbrev s_l_refused : Stmt := top 80
def d_l_refused : He.DefD := ⟨("_law_refused", none), "_law_refused", "_law_refused", dArgs s_l_refused, dBody s_l_refused, dScope s_l_refused, [], []⟩
def c_l_refused : Ctx := ⟨["call", "parts", "found", "e"], dScope s_l_refused, dScope s_l_refused, true, tab, [], [], [], [], [], 1000000, [], ""⟩
def b_l_refused : CatB := ⟨[(2, (.bl false))], false, [⟨"BadBox", (some 3), some 2, (.eq (.rp (.f "box")) (.rp (.v 1)))⟩, ⟨"HouseError", none, some 2, (.c (.bl false))⟩], [.ret (.v 2)]⟩
def ce_l_refused : CatE := ⟨["call", "parts"], ["call", "parts", "found", "e"], 60, b_l_refused, exmT⟩
def x_l_refused : CX := ⟨d_l_refused, ce_l_refused, c_l_refused, 60⟩
theorem o_l_refused : CXOk tab exmT x_l_refused := ⟨rfl, rfl, rfl, rfl, rfl, ⟨_, _, rfl, by kernel_rfl, by kernel_rfl, by kernel_rfl⟩, scopeB_ok (by kernel_rfl), rfl, rfl, fun _ _ _ _ _ _ us hl => match us, hl with | [_, _], _ => rfl, rfl⟩
abbrev s_l_place : Stmt := top 81
def d_l_place : He.DefD := ⟨("_law_place", none), "_law_place", "_law_place", dArgs s_l_place, dBody s_l_place, dScope s_l_place, [], []⟩
def c_l_place : Ctx := ⟨["call", "found", "e"], dScope s_l_place, dScope s_l_place, true, tab, [], [], [], [], [], 1000000, [], ""⟩
def b_l_place : CatB := ⟨[(1, .non)], false, [⟨"BadText", (some 2), some 1, (.tup [(.f "line"), (.f "column")])⟩], [.ret (.v 1)]⟩
def ce_l_place : CatE := ⟨["call"], ["call", "found", "e"], 60, b_l_place, exmT⟩
def x_l_place : CX := ⟨d_l_place, ce_l_place, c_l_place, 60⟩
theorem o_l_place : CXOk tab exmT x_l_place := ⟨rfl, rfl, rfl, rfl, rfl, ⟨_, _, rfl, by kernel_rfl, by kernel_rfl, by kernel_rfl⟩, scopeB_ok (by kernel_rfl), rfl, rfl, fun _ _ _ _ _ _ us hl => match us, hl with | [_], _ => rfl, rfl⟩
abbrev s_BadText_init : Stmt := sub 3 0
def d_BadText_init : He.DefD := ⟨("BadText", some "__init__"), "__init__", "BadText.__init__", dArgs s_BadText_init, dBody s_BadText_init, dScope s_BadText_init, [], []⟩
def x_BadText_init : EX := ⟨["line", "column"], d_BadText_init, ["self", "line", "column"]⟩
theorem o_BadText_init : EXOk ("BadText", x_BadText_init) := ⟨rfl, scopeB_ok (by kernel_rfl), by kernel_rfl, rfl, by decide, by decide, rfl, rfl, fun _ _ _ _ _ _ us hl => match us, hl with | [_, _, _], _ => rfl⟩
abbrev s_BadBox_init : Stmt := sub 4 0
def d_BadBox_init : He.DefD := ⟨("BadBox", some "__init__"), "__init__", "BadBox.__init__", dArgs s_BadBox_init, dBody s_BadBox_init, dScope s_BadBox_init, [], []⟩
def x_BadBox_init : EX := ⟨["box"], d_BadBox_init, ["self", "box"]⟩
theorem o_BadBox_init : EXOk ("BadBox", x_BadBox_init) := ⟨rfl, scopeB_ok (by kernel_rfl), by kernel_rfl, rfl, by decide, by decide, rfl, rfl, fun _ _ _ _ _ _ us hl => match us, hl with | [_, _], _ => rfl⟩
def txt : Txt := ⟨(("_wall", x_wall) :: ("is_whole", x_is_whole) :: ("is_count", x_is_count) :: ("is_box", x_is_box) :: ("need_box", x_need_box) :: ("are_same_ports", x_are_same_ports) :: ("same_ports", x_same_ports) :: ("is_between", x_is_between) :: ("is_lot_below", x_is_lot_below) :: ("are_planner_parts", x_are_planner_parts) :: ("is_first_place", x_is_first_place) :: ("next_stretch", x_next_stretch) :: ("is_files_kind", x_is_files_kind) :: ("ask_size", x_ask_size) :: ("ask_apart", x_ask_apart) :: ("divmod_small", x_divmod_small) :: ("file_cells", x_file_cells) :: ("file_place", x_file_place) :: ("room_of", x_room_of) :: ("room_files", x_room_files) :: ("is_room_left", x_is_room_left) :: ("wait_cells", x_wait_cells) :: ("waiting", x_waiting) :: ("room_count", x_room_count) :: ("is_log_kind", x_is_log_kind) :: ("log_count", x_log_count) :: ("log_of", x_log_of) :: ("key_count", x_key_count) :: ("key_of", x_key_of) :: ("place_of_key", x_place_of_key) :: ("log_ports", x_log_ports) :: ("changed_file", x_changed_file) :: ("number_of", x_number_of) :: ("numbers_of", x_numbers_of) :: ("word_told", x_word_told) :: ("words_read", x_words_read) :: ("need_end", x_need_end) :: ("planner_told", x_planner_told) :: ("planner_box", x_planner_box) :: ("store_words", x_store_words) :: ("files_told", x_files_told) :: ("files_box", x_files_box) :: ("plain_told", x_plain_told) :: ("mailbox_told", x_mailbox_told) :: ("mailbox_box", x_mailbox_box) :: ("numbers_told_of", x_numbers_told_of) :: ("numbers_box", x_numbers_box) :: ("bench_told", x_bench_told) :: ("bench_box", x_bench_box) :: ("log_told", x_log_told) :: ("log_box", x_log_box) :: ("_law_pen", x_l_pen) :: ("_law_told", x_l_told) :: ("_law_box", x_l_box) :: ("_law_parts_right", x_l_parts_right) :: ("_law_kinds", x_l_kinds) :: ("law", x_law) :: []),
  ((("Box", "__init__"), x_Box_init) :: (("Planner", "__init__"), x_Planner_init) :: (("Planner", "begin"), x_Planner_begin) :: (("Planner", "goer"), x_Planner_goer) :: (("Planner", "shown"), x_Planner_shown) :: (("Planner", "given"), x_Planner_given) :: (("Planner", "step"), x_Planner_step) :: (("Always", "__init__"), x_Always_init) :: (("Always", "begin"), x_Always_begin) :: (("Always", "shown"), x_Always_shown) :: (("Always", "step"), x_Always_step) :: (("Bench", "__init__"), x_Bench_init) :: (("Bench", "begin"), x_Bench_begin) :: (("Bench", "shown"), x_Bench_shown) :: (("Bench", "turned"), x_Bench_turned) :: (("Bench", "step"), x_Bench_step) :: (("Names", "__init__"), x_Names_init) :: (("Names", "begin"), x_Names_begin) :: (("Names", "shown"), x_Names_shown) :: (("Names", "done"), x_Names_done) :: (("Names", "step"), x_Names_step) :: (("Blocks", "__init__"), x_Blocks_init) :: (("Blocks", "begin"), x_Blocks_begin) :: (("Blocks", "shown"), x_Blocks_shown) :: (("Blocks", "free_block"), x_Blocks_free_block) :: (("Blocks", "take_block"), x_Blocks_take_block) :: (("Blocks", "free_again"), x_Blocks_free_again) :: (("Blocks", "done"), x_Blocks_done) :: (("Blocks", "steps_for"), x_Blocks_steps_for) :: (("Blocks", "now"), x_Blocks_now) :: (("Blocks", "step"), x_Blocks_step) :: (("Counter", "__init__"), x_Counter_init) :: (("Counter", "begin"), x_Counter_begin) :: (("Counter", "shown"), x_Counter_shown) :: (("Counter", "step"), x_Counter_step) :: (("Logged", "__init__"), x_Logged_init) :: (("Logged", "begin"), x_Logged_begin) :: (("Logged", "shown"), x_Logged_shown) :: (("Logged", "logs_apart"), x_Logged_logs_apart) :: (("Logged", "entry_apart"), x_Logged_entry_apart) :: (("Logged", "latest"), x_Logged_latest) :: (("Logged", "answered"), x_Logged_answered) :: (("Logged", "laid_down"), x_Logged_laid_down) :: (("Logged", "step"), x_Logged_step) :: (("Mail", "__init__"), x_Mail_init) :: (("Mail", "begin"), x_Mail_begin) :: (("Mail", "shown"), x_Mail_shown) :: (("Mail", "step"), x_Mail_step) :: (("Torn", "__init__"), x_Torn_init) :: (("Torn", "begin"), x_Torn_begin) :: (("Torn", "shown"), x_Torn_shown) :: (("Torn", "rows_apart"), x_Torn_rows_apart) :: (("Torn", "place_at"), x_Torn_place_at) :: (("Torn", "entries_of"), x_Torn_entries_of) :: (("Torn", "latest"), x_Torn_latest) :: (("Torn", "answered"), x_Torn_answered) :: (("Torn", "laid_down"), x_Torn_laid_down) :: (("Torn", "read_again"), x_Torn_read_again) :: (("Torn", "step"), x_Torn_step) :: []), ["Planner", "Always", "Bench", "Names", "Blocks", "Counter", "Logged", "Mail", "Torn"], ["Planner", "Always", "Bench", "Names", "Blocks", "Counter", "Logged", "Mail", "Torn"], [(("Planner", "Box"), true), (("Always", "Box"), true), (("Bench", "Box"), true), (("Names", "Box"), true), (("Blocks", "Box"), true), (("Counter", "Box"), true), (("Logged", "Box"), true), (("Mail", "Box"), true), (("Torn", "Box"), true), (("Names", "Names"), true), (("Blocks", "Blocks"), true), (("Logged", "Logged"), true), (("Torn", "Torn"), true)], tab, [], [("BadText", x_BadText_init), ("BadBox", x_BadBox_init)], [("_law_refused", x_l_refused), ("_law_place", x_l_place)], exmT⟩
theorem txtOk : TxtOk txt := by
  refine ⟨?_, ?_, by decide +kernel, by decide +kernel, by decide +kernel, by decide +kernel, by decide +kernel, by decide +kernel, by decide +kernel, ?_, ?_, by decide +kernel, by decide +kernel, by decide +kernel⟩
  · intro q hq
    simp only [txt, List.mem_cons, List.not_mem_nil, or_false] at hq
    rcases hq with rfl | rfl | rfl | rfl | rfl | rfl | rfl | rfl | rfl | rfl | rfl | rfl | rfl | rfl | rfl | rfl | rfl | rfl | rfl | rfl | rfl | rfl | rfl | rfl | rfl | rfl | rfl | rfl | rfl | rfl | rfl | rfl | rfl | rfl | rfl | rfl | rfl | rfl | rfl | rfl | rfl | rfl | rfl | rfl | rfl | rfl | rfl | rfl | rfl | rfl | rfl | rfl | rfl | rfl | rfl | rfl | rfl
    · exact ⟨o_wall, rfl⟩
    · exact ⟨o_is_whole, rfl⟩
    · exact ⟨o_is_count, rfl⟩
    · exact ⟨o_is_box, rfl⟩
    · exact ⟨o_need_box, rfl⟩
    · exact ⟨o_are_same_ports, rfl⟩
    · exact ⟨o_same_ports, rfl⟩
    · exact ⟨o_is_between, rfl⟩
    · exact ⟨o_is_lot_below, rfl⟩
    · exact ⟨o_are_planner_parts, rfl⟩
    · exact ⟨o_is_first_place, rfl⟩
    · exact ⟨o_next_stretch, rfl⟩
    · exact ⟨o_is_files_kind, rfl⟩
    · exact ⟨o_ask_size, rfl⟩
    · exact ⟨o_ask_apart, rfl⟩
    · exact ⟨o_divmod_small, rfl⟩
    · exact ⟨o_file_cells, rfl⟩
    · exact ⟨o_file_place, rfl⟩
    · exact ⟨o_room_of, rfl⟩
    · exact ⟨o_room_files, rfl⟩
    · exact ⟨o_is_room_left, rfl⟩
    · exact ⟨o_wait_cells, rfl⟩
    · exact ⟨o_waiting, rfl⟩
    · exact ⟨o_room_count, rfl⟩
    · exact ⟨o_is_log_kind, rfl⟩
    · exact ⟨o_log_count, rfl⟩
    · exact ⟨o_log_of, rfl⟩
    · exact ⟨o_key_count, rfl⟩
    · exact ⟨o_key_of, rfl⟩
    · exact ⟨o_place_of_key, rfl⟩
    · exact ⟨o_log_ports, rfl⟩
    · exact ⟨o_changed_file, rfl⟩
    · exact ⟨o_number_of, rfl⟩
    · exact ⟨o_numbers_of, rfl⟩
    · exact ⟨o_word_told, rfl⟩
    · exact ⟨o_words_read, rfl⟩
    · exact ⟨o_need_end, rfl⟩
    · exact ⟨o_planner_told, rfl⟩
    · exact ⟨o_planner_box, rfl⟩
    · exact ⟨o_store_words, rfl⟩
    · exact ⟨o_files_told, rfl⟩
    · exact ⟨o_files_box, rfl⟩
    · exact ⟨o_plain_told, rfl⟩
    · exact ⟨o_mailbox_told, rfl⟩
    · exact ⟨o_mailbox_box, rfl⟩
    · exact ⟨o_numbers_told_of, rfl⟩
    · exact ⟨o_numbers_box, rfl⟩
    · exact ⟨o_bench_told, rfl⟩
    · exact ⟨o_bench_box, rfl⟩
    · exact ⟨o_log_told, rfl⟩
    · exact ⟨o_log_box, rfl⟩
    · exact ⟨o_l_pen, rfl⟩
    · exact ⟨o_l_told, rfl⟩
    · exact ⟨o_l_box, rfl⟩
    · exact ⟨o_l_parts_right, rfl⟩
    · exact ⟨o_l_kinds, rfl⟩
    · exact ⟨o_law, rfl⟩
  · intro q hq
    simp only [txt, List.mem_cons, List.not_mem_nil, or_false] at hq
    rcases hq with rfl | rfl | rfl | rfl | rfl | rfl | rfl | rfl | rfl | rfl | rfl | rfl | rfl | rfl | rfl | rfl | rfl | rfl | rfl | rfl | rfl | rfl | rfl | rfl | rfl | rfl | rfl | rfl | rfl | rfl | rfl | rfl | rfl | rfl | rfl | rfl | rfl | rfl | rfl | rfl | rfl | rfl | rfl | rfl | rfl | rfl | rfl | rfl | rfl | rfl | rfl | rfl | rfl | rfl | rfl | rfl | rfl | rfl | rfl
    · exact ⟨o_Box_init, rfl, by decide +kernel⟩
    · exact ⟨o_Planner_init, rfl, by decide +kernel⟩
    · exact ⟨o_Planner_begin, rfl, by decide +kernel⟩
    · exact ⟨o_Planner_goer, rfl, by decide +kernel⟩
    · exact ⟨o_Planner_shown, rfl, by decide +kernel⟩
    · exact ⟨o_Planner_given, rfl, by decide +kernel⟩
    · exact ⟨o_Planner_step, rfl, by decide +kernel⟩
    · exact ⟨o_Always_init, rfl, by decide +kernel⟩
    · exact ⟨o_Always_begin, rfl, by decide +kernel⟩
    · exact ⟨o_Always_shown, rfl, by decide +kernel⟩
    · exact ⟨o_Always_step, rfl, by decide +kernel⟩
    · exact ⟨o_Bench_init, rfl, by decide +kernel⟩
    · exact ⟨o_Bench_begin, rfl, by decide +kernel⟩
    · exact ⟨o_Bench_shown, rfl, by decide +kernel⟩
    · exact ⟨o_Bench_turned, rfl, by decide +kernel⟩
    · exact ⟨o_Bench_step, rfl, by decide +kernel⟩
    · exact ⟨o_Names_init, rfl, by decide +kernel⟩
    · exact ⟨o_Names_begin, rfl, by decide +kernel⟩
    · exact ⟨o_Names_shown, rfl, by decide +kernel⟩
    · exact ⟨o_Names_done, rfl, by decide +kernel⟩
    · exact ⟨o_Names_step, rfl, by decide +kernel⟩
    · exact ⟨o_Blocks_init, rfl, by decide +kernel⟩
    · exact ⟨o_Blocks_begin, rfl, by decide +kernel⟩
    · exact ⟨o_Blocks_shown, rfl, by decide +kernel⟩
    · exact ⟨o_Blocks_free_block, rfl, by decide +kernel⟩
    · exact ⟨o_Blocks_take_block, rfl, by decide +kernel⟩
    · exact ⟨o_Blocks_free_again, rfl, by decide +kernel⟩
    · exact ⟨o_Blocks_done, rfl, by decide +kernel⟩
    · exact ⟨o_Blocks_steps_for, rfl, by decide +kernel⟩
    · exact ⟨o_Blocks_now, rfl, by decide +kernel⟩
    · exact ⟨o_Blocks_step, rfl, by decide +kernel⟩
    · exact ⟨o_Counter_init, rfl, by decide +kernel⟩
    · exact ⟨o_Counter_begin, rfl, by decide +kernel⟩
    · exact ⟨o_Counter_shown, rfl, by decide +kernel⟩
    · exact ⟨o_Counter_step, rfl, by decide +kernel⟩
    · exact ⟨o_Logged_init, rfl, by decide +kernel⟩
    · exact ⟨o_Logged_begin, rfl, by decide +kernel⟩
    · exact ⟨o_Logged_shown, rfl, by decide +kernel⟩
    · exact ⟨o_Logged_logs_apart, rfl, by decide +kernel⟩
    · exact ⟨o_Logged_entry_apart, rfl, by decide +kernel⟩
    · exact ⟨o_Logged_latest, rfl, by decide +kernel⟩
    · exact ⟨o_Logged_answered, rfl, by decide +kernel⟩
    · exact ⟨o_Logged_laid_down, rfl, by decide +kernel⟩
    · exact ⟨o_Logged_step, rfl, by decide +kernel⟩
    · exact ⟨o_Mail_init, rfl, by decide +kernel⟩
    · exact ⟨o_Mail_begin, rfl, by decide +kernel⟩
    · exact ⟨o_Mail_shown, rfl, by decide +kernel⟩
    · exact ⟨o_Mail_step, rfl, by decide +kernel⟩
    · exact ⟨o_Torn_init, rfl, by decide +kernel⟩
    · exact ⟨o_Torn_begin, rfl, by decide +kernel⟩
    · exact ⟨o_Torn_shown, rfl, by decide +kernel⟩
    · exact ⟨o_Torn_rows_apart, rfl, by decide +kernel⟩
    · exact ⟨o_Torn_place_at, rfl, by decide +kernel⟩
    · exact ⟨o_Torn_entries_of, rfl, by decide +kernel⟩
    · exact ⟨o_Torn_latest, rfl, by decide +kernel⟩
    · exact ⟨o_Torn_answered, rfl, by decide +kernel⟩
    · exact ⟨o_Torn_laid_down, rfl, by decide +kernel⟩
    · exact ⟨o_Torn_read_again, rfl, by decide +kernel⟩
    · exact ⟨o_Torn_step, rfl, by decide +kernel⟩
  · intro q hq
    simp only [txt, List.mem_cons, List.not_mem_nil, or_false] at hq
    rcases hq with rfl | rfl
    · exact ⟨o_BadText_init, by decide +kernel⟩
    · exact ⟨o_BadBox_init, by decide +kernel⟩
  · intro q hq
    simp only [txt, List.mem_cons, List.not_mem_nil, or_false] at hq
    rcases hq with rfl | rfl
    · exact ⟨o_l_refused, rfl⟩
    · exact ⟨o_l_place, rfl⟩
theorem q_is_whole {k : Nat} {h : Hs} {a0 : D} : (wr txt.pg (k + 1)).call "is_whole" [a0] h = fin (exs (ex (wr txt.pg k) 60) i_is_whole [some a0] h) := by kernel_rfl
theorem q_is_count {k : Nat} {h : Hs} {a0 : D} : (wr txt.pg (k + 1)).call "is_count" [a0] h = fin (exs (ex (wr txt.pg k) 60) i_is_count [some a0] h) := by kernel_rfl
theorem q_is_box {k : Nat} {h : Hs} {a0 : D} : (wr txt.pg (k + 1)).call "is_box" [a0] h = fin (exs (ex (wr txt.pg k) 60) i_is_box [some a0] h) := by kernel_rfl
theorem q_need_box {k : Nat} {h : Hs} {a0 : D} : (wr txt.pg (k + 1)).call "need_box" [a0] h = fin (exs (ex (wr txt.pg k) 60) i_need_box [some a0] h) := by kernel_rfl
theorem q_are_same_ports {k : Nat} {h : Hs} {a0 a1 : D} : (wr txt.pg (k + 1)).call "are_same_ports" [a0, a1] h = fin (exs (ex (wr txt.pg k) 60) i_are_same_ports [some a0, some a1] h) := by kernel_rfl
theorem q_same_ports {k : Nat} {h : Hs} {a0 a1 : D} : (wr txt.pg (k + 1)).call "same_ports" [a0, a1] h = fin (exs (ex (wr txt.pg k) 60) i_same_ports [some a0, some a1] h) := by kernel_rfl
theorem q_is_between {k : Nat} {h : Hs} {a0 a1 a2 : D} : (wr txt.pg (k + 1)).call "is_between" [a0, a1, a2] h = fin (exs (ex (wr txt.pg k) 60) i_is_between [some a0, some a1, some a2] h) := by kernel_rfl
theorem q_is_lot_below {k : Nat} {h : Hs} {a0 a1 : D} : (wr txt.pg (k + 1)).call "is_lot_below" [a0, a1] h = fin (exs (ex (wr txt.pg k) 60) i_is_lot_below [some a0, some a1, none, none, none] h) := by kernel_rfl
theorem q_are_planner_parts {k : Nat} {h : Hs} {a0 a1 a2 a3 : D} : (wr txt.pg (k + 1)).call "are_planner_parts" [a0, a1, a2, a3] h = fin (exs (ex (wr txt.pg k) 60) i_are_planner_parts [some a0, some a1, some a2, some a3, none, none] h) := by kernel_rfl
theorem q_is_first_place {k : Nat} {h : Hs} {a0 a1 : D} : (wr txt.pg (k + 1)).call "is_first_place" [a0, a1] h = fin (exs (ex (wr txt.pg k) 60) i_is_first_place [some a0, some a1, none] h) := by kernel_rfl
theorem q_next_stretch {k : Nat} {h : Hs} {a0 a1 : D} : (wr txt.pg (k + 1)).call "next_stretch" [a0, a1] h = fin (exs (ex (wr txt.pg k) 60) i_next_stretch [some a0, some a1, none, none] h) := by kernel_rfl
theorem q_is_files_kind {k : Nat} {h : Hs} {a0 : D} : (wr txt.pg (k + 1)).call "is_files_kind" [a0] h = fin (exs (ex (wr txt.pg k) 60) i_is_files_kind [some a0, none, none, none, none, none, none, none] h) := by kernel_rfl
theorem q_ask_size {k : Nat} {h : Hs} {a0 : D} : (wr txt.pg (k + 1)).call "ask_size" [a0] h = fin (exs (ex (wr txt.pg k) 60) i_ask_size [some a0] h) := by kernel_rfl
theorem q_ask_apart {k : Nat} {h : Hs} {a0 a1 : D} : (wr txt.pg (k + 1)).call "ask_apart" [a0, a1] h = fin (exs (ex (wr txt.pg k) 60) i_ask_apart [some a0, some a1] h) := by kernel_rfl
theorem q_divmod_small {k : Nat} {h : Hs} {a0 a1 : D} : (wr txt.pg (k + 1)).call "divmod_small" [a0, a1] h = fin (exs (ex (wr txt.pg k) 60) i_divmod_small [some a0, some a1] h) := by kernel_rfl
theorem q_file_cells {k : Nat} {h : Hs} {a0 : D} : (wr txt.pg (k + 1)).call "file_cells" [a0] h = fin (exs (ex (wr txt.pg k) 60) i_file_cells [some a0] h) := by kernel_rfl
theorem q_file_place {k : Nat} {h : Hs} {a0 a1 a2 : D} : (wr txt.pg (k + 1)).call "file_place" [a0, a1, a2] h = fin (exs (ex (wr txt.pg k) 60) i_file_place [some a0, some a1, some a2] h) := by kernel_rfl
theorem q_room_of {k : Nat} {h : Hs} {a0 a1 : D} : (wr txt.pg (k + 1)).call "room_of" [a0, a1] h = fin (exs (ex (wr txt.pg k) 60) i_room_of [some a0, some a1] h) := by kernel_rfl
theorem q_room_files {k : Nat} {h : Hs} {a0 a1 : D} : (wr txt.pg (k + 1)).call "room_files" [a0, a1] h = fin (exs (ex (wr txt.pg k) 60) i_room_files [some a0, some a1] h) := by kernel_rfl
theorem q_is_room_left {k : Nat} {h : Hs} {a0 a1 a2 : D} : (wr txt.pg (k + 1)).call "is_room_left" [a0, a1, a2] h = fin (exs (ex (wr txt.pg k) 60) i_is_room_left [some a0, some a1, some a2, none, none] h) := by kernel_rfl
theorem q_wait_cells {k : Nat} {h : Hs} {a0 : D} : (wr txt.pg (k + 1)).call "wait_cells" [a0] h = fin (exs (ex (wr txt.pg k) 60) i_wait_cells [some a0] h) := by kernel_rfl
theorem q_waiting {k : Nat} {h : Hs} {a0 a1 a2 a3 : D} : (wr txt.pg (k + 1)).call "waiting" [a0, a1, a2, a3] h = fin (exs (ex (wr txt.pg k) 60) i_waiting [some a0, some a1, some a2, some a3, none, none] h) := by kernel_rfl
theorem q_room_count {k : Nat} {h : Hs} {a0 : D} : (wr txt.pg (k + 1)).call "room_count" [a0] h = fin (exs (ex (wr txt.pg k) 60) i_room_count [some a0] h) := by kernel_rfl
theorem q_is_log_kind {k : Nat} {h : Hs} {a0 : D} : (wr txt.pg (k + 1)).call "is_log_kind" [a0] h = fin (exs (ex (wr txt.pg k) 60) i_is_log_kind [some a0, none, none, none, none, none, none] h) := by kernel_rfl
theorem q_log_count {k : Nat} {h : Hs} {a0 : D} : (wr txt.pg (k + 1)).call "log_count" [a0] h = fin (exs (ex (wr txt.pg k) 60) i_log_count [some a0] h) := by kernel_rfl
theorem q_log_of {k : Nat} {h : Hs} {a0 a1 : D} : (wr txt.pg (k + 1)).call "log_of" [a0, a1] h = fin (exs (ex (wr txt.pg k) 60) i_log_of [some a0, some a1] h) := by kernel_rfl
theorem q_key_count {k : Nat} {h : Hs} {a0 : D} : (wr txt.pg (k + 1)).call "key_count" [a0] h = fin (exs (ex (wr txt.pg k) 60) i_key_count [some a0] h) := by kernel_rfl
theorem q_key_of {k : Nat} {h : Hs} {a0 a1 a2 : D} : (wr txt.pg (k + 1)).call "key_of" [a0, a1, a2] h = fin (exs (ex (wr txt.pg k) 60) i_key_of [some a0, some a1, some a2] h) := by kernel_rfl
theorem q_place_of_key {k : Nat} {h : Hs} {a0 a1 a2 : D} : (wr txt.pg (k + 1)).call "place_of_key" [a0, a1, a2] h = fin (exs (ex (wr txt.pg k) 60) i_place_of_key [some a0, some a1, some a2] h) := by kernel_rfl
theorem q_log_ports {k : Nat} {h : Hs} {a0 : D} : (wr txt.pg (k + 1)).call "log_ports" [a0] h = fin (exs (ex (wr txt.pg k) 60) i_log_ports [some a0] h) := by kernel_rfl
theorem q_changed_file {k : Nat} {h : Hs} {a0 a1 : D} : (wr txt.pg (k + 1)).call "changed_file" [a0, a1] h = fin (exs (ex (wr txt.pg k) 60) i_changed_file [some a0, some a1] h) := by kernel_rfl
theorem q_number_of {k : Nat} {h : Hs} {a0 : D} : (wr txt.pg (k + 1)).call "number_of" [a0] h = fin (exs (ex (wr txt.pg k) 60) i_number_of [some a0, none] h) := by kernel_rfl
theorem q_numbers_of {k : Nat} {h : Hs} {a0 : D} : (wr txt.pg (k + 1)).call "numbers_of" [a0] h = fin (exs (ex (wr txt.pg k) 60) i_numbers_of [some a0, none, none] h) := by kernel_rfl
theorem q_word_told {k : Nat} {h : Hs} {a0 a1 : D} : (wr txt.pg (k + 1)).call "word_told" [a0, a1] h = fin (exs (ex (wr txt.pg k) 60) i_word_told [some a0, some a1, none] h) := by kernel_rfl
theorem q_words_read {k : Nat} {h : Hs} {a0 a1 a2 : D} : (wr txt.pg (k + 1)).call "words_read" [a0, a1, a2] h = fin (exs (ex (wr txt.pg k) 60) i_words_read [some a0, some a1, some a2, none, none, none, none] h) := by kernel_rfl
theorem q_need_end {k : Nat} {h : Hs} {a0 a1 a2 : D} : (wr txt.pg (k + 1)).call "need_end" [a0, a1, a2] h = fin (exs (ex (wr txt.pg k) 60) i_need_end [some a0, some a1, some a2] h) := by kernel_rfl
theorem q_planner_told {k : Nat} {h : Hs} {a0 a1 : D} : (wr txt.pg (k + 1)).call "planner_told" [a0, a1] h = fin (exs (ex (wr txt.pg k) 60) i_planner_told [some a0, some a1, none, none, none, none, none, none, none] h) := by kernel_rfl
theorem q_planner_box {k : Nat} {h : Hs} {a0 a1 : D} : (wr txt.pg (k + 1)).call "planner_box" [a0, a1] h = fin (exs (ex (wr txt.pg k) 60) i_planner_box [some a0, some a1] h) := by kernel_rfl
theorem q_store_words {k : Nat} {h : Hs} {a0 : D} : (wr txt.pg (k + 1)).call "store_words" [a0] h = fin (exs (ex (wr txt.pg k) 60) i_store_words [some a0, none] h) := by kernel_rfl
theorem q_files_told {k : Nat} {h : Hs} {a0 a1 : D} : (wr txt.pg (k + 1)).call "files_told" [a0, a1] h = fin (exs (ex (wr txt.pg k) 60) i_files_told [some a0, some a1, none, none] h) := by kernel_rfl
theorem q_files_box {k : Nat} {h : Hs} {a0 a1 : D} : (wr txt.pg (k + 1)).call "files_box" [a0, a1] h = fin (exs (ex (wr txt.pg k) 60) i_files_box [some a0, some a1] h) := by kernel_rfl
theorem q_plain_told {k : Nat} {h : Hs} {a0 a1 a2 : D} : (wr txt.pg (k + 1)).call "plain_told" [a0, a1, a2] h = fin (exs (ex (wr txt.pg k) 60) i_plain_told [some a0, some a1, some a2, none] h) := by kernel_rfl
theorem q_mailbox_told {k : Nat} {h : Hs} {a0 a1 : D} : (wr txt.pg (k + 1)).call "mailbox_told" [a0, a1] h = fin (exs (ex (wr txt.pg k) 60) i_mailbox_told [some a0, some a1] h) := by kernel_rfl
theorem q_mailbox_box {k : Nat} {h : Hs} {a0 a1 : D} : (wr txt.pg (k + 1)).call "mailbox_box" [a0, a1] h = fin (exs (ex (wr txt.pg k) 60) i_mailbox_box [some a0, some a1] h) := by kernel_rfl
theorem q_numbers_told_of {k : Nat} {h : Hs} {a0 a1 : D} : (wr txt.pg (k + 1)).call "numbers_told_of" [a0, a1] h = fin (exs (ex (wr txt.pg k) 60) i_numbers_told_of [some a0, some a1] h) := by kernel_rfl
theorem q_numbers_box {k : Nat} {h : Hs} {a0 a1 : D} : (wr txt.pg (k + 1)).call "numbers_box" [a0, a1] h = fin (exs (ex (wr txt.pg k) 60) i_numbers_box [some a0, some a1] h) := by kernel_rfl
theorem q_bench_told {k : Nat} {h : Hs} {a0 a1 : D} : (wr txt.pg (k + 1)).call "bench_told" [a0, a1] h = fin (exs (ex (wr txt.pg k) 60) i_bench_told [some a0, some a1] h) := by kernel_rfl
theorem q_bench_box {k : Nat} {h : Hs} {a0 a1 : D} : (wr txt.pg (k + 1)).call "bench_box" [a0, a1] h = fin (exs (ex (wr txt.pg k) 60) i_bench_box [some a0, some a1] h) := by kernel_rfl
theorem q_log_told {k : Nat} {h : Hs} {a0 a1 : D} : (wr txt.pg (k + 1)).call "log_told" [a0, a1] h = fin (exs (ex (wr txt.pg k) 60) i_log_told [some a0, some a1, none] h) := by kernel_rfl
theorem q_log_box {k : Nat} {h : Hs} {a0 a1 : D} : (wr txt.pg (k + 1)).call "log_box" [a0, a1] h = fin (exs (ex (wr txt.pg k) 60) i_log_box [some a0, some a1] h) := by kernel_rfl
theorem q_l_pen {k : Nat} {h : Hs} {a0 : D} : (wr txt.pg (k + 1)).call "_law_pen" [a0] h = fin (exs (ex (wr txt.pg k) 60) i_l_pen [some a0, none, none] h) := by kernel_rfl
theorem q_l_told {k : Nat} {h : Hs} {a0 a1 a2 : D} : (wr txt.pg (k + 1)).call "_law_told" [a0, a1, a2] h = fin (exs (ex (wr txt.pg k) 60) i_l_told [some a0, some a1, some a2] h) := by kernel_rfl
theorem q_l_box {k : Nat} {h : Hs} {a0 a1 a2 : D} : (wr txt.pg (k + 1)).call "_law_box" [a0, a1, a2] h = fin (exs (ex (wr txt.pg k) 60) i_l_box [some a0, some a1, some a2] h) := by kernel_rfl
theorem q_l_parts_right {k : Nat} {h : Hs} {a0 : D} : (wr txt.pg (k + 1)).call "_law_parts_right" [a0] h = fin (exs (ex (wr txt.pg k) 60) i_l_parts_right [some a0, none, none, none, none] h) := by kernel_rfl
theorem q_l_kinds {k : Nat} {h : Hs}  : (wr txt.pg (k + 1)).call "_law_kinds" [] h = fin (exs (ex (wr txt.pg k) 60) i_l_kinds [none, none, none] h) := by kernel_rfl
theorem q_law {k : Nat} {h : Hs} {a0 : D} : (wr txt.pg (k + 1)).call "law" [a0] h = fin (exs (ex (wr txt.pg k) 60) i_law [some a0, none, none, none, none, none, none, none, none, none, none, none, none, none, none, none, none] h) := by kernel_rfl
theorem q_Box_init {k : Nat} {h : Hs} {a0 a1 a2 a3 a4 : D} : (wr txt.pg (k + 1)).meth "Box" "__init__" [a0, a1, a2, a3, a4] h = fin (exs (ex (wr txt.pg k) 60) i_Box_init [some a0, some a1, some a2, some a3, some a4] h) := by kernel_rfl
theorem q_Planner_init {k : Nat} {h : Hs} {a0 a1 a2 a3 a4 : D} : (wr txt.pg (k + 1)).meth "Planner" "__init__" [a0, a1, a2, a3, a4] h = fin (exs (ex (wr txt.pg k) 60) i_Planner_init [some a0, some a1, some a2, some a3, some a4, none, none] h) := by kernel_rfl
theorem q_Planner_begin {k : Nat} {h : Hs} {a0 a1 : D} : (wr txt.pg (k + 1)).meth "Planner" "begin" [a0, a1] h = fin (exs (ex (wr txt.pg k) 60) i_Planner_begin [some a0, some a1] h) := by kernel_rfl
theorem q_Planner_goer {k : Nat} {h : Hs} {a0 a1 : D} : (wr txt.pg (k + 1)).meth "Planner" "goer" [a0, a1] h = fin (exs (ex (wr txt.pg k) 60) i_Planner_goer [some a0, some a1] h) := by kernel_rfl
theorem q_Planner_shown {k : Nat} {h : Hs} {a0 a1 : D} : (wr txt.pg (k + 1)).meth "Planner" "shown" [a0, a1] h = fin (exs (ex (wr txt.pg k) 60) i_Planner_shown [some a0, some a1, none, none] h) := by kernel_rfl
theorem q_Planner_given {k : Nat} {h : Hs} {a0 a1 a2 : D} : (wr txt.pg (k + 1)).meth "Planner" "given" [a0, a1, a2] h = fin (exs (ex (wr txt.pg k) 60) i_Planner_given [some a0, some a1, some a2, none, none, none] h) := by kernel_rfl
theorem q_Planner_step {k : Nat} {h : Hs} {a0 a1 a2 : D} : (wr txt.pg (k + 1)).meth "Planner" "step" [a0, a1, a2] h = fin (exs (ex (wr txt.pg k) 60) i_Planner_step [some a0, some a1, some a2, none, none, none, none] h) := by kernel_rfl
theorem q_Always_init {k : Nat} {h : Hs} {a0 : D} : (wr txt.pg (k + 1)).meth "Always" "__init__" [a0] h = fin (exs (ex (wr txt.pg k) 60) i_Always_init [some a0] h) := by kernel_rfl
theorem q_Always_begin {k : Nat} {h : Hs} {a0 a1 : D} : (wr txt.pg (k + 1)).meth "Always" "begin" [a0, a1] h = fin (exs (ex (wr txt.pg k) 60) i_Always_begin [some a0, some a1] h) := by kernel_rfl
theorem q_Always_shown {k : Nat} {h : Hs} {a0 a1 : D} : (wr txt.pg (k + 1)).meth "Always" "shown" [a0, a1] h = fin (exs (ex (wr txt.pg k) 60) i_Always_shown [some a0, some a1] h) := by kernel_rfl
theorem q_Always_step {k : Nat} {h : Hs} {a0 a1 a2 : D} : (wr txt.pg (k + 1)).meth "Always" "step" [a0, a1, a2] h = fin (exs (ex (wr txt.pg k) 60) i_Always_step [some a0, some a1, some a2] h) := by kernel_rfl
theorem q_Bench_init {k : Nat} {h : Hs} {a0 a1 a2 a3 : D} : (wr txt.pg (k + 1)).meth "Bench" "__init__" [a0, a1, a2, a3] h = fin (exs (ex (wr txt.pg k) 60) i_Bench_init [some a0, some a1, some a2, some a3, none, none] h) := by kernel_rfl
theorem q_Bench_begin {k : Nat} {h : Hs} {a0 a1 : D} : (wr txt.pg (k + 1)).meth "Bench" "begin" [a0, a1] h = fin (exs (ex (wr txt.pg k) 60) i_Bench_begin [some a0, some a1] h) := by kernel_rfl
theorem q_Bench_shown {k : Nat} {h : Hs} {a0 a1 : D} : (wr txt.pg (k + 1)).meth "Bench" "shown" [a0, a1] h = fin (exs (ex (wr txt.pg k) 60) i_Bench_shown [some a0, some a1] h) := by kernel_rfl
theorem q_Bench_turned {k : Nat} {h : Hs} {a0 a1 a2 : D} : (wr txt.pg (k + 1)).meth "Bench" "turned" [a0, a1, a2] h = fin (exs (ex (wr txt.pg k) 60) i_Bench_turned [some a0, some a1, some a2] h) := by kernel_rfl
theorem q_Bench_step {k : Nat} {h : Hs} {a0 a1 a2 : D} : (wr txt.pg (k + 1)).meth "Bench" "step" [a0, a1, a2] h = fin (exs (ex (wr txt.pg k) 60) i_Bench_step [some a0, some a1, some a2, none, none, none, none, none, none] h) := by kernel_rfl
theorem q_Names_init {k : Nat} {h : Hs} {a0 a1 : D} : (wr txt.pg (k + 1)).meth "Names" "__init__" [a0, a1] h = fin (exs (ex (wr txt.pg k) 60) i_Names_init [some a0, some a1, none, none] h) := by kernel_rfl
theorem q_Names_begin {k : Nat} {h : Hs} {a0 a1 : D} : (wr txt.pg (k + 1)).meth "Names" "begin" [a0, a1] h = fin (exs (ex (wr txt.pg k) 60) i_Names_begin [some a0, some a1] h) := by kernel_rfl
theorem q_Names_shown {k : Nat} {h : Hs} {a0 a1 : D} : (wr txt.pg (k + 1)).meth "Names" "shown" [a0, a1] h = fin (exs (ex (wr txt.pg k) 60) i_Names_shown [some a0, some a1] h) := by kernel_rfl
theorem q_Names_done {k : Nat} {h : Hs} {a0 a1 a2 a3 : D} : (wr txt.pg (k + 1)).meth "Names" "done" [a0, a1, a2, a3] h = fin (exs (ex (wr txt.pg k) 60) i_Names_done [some a0, some a1, some a2, some a3, none, none, none, none] h) := by kernel_rfl
theorem q_Names_step {k : Nat} {h : Hs} {a0 a1 a2 : D} : (wr txt.pg (k + 1)).meth "Names" "step" [a0, a1, a2] h = fin (exs (ex (wr txt.pg k) 60) i_Names_step [some a0, some a1, some a2, none, none, none, none, none, none, none] h) := by kernel_rfl
theorem q_Blocks_init {k : Nat} {h : Hs} {a0 a1 a2 a3 a4 : D} : (wr txt.pg (k + 1)).meth "Blocks" "__init__" [a0, a1, a2, a3, a4] h = fin (exs (ex (wr txt.pg k) 60) i_Blocks_init [some a0, some a1, some a2, some a3, some a4, none, none, none, none, none, none, none] h) := by kernel_rfl
theorem q_Blocks_begin {k : Nat} {h : Hs} {a0 a1 : D} : (wr txt.pg (k + 1)).meth "Blocks" "begin" [a0, a1] h = fin (exs (ex (wr txt.pg k) 60) i_Blocks_begin [some a0, some a1] h) := by kernel_rfl
theorem q_Blocks_shown {k : Nat} {h : Hs} {a0 a1 : D} : (wr txt.pg (k + 1)).meth "Blocks" "shown" [a0, a1] h = fin (exs (ex (wr txt.pg k) 60) i_Blocks_shown [some a0, some a1] h) := by kernel_rfl
theorem q_Blocks_free_block {k : Nat} {h : Hs} {a0 a1 a2 : D} : (wr txt.pg (k + 1)).meth "Blocks" "free_block" [a0, a1, a2] h = fin (exs (ex (wr txt.pg k) 60) i_Blocks_free_block [some a0, some a1, some a2, none, none, none, none, none, none, none, none, none] h) := by kernel_rfl
theorem q_Blocks_take_block {k : Nat} {h : Hs} {a0 a1 a2 : D} : (wr txt.pg (k + 1)).meth "Blocks" "take_block" [a0, a1, a2] h = fin (exs (ex (wr txt.pg k) 60) i_Blocks_take_block [some a0, some a1, some a2, none, none, none, none, none] h) := by kernel_rfl
theorem q_Blocks_free_again {k : Nat} {h : Hs} {a0 a1 a2 a3 : D} : (wr txt.pg (k + 1)).meth "Blocks" "free_again" [a0, a1, a2, a3] h = fin (exs (ex (wr txt.pg k) 60) i_Blocks_free_again [some a0, some a1, some a2, some a3, none, none, none, none] h) := by kernel_rfl
theorem q_Blocks_done {k : Nat} {h : Hs} {a0 a1 a2 a3 : D} : (wr txt.pg (k + 1)).meth "Blocks" "done" [a0, a1, a2, a3] h = fin (exs (ex (wr txt.pg k) 60) i_Blocks_done [some a0, some a1, some a2, some a3, none, none, none, none, none, none, none] h) := by kernel_rfl
theorem q_Blocks_steps_for {k : Nat} {h : Hs} {a0 a1 a2 a3 : D} : (wr txt.pg (k + 1)).meth "Blocks" "steps_for" [a0, a1, a2, a3] h = fin (exs (ex (wr txt.pg k) 60) i_Blocks_steps_for [some a0, some a1, some a2, some a3, none, none, none] h) := by kernel_rfl
theorem q_Blocks_now {k : Nat} {h : Hs} {a0 a1 a2 a3 a4 : D} : (wr txt.pg (k + 1)).meth "Blocks" "now" [a0, a1, a2, a3, a4] h = fin (exs (ex (wr txt.pg k) 60) i_Blocks_now [some a0, some a1, some a2, some a3, some a4, none, none, none] h) := by kernel_rfl
theorem q_Blocks_step {k : Nat} {h : Hs} {a0 a1 a2 : D} : (wr txt.pg (k + 1)).meth "Blocks" "step" [a0, a1, a2] h = fin (exs (ex (wr txt.pg k) 60) i_Blocks_step [some a0, some a1, some a2, none, none, none, none, none, none, none, none, none, none] h) := by kernel_rfl
theorem q_Counter_init {k : Nat} {h : Hs} {a0 a1 a2 a3 : D} : (wr txt.pg (k + 1)).meth "Counter" "__init__" [a0, a1, a2, a3] h = fin (exs (ex (wr txt.pg k) 60) i_Counter_init [some a0, some a1, some a2, some a3, none, none] h) := by kernel_rfl
theorem q_Counter_begin {k : Nat} {h : Hs} {a0 a1 : D} : (wr txt.pg (k + 1)).meth "Counter" "begin" [a0, a1] h = fin (exs (ex (wr txt.pg k) 60) i_Counter_begin [some a0, some a1] h) := by kernel_rfl
theorem q_Counter_shown {k : Nat} {h : Hs} {a0 a1 : D} : (wr txt.pg (k + 1)).meth "Counter" "shown" [a0, a1] h = fin (exs (ex (wr txt.pg k) 60) i_Counter_shown [some a0, some a1] h) := by kernel_rfl
theorem q_Counter_step {k : Nat} {h : Hs} {a0 a1 a2 : D} : (wr txt.pg (k + 1)).meth "Counter" "step" [a0, a1, a2] h = fin (exs (ex (wr txt.pg k) 60) i_Counter_step [some a0, some a1, some a2, none, none, none, none, none] h) := by kernel_rfl
theorem q_Logged_init {k : Nat} {h : Hs} {a0 a1 : D} : (wr txt.pg (k + 1)).meth "Logged" "__init__" [a0, a1] h = fin (exs (ex (wr txt.pg k) 60) i_Logged_init [some a0, some a1, none, none, none, none, none, none, none, none] h) := by kernel_rfl
theorem q_Logged_begin {k : Nat} {h : Hs} {a0 a1 : D} : (wr txt.pg (k + 1)).meth "Logged" "begin" [a0, a1] h = fin (exs (ex (wr txt.pg k) 60) i_Logged_begin [some a0, some a1] h) := by kernel_rfl
theorem q_Logged_shown {k : Nat} {h : Hs} {a0 a1 : D} : (wr txt.pg (k + 1)).meth "Logged" "shown" [a0, a1] h = fin (exs (ex (wr txt.pg k) 60) i_Logged_shown [some a0, some a1] h) := by kernel_rfl
theorem q_Logged_logs_apart {k : Nat} {h : Hs} {a0 a1 : D} : (wr txt.pg (k + 1)).meth "Logged" "logs_apart" [a0, a1] h = fin (exs (ex (wr txt.pg k) 60) i_Logged_logs_apart [some a0, some a1, none, none, none, none, none] h) := by kernel_rfl
theorem q_Logged_entry_apart {k : Nat} {h : Hs} {a0 a1 : D} : (wr txt.pg (k + 1)).meth "Logged" "entry_apart" [a0, a1] h = fin (exs (ex (wr txt.pg k) 60) i_Logged_entry_apart [some a0, some a1, none] h) := by kernel_rfl
theorem q_Logged_latest {k : Nat} {h : Hs} {a0 a1 a2 a3 a4 : D} : (wr txt.pg (k + 1)).meth "Logged" "latest" [a0, a1, a2, a3, a4] h = fin (exs (ex (wr txt.pg k) 60) i_Logged_latest [some a0, some a1, some a2, some a3, some a4, none, none, none, none, none, none, none] h) := by kernel_rfl
theorem q_Logged_answered {k : Nat} {h : Hs} {a0 a1 a2 a3 a4 : D} : (wr txt.pg (k + 1)).meth "Logged" "answered" [a0, a1, a2, a3, a4] h = fin (exs (ex (wr txt.pg k) 60) i_Logged_answered [some a0, some a1, some a2, some a3, some a4, none, none, none, none, none] h) := by kernel_rfl
theorem q_Logged_laid_down {k : Nat} {h : Hs} {a0 a1 a2 : D} : (wr txt.pg (k + 1)).meth "Logged" "laid_down" [a0, a1, a2] h = fin (exs (ex (wr txt.pg k) 60) i_Logged_laid_down [some a0, some a1, some a2, none, none, none, none] h) := by kernel_rfl
theorem q_Logged_step {k : Nat} {h : Hs} {a0 a1 a2 : D} : (wr txt.pg (k + 1)).meth "Logged" "step" [a0, a1, a2] h = fin (exs (ex (wr txt.pg k) 60) i_Logged_step [some a0, some a1, some a2, none, none, none, none, none, none, none, none, none, none] h) := by kernel_rfl
theorem q_Mail_init {k : Nat} {h : Hs} {a0 a1 a2 a3 a4 : D} : (wr txt.pg (k + 1)).meth "Mail" "__init__" [a0, a1, a2, a3, a4] h = fin (exs (ex (wr txt.pg k) 60) i_Mail_init [some a0, some a1, some a2, some a3, some a4, none] h) := by kernel_rfl
theorem q_Mail_begin {k : Nat} {h : Hs} {a0 a1 : D} : (wr txt.pg (k + 1)).meth "Mail" "begin" [a0, a1] h = fin (exs (ex (wr txt.pg k) 60) i_Mail_begin [some a0, some a1] h) := by kernel_rfl
theorem q_Mail_shown {k : Nat} {h : Hs} {a0 a1 : D} : (wr txt.pg (k + 1)).meth "Mail" "shown" [a0, a1] h = fin (exs (ex (wr txt.pg k) 60) i_Mail_shown [some a0, some a1] h) := by kernel_rfl
theorem q_Mail_step {k : Nat} {h : Hs} {a0 a1 a2 : D} : (wr txt.pg (k + 1)).meth "Mail" "step" [a0, a1, a2] h = fin (exs (ex (wr txt.pg k) 60) i_Mail_step [some a0, some a1, some a2, none, none, none] h) := by kernel_rfl
theorem q_Torn_init {k : Nat} {h : Hs} {a0 a1 a2 : D} : (wr txt.pg (k + 1)).meth "Torn" "__init__" [a0, a1, a2] h = fin (exs (ex (wr txt.pg k) 60) i_Torn_init [some a0, some a1, some a2, none, none, none, none, none, none, none, none, none] h) := by kernel_rfl
theorem q_Torn_begin {k : Nat} {h : Hs} {a0 a1 : D} : (wr txt.pg (k + 1)).meth "Torn" "begin" [a0, a1] h = fin (exs (ex (wr txt.pg k) 60) i_Torn_begin [some a0, some a1] h) := by kernel_rfl
theorem q_Torn_shown {k : Nat} {h : Hs} {a0 a1 : D} : (wr txt.pg (k + 1)).meth "Torn" "shown" [a0, a1] h = fin (exs (ex (wr txt.pg k) 60) i_Torn_shown [some a0, some a1] h) := by kernel_rfl
theorem q_Torn_rows_apart {k : Nat} {h : Hs} {a0 a1 : D} : (wr txt.pg (k + 1)).meth "Torn" "rows_apart" [a0, a1] h = fin (exs (ex (wr txt.pg k) 60) i_Torn_rows_apart [some a0, some a1, none, none, none, none, none, none] h) := by kernel_rfl
theorem q_Torn_place_at {k : Nat} {h : Hs} {a0 a1 a2 : D} : (wr txt.pg (k + 1)).meth "Torn" "place_at" [a0, a1, a2] h = fin (exs (ex (wr txt.pg k) 60) i_Torn_place_at [some a0, some a1, some a2, none] h) := by kernel_rfl
theorem q_Torn_entries_of {k : Nat} {h : Hs} {a0 a1 : D} : (wr txt.pg (k + 1)).meth "Torn" "entries_of" [a0, a1] h = fin (exs (ex (wr txt.pg k) 60) i_Torn_entries_of [some a0, some a1, none, none, none, none] h) := by kernel_rfl
theorem q_Torn_latest {k : Nat} {h : Hs} {a0 a1 a2 a3 a4 : D} : (wr txt.pg (k + 1)).meth "Torn" "latest" [a0, a1, a2, a3, a4] h = fin (exs (ex (wr txt.pg k) 60) i_Torn_latest [some a0, some a1, some a2, some a3, some a4, none, none, none, none, none] h) := by kernel_rfl
theorem q_Torn_answered {k : Nat} {h : Hs} {a0 a1 a2 a3 a4 a5 : D} : (wr txt.pg (k + 1)).meth "Torn" "answered" [a0, a1, a2, a3, a4, a5] h = fin (exs (ex (wr txt.pg k) 60) i_Torn_answered [some a0, some a1, some a2, some a3, some a4, some a5, none, none, none, none, none, none, none, none] h) := by kernel_rfl
theorem q_Torn_laid_down {k : Nat} {h : Hs} {a0 a1 a2 : D} : (wr txt.pg (k + 1)).meth "Torn" "laid_down" [a0, a1, a2] h = fin (exs (ex (wr txt.pg k) 60) i_Torn_laid_down [some a0, some a1, some a2, none, none, none, none] h) := by kernel_rfl
theorem q_Torn_read_again {k : Nat} {h : Hs} {a0 a1 : D} : (wr txt.pg (k + 1)).meth "Torn" "read_again" [a0, a1] h = fin (exs (ex (wr txt.pg k) 60) i_Torn_read_again [some a0, some a1, none, none, none, none, none] h) := by kernel_rfl
theorem q_Torn_step {k : Nat} {h : Hs} {a0 a1 a2 : D} : (wr txt.pg (k + 1)).meth "Torn" "step" [a0, a1, a2] h = fin (exs (ex (wr txt.pg k) 60) i_Torn_step [some a0, some a1, some a2, none, none, none, none, none, none, none, none, none, none] h) := by kernel_rfl
end SI.K14
end
section
set_option Elab.async false
set_option linter.all false
set_option maxRecDepth 100000
set_option maxHeartbeats 4000000
namespace SI.K14
open PySem L2 PL
/-! k14: the states of the law between its statements, as they were told by a run of the small interpreter; each is checked below. -/
abbrev W (k : Nat) : Wr := wr txt.pg k
abbrev hsT : Hs := [.tab "law", .tab "_law_parts_right"]
def tl1 : List IS := i_law.tail
def stm (i : Nat) : IS := tl1.getD i .pass
def LB : List IS := match stm 2 with
  | .loop _ _ _ b => b
  | _ => []
def TG : Tg := .t [.n 3, .n 4, .n 5, .n 6]
def E0 (d0 : D) : Nv := [some d0, some (.ptr 2), none, none, none, none, none, none, none, none, none, none, none, none, none, none, none]
def H0 (c : Cell) : Hs := [.tab "law", .tab "_law_parts_right", c]
def E1 (d0 : D) : Nv := [some d0, some (.ptr 2), some (.ptr 3), none, none, none, none, none, none, none, none, none, none, none, none, none, none]
def H1 (c : Cell) : Hs := H0 c ++ [.ins "Always" [("starts", (.tup [])), ("ins", (.tup [])), ("outs", (.tup [(.int (2))])), ("cells", (.tup [(.int (1))]))]]
def E2 (d0 : D) : Nv := [some d0, some (.ptr 2), some (.ptr 3), none, none, none, none, none, none, none, none, none, none, none, none, none, none]
def H2 (c : Cell) : Hs := H1 c ++ [.ins "Planner" [], .ins "Planner" [], .ins "Planner" [], .ins "Planner" [], .ins "Planner" [], .ins "Planner" [], .ins "Planner" [], .ins "Planner" [], .ins "Planner" [], .ins "Planner" [], .ins "Planner" [], .ins "Planner" [], .ins "Planner" [], .ins "Planner" [], .ins "Planner" [], .ins "Planner" [], .ins "Planner" [], .ins "Bench" [], .ins "Bench" [], .ins "Bench" [], .ins "Bench" [], .ins "Bench" [], .ins "Bench" [], .ins "Mail" [], .ins "Mail" [], .ins "Mail" [], .ins "Mail" [], .ins "Mail" [], .ins "Counter" [], .ins "Counter" [], .ins "Counter" [], .ins "Counter" [], .ins "Counter" [], .ins "Counter" [], .ins "Names" [], .ins "Blocks" [], .ins "Names" [], .ins "Blocks" [], .ins "Names" [], .ins "Blocks" [], .ins "Names" [], .ins "Blocks" [], .ins "Names" [], .ins "Blocks" [], .ins "Names" [], .ins "Blocks" [], .ins "Names" [], .ins "Blocks" [], .ins "Names" [], .ins "Blocks" [], .ins "Names" [], .ins "Blocks" [], .ins "Names" [], .ins "Blocks" [], .ins "Names" [], .ins "Blocks" [], .ins "Names" [], .ins "Blocks" [], .ins "Names" [], .ins "Blocks" [], .ins "Names" [], .ins "Blocks" [], .ins "Names" [], .ins "Blocks" [], .ins "Names" [], .ins "Blocks" [], .ins "Blocks" [], .ins "Blocks" [], .ins "Blocks" [], .ins "Logged" [], .ins "Torn" [], .ins "Logged" [], .ins "Torn" [], .ins "Logged" [], .ins "Torn" [], .ins "Logged" [], .ins "Torn" [], .ins "Logged" [], .ins "Torn" [], .ins "Logged" [], .ins "Torn" [], .ins "Logged" [], .ins "Torn" [], .ins "Torn" []]
def E3 (d0 : D) : Nv := [some d0, some (.ptr 2), some (.ptr 3), none, none, none, none, none, none, none, none, none, none, none, none, none, none]
def H3 (c : Cell) : Hs := H2 c ++ [.dead]
def E4 (d0 : D) : Nv := [some d0, some (.ptr 2), some (.ptr 3), some (.int (0)), some (.lst [(.str "2"), (.str "slots"), (.str "0,1,2")]), some (.tup [(.int (2)), (.tup [(.int (0)), (.int (1)), (.int (2))]), (.str "slots"), (.tup [])]), some (.lst [(.str "0"), (.str "slot"), (.str "0,3")]), some (.int (2)), some (.tup [(.str "2"), (.str "slots"), (.str "0,3")]), some (.tup [(.str "2"), (.str "slots"), (.str "0,3"), (.str "")]), some (.lst [(.ptr 101), (.ptr 102), (.ptr 103), (.ptr 104), (.ptr 105)]), none, some (.ptr 105), none, none, none, none]
def H4 (c : Cell) : Hs := H3 c ++ [.lst [(.int (2)), (.str "slots")], .lst [], .lst [], .lst [], .lst [(.int (2))], .lst [(.int (2))], .lst [(.int (2))], .lst [(.int (2)), (.str "slots")], .lst [(.int (2)), (.str "slots")], .lst [(.int (2)), (.str "slots")], .lst [(.int (2)), (.str "slots")], .lst [(.int (2)), (.str "slots")], .ins "Planner" [("many", (.int (2))), ("wheel", (.tup [(.int (0)), (.int (1)), (.int (2))])), ("option", (.str "slots")), ("over", (.tup [])), ("starts", (.tup [])), ("ins", (.tup [])), ("outs", (.tup [(.int (2)), (.int (2))])), ("cells", (.tup [(.int (3))]))], .ins "Planner" [("many", (.int (2))), ("wheel", (.tup [(.int (0)), (.int (1)), (.int (2))])), ("option", (.str "slots")), ("over", (.tup [])), ("starts", (.tup [])), ("ins", (.tup [])), ("outs", (.tup [(.int (2)), (.int (2))])), ("cells", (.tup [(.int (3))]))], .ins "Planner" [("many", (.int (2))), ("wheel", (.tup [(.int (0)), (.int (1)), (.int (2))])), ("option", (.str "slots")), ("over", (.tup [])), ("starts", (.tup [])), ("ins", (.tup [])), ("outs", (.tup [(.int (2)), (.int (2))])), ("cells", (.tup [(.int (3))]))], .ins "Planner" [("many", (.int (2))), ("wheel", (.tup [(.int (0)), (.int (1)), (.int (2))])), ("option", (.str "slots")), ("over", (.tup [])), ("starts", (.tup [])), ("ins", (.tup [])), ("outs", (.tup [(.int (2)), (.int (2))])), ("cells", (.tup [(.int (3))]))], .ins "Planner" [("many", (.int (2))), ("wheel", (.tup [(.int (0)), (.int (1)), (.int (2))])), ("option", (.str "slots")), ("over", (.tup [])), ("starts", (.tup [])), ("ins", (.tup [])), ("outs", (.tup [(.int (2)), (.int (2))])), ("cells", (.tup [(.int (3))]))]]
def E5 (d0 : D) : Nv := [some d0, some (.ptr 2), some (.ptr 3), some (.int (0)), some (.lst [(.str "2"), (.str "upward"), (.str "0,0,1"), (.str "1/-")]), some (.tup [(.int (2)), (.tup [(.int (0)), (.int (0)), (.int (1))]), (.str "upward"), (.tup [(.tup [(.int (1))]), (.tup [])])]), some (.lst [(.str "5"), (.str "up"), (.str ""), (.str "1")]), some (.int (3)), some (.tup [(.str "2"), (.str "upward"), (.str "0,0,1"), (.str "1")]), some (.tup [(.str "2"), (.str "upward"), (.str "0,0,1"), (.str "1"), (.str "")]), some (.lst [(.ptr 121), (.ptr 122), (.ptr 123), (.ptr 124), (.ptr 125)]), none, some (.ptr 125), none, none, none, none]
def H5 (c : Cell) : Hs := H4 c ++ [.lst [(.int (2)), (.str "upward")], .lst [], .lst [], .lst [], .lst [(.int (2))], .lst [(.int (2))], .lst [(.int (2))], .lst [(.int (2)), (.str "upward")], .lst [(.int (2)), (.str "upward")], .lst [(.int (2)), (.str "upward")], .lst [(.int (2)), (.str "upward")], .lst [(.int (2)), (.str "upward")], .lst [(.int (2)), (.str "upward")], .lst [(.int (2)), (.str "upward")], .lst [(.int (2)), (.str "upward")], .ins "Planner" [("many", (.int (2))), ("wheel", (.tup [(.int (0)), (.int (0)), (.int (1))])), ("option", (.str "upward")), ("over", (.tup [(.tup [(.int (1))]), (.tup [])])), ("starts", (.tup [])), ("ins", (.tup [(.int (2)), (.int (2))])), ("outs", (.tup [(.int (2)), (.int (2))])), ("cells", (.tup [(.int (3)), (.int (3))]))], .ins "Planner" [("many", (.int (2))), ("wheel", (.tup [(.int (0)), (.int (0)), (.int (1))])), ("option", (.str "upward")), ("over", (.tup [(.tup [(.int (1))]), (.tup [])])), ("starts", (.tup [])), ("ins", (.tup [(.int (2)), (.int (2))])), ("outs", (.tup [(.int (2)), (.int (2))])), ("cells", (.tup [(.int (3)), (.int (3))]))], .ins "Planner" [("many", (.int (2))), ("wheel", (.tup [(.int (0)), (.int (0)), (.int (1))])), ("option", (.str "upward")), ("over", (.tup [(.tup [(.int (1))]), (.tup [])])), ("starts", (.tup [])), ("ins", (.tup [(.int (2)), (.int (2))])), ("outs", (.tup [(.int (2)), (.int (2))])), ("cells", (.tup [(.int (3)), (.int (3))]))], .ins "Planner" [("many", (.int (2))), ("wheel", (.tup [(.int (0)), (.int (0)), (.int (1))])), ("option", (.str "upward")), ("over", (.tup [(.tup [(.int (1))]), (.tup [])])), ("starts", (.tup [])), ("ins", (.tup [(.int (2)), (.int (2))])), ("outs", (.tup [(.int (2)), (.int (2))])), ("cells", (.tup [(.int (3)), (.int (3))]))], .ins "Planner" [("many", (.int (2))), ("wheel", (.tup [(.int (0)), (.int (0)), (.int (1))])), ("option", (.str "upward")), ("over", (.tup [(.tup [(.int (1))]), (.tup [])])), ("starts", (.tup [])), ("ins", (.tup [(.int (2)), (.int (2))])), ("outs", (.tup [(.int (2)), (.int (2))])), ("cells", (.tup [(.int (3)), (.int (3))]))]]
def E6 (d0 : D) : Nv := [some d0, some (.ptr 2), some (.ptr 3), some (.int (1)), some (.lst [(.str "2"), (.str "1"), (.str "3"), (.str "own"), (.str "shared"), (.str "2"), (.str "1"), (.str "last"), (.str "filled"), (.str "left")]), some (.tup [(.tup [(.int (2)), (.int (1)), (.int (3)), (.str "own"), (.str "shared"), (.int (2)), (.int (1))]), (.str "last"), (.str "filled"), (.str "left")]), some (.lst [(.str "3"), (.str "0"), (.str "14"), (.str "none"), (.str "all"), (.str "9"), (.str "5"), (.str "first"), (.str "never"), (.str "old")]), some (.int (9)), some (.tup [(.str "2"), (.str "1"), (.str "3"), (.str "own"), (.str "shared"), (.str "2"), (.str "1"), (.str "last"), (.str "filled"), (.str "old")]), some (.tup [(.str "2"), (.str "1"), (.str "3"), (.str "own"), (.str "shared"), (.str "2"), (.str "1"), (.str "last"), (.str "filled"), (.str "old"), (.str "")]), some (.lst [(.ptr 201), (.ptr 202), (.ptr 203), (.ptr 204), (.ptr 206)]), none, some (.ptr 206), none, none, none, none]
def H6 (c : Cell) : Hs := H5 c ++ [.lst [(.int (2)), (.int (1)), (.int (3))], .lst [(.str "own"), (.str "shared")], .lst [(.int (2)), (.int (1)), (.str "last"), (.str "filled"), (.str "left")], .lst [], .lst [], .lst [], .lst [(.int (2))], .lst [(.int (2))], .lst [(.int (2))], .lst [(.int (2)), (.int (1))], .lst [(.int (2)), (.int (1))], .lst [(.int (2)), (.int (1))], .lst [(.int (2)), (.int (1)), (.int (3))], .lst [], .lst [(.int (2)), (.int (1)), (.int (3))], .lst [], .lst [(.int (2)), (.int (1)), (.int (3))], .lst [], .lst [(.int (2)), (.int (1)), (.int (3))], .lst [(.str "own")], .lst [(.int (2)), (.int (1)), (.int (3))], .lst [(.str "own")], .lst [(.int (2)), (.int (1)), (.int (3))], .lst [(.str "own")], .lst [(.int (2)), (.int (1)), (.int (3))], .lst [(.str "own"), (.str "shared")], .lst [], .lst [(.int (2)), (.int (1)), (.int (3))], .lst [(.str "own"), (.str "shared")], .lst [], .lst [(.int (2)), (.int (1)), (.int (3))], .lst [(.str "own"), (.str "shared")], .lst [], .lst [(.int (2)), (.int (1)), (.int (3))], .lst [(.str "own"), (.str "shared")], .lst [(.int (2))], .lst [(.int (2)), (.int (1)), (.int (3))], .lst [(.str "own"), (.str "shared")], .lst [(.int (2))], .lst [(.int (2)), (.int (1)), (.int (3))], .lst [(.str "own"), (.str "shared")], .lst [(.int (2))], .lst [(.int (2)), (.int (1)), (.int (3))], .lst [(.str "own"), (.str "shared")], .lst [(.int (2)), (.int (1))], .lst [(.int (2)), (.int (1)), (.int (3))], .lst [(.str "own"), (.str "shared")], .lst [(.int (2)), (.int (1))], .lst [(.int (2)), (.int (1)), (.int (3))], .lst [(.str "own"), (.str "shared")], .lst [(.int (2)), (.int (1))], .lst [(.int (2)), (.int (1)), (.int (3))], .lst [(.str "own"), (.str "shared")], .lst [(.int (2)), (.int (1)), (.str "last")], .lst [(.int (2)), (.int (1)), (.int (3))], .lst [(.str "own"), (.str "shared")], .lst [(.int (2)), (.int (1)), (.str "last")], .lst [(.int (2)), (.int (1)), (.int (3))], .lst [(.str "own"), (.str "shared")], .lst [(.int (2)), (.int (1)), (.str "last")], .lst [(.int (2)), (.int (1)), (.int (3))], .lst [(.str "own"), (.str "shared")], .lst [(.int (2)), (.int (1)), (.str "last"), (.str "filled")], .lst [(.int (2)), (.int (1)), (.int (3))], .lst [(.str "own"), (.str "shared")], .lst [(.int (2)), (.int (1)), (.str "last"), (.str "filled")], .lst [(.int (2)), (.int (1)), (.int (3))], .lst [(.str "own"), (.str "shared")], .lst [(.int (2)), (.int (1)), (.str "last"), (.str "filled")], .lst [(.int (2)), (.int (1)), (.int (3))], .lst [(.str "own"), (.str "shared")], .lst [(.int (2)), (.int (1)), (.str "last"), (.str "filled"), (.str "left")], .lst [(.int (2)), (.int (1)), (.int (3))], .lst [(.str "own"), (.str "shared")], .lst [(.int (2)), (.int (1)), (.str "last"), (.str "filled"), (.str "left")], .ins "Names" [("kind", (.tup [(.int (2)), (.int (1)), (.int (3)), (.str "own"), (.str "shared"), (.int (2)), (.int (1))])), ("files", (.int (2))), ("starts", (.tup [])), ("ins", (.tup [(.int (7)), (.int (7))])), ("outs", (.tup [(.int (5)), (.int (5))])), ("cells", (.tup [(.int (4)), (.int (4)), (.int (5)), (.int (5))]))], .ins "Names" [("kind", (.tup [(.int (2)), (.int (1)), (.int (3)), (.str "own"), (.str "shared"), (.int (2)), (.int (1))])), ("files", (.int (2))), ("starts", (.tup [])), ("ins", (.tup [(.int (7)), (.int (7))])), ("outs", (.tup [(.int (5)), (.int (5))])), ("cells", (.tup [(.int (4)), (.int (4)), (.int (5)), (.int (5))]))], .ins "Names" [("kind", (.tup [(.int (2)), (.int (1)), (.int (3)), (.str "own"), (.str "shared"), (.int (2)), (.int (1))])), ("files", (.int (2))), ("starts", (.tup [])), ("ins", (.tup [(.int (7)), (.int (7))])), ("outs", (.tup [(.int (5)), (.int (5))])), ("cells", (.tup [(.int (4)), (.int (4)), (.int (5)), (.int (5))]))], .ins "Blocks" [("kind", (.tup [(.int (2)), (.int (1)), (.int (3)), (.str "own"), (.str "shared"), (.int (2)), (.int (1))])), ("order", (.str "last")), ("times", (.str "filled")), ("fresh", (.str "left")), ("files", (.int (2))), ("rooms", (.int (1))), ("quota", (.int (2))), ("ends", (.tup [(.int (2)), (.int (4)), (.int (6)), (.int (6))])), ("starts", (.tup [])), ("ins", (.tup [(.int (7)), (.int (7))])), ("outs", (.tup [(.int (5)), (.int (5))])), ("cells", (.tup [(.int (3)), (.int (3)), (.int (3)), (.int (3)), (.int (3)), (.int (3)), (.int (5)), (.int (5))]))], .dK [((.inr "least"), (.tup [])), ((.inr "last"), (.tup [(.int (3)), (.int (3))])), ((.inr "round"), (.tup [(.int (2))]))], .ins "Blocks" [("kind", (.tup [(.int (2)), (.int (1)), (.int (3)), (.str "own"), (.str "shared"), (.int (2)), (.int (1))])), ("order", (.str "last")), ("times", (.str "filled")), ("fresh", (.str "left")), ("files", (.int (2))), ("rooms", (.int (1))), ("quota", (.int (2))), ("ends", (.tup [(.int (2)), (.int (4)), (.int (6)), (.int (6))])), ("starts", (.tup [])), ("ins", (.tup [(.int (7)), (.int (7))])), ("outs", (.tup [(.int (5)), (.int (5))])), ("cells", (.tup [(.int (3)), (.int (3)), (.int (3)), (.int (3)), (.int (3)), (.int (3)), (.int (5)), (.int (5))]))], .dK [((.inr "least"), (.tup [])), ((.inr "last"), (.tup [(.int (3)), (.int (3))])), ((.inr "round"), (.tup [(.int (2))]))]]
def E7 (d0 : D) : Nv := [some d0, some (.ptr 2), some (.ptr 3), some (.int (2)), some (.lst [(.str "1"), (.str "3"), (.str "2"), (.str "answers")]), some (.tup [(.int (1)), (.int (3)), (.int (2)), (.str "answers")]), some (.lst [(.str "00"), (.str "15"), (.str "4"), (.str "talks")]), some (.int (3)), some (.tup [(.str "1"), (.str "3"), (.str "2"), (.str "talks")]), some (.tup [(.str "1"), (.str "3"), (.str "2"), (.str "talks"), (.str "")]), some (.lst [(.ptr 223), (.ptr 224), (.ptr 225), (.ptr 226), (.ptr 227)]), none, some (.ptr 227), none, none, none, none]
def H7 (c : Cell) : Hs := H6 c ++ [.lst [(.int (1)), (.int (3)), (.int (2)), (.str "answers")], .lst [], .lst [], .lst [], .lst [(.int (1))], .lst [(.int (1))], .lst [(.int (1))], .lst [(.int (1)), (.int (3))], .lst [(.int (1)), (.int (3))], .lst [(.int (1)), (.int (3))], .lst [(.int (1)), (.int (3)), (.int (2))], .lst [(.int (1)), (.int (3)), (.int (2))], .lst [(.int (1)), (.int (3)), (.int (2))], .lst [(.int (1)), (.int (3)), (.int (2)), (.str "answers")], .lst [(.int (1)), (.int (3)), (.int (2)), (.str "answers")], .ins "Mail" [("bound", (.int (1))), ("size", (.int (3))), ("writers", (.int (2))), ("option", (.str "answers")), ("starts", (.tup [])), ("ins", (.tup [(.int (4)), (.int (4)), (.int (2))])), ("outs", (.tup [(.int (5)), (.int (2))])), ("cells", (.tup [(.int (4)), (.int (5))]))], .ins "Mail" [("bound", (.int (1))), ("size", (.int (3))), ("writers", (.int (2))), ("option", (.str "answers")), ("starts", (.tup [])), ("ins", (.tup [(.int (4)), (.int (4)), (.int (2))])), ("outs", (.tup [(.int (5)), (.int (2))])), ("cells", (.tup [(.int (4)), (.int (5))]))], .ins "Mail" [("bound", (.int (1))), ("size", (.int (3))), ("writers", (.int (2))), ("option", (.str "answers")), ("starts", (.tup [])), ("ins", (.tup [(.int (4)), (.int (4)), (.int (2))])), ("outs", (.tup [(.int (5)), (.int (2))])), ("cells", (.tup [(.int (4)), (.int (5))]))], .ins "Mail" [("bound", (.int (1))), ("size", (.int (3))), ("writers", (.int (2))), ("option", (.str "answers")), ("starts", (.tup [])), ("ins", (.tup [(.int (4)), (.int (4)), (.int (2))])), ("outs", (.tup [(.int (5)), (.int (2))])), ("cells", (.tup [(.int (4)), (.int (5))]))], .ins "Mail" [("bound", (.int (1))), ("size", (.int (3))), ("writers", (.int (2))), ("option", (.str "answers")), ("starts", (.tup [])), ("ins", (.tup [(.int (4)), (.int (4)), (.int (2))])), ("outs", (.tup [(.int (5)), (.int (2))])), ("cells", (.tup [(.int (4)), (.int (5))]))]]
def E8 (d0 : D) : Nv := [some d0, some (.ptr 2), some (.ptr 3), some (.int (3)), some (.lst [(.str "2"), (.str "5"), (.str "shared")]), some (.tup [(.int (2)), (.int (5)), (.str "shared")]), some (.lst [(.str "4"), (.str "1"), (.str "all")]), some (.int (2)), some (.tup [(.str "2"), (.str "5"), (.str "all")]), some (.tup [(.str "2"), (.str "5"), (.str "all"), (.str "")]), some (.lst [(.ptr 240), (.ptr 241), (.ptr 242), (.ptr 243), (.ptr 244)]), none, some (.ptr 244), none, none, none, none]
def H8 (c : Cell) : Hs := H7 c ++ [.lst [(.int (2)), (.int (5)), (.str "shared")], .lst [], .lst [], .lst [], .lst [(.int (2))], .lst [(.int (2))], .lst [(.int (2))], .lst [(.int (2)), (.int (5))], .lst [(.int (2)), (.int (5))], .lst [(.int (2)), (.int (5))], .lst [(.int (2)), (.int (5)), (.str "shared")], .lst [(.int (2)), (.int (5)), (.str "shared")], .ins "Counter" [("many", (.int (2))), ("size", (.int (5))), ("option", (.str "shared")), ("starts", (.tup [])), ("ins", (.tup [(.int (2)), (.int (2))])), ("outs", (.tup [(.int (7)), (.int (7))])), ("cells", (.tup [(.int (5)), (.int (7)), (.int (7))]))], .ins "Counter" [("many", (.int (2))), ("size", (.int (5))), ("option", (.str "shared")), ("starts", (.tup [])), ("ins", (.tup [(.int (2)), (.int (2))])), ("outs", (.tup [(.int (7)), (.int (7))])), ("cells", (.tup [(.int (5)), (.int (7)), (.int (7))]))], .ins "Counter" [("many", (.int (2))), ("size", (.int (5))), ("option", (.str "shared")), ("starts", (.tup [])), ("ins", (.tup [(.int (2)), (.int (2))])), ("outs", (.tup [(.int (7)), (.int (7))])), ("cells", (.tup [(.int (5)), (.int (7)), (.int (7))]))], .ins "Counter" [("many", (.int (2))), ("size", (.int (5))), ("option", (.str "shared")), ("starts", (.tup [])), ("ins", (.tup [(.int (2)), (.int (2))])), ("outs", (.tup [(.int (7)), (.int (7))])), ("cells", (.tup [(.int (5)), (.int (7)), (.int (7))]))], .ins "Counter" [("many", (.int (2))), ("size", (.int (5))), ("option", (.str "shared")), ("starts", (.tup [])), ("ins", (.tup [(.int (2)), (.int (2))])), ("outs", (.tup [(.int (7)), (.int (7))])), ("cells", (.tup [(.int (5)), (.int (7)), (.int (7))]))]]
def E9 (d0 : D) : Nv := [some d0, some (.ptr 2), some (.ptr 3), some (.int (4)), some (.lst [(.str "2"), (.str "3"), (.str "clear")]), some (.tup [(.int (2)), (.int (3)), (.str "clear")]), some (.lst [(.str "x"), (.str "+3"), (.str "own")]), some (.int (2)), some (.tup [(.str "2"), (.str "3"), (.str "own")]), some (.tup [(.str "2"), (.str "3"), (.str "own"), (.str "")]), some (.lst [(.ptr 257), (.ptr 259), (.ptr 261), (.ptr 263), (.ptr 265)]), none, some (.ptr 265), none, none, none, none]
def H9 (c : Cell) : Hs := H8 c ++ [.lst [(.int (2)), (.int (3)), (.str "clear")], .lst [], .lst [], .lst [], .lst [(.int (2))], .lst [(.int (2))], .lst [(.int (2))], .lst [(.int (2)), (.int (3))], .lst [(.int (2)), (.int (3))], .lst [(.int (2)), (.int (3))], .lst [(.int (2)), (.int (3)), (.str "clear")], .lst [(.int (2)), (.int (3)), (.str "clear")], .ins "Bench" [("many", (.int (2))), ("size", (.int (3))), ("kind", (.str "own")), ("starts", (.tup [])), ("ins", (.tup [(.int (5)), (.int (5))])), ("outs", (.tup [(.int (5)), (.int (5))])), ("cells", (.tup [(.int (3)), (.int (3)), (.int (5)), (.int (5))]))], .dK [((.inr "own"), (.tup [(.int (3)), (.int (3))])), ((.inr "saved"), (.tup [(.int (3)), (.int (2)), (.int (3)), (.int (3))])), ((.inr "left"), (.tup [(.int (3))]))], .ins "Bench" [("many", (.int (2))), ("size", (.int (3))), ("kind", (.str "saved")), ("starts", (.tup [])), ("ins", (.tup [(.int (5)), (.int (5))])), ("outs", (.tup [(.int (5)), (.int (5))])), ("cells", (.tup [(.int (3)), (.int (2)), (.int (3)), (.int (3)), (.int (5)), (.int (5))]))], .dK [((.inr "own"), (.tup [(.int (3)), (.int (3))])), ((.inr "saved"), (.tup [(.int (3)), (.int (2)), (.int (3)), (.int (3))])), ((.inr "left"), (.tup [(.int (3))]))], .ins "Bench" [("many", (.int (2))), ("size", (.int (3))), ("kind", (.str "saved")), ("starts", (.tup [])), ("ins", (.tup [(.int (5)), (.int (5))])), ("outs", (.tup [(.int (5)), (.int (5))])), ("cells", (.tup [(.int (3)), (.int (2)), (.int (3)), (.int (3)), (.int (5)), (.int (5))]))], .dK [((.inr "own"), (.tup [(.int (3)), (.int (3))])), ((.inr "saved"), (.tup [(.int (3)), (.int (2)), (.int (3)), (.int (3))])), ((.inr "left"), (.tup [(.int (3))]))], .ins "Bench" [("many", (.int (2))), ("size", (.int (3))), ("kind", (.str "saved")), ("starts", (.tup [])), ("ins", (.tup [(.int (5)), (.int (5))])), ("outs", (.tup [(.int (5)), (.int (5))])), ("cells", (.tup [(.int (3)), (.int (2)), (.int (3)), (.int (3)), (.int (5)), (.int (5))]))], .dK [((.inr "own"), (.tup [(.int (3)), (.int (3))])), ((.inr "saved"), (.tup [(.int (3)), (.int (2)), (.int (3)), (.int (3))])), ((.inr "left"), (.tup [(.int (3))]))], .ins "Bench" [("many", (.int (2))), ("size", (.int (3))), ("kind", (.str "saved")), ("starts", (.tup [])), ("ins", (.tup [(.int (5)), (.int (5))])), ("outs", (.tup [(.int (5)), (.int (5))])), ("cells", (.tup [(.int (3)), (.int (2)), (.int (3)), (.int (3)), (.int (5)), (.int (5))]))], .dK [((.inr "own"), (.tup [(.int (3)), (.int (3))])), ((.inr "saved"), (.tup [(.int (3)), (.int (2)), (.int (3)), (.int (3))])), ((.inr "left"), (.tup [(.int (3))]))]]
def E10 (d0 : D) : Nv := [some d0, some (.ptr 2), some (.ptr 3), some (.int (5)), some (.lst [(.str "1"), (.str "2"), (.str "2"), (.str "3"), (.str "shared"), (.str "2"), (.str "any")]), some (.tup [(.tup [(.int (1)), (.int (2)), (.int (2)), (.int (3)), (.str "shared"), (.int (2))]), (.str "any")]), some (.lst [(.str "-1"), (.str "5"), (.str "13"), (.str "4"), (.str "some"), (.str "0"), (.str "half")]), some (.int (6)), some (.tup [(.str "1"), (.str "2"), (.str "2"), (.str "3"), (.str "shared"), (.str "2"), (.str "half")]), some (.tup [(.str "1"), (.str "2"), (.str "2"), (.str "3"), (.str "shared"), (.str "2"), (.str "half"), (.str "")]), some (.lst [(.ptr 306), (.ptr 307), (.ptr 308), (.ptr 309), (.ptr 310)]), none, some (.ptr 310), none, none, none, none]
def H10 (c : Cell) : Hs := H9 c ++ [.lst [(.int (1)), (.int (2)), (.int (2))], .lst [(.int (3)), (.str "shared"), (.int (2)), (.str "any")], .lst [], .lst [], .lst [], .lst [(.int (1))], .lst [(.int (1))], .lst [(.int (1))], .lst [(.int (1)), (.int (2))], .lst [(.int (1)), (.int (2))], .lst [(.int (1)), (.int (2))], .lst [(.int (1)), (.int (2)), (.int (2))], .lst [], .lst [(.int (1)), (.int (2)), (.int (2))], .lst [], .lst [(.int (1)), (.int (2)), (.int (2))], .lst [], .lst [(.int (1)), (.int (2)), (.int (2))], .lst [(.int (3))], .lst [(.int (1)), (.int (2)), (.int (2))], .lst [(.int (3))], .lst [(.int (1)), (.int (2)), (.int (2))], .lst [(.int (3))], .lst [(.int (1)), (.int (2)), (.int (2))], .lst [(.int (3)), (.str "shared")], .lst [(.int (1)), (.int (2)), (.int (2))], .lst [(.int (3)), (.str "shared")], .lst [(.int (1)), (.int (2)), (.int (2))], .lst [(.int (3)), (.str "shared")], .lst [(.int (1)), (.int (2)), (.int (2))], .lst [(.int (3)), (.str "shared"), (.int (2))], .lst [(.int (1)), (.int (2)), (.int (2))], .lst [(.int (3)), (.str "shared"), (.int (2))], .lst [(.int (1)), (.int (2)), (.int (2))], .lst [(.int (3)), (.str "shared"), (.int (2))], .lst [(.int (1)), (.int (2)), (.int (2))], .lst [(.int (3)), (.str "shared"), (.int (2)), (.str "any")], .lst [(.int (1)), (.int (2)), (.int (2))], .lst [(.int (3)), (.str "shared"), (.int (2)), (.str "any")], .ins "Logged" [("kind", (.tup [(.int (1)), (.int (2)), (.int (2)), (.int (3)), (.str "shared"), (.int (2))])), ("files", (.int (2))), ("entry", (.int (7))), ("starts", (.tup [])), ("ins", (.tup [(.int (11)), (.int (2))])), ("outs", (.tup [(.int (4))])), ("cells", (.tup [(.int (3)), (.int (3)), (.int (2)), (.int (7)), (.int (7)), (.int (7)), (.int (4))]))], .ins "Logged" [("kind", (.tup [(.int (1)), (.int (2)), (.int (2)), (.int (3)), (.str "shared"), (.int (2))])), ("files", (.int (2))), ("entry", (.int (7))), ("starts", (.tup [])), ("ins", (.tup [(.int (11)), (.int (2))])), ("outs", (.tup [(.int (4))])), ("cells", (.tup [(.int (3)), (.int (3)), (.int (2)), (.int (7)), (.int (7)), (.int (7)), (.int (4))]))], .ins "Logged" [("kind", (.tup [(.int (1)), (.int (2)), (.int (2)), (.int (3)), (.str "shared"), (.int (2))])), ("files", (.int (2))), ("entry", (.int (7))), ("starts", (.tup [])), ("ins", (.tup [(.int (11)), (.int (2))])), ("outs", (.tup [(.int (4))])), ("cells", (.tup [(.int (3)), (.int (3)), (.int (2)), (.int (7)), (.int (7)), (.int (7)), (.int (4))]))], .ins "Torn" [("kind", (.tup [(.int (1)), (.int (2)), (.int (2)), (.int (3)), (.str "shared"), (.int (2))])), ("mend", (.str "any")), ("files", (.int (2))), ("key_many", (.int (2))), ("width", (.int (9))), ("starts", (.tup [])), ("ins", (.tup [(.int (11)), (.int (2))])), ("outs", (.tup [(.int (4))])), ("cells", (.tup [(.int (3)), (.int (3)), (.int (2)), (.int (3)), (.int (2)), (.int (4)), (.int (4)), (.int (4)), (.int (4)), (.int (6)), (.int (6)), (.int (6)), (.int (4))]))], .ins "Torn" [("kind", (.tup [(.int (1)), (.int (2)), (.int (2)), (.int (3)), (.str "shared"), (.int (2))])), ("mend", (.str "any")), ("files", (.int (2))), ("key_many", (.int (2))), ("width", (.int (9))), ("starts", (.tup [])), ("ins", (.tup [(.int (11)), (.int (2))])), ("outs", (.tup [(.int (4))])), ("cells", (.tup [(.int (3)), (.int (3)), (.int (2)), (.int (3)), (.int (2)), (.int (4)), (.int (4)), (.int (4)), (.int (4)), (.int (6)), (.int (6)), (.int (6)), (.int (4))]))]]
def E11 (d0 : D) : Nv := [some d0, some (.ptr 2), some (.ptr 3), some (.int (5)), some (.lst [(.str "1"), (.str "2"), (.str "2"), (.str "3"), (.str "shared"), (.str "2"), (.str "any")]), some (.tup [(.tup [(.int (1)), (.int (1)), (.int (2)), (.str "own"), (.str "own"), (.int (1)), (.int (1))]), (.str "round"), (.str "filled"), (.str "zeroed")]), some (.lst [(.str "-1"), (.str "5"), (.str "13"), (.str "4"), (.str "some"), (.str "0"), (.str "half")]), some (.int (6)), some (.tup [(.str "1"), (.str "2"), (.str "2"), (.str "3"), (.str "shared"), (.str "2"), (.str "half")]), some (.tup [(.str "1"), (.str "2"), (.str "2"), (.str "3"), (.str "shared"), (.str "2"), (.str "half"), (.str "")]), some (.lst [(.ptr 306), (.ptr 307), (.ptr 308), (.ptr 309), (.ptr 310)]), none, some (.ptr 310), none, none, none, none]
def H11 (c : Cell) : Hs := H10 c ++ []
def E12 (d0 : D) : Nv := [some d0, some (.ptr 2), some (.ptr 3), some (.int (5)), some (.lst [(.str "1"), (.str "2"), (.str "2"), (.str "3"), (.str "shared"), (.str "2"), (.str "any")]), some (.tup [(.tup [(.int (1)), (.int (1)), (.int (2)), (.str "own"), (.str "own"), (.int (1)), (.int (1))]), (.str "round"), (.str "filled"), (.str "zeroed")]), some (.lst [(.str "-1"), (.str "5"), (.str "13"), (.str "4"), (.str "some"), (.str "0"), (.str "half")]), some (.int (6)), some (.tup [(.str "1"), (.str "2"), (.str "2"), (.str "3"), (.str "shared"), (.str "2"), (.str "half")]), some (.tup [(.str "1"), (.str "2"), (.str "2"), (.str "3"), (.str "shared"), (.str "2"), (.str "half"), (.str "")]), some (.lst [(.ptr 306), (.ptr 307), (.ptr 308), (.ptr 309), (.ptr 310)]), none, some (.ptr 310), some (.lst [(.ptr 311), (.ptr 312)]), none, none, none]
def H12 (c : Cell) : Hs := H11 c ++ [.ins "Names" [("kind", (.tup [(.int (1)), (.int (1)), (.int (2)), (.str "own"), (.str "own"), (.int (1)), (.int (1))])), ("files", (.int (1))), ("starts", (.tup [])), ("ins", (.tup [(.int (6))])), ("outs", (.tup [(.int (4))])), ("cells", (.tup [(.int (3)), (.int (4))]))], .ins "Blocks" [("kind", (.tup [(.int (1)), (.int (1)), (.int (2)), (.str "own"), (.str "own"), (.int (1)), (.int (1))])), ("order", (.str "round")), ("times", (.str "filled")), ("fresh", (.str "zeroed")), ("files", (.int (1))), ("rooms", (.int (1))), ("quota", (.int (1))), ("ends", (.tup [(.int (1)), (.int (2)), (.int (3)), (.int (3))])), ("starts", (.tup [])), ("ins", (.tup [(.int (6))])), ("outs", (.tup [(.int (4))])), ("cells", (.tup [(.int (2)), (.int (2)), (.int (1)), (.int (4))]))], .dK [((.inr "least"), (.tup [])), ((.inr "last"), (.tup [(.int (2))])), ((.inr "round"), (.tup [(.int (1))]))]]
def E13 (d0 : D) : Nv := [some d0, some (.ptr 2), some (.ptr 3), some (.int (5)), some (.lst [(.str "1"), (.str "2"), (.str "2"), (.str "3"), (.str "shared"), (.str "2"), (.str "any")]), some (.tup [(.tup [(.int (1)), (.int (1)), (.int (2)), (.str "own"), (.str "own"), (.int (1)), (.int (1))]), (.str "round"), (.str "filled"), (.str "zeroed")]), some (.lst [(.str "-1"), (.str "5"), (.str "13"), (.str "4"), (.str "some"), (.str "0"), (.str "half")]), some (.int (6)), some (.tup [(.str "1"), (.str "2"), (.str "2"), (.str "3"), (.str "shared"), (.str "2"), (.str "half")]), some (.tup [(.str "1"), (.str "2"), (.str "2"), (.str "3"), (.str "shared"), (.str "2"), (.str "half"), (.str "")]), some (.lst [(.ptr 306), (.ptr 307), (.ptr 308), (.ptr 309), (.ptr 310)]), none, some (.ptr 310), some (.lst [(.ptr 311), (.ptr 312)]), none, none, none]
def H13 (c : Cell) : Hs := H12 c ++ []
def E14 (d0 : D) : Nv := [some d0, some (.ptr 2), some (.ptr 3), some (.int (5)), some (.lst [(.str "1"), (.str "2"), (.str "2"), (.str "3"), (.str "shared"), (.str "2"), (.str "any")]), some (.tup [(.tup [(.int (1)), (.int (1)), (.int (2)), (.str "own"), (.str "own"), (.int (1)), (.int (1))]), (.str "round"), (.str "filled"), (.str "zeroed")]), some (.lst [(.str "-1"), (.str "5"), (.str "13"), (.str "4"), (.str "some"), (.str "0"), (.str "half")]), some (.int (6)), some (.tup [(.str "1"), (.str "2"), (.str "2"), (.str "3"), (.str "shared"), (.str "2"), (.str "half")]), some (.tup [(.str "1"), (.str "2"), (.str "2"), (.str "3"), (.str "shared"), (.str "2"), (.str "half"), (.str "")]), some (.lst [(.ptr 306), (.ptr 307), (.ptr 308), (.ptr 309), (.ptr 310)]), none, some (.ptr 310), some (.lst [(.ptr 311), (.ptr 312)]), some (.lst [(.ptr 314), (.ptr 315)]), none, none]
def H14 (c : Cell) : Hs := H13 c ++ [.ins "Logged" [("kind", (.tup [(.int (1)), (.int (1)), (.int (2)), (.int (1)), (.str "own"), (.int (1))])), ("files", (.int (1))), ("entry", (.int (4))), ("starts", (.tup [])), ("ins", (.tup [(.int (6)), (.int (2))])), ("outs", (.tup [(.int (4))])), ("cells", (.tup [(.int (3)), (.int (1)), (.int (4)), (.int (4))]))], .ins "Torn" [("kind", (.tup [(.int (1)), (.int (1)), (.int (2)), (.int (1)), (.str "own"), (.int (1))])), ("mend", (.str "whole")), ("files", (.int (1))), ("key_many", (.int (1))), ("width", (.int (5))), ("starts", (.tup [])), ("ins", (.tup [(.int (6)), (.int (2))])), ("outs", (.tup [(.int (4))])), ("cells", (.tup [(.int (3)), (.int (1)), (.int (1)), (.int (2)), (.int (2)), (.int (2)), (.int (6)), (.int (4))]))]]
def E15 (d0 : D) : Nv := [some d0, some (.ptr 2), some (.ptr 3), some (.int (5)), some (.lst [(.str "1"), (.str "2"), (.str "2"), (.str "3"), (.str "shared"), (.str "2"), (.str "any")]), some (.tup [(.tup [(.int (1)), (.int (1)), (.int (2)), (.str "own"), (.str "own"), (.int (1)), (.int (1))]), (.str "round"), (.str "filled"), (.str "zeroed")]), some (.lst [(.str "-1"), (.str "5"), (.str "13"), (.str "4"), (.str "some"), (.str "0"), (.str "half")]), some (.int (6)), some (.tup [(.str "1"), (.str "2"), (.str "2"), (.str "3"), (.str "shared"), (.str "2"), (.str "half")]), some (.tup [(.str "1"), (.str "2"), (.str "2"), (.str "3"), (.str "shared"), (.str "2"), (.str "half"), (.str "")]), some (.lst [(.ptr 306), (.ptr 307), (.ptr 308), (.ptr 309), (.ptr 310)]), none, some (.ptr 310), some (.lst [(.ptr 311), (.ptr 312)]), some (.lst [(.ptr 314), (.ptr 315)]), none, none]
def H15 (c : Cell) : Hs := H14 c ++ []
def E16 (d0 : D) : Nv := [some d0, some (.ptr 2), some (.ptr 3), some (.int (5)), some (.lst [(.str "1"), (.str "2"), (.str "2"), (.str "3"), (.str "shared"), (.str "2"), (.str "any")]), some (.tup [(.tup [(.int (1)), (.int (1)), (.int (2)), (.str "own"), (.str "own"), (.int (1)), (.int (1))]), (.str "round"), (.str "filled"), (.str "zeroed")]), some (.lst [(.str "-1"), (.str "5"), (.str "13"), (.str "4"), (.str "some"), (.str "0"), (.str "half")]), some (.int (6)), some (.tup [(.str "1"), (.str "2"), (.str "2"), (.str "3"), (.str "shared"), (.str "2"), (.str "half")]), some (.tup [(.str "1"), (.str "2"), (.str "2"), (.str "3"), (.str "shared"), (.str "2"), (.str "half"), (.str "")]), some (.lst [(.ptr 306), (.ptr 307), (.ptr 308), (.ptr 309), (.ptr 310)]), none, some (.ptr 310), some (.lst [(.ptr 311), (.ptr 312)]), some (.lst [(.ptr 314), (.ptr 315)]), some (.lst [(.str "own"), (.str "own")]), none]
def H16 (c : Cell) : Hs := H15 c ++ [.ins "Bench" [("many", (.int (2))), ("size", (.int (2))), ("kind", (.str "own")), ("starts", (.tup [])), ("ins", (.tup [(.int (4)), (.int (4))])), ("outs", (.tup [(.int (4)), (.int (4))])), ("cells", (.tup [(.int (2)), (.int (2)), (.int (4)), (.int (4))]))], .dK [((.inr "own"), (.tup [(.int (2)), (.int (2))])), ((.inr "saved"), (.tup [(.int (2)), (.int (2)), (.int (2)), (.int (2))])), ((.inr "left"), (.tup [(.int (2))]))], .ins "Bench" [("many", (.int (2))), ("size", (.int (2))), ("kind", (.str "own")), ("starts", (.tup [])), ("ins", (.tup [(.int (4)), (.int (4))])), ("outs", (.tup [(.int (4)), (.int (4))])), ("cells", (.tup [(.int (2)), (.int (2)), (.int (4)), (.int (4))]))], .dK [((.inr "own"), (.tup [(.int (2)), (.int (2))])), ((.inr "saved"), (.tup [(.int (2)), (.int (2)), (.int (2)), (.int (2))])), ((.inr "left"), (.tup [(.int (2))]))]]
def E17 (d0 : D) : Nv := [some d0, some (.ptr 2), some (.ptr 3), some (.int (5)), some (.lst [(.str "1"), (.str "2"), (.str "2"), (.str "3"), (.str "shared"), (.str "2"), (.str "any")]), some (.tup [(.tup [(.int (1)), (.int (1)), (.int (2)), (.str "own"), (.str "own"), (.int (1)), (.int (1))]), (.str "round"), (.str "filled"), (.str "zeroed")]), some (.lst [(.str "-1"), (.str "5"), (.str "13"), (.str "4"), (.str "some"), (.str "0"), (.str "half")]), some (.int (6)), some (.tup [(.str "1"), (.str "2"), (.str "2"), (.str "3"), (.str "shared"), (.str "2"), (.str "half")]), some (.tup [(.str "1"), (.str "2"), (.str "2"), (.str "3"), (.str "shared"), (.str "2"), (.str "half"), (.str "")]), some (.lst [(.ptr 306), (.ptr 307), (.ptr 308), (.ptr 309), (.ptr 310)]), none, some (.ptr 310), some (.lst [(.ptr 311), (.ptr 312)]), some (.lst [(.ptr 314), (.ptr 315)]), some (.lst [(.str "own"), (.str "own"), (.str "saved"), (.str "left")]), none]
def H17 (c : Cell) : Hs := H16 c ++ [.ins "Bench" [("many", (.int (2))), ("size", (.int (2))), ("kind", (.str "saved")), ("starts", (.tup [])), ("ins", (.tup [(.int (4)), (.int (4))])), ("outs", (.tup [(.int (4)), (.int (4))])), ("cells", (.tup [(.int (2)), (.int (2)), (.int (2)), (.int (2)), (.int (4)), (.int (4))]))], .dK [((.inr "own"), (.tup [(.int (2)), (.int (2))])), ((.inr "saved"), (.tup [(.int (2)), (.int (2)), (.int (2)), (.int (2))])), ((.inr "left"), (.tup [(.int (2))]))], .ins "Bench" [("many", (.int (2))), ("size", (.int (2))), ("kind", (.str "left")), ("starts", (.tup [])), ("ins", (.tup [(.int (4)), (.int (4))])), ("outs", (.tup [(.int (4)), (.int (4))])), ("cells", (.tup [(.int (2)), (.int (4)), (.int (4))]))], .dK [((.inr "own"), (.tup [(.int (2)), (.int (2))])), ((.inr "saved"), (.tup [(.int (2)), (.int (2)), (.int (2)), (.int (2))])), ((.inr "left"), (.tup [(.int (2))]))]]
def E18 (d0 : D) : Nv := [some d0, some (.ptr 2), some (.ptr 3), some (.int (5)), some (.lst [(.str "1"), (.str "2"), (.str "2"), (.str "3"), (.str "shared"), (.str "2"), (.str "any")]), some (.tup [(.tup [(.int (1)), (.int (1)), (.int (2)), (.str "own"), (.str "own"), (.int (1)), (.int (1))]), (.str "round"), (.str "filled"), (.str "zeroed")]), some (.lst [(.str "-1"), (.str "5"), (.str "13"), (.str "4"), (.str "some"), (.str "0"), (.str "half")]), some (.int (6)), some (.tup [(.str "1"), (.str "2"), (.str "2"), (.str "3"), (.str "shared"), (.str "2"), (.str "half")]), some (.tup [(.str "1"), (.str "2"), (.str "2"), (.str "3"), (.str "shared"), (.str "2"), (.str "half"), (.str "")]), some (.lst [(.ptr 306), (.ptr 307), (.ptr 308), (.ptr 309), (.ptr 310)]), none, some (.ptr 310), some (.lst [(.ptr 311), (.ptr 312)]), some (.lst [(.ptr 314), (.ptr 315)]), some (.lst [(.str "own"), (.str "own"), (.str "saved"), (.str "left")]), none]
def H18 (c : Cell) : Hs := H17 c ++ [.lst [(.int (2)), (.int (2)), (.int (5))]]
def E19 (d0 : D) : Nv := [some d0, some (.ptr 2), some (.ptr 3), some (.int (5)), some (.lst [(.str "1"), (.str "2"), (.str "2"), (.str "3"), (.str "shared"), (.str "2"), (.str "any")]), some (.tup [(.tup [(.int (1)), (.int (1)), (.int (2)), (.str "own"), (.str "own"), (.int (1)), (.int (1))]), (.str "round"), (.str "filled"), (.str "zeroed")]), some (.lst [(.str "-1"), (.str "5"), (.str "13"), (.str "4"), (.str "some"), (.str "0"), (.str "half")]), some (.int (6)), some (.tup [(.str "1"), (.str "2"), (.str "2"), (.str "3"), (.str "shared"), (.str "2"), (.str "half")]), some (.tup [(.str "1"), (.str "2"), (.str "2"), (.str "3"), (.str "shared"), (.str "2"), (.str "half"), (.str "")]), some (.lst [(.ptr 306), (.ptr 307), (.ptr 308), (.ptr 309), (.ptr 310)]), none, some (.ptr 310), some (.lst [(.ptr 311), (.ptr 312)]), some (.lst [(.ptr 314), (.ptr 315)]), some (.lst [(.str "own"), (.str "own"), (.str "saved"), (.str "left")]), none]
def H19 (c : Cell) : Hs := H18 c ++ [.lst [(.int (2)), (.int (1)), (.int (2))], .lst [(.str "shared"), (.str "own")]]
def E20 (d0 : D) : Nv := [some d0, some (.ptr 2), some (.ptr 3), some (.int (5)), some (.lst [(.str "1"), (.str "2"), (.str "2"), (.str "3"), (.str "shared"), (.str "2"), (.str "any")]), some (.tup [(.tup [(.int (1)), (.int (1)), (.int (2)), (.str "own"), (.str "own"), (.int (1)), (.int (1))]), (.str "round"), (.str "filled"), (.str "zeroed")]), some (.lst [(.str "-1"), (.str "5"), (.str "13"), (.str "4"), (.str "some"), (.str "0"), (.str "half")]), some (.int (6)), some (.tup [(.str "1"), (.str "2"), (.str "2"), (.str "3"), (.str "shared"), (.str "2"), (.str "half")]), some (.tup [(.str "1"), (.str "2"), (.str "2"), (.str "3"), (.str "shared"), (.str "2"), (.str "half"), (.str "")]), some (.lst [(.ptr 306), (.ptr 307), (.ptr 308), (.ptr 309), (.ptr 310)]), none, some (.ptr 310), some (.lst [(.ptr 311), (.ptr 312)]), some (.lst [(.ptr 314), (.ptr 315)]), some (.lst [(.str "own"), (.str "own"), (.str "saved"), (.str "left")]), none]
def H20 (c : Cell) : Hs := H19 c ++ []
def KS : List D := [(.tup [(.int (0)), (.lst [(.str "2"), (.str "slots"), (.str "0,1,2")]), (.tup [(.int (2)), (.tup [(.int (0)), (.int (1)), (.int (2))]), (.str "slots"), (.tup [])]), (.lst [(.str "0"), (.str "slot"), (.str "0,3")])]), (.tup [(.int (0)), (.lst [(.str "2"), (.str "upward"), (.str "0,0,1"), (.str "1/-")]), (.tup [(.int (2)), (.tup [(.int (0)), (.int (0)), (.int (1))]), (.str "upward"), (.tup [(.tup [(.int (1))]), (.tup [])])]), (.lst [(.str "5"), (.str "up"), (.str ""), (.str "1")])]), (.tup [(.int (1)), (.lst [(.str "2"), (.str "1"), (.str "3"), (.str "own"), (.str "shared"), (.str "2"), (.str "1"), (.str "last"), (.str "filled"), (.str "left")]), (.tup [(.tup [(.int (2)), (.int (1)), (.int (3)), (.str "own"), (.str "shared"), (.int (2)), (.int (1))]), (.str "last"), (.str "filled"), (.str "left")]), (.lst [(.str "3"), (.str "0"), (.str "14"), (.str "none"), (.str "all"), (.str "9"), (.str "5"), (.str "first"), (.str "never"), (.str "old")])]), (.tup [(.int (2)), (.lst [(.str "1"), (.str "3"), (.str "2"), (.str "answers")]), (.tup [(.int (1)), (.int (3)), (.int (2)), (.str "answers")]), (.lst [(.str "00"), (.str "15"), (.str "4"), (.str "talks")])]), (.tup [(.int (3)), (.lst [(.str "2"), (.str "5"), (.str "shared")]), (.tup [(.int (2)), (.int (5)), (.str "shared")]), (.lst [(.str "4"), (.str "1"), (.str "all")])]), (.tup [(.int (4)), (.lst [(.str "2"), (.str "3"), (.str "clear")]), (.tup [(.int (2)), (.int (3)), (.str "clear")]), (.lst [(.str "x"), (.str "+3"), (.str "own")])]), (.tup [(.int (5)), (.lst [(.str "1"), (.str "2"), (.str "2"), (.str "3"), (.str "shared"), (.str "2"), (.str "any")]), (.tup [(.tup [(.int (1)), (.int (2)), (.int (2)), (.int (3)), (.str "shared"), (.int (2))]), (.str "any")]), (.lst [(.str "-1"), (.str "5"), (.str "13"), (.str "4"), (.str "some"), (.str "0"), (.str "half")])])]
theorem tl_eq : tl1 = [stm 0, stm 1, stm 2, stm 3, stm 4, stm 5, stm 6, stm 7, stm 8, stm 9, stm 10, stm 11, stm 12] := by kernel_rfl
theorem loop_eq : stm 2 = .loop TG .seq [.call "_law_kinds" []] LB := by kernel_rfl
end SI.K14
end
section
set_option Elab.async false
set_option linter.all false
set_option maxRecDepth 100000
set_option maxHeartbeats 4000000
namespace SI.K14
open PySem L2 PL
theorem s0 (d0 : D) (c : Cell) : ex (W 12) 60 (stm 0) (E0 d0) (H0 c) = .nx (E1 d0) (H1 c) := by kernel_rfl
theorem s1 (d0 : D) (c : Cell) : ex (W 12) 60 (stm 1) (E1 d0) (H1 c) = .nx (E2 d0) (H2 c) := by kernel_rfl
theorem s2 (d0 : D) (c : Cell) : (W 12).call "_law_kinds" [] (H2 c) = .ok (.lst KS) (H3 c) := by kernel_rfl
end SI.K14
end
section
set_option Elab.async false
set_option linter.all false
set_option maxRecDepth 100000
set_option maxHeartbeats 4000000
namespace SI.K14
open PySem L2 PL
theorem s3 (d0 : D) (c : Cell) : bodyF (W 12) 59 TG LB (KS.getD 0 .non) (E3 d0) (H3 c) = .nx (E4 d0) (H4 c) := by kernel_rfl
theorem s4 (d0 : D) (c : Cell) : bodyF (W 12) 59 TG LB (KS.getD 1 .non) (E4 d0) (H4 c) = .nx (E5 d0) (H5 c) := by kernel_rfl
theorem s5 (d0 : D) (c : Cell) : bodyF (W 12) 59 TG LB (KS.getD 2 .non) (E5 d0) (H5 c) = .nx (E6 d0) (H6 c) := by kernel_rfl
end SI.K14
end
section
set_option Elab.async false
set_option linter.all false
set_option maxRecDepth 100000
set_option maxHeartbeats 4000000
namespace SI.K14
open PySem L2 PL
theorem s6 (d0 : D) (c : Cell) : bodyF (W 12) 59 TG LB (KS.getD 3 .non) (E6 d0) (H6 c) = .nx (E7 d0) (H7 c) := by kernel_rfl
theorem s7 (d0 : D) (c : Cell) : bodyF (W 12) 59 TG LB (KS.getD 4 .non) (E7 d0) (H7 c) = .nx (E8 d0) (H8 c) := by kernel_rfl
theorem s8 (d0 : D) (c : Cell) : bodyF (W 12) 59 TG LB (KS.getD 5 .non) (E8 d0) (H8 c) = .nx (E9 d0) (H9 c) := by kernel_rfl
end SI.K14
end
section
set_option Elab.async false
set_option linter.all false
set_option maxRecDepth 100000
set_option maxHeartbeats 4000000
namespace SI.K14
open PySem L2 PL
theorem s9 (d0 : D) (c : Cell) : bodyF (W 12) 59 TG LB (KS.getD 6 .non) (E9 d0) (H9 c) = .nx (E10 d0) (H10 c) := by kernel_rfl
theorem s10 (d0 : D) (c : Cell) : ex (W 12) 60 (stm 3) (E10 d0) (H10 c) = .nx (E11 d0) (H11 c) := by kernel_rfl
theorem s11 (d0 : D) (c : Cell) : ex (W 12) 60 (stm 4) (E11 d0) (H11 c) = .nx (E12 d0) (H12 c) := by kernel_rfl
theorem s12 (d0 : D) (c : Cell) : ex (W 12) 60 (stm 5) (E12 d0) (H12 c) = .nx (E13 d0) (H13 c) := by kernel_rfl
theorem s13 (d0 : D) (c : Cell) : ex (W 12) 60 (stm 6) (E13 d0) (H13 c) = .nx (E14 d0) (H14 c) := by kernel_rfl
theorem s14 (d0 : D) (c : Cell) : ex (W 12) 60 (stm 7) (E14 d0) (H14 c) = .nx (E15 d0) (H15 c) := by kernel_rfl
theorem s15 (d0 : D) (c : Cell) : ex (W 12) 60 (stm 8) (E15 d0) (H15 c) = .nx (E16 d0) (H16 c) := by kernel_rfl
theorem s16 (d0 : D) (c : Cell) : ex (W 12) 60 (stm 9) (E16 d0) (H16 c) = .nx (E17 d0) (H17 c) := by kernel_rfl
theorem s17 (d0 : D) (c : Cell) : ex (W 12) 60 (stm 10) (E17 d0) (H17 c) = .nx (E18 d0) (H18 c) := by kernel_rfl
theorem s18 (d0 : D) (c : Cell) : ex (W 12) 60 (stm 11) (E18 d0) (H18 c) = .nx (E19 d0) (H19 c) := by kernel_rfl
theorem s19 (d0 : D) (c : Cell) : ex (W 12) 60 (stm 12) (E19 d0) (H19 c) = .rt (.bl true) (H20 c) := by kernel_rfl
end SI.K14
end
section
set_option Elab.async false
set_option linter.all false
set_option maxRecDepth 100000
set_option maxHeartbeats 4000000
namespace SI.K14
open PySem L2 PL
/-! k14: the pen is made and never drawn from; all else is closed: statement by statement (K14F..K14I), joined here. -/
abbrev penB : List IS := [.set (.n 1) (.bin .mod (.bi .int (.bin .add (.bin .mul (.v 1) (.c (.int 151))) (.v 2))) (.c (.int 1000000033)))]
theorem pen_start {k : Nat} (zs : List Int) : ∃ c, (W (k + 1)).call "_law_pen" [.ks true (zs.map D.int)] hsT = .ok (.ptr 2) (hsT ++ [c]) := by
  rw [q_l_pen]
  obtain ⟨env', h', f, t, x, rfl, rfl, ht0, ht1⟩ := for_inv (f := bodyF (W k) 59 (.n 2) penB) (I := fun _ env h' => ∃ t x, env = [some (.ks true (zs.map D.int)), some (.int t), x] ∧ h' = hsT ∧ 0 ≤ t ∧ t < 2 ^ 40) (xs := zs.map D.int) (env := [some (.ks true (zs.map D.int)), some (.int 0), none]) (h := hsT) ⟨0, none, rfl, rfl, by decide, by decide⟩
    fun x hx _ env h' i => by
      obtain ⟨t, y, rfl, rfl, ht0, ht1⟩ := i
      obtain ⟨z, hz, rfl⟩ := List.mem_map.mp hx
      have b1 : big64 151 = true := by decide
      refine ⟨_, _, ?_, (t * 151 + z) % 1000000033, some (.int z), rfl, rfl, Int.emod_nonneg _ (by decide), ?_⟩
      · simp [bodyF, penB, mul_ic b1, int_i, mod_ii]
      · have := Int.emod_lt_of_pos (t * 151 + z) (show (0 : Int) < 1000000033 by decide)
        omega
  have l := loop_run (G := W k) (n := 59) (t := .n 2) (k := .seq) (as := [(.v 0)]) (b := penB) (h1 := hsT) (ds := [.ks true (zs.map D.int)]) (xs := zs.map D.int) rfl rfl f
  have li : biD .list hsT (.ks true (zs.map D.int)) = some (.lst (zs.map D.int)) := rfl
  refine ⟨SI.pen (zs.map D.int) 0 0 0 t, ?_⟩
  simp [i_l_pen, -ex_loop]
  rw [l]
  simp [li, fin, SI.pen]
theorem law_cut : i_law = .set (.n 1) (.call "_law_pen" [(.v 0)]) :: tl1 := by kernel_rfl
theorem exs_step {f : IS → Nv → Hs → SRes} {s : IS} {ss : List IS} {env e1 : Nv} {h h1 : Hs} {R : SRes} (e : f s env h = .nx e1 h1) (r : exs f ss e1 h1 = R) : exs f (s :: ss) env h = R := by
  simp [e, r]
theorem exs_rt {f : IS → Nv → Hs → SRes} {s : IS} {ss : List IS} {env : Nv} {h h1 : Hs} {d : D} (e : f s env h = .rt d h1) : exs f (s :: ss) env h = .rt d h1 := by
  simp [e]
theorem for_step {f : D → Nv → Hs → SRes} {x : D} {xs : List D} {env e1 : Nv} {h h1 : Hs} {R : SRes} (e : f x env h = .nx e1 h1) (r : forLoop f xs e1 h1 = R) : forLoop f (x :: xs) env h = R := by
  unfold forLoop
  rw [e]
  exact r
theorem evs_call0 {G : Wr} {n : Nat} {f : Str} {env : Nv} {h h' : Hs} {v : D} (hc : G.call f [] h = .ok v h') : evs (ev G (n + 1)) [.call f []] env h = .ok [v] h' := by
  simp [hc]
theorem ks_eq : KS = [KS.getD 0 .non, KS.getD 1 .non, KS.getD 2 .non, KS.getD 3 .non, KS.getD 4 .non, KS.getD 5 .non, KS.getD 6 .non] := by kernel_rfl
theorem kinds_run (d0 : D) (c : Cell) : forLoop (bodyF (W 12) 59 TG LB) KS (E3 d0) (H3 c) = .nx (E10 d0) (H10 c) := by
  rw [ks_eq]
  exact for_step (s3 d0 c) <| for_step (s4 d0 c) <| for_step (s5 d0 c) <| for_step (s6 d0 c) <| for_step (s7 d0 c) <| for_step (s8 d0 c) <| for_step (s9 d0 c) rfl
theorem env23 (d0 : D) : E2 d0 = E3 d0 := rfl
theorem loop_ok (d0 : D) (c : Cell) : ex (W 12) 60 (stm 2) (E2 d0) (H2 c) = .nx (E10 d0) (H10 c) := by
  rw [loop_eq]
  refine loop_run (n := 59) (evs_call0 (n := 58) (s2 d0 c)) (xs := KS) rfl ?_
  rw [env23]
  exact kinds_run d0 c
theorem rest_ok (d0 : D) (c : Cell) : exs (ex (W 12) 60) tl1 (E0 d0) (H0 c) = .rt (.bl true) (H20 c) := by
  rw [tl_eq]
  exact exs_step (s0 d0 c) <| exs_step (s1 d0 c) <| exs_step (loop_ok d0 c) <| exs_step (s10 d0 c) <| exs_step (s11 d0 c) <| exs_step (s12 d0 c) <| exs_step (s13 d0 c) <| exs_step (s14 d0 c) <| exs_step (s15 d0 c) <| exs_step (s16 d0 c) <| exs_step (s17 d0 c) <| exs_step (s18 d0 c) <| exs_rt (s19 d0 c)
theorem cut_call {G : Wr} {n i j : Nat} {f : Str} {d v : D} {rest : List IS} {env : Nv} {h h' : Hs} (hj : get env j = some d) (hc : G.call f [d] h = .ok v h') : exs (ex G (n + 3)) (.set (.n i) (.call f [.v j]) :: rest) env h = exs (ex G (n + 3)) rest (env.set i (some v)) h' := by
  have e1 : ev G (n + 2) (.call f [.v j]) env h = .ok v h' := by
    simp [hj, hc]
  simp [e1]
theorem plain (zs : List Int) (hz : zs.length ≤ 63) : ∃ h', runF (wr txt.pg 12) x_law.e [.ks true (zs.map D.int)] (txt.T.lams.map Cell.tab) = .ok (.bl true) h' := by
  obtain ⟨c, hc⟩ := pen_start (k := 11) zs
  refine ⟨H20 c, run_rt (G := W 12) (e := e_law) (ds := [.ks true (zs.map D.int)]) rfl ?_⟩
  have z := cut_call (G := W 12) (n := 57) (i := 1) (rest := tl1) (env := [some (.ks true (zs.map D.int)), none, none, none, none, none, none, none, none, none, none, none, none, none, none, none, none]) (h := hsT) (j := 0) rfl hc
  rw [← law_cut] at z
  exact z.trans (rest_ok (.ks true (zs.map D.int)) c)
end SI.K14
end
section
set_option Elab.async false
set_option linter.all false
set_option maxRecDepth 100000
set_option maxHeartbeats 1000000
/-! SIH: the run of the top, told in parts. -/
namespace SI
open PySem PySem.Spec PyProof.Rows L2
theorem obs_join {n : Nat} {fx : List Fx} {f1 f2 : List He.DefD} {lams : List Str} {g : Addr → Option Obj} (a : (obsLG n fx [] lams g).1 = true) (b : obsLG n [] f1 [] g = He.valD f1) (c : obsLG n [] f2 [] g = He.valD f2) : obsLG n fx (f1 ++ f2) lams g = He.valD (f1 ++ f2) := by
  have b1 := congrArg (fun z : He.AlD => z.1) b
  have b2 := congrArg (fun z : He.AlD => z.2) b
  have c1 := congrArg (fun z : He.AlD => z.1) c
  have c2 := congrArg (fun z : He.AlD => z.2) c
  simp only [obsLG, obsX, He.valD, List.all_nil, List.map_nil, Bool.true_and, Bool.and_true, List.map_append, List.all_append, Bool.and_eq_true] at *
  refine Prod.ext ?_ ?_
  · show (_ && _) = true
    simp only [Bool.and_eq_true]
    exact ⟨⟨a.1, b1.1, c1.1⟩, a.2⟩
  · show _ ++ _ = _ ++ _
    rw [b2, c2]
theorem run_join {σ α β : Type} {o : Option σ} {f : σ → α} {g : σ → β} {G : σ → Addr → Option Obj} {x : α} {y : β} {n : Nat} {fx : List Fx} {fn : List He.DefD} {lams : List Str} (k : Nat) (a : o.map f = some x) (b : o.map g = some y)
    (c1 : o.map (fun s => (obsLG n fx [] lams (G s)).1) = some true) (c2 : o.map (fun s => obsLG n [] (fn.take k) [] (G s)) = some (He.valD (fn.take k))) (c3 : o.map (fun s => obsLG n [] (fn.drop k) [] (G s)) = some (He.valD (fn.drop k))) :
    o.map (fun s => (f s, g s, obsLG n fx fn lams (G s))) = some (x, y, He.valD fn) := by
  cases o with
  | none => cases a
  | some s =>
    simp only [Option.map_some, Option.some.injEq] at *
    have z := obs_join c1 c2 c3
    rw [List.take_append_drop] at z
    rw [a, b, z]
end SI
end
section
set_option Elab.async false
set_option linter.all false
set_option maxRecDepth 100000
set_option maxHeartbeats 0
namespace SI.K14
open PySem PySem.Spec PyProof.Rows L2
def loose : List Str := "_wall" :: "HouseError" :: "BadText" :: "BadBox" :: "is_whole" :: "is_count" :: "Box" :: "is_box" :: "need_box" :: "are_same_ports" :: "same_ports" :: "is_between" :: "is_lot_below" :: "are_planner_parts" :: "is_first_place" :: "next_stretch" :: "Planner" :: "Always" :: "Bench" :: "is_files_kind" :: "ask_size" :: "ask_apart" :: "divmod_small" :: "file_cells" :: "file_place" :: "room_of" :: "room_files" :: "is_room_left" :: "wait_cells" :: "Names" :: "waiting" :: "room_count" :: "Blocks" :: "Counter" :: "is_log_kind" :: "log_count" :: "log_of" :: "key_count" :: "key_of" :: "place_of_key" :: "log_ports" :: "changed_file" :: "Logged" :: "Mail" :: "Torn" :: "UPPER" :: "number_of" :: "numbers_of" :: "word_told" :: "words_read" :: "need_end" :: "planner_told" :: "planner_box" :: "store_words" :: "files_told" :: "files_box" :: "plain_told" :: "mailbox_told" :: "mailbox_box" :: "numbers_told_of" :: "numbers_box" :: "bench_told" :: "bench_box" :: "log_told" :: "log_box" :: "_law_pen" :: "_law_told" :: "_law_box" :: "_law_refused" :: "_law_place" :: "_law_parts_right" :: "_law_kinds" :: []
abbrev row : PySem.W.OpenRow := PySem.W.OpenLaw.row PySem.Challenge.rw_silenthouses_k14_errors_and_words_of_kin
abbrev hook : PySem.W.Hook := hookL 4 txt.fx txt.fn txt.T.lams
def seen (s : PySem.W.SharedT) : He.AlD := obsLG 4 txt.fx txt.fn txt.T.lams (HandSHeadRun.getT s)
theorem seen_eq (s : PySem.W.SharedT) : seen s = hook.obs s.abs := obsLG_eq (HandSHeadRun.getT_eq s)
section
open PySem.W HandSHeadRun PySem.Calls
abbrev vw : Program := view row.prog [84]
noncomputable abbrev ran0 (w : World) (os : OsState) := endF (stepQ (denQ tabQ) row.prog w) 12000 row.prog w os
noncomputable abbrev lookA (w : World) (s : SharedT) := looksF row.prog (boot_heap w.params) s.abs
noncomputable abbrev lookB (s : SharedT) := seenQ vw loose (importedModules row.prog.main.body) (fun s => xlAt vw [] s && recOk row.toRowW.records s) s.abs
theorem ranA (w : World) (os : OsState) : (ran0 w os).map (lookA w) = some true := by kernel_rfl
theorem ranB (w : World) (os : OsState) : (ran0 w os).map lookB = some (openGood vw loose) := by kernel_rfl
theorem ranC (w : World) (os : OsState) : (ran0 w os).map (fun s => (obsLG 4 txt.fx [] txt.T.lams (getT s)).1) = some true := by kernel_rfl
theorem ranD (w : World) (os : OsState) : (ran0 w os).map (fun s => obsLG 4 [] (txt.fn.take 40) [] (getT s)) = some (He.valD (txt.fn.take 40)) := by kernel_rfl
theorem ranE (w : World) (os : OsState) : (ran0 w os).map (fun s => obsLG 4 [] (txt.fn.drop 40) [] (getT s)) = some (He.valD (txt.fn.drop 40)) := by kernel_rfl
theorem ran (w : World) : RunEq row vw hook seen 12000 loose w := by
  intro os
  exact run_join 40 (ranA w os) (ranB w os) (ranC w os) (ranD w os) (ranE w os)
end
theorem nameIs : (HandSHeadRun.topDef row.prog 84).name = ("law" : Str) := by kernel_rfl
end SI.K14
open PySem PySem.W PySem.Calls PyProof.Rows
theorem PySem.Challenge.cw_silenthouses_k14_errors_and_words_of_kin_holds : PySem.Challenge.rw_silenthouses_k14_errors_and_words_of_kin.Holds := by
  w_on; o_law
  refine HandSHeadRun.head_any (r := SI.K14.row) (q := view SI.K14.row.prog [84]) (H := SI.K14.hook) (ob := SI.K14.seen) (M := 12000) (loose := SI.K14.loose) (d := HandSHeadRun.topDef SI.K14.row.prog 84) (kwd := [])
    SI.K14.seen_eq (by kernel_rfl) (fun s => by kernel_rfl) SI.K14.ran (by kernel_rfl) (by kernel_rfl) (by kernel_rfl) (by rfl) (by first | assumption | decide +kernel) (by decide +kernel) ⟨rfl, rfl, rfl, rfl, rfl, by decide +kernel⟩ ?wit ?cal
  case wit => w_witness2
  case cal =>
    refine SI.walk_GT (l := PySem.Challenge.rw_silenthouses_k14_errors_and_words_of_kin) (n := 63) (kk := 13) (y := "script") rfl (by decide) (by kernel_rfl) ⟨rfl, by decide, by decide⟩ fun w mg fa hp ⟨K, kin, says, lm⟩ gl hm => ?_
    have hl : mg ("law" : PySem.Str) = some (.ref fa) := by
      rw [← SI.K14.nameIs]
      exact hm
    obtain ⟨fd, spr, cs, h0⟩ := SI.law_end (t := SI.K14.txt) (k := 12) (P := PySem.Challenge.pw_silenthouses_k14_errors_and_words_of_kin) (w := w) (x := "script") SI.K14.txtOk (q := ("law", SI.K14.x_law)) (by kernel_rfl) rfl SI.K14.plain kin gl says lm fa hl
    exact ⟨K, fd, spr, cs, kin, h0⟩
end
