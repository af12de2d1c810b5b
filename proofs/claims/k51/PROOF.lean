import PyProof.Rows.All
import Wide.All
import OpenK.AllK
import Wide.FinOn
import HandS.ForMost
import HandS.Exc
import HandS.TryOnly
import HandS.ExcOwn
import HandS.WordsExc
import HandS.Walk
import HandS.Strs
import HandS.Wide
import PySem.Challenge.RW_corebank_k51_whole_life_of_orders
import HandS.Codes
set_option Elab.async false
set_option linter.all false
set_option maxRecDepth 100000
set_option maxHeartbeats 8000000
namespace K51
open PySem L2
/-! ### the text by places -/
def top (i : Nat) : Stmt := PySem.Challenge.pw_corebank_k51_whole_life_of_orders.main.body.getD i (.Pass ⟨0, 0, 0, 0⟩)
abbrev sIsAmount : Stmt := top 11
abbrev sIsDay : Stmt := top 14
abbrev sIsName : Stmt := top 20
abbrev sCheckName : Stmt := top 21
abbrev sCheckRule : Stmt := top 22
abbrev sOrdInit : Stmt := inClass (top 23) 0
abbrev sRequire : Stmt := inClass (top 23) 1
abbrev sTold : Stmt := inClass (top 23) 2
abbrev sOrsInit : Stmt := inClass (top 24) 0
abbrev sAddUser : Stmt := inClass (top 24) 1
abbrev sMay : Stmt := inClass (top 24) 3
abbrev sSetRule : Stmt := inClass (top 24) 4
abbrev sRowFor : Stmt := inClass (top 24) 5
abbrev sCheckPlace : Stmt := inClass (top 24) 6
abbrev sPlace : Stmt := inClass (top 24) 7
abbrev sAtNumber : Stmt := inClass (top 24) 8
abbrev sWaitingFor : Stmt := inClass (top 24) 9
abbrev sGrant : Stmt := inClass (top 24) 10
abbrev sReject : Stmt := inClass (top 24) 11
abbrev sWithdraw : Stmt := inClass (top 24) 12
abbrev sExpire : Stmt := inClass (top 24) 13
abbrev sEnd : Stmt := inClass (top 24) 14
abbrev sComplete : Stmt := inClass (top 24) 15
abbrev sFail : Stmt := inClass (top 24) 16
abbrev sOrder : Stmt := inClass (top 24) 17
abbrev sByKey : Stmt := inClass (top 24) 18
abbrev sNumbers : Stmt := top 26
abbrev sName : Stmt := top 27
abbrev sOther : Stmt := top 28
abbrev sRank : Stmt := top 29
abbrev sCall : Stmt := top 30
abbrev sView : Stmt := top 31
abbrev sStep : Stmt := top 32
abbrev sFresh : Stmt := top 33
abbrev sSteps : Stmt := top 34
abbrev sCovered : Stmt := top 35
abbrev sCount : Stmt := top 36
abbrev sLaw : Stmt := top 37

/-! ### attributes as two lists -/
theorem ixOf_cons (a k : Str) (ks : List Str) : (a :: ks).idxOf? k = if a = k then some 0 else (ks.idxOf? k).map (· + 1) := by
  rw [List.idxOf?_cons]
  by_cases h : a = k
  · subst h; simp
  · have : (a == k) = false := by simpa using h
    simp [this, h]
theorem lookup_zip : ∀ {ks : List Str} {vs : List V} {k : Str} {i : Nat} {v : V}, ks.idxOf? k = some i → vs[i]? = some v → (ks.zip vs).lookup k = some v
  | [], _, _, _, _, h, _ => by simp at h
  | a :: ks, [], k, i, v, _, h => by simp at h
  | a :: ks, x :: vs, k, i, v, h, hv => by
    rw [ixOf_cons] at h
    by_cases e : a = k
    · subst e
      rw [if_pos rfl] at h
      cases h
      simp at hv
      subst hv
      simp [List.lookup]
    · rw [if_neg e] at h
      cases q : ks.idxOf? k with
      | none => rw [q] at h; cases h
      | some j =>
        rw [q] at h
        have hj : j + 1 = i := by simpa using h
        subst hj
        have hne : (k == a) = false := by simpa using fun z : k = a => e z.symm
        show List.lookup k ((a, x) :: ks.zip vs) = some v
        rw [List.lookup_cons, hne]
        exact lookup_zip q (by simpa using hv)
theorem lookup_zip_none : ∀ {ks : List Str} {vs : List V} {k : Str}, ks.idxOf? k = none → (ks.zip vs).lookup k = none
  | [], _, _, _ => rfl
  | a :: ks, [], k, _ => rfl
  | a :: ks, x :: vs, k, h => by
    rw [ixOf_cons] at h
    by_cases e : a = k
    · rw [if_pos e] at h; cases h
    · rw [if_neg e] at h
      have hne : (k == a) = false := by simpa using fun z : k = a => e z.symm
      show List.lookup k ((a, x) :: ks.zip vs) = none
      rw [List.lookup_cons, hne]
      exact lookup_zip_none (by simpa using h)
theorem putF_zip : ∀ {ks : List Str} {vs : List V} {k : Str} {i : Nat} {v : V}, ks.idxOf? k = some i → ks.length = vs.length → putF k v (ks.zip vs) = ks.zip (vs.set i v)
  | [], _, _, _, _, h, _ => by simp at h
  | a :: ks, [], k, i, v, _, h => by simp at h
  | a :: ks, x :: vs, k, i, v, h, hl => by
    rw [ixOf_cons] at h
    show (if a = k then (a, v) :: ks.zip vs else (a, x) :: putF k v (ks.zip vs)) = _
    by_cases e : a = k
    · rw [if_pos e] at h ⊢
      cases h
      rfl
    · rw [if_neg e] at h ⊢
      cases q : ks.idxOf? k with
      | none => rw [q] at h; cases h
      | some j =>
        rw [q] at h
        have hj : j + 1 = i := by simpa using h
        subst hj
        rw [putF_zip q (by simpa using hl)]
        rfl
theorem putF_zip_new : ∀ {ks : List Str} {vs : List V} {k : Str} {v : V}, ks.idxOf? k = none → ks.length = vs.length → putF k v (ks.zip vs) = (ks ++ [k]).zip (vs ++ [v])
  | [], [], _, _, _, _ => rfl
  | [], _ :: _, _, _, _, h => by simp at h
  | a :: ks, [], _, _, _, h => by simp at h
  | a :: ks, x :: vs, k, v, h, hl => by
    rw [ixOf_cons] at h
    show (if a = k then (a, v) :: ks.zip vs else (a, x) :: putF k v (ks.zip vs)) = _
    by_cases e : a = k
    · rw [if_pos e] at h; cases h
    · rw [if_neg e] at h ⊢
      rw [putF_zip_new (by simpa using h) (by simpa using hl)]
      rfl

/-! ### an order, plainly -/
structure Ord where
  maker : Str
  kind : Str
  amount : Int
  key : Str
  til : Int
  req : Int
  role : Option Str
  grants : List Str
  state : Str
def roleV : Option Str → V
  | none => .non
  | some r => .str r
def oK : List Str := ["maker", "kind", "amount", "key", "until", "required", "role", "grants", "state"]
def oV (o : Ord) (g : Addr) : List V := [.str o.maker, .str o.kind, .int o.amount, .str o.key, .int o.til, .int o.req, roleV o.role, .ref g, .str o.state]
def oF (o : Ord) (g : Addr) : List (Str × V) := oK.zip (oV o g)
theorem oF_len (o : Ord) (g : Addr) : (oF o g).length = 9 := rfl
theorem oF_maker (o : Ord) (g : Addr) : (oF o g).lookup ("maker" : Str) = some (.str o.maker) := lookup_zip (i := 0) (by decide +kernel) rfl
theorem oF_kind (o : Ord) (g : Addr) : (oF o g).lookup ("kind" : Str) = some (.str o.kind) := lookup_zip (i := 1) (by decide +kernel) rfl
theorem oF_amount (o : Ord) (g : Addr) : (oF o g).lookup ("amount" : Str) = some (.int o.amount) := lookup_zip (i := 2) (by decide +kernel) rfl
theorem oF_key (o : Ord) (g : Addr) : (oF o g).lookup ("key" : Str) = some (.str o.key) := lookup_zip (i := 3) (by decide +kernel) rfl
theorem oF_til (o : Ord) (g : Addr) : (oF o g).lookup ("until" : Str) = some (.int o.til) := lookup_zip (i := 4) (by decide +kernel) rfl
theorem oF_req (o : Ord) (g : Addr) : (oF o g).lookup ("required" : Str) = some (.int o.req) := lookup_zip (i := 5) (by decide +kernel) rfl
theorem oF_role (o : Ord) (g : Addr) : (oF o g).lookup ("role" : Str) = some (roleV o.role) := lookup_zip (i := 6) (by decide +kernel) rfl
theorem oF_grants (o : Ord) (g : Addr) : (oF o g).lookup ("grants" : Str) = some (.ref g) := lookup_zip (i := 7) (by decide +kernel) rfl
theorem oF_state (o : Ord) (g : Addr) : (oF o g).lookup ("state" : Str) = some (.str o.state) := lookup_zip (i := 8) (by decide +kernel) rfl
theorem oF_no (o : Ord) (g : Addr) {m : Str} (h : oK.idxOf? m = none) : (oF o g).lookup m = none := lookup_zip_none h
theorem oF_put_state (o : Ord) (g : Addr) (z : Str) : putF "state" (.str z) (oF o g) = oF { o with state := z } g :=
  (putF_zip (i := 8) (by decide +kernel) rfl).trans rfl
theorem oF_put_req (o : Ord) (g : Addr) (z : Int) : putF "required" (.int z) (oF o g) = oF { o with req := z } g :=
  (putF_zip (i := 5) (by decide +kernel) rfl).trans rfl
theorem oF_put_role (o : Ord) (g : Addr) (z : Option Str) : putF "role" (roleV z) (oF o g) = oF { o with role := z } g :=
  (putF_zip (i := 6) (by decide +kernel) rfl).trans rfl
theorem oF_grants_any (o : Ord) (g : Addr) (l : List Str) : oF { o with grants := l } g = oF o g := rfl

def pK : List Str := ["roles", "rules", "placed", "numbers_by_key"]
def pF (dR dU l dN : Addr) : List (Str × V) := pK.zip [.ref dR, .ref dU, .ref l, .ref dN]
theorem pF_roles (dR dU l dN : Addr) : (pF dR dU l dN).lookup ("roles" : Str) = some (.ref dR) := lookup_zip (i := 0) (by decide +kernel) rfl
theorem pF_rules (dR dU l dN : Addr) : (pF dR dU l dN).lookup ("rules" : Str) = some (.ref dU) := lookup_zip (i := 1) (by decide +kernel) rfl
theorem pF_placed (dR dU l dN : Addr) : (pF dR dU l dN).lookup ("placed" : Str) = some (.ref l) := lookup_zip (i := 2) (by decide +kernel) rfl
theorem pF_keys (dR dU l dN : Addr) : (pF dR dU l dN).lookup ("numbers_by_key" : Str) = some (.ref dN) := lookup_zip (i := 3) (by decide +kernel) rfl
theorem pF_no (dR dU l dN : Addr) {m : Str} (h : pK.idxOf? m = none) : (pF dR dU l dN).lookup m = none := lookup_zip_none h

/-! ### roles -/
def IsRole (r : Str) : Prop := r = "teller" ∨ r = "officer" ∨ r = "chief"
def roleList : List Str := ["teller", "officer", "chief"]
def rank (r : Str) : Nat := if r = "teller" then 0 else if r = "officer" then 1 else 2
theorem IsRole.at_ {r : Str} (h : IsRole r) : roleList[rank r]? = some r ∧ ∀ m, m < rank r → roleList[m]? ≠ some r := by
  rcases h with rfl | rfl | rfl <;> decide +kernel
theorem IsRole.lt {r : Str} (h : IsRole r) : rank r < 3 := by
  rcases h with rfl | rfl | rfl <;> decide +kernel
def Open (o : Ord) : Prop := o.state = "waiting" ∨ o.state = "ready"
def Over (rs : List (Str × Str)) (b : Str) (r : Str) : Prop := ∃ q, rs.lookup b = some q ∧ rank r ≤ rank q

/-- a text of plain signs -/
def SOk (z : Str) : Prop := PyData.strOk z = true
structure OrdOk (rs : List (Str × Str)) (o : Ord) : Prop where
  shape : (o.req = 0 ∧ o.role = none ∧ o.grants = [] ∧ o.state ≠ "waiting") ∨ (1 ≤ o.req ∧ o.req ≤ 5 ∧ ∃ r, o.role = some r ∧ IsRole r ∧ ∀ b ∈ o.grants, Over rs b r)
  len : (o.grants.length : Int) ≤ o.req
  wait : o.state = "waiting" → (o.grants.length : Int) < o.req
  full : o.state = "ready" ∨ o.state = "done" ∨ o.state = "failed" → (o.grants.length : Int) = o.req
  nomk : ¬ o.maker ∈ o.grants
  nd : o.grants.Nodup
  sok : SOk o.maker ∧ SOk o.kind ∧ SOk o.key ∧ SOk o.state ∧ ∀ b ∈ o.grants, SOk b

def granted (o : Ord) (b : Str) : Ord := { o with grants := o.grants ++ [b], state := if ((o.grants.length + 1 : Nat) : Int) = o.req then "ready" else o.state }

/-- one step of an order -/
def Chg (what by_ : Str) (rs : List (Str × Str)) (day : Int) (o n : Ord) : Prop :=
  (what = "grant" ∧ o.state = "waiting" ∧ ¬ by_ = o.maker ∧ ¬ by_ ∈ o.grants ∧ (∃ r, o.role = some r ∧ Over rs by_ r) ∧ n = granted o by_) ∨
  (what = "reject" ∧ o.state = "waiting" ∧ ¬ by_ = o.maker ∧ (∃ r, o.role = some r ∧ Over rs by_ r) ∧ n = { o with state := "rejected" }) ∨
  (what = "withdraw" ∧ by_ = o.maker ∧ Open o ∧ n = { o with state := "withdrawn" }) ∨
  (what = "expire" ∧ Open o ∧ o.til < day ∧ n = { o with state := "expired" }) ∨
  (what = "complete" ∧ o.state = "ready" ∧ n = { o with state := "done" }) ∨
  (what = "fail" ∧ o.state = "ready" ∧ n = { o with state := "failed" })

/-- an order that was just placed -/
def FreshOrd (rs : List (Str × Str)) (f : Ord) : Prop :=
  (∃ q, rs.lookup f.maker = some q) ∧ f.grants = [] ∧ ((f.req = 0 ∧ f.role = none ∧ f.state = "ready") ∨ (1 ≤ f.req ∧ f.req ≤ 5 ∧ (∃ r, f.role = some r ∧ IsRole r) ∧ f.state = "waiting"))

/-- what one call does to the orders -/
structure CallRel (what by_ : Str) (num day : Int) (rs : List (Str × Str)) (os : List Ord) (fin : Bool) (ns : List Ord) : Prop where
  each : ∀ (i : Nat) (o : Ord), os[i]? = some o → ∃ n, ns[i]? = some n ∧
    (n = o ∨ (fin = true ∧ (what = "expire" ∨ ((i : Int) + 1 = num)) ∧ Chg what by_ rs day o n)) ∧ (what = "expire" → Open o → o.til < day → n.state = "expired")
  more : ns.length = os.length ∨ (ns.length = os.length + 1 ∧ fin = true ∧ what = "place" ∧ ∃ f, ns[os.length]? = some f ∧ FreshOrd rs f)

/-! ### heaps -/
/-- the heap without an object's own addresses -/
def off (own : List Addr) (H : Hp) : Hp := fun b => if b ∈ own then none else H b
theorem off_out {own : List Addr} {H : Hp} {b : Addr} (h : ¬ b ∈ own) : off own H b = H b := by unfold off; rw [if_neg h]
theorem off_some {own : List Addr} {H : Hp} {b : Addr} {o : HO} (h : off own H b = some o) : ¬ b ∈ own ∧ H b = some o := by
  unfold off at h
  by_cases e : b ∈ own
  · rw [if_pos e] at h; cases h
  · rw [if_neg e] at h; exact ⟨e, h⟩
theorem off_le {own : List Addr} {H : Hp} : Same (off own H) H := fun b o e => (off_some e).2
theorem off_same {own : List Addr} {H H' : Hp} (s : Same H H') : Same (off own H) (off own H') := fun b o e => by
  obtain ⟨n, h⟩ := off_some e
  rw [off_out n]
  exact s b o h
/-- an own object is changed -/
theorem off_upd {own : List Addr} {H : Hp} {a : Addr} {o : HO} (h : a ∈ own) : Same (off own H) (off own (upd H a o)) := fun b u e => by
  obtain ⟨n, q⟩ := off_some e
  rw [off_out n, upd_ne (fun z => n (by rw [z]; exact h))]
  exact q
/-- more is own: what was free -/
theorem off_more {own own' : List Addr} {H : Hp} (h : ∀ b ∈ own', b ∈ own ∨ H b = none) : Same (off own H) (off own' H) := fun b u e => by
  obtain ⟨n, q⟩ := off_some e
  rw [off_out (fun z => ?_)]
  · exact q
  · rcases h b z with y | y
    · exact n y
    · rw [q] at y; cases y
theorem same_upd {H : Hp} {a : Addr} {o : HO} (h : H a = none) : Same H (upd H a o) := fun b u e => by
  rw [upd_ne (ne_of_none e h)]; exact e
theorem SqT.same {K : PySem.W.Frag} {H H' : Hp} {a : Addr} {xs : List V} (e : Same H H') (h : SqT K H a xs) : SqT K H' a xs := by
  rcases h with (h | ⟨o, h⟩) | h
  · exact .inl (.inl (e _ _ h))
  · exact .inl (.inr ⟨o, e _ _ h⟩)
  · exact .inr h

/-! ### what stands in the heap -/
def RowOk (H : Hp) (r : V) : Prop := ∃ (t : Addr) (least gr : Int) (role : Str), r = .ref t ∧ H t = some (.tup [.int least, .int gr, .str role]) ∧ 0 ≤ gr ∧ gr ≤ 5 ∧ IsRole role
def RuleOk (H : Hp) (v : V) : Prop := ∃ (t : Addr) (rows : List V), v = .ref t ∧ H t = some (.tup rows) ∧ ∀ r ∈ rows, RowOk H r
theorem RowOk.same {H H' : Hp} (s : Same H H') {r : V} (h : RowOk H r) : RowOk H' r := by
  obtain ⟨t, a, b, c, e, ht, q⟩ := h
  exact ⟨t, a, b, c, e, s _ _ ht, q⟩
theorem RuleOk.same {H H' : Hp} (s : Same H H') {v : V} (h : RuleOk H v) : RuleOk H' v := by
  obtain ⟨t, rows, e, ht, q⟩ := h
  exact ⟨t, rows, e, s _ _ ht, fun r hr => (q r hr).same s⟩
def rolesKV (rs : List (Str × Str)) : List (Key × V) := rs.map fun p => (Sum.inr p.1, V.str p.2)

/-- the addresses of the program's classes -/
structure Cl where
  D : Addr
  C : Addr
  BE : Addr

structure OrdAt (D : Addr) (H : Hp) (a g : Addr) (o : Ord) : Prop where
  ins : ∃ dx, H a = some (.ins D dx (oF o g))
  gl : H g = some (.lst (o.grants.map V.str))

/-- an Orders object at p; G: the heap that its rules stand in (all but its own addresses) -/
structure OrsAt (A : Cl) (n : Nat) (own : List Addr) (H : Hp) (p dR dU l dN : Addr) (as gs : List Addr) (rs : List (Str × Str)) (os : List Ord) : Prop where
  own_ : own = p :: dR :: dU :: l :: dN :: (as ++ gs)
  ob : ∃ dx, H p = some (.ins A.C dx (pF dR dU l dN))
  dr : H dR = some (.dK (rolesKV rs))
  du : ∃ rk, H dU = some (.dK rk) ∧ rk.length ≤ n ∧ ∀ k v, valV rk k = some v → RuleOk (off own H) v
  dn : ∃ nk, H dN = some (.dK nk) ∧ nk.length ≤ n ∧ ∀ k v, valV nk k = some v → ∃ i : Nat, v = .int ((i : Int) + 1) ∧ i < os.length
  pl : H l = some (.lst (as.map V.ref))
  al : as.length = os.length
  gll : gs.length = os.length
  osn : os.length ≤ n
  at_ : ∀ (i : Nat) (o : Ord) (a g : Addr), os[i]? = some o → as[i]? = some a → gs[i]? = some g → OrdAt A.D H a g o
  nd : own.Nodup
  ok : ∀ o ∈ os, OrdOk rs o
  rol : ∀ b q, rs.lookup b = some q → IsRole q ∧ SOk b
  rsn : rs.length ≤ 100
def OA (A : Cl) (n : Nat) (own : List Addr) (H : Hp) (p : Addr) (rs : List (Str × Str)) (os : List Ord) : Prop :=
  ∃ (dR dU l dN : Addr) (as gs : List Addr), OrsAt A n own H p dR dU l dN as gs rs os

theorem OrdAt.same {D : Addr} {H H' : Hp} {a g : Addr} {o : Ord} (s : Same H H') (h : OrdAt D H a g o) : OrdAt D H' a g o := by
  obtain ⟨⟨dx, h1⟩, h2⟩ := h
  exact ⟨⟨dx, s _ _ h1⟩, s _ _ h2⟩
theorem OrsAt.same {A : Cl} {n : Nat} {own : List Addr} {H H' : Hp} {p dR dU l dN : Addr} {as gs : List Addr} {rs : List (Str × Str)} {os : List Ord} (s : Same H H') (h : OrsAt A n own H p dR dU l dN as gs rs os) :
    OrsAt A n own H' p dR dU l dN as gs rs os := by
  obtain ⟨dx, e1⟩ := h.ob
  obtain ⟨rk, e3, e3l, e3r⟩ := h.du
  obtain ⟨nk, e5, e5l, e5r⟩ := h.dn
  exact ⟨h.own_, ⟨dx, s _ _ e1⟩, s _ _ h.dr, ⟨rk, s _ _ e3, e3l, fun k v e => (e3r k v e).same (off_same s)⟩, ⟨nk, s _ _ e5, e5l, e5r⟩, s _ _ h.pl, h.al, h.gll, h.osn,
    fun i o a g e1 e2 e3 => (h.at_ i o a g e1 e2 e3).same s, h.nd, h.ok, h.rol, h.rsn⟩
theorem OA.same {A : Cl} {n : Nat} {own : List Addr} {H H' : Hp} {p : Addr} {rs : List (Str × Str)} {os : List Ord} (s : Same H H') (h : OA A n own H p rs os) : OA A n own H' p rs os := by
  obtain ⟨dR, dU, l, dN, as, gs, q⟩ := h
  exact ⟨dR, dU, l, dN, as, gs, q.same s⟩
theorem OrsAt.mono {A : Cl} {n m : Nat} {own : List Addr} {H : Hp} {p dR dU l dN : Addr} {as gs : List Addr} {rs : List (Str × Str)} {os : List Ord} (k : n ≤ m) (h : OrsAt A n own H p dR dU l dN as gs rs os) :
    OrsAt A m own H p dR dU l dN as gs rs os := by
  obtain ⟨rk, e3, e3l, e3r⟩ := h.du
  obtain ⟨nk, e5, e5l, e5r⟩ := h.dn
  exact ⟨h.own_, h.ob, h.dr, ⟨rk, e3, Nat.le_trans e3l k, e3r⟩, ⟨nk, e5, Nat.le_trans e5l k, e5r⟩, h.pl, h.al, h.gll, Nat.le_trans h.osn k, h.at_, h.nd, h.ok, h.rol, h.rsn⟩
theorem OA.mono {A : Cl} {n m : Nat} {own : List Addr} {H : Hp} {p : Addr} {rs : List (Str × Str)} {os : List Ord} (k : n ≤ m) (h : OA A n own H p rs os) : OA A m own H p rs os := by
  obtain ⟨dR, dU, l, dN, as, gs, q⟩ := h
  exact ⟨dR, dU, l, dN, as, gs, q.mono k⟩

theorem valV_roles : ∀ (rs : List (Str × Str)) (b : Str), valV (rolesKV rs) (Sum.inr b : Key) = (rs.lookup b).map V.str
  | [], _ => rfl
  | (a, q) :: rs, b => by
    by_cases e : b = a
    · subst e
      simp [rolesKV, valV, List.lookup]
    · have hne : (b == a) = false := by simpa using e
      have ih := valV_roles rs b
      rw [List.lookup_cons, hne]
      simp only [rolesKV, valV, List.map_cons] at ih ⊢
      have h2 : ¬ (Sum.inr a : Key) = Sum.inr b := fun z => e (Sum.inr.inj z).symm
      simp [h2] at ih ⊢
      exact ih

theorem nd5 {p dR dU l dN : Addr} {t : List Addr} (h : (p :: dR :: dU :: l :: dN :: t).Nodup) :
    (p ≠ dR ∧ p ≠ dU ∧ p ≠ l ∧ p ≠ dN) ∧ (dR ≠ dU ∧ dR ≠ l ∧ dR ≠ dN) ∧ (dU ≠ l ∧ dU ≠ dN) ∧ l ≠ dN ∧ (∀ a ∈ t, a ≠ p ∧ a ≠ dR ∧ a ≠ dU ∧ a ≠ l ∧ a ≠ dN) ∧ t.Nodup := by
  simp only [List.nodup_cons, List.mem_cons, not_or] at h
  obtain ⟨⟨a1, a2, a3, a4, a5⟩, ⟨b1, b2, b3, b4⟩, ⟨c1, c2, c3⟩, ⟨d1, d2⟩, e1, f⟩ := h
  exact ⟨⟨a1, a2, a3, a4⟩, ⟨b1, b2, b3⟩, ⟨c1, c2⟩, d1, fun a ha => ⟨fun z => a5 (z ▸ ha), fun z => b4 (z ▸ ha), fun z => c3 (z ▸ ha), fun z => d2 (z ▸ ha), fun z => e1 (z ▸ ha)⟩, f⟩
theorem OrsAt.tracked {A : Cl} {n : Nat} {own : List Addr} {H : Hp} {p dR dU l dN : Addr} {as gs : List Addr} {rs : List (Str × Str)} {os : List Ord} (h : OrsAt A n own H p dR dU l dN as gs rs os) : ∀ b ∈ own, H b ≠ none := by
  intro b hb z
  rw [h.own_] at hb
  obtain ⟨dx, e1⟩ := h.ob
  obtain ⟨rk, e3, _⟩ := h.du
  obtain ⟨nk, e5, _⟩ := h.dn
  simp only [List.mem_cons, List.mem_append] at hb
  have at_ : ∀ i : Nat, i < os.length → ∃ o a g, os[i]? = some o ∧ as[i]? = some a ∧ gs[i]? = some g := fun i hi =>
    ⟨os[i], as[i]'(by rw [h.al]; exact hi), gs[i]'(by rw [h.gll]; exact hi), List.getElem?_eq_getElem _, List.getElem?_eq_getElem _, List.getElem?_eq_getElem _⟩
  rcases hb with rfl | rfl | rfl | rfl | rfl | hb | hb
  · rw [e1] at z; cases z
  · rw [h.dr] at z; cases z
  · rw [e3] at z; cases z
  · rw [h.pl] at z; cases z
  · rw [e5] at z; cases z
  · obtain ⟨i, hi⟩ := List.mem_iff_getElem?.mp hb
    have hl := (List.getElem?_eq_some_iff.mp hi).1
    rw [h.al] at hl
    obtain ⟨o, a, g, q1, q2, q3⟩ := at_ i hl
    rw [hi] at q2; cases q2
    obtain ⟨dx, q⟩ := (h.at_ i o _ g q1 hi q3).ins
    rw [z] at q; cases q
  · obtain ⟨i, hi⟩ := List.mem_iff_getElem?.mp hb
    have hl := (List.getElem?_eq_some_iff.mp hi).1
    rw [h.gll] at hl
    obtain ⟨o, a, g, q1, q2, q3⟩ := at_ i hl
    rw [hi] at q3; cases q3
    have q := (h.at_ i o a _ q1 q2 hi).gl
    rw [z] at q; cases q
theorem OA.tracked {A : Cl} {n : Nat} {own : List Addr} {H : Hp} {p : Addr} {rs : List (Str × Str)} {os : List Ord} (h : OA A n own H p rs os) : ∀ b ∈ own, H b ≠ none := by
  obtain ⟨dR, dU, l, dN, as, gs, q⟩ := h
  exact q.tracked

/-! ### views -/
def factsV (o : Ord) : List V := [.str o.maker, .str o.kind, .int o.amount, .str o.key, .int o.til, .int o.req, roleV o.role]
structure VAt (G : Hp) (v : Addr) (o : Ord) : Prop where
  ex : ∃ f g, G v = some (.tup [.ref f, .ref g, .str o.state]) ∧ G f = some (.tup (factsV o)) ∧ G g = some (.lst (o.grants.map V.str))
structure VsAt (G : Hp) (q : Addr) (vs : List Addr) (os : List Ord) : Prop where
  l : G q = some (.lst (vs.map V.ref))
  n : vs.length = os.length
  at_ : ∀ (i : Nat) (v : Addr) (o : Ord), vs[i]? = some v → os[i]? = some o → VAt G v o
theorem VAt.same {G G' : Hp} (s : Same G G') {v : Addr} {o : Ord} (h : VAt G v o) : VAt G' v o := by
  obtain ⟨f, g, a, b, c⟩ := h.ex
  exact ⟨f, g, s _ _ a, s _ _ b, s _ _ c⟩
theorem VsAt.same {G G' : Hp} (s : Same G G') {q : Addr} {vs : List Addr} {os : List Ord} (h : VsAt G q vs os) : VsAt G' q vs os :=
  ⟨s _ _ h.l, h.n, fun i v o a b => (h.at_ i v o a b).same s⟩

/-! ### what a caller wants of a def -/
/-- the def x of the module, by its promise -/
structure Dfn (P : Program) (w : World) (K : PySem.W.Frag) (mg : Str → Option Value) (base : Heap) (CX : CXT) (k : Nat) (x : Str) (ps : List Str) (sp : Sp) (f : Addr) (fd : FuncData) : Prop where
  ok : FnOk P w K mg base CX k f fd ps sp
  m : mg x = some (.ref f)
  kp : PySem.W.keepIn K (.ref f) = true
  b : Binds K fd ps []
/-- the method m of the class at C -/
structure Mth (P : Program) (w : World) (K : PySem.W.Frag) (mg : Str → Option Value) (base : Heap) (CX : CXT) (k : Nat) (C : Addr) (m : Str) (ps : List Str) (sp : Sp) (f : Addr) (fd : FuncData) : Prop where
  ok : FnOk P w K mg base CX k f fd ps sp
  m : Meth K C m f
  b : Binds K fd ps []
/-- an error class of the program -/
structure Er (K : PySem.W.Frag) (mg : Str → Option Value) (BE : Addr) (x : Str) (c : Addr) : Prop where
  g : mg x = some (.ref c)
  x : PySem.W.excIn K c [.type "ValueError", .type "Exception", .type "BaseException", .type "object"] "ValueError.__new__" = true
  k : PySem.W.keepIn K (.ref c) = true
  b : PySem.W.subIn K (.ref c) (.type "BaseException") = some true
  t : PySem.W.typeIn K (.ref c) = some (.type "type")
  e : PySem.W.exmOne K (.ref c) (.ref BE) = some true
/-- a refusal: an error of the program's, what stood stands -/
def Rz (K : PySem.W.Frag) (BE : Addr) (H : Hp) (E : XK) : Prop := ∀ (c : Addr) (H' : Hp), PySem.W.exmOne K (.ref c) (.ref BE) = some true → Same H H' → E (.ref c) none H'
theorem Rz.same {K : PySem.W.Frag} {BE : Addr} {H H' : Hp} {E : XK} (s : Same H H') (h : Rz K BE H E) : Rz K BE H' E := fun c H2 e s2 => h c H2 e (s.trans s2)

/-- what the walk asks of what the top has made -/
structure Txt (K : PySem.W.Frag) (mg : Str → Option Value) (A : Cl) : Prop where
  clD : Cls K A.D
  dMk : NoAttr K A.D "maker"
  dKi : NoAttr K A.D "kind"
  dAm : NoAttr K A.D "amount"
  dKe : NoAttr K A.D "key"
  dUn : NoAttr K A.D "until"
  dRq : NoAttr K A.D "required"
  dRo : NoAttr K A.D "role"
  dGr : NoAttr K A.D "grants"
  dSt : NoAttr K A.D "state"
  mgD : mg "Order" = some (.ref A.D)
  clC : Cls K A.C
  cRo : NoAttr K A.C "roles"
  cRu : NoAttr K A.C "rules"
  cPl : NoAttr K A.C "placed"
  cNk : NoAttr K A.C "numbers_by_key"
  mgC : mg "Orders" = some (.ref A.C)
  mgB : mg "BankError" = some (.ref A.BE)
  len : mg "len" = none
  all : mg "all" = none
  range : mg "range" = none
  list : mg "list" = none
  tuple : mg "tuple" = none
  enum : mg "enumerate" = none
  set : mg "set" = none
  int : mg "int" = none
  str : mg "str" = none
  limit : ∃ t, mg "LIMIT" = some (.int 1000000000 t)
  last : ∃ t, mg "LAST_DAY" = some (.int 36524 t)
  most : ∃ t, mg "MOST_ORDERS" = some (.int 500 t)
  letters : ∃ t, mg "LETTERS" = some (.str "abcdefghijklmnopqrstuvwxyz" t)
  digits : ∃ t, mg "DIGITS" = some (.str "0123456789" t)
  roles : ∃ a, mg "ROLES" = some (.ref a) ∧ (∀ H, SqT K H a (roleList.map V.str)) ∧ ∃ o, K.lookup a = some o ∧ o.cls = .type "tuple" ∧ o.dict = none
end K51
namespace K51
open PySem L2
/-! ### tests -/
theorem ifT {c : Bool} {X Y : Prop} (hc : c = true) (h : X) : if c = true then X else Y := by rw [if_pos hc]; exact h
theorem ifF {c : Bool} {X Y : Prop} (hc : c = false) (h : Y) : if c = true then X else Y := by
  rw [if_neg (by rw [hc]; exact Bool.false_ne_true)]
  exact h
theorem ifB {c : Bool} {X Y : Prop} (h1 : c = true → X) (h2 : c = false → Y) : if c = true then X else Y := by
  cases c with
  | true => exact ifT rfl (h1 rfl)
  | false => exact ifF rfl (h2 rfl)
theorem yesT {σ : St} {H : Hp} {X Y : Hp → Prop} (h : X H) : tYes σ H (fun b H3 => if b = true then X H3 else Y H3) := by
  show (if true = true then X H else Y H)
  rw [if_pos rfl]
  exact h
/-! ### names -/
def lettersL : List Nat := ("abcdefghijklmnopqrstuvwxyz" : Str).cps.toList
def digitsL : List Nat := ("0123456789" : Str).cps.toList
structure NameOk (z : Str) : Prop where
  lo : 1 ≤ z.cps.toList.length
  hi : z.cps.toList.length ≤ 12
  first : ∀ c, z.cps.toList[0]? = some c → c ∈ lettersL
  every : ∀ c, c ∈ z.cps.toList → c ∈ lettersL ∨ c ∈ digitsL
theorem sok_of {z : Str} (h : ∀ c ∈ z.cps.toList, c < 0x110000) : SOk z := by
  unfold SOk PyData.strOk
  rw [← Array.all_toList, List.all_eq_true]
  intro c hc
  exact decide_eq_true (h c hc)
theorem letters_small : ∀ c ∈ lettersL, c < 0x110000 := by decide +kernel
theorem digits_small : ∀ c ∈ digitsL, c < 0x110000 := by decide +kernel
theorem NameOk.sok {z : Str} (h : NameOk z) : SOk z := sok_of fun c hc => (h.every c hc).elim (letters_small c) (digits_small c)
/-- the rows of a rule as the law makes them -/
def RowsGood (H : Hp) (c : Int) (rows : List V) : Prop :=
  ∀ (i : Nat) (r : V), rows[i]? = some r → ∃ (t : Addr) (gr : Int) (role : Str), r = .ref t ∧ H t = some (.tup [.int ((i : Int) * c), .int gr, .str role]) ∧ 0 ≤ gr ∧ gr ≤ 5 ∧ IsRole role
theorem RowsGood.same {H H' : Hp} (s : Same H H') {c : Int} {rows : List V} (h : RowsGood H c rows) : RowsGood H' c rows := fun i r e => by
  obtain ⟨t, gr, role, e1, e2, q⟩ := h i r e
  exact ⟨t, gr, role, e1, s _ _ e2, q⟩
/-- what is new in H' -/
def nw (H H' : Hp) : Hp := fun b => match H b with
  | none => H' b
  | some _ => none
theorem nw_some {H H' : Hp} {b : Addr} {o : HO} (h : nw H H' b = some o) : H b = none ∧ H' b = some o := by
  unfold nw at h
  cases e : H b with
  | none => rw [e] at h; exact ⟨rfl, h⟩
  | some u => rw [e] at h; cases h
theorem nw_of {H H' : Hp} {b : Addr} {o : HO} (h : H b = none) (h' : H' b = some o) : nw H H' b = some o := by
  unfold nw; rw [h]; exact h'
theorem nw_right {H H1 H2 : Hp} (s : Same H1 H2) : Same (nw H H1) (nw H H2) := fun b o e => nw_of (nw_some e).1 (s _ _ (nw_some e).2)
theorem nw_left {H H1 H2 : Hp} (s : Same H H1) : Same (nw H1 H2) (nw H H2) := fun b o e => nw_of (s.free (nw_some e).1) (nw_some e).2
theorem nw_off {own : List Addr} {H H' : Hp} (t : ∀ b ∈ own, H b ≠ none) : Same (nw H H') (off own H') := fun b o e => by
  rw [off_out fun z => t b z (nw_some e).1]
  exact (nw_some e).2
theorem nw_le {H H' : Hp} : Same (nw H H') H' := fun b o e => (nw_some e).2

/-! ### promises: the program -/
def spIsAmount : Sp := fun vs H Q _ => ∃ n : Int, vs = [.int n] ∧ 1 ≤ n ∧ n ≤ 1000000000 ∧ Q (.bl true) H
def spIsDay : Sp := fun vs H Q _ => ∃ n : Int, vs = [.int n] ∧ 0 ≤ n ∧ n ≤ 36524 ∧ Q (.bl true) H
def spIsName : Sp := fun vs H Q _ => ∃ z : Str, vs = [.str z] ∧ NameOk z ∧ ∀ H', Same H H' → Q (.bl true) H'
def spCheckName : Sp := fun vs H Q _ => ∃ z : Str, vs = [.str z] ∧ NameOk z ∧ ∀ H', Same H H' → Q .non H'
def spCheckRule : Sp := fun vs H Q _ => ∃ (l : Addr) (rows : List V) (c : Int), vs = [.ref l] ∧ H l = some (.lst rows) ∧ 1 ≤ rows.length ∧ rows.length ≤ 3 ∧ 1 ≤ c ∧ c ≤ 1000 ∧ RowsGood H c rows ∧ Q .non H
def newOrd (m k : Str) (a : Int) (key : Str) (u : Int) : Ord := ⟨m, k, a, key, u, 0, none, [], "ready"⟩
def spOrdInit (A : Cl) : Sp := fun vs H Q _ => ∃ (p dx : Addr) (m k key : Str) (a u : Int), vs = [.ref p, .str m, .str k, .int a, .str key, .int u] ∧ H p = some (.ins A.D dx []) ∧
  ∀ (g : Addr) (H' : Hp), H g = none → OrdAt A.D H' p g (newOrd m k a key u) → (∀ b o, H b = some o → b ≠ p → H' b = some o) → Q .non H'
def required (o : Ord) (q : Int) (r : Option Str) : Ord := if 0 < q then { o with req := q, role := r, state := "waiting" } else o
def spRequire (A : Cl) : Sp := fun vs H Q _ => ∃ (p g : Addr) (o : Ord) (q : Int) (r : Option Str), vs = [.ref p, .int q, roleV r] ∧ OrdAt A.D H p g o ∧
  ∀ H' : Hp, OrdAt A.D H' p g (required o q r) → (∀ b u, H b = some u → b ≠ p → H' b = some u) → Q .non H'
def spTold (A : Cl) : Sp := fun vs H Q _ => ∃ (p g : Addr) (o : Ord), vs = [.ref p] ∧ OrdAt A.D H p g o ∧
  ∀ (t g' : Addr) (H' : Hp), Same H H' → H' t = some (.tup (factsV o ++ [.ref g', .str o.state])) → H' g' = some (.lst (o.grants.map V.str)) → Q (.ref t) H'
def spOrsInit (A : Cl) : Sp := fun vs H Q _ => ∃ (p dx : Addr), vs = [.ref p] ∧ H p = some (.ins A.C dx []) ∧
  ∀ (own : List Addr) (H' : Hp), OA A 0 own H' p [] [] → (∀ b ∈ own, b = p ∨ H b = none) → (∀ b o, H b = some o → b ≠ p → H' b = some o) → Q .non H'
def spAddUser (A : Cl) : Sp := fun vs H Q _ => ∃ (p : Addr) (own : List Addr) (n : Nat) (rs : List (Str × Str)) (z r : Str), vs = [.ref p, .str z, .str r] ∧ OA A n own H p rs [] ∧ NameOk z ∧ IsRole r ∧ rs.lookup z = none ∧ rs.length ≤ 50 ∧
  ∀ H' : Hp, OA A n own H' p (rs ++ [(z, r)]) [] → Same (off own H) (off own H') → Q .non H'
def spMay (A : Cl) : Sp := fun vs H Q _ => ∃ (p : Addr) (own : List Addr) (n : Nat) (rs : List (Str × Str)) (os : List Ord) (b r : Str), vs = [.ref p, .str b, .str r] ∧ OA A n own H p rs os ∧ IsRole r ∧
  ∀ k : Bool, (k = true → Over rs b r) → Q (.bl k) H
def spSetRule (A : Cl) : Sp := fun vs H Q _ => ∃ (p : Addr) (own : List Addr) (n : Nat) (rs : List (Str × Str)) (os : List Ord) (z : Str) (l : Addr) (rows : List V) (c : Int), vs = [.ref p, .str z, .ref l] ∧ OA A n own H p rs os ∧ NameOk z ∧ n ≤ 200 ∧
  off own H l = some (.lst rows) ∧ 1 ≤ rows.length ∧ rows.length ≤ 3 ∧ 1 ≤ c ∧ c ≤ 1000 ∧ RowsGood (off own H) c rows ∧ ∀ H' : Hp, OA A (n + 1) own H' p rs os → Same (off own H) (off own H') → Q .non H'
/-- what a rule may ask -/
def Asked (q : Int) (r : Option Str) : Prop := (q = 0 ∧ r = none) ∨ (0 ≤ q ∧ q ≤ 5 ∧ ∃ r', r = some r' ∧ IsRole r')
def spRowFor (A : Cl) : Sp := fun vs H Q _ => ∃ (p : Addr) (own : List Addr) (n : Nat) (rs : List (Str × Str)) (os : List Ord) (z : Str) (a : Int), vs = [.ref p, .str z, .int a] ∧ OA A n own H p rs os ∧
  ∀ (t : Addr) (q : Int) (r : Option Str) (H' : Hp), Same H H' → H' t = some (.tup [.int q, roleV r]) → Asked q r → Q (.ref t) H'
/-- the arguments of an order as the law draws them -/
structure PlaceArgs (z : Str) (a : Int) (key : Str) (u : Int) : Prop where
  z : NameOk z
  a1 : 1 ≤ a
  a2 : a ≤ 1000000000
  k1 : 1 ≤ key.length
  k2 : key.length ≤ 20
  u1 : 0 ≤ u
  u2 : u ≤ 36524
  ks : SOk key
def spCheckPlace (K : PySem.W.Frag) (A : Cl) : Sp := fun vs H Q E => ∃ (p : Addr) (own : List Addr) (n : Nat) (rs : List (Str × Str)) (os : List Ord) (b z key : Str) (a u : Int), vs = [.ref p, .str b, .str z, .int a, .str key, .int u] ∧ OA A n own H p rs os ∧
  PlaceArgs z a key u ∧ Rz K A.BE H E ∧ ∀ (q : Str) (H' : Hp), Same H H' → rs.lookup b = some q → Q .non H'
def spByKey (A : Cl) : Sp := fun vs H Q _ => ∃ (p : Addr) (own : List Addr) (n : Nat) (rs : List (Str × Str)) (os : List Ord) (key : Str), vs = [.ref p, .str key] ∧ OA A n own H p rs os ∧
  ∀ v : V, (v = .non ∨ ∃ i : Nat, v = .int ((i : Int) + 1) ∧ i < os.length) → Q v H
def spPlace (K : PySem.W.Frag) (A : Cl) : Sp := fun vs H Q E => ∃ (p : Addr) (own : List Addr) (n : Nat) (rs : List (Str × Str)) (os : List Ord) (b z key : Str) (a u : Int), vs = [.ref p, .str b, .str z, .int a, .str key, .int u] ∧ OA A n own H p rs os ∧ n ≤ 200 ∧
  PlaceArgs z a key u ∧ Rz K A.BE H E ∧ (∀ (v : V) (H' : Hp), Same H H' → Q v H') ∧
  ∀ (own' : List Addr) (H' : Hp) (f : Ord) (v : V), OA A (n + 1) own' H' p rs (os ++ [f]) → FreshOrd rs f → Same (off own H) (off own' H') → Q v H'
def spAtNumber (K : PySem.W.Frag) (A : Cl) : Sp := fun vs H Q E => ∃ (p dR dU l dN : Addr) (as gs own : List Addr) (n : Nat) (rs : List (Str × Str)) (os : List Ord) (num : Int), vs = [.ref p, .int num] ∧ OrsAt A n own H p dR dU l dN as gs rs os ∧ n ≤ 300 ∧
  (¬ (1 ≤ num ∧ num ≤ (os.length : Int)) → Rz K A.BE H E) ∧ ∀ (i : Nat) (a : Addr), num = (i : Int) + 1 → as[i]? = some a → Q (.ref a) H
def spWaitingFor (K : PySem.W.Frag) (A : Cl) : Sp := fun vs H Q E => ∃ (p dR dU l dN : Addr) (as gs own : List Addr) (n : Nat) (rs : List (Str × Str)) (os : List Ord) (b : Str) (num : Int), vs = [.ref p, .str b, .int num] ∧ OrsAt A n own H p dR dU l dN as gs rs os ∧ n ≤ 300 ∧
  Rz K A.BE H E ∧ ∀ (i : Nat) (a : Addr) (o : Ord), num = (i : Int) + 1 → as[i]? = some a → os[i]? = some o → o.state = "waiting" → ¬ b = o.maker → (∃ r, o.role = some r ∧ Over rs b r) → Q (.ref a) H
def Act (A : Cl) (n : Nat) (own : List Addr) (H : Hp) (p : Addr) (rs : List (Str × Str)) (os : List Ord) (num : Int) (what b : Str) (Q : VK) : Prop :=
  ∀ (i : Nat) (o nn : Ord) (v : V) (H' : Hp), num = (i : Int) + 1 → os[i]? = some o → Chg what b rs 0 o nn → OA A n own H' p rs (os.set i nn) → Same (off own H) (off own H') → Q v H'
def spBy (K : PySem.W.Frag) (A : Cl) (what : Str) : Sp := fun vs H Q E => ∃ (p : Addr) (own : List Addr) (n : Nat) (rs : List (Str × Str)) (os : List Ord) (b : Str) (num : Int), vs = [.ref p, .str b, .int num] ∧ OA A n own H p rs os ∧ n ≤ 300 ∧
  Rz K A.BE H E ∧ Act A n own H p rs os num what b Q
def spEnd (K : PySem.W.Frag) (A : Cl) : Sp := fun vs H Q E => ∃ (p : Addr) (own : List Addr) (n : Nat) (rs : List (Str × Str)) (os : List Ord) (what b z : Str) (num : Int), vs = [.ref p, .int num, .str z] ∧ OA A n own H p rs os ∧ n ≤ 300 ∧
  ((what = "complete" ∧ z = "done") ∨ (what = "fail" ∧ z = "failed")) ∧ Rz K A.BE H E ∧ Act A n own H p rs os num what b Q
def spNo (K : PySem.W.Frag) (A : Cl) (what : Str) : Sp := fun vs H Q E => ∃ (p : Addr) (own : List Addr) (n : Nat) (rs : List (Str × Str)) (os : List Ord) (b : Str) (num : Int), vs = [.ref p, .int num] ∧ OA A n own H p rs os ∧ n ≤ 300 ∧
  Rz K A.BE H E ∧ Act A n own H p rs os num what b Q
instance (o : Ord) : Decidable (Open o) := inferInstanceAs (Decidable (_ ∨ _))
def expOne (day : Int) (o : Ord) : Ord := if Open o ∧ o.til < day then { o with state := "expired" } else o
def spExpire (A : Cl) : Sp := fun vs H Q _ => ∃ (p : Addr) (own : List Addr) (n : Nat) (rs : List (Str × Str)) (os : List Ord) (day : Int), vs = [.ref p, .int day] ∧ OA A n own H p rs os ∧ n ≤ 300 ∧
  ∀ (v : V) (H' : Hp), OA A n own H' p rs (os.map (expOne day)) → Same (off own H) (off own H') → Q v H'
def spOrder (K : PySem.W.Frag) (A : Cl) : Sp := fun vs H Q E => ∃ (p : Addr) (own : List Addr) (n : Nat) (rs : List (Str × Str)) (os : List Ord) (num : Int), vs = [.ref p, .int num] ∧ OA A n own H p rs os ∧ n ≤ 300 ∧
  (¬ (1 ≤ num ∧ num ≤ (os.length : Int)) → Rz K A.BE H E) ∧
  ∀ (i : Nat) (o : Ord) (t g' : Addr) (H' : Hp), num = (i : Int) + 1 → os[i]? = some o → Same H H' → H' t = some (.tup (factsV o ++ [.ref g', .str o.state])) → H' g' = some (.lst (o.grants.map V.str)) → Q (.ref t) H'

/-! ### promises: the law's own defs -/
def spNumbers : Sp := fun vs H Q _ => ∃ (c : Int) (n : Nat), vs = [.int c, .int (n : Int)] ∧ n ≤ 20 ∧
  ∀ (p : Addr) (zs : List Int) (H' : Hp), Same H H' → H p = none → H' p = some (.lst (zs.map V.int)) → zs.length = n → Q (.ref p) H'
def spName : Sp := fun vs H Q _ => ∃ (n : Int) (k : Nat), vs = [.int n, .int (k : Int)] ∧ 2 ≤ k ∧ k ≤ 12 ∧ ∀ z : Str, NameOk z → z.cps.toList.length = k → Q (.str z) H
def spOther : Sp := fun vs H Q _ => ∃ (z : Str) (n : Int) (c d : Nat), vs = [.str z, .int n, .str ⟨#[c]⟩, .str ⟨#[d]⟩] ∧ 1 ≤ z.cps.toList.length ∧ z.cps.toList.length ≤ 12 ∧ c ≠ d ∧
  ∀ (z' : Str) (i e : Nat), i < z.cps.toList.length → (e = c ∨ e = d) → z.cps.toList[i]? ≠ some e → z'.cps.toList = z.cps.toList.set i e → Q (.str z') H
def spRank : Sp := fun vs H Q _ => ∃ r : Str, vs = [.str r] ∧ IsRole r ∧ ∀ H' : Hp, Same H H' → Q (.int (rank r : Nat)) H'
def whats : List Str := ["rule", "place", "grant", "reject", "withdraw", "complete", "fail", "expire"]
def spCall (A : Cl) : Sp := fun vs H Q _ => ∃ (p q : Addr) (own : List Addr) (n : Nat) (rs : List (Str × Str)) (os : List Ord) (zs : List Int) (what b : Str) (num z7 : Int), vs = [.ref p, .ref q, .str what, .str b, .int num] ∧ OA A n own H p rs os ∧ n ≤ 200 ∧
  off own H q = some (.lst (zs.map V.int)) ∧ zs.length = 10 ∧ what ∈ whats ∧ zs[7]? = some z7 ∧
  ∀ (own' : List Addr) (H' : Hp) (ns : List Ord) (k : Bool), OA A (n + 1) own' H' p rs ns → Same (off own H) (off own' H') → CallRel what b num (z7 % 33) rs os k ns → Q (.bl k) H'
def spView (A : Cl) : Sp := fun vs H Q _ => ∃ (p : Addr) (own : List Addr) (n : Nat) (rs : List (Str × Str)) (os : List Ord), vs = [.ref p, .int (os.length : Int)] ∧ OA A n own H p rs os ∧ n ≤ 300 ∧
  ∀ (q : Addr) (ws : List Addr) (H' : Hp), Same H H' → VsAt (nw H H') q ws os → Q (.ref q) H'
def spCount (A : Cl) : Sp := fun vs H Q _ => ∃ (p : Addr) (own : List Addr) (n : Nat) (rs : List (Str × Str)) (os : List Ord) (c : Nat), vs = [.ref p, .int (c : Int)] ∧ OA A n own H p rs os ∧ n ≤ 300 ∧ (os.length = c ∨ os.length = c + 1) ∧
  ∀ H' : Hp, Same H H' → Q (.int (os.length : Int)) H'
/-- the law's own dict of roles at d -/
structure RolesAt (H : Hp) (d : Addr) (rs : List (Str × Str)) : Prop where
  d : H d = some (.dK (rolesKV rs))
  rol : ∀ b q, rs.lookup b = some q → IsRole q ∧ SOk b
theorem RolesAt.same {H H' : Hp} (s : Same H H') {d : Addr} {rs : List (Str × Str)} (h : RolesAt H d rs) : RolesAt H' d rs := ⟨s _ _ h.d, h.rol⟩
def spStep : Sp := fun vs H Q _ => ∃ (v1 v2 dL : Addr) (o n : Ord) (rs : List (Str × Str)) (what b : Str) (day : Int), vs = [.ref v1, .ref v2, .str what, .str b, .ref dL, .int day] ∧ VAt H v1 o ∧ VAt H v2 n ∧ RolesAt H dL rs ∧ OrdOk rs o ∧
  (n = o ∨ Chg what b rs day o n) ∧ ∀ H' : Hp, Same H H' → Q (.bl true) H'
def spFresh : Sp := fun vs H Q _ => ∃ (v dL : Addr) (f : Ord) (rs : List (Str × Str)), vs = [.ref v, .ref dL] ∧ VAt H v f ∧ RolesAt H dL rs ∧ FreshOrd rs f ∧ ∀ H' : Hp, Same H H' → Q (.bl true) H'
def spSteps : Sp := fun vs H Q _ => ∃ (q1 q2 dL : Addr) (ws1 ws2 : List Addr) (os ns : List Ord) (rs : List (Str × Str)) (what b : Str) (num day : Int) (k : Bool),
  vs = [.ref q1, .ref q2, .str what, .str b, .int num, .ref dL, .int day, .bl k] ∧ VsAt H q1 ws1 os ∧ VsAt H q2 ws2 ns ∧ RolesAt H dL rs ∧ (∀ o ∈ os, OrdOk rs o) ∧ ns.length ≤ 1000 ∧ CallRel what b num day rs os k ns ∧
  ∀ H' : Hp, Same H H' → Q (.bl true) H'
def spCovered : Sp := fun vs H Q _ => ∃ (q dL : Addr) (ws : List Addr) (os : List Ord) (rs : List (Str × Str)), vs = [.ref q, .ref dL] ∧ VsAt H q ws os ∧ RolesAt H dL rs ∧ (∀ o ∈ os, OrdOk rs o) ∧ os.length ≤ 1000 ∧
  ∀ H' : Hp, Same H H' → Q (.bl true) H'
def spLaw (K : PySem.W.Frag) : Sp := fun vs H Q _ => ∃ (a : Addr) (ns : List Int), vs = [.ref a] ∧ SqL K H a (ns.map V.int) ∧ ns.length ≤ 63 ∧ ∀ H', Q (.bl true) H'
end K51
namespace K51
open PySem L2
section
variable {P : Program} {w : World} {K : PySem.W.Frag} {mg : Str → Option Value} {base : Heap} {A : Cl}
theorem scIsAmount : FnScope ["number"] ["number"] (defScope sIsAmount) := ⟨rfl, rfl, rfl, by decide +kernel, rfl, by decide +kernel, by decide +kernel⟩
theorem ok_isAmount {f : Addr} {fd : FuncData} (F : Fun K "is_amount" "is_amount" sIsAmount f fd) (T : Txt K mg A) : FnOk P w K mg base CX0 1 f fd ["number"] spIsAmount := by
  obtain ⟨tl, hl⟩ := T.limit
  refine F.ok scIsAmount (fun vs H Q E h => ?_) (fun cdv AA outer s H vs Q E hr h => ?_)
  · obtain ⟨n, rfl, _⟩ := h
    rfl
  · obtain ⟨n, rfl, h1, h2, k⟩ := h
    refine ⟨_, pss_one (ps_ret (pe_chain op_le op_le pe_int (pv 0) (pe_glob (v := .int 1000000000) rfl hl ⟨_, rfl⟩))), ?_⟩
    refine ⟨_, rfl, _, _, rfl, rfl, _, rfl, ?_⟩
    refine ite2 (fun _ => ?_) (fun z => absurd (decide_eq_true h1) z)
    refine ⟨_, _, rfl, rfl, ?_⟩
    show Q (.bl (decide (n ≤ _))) H
    rw [decide_eq_true h2]
    exact k
theorem scIsDay : FnScope ["number"] ["number"] (defScope sIsDay) := ⟨rfl, rfl, rfl, by decide +kernel, rfl, by decide +kernel, by decide +kernel⟩
theorem ok_isDay {f : Addr} {fd : FuncData} (F : Fun K "is_day" "is_day" sIsDay f fd) (T : Txt K mg A) : FnOk P w K mg base CX0 1 f fd ["number"] spIsDay := by
  obtain ⟨tl, hl⟩ := T.last
  refine F.ok scIsDay (fun vs H Q E h => ?_) (fun cdv AA outer s H vs Q E hr h => ?_)
  · obtain ⟨n, rfl, _⟩ := h
    rfl
  · obtain ⟨n, rfl, h1, h2, k⟩ := h
    refine ⟨_, pss_one (ps_ret (pe_chain op_le op_le pe_int (pv 0) (pe_glob (v := .int 36524) rfl hl ⟨_, rfl⟩))), ?_⟩
    refine ⟨_, rfl, _, _, rfl, rfl, _, rfl, ?_⟩
    refine ite2 (fun _ => ?_) (fun z => absurd (decide_eq_true h1) z)
    refine ⟨_, _, rfl, rfl, ?_⟩
    show Q (.bl (decide (n ≤ _))) H
    rw [decide_eq_true h2]
    exact k
theorem scIsName : FnScope ["text", "sign"] ["text"] (defScope sIsName) := ⟨rfl, rfl, rfl, by decide +kernel, rfl, by decide +kernel, by decide +kernel⟩
theorem ok_isName {f : Addr} {fd : FuncData} (F : Fun K "is_name" "is_name" sIsName f fd) (T : Txt K mg A) : FnOk P w K mg base CX0 1 f fd ["text"] spIsName := by
  obtain ⟨tl, hl⟩ := T.letters
  obtain ⟨td, hd⟩ := T.digits
  refine F.ok scIsName (fun vs H Q E h => ?_) (fun cdv AA outer s H vs Q E hr h => ?_)
  · obtain ⟨n, rfl, _⟩ := h
    rfl
  · obtain ⟨z, rfl, hz, k⟩ := h
    refine ⟨_, pss_cons (ps_if (PW.pt (pw_or (pt_not (pt_chain op_le op_le pe_int (pe_callB call_len_str (by rfl) T.len PySem.boot_len (pa_cons (pv 0) pa_nil)) pe_int))
        (pw_or1 (pt_cmpR op_notIn_sign (pe_ix ix_str (pv 0) pe_int (fun _ _ => rfl)) (pe_glob (v := .str "abcdefghijklmnopqrstuvwxyz") rfl hl ⟨_, rfl⟩) (by rfl))))) (pss_one (ps_ret pe_bl)) pss_nil)
      (pss_one (ps_ret (pe_callB (cr_all rfl) (by rfl) T.all (by decide +kernel) (pa_cons (pe_lc (own := [("sign", 1)]) (g := gName 1) (tt := tYes) rfl scIsName.nd (pi_str (pv 0)) (blkOk_by (N := ["text", "sign"]) (sc := defScope sIsName) (by decide +kernel))
        (fun _ _ _ _ _ => pg_name (i := 1) scIsName.nd rfl (Or.inl rfl)) (fun _ _ _ _ _ => pts_nil)
        (fun _ _ _ _ _ => pe_or (pe_cmpR op_in_sign (pv 1) (pe_glob (v := .str "abcdefghijklmnopqrstuvwxyz") rfl hl ⟨_, rfl⟩) (by rfl)) (pe_one (pe_cmpR op_in_sign (pv 1) (pe_glob (v := .str "0123456789") rfl hd ⟨_, rfl⟩) (by rfl))))) pa_nil)))), ?_⟩
    have hlen : z.length = z.cps.toList.length := Array.length_toList.symm
    have l1 : (1 : Int) ≤ (z.length : Int) := by have := hz.lo; omega
    have l2 : (z.length : Int) ≤ 12 := by have := hz.hi; omega
    have ls : z.length ≤ sizeLine := Nat.le_trans (by have := hz.hi; omega : z.length ≤ 12) (by decide)
    obtain ⟨c, hc⟩ : ∃ c, z.cps.toList[0]? = some c := ⟨z.cps.toList[0]'(by have := hz.lo; omega), List.getElem?_eq_getElem _⟩
    refine ⟨_, rfl, _, rfl, ls, _, _, rfl, rfl, _, rfl, ?_⟩
    refine ite2 (fun _ => ?_) (fun q => absurd (decide_eq_true l1) q)
    refine ⟨_, _, rfl, rfl, _, rfl, ?_⟩
    refine ifF (by show (!decide ((z.length : Int) ≤ 12)) = false; rw [decide_eq_true l2]; rfl) ?_
    refine ⟨_, rfl, z, 0, c, rfl, rfl, ls, atI_nat (j := 0) hc, c, _, rfl, rfl, _, rfl, ?_⟩
    refine ifF (by show (!decide (c ∈ lettersL)) = false; rw [decide_eq_true (hz.first c hc)]; rfl) ?_
    refine ⟨_, rfl, z, rfl, fun D hD => ?_⟩
    refine lc_it (n := z.cps.size) walk_str (fun i H' => Same H H' ∧ H' D = some (.lst ((List.replicate i true).map V.bl)) ∧ i ≤ 12) ⟨same_upd hD, by rw [upd_same]; rfl, Nat.zero_le _⟩ (fun _ _ _ _ => trivial) ?_ ?_
    · rintro i x H1 H2 hi ⟨s1, e1, hi2⟩ ⟨rfl, d, hd, rfl⟩
      have hm : d ∈ z.cps.toList := by
        rw [← Array.getElem?_toList] at hd
        exact List.mem_of_getElem? hd
      have l12 : z.cps.size ≤ 12 := by rw [← Array.length_toList]; exact hz.hi
      have fin : Same H (upd H2 D (.lst ((List.replicate i true).map V.bl ++ [V.bl true]))) ∧ (upd H2 D (.lst ((List.replicate i true).map V.bl ++ [V.bl true]))) D = some (.lst ((List.replicate (i + 1) true).map V.bl)) ∧ i + 1 ≤ 12 := by
        refine ⟨fun b o e => ?_, ?_, by omega⟩
        · rw [upd_ne (ne_of_none e hD)]
          exact s1 b o e
        · rw [upd_same, List.replicate_succ', List.map_append]
          rfl
      have small : ((List.replicate i true).map V.bl).length < sizeLine := by
        rw [List.length_map, List.length_replicate]
        exact Nat.lt_of_le_of_lt hi2 (by decide)
      refine ⟨rfl, ?_⟩
      refine yesT ?_
      refine ⟨_, rfl, d, _, rfl, rfl, _, rfl, ?_⟩
      refine ifB (fun _ => ⟨_, e1, small, fin⟩) (fun q => ?_)
      refine ⟨_, rfl, d, _, rfl, rfl, ?_⟩
      have e : decide (d ∈ digitsL) = true := by
        rcases hz.every d hm with r | r
        · have q : decide (d ∈ lettersL) = false := q
          rw [decide_eq_true r] at q
          cases q
        · exact decide_eq_true r
      show ∃ acc, H2 D = some (.lst acc) ∧ acc.length < sizeLine ∧ (Same H (upd H2 D (.lst (acc ++ [V.bl (decide (d ∈ digitsL))]))) ∧ (upd H2 D (.lst (acc ++ [V.bl (decide (d ∈ digitsL))]))) D = some (.lst ((List.replicate (i + 1) true).map V.bl)) ∧ i + 1 ≤ 12)
      rw [e]
      exact ⟨_, e1, small, fin⟩
    · rintro H1 ⟨s1, e1, _⟩
      refine ⟨D, _, rfl, SqL.of e1, ?_⟩
      have e : (List.replicate z.cps.size true).all id = true := by
        rw [List.all_eq_true]
        intro x hx
        rw [List.eq_of_mem_replicate hx]
        rfl
      show Q (.bl ((List.replicate z.cps.size true).all id)) H1
      rw [e]
      exact k _ s1
theorem scCheckName : FnScope ["text"] ["text"] (defScope sCheckName) := ⟨rfl, rfl, rfl, by decide +kernel, rfl, by decide +kernel, by decide +kernel⟩
theorem ok_checkName {f f1 : Addr} {fd fd1 : FuncData} (F : Fun K "check_name" "check_name" sCheckName f fd) (D1 : Dfn P w K mg base CX0 1 "is_name" ["text"] spIsName f1 fd1) : FnOk P w K mg base CX0 2 f fd ["text"] spCheckName := by
  refine F.ok scCheckName (fun vs H Q E h => ?_) (fun cdv AA outer s H vs Q E hr h => ?_)
  · obtain ⟨n, rfl, _⟩ := h
    rfl
  · obtain ⟨z, rfl, hz, k⟩ := h
    refine ⟨_, pss_one (ps_if (pt_not (pt_val (pe_call D1.ok hr rfl D1.m D1.kp D1.b .nil pass0 (pa_cons (pv 0) pa_nil)))) (pss_one ps_never) pss_nil), ?_⟩
    refine ⟨_, rfl, z, rfl, hz, fun H' s1 => ⟨_, rfl, ifF rfl ?_⟩⟩
    exact k _ s1
theorem scCheckRule : FnScope ["rows", "last", "least", "grants", "role"] ["rows"] (defScope sCheckRule) := ⟨rfl, rfl, rfl, by decide +kernel, rfl, by decide +kernel, by decide +kernel⟩
theorem ok_checkRule {f : Addr} {fd : FuncData} (F : Fun K "check_rule" "check_rule" sCheckRule f fd) (T : Txt K mg A) : FnOk P w K mg base CX0 1 f fd ["rows"] spCheckRule := by
  obtain ⟨tl, hl⟩ := T.limit
  obtain ⟨ra, hra, hrT, _⟩ := T.roles
  refine F.ok scCheckRule (fun vs H Q E h => ?_) (fun cdv AA outer s H vs Q E hr h => ?_)
  · obtain ⟨l, rows, c, rfl, _⟩ := h
    rfl
  · obtain ⟨l, rows, c, rfl, hL, n1, n3, c1, c2, good, k⟩ := h
    refine ⟨_, pss_cons (ps_if (pt_not (pt_chain op_le op_le pe_int (pe_callB call_len_seq (by rfl) T.len PySem.boot_len (pa_cons (pv 0) pa_nil)) pe_int)) (pss_one ps_never) pss_nil)
      (pss_cons (ps_set (i := 1) scCheckRule.nd rfl (Or.inl rfl) (pe_un un_neg pe_int))
      (pss_one (ps_for PassesOwn.never rfl (pi_list (pv 0)) (pg_tup rfl (pgs_cons (pg_name (i := 2) scCheckRule.nd rfl (Or.inl rfl)) (pgs_cons (pg_name (i := 3) scCheckRule.nd rfl (Or.inl rfl)) (pgs_cons (pg_name (i := 4) scCheckRule.nd rfl (Or.inl rfl)) pgs_nil))))
        (pss_cons (ps_if (PW.pt (pw_or (pt_cmpR op_le (pv 2) (pv 1) (nomark _)) (pw_or (pt_cmpR op_gt (pv 2) (pe_glob (v := .int 1000000000) rfl hl ⟨_, rfl⟩) (nomark _))
            (pw_or1 (PW.pt (pw_and (pt_cmpR op_lt (pv 1) pe_int (nomark _)) (pw_and1 (pt_cmpR op_ne (pv 2) pe_int (nomark _))))))))) (pss_one ps_never) pss_nil)
        (pss_cons (ps_if (pt_not (pt_chain op_le op_le pe_int (pv 3) pe_int)) (pss_one ps_never) pss_nil)
        (pss_cons (ps_if (pt_cmpR op_notIn_seq (pv 4) (pe_glob (v := .ref ra) rfl hra rfl) (by rfl)) (pss_one ps_never) pss_nil)
        (pss_one (ps_set (i := 1) scCheckRule.nd rfl (Or.inl rfl) (pv 2))))))))), ?_⟩
    have n1' : (1 : Int) ≤ (rows.length : Int) := by omega
    have n3' : (rows.length : Int) ≤ 6 := by omega
    refine ⟨_, rfl, l, rows, rfl, .inl (SqL.of hL), _, _, rfl, rfl, _, rfl, ?_⟩
    refine ifT (decide_eq_true n1') ⟨_, _, rfl, rfl, _, rfl, ?_⟩
    refine ifF (by show (!decide ((rows.length : Int) ≤ 6)) = false; rw [decide_eq_true n3']; rfl) ?_
    refine ⟨1, rfl, ?_⟩
    refine ⟨_, rfl, l, rfl, ⟨_, SqL.of hL⟩, for_list (K := K) (a := l) (xs := rows) (fun i σ H' => H' = H ∧ ∃ v2 v3 v4 : Option V, σ = [some (.ref l), some (.int (if i = 0 then -1 else ((i : Int) - 1) * c)), v2, v3, v4])
      ⟨rfl, none, none, none, rfl⟩ (fun i σ H' _ ⟨e, _⟩ => by rw [e]; exact SqL.of hL) ?_ ?_⟩
    · rintro i x σ H' hx ⟨rfl, v2, v3, v4, rfl⟩
      obtain ⟨t, gr, role, rfl, ht, g0, g5, ir⟩ := good i x hx
      have hi : i < rows.length := (List.getElem?_eq_some_iff.mp hx).1
      have ic : 0 ≤ (i : Int) * c ∧ (i : Int) * c ≤ 3000 := by
        have a : (i : Int) ≤ 3 := by omega
        have b : (i : Int) * c ≤ 3 * c := Int.mul_le_mul_of_nonneg_right a (by omega)
        have d : 0 ≤ (i : Int) * c := Int.mul_nonneg (by omega) (by omega)
        omega
      refine ⟨t, _, rfl, SqT.of ht, rfl, _, _, rfl, _, _, rfl, _, _, rfl, rfl, ?_⟩
      refine ⟨_, rfl, _, rfl, _, _, rfl, rfl, _, rfl, ?_⟩
      refine ifF (decide_eq_false ?_) ⟨_, rfl, _, _, rfl, rfl, _, rfl, ?_⟩
      · by_cases e : i = 0
        · rw [if_pos e]; subst e; simp
        · rw [if_neg e, Int.sub_mul]; omega
      refine ifF (decide_eq_false (by omega)) ⟨_, rfl, _, _, rfl, rfl, _, rfl, ?_⟩
      refine ifB (fun e => ⟨_, rfl, rfl, _, rfl, ifF ?_ ?_⟩) (fun e => iteF ?_)
      · by_cases e0 : i = 0
        · subst e0
          show (!decide (V.int (((0 : Nat) : Int) * c) = V.int 0)) = false
          rw [decide_eq_true (by simp)]
          rfl
        · exfalso
          have e : decide ((if i = 0 then -1 else ((i : Int) - 1) * c) < 0) = true := e
          rw [if_neg e0] at e
          have := of_decide_eq_true e
          have : 0 ≤ ((i : Int) - 1) * c := Int.mul_nonneg (by omega) (by omega)
          omega
      all_goals
        refine ⟨_, rfl, _, _, rfl, rfl, _, rfl, ?_⟩
        refine ifT (decide_eq_true g0) ⟨_, _, rfl, rfl, _, rfl, ?_⟩
        refine ifF (by show (!decide (gr ≤ 5)) = false; rw [decide_eq_true g5]; rfl) ?_
        refine ⟨_, rfl, ra, _, rfl, .inr (hrT _), rfl, rfl, _, rfl, ?_⟩
        refine ifF (by rcases ir with rfl | rfl | rfl <;> decide +kernel) ?_
        refine ⟨_, rfl, ?_⟩
        refine ⟨rfl, some (.int ((i : Int) * c)), some (.int gr), some (.str role), ?_⟩
        rw [if_neg (by omega : ¬ i + 1 = 0)]
        have e9 : (((i + 1 : Nat) : Int) - 1) * c = (i : Int) * c := by congr 1; omega
        rw [e9]
        rfl
    · rintro σ H' ⟨rfl, v2, v3, v4, rfl⟩
      exact k
end
end K51
namespace K51
open PySem L2
theorem lenP {f : Str} {v : V} {fs : List (Str × V)} {n : Nat} (h : fs.length ≤ n) : (putF f v fs).length ≤ n + 1 := Nat.le_trans (length_putF f v fs) (Nat.succ_le_succ h)
section
variable {P : Program} {w : World} {K : PySem.W.Frag} {mg : Str → Option Value} {base : Heap} {A : Cl}
theorem init_fields (m k key : Str) (a u : Int) (g : Addr) :
    putF "state" (.str "ready") (putF "grants" (.ref g) (putF "role" .non (putF "required" (.int 0) (putF "until" (.int u) (putF "key" (.str key) (putF "amount" (.int a) (putF "kind" (.str k) (putF "maker" (.str m) []))))))))
      = oF (newOrd m k a key u) g := by
  have e0 : putF "maker" (.str m) [] = (["maker"] : List Str).zip [V.str m] := rfl
  rw [e0, putF_zip_new (by decide +kernel) rfl, putF_zip_new (by decide +kernel) rfl, putF_zip_new (by decide +kernel) rfl, putF_zip_new (by decide +kernel) rfl,
    putF_zip_new (by decide +kernel) rfl, putF_zip_new (by decide +kernel) rfl, putF_zip_new (by decide +kernel) rfl, putF_zip_new (by decide +kernel) rfl]
  rfl
theorem scOrdInit : FnScope ["self", "maker", "kind", "amount", "key", "until"] ["self", "maker", "kind", "amount", "key", "until"] (defScope sOrdInit) := ⟨rfl, rfl, rfl, by decide +kernel, rfl, by decide +kernel, by decide +kernel⟩
theorem ok_ordInit {f : Addr} {fd : FuncData} (F : Fun K "__init__" "Order.__init__" sOrdInit f fd) (T : Txt K mg A) : FnOk P w K mg base CX0 1 f fd ["self", "maker", "kind", "amount", "key", "until"] (spOrdInit A) := by
  refine F.ok scOrdInit (fun vs H Q E h => ?_) (fun cdv AA outer s H vs Q E hr h => ?_)
  · obtain ⟨p, dx, m, k, key, a, u, rfl, _⟩ := h
    rfl
  · obtain ⟨p, dx, m, k, key, a, u, rfl, hp, kk⟩ := h
    refine ⟨_, pss_cons (ps_fld (pv 0) (pv 1) rfl) (pss_cons (ps_fld (pv 0) (pv 2) rfl) (pss_cons (ps_fld (pv 0) (pv 3) rfl) (pss_cons (ps_fld (pv 0) (pv 4) rfl) (pss_cons (ps_fld (pv 0) (pv 5) rfl)
      (pss_cons (ps_fld (pv 0) pe_int rfl) (pss_cons (ps_fld (pv 0) pe_non rfl) (pss_cons (ps_fld (pv 0) (pe_lst pa_nil) rfl) (pss_one (ps_fld (pv 0) pe_str rfl))))))))), ?_⟩
    refine ⟨_, rfl, _, rfl, p, A.D, dx, [], rfl, hp, T.clD, T.dMk, (by decide), ?_⟩
    have S0 : ([] : List (Str × V)).length ≤ 0 := Nat.le_refl 0
    refine ⟨_, rfl, _, rfl, p, A.D, dx, _, rfl, upd_same, T.clD, T.dKi, Nat.lt_of_le_of_lt (lenP S0) (by decide), ?_⟩
    refine ⟨_, rfl, _, rfl, p, A.D, dx, _, rfl, upd_same, T.clD, T.dAm, Nat.lt_of_le_of_lt (lenP (lenP S0)) (by decide), ?_⟩
    refine ⟨_, rfl, _, rfl, p, A.D, dx, _, rfl, upd_same, T.clD, T.dKe, Nat.lt_of_le_of_lt (lenP (lenP (lenP S0))) (by decide), ?_⟩
    refine ⟨_, rfl, _, rfl, p, A.D, dx, _, rfl, upd_same, T.clD, T.dUn, Nat.lt_of_le_of_lt (lenP (lenP (lenP (lenP S0)))) (by decide), ?_⟩
    refine ⟨_, rfl, p, A.D, dx, _, rfl, upd_same, T.clD, T.dRq, Nat.lt_of_le_of_lt (lenP (lenP (lenP (lenP (lenP S0))))) (by decide), ?_⟩
    refine ⟨_, rfl, p, A.D, dx, _, rfl, upd_same, T.clD, T.dRo, Nat.lt_of_le_of_lt (lenP (lenP (lenP (lenP (lenP (lenP S0)))))) (by decide), ?_⟩
    refine ⟨Nat.zero_le _, fun g hg => ?_⟩
    have npg : p ≠ g := fun q => by
      rw [← q, upd_same] at hg
      cases hg
    have hg0 : H g = none := by
      rw [upd_ne npg.symm, upd_ne npg.symm, upd_ne npg.symm, upd_ne npg.symm, upd_ne npg.symm, upd_ne npg.symm, upd_ne npg.symm] at hg
      exact hg
    refine ⟨_, rfl, p, A.D, dx, _, rfl, Eq.trans (upd_ne npg) upd_same, T.clD, T.dGr, Nat.lt_of_le_of_lt (lenP (lenP (lenP (lenP (lenP (lenP (lenP S0))))))) (by decide), ?_⟩
    refine ⟨_, rfl, p, A.D, dx, _, rfl, upd_same, T.clD, T.dSt, Nat.lt_of_le_of_lt (lenP (lenP (lenP (lenP (lenP (lenP (lenP (lenP S0)))))))) (by decide), ?_⟩
    refine kk g _ hg0 ⟨⟨dx, Eq.trans upd_same (congrArg (fun q => some (HO.ins A.D dx q)) (init_fields m k key a u g))⟩, ?_⟩ fun b o e hb => ?_
    · rw [upd_ne npg.symm, upd_ne npg.symm, upd_same]
      rfl
    · have hbg : b ≠ g := ne_of_none e hg0
      rw [upd_ne hb, upd_ne hb, upd_ne hbg, upd_ne hb, upd_ne hb, upd_ne hb, upd_ne hb, upd_ne hb, upd_ne hb, upd_ne hb]
      exact e
theorem scRequire : FnScope ["self", "required", "role"] ["self", "required", "role"] (defScope sRequire) := ⟨rfl, rfl, rfl, by decide +kernel, rfl, by decide +kernel, by decide +kernel⟩
theorem ok_require {f : Addr} {fd : FuncData} (F : Fun K "require" "Order.require" sRequire f fd) (T : Txt K mg A) : FnOk P w K mg base CX0 1 f fd ["self", "required", "role"] (spRequire A) := by
  refine F.ok scRequire (fun vs H Q E h => ?_) (fun cdv AA outer s H vs Q E hr h => ?_)
  · obtain ⟨p, g, o, q, r, rfl, _⟩ := h
    rfl
  · obtain ⟨p, g, o, q, r, rfl, ⟨⟨dx, hp⟩, hg⟩, kk⟩ := h
    have npg : p ≠ g := ne_of hp hg (by intro z; cases z)
    refine ⟨_, pss_one (ps_if (pt_cmpR op_gt (pv 1) pe_int (nomark _)) (pss_cons (ps_fld (pv 0) (pv 1) rfl) (pss_cons (ps_fld (pv 0) (pv 2) rfl) (pss_one (ps_fld (pv 0) pe_str rfl)))) pss_nil), ?_⟩
    refine ⟨_, rfl, _, _, rfl, rfl, _, rfl, ifB (fun c => ?_) (fun c => ?_)⟩
    · have c : 0 < q := of_decide_eq_true c
      refine ⟨_, rfl, _, rfl, p, A.D, dx, _, rfl, hp, T.clD, T.dRq, (by rw [oF_len]; decide), ?_⟩
      refine ⟨_, rfl, _, rfl, p, A.D, dx, oF { o with req := q } g, rfl, Eq.trans upd_same (congrArg (fun l => some (HO.ins A.D dx l)) (oF_put_req o g q)), T.clD, T.dRo, (by rw [oF_len]; decide), ?_⟩
      refine ⟨_, rfl, p, A.D, dx, oF { o with req := q, role := r } g, rfl, Eq.trans upd_same (congrArg (fun l => some (HO.ins A.D dx l)) (oF_put_role { o with req := q } g r)), T.clD, T.dSt, (by rw [oF_len]; decide), ?_⟩
      refine kk _ ?_ fun b u e hb => ?_
      · have er : required o q r = { o with req := q, role := r, state := "waiting" } := if_pos c
        rw [er]
        refine ⟨⟨dx, Eq.trans upd_same (congrArg (fun l => some (HO.ins A.D dx l)) (oF_put_state { o with req := q, role := r } g "waiting"))⟩, ?_⟩
        rw [upd_ne npg.symm, upd_ne npg.symm, upd_ne npg.symm]
        exact hg
      · rw [upd_ne hb, upd_ne hb, upd_ne hb]
        exact e
    · have er : required o q r = o := if_neg (of_decide_eq_false c)
      exact kk H (by rw [er]; exact ⟨⟨dx, hp⟩, hg⟩) fun b u e _ => e
theorem scTold : FnScope ["self"] ["self"] (defScope sTold) := ⟨rfl, rfl, rfl, by decide +kernel, rfl, by decide +kernel, by decide +kernel⟩
theorem ok_told {f : Addr} {fd : FuncData} (F : Fun K "told" "Order.told" sTold f fd) (T : Txt K mg A) : FnOk P w K mg base CX0 1 f fd ["self"] (spTold A) := by
  refine F.ok scTold (fun vs H Q E h => ?_) (fun cdv AA outer s H vs Q E hr h => ?_)
  · obtain ⟨p, g, o, rfl, _⟩ := h
    rfl
  · obtain ⟨p, g, o, rfl, ⟨⟨dx, hp⟩, hg⟩, kk⟩ := h
    refine ⟨_, pss_one (ps_ret (pe_tup (pa_cons (pe_fld (pv 0) rfl) (pa_cons (pe_fld (pv 0) rfl) (pa_cons (pe_fld (pv 0) rfl) (pa_cons (pe_fld (pv 0) rfl) (pa_cons (pe_fld (pv 0) rfl) (pa_cons (pe_fld (pv 0) rfl) (pa_cons (pe_fld (pv 0) rfl)
      (pa_cons (pe_callTy call_list_of (by rfl) T.list (by decide +kernel) (pa_cons (pe_fld (pv 0) rfl) pa_nil)) (pa_cons (pe_fld (pv 0) rfl) pa_nil))))))))))), ?_⟩
    refine ⟨_, rfl, p, A.D, dx, _, _, rfl, hp, T.clD, T.dMk, oF_maker _ _, ?_⟩
    refine ⟨_, rfl, p, A.D, dx, _, _, rfl, hp, T.clD, T.dKi, oF_kind _ _, ?_⟩
    refine ⟨_, rfl, p, A.D, dx, _, _, rfl, hp, T.clD, T.dAm, oF_amount _ _, ?_⟩
    refine ⟨_, rfl, p, A.D, dx, _, _, rfl, hp, T.clD, T.dKe, oF_key _ _, ?_⟩
    refine ⟨_, rfl, p, A.D, dx, _, _, rfl, hp, T.clD, T.dUn, oF_til _ _, ?_⟩
    refine ⟨_, rfl, p, A.D, dx, _, _, rfl, hp, T.clD, T.dRq, oF_req _ _, ?_⟩
    refine ⟨_, rfl, p, A.D, dx, _, _, rfl, hp, T.clD, T.dRo, oF_role _ _, ?_⟩
    refine ⟨_, rfl, p, A.D, dx, _, _, rfl, hp, T.clD, T.dGr, oF_grants _ _, g, _, rfl, .inl (SqL.of hg), fun g' hg' => ?_⟩
    have s1 : Same H (upd H g' (.lst (o.grants.map V.str))) := same_upd hg'
    refine ⟨_, rfl, p, A.D, dx, _, _, rfl, s1 _ _ hp, T.clD, T.dSt, oF_state _ _, (by show 9 ≤ sizeLine; decide), fun t ht => ?_⟩
    refine kk t g' _ (s1.trans (same_upd ht)) (by rw [upd_same]; rfl) ?_
    rw [upd_ne (ne_of_none upd_same ht), upd_same]
end
end K51
namespace K51
open PySem L2
section
variable {P : Program} {w : World} {K : PySem.W.Frag} {mg : Str → Option Value} {base : Heap} {A : Cl}
theorem pF_made (a b c d : Addr) : putF "numbers_by_key" (.ref d) (putF "placed" (.ref c) (putF "rules" (.ref b) (putF "roles" (.ref a) []))) = pF a b c d := by
  have e0 : putF "roles" (.ref a) [] = (["roles"] : List Str).zip [V.ref a] := rfl
  rw [e0, putF_zip_new (by decide +kernel) rfl, putF_zip_new (by decide +kernel) rfl, putF_zip_new (by decide +kernel) rfl]
  rfl
theorem scOrsInit : FnScope ["self"] ["self"] (defScope sOrsInit) := ⟨rfl, rfl, rfl, by decide +kernel, rfl, by decide +kernel, by decide +kernel⟩
theorem ok_orsInit {f : Addr} {fd : FuncData} (F : Fun K "__init__" "Orders.__init__" sOrsInit f fd) (T : Txt K mg A) : FnOk P w K mg base CX0 1 f fd ["self"] (spOrsInit A) := by
  refine F.ok scOrsInit (fun vs H Q E h => ?_) (fun cdv AA outer s H vs Q E hr h => ?_)
  · obtain ⟨p, dx, rfl, _⟩ := h
    rfl
  · obtain ⟨p, dx, rfl, hp, kk⟩ := h
    refine ⟨_, pss_cons (ps_fld (pv 0) pe_dnewK rfl) (pss_cons (ps_fld (pv 0) pe_dnewK rfl) (pss_cons (ps_fld (pv 0) (pe_lst pa_nil) rfl) (pss_one (ps_fld (pv 0) pe_dnewK rfl)))), ?_⟩
    have S0 : ([] : List (Str × V)).length ≤ 0 := Nat.le_refl 0
    intro dR nR
    have npR : p ≠ dR := ne_of_none hp nR
    refine ⟨_, rfl, p, A.C, dx, [], rfl, (upd_ne npR).trans hp, T.clC, T.cRo, (by decide), ?_⟩
    intro dU nU
    have npU : p ≠ dU := ne_of_none upd_same nU
    have nRU : dR ≠ dU := ne_of_none ((upd_ne npR.symm).trans upd_same) nU
    refine ⟨_, rfl, p, A.C, dx, _, rfl, (upd_ne npU).trans upd_same, T.clC, T.cRu, Nat.lt_of_le_of_lt (lenP S0) (by decide), ?_⟩
    refine ⟨Nat.zero_le _, fun l nl => ?_⟩
    have npl : p ≠ l := ne_of_none upd_same nl
    have nUl : dU ≠ l := ne_of_none ((upd_ne npU.symm).trans upd_same) nl
    have nRl : dR ≠ l := ne_of_none ((upd_ne npR.symm).trans ((upd_ne nRU).trans ((upd_ne npR.symm).trans upd_same))) nl
    refine ⟨_, rfl, p, A.C, dx, _, rfl, (upd_ne npl).trans upd_same, T.clC, T.cPl, Nat.lt_of_le_of_lt (lenP (lenP S0)) (by decide), ?_⟩
    intro dN nN
    have npN : p ≠ dN := ne_of_none upd_same nN
    have nlN : l ≠ dN := ne_of_none ((upd_ne npl.symm).trans upd_same) nN
    have nUN : dU ≠ dN := ne_of_none ((upd_ne npU.symm).trans ((upd_ne nUl).trans ((upd_ne npU.symm).trans upd_same))) nN
    have nRN : dR ≠ dN := ne_of_none ((upd_ne npR.symm).trans ((upd_ne nRl).trans ((upd_ne npR.symm).trans ((upd_ne nRU).trans ((upd_ne npR.symm).trans upd_same))))) nN
    refine ⟨_, rfl, p, A.C, dx, _, rfl, (upd_ne npN).trans upd_same, T.clC, T.cNk, Nat.lt_of_le_of_lt (lenP (lenP (lenP S0))) (by decide), ?_⟩
    have fU : H dU = none := by rw [upd_ne npU.symm, upd_ne nRU.symm] at nU; exact nU
    have fl : H l = none := by rw [upd_ne npl.symm, upd_ne nUl.symm, upd_ne npl.symm, upd_ne nRl.symm] at nl; exact nl
    have fN : H dN = none := by rw [upd_ne npN.symm, upd_ne nlN.symm, upd_ne npN.symm, upd_ne nUN.symm, upd_ne npN.symm, upd_ne nRN.symm] at nN; exact nN
    refine kk [p, dR, dU, l, dN] _ ⟨dR, dU, l, dN, [], [], ?_⟩ (fun b hb => ?_) fun b o e hb => ?_
    · refine ⟨rfl, ⟨dx, Eq.trans upd_same (congrArg (fun q => some (HO.ins A.C dx q)) (pF_made dR dU l dN))⟩, ?_, ⟨[], ?_, Nat.le_refl _, fun k v e => by cases e⟩, ⟨[], ?_, Nat.le_refl _, fun k v e => by cases e⟩, ?_, rfl, rfl, Nat.le_refl _, fun i o a g e => by simp at e, ?_, fun o e => by simp at e, fun b q e => by simp at e, Nat.zero_le _⟩
      · rw [upd_ne npR.symm, upd_ne nRN, upd_ne npR.symm, upd_ne nRl, upd_ne npR.symm, upd_ne nRU, upd_ne npR.symm, upd_same]
        rfl
      · rw [upd_ne npU.symm, upd_ne nUN, upd_ne npU.symm, upd_ne nUl, upd_ne npU.symm, upd_same]
      · rw [upd_ne npN.symm, upd_same]
      · rw [upd_ne npl.symm, upd_ne nlN, upd_ne npl.symm, upd_same]
        rfl
      · simp [npR, npU, npl, npN, nRU, nRl, nRN, nUl, nUN, nlN]
    · simp only [List.mem_cons, List.not_mem_nil, or_false] at hb
      rcases hb with rfl | rfl | rfl | rfl | rfl
      · exact .inl rfl
      · exact .inr nR
      · exact .inr fU
      · exact .inr fl
      · exact .inr fN
    · rw [upd_ne hb, upd_ne (ne_of_none e fN), upd_ne hb, upd_ne (ne_of_none e fl), upd_ne hb, upd_ne (ne_of_none e fU), upd_ne hb, upd_ne (ne_of_none e nR)]
      exact e
theorem scAddUser : FnScope ["self", "name", "role"] ["self", "name", "role"] (defScope sAddUser) := ⟨rfl, rfl, rfl, by decide +kernel, rfl, by decide +kernel, by decide +kernel⟩
theorem role_in {r : Str} (ir : IsRole r) : inV (V.str r) (roleList.map V.str) = true := by rcases ir with rfl | rfl | rfl <;> decide +kernel
theorem ok_addUser {f f1 : Addr} {fd fd1 : FuncData} (F : Fun K "add_user" "Orders.add_user" sAddUser f fd) (T : Txt K mg A) (D1 : Dfn P w K mg base CX0 2 "check_name" ["text"] spCheckName f1 fd1) : FnOk P w K mg base CX0 3 f fd ["self", "name", "role"] (spAddUser A) := by
  obtain ⟨ra, hra, hrT, _⟩ := T.roles
  refine F.ok scAddUser (fun vs H Q E h => ?_) (fun cdv AA outer s H vs Q E hr h => ?_)
  · obtain ⟨p, own, n, rs, z, r, rfl, _⟩ := h
    rfl
  · obtain ⟨p, own, n, rs, z, r, rfl, O, hz, ir, hno, hl, kk⟩ := h
    have hu := hu_of hr
    refine ⟨_, pss_cons (ps_expr (pe_call D1.ok hr rfl D1.m D1.kp D1.b .nil pass0 (pa_cons (pv 1) pa_nil)))
      (pss_cons (ps_if (pt_cmpR op_notIn_seq (pv 2) (pe_glob (v := .ref ra) rfl hra rfl) (by rfl)) (pss_one ps_never) pss_nil)
      (pss_cons (ps_if (pt_cmp (pc_din hu (pv 1) (pe_fld (pv 0) rfl))) (pss_one ps_never) pss_nil)
      (pss_one (ps_dput hu (pe_fld (pv 0) rfl) (pv 1) (pv 2) rfl)))), ?_⟩
    refine ⟨_, rfl, z, rfl, hz, fun H1 s1 => ?_⟩
    obtain ⟨dR, dU, l, dN, as, gs, O⟩ := O.same s1
    obtain ⟨dx, hp⟩ := O.ob
    refine ⟨_, rfl, ra, _, rfl, .inr (hrT _), rfl, rfl, _, rfl, ?_⟩
    refine ifF (by show (!inV (V.str r) (roleList.map V.str)) = false; rw [role_in ir]; rfl) ?_
    have hnoV : valV (rolesKV rs) (Sum.inr z : Key) = none := by rw [valV_roles, hno]; rfl
    refine ⟨_, rfl, _, rfl, p, A.C, dx, _, _, rfl, hp, T.clC, T.cRo, pF_roles _ _ _ _, dR, _, rfl, DGet.k (k := Sum.inr z) O.dr, _, rfl, ?_⟩
    refine ifF (by rw [hnoV]; rfl) ?_
    have hlen : (rolesKV rs).length < sizeLine := by
      unfold rolesKV
      rw [List.length_map]
      exact small1000 (by omega)
    refine ⟨_, rfl, _, rfl, p, A.C, dx, _, _, rfl, hp, T.clC, T.cRo, pF_roles _ _ _ _, _, rfl, dR, _, rfl, DPut.k (k := Sum.inr z) O.dr hlen, ?_⟩
    have ek : putK (rolesKV rs) (Sum.inr z : Key) (V.str r) = rolesKV (rs ++ [(z, r)]) := by
      rw [putK_new _ hnoV]
      unfold rolesKV
      rw [List.map_append]
      rfl
    show Q .non (upd H1 dR (.dK (putK (rolesKV rs) (Sum.inr z : Key) (V.str r))))
    rw [ek]
    have hR : dR ∈ own := by rw [O.own_]; simp
    have nd := O.nd
    rw [O.own_] at nd
    obtain ⟨⟨n1, n2, n3, n4⟩, ⟨n5, n6, n7⟩, _⟩ := nd5 nd
    obtain ⟨rk, e3, e3l, e3r⟩ := O.du
    obtain ⟨nk, e5, e5l, e5r⟩ := O.dn
    have so : Same (off own H1) (off own (upd H1 dR (.dK (rolesKV (rs ++ [(z, r)]))))) := off_upd hR
    refine kk _ ⟨dR, dU, l, dN, as, gs, ⟨O.own_, ⟨dx, by rw [upd_ne n1]; exact hp⟩, upd_same, ⟨rk, by rw [upd_ne n5.symm]; exact e3, e3l, fun k v e => (e3r k v e).same so⟩,
      ⟨nk, by rw [upd_ne n7.symm]; exact e5, e5l, e5r⟩, by rw [upd_ne n6.symm]; exact O.pl, O.al, O.gll, O.osn, fun i o a g e => by simp at e, O.nd, fun o e => by simp at e, fun b q e => ?_, ?_⟩⟩ ((off_same s1).trans so)
    · rw [List.lookup_append] at e
      cases q2 : rs.lookup b with
      | some y =>
        rw [q2] at e
        have : y = q := by simpa using e
        exact this ▸ O.rol b y q2
      | none =>
        rw [q2] at e
        have e : List.lookup b [(z, r)] = some q := by simpa using e
        rw [List.lookup_cons] at e
        split at e
        · rename_i q3
          cases e
          have q4 : b = z := by simpa using q3
          exact ⟨ir, by rw [q4]; exact hz.sok⟩
        · simp at e
    · rw [List.length_append]
      show rs.length + 1 ≤ 100
      omega
end
end K51
namespace K51
open PySem L2
section
variable {P : Program} {w : World} {K : PySem.W.Frag} {mg : Str → Option Value} {base : Heap} {A : Cl}
theorem scMay : FnScope ["self", "name", "role"] ["self", "name", "role"] (defScope sMay) := ⟨rfl, rfl, rfl, by decide +kernel, rfl, by decide +kernel, by decide +kernel⟩
theorem ok_may {f : Addr} {fd : FuncData} (F : Fun K "may" "Orders.may" sMay f fd) (T : Txt K mg A) : FnOk P w K mg base CX0 1 f fd ["self", "name", "role"] (spMay A) := by
  obtain ⟨ra, hra, hrT, ro, hro, hrc, hrd⟩ := T.roles
  refine F.ok scMay (fun vs H Q E h => ?_) (fun cdv AA outer s H vs Q E hr h => ?_)
  · obtain ⟨p, own, n, rs, os, b, r, rfl, _⟩ := h
    rfl
  · obtain ⟨p, own, n, rs, os, b, r, rfl, ⟨dR, dU, l, dN, as, gs, O⟩, ir, kk⟩ := h
    have hu := hu_of hr
    obtain ⟨dx, hp⟩ := O.ob
    refine ⟨_, pss_cons (ps_if (pt_cmpR op_notIn_seq (pv 2) (pe_glob (v := .ref ra) rfl hra rfl) (by rfl)) (pss_one ps_never) pss_nil)
      (pss_cons (ps_if (pt_cmp (pc_dnotin hu (pv 1) (pe_fld (pv 0) rfl))) (pss_one (ps_ret pe_bl)) pss_nil)
      (pss_one (ps_ret (pe_cmpR op_ge (pe_bm PySem.F.plainAttrs_tuple PySem.F.slot_tuple_index PySem.F.type_tuple_index mt_tup_index (pe_glob (v := .ref ra) rfl hra rfl) (pa_cons (pe_dget hu (pe_fld (pv 0) rfl) (pv 1) (fun _ _ => rfl)) pa_nil))
        (pe_bm PySem.F.plainAttrs_tuple PySem.F.slot_tuple_index PySem.F.type_tuple_index mt_tup_index (pe_glob (v := .ref ra) rfl hra rfl) (pa_cons (pv 2) pa_nil)) (nomark _))))), ?_⟩
    refine ⟨_, rfl, ra, _, rfl, .inr (hrT _), rfl, rfl, _, rfl, ?_⟩
    refine ifF (by show (!inV (V.str r) (roleList.map V.str)) = false; rw [role_in ir]; rfl) ?_
    refine ⟨_, rfl, _, rfl, p, A.C, dx, _, _, rfl, hp, T.clC, T.cRo, pF_roles _ _ _ _, dR, _, rfl, DGet.k (k := Sum.inr b) O.dr, _, rfl, ?_⟩
    have ev := valV_roles rs b
    cases q : rs.lookup b with
    | none =>
      rw [q] at ev
      refine ifT (by rw [ev]; rfl) ?_
      exact kk false fun z => by cases z
    | some y =>
      rw [q] at ev
      refine ifF (by rw [ev]; rfl) ?_
      have iy := (O.rol b y q).1
      have dg : DGet H dR (V.str b) (some (V.str y)) := by
        have z := DGet.k (k := Sum.inr b) O.dr
        rw [ev] at z
        exact z
      refine ⟨.inr (.inl ⟨rfl, ro, hro, hrc, hrd⟩), _, rfl, p, A.C, dx, _, _, rfl, hp, T.clC, T.cRo, pF_roles _ _ _ _, _, rfl, dR, V.str y, rfl, dg, ?_⟩
      refine ⟨ra, roleList, y, rank y, rfl, rfl, hrT _, iy.at_.1, iy.at_.2, ?_⟩
      refine ⟨.inr (.inl ⟨rfl, ro, hro, hrc, hrd⟩), _, rfl, ra, roleList, r, rank r, rfl, rfl, hrT _, ir.at_.1, ir.at_.2, _, _, rfl, rfl, ?_⟩
      refine kk _ fun z => ⟨y, q, ?_⟩
      have z2 := of_decide_eq_true z
      omega
theorem scSetRule : FnScope ["self", "kind", "rows"] ["self", "kind", "rows"] (defScope sSetRule) := ⟨rfl, rfl, rfl, by decide +kernel, rfl, by decide +kernel, by decide +kernel⟩
theorem ok_setRule {f f1 f2 : Addr} {fd fd1 fd2 : FuncData} (F : Fun K "set_rule" "Orders.set_rule" sSetRule f fd) (T : Txt K mg A) (D1 : Dfn P w K mg base CX0 2 "check_name" ["text"] spCheckName f1 fd1)
    (D2 : Dfn P w K mg base CX0 1 "check_rule" ["rows"] spCheckRule f2 fd2) : FnOk P w K mg base CX0 3 f fd ["self", "kind", "rows"] (spSetRule A) := by
  refine F.ok scSetRule (fun vs H Q E h => ?_) (fun cdv AA outer s H vs Q E hr h => ?_)
  · obtain ⟨p, own, n, rs, os, z, l, rows, c, rfl, _⟩ := h
    rfl
  · obtain ⟨p, own, n, rs, os, z, li, rows, c, rfl, O, hz, hn, hL, n1, n3, c1, c2, good, kk⟩ := h
    have hu := hu_of hr
    refine ⟨_, pss_cons (ps_expr (pe_call D1.ok hr rfl D1.m D1.kp D1.b .nil pass0 (pa_cons (pv 1) pa_nil)))
      (pss_cons (ps_expr (pe_call D2.ok (hr.mono (by decide)) rfl D2.m D2.kp D2.b .nil pass0 (pa_cons (pv 2) pa_nil)))
      (pss_one (ps_dput hu (pe_fld (pv 0) rfl) (pv 1) (pe_callTy call_tuple_of (by rfl) T.tuple (by decide +kernel) (pa_cons (pv 2) pa_nil)) rfl))), ?_⟩
    refine ⟨_, rfl, z, rfl, hz, fun H1 s1 => ?_⟩
    have hL1 := off_same s1 _ _ hL
    have good1 := good.same (off_same s1)
    refine ⟨_, rfl, li, rows, c, rfl, off_le _ _ hL1, n1, n3, c1, c2, good1.same off_le, ?_⟩
    obtain ⟨dR, dU, l, dN, as, gs, O⟩ := O.same s1
    obtain ⟨dx, hp⟩ := O.ob
    obtain ⟨rk, e3, e3l, e3r⟩ := O.du
    obtain ⟨nk, e5, e5l, e5r⟩ := O.dn
    have nd := O.nd
    rw [O.own_] at nd
    obtain ⟨⟨m1, m2, m3, m4⟩, ⟨m5, m6, m7⟩, ⟨m8, m9⟩, m10, m11, m12⟩ := nd5 nd
    refine ⟨_, rfl, li, rows, rfl, .inl ⟨SqL.of (off_le _ _ hL1), fun t nt => ?_⟩⟩
    have s2 : Same H1 (upd H1 t (.tup rows)) := same_upd nt
    have hp2 := s2 _ _ hp
    refine ⟨_, rfl, p, A.C, dx, _, _, rfl, hp2, T.clC, T.cRu, pF_rules _ _ _ _, _, rfl, dU, _, rfl, DPut.k (k := Sum.inr z) (s2 _ _ e3) (small1000 (by omega)), ?_⟩
    have hU : dU ∈ own := by rw [O.own_]; simp
    have tno : ¬ t ∈ own := fun h => O.tracked t h nt
    have O2 := O.same s2
    have so : Same (off own (upd H1 t (.tup rows))) (off own (upd (upd H1 t (.tup rows)) dU (.dK (putK rk (Sum.inr z : Key) (.ref t))))) := off_upd hU
    refine kk _ ⟨dR, dU, l, dN, as, gs, ⟨O.own_, ⟨dx, (upd_ne m2).trans hp2⟩, (upd_ne m5).trans O2.dr, ⟨_, upd_same, Nat.le_trans (length_putK _ _ _) (Nat.succ_le_succ e3l), fun k v e => ?_⟩,
      ⟨nk, (upd_ne m9.symm).trans (s2 _ _ e5), Nat.le_trans e5l (Nat.le_succ _), e5r⟩, (upd_ne m8.symm).trans O2.pl, O.al, O.gll, Nat.le_trans O.osn (Nat.le_succ _), fun i o a g q1 q2 q3 => ?_, O.nd, O.ok, O.rol, O.rsn⟩⟩
      ((off_same (s1.trans s2)).trans so)
    · rw [valV_put] at e
      by_cases q : k = Sum.inr z
      · rw [if_pos q] at e
        cases e
        refine RuleOk.same so ⟨t, rows, rfl, by rw [off_out tno, upd_same], fun r hr => ?_⟩
        obtain ⟨i, hi⟩ := List.mem_iff_getElem?.mp hr
        obtain ⟨t2, gr, role, e1, e2, g0, g5, ir⟩ := (good1.same (off_same s2)) i r hi
        exact ⟨t2, _, gr, role, e1, e2, g0, g5, ir⟩
      · rw [if_neg q] at e
        exact (e3r k v e).same ((off_same s2).trans so)
    · have oa := O2.at_ i o a g q1 q2 q3
      obtain ⟨dy, ha⟩ := oa.ins
      have na := (m11 a (List.mem_append_left _ (List.mem_of_getElem? q2))).2.2.1
      have ng := (m11 g (List.mem_append_right _ (List.mem_of_getElem? q3))).2.2.1
      exact ⟨⟨dy, (upd_ne na).trans ha⟩, (upd_ne ng).trans oa.gl⟩
theorem scRowFor : FnScope ["self", "kind", "amount", "found", "least", "grants", "role"] ["self", "kind", "amount"] (defScope sRowFor) := ⟨rfl, rfl, rfl, by decide +kernel, rfl, by decide +kernel, by decide +kernel⟩
theorem ok_rowFor {f : Addr} {fd : FuncData} (F : Fun K "row_for" "Orders.row_for" sRowFor f fd) (T : Txt K mg A) : FnOk P w K mg base CX0 1 f fd ["self", "kind", "amount"] (spRowFor A) := by
  refine F.ok scRowFor (fun vs H Q E h => ?_) (fun cdv AA outer s H vs Q E hr h => ?_)
  · obtain ⟨p, own, n, rs, os, z, a, rfl, _⟩ := h
    rfl
  · obtain ⟨p, own, n, rs, os, z, a, rfl, ⟨dR, dU, l, dN, as, gs, O⟩, kk⟩ := h
    have hu := hu_of hr
    obtain ⟨dx, hp⟩ := O.ob
    obtain ⟨rk, e3, e3l, e3r⟩ := O.du
    refine ⟨_, pss_cons (ps_set (i := 3) scRowFor.nd rfl (Or.inl rfl) (pe_tup (pa_cons pe_int (pa_cons pe_non pa_nil))))
      (pss_cons (ps_for PassesOwn.never rfl (pi_tup (pe_dget2 hu (pe_fld (pv 0) rfl) (pv 1) (pe_tup pa_nil) ⟨rfl, rfl, rfl, rfl⟩)) (pg_tup rfl (pgs_cons (pg_name (i := 4) scRowFor.nd rfl (Or.inl rfl)) (pgs_cons (pg_name (i := 5) scRowFor.nd rfl (Or.inl rfl)) (pgs_cons (pg_name (i := 6) scRowFor.nd rfl (Or.inl rfl)) pgs_nil))))
        (pss_one (ps_if (pt_cmpR op_le (pv 4) (pv 2) (nomark _)) (pss_one (ps_set (i := 3) scRowFor.nd rfl (Or.inl rfl) (pe_tup (pa_cons (pv 5) (pa_cons (pv 6) pa_nil))))) pss_nil)))
      (pss_one (ps_ret (pv 3)))), ?_⟩
    refine ⟨(by show 2 ≤ sizeLine; decide), fun t0 nt0 => ?_⟩
    have s0 : Same H (upd H t0 (.tup [.int 0, .non])) := same_upd nt0
    refine ⟨_, rfl, p, A.C, dx, _, _, rfl, s0 _ _ hp, T.clC, T.cRu, pF_rules _ _ _ _, dU, rfl, .inl ⟨_, .inl (s0 _ _ e3)⟩, _, rfl, Nat.zero_le _, fun te nte => ?_⟩
    have s1 : Same H (upd (upd H t0 (.tup [.int 0, .non])) te (.tup [])) := s0.trans (same_upd nte)
    refine ⟨_, DGet.k (k := Sum.inr z) (s1 _ _ e3), ?_⟩
    have src : ∃ (t : Addr) (rows : List V), (valV rk (Sum.inr z : Key)).getD (.ref te) = .ref t ∧ (upd (upd H t0 (.tup [.int 0, .non])) te (.tup [])) t = some (.tup rows) ∧ ∀ r ∈ rows, RowOk (upd (upd H t0 (.tup [.int 0, .non])) te (.tup [])) r := by
      cases q : valV rk (Sum.inr z : Key) with
      | none => exact ⟨te, [], rfl, upd_same, fun r hr => by simp at hr⟩
      | some v =>
        obtain ⟨t, rows, rfl, ht, hr⟩ := (e3r _ _ q).same (off_le.trans s1)
        exact ⟨t, rows, rfl, ht, hr⟩
    obtain ⟨t, rows, ev, ht, hrows⟩ := src
    refine ⟨t, ev, ⟨_, SqT.of ht⟩, for_tup (K := K) (a := t) (xs := rows) (fun i σ H' => Same (upd (upd H t0 (.tup [.int 0, .non])) te (.tup [])) H' ∧
        ∃ (fo : Addr) (q : Int) (r : Option Str) (v4 v5 v6 : Option V), σ = [some (.ref p), some (.str z), some (.int a), some (.ref fo), v4, v5, v6] ∧ H' fo = some (.tup [.int q, roleV r]) ∧ Asked q r)
      ⟨Same.refl _, t0, 0, none, none, none, none, rfl, (upd_ne (ne_of_none upd_same nte)).trans upd_same, .inl ⟨rfl, rfl⟩⟩ (fun i σ H' _ ⟨sh, _⟩ => SqT.of (sh _ _ ht)) ?_ ?_⟩
    · rintro i x σ H' hx ⟨sh, fo, q, r, v4, v5, v6, rfl, hf, ask⟩
      obtain ⟨tt, least, gr, role, rfl, htt, g0, g5, ir⟩ := hrows x (List.mem_of_getElem? hx)
      refine ⟨tt, _, rfl, SqT.of (sh _ _ htt), rfl, _, _, rfl, _, _, rfl, _, _, rfl, rfl, ?_⟩
      refine ⟨_, rfl, _, rfl, _, _, rfl, rfl, _, rfl, ifB (fun _ => ?_) (fun _ => ?_)⟩
      · refine ⟨_, rfl, _, rfl, (by show 2 ≤ sizeLine; decide), fun fn nfn => ?_⟩
        exact ⟨sh.trans (same_upd nfn), fn, gr, some role, _, _, _, rfl, upd_same, .inr ⟨g0, g5, role, rfl, ir⟩⟩
      · exact ⟨sh, fo, q, r, _, _, _, rfl, hf, ask⟩
    · rintro σ H' ⟨sh, fo, q, r, v4, v5, v6, rfl, hf, ask⟩
      refine ⟨_, rfl, ?_⟩
      exact kk fo q r H' (s1.trans sh) hf ask
theorem scCheckPlace : FnScope ["self", "by", "kind", "amount", "key", "until"] ["self", "by", "kind", "amount", "key", "until"] (defScope sCheckPlace) := ⟨rfl, rfl, rfl, by decide +kernel, rfl, by decide +kernel, by decide +kernel⟩
theorem ok_checkPlace {f f1 f2 f3 eN : Addr} {fd fd1 fd2 fd3 : FuncData} (F : Fun K "check_place" "Orders.check_place" sCheckPlace f fd) (T : Txt K mg A) (D1 : Dfn P w K mg base CX0 2 "check_name" ["text"] spCheckName f1 fd1)
    (D2 : Dfn P w K mg base CX0 1 "is_amount" ["number"] spIsAmount f2 fd2) (D3 : Dfn P w K mg base CX0 1 "is_day" ["number"] spIsDay f3 fd3) (EN : Er K mg A.BE "NotAllowed" eN) :
    FnOk P w K mg base (L2.CX P w) 3 f fd ["self", "by", "kind", "amount", "key", "until"] (spCheckPlace K A) := by
  refine F.okX scCheckPlace (fun vs H Q E h => ?_) (fun cdv AA outer s H vs Q E hr h => ?_)
  · obtain ⟨p, own, n, rs, os, b, z, key, a, u, rfl, _⟩ := h
    rfl
  · obtain ⟨p, own, n, rs, os, b, z, key, a, u, rfl, ⟨dR, dU, l, dN, as, gs, O⟩, pa, rz, kk⟩ := h
    have hu := hu_of hr
    obtain ⟨dx, hp⟩ := O.ob
    refine ⟨_, pss_cons (ps_if (pt_cmp (pc_dnotin hu (pv 1) (pe_fld (pv 0) rfl))) (pss_one (ps_raise rfl (takes_of rfl rfl rfl rfl) (pmk_own PySem.F.excBase_ValueError EN.x EN.g EN.k (raises_own EN.b EN.t) rfl))) pss_nil)
      (pss_cons (ps_expr (pe_call D1.ok hr rfl D1.m D1.kp D1.b .nil pass0 (pa_cons (pv 2) pa_nil)))
      (pss_cons (ps_if (pt_not (pt_val (pe_call D2.ok (hr.mono (by decide)) rfl D2.m D2.kp D2.b .nil pass0 (pa_cons (pv 3) pa_nil)))) (pss_one ps_never) pss_nil)
      (pss_cons (ps_if (pt_not (pt_chain op_le op_le pe_int (pe_callB call_len_str (by rfl) T.len PySem.boot_len (pa_cons (pv 4) pa_nil)) pe_int)) (pss_one ps_never) pss_nil)
      (pss_one (ps_if (pt_not (pt_val (pe_call D3.ok (hr.mono (by decide)) rfl D3.m D3.kp D3.b .nil pass0 (pa_cons (pv 5) pa_nil)))) (pss_one ps_never) pss_nil))))), ?_⟩
    have ev := valV_roles rs b
    refine ⟨_, rfl, _, rfl, p, A.C, dx, _, _, rfl, hp, T.clC, T.cRo, pF_roles _ _ _ _, dR, _, rfl, DGet.k (k := Sum.inr b) O.dr, _, rfl, ?_⟩
    cases q : rs.lookup b with
    | none =>
      rw [q] at ev
      refine ifT (by rw [ev]; rfl) ?_
      exact rz eN H EN.e (Same.refl H)
    | some y =>
      rw [q] at ev
      refine ifF (by rw [ev]; rfl) ?_
      refine ⟨_, rfl, z, rfl, pa.z, fun H1 s1 => ?_⟩
      refine ⟨_, rfl, a, rfl, pa.a1, pa.a2, _, rfl, ifF rfl ?_⟩
      have k1 : (1 : Int) ≤ (key.length : Int) := by have := pa.k1; omega
      have k2 : (key.length : Int) ≤ 20 := by have := pa.k2; omega
      have ks : key.length ≤ sizeLine := Nat.le_trans pa.k2 (by decide)
      refine ⟨_, rfl, key, rfl, ks, _, _, rfl, rfl, _, rfl, ifT (decide_eq_true k1) ⟨_, _, rfl, rfl, _, rfl, ?_⟩⟩
      refine ifF (by show (!decide ((key.length : Int) ≤ 20)) = false; rw [decide_eq_true k2]; rfl) ?_
      refine ⟨_, rfl, u, rfl, pa.u1, pa.u2, _, rfl, ifF rfl ?_⟩
      exact kk y H1 s1 q
theorem scByKey : FnScope ["self", "key"] ["self", "key"] (defScope sByKey) := ⟨rfl, rfl, rfl, by decide +kernel, rfl, by decide +kernel, by decide +kernel⟩
theorem ok_byKey {f : Addr} {fd : FuncData} (F : Fun K "by_key" "Orders.by_key" sByKey f fd) (T : Txt K mg A) : FnOk P w K mg base CX0 1 f fd ["self", "key"] (spByKey A) := by
  refine F.ok scByKey (fun vs H Q E h => ?_) (fun cdv AA outer s H vs Q E hr h => ?_)
  · obtain ⟨p, own, n, rs, os, key, rfl, _⟩ := h
    rfl
  · obtain ⟨p, own, n, rs, os, key, rfl, ⟨dR, dU, l, dN, as, gs, O⟩, kk⟩ := h
    have hu := hu_of hr
    obtain ⟨dx, hp⟩ := O.ob
    obtain ⟨nk, e5, e5l, e5r⟩ := O.dn
    refine ⟨_, pss_one (ps_ret (pe_dget1 hu (pe_fld (pv 0) rfl) (pv 1) ⟨rfl, rfl, rfl, rfl⟩)), ?_⟩
    refine ⟨_, rfl, p, A.C, dx, _, _, rfl, hp, T.clC, T.cNk, pF_keys _ _ _ _, dN, rfl, .inl ⟨_, .inl e5⟩, _, rfl, _, DGet.k (k := Sum.inr key) e5, ?_⟩
    refine kk _ ?_
    cases q : valV nk (Sum.inr key : Key) with
    | none => exact .inl rfl
    | some v => exact .inr (e5r _ _ q)
end
end K51
namespace K51
open PySem L2
theorem inV_str (b : Str) : ∀ l : List Str, inV (V.str b) (l.map V.str) = decide (b ∈ l)
  | [] => rfl
  | a :: l => by
    have ih := inV_str b l
    show (eqV (V.str a) (V.str b) || inV (V.str b) (l.map V.str)) = _
    rw [ih]
    show ((a == b) || decide (b ∈ l)) = decide (b ∈ a :: l)
    by_cases e : a = b
    · subst e; simp
    · have : (a == b) = false := by simpa using e
      rw [this]
      have h2 : ¬ b = a := fun z => e z.symm
      simp [h2]
theorem flat_str : ∀ l : List Str, (l.map V.str).all flatV = true
  | [] => rfl
  | _ :: l => by
    rw [List.map_cons, List.all_cons, flat_str l]
    rfl
theorem open_in (o : Ord) : inV (V.str o.state) [V.str "waiting", V.str "ready"] = decide (Open o) := by
  refine Eq.trans (inV_str o.state ["waiting", "ready"]) (decide_eq_decide.mpr ?_)
  unfold Open
  simp
/-- an order is changed in place -/
theorem OrsAt.set {A : Cl} {n : Nat} {own : List Addr} {H H' : Hp} {p dR dU l dN : Addr} {as gs : List Addr} {rs : List (Str × Str)} {os : List Ord} (O : OrsAt A n own H p dR dU l dN as gs rs os)
    {i : Nat} {o o' : Ord} {a g : Addr} (ho : os[i]? = some o) (ha : as[i]? = some a) (hg : gs[i]? = some g) (new : OrdAt A.D H' a g o') (ok : OrdOk rs o')
    (k : ∀ b u, H b = some u → b ≠ a → b ≠ g → H' b = some u) : OrsAt A n own H' p dR dU l dN as gs rs (os.set i o') ∧ Same (off own H) (off own H') := by
  have nd := O.nd
  rw [O.own_] at nd
  obtain ⟨_, _, _, _, m11, m12⟩ := nd5 nd
  have ma := List.mem_append_left gs (List.mem_of_getElem? ha)
  have mg := List.mem_append_right as (List.mem_of_getElem? hg)
  obtain ⟨a1, a2, a3, a4, a5⟩ := m11 a ma
  obtain ⟨g1, g2, g3, g4, g5⟩ := m11 g mg
  obtain ⟨ndA, ndG, dis⟩ := List.nodup_append.mp m12
  have so : Same (off own H) (off own H') := fun b u e => by
    obtain ⟨nb, hb⟩ := off_some e
    rw [off_out nb]
    rw [O.own_] at nb
    refine k b u hb (fun z => nb ?_) (fun z => nb ?_)
    · rw [z]; simp [List.mem_of_getElem? ha]
    · rw [z]; simp [List.mem_of_getElem? hg]
  obtain ⟨dx, e1⟩ := O.ob
  obtain ⟨rk, e3, e3l, e3r⟩ := O.du
  obtain ⟨nk, e5, e5l, e5r⟩ := O.dn
  refine ⟨⟨O.own_, ⟨dx, k _ _ e1 a1.symm g1.symm⟩, k _ _ O.dr a2.symm g2.symm, ⟨rk, k _ _ e3 a3.symm g3.symm, e3l, fun x v e => (e3r x v e).same so⟩, ⟨nk, k _ _ e5 a5.symm g5.symm, e5l, fun x v e => ?_⟩, k _ _ O.pl a4.symm g4.symm,
    by rw [List.length_set]; exact O.al, by rw [List.length_set]; exact O.gll, by rw [List.length_set]; exact O.osn, fun j q b c h1 h2 h3 => ?_, O.nd, fun q hq => ?_, O.rol, O.rsn⟩, so⟩
  · rw [List.length_set]; exact e5r x v e
  · by_cases e : j = i
    · subst e
      rw [List.getElem?_set_self (List.getElem?_eq_some_iff.mp ho).1] at h1
      cases h1
      rw [ha] at h2; cases h2
      rw [hg] at h3; cases h3
      exact new
    · rw [List.getElem?_set_ne (Ne.symm e)] at h1
      have oa := O.at_ j q b c h1 h2 h3
      obtain ⟨dy, hb⟩ := oa.ins
      have mb := List.mem_of_getElem? h2
      have mc := List.mem_of_getElem? h3
      exact ⟨⟨dy, k _ _ hb (fun z => e (nd_ix ndA h2 (z ▸ ha))) (fun z => dis _ mb _ (List.mem_of_getElem? hg) z)⟩,
        k _ _ oa.gl (fun z => dis _ (List.mem_of_getElem? ha) _ mc z.symm) (fun z => e (nd_ix ndG h3 (z ▸ hg)))⟩
  · rcases List.mem_or_eq_of_mem_set hq with q2 | q2
    · exact O.ok q q2
    · rw [q2]; exact ok
/-- all of an order by its place -/
theorem OrsAt.get {A : Cl} {n : Nat} {own : List Addr} {H : Hp} {p dR dU l dN : Addr} {as gs : List Addr} {rs : List (Str × Str)} {os : List Ord} (O : OrsAt A n own H p dR dU l dN as gs rs os) {i : Nat} {a : Addr} (ha : as[i]? = some a) :
    ∃ (o : Ord) (g : Addr), os[i]? = some o ∧ gs[i]? = some g ∧ OrdAt A.D H a g o ∧ OrdOk rs o ∧ i < os.length := by
  have h1 := (List.getElem?_eq_some_iff.mp ha).1
  rw [O.al] at h1
  have ho : os[i]? = some os[i] := List.getElem?_eq_getElem h1
  have hg : gs[i]? = some (gs[i]'(by rw [O.gll]; exact h1)) := List.getElem?_eq_getElem _
  exact ⟨_, _, ho, hg, O.at_ _ _ _ _ ho ha hg, O.ok _ (List.mem_of_getElem? ho), h1⟩
/-- a step keeps what is asked of an order -/
theorem OrdOk.chg {rs : List (Str × Str)} {what b : Str} {day : Int} {o n : Ord} (h : OrdOk rs o) (c : Chg what b rs day o n) (sb : ∀ q, rs.lookup b = some q → SOk b) : OrdOk rs n := by
  have other : ∀ z : Str, SOk z → z ≠ "waiting" → (z = "ready" ∨ z = "done" ∨ z = "failed" → (o.grants.length : Int) = o.req) → OrdOk rs { o with state := z } := fun z sz hz hf => by
    refine ⟨?_, h.len, fun e => absurd e hz, hf, h.nomk, h.nd, h.sok.1, h.sok.2.1, h.sok.2.2.1, sz, h.sok.2.2.2.2⟩
    rcases h.shape with ⟨a, b, c, _⟩ | q
    · exact .inl ⟨a, b, c, hz⟩
    · exact .inr q
  rcases c with ⟨_, ew, nm, ng, ⟨r, er, ov⟩, rfl⟩ | ⟨_, _, _, _, rfl⟩ | ⟨_, _, _, rfl⟩ | ⟨_, _, _, rfl⟩ | ⟨_, er, rfl⟩ | ⟨_, er, rfl⟩
  · have hw := h.wait ew
    have hlen : ((o.grants ++ [b]).length : Int) = (o.grants.length : Int) + 1 := by simp
    refine ⟨?_, ?_, ?_, ?_, ?_, ?_, h.sok.1, h.sok.2.1, h.sok.2.2.1, ?_, ?_⟩
    · rcases h.shape with ⟨_, _, _, d⟩ | ⟨a1, a5, r', er', ir, all⟩
      · exact absurd ew d
      · refine .inr ⟨a1, a5, r', er', ir, fun x hx => ?_⟩
        rcases List.mem_append.mp hx with hx | hx
        · exact all x hx
        · have e := List.mem_singleton.mp hx
          have e2 : r' = r := Option.some.inj (er'.symm.trans er)
          rw [e, e2]
          exact ov
    · show ((o.grants ++ [b]).length : Int) ≤ o.req
      omega
    · show (if ((o.grants.length + 1 : Nat) : Int) = o.req then ("ready" : Str) else o.state) = "waiting" → ((o.grants ++ [b]).length : Int) < o.req
      by_cases q : ((o.grants.length + 1 : Nat) : Int) = o.req
      · rw [if_pos q]
        intro z
        exact absurd z (by decide +kernel)
      · intro _
        omega
    · show (if ((o.grants.length + 1 : Nat) : Int) = o.req then ("ready" : Str) else o.state) = "ready" ∨ _ ∨ _ → ((o.grants ++ [b]).length : Int) = o.req
      by_cases q : ((o.grants.length + 1 : Nat) : Int) = o.req
      · intro _
        omega
      · show (if ((o.grants.length + 1 : Nat) : Int) = o.req then ("ready" : Str) else o.state) = "ready" ∨ (if ((o.grants.length + 1 : Nat) : Int) = o.req then ("ready" : Str) else o.state) = "done" ∨ (if ((o.grants.length + 1 : Nat) : Int) = o.req then ("ready" : Str) else o.state) = "failed" → _
        rw [if_neg q, ew]
        intro z
        exact absurd z (by decide +kernel)
    · show ¬ o.maker ∈ o.grants ++ [b]
      intro z
      rcases List.mem_append.mp z with z | z
      · exact h.nomk z
      · exact nm (List.mem_singleton.mp z).symm
    · show (o.grants ++ [b]).Nodup
      exact nd_snoc h.nd ng
    · show SOk (if ((o.grants.length + 1 : Nat) : Int) = o.req then ("ready" : Str) else o.state)
      by_cases q : ((o.grants.length + 1 : Nat) : Int) = o.req
      · rw [if_pos q]; exact (by decide +kernel : PyData.strOk ("ready" : Str) = true)
      · rw [if_neg q]; exact h.sok.2.2.2.1
    · intro x hx
      rcases List.mem_append.mp hx with hx | hx
      · exact h.sok.2.2.2.2 x hx
      · rw [List.mem_singleton.mp hx]
        obtain ⟨q, hq, _⟩ := ov
        exact sb q hq
  · exact other _ (by unfold SOk; decide +kernel) (by decide +kernel) fun z => absurd z (by decide +kernel)
  · exact other _ (by unfold SOk; decide +kernel) (by decide +kernel) fun z => absurd z (by decide +kernel)
  · exact other _ (by unfold SOk; decide +kernel) (by decide +kernel) fun z => absurd z (by decide +kernel)
  · exact other _ (by unfold SOk; decide +kernel) (by decide +kernel) fun _ => h.full (.inl er)
  · exact other _ (by unfold SOk; decide +kernel) (by decide +kernel) fun _ => h.full (.inl er)
section
variable {P : Program} {w : World} {K : PySem.W.Frag} {mg : Str → Option Value} {base : Heap} {A : Cl}
theorem scAtNumber : FnScope ["self", "number"] ["self", "number"] (defScope sAtNumber) := ⟨rfl, rfl, rfl, by decide +kernel, rfl, by decide +kernel, by decide +kernel⟩
theorem ok_atNumber {f eM : Addr} {fd : FuncData} (F : Fun K "at_number" "Orders.at_number" sAtNumber f fd) (T : Txt K mg A) (EM : Er K mg A.BE "Missing" eM) : FnOk P w K mg base (L2.CX P w) 1 f fd ["self", "number"] (spAtNumber K A) := by
  refine F.okX scAtNumber (fun vs H Q E h => ?_) (fun cdv AA outer s H vs Q E hr h => ?_)
  · obtain ⟨p, dR, dU, l, dN, as, gs, own, n, rs, os, num, rfl, _⟩ := h
    rfl
  · obtain ⟨p, dR, dU, l, dN, as, gs, own, n, rs, os, num, rfl, O, hn, rz, kk⟩ := h
    obtain ⟨dx, hp⟩ := O.ob
    have hlen : ((as.map V.ref).length : Int) = (os.length : Int) := by rw [List.length_map, O.al]
    refine ⟨_, pss_cons (ps_if (pt_not (pt_chain op_le op_le pe_int (pv 1) (pe_callB call_len_seq (by rfl) T.len PySem.boot_len (pa_cons (pe_fld (pv 0) rfl) pa_nil))))
        (pss_one (ps_raise rfl (takes_of rfl rfl rfl rfl) (pmk_own PySem.F.excBase_ValueError EM.x EM.g EM.k (raises_own EM.b EM.t) rfl))) pss_nil)
      (pss_one (ps_ret (pe_ix ix_list (pe_fld (pv 0) rfl) (pe_op op_sub (pv 1) pe_int) (fun _ _ => rfl)))), ?_⟩
    refine ⟨_, rfl, _, _, rfl, rfl, _, rfl, ifB (fun c1 => ?_) (fun c1 => ?_)⟩
    · have c1 : 1 ≤ num := of_decide_eq_true c1
      refine ⟨_, rfl, p, A.C, dx, _, _, rfl, hp, T.clC, T.cPl, pF_placed _ _ _ _, l, _, rfl, .inl (SqL.of O.pl), _, _, rfl, rfl, _, rfl, ?_⟩
      by_cases c2 : num ≤ ((as.map V.ref).length : Int)
      · refine ifF (by show (!decide (num ≤ ((as.map V.ref).length : Int))) = false; rw [decide_eq_true c2]; rfl) ?_
        obtain ⟨i, ei⟩ : ∃ i : Nat, num = (i : Int) + 1 := ⟨(num - 1).toNat, by omega⟩
        have hi : i < as.length := by rw [List.length_map] at c2; omega
        have ha : as[i]? = some as[i] := List.getElem?_eq_getElem hi
        refine ⟨_, rfl, p, A.C, dx, _, _, rfl, hp, T.clC, T.cPl, pF_placed _ _ _ _, _, rfl, _, _, rfl, rfl, l, _, _, _, rfl, rfl, SqL.of O.pl, at_of (j := i) (v := V.ref as[i]) (by omega) (by rw [List.getElem?_map, ha]; rfl), ?_⟩
        exact kk i _ ei ha
      · refine ifT (by show (!decide (num ≤ ((as.map V.ref).length : Int))) = true; rw [decide_eq_false c2]; rfl) ?_
        exact rz (fun z => c2 (by omega)) eM H EM.e (Same.refl H)
    · have c1 := of_decide_eq_false c1
      refine ⟨_, rfl, ifT rfl ?_⟩
      exact rz (fun z => c1 z.1) eM H EM.e (Same.refl H)
end
end K51
namespace K51
open PySem L2
section
variable {P : Program} {w : World} {K : PySem.W.Frag} {mg : Str → Option Value} {base : Heap} {A : Cl}
theorem scWaitingFor : FnScope ["self", "by", "number", "found"] ["self", "by", "number"] (defScope sWaitingFor) := ⟨rfl, rfl, rfl, by decide +kernel, rfl, by decide +kernel, by decide +kernel⟩
theorem ok_waitingFor {f f1 f2 eN eR : Addr} {fd fd1 fd2 : FuncData} (F : Fun K "waiting_for" "Orders.waiting_for" sWaitingFor f fd) (T : Txt K mg A) (M1 : Mth P w K mg base (L2.CX P w) 1 A.C "at_number" ["self", "number"] (spAtNumber K A) f1 fd1)
    (M2 : Mth P w K mg base CX0 1 A.C "may" ["self", "name", "role"] (spMay A) f2 fd2) (EN : Er K mg A.BE "NotAllowed" eN) (ER : Er K mg A.BE "Refused" eR) :
    FnOk P w K mg base (L2.CX P w) 2 f fd ["self", "by", "number"] (spWaitingFor K A) := by
  refine F.okX scWaitingFor (fun vs H Q E h => ?_) (fun cdv AA outer s H vs Q E hr h => ?_)
  · obtain ⟨p, dR, dU, l, dN, as, gs, own, n, rs, os, b, num, rfl, _⟩ := h
    rfl
  · obtain ⟨p, dR, dU, l, dN, as, gs, own, n, rs, os, b, num, rfl, O, hn, rz, kk⟩ := h
    have hu := hu_of hr
    obtain ⟨dx, hp⟩ := O.ob
    refine ⟨_, pss_cons (ps_if (pt_cmp (pc_dnotin hu (pv 1) (pe_fld (pv 0) rfl))) (pss_one (ps_raise rfl (takes_of rfl rfl rfl rfl) (pmk_own PySem.F.excBase_ValueError EN.x EN.g EN.k (raises_own EN.b EN.t) rfl))) pss_nil)
      (pss_cons (ps_set (i := 3) scWaitingFor.nd rfl (Or.inl rfl) (pe_meth (pv 0) T.clC M1.m M1.ok hr M1.b .nil (passes_call (takes_of rfl rfl rfl rfl) (fun _ _ _ _ h => h)) (pa_cons (pv 2) pa_nil)))
      (pss_cons (ps_if (pt_cmpR op_ne (pe_fld (pv 3) rfl) pe_str (nomark _)) (pss_one (ps_raise rfl (takes_of rfl rfl rfl rfl) (pmk_own PySem.F.excBase_ValueError ER.x ER.g ER.k (raises_own ER.b ER.t) rfl))) pss_nil)
      (pss_cons (ps_if (PW.pt (pw_or (pt_cmpR op_eq (pe_fld (pv 3) rfl) (pv 1) (nomark _)) (pw_or1 (pt_not (pt_val (pe_meth (pv 0) T.clC M2.m M2.ok hr M2.b .nil pass0 (pa_cons (pv 1) (pa_cons (pe_fld (pv 3) rfl) pa_nil))))))))
        (pss_one (ps_raise rfl (takes_of rfl rfl rfl rfl) (pmk_own PySem.F.excBase_ValueError EN.x EN.g EN.k (raises_own EN.b EN.t) rfl))) pss_nil)
      (pss_one (ps_ret (pv 3)))))), ?_⟩
    have ev := valV_roles rs b
    refine ⟨_, rfl, _, rfl, p, A.C, dx, _, _, rfl, hp, T.clC, T.cRo, pF_roles _ _ _ _, dR, _, rfl, DGet.k (k := Sum.inr b) O.dr, _, rfl, ?_⟩
    cases q : rs.lookup b with
    | none =>
      rw [q] at ev
      refine ifT (by rw [ev]; rfl) ?_
      exact rz eN H EN.e (Same.refl H)
    | some y =>
      rw [q] at ev
      refine ifF (by rw [ev]; rfl) ?_
      refine ⟨_, rfl, p, dx, _, rfl, hp, pF_no _ _ _ _ (by decide +kernel), _, rfl, p, dR, dU, l, dN, as, gs, own, n, rs, os, num, rfl, O, hn, fun _ => rz, fun i a ei ha => ?_⟩
      obtain ⟨o, g, ho, hg, oa, ok, _⟩ := O.get ha
      obtain ⟨dy, h1⟩ := oa.ins
      refine ⟨_, rfl, a, A.D, dy, _, _, rfl, h1, T.clD, T.dSt, oF_state _ _, rfl, _, rfl, ?_⟩
      by_cases ew : o.state = "waiting"
      · refine ifF (by show (!decide (V.str o.state = V.str "waiting")) = false; rw [ew]; decide +kernel) ?_
        obtain ⟨r, er, ir⟩ : ∃ r, o.role = some r ∧ IsRole r := by
          rcases ok.shape with ⟨_, _, _, d⟩ | ⟨_, _, r, er, ir, _⟩
          · exact absurd ew d
          · exact ⟨r, er, ir⟩
        refine ⟨_, rfl, a, A.D, dy, _, _, rfl, h1, T.clD, T.dMk, oF_maker _ _, _, rfl, rfl, _, rfl, ?_⟩
        by_cases em : b = o.maker
        · refine ifT (by show decide (V.str o.maker = V.str b) = true; rw [em]; exact decide_eq_true rfl) ?_
          exact rz eN H EN.e (Same.refl H)
        · refine ifF (by show decide (V.str o.maker = V.str b) = false; exact decide_eq_false fun z => em (V.str.inj z).symm) ?_
          refine ⟨_, rfl, p, dx, _, rfl, hp, pF_no _ _ _ _ (by decide +kernel), _, rfl, _, rfl, a, A.D, dy, _, _, rfl, h1, T.clD, T.dRo, oF_role _ _, p, own, n, rs, os, b, r, by rw [er]; rfl, ⟨dR, dU, l, dN, as, gs, O⟩, ir, fun k hk => ?_⟩
          refine ⟨k, rfl, ?_⟩
          cases k with
          | false =>
            refine ifT rfl ?_
            exact rz eN H EN.e (Same.refl H)
          | true =>
            refine ifF rfl ?_
            refine ⟨_, rfl, ?_⟩
            exact kk i a o ei ha ho ew em ⟨r, er, hk rfl⟩
      · refine ifT (by show (!decide (V.str o.state = V.str "waiting")) = true; rw [decide_eq_false fun z => ew (V.str.inj z)]; rfl) ?_
        exact rz eR H ER.e (Same.refl H)
theorem scGrant : FnScope ["self", "by", "number", "found"] ["self", "by", "number"] (defScope sGrant) := ⟨rfl, rfl, rfl, by decide +kernel, rfl, by decide +kernel, by decide +kernel⟩
theorem ok_grant {f f1 eN : Addr} {fd fd1 : FuncData} (F : Fun K "grant" "Orders.grant" sGrant f fd) (T : Txt K mg A) (M1 : Mth P w K mg base (L2.CX P w) 2 A.C "waiting_for" ["self", "by", "number"] (spWaitingFor K A) f1 fd1) (EN : Er K mg A.BE "NotAllowed" eN) :
    FnOk P w K mg base (L2.CX P w) 3 f fd ["self", "by", "number"] (spBy K A "grant") := by
  refine F.okX scGrant (fun vs H Q E h => ?_) (fun cdv AA outer s H vs Q E hr h => ?_)
  · obtain ⟨p, own, n, rs, os, b, num, rfl, _⟩ := h
    rfl
  · obtain ⟨p, own, n, rs, os, b, num, rfl, ⟨dR, dU, l, dN, as, gs, O⟩, hn, rz, act⟩ := h
    obtain ⟨dx, hp⟩ := O.ob
    refine ⟨_, pss_cons (ps_set (i := 3) scGrant.nd rfl (Or.inl rfl) (pe_meth (pv 0) T.clC M1.m M1.ok hr M1.b .nil (passes_call (takes_of rfl rfl rfl rfl) (fun _ _ _ _ h => h)) (pa_cons (pv 1) (pa_cons (pv 2) pa_nil))))
      (pss_cons (ps_if (pt_cmpR op_in_seq (pv 1) (pe_fld (pv 3) rfl) (by rfl)) (pss_one (ps_raise rfl (takes_of rfl rfl rfl rfl) (pmk_own PySem.F.excBase_ValueError EN.x EN.g EN.k (raises_own EN.b EN.t) rfl))) pss_nil)
      (pss_cons (ps_expr (pe_bm PySem.F.plainAttrs_list PySem.F.slot_list_append PySem.F.type_list_append mt_append (pe_fld (pv 3) rfl) (pa_cons (pv 1) pa_nil)))
      (pss_cons (ps_if (pt_cmpR op_eq (pe_callB call_len_seq (by rfl) T.len PySem.boot_len (pa_cons (pe_fld (pv 3) rfl) pa_nil)) (pe_fld (pv 3) rfl) (nomark _)) (pss_one (ps_fld (pv 3) pe_str rfl)) pss_nil)
      (pss_one (ps_ret (pe_fld (pv 3) rfl)))))), ?_⟩
    refine ⟨_, rfl, p, dx, _, rfl, hp, pF_no _ _ _ _ (by decide +kernel), _, rfl, _, rfl, p, dR, dU, l, dN, as, gs, own, n, rs, os, b, num, rfl, O, hn, rz, fun i a o ei ha ho ew em ⟨r, er, ov⟩ => ?_⟩
    obtain ⟨o2, g, ho2, hg, oa, ok, _⟩ := O.get ha
    rw [ho] at ho2
    cases ho2
    obtain ⟨dy, h1⟩ := oa.ins
    have h2 := oa.gl
    have nag : a ≠ g := ne_of h1 h2 (by intro z; cases z)
    refine ⟨_, rfl, _, rfl, a, A.D, dy, _, _, rfl, h1, T.clD, T.dGr, oF_grants _ _, g, _, rfl, .inl (SqL.of h2), rfl, flat_str _, _, rfl, ?_⟩
    by_cases ein : b ∈ o.grants
    · refine ifT (by show inV (V.str b) (o.grants.map V.str) = true; rw [inV_str]; exact decide_eq_true ein) ?_
      exact rz eN H EN.e (Same.refl H)
    · refine ifF (by show inV (V.str b) (o.grants.map V.str) = false; rw [inV_str]; exact decide_eq_false ein) ?_
      have g5 : o.grants.length ≤ 5 := by
        have := ok.len
        rcases ok.shape with ⟨a, _⟩ | ⟨_, a, _⟩ <;> omega
      refine ⟨_, rfl, a, A.D, dy, _, _, rfl, h1, T.clD, T.dGr, oF_grants _ _, .inl ⟨rfl, _, SqL.of h2⟩, _, rfl, g, _, _, rfl, rfl, h2, small1000 (by rw [List.length_map]; omega), ?_⟩
      have h1' : (upd H g (.lst (o.grants.map V.str ++ [V.str b]))) a = some (.ins A.D dy (oF o g)) := (upd_ne nag).trans h1
      refine ⟨_, rfl, a, A.D, dy, _, _, rfl, h1', T.clD, T.dGr, oF_grants _ _, g, _, rfl, .inl (SqL.of upd_same), _, rfl, a, A.D, dy, _, _, rfl, h1', T.clD, T.dRq, oF_req _ _, rfl, _, rfl, ?_⟩
      have elen : ((o.grants.map V.str ++ [V.str b]).length : Int) = ((o.grants.length + 1 : Nat) : Int) := by rw [List.length_append, List.length_map]; rfl
      have chg : Chg "grant" b rs 0 o (granted o b) := .inl ⟨rfl, ew, em, ein, ⟨r, er, ov⟩, rfl⟩
      have egl : (o.grants ++ [b]).map V.str = o.grants.map V.str ++ [V.str b] := by rw [List.map_append]; rfl
      by_cases e : ((o.grants.length + 1 : Nat) : Int) = o.req
      · refine ifT (by show decide (V.int ((o.grants.map V.str ++ [V.str b]).length : Int) = V.int o.req) = true; rw [elen, e]; exact decide_eq_true rfl) ?_
        refine ⟨_, rfl, a, A.D, dy, _, rfl, h1', T.clD, T.dSt, (by rw [oF_len]; decide), ?_⟩
        have enew : granted o b = { o with grants := o.grants ++ [b], state := "ready" } := by unfold granted; rw [if_pos e]
        have new : OrdAt A.D (upd (upd H g (.lst (o.grants.map V.str ++ [V.str b]))) a (.ins A.D dy (putF "state" (.str "ready") (oF o g)))) a g (granted o b) := by
          rw [enew]
          refine ⟨⟨dy, ?_⟩, ?_⟩
          · rw [upd_same, oF_put_state]
            rfl
          · rw [upd_ne nag.symm, upd_same]
            exact congrArg (fun q => some (HO.lst q)) egl.symm
        obtain ⟨O', so⟩ := O.set ho ha hg new (ok.chg chg fun q e => (O.rol b q e).2) fun x u ex n1 n2 => by rw [upd_ne n1, upd_ne n2]; exact ex
        obtain ⟨dz, h9⟩ := new.ins
        refine ⟨_, rfl, a, A.D, dz, _, _, rfl, h9, T.clD, T.dSt, oF_state _ _, ?_⟩
        exact act i o _ _ _ ei ho chg ⟨dR, dU, l, dN, as, gs, O'⟩ so
      · refine ifF (by show decide (V.int ((o.grants.map V.str ++ [V.str b]).length : Int) = V.int o.req) = false; rw [elen]; exact decide_eq_false fun z => e (V.int.inj z)) ?_
        have enew : granted o b = { o with grants := o.grants ++ [b] } := by unfold granted; rw [if_neg e]
        have new : OrdAt A.D (upd H g (.lst (o.grants.map V.str ++ [V.str b]))) a g (granted o b) := by
          rw [enew]
          refine ⟨⟨dy, h1'⟩, ?_⟩
          rw [upd_same]
          exact congrArg (fun q => some (HO.lst q)) egl.symm
        obtain ⟨O', so⟩ := O.set ho ha hg new (ok.chg chg fun q e => (O.rol b q e).2) fun x u ex n1 n2 => by rw [upd_ne n2]; exact ex
        refine ⟨_, rfl, a, A.D, dy, _, _, rfl, h1', T.clD, T.dSt, oF_state _ _, ?_⟩
        exact act i o _ _ _ ei ho chg ⟨dR, dU, l, dN, as, gs, O'⟩ so
/-- a state is stored -/
theorem OrsAt.put {n : Nat} {own : List Addr} {H : Hp} {p dR dU l dN : Addr} {as gs : List Addr} {rs : List (Str × Str)} {os : List Ord} (O : OrsAt A n own H p dR dU l dN as gs rs os)
    {i : Nat} {o : Ord} {a g dy : Addr} {z : Str} (ho : os[i]? = some o) (ha : as[i]? = some a) (hg : gs[i]? = some g) (oa : OrdAt A.D H a g o) (h1 : H a = some (.ins A.D dy (oF o g))) (ok : OrdOk rs { o with state := z }) :
    OrsAt A n own (upd H a (.ins A.D dy (putF "state" (.str z) (oF o g)))) p dR dU l dN as gs rs (os.set i { o with state := z }) ∧ Same (off own H) (off own (upd H a (.ins A.D dy (putF "state" (.str z) (oF o g))))) ∧
      (upd H a (.ins A.D dy (putF "state" (.str z) (oF o g)))) a = some (.ins A.D dy (oF { o with state := z } g)) := by
  have nag : a ≠ g := ne_of h1 oa.gl (by intro z; cases z)
  have e : (upd H a (.ins A.D dy (putF "state" (.str z) (oF o g)))) a = some (.ins A.D dy (oF { o with state := z } g)) := by rw [upd_same, oF_put_state]
  have new : OrdAt A.D (upd H a (.ins A.D dy (putF "state" (.str z) (oF o g)))) a g { o with state := z } := ⟨⟨dy, e⟩, by rw [upd_ne nag.symm]; exact oa.gl⟩
  obtain ⟨O', so⟩ := O.set ho ha hg new ok fun x u ex n1 n2 => by rw [upd_ne n1]; exact ex
  exact ⟨O', so, e⟩
theorem scReject : FnScope ["self", "by", "number", "found"] ["self", "by", "number"] (defScope sReject) := ⟨rfl, rfl, rfl, by decide +kernel, rfl, by decide +kernel, by decide +kernel⟩
theorem ok_reject {f f1 : Addr} {fd fd1 : FuncData} (F : Fun K "reject" "Orders.reject" sReject f fd) (T : Txt K mg A) (M1 : Mth P w K mg base (L2.CX P w) 2 A.C "waiting_for" ["self", "by", "number"] (spWaitingFor K A) f1 fd1) :
    FnOk P w K mg base (L2.CX P w) 3 f fd ["self", "by", "number"] (spBy K A "reject") := by
  refine F.okX scReject (fun vs H Q E h => ?_) (fun cdv AA outer s H vs Q E hr h => ?_)
  · obtain ⟨p, own, n, rs, os, b, num, rfl, _⟩ := h
    rfl
  · obtain ⟨p, own, n, rs, os, b, num, rfl, ⟨dR, dU, l, dN, as, gs, O⟩, hn, rz, act⟩ := h
    obtain ⟨dx, hp⟩ := O.ob
    refine ⟨_, pss_cons (ps_set (i := 3) scReject.nd rfl (Or.inl rfl) (pe_meth (pv 0) T.clC M1.m M1.ok hr M1.b .nil (passes_call (takes_of rfl rfl rfl rfl) (fun _ _ _ _ h => h)) (pa_cons (pv 1) (pa_cons (pv 2) pa_nil))))
      (pss_cons (ps_fld (pv 3) pe_str rfl) (pss_one (ps_ret (pe_fld (pv 3) rfl)))), ?_⟩
    refine ⟨_, rfl, p, dx, _, rfl, hp, pF_no _ _ _ _ (by decide +kernel), _, rfl, _, rfl, p, dR, dU, l, dN, as, gs, own, n, rs, os, b, num, rfl, O, hn, rz, fun i a o ei ha ho ew em ⟨r, er, ov⟩ => ?_⟩
    obtain ⟨o2, g, ho2, hg, oa, ok, _⟩ := O.get ha
    rw [ho] at ho2
    cases ho2
    obtain ⟨dy, h1⟩ := oa.ins
    have chg : Chg "reject" b rs 0 o { o with state := "rejected" } := .inr (.inl ⟨rfl, ew, em, ⟨r, er, ov⟩, rfl⟩)
    obtain ⟨O', so, e9⟩ := O.put ho ha hg oa h1 (ok.chg chg fun q e => (O.rol b q e).2)
    refine ⟨_, rfl, a, A.D, dy, _, rfl, h1, T.clD, T.dSt, (by rw [oF_len]; decide), ?_⟩
    refine ⟨_, rfl, a, A.D, dy, _, _, rfl, e9, T.clD, T.dSt, oF_state _ _, ?_⟩
    exact act i o _ _ _ ei ho chg ⟨dR, dU, l, dN, as, gs, O'⟩ so
theorem scWithdraw : FnScope ["self", "by", "number", "found"] ["self", "by", "number"] (defScope sWithdraw) := ⟨rfl, rfl, rfl, by decide +kernel, rfl, by decide +kernel, by decide +kernel⟩
theorem ok_withdraw {f f1 eN eR : Addr} {fd fd1 : FuncData} (F : Fun K "withdraw" "Orders.withdraw" sWithdraw f fd) (T : Txt K mg A) (M1 : Mth P w K mg base (L2.CX P w) 1 A.C "at_number" ["self", "number"] (spAtNumber K A) f1 fd1)
    (EN : Er K mg A.BE "NotAllowed" eN) (ER : Er K mg A.BE "Refused" eR) : FnOk P w K mg base (L2.CX P w) 2 f fd ["self", "by", "number"] (spBy K A "withdraw") := by
  refine F.okX scWithdraw (fun vs H Q E h => ?_) (fun cdv AA outer s H vs Q E hr h => ?_)
  · obtain ⟨p, own, n, rs, os, b, num, rfl, _⟩ := h
    rfl
  · obtain ⟨p, own, n, rs, os, b, num, rfl, ⟨dR, dU, l, dN, as, gs, O⟩, hn, rz, act⟩ := h
    obtain ⟨dx, hp⟩ := O.ob
    refine ⟨_, pss_cons (ps_set (i := 3) scWithdraw.nd rfl (Or.inl rfl) (pe_meth (pv 0) T.clC M1.m M1.ok hr M1.b .nil (passes_call (takes_of rfl rfl rfl rfl) (fun _ _ _ _ h => h)) (pa_cons (pv 2) pa_nil)))
      (pss_cons (ps_if (pt_cmpR op_ne (pe_fld (pv 3) rfl) (pv 1) (nomark _)) (pss_one (ps_raise rfl (takes_of rfl rfl rfl rfl) (pmk_own PySem.F.excBase_ValueError EN.x EN.g EN.k (raises_own EN.b EN.t) rfl))) pss_nil)
      (pss_cons (ps_if (pt_cmpR op_notIn_seq (pe_fld (pv 3) rfl) (pe_tup (pa_cons pe_str (pa_cons pe_str pa_nil))) (by rfl)) (pss_one (ps_raise rfl (takes_of rfl rfl rfl rfl) (pmk_own PySem.F.excBase_ValueError ER.x ER.g ER.k (raises_own ER.b ER.t) rfl))) pss_nil)
      (pss_cons (ps_fld (pv 3) pe_str rfl) (pss_one (ps_ret (pe_fld (pv 3) rfl)))))), ?_⟩
    refine ⟨_, rfl, p, dx, _, rfl, hp, pF_no _ _ _ _ (by decide +kernel), _, rfl, p, dR, dU, l, dN, as, gs, own, n, rs, os, num, rfl, O, hn, fun _ => rz, fun i a ei ha => ?_⟩
    obtain ⟨o, g, ho, hg, oa, ok, _⟩ := O.get ha
    obtain ⟨dy, h1⟩ := oa.ins
    refine ⟨_, rfl, a, A.D, dy, _, _, rfl, h1, T.clD, T.dMk, oF_maker _ _, _, rfl, rfl, _, rfl, ?_⟩
    by_cases em : o.maker = b
    · refine ifF (by show (!decide (V.str o.maker = V.str b)) = false; rw [decide_eq_true (by rw [em])]; rfl) ?_
      refine ⟨_, rfl, a, A.D, dy, _, _, rfl, h1, T.clD, T.dSt, oF_state _ _, (by show 2 ≤ sizeLine; decide), fun t nt => ?_⟩
      have s1 := same_upd (o := .tup [V.str "waiting", V.str "ready"]) nt
      refine ⟨t, _, rfl, .inr (SqT.of upd_same), rfl, rfl, _, rfl, ?_⟩
      have einV := open_in o
      by_cases eo : Open o
      · refine ifF (by show (!inV (V.str o.state) [V.str "waiting", V.str "ready"]) = false; rw [einV, decide_eq_true eo]; rfl) ?_
        have chg : Chg "withdraw" b rs 0 o { o with state := "withdrawn" } := .inr (.inr (.inl ⟨rfl, em.symm, eo, rfl⟩))
        obtain ⟨O', so, e9⟩ := (O.same s1).put ho ha hg (oa.same s1) (s1 _ _ h1) (ok.chg chg fun q e => (O.rol b q e).2)
        refine ⟨_, rfl, a, A.D, dy, _, rfl, s1 _ _ h1, T.clD, T.dSt, (by rw [oF_len]; decide), ?_⟩
        refine ⟨_, rfl, a, A.D, dy, _, _, rfl, e9, T.clD, T.dSt, oF_state _ _, ?_⟩
        exact act i o _ _ _ ei ho chg ⟨dR, dU, l, dN, as, gs, O'⟩ ((off_same s1).trans so)
      · refine ifT (by show (!inV (V.str o.state) [V.str "waiting", V.str "ready"]) = true; rw [einV, decide_eq_false eo]; rfl) ?_
        exact rz eR _ ER.e s1
    · refine ifT (by show (!decide (V.str o.maker = V.str b)) = true; rw [decide_eq_false fun z => em (V.str.inj z)]; rfl) ?_
      exact rz eN H EN.e (Same.refl H)
theorem scEnd : FnScope ["self", "number", "state", "found"] ["self", "number", "state"] (defScope sEnd) := ⟨rfl, rfl, rfl, by decide +kernel, rfl, by decide +kernel, by decide +kernel⟩
theorem ok_end {f f1 eR : Addr} {fd fd1 : FuncData} (F : Fun K "end" "Orders.end" sEnd f fd) (T : Txt K mg A) (M1 : Mth P w K mg base (L2.CX P w) 1 A.C "at_number" ["self", "number"] (spAtNumber K A) f1 fd1)
    (ER : Er K mg A.BE "Refused" eR) : FnOk P w K mg base (L2.CX P w) 2 f fd ["self", "number", "state"] (spEnd K A) := by
  refine F.okX scEnd (fun vs H Q E h => ?_) (fun cdv AA outer s H vs Q E hr h => ?_)
  · obtain ⟨p, own, n, rs, os, what, b, z, num, rfl, _⟩ := h
    rfl
  · obtain ⟨p, own, n, rs, os, what, b, z, num, rfl, ⟨dR, dU, l, dN, as, gs, O⟩, hn, hw, rz, act⟩ := h
    obtain ⟨dx, hp⟩ := O.ob
    refine ⟨_, pss_cons (ps_set (i := 3) scEnd.nd rfl (Or.inl rfl) (pe_meth (pv 0) T.clC M1.m M1.ok hr M1.b .nil (passes_call (takes_of rfl rfl rfl rfl) (fun _ _ _ _ h => h)) (pa_cons (pv 1) pa_nil)))
      (pss_cons (ps_if (pt_cmpR op_ne (pe_fld (pv 3) rfl) pe_str (nomark _)) (pss_one (ps_raise rfl (takes_of rfl rfl rfl rfl) (pmk_own PySem.F.excBase_ValueError ER.x ER.g ER.k (raises_own ER.b ER.t) rfl))) pss_nil)
      (pss_cons (ps_fld (pv 3) (pv 2) rfl) (pss_one (ps_ret (pe_fld (pv 3) rfl))))), ?_⟩
    refine ⟨_, rfl, p, dx, _, rfl, hp, pF_no _ _ _ _ (by decide +kernel), _, rfl, p, dR, dU, l, dN, as, gs, own, n, rs, os, num, rfl, O, hn, fun _ => rz, fun i a ei ha => ?_⟩
    obtain ⟨o, g, ho, hg, oa, ok, _⟩ := O.get ha
    obtain ⟨dy, h1⟩ := oa.ins
    refine ⟨_, rfl, a, A.D, dy, _, _, rfl, h1, T.clD, T.dSt, oF_state _ _, rfl, _, rfl, ?_⟩
    by_cases ew : o.state = "ready"
    · refine ifF (by show (!decide (V.str o.state = V.str "ready")) = false; rw [ew]; decide +kernel) ?_
      have chg : Chg what b rs 0 o { o with state := z } := by
        rcases hw with ⟨rfl, rfl⟩ | ⟨rfl, rfl⟩
        · exact .inr (.inr (.inr (.inr (.inl ⟨rfl, ew, rfl⟩))))
        · exact .inr (.inr (.inr (.inr (.inr ⟨rfl, ew, rfl⟩))))
      obtain ⟨O', so, e9⟩ := O.put ho ha hg oa h1 (ok.chg chg fun q e => (O.rol b q e).2)
      refine ⟨_, rfl, _, rfl, a, A.D, dy, _, rfl, h1, T.clD, T.dSt, (by rw [oF_len]; decide), ?_⟩
      refine ⟨_, rfl, a, A.D, dy, _, _, rfl, e9, T.clD, T.dSt, oF_state _ _, ?_⟩
      exact act i o _ _ _ ei ho chg ⟨dR, dU, l, dN, as, gs, O'⟩ so
    · refine ifT (by show (!decide (V.str o.state = V.str "ready")) = true; rw [decide_eq_false fun z => ew (V.str.inj z)]; rfl) ?_
      exact rz eR H ER.e (Same.refl H)
theorem scComplete : FnScope ["self", "number"] ["self", "number"] (defScope sComplete) := ⟨rfl, rfl, rfl, by decide +kernel, rfl, by decide +kernel, by decide +kernel⟩
theorem ok_complete {f f1 : Addr} {fd fd1 : FuncData} (F : Fun K "complete" "Orders.complete" sComplete f fd) (T : Txt K mg A) (M1 : Mth P w K mg base (L2.CX P w) 2 A.C "end" ["self", "number", "state"] (spEnd K A) f1 fd1) :
    FnOk P w K mg base (L2.CX P w) 3 f fd ["self", "number"] (spNo K A "complete") := by
  refine F.okX scComplete (fun vs H Q E h => ?_) (fun cdv AA outer s H vs Q E hr h => ?_)
  · obtain ⟨p, own, n, rs, os, b, num, rfl, _⟩ := h
    rfl
  · obtain ⟨p, own, n, rs, os, b, num, rfl, ⟨dR, dU, l, dN, as, gs, O⟩, hn, rz, act⟩ := h
    obtain ⟨dx, hp⟩ := O.ob
    refine ⟨_, pss_one (ps_ret (pe_meth (pv 0) T.clC M1.m M1.ok hr M1.b .nil (passes_call (takes_of rfl rfl rfl rfl) (fun _ _ _ _ h => h)) (pa_cons (pv 1) (pa_cons pe_str pa_nil)))), ?_⟩
    exact ⟨_, rfl, p, dx, _, rfl, hp, pF_no _ _ _ _ (by decide +kernel), _, rfl, p, own, n, rs, os, "complete", b, "done", num, rfl, ⟨dR, dU, l, dN, as, gs, O⟩, hn, .inl ⟨rfl, rfl⟩, rz, act⟩
theorem scFail : FnScope ["self", "number"] ["self", "number"] (defScope sFail) := ⟨rfl, rfl, rfl, by decide +kernel, rfl, by decide +kernel, by decide +kernel⟩
theorem ok_fail {f f1 : Addr} {fd fd1 : FuncData} (F : Fun K "fail" "Orders.fail" sFail f fd) (T : Txt K mg A) (M1 : Mth P w K mg base (L2.CX P w) 2 A.C "end" ["self", "number", "state"] (spEnd K A) f1 fd1) :
    FnOk P w K mg base (L2.CX P w) 3 f fd ["self", "number"] (spNo K A "fail") := by
  refine F.okX scFail (fun vs H Q E h => ?_) (fun cdv AA outer s H vs Q E hr h => ?_)
  · obtain ⟨p, own, n, rs, os, b, num, rfl, _⟩ := h
    rfl
  · obtain ⟨p, own, n, rs, os, b, num, rfl, ⟨dR, dU, l, dN, as, gs, O⟩, hn, rz, act⟩ := h
    obtain ⟨dx, hp⟩ := O.ob
    refine ⟨_, pss_one (ps_ret (pe_meth (pv 0) T.clC M1.m M1.ok hr M1.b .nil (passes_call (takes_of rfl rfl rfl rfl) (fun _ _ _ _ h => h)) (pa_cons (pv 1) (pa_cons pe_str pa_nil)))), ?_⟩
    exact ⟨_, rfl, p, dx, _, rfl, hp, pF_no _ _ _ _ (by decide +kernel), _, rfl, p, own, n, rs, os, "fail", b, "failed", num, rfl, ⟨dR, dU, l, dN, as, gs, O⟩, hn, .inr ⟨rfl, rfl⟩, rz, act⟩
theorem scOrder : FnScope ["self", "number"] ["self", "number"] (defScope sOrder) := ⟨rfl, rfl, rfl, by decide +kernel, rfl, by decide +kernel, by decide +kernel⟩
theorem ok_order {f f1 f2 : Addr} {fd fd1 fd2 : FuncData} (F : Fun K "order" "Orders.order" sOrder f fd) (T : Txt K mg A) (M1 : Mth P w K mg base (L2.CX P w) 1 A.C "at_number" ["self", "number"] (spAtNumber K A) f1 fd1)
    (M2 : Mth P w K mg base CX0 1 A.D "told" ["self"] (spTold A) f2 fd2) : FnOk P w K mg base (L2.CX P w) 2 f fd ["self", "number"] (spOrder K A) := by
  refine F.okX scOrder (fun vs H Q E h => ?_) (fun cdv AA outer s H vs Q E hr h => ?_)
  · obtain ⟨p, own, n, rs, os, num, rfl, _⟩ := h
    rfl
  · obtain ⟨p, own, n, rs, os, num, rfl, ⟨dR, dU, l, dN, as, gs, O⟩, hn, rz, kk⟩ := h
    obtain ⟨dx, hp⟩ := O.ob
    refine ⟨_, pss_one (ps_ret (pe_meth0 (pe_meth (pv 0) T.clC M1.m M1.ok hr M1.b .nil (passes_call (takes_of rfl rfl rfl rfl) (fun _ _ _ _ h => h)) (pa_cons (pv 1) pa_nil)) T.clD M2.m M2.ok hr M2.b .nil pass0)), ?_⟩
    refine ⟨_, rfl, p, dx, _, rfl, hp, pF_no _ _ _ _ (by decide +kernel), _, rfl, p, dR, dU, l, dN, as, gs, own, n, rs, os, num, rfl, O, hn, rz, fun i a ei ha => ?_⟩
    obtain ⟨o, g, ho, hg, oa, ok, _⟩ := O.get ha
    obtain ⟨dy, h1⟩ := oa.ins
    exact ⟨a, dy, _, rfl, h1, oF_no _ _ (by decide +kernel), a, g, o, rfl, oa, fun t g' H' s1 e1 e2 => kk i o t g' H' ei ho s1 e1 e2⟩
end
end K51
namespace K51
open PySem L2
def expTo (day : Int) (k : Nat) (os : List Ord) : List Ord := os.mapIdx fun j o => if j < k then expOne day o else o
theorem expTo_zero (day : Int) (os : List Ord) : expTo day 0 os = os := by
  apply List.ext_getElem?
  intro j
  unfold expTo
  rw [List.getElem?_mapIdx]
  cases os[j]? <;> simp
theorem expTo_all (day : Int) (os : List Ord) : expTo day os.length os = os.map (expOne day) := by
  apply List.ext_getElem?
  intro j
  unfold expTo
  rw [List.getElem?_mapIdx, List.getElem?_map]
  cases e : os[j]? with
  | none => rfl
  | some o =>
    have := (List.getElem?_eq_some_iff.mp e).1
    simp [this]
theorem expTo_at {day : Int} {k : Nat} {os : List Ord} {o : Ord} (h : os[k]? = some o) : (expTo day k os)[k]? = some o := by
  unfold expTo
  rw [List.getElem?_mapIdx, h]
  simp
theorem expTo_succ {day : Int} {k : Nat} {os : List Ord} {o : Ord} (h : os[k]? = some o) : expTo day (k + 1) os = (expTo day k os).set k (expOne day o) := by
  apply List.ext_getElem?
  intro j
  by_cases e : j = k
  · subst e
    have hl : j < (expTo day j os).length := (List.getElem?_eq_some_iff.mp (expTo_at (day := day) h)).1
    rw [List.getElem?_set_self hl]
    unfold expTo
    rw [List.getElem?_mapIdx, h]
    simp
  · rw [List.getElem?_set_ne (Ne.symm e)]
    unfold expTo
    rw [List.getElem?_mapIdx, List.getElem?_mapIdx]
    have : (j < k + 1) = (j < k) := by apply propext; constructor <;> intro _ <;> omega
    simp [this]
theorem expTo_len (day : Int) (k : Nat) (os : List Ord) : (expTo day k os).length = os.length := by unfold expTo; rw [List.length_mapIdx]
theorem RuleOk.outside {own : List Addr} {H : Hp} {nl : Addr} {xs ys : List V} (hl : H nl = some (.lst xs)) {v : V} (h : RuleOk (off own H) v) : RuleOk (off own (upd H nl (.lst ys))) v := by
  have k : ∀ (t : Addr) (zs : List V), off own H t = some (.tup zs) → off own (upd H nl (.lst ys)) t = some (.tup zs) := fun t zs e => by
    obtain ⟨n, q⟩ := off_some e
    rw [off_out n, upd_ne (ne_of q hl (by intro z; cases z))]
    exact q
  obtain ⟨t, rows, e, ht, q⟩ := h
  refine ⟨t, rows, e, k _ _ ht, fun r hr => ?_⟩
  obtain ⟨t2, a, b, c, e2, ht2, q2⟩ := q r hr
  exact ⟨t2, a, b, c, e2, k _ _ ht2, q2⟩
/-- a list that is not an Orders object's own is changed -/
theorem OrsAt.outside {A : Cl} {n : Nat} {own : List Addr} {H : Hp} {p dR dU l dN : Addr} {as gs : List Addr} {rs : List (Str × Str)} {os : List Ord} (O : OrsAt A n own H p dR dU l dN as gs rs os)
    {nl : Addr} {xs : List V} (no : ¬ nl ∈ own) (hl : H nl = some (.lst xs)) (ys : List V) : OrsAt A n own (upd H nl (.lst ys)) p dR dU l dN as gs rs os := by
  have k : ∀ b ∈ own, ∀ u, H b = some u → (upd H nl (.lst ys)) b = some u := fun b hb u e => by
    have nb : b ≠ nl := fun z => no (by rw [← z]; exact hb)
    rw [upd_ne nb]; exact e
  obtain ⟨dx, e1⟩ := O.ob
  obtain ⟨rk, e3, e3l, e3r⟩ := O.du
  obtain ⟨nk, e5, e5l, e5r⟩ := O.dn
  have i1 : p ∈ own := by rw [O.own_]; simp
  have i2 : dR ∈ own := by rw [O.own_]; simp
  have i3 : dU ∈ own := by rw [O.own_]; simp
  have i4 : l ∈ own := by rw [O.own_]; simp
  have i5 : dN ∈ own := by rw [O.own_]; simp
  refine ⟨O.own_, ⟨dx, k _ i1 _ e1⟩, k _ i2 _ O.dr, ⟨rk, k _ i3 _ e3, e3l, fun x v e => (e3r x v e).outside hl⟩, ⟨nk, k _ i5 _ e5, e5l, e5r⟩, k _ i4 _ O.pl, O.al, O.gll, O.osn, fun i o a g h1 h2 h3 => ?_, O.nd, O.ok, O.rol, O.rsn⟩
  have oa := O.at_ i o a g h1 h2 h3
  obtain ⟨dy, ha⟩ := oa.ins
  have ia : a ∈ own := by rw [O.own_]; simp [List.mem_of_getElem? h2]
  have ig : g ∈ own := by rw [O.own_]; simp [List.mem_of_getElem? h3]
  exact ⟨⟨dy, k _ ia _ ha⟩, k _ ig _ oa.gl⟩
section
variable {P : Program} {w : World} {K : PySem.W.Frag} {mg : Str → Option Value} {base : Heap} {A : Cl}
theorem scExpire : FnScope ["self", "day", "numbers", "at", "placed"] ["self", "day"] (defScope sExpire) := ⟨rfl, rfl, rfl, by decide +kernel, rfl, by decide +kernel, by decide +kernel⟩
theorem ok_expire {f : Addr} {fd : FuncData} (F : Fun K "expire" "Orders.expire" sExpire f fd) (T : Txt K mg A) : FnOk P w K mg base CX0 1 f fd ["self", "day"] (spExpire A) := by
  refine F.ok scExpire (fun vs H Q E h => ?_) (fun cdv AA outer s H vs Q E hr h => ?_)
  · obtain ⟨p, own, n, rs, os, day, rfl, _⟩ := h
    rfl
  · obtain ⟨p, own, n, rs, os, day, rfl, ⟨dR, dU, l, dN, as, gs, O⟩, hn, kk⟩ := h
    obtain ⟨dx, hp⟩ := O.ob
    refine ⟨_, pss_cons (ps_set (i := 2) scExpire.nd rfl (Or.inl rfl) (pe_lst pa_nil))
      (pss_cons (ps_for PassesOwn.never rfl (pi_enum (by rfl) T.enum (pa_cons (pe_fld (pv 0) rfl) pa_nil)) (pg_tup rfl (pgs_cons (pg_name (i := 3) scExpire.nd rfl (Or.inl rfl)) (pgs_cons (pg_name (i := 4) scExpire.nd rfl (Or.inl rfl)) pgs_nil)))
        (pss_one (ps_if (PW.pt (pw_and (pt_cmpR op_in_seq (pe_fld (pv 4) rfl) (pe_tup (pa_cons pe_str (pa_cons pe_str pa_nil))) (by rfl)) (pw_and1 (pt_cmpR op_lt (pe_fld (pv 4) rfl) (pv 1) (nomark _)))))
          (pss_cons (ps_fld (pv 4) pe_str rfl)
          (pss_one (ps_expr (pe_bm PySem.F.plainAttrs_list PySem.F.slot_list_append PySem.F.type_list_append mt_append (pv 2) (pa_cons (pe_op op_add (pv 3) pe_int) pa_nil))))) pss_nil)))
      (pss_one (ps_ret (pv 2)))), ?_⟩
    refine ⟨Nat.zero_le _, fun nl hnl => ?_⟩
    have s1 : Same H (upd H nl (.lst [])) := same_upd hnl
    have nlo : ¬ nl ∈ own := fun z => O.tracked nl z hnl
    refine ⟨_, rfl, p, A.C, dx, _, _, rfl, s1 _ _ hp, T.clC, T.cPl, pF_placed _ _ _ _, l, _, rfl, SqL.of (s1 _ _ O.pl), ?_⟩
    refine for_it (n := (as.map V.ref).length) walk_enum (fun i σ H' => OrsAt A n own H' p dR dU l dN as gs rs (expTo day i os) ∧ Same (off own H) (off own H') ∧ (∃ xs : List V, off own H' nl = some (.lst xs) ∧ xs.length ≤ i) ∧
        ∃ v3 v4 : Option V, σ = [some (.ref p), some (.int day), some (.ref nl), v3, v4])
      ⟨by rw [expTo_zero]; exact O.same s1, off_same s1, ⟨[], by rw [off_out nlo, upd_same], Nat.le_refl _⟩, none, none, rfl⟩ (fun i σ H' _ h => SqL.of h.1.pl) ?_ ?_
    · rintro i x σ H1 H2 hi ⟨O1, so1, ⟨xs, hxs, hxl⟩, v3, v4, rfl⟩ ⟨t, x1, y1, rfl, nt, rfl, e1, e2⟩
      cases e1
      obtain ⟨a, ha, rfl⟩ : ∃ a, as[i]? = some a ∧ y1 = V.ref a := by
        have e2 : (as.map V.ref)[i]? = some y1 := e2
        rw [List.getElem?_map] at e2
        cases q : as[i]? with
        | none => rw [q] at e2; cases e2
        | some a => rw [q] at e2; exact ⟨a, rfl, (Option.some.inj e2).symm⟩
      have s2 : Same H1 (upd H1 t (.tup [.int (i : Nat), .ref a])) := same_upd nt
      have O2 := O1.same s2
      obtain ⟨o, g, ho, hg, oa, ok, hio⟩ := O2.get ha
      rw [expTo_len] at hio
      obtain ⟨o0, ho0⟩ : ∃ o0, os[i]? = some o0 := ⟨os[i], List.getElem?_eq_getElem hio⟩
      have eo : o = o0 := Option.some.inj (ho.symm.trans (expTo_at ho0))
      subst eo
      obtain ⟨dy, h1⟩ := oa.ins
      refine ⟨t, _, rfl, SqT.of upd_same, rfl, _, _, rfl, _, _, rfl, rfl, ?_⟩
      refine ⟨_, rfl, a, A.D, dy, _, _, rfl, h1, T.clD, T.dSt, oF_state _ _, (by show 2 ≤ sizeLine; decide), fun t2 nt2 => ?_⟩
      have s3 := same_upd (o := .tup [V.str "waiting", V.str "ready"]) nt2
      have O3 := O2.same s3
      have so3 : Same (off own H) (off own (upd (upd H1 t (.tup [.int (i : Nat), .ref a])) t2 (.tup [V.str "waiting", V.str "ready"]))) := so1.trans (off_same (s2.trans s3))
      have hx3 := off_same (own := own) (s2.trans s3) _ _ hxs
      refine ⟨t2, _, rfl, .inr (SqT.of upd_same), rfl, rfl, _, rfl, ?_⟩
      have same_ : ¬ (Open o ∧ o.til < day) → (expTo day (i + 1) os = expTo day i os) := fun h => by
        rw [expTo_succ ho0]
        have e : expOne day o = o := if_neg h
        rw [e]
        apply List.ext_getElem?
        intro j
        by_cases q : j = i
        · subst q
          rw [List.getElem?_set_self (List.getElem?_eq_some_iff.mp ho).1, ho]
        · rw [List.getElem?_set_ne (Ne.symm q)]
      by_cases eop : Open o
      · refine ifT (by show inV (V.str o.state) [V.str "waiting", V.str "ready"] = true; rw [open_in, decide_eq_true eop]) ?_
        refine ⟨_, rfl, a, A.D, dy, _, _, rfl, s3 _ _ h1, T.clD, T.dUn, oF_til _ _, _, rfl, _, _, rfl, rfl, _, rfl, ?_⟩
        by_cases ed : o.til < day
        · refine ifT (decide_eq_true ed) ?_
          have eexp : expOne day o = { o with state := "expired" } := if_pos ⟨eop, ed⟩
          have chg : Chg "expire" "" rs day o { o with state := "expired" } := .inr (.inr (.inr (.inl ⟨rfl, eop, ed, rfl⟩)))
          obtain ⟨O4, so4, e9⟩ := O3.put ho ha hg (oa.same s3) (s3 _ _ h1) (ok.chg chg fun q e => (O.rol _ q e).2)
          refine ⟨_, rfl, a, A.D, dy, _, rfl, s3 _ _ h1, T.clD, T.dSt, (by rw [oF_len]; decide), ?_⟩
          have hx4 := so4 _ _ hx3
          refine ⟨_, rfl, .inl ⟨rfl, _, SqL.of (off_le _ _ hx4)⟩, _, rfl, _, _, rfl, rfl, nl, xs, _, rfl, rfl, off_le _ _ hx4, small1000 (by have := O1.osn; rw [expTo_len] at this; omega), ?_⟩
          have O5 := O4.outside nlo (off_le _ _ hx4) (xs ++ [V.int ((i : Int) + 1)])
          refine ⟨by rw [expTo_succ ho0, eexp]; exact O5, fun b u e => ?_, ⟨xs ++ [V.int ((i : Int) + 1)], by rw [off_out nlo, upd_same], by rw [List.length_append]; exact Nat.succ_le_succ hxl⟩, _, _, rfl⟩
          have e4 := (so3.trans so4) b u e
          obtain ⟨nb, hb⟩ := off_some e4
          rw [off_out nb, upd_ne (ne_of_none (off_some e).2 hnl)]
          exact hb
        · refine ifF (decide_eq_false ed) ?_
          exact ⟨by rw [same_ (fun z => ed z.2)]; exact O3, so3, ⟨xs, hx3, Nat.le_succ_of_le hxl⟩, _, _, rfl⟩
      · refine ifF (by show inV (V.str o.state) [V.str "waiting", V.str "ready"] = false; rw [open_in, decide_eq_false eop]) ?_
        refine ifF rfl ?_
        exact ⟨by rw [same_ (fun z => eop z.1)]; exact O3, so3, ⟨xs, hx3, Nat.le_succ_of_le hxl⟩, _, _, rfl⟩
    · rintro σ H' ⟨O1, so1, ⟨xs, hxs, hxl⟩, v3, v4, rfl⟩
      refine ⟨_, rfl, ?_⟩
      rw [List.length_map, O.al, expTo_all] at O1
      exact kk _ H' ⟨dR, dU, l, dN, as, gs, O1⟩ so1
end
end K51
namespace K51
open PySem L2
theorem w_not : ¬ (("waiting" : Str) = "ready" ∨ ("waiting" : Str) = "done" ∨ ("waiting" : Str) = "failed") := by decide +kernel
theorem r_not : ¬ (("ready" : Str) = "waiting") := by decide +kernel
theorem sh3 {x y : Str} (hx : SOk x) (hy : SOk y) (i : Int) : SeqAt.shaped (.tuple [.str x, .str y, .int i]) = true := by
  have hx : PyData.strOk x = true := hx
  have hy : PyData.strOk y = true := hy
  simp [SeqAt.shaped, PyData.canLay0, PyData.canLayAll0, PyData.depth, PyData.depthAll, hx, hy]
section
variable {P : Program} {w : World} {K : PySem.W.Frag} {mg : Str → Option Value} {base : Heap} {A : Cl}
theorem scPlace : FnScope ["self", "by", "kind", "amount", "key", "until", "number", "earlier", "placed", "required", "role"] ["self", "by", "kind", "amount", "key", "until"] (defScope sPlace) := ⟨rfl, rfl, rfl, by decide +kernel, rfl, by decide +kernel, by decide +kernel⟩
theorem ok_place {f f1 f2 f3 f4 fI eR : Addr} {fd fd1 fd2 fd3 fd4 fdI : FuncData} (F : Fun K "place" "Orders.place" sPlace f fd) (T : Txt K mg A)
    (M1 : Mth P w K mg base (L2.CX P w) 3 A.C "check_place" ["self", "by", "kind", "amount", "key", "until"] (spCheckPlace K A) f1 fd1)
    (M2 : Mth P w K mg base CX0 1 A.C "by_key" ["self", "key"] (spByKey A) f2 fd2) (M3 : Mth P w K mg base CX0 1 A.C "row_for" ["self", "kind", "amount"] (spRowFor A) f3 fd3)
    (M4 : Mth P w K mg base CX0 1 A.D "require" ["self", "required", "role"] (spRequire A) f4 fd4) (MK : Mk K A.D fI)
    (GI : FnOk P w K mg base CX0 1 fI fdI ["self", "maker", "kind", "amount", "key", "until"] (spOrdInit A)) (bI : Binds K fdI ["self", "maker", "kind", "amount", "key", "until"] [])
    (ER : Er K mg A.BE "Refused" eR) : FnOk P w K mg base (L2.CX P w) 4 f fd ["self", "by", "kind", "amount", "key", "until"] (spPlace K A) := by
  obtain ⟨tm, hm⟩ := T.most
  refine F.okX scPlace (fun vs H Q E h => ?_) (fun cdv AA outer s H vs Q E hr h => ?_)
  · obtain ⟨p, own, n, rs, os, b, z, key, a, u, rfl, _⟩ := h
    rfl
  · obtain ⟨p, own, n, rs, os, b, z, key, a, u, rfl, O, hn, pa, rz, kk0, kk1⟩ := h
    have hu := hu_of hr
    have hr1 : Room 1 _ := hr.mono (by decide)
    refine ⟨_, pss_cons (ps_expr (pe_meth (pv 0) T.clC M1.m M1.ok hr M1.b .nil (passes_call (takes_of rfl rfl rfl rfl) (fun _ _ _ _ h => h)) (pa_cons (pv 1) (pa_cons (pv 2) (pa_cons (pv 3) (pa_cons (pv 4) (pa_cons (pv 5) pa_nil)))))))
      (pss_cons (ps_set (i := 6) scPlace.nd rfl (Or.inl rfl) (pe_meth (pv 0) T.clC M2.m M2.ok hr1 M2.b .nil pass0 (pa_cons (pv 4) pa_nil)))
      (pss_cons (ps_if (pt_cmp (pc_notN (pv 6)))
        (pss_cons (ps_set (i := 7) scPlace.nd rfl (Or.inl rfl) (pe_ix ix_list (pe_fld (pv 0) rfl) (pe_op op_sub (pv 6) pe_int) (fun _ _ => rfl)))
        (pss_cons (ps_if (pt_cmpR (op_neD hr.units) (pe_tup (pa_cons (pe_fld (pv 7) rfl) (pa_cons (pe_fld (pv 7) rfl) (pa_cons (pe_fld (pv 7) rfl) pa_nil)))) (pe_tup (pa_cons (pv 1) (pa_cons (pv 2) (pa_cons (pv 3) pa_nil)))) (nomark _))
          (pss_one (ps_raise rfl (takes_of rfl rfl rfl rfl) (pmk_own PySem.F.excBase_ValueError ER.x ER.g ER.k (raises_own ER.b ER.t) rfl))) pss_nil)
        (pss_one (ps_ret (pv 6))))) pss_nil)
      (pss_cons (ps_if (pt_cmpR op_ge (pe_callB call_len_seq (by rfl) T.len PySem.boot_len (pa_cons (pe_fld (pv 0) rfl) pa_nil)) (pe_glob (v := .int 500) rfl hm ⟨_, rfl⟩) (nomark _)) (pss_one ps_never) pss_nil)
      (pss_cons (ps_set (i := 8) scPlace.nd rfl (Or.inl rfl) (pe_make MK GI (hr.mono (by decide)) rfl T.mgD bI .nil pass0 (pa_cons (pv 1) (pa_cons (pv 2) (pa_cons (pv 3) (pa_cons (pv 4) (pa_cons (pv 5) pa_nil)))))))
      (pss_cons (ps_asg (pe_meth (pv 0) T.clC M3.m M3.ok hr1 M3.b .nil pass0 (pa_cons (pv 2) (pa_cons (pv 3) pa_nil))) (pg_tup rfl (pgs_cons (pg_name (i := 9) scPlace.nd rfl (Or.inl rfl)) (pgs_cons (pg_name (i := 10) scPlace.nd rfl (Or.inl rfl)) pgs_nil))))
      (pss_cons (ps_expr (pe_meth (pv 8) T.clD M4.m M4.ok hr1 M4.b .nil pass0 (pa_cons (pv 9) (pa_cons (pv 10) pa_nil))))
      (pss_cons (ps_expr (pe_bm PySem.F.plainAttrs_list PySem.F.slot_list_append PySem.F.type_list_append mt_append (pe_fld (pv 0) rfl) (pa_cons (pv 8) pa_nil)))
      (pss_cons (ps_dput hu (pe_fld (pv 0) rfl) (pv 4) (pe_callB call_len_seq (by rfl) T.len PySem.boot_len (pa_cons (pe_fld (pv 0) rfl) pa_nil)) rfl)
      (pss_one (ps_ret (pe_callB call_len_seq (by rfl) T.len PySem.boot_len (pa_cons (pe_fld (pv 0) rfl) pa_nil)))))))))))), ?_⟩
    obtain ⟨dx, hp⟩ : ∃ dx dR dU l dN, H p = some (.ins A.C dx (pF dR dU l dN)) := by
      obtain ⟨dR, dU, l, dN, as, gs, O⟩ := O
      obtain ⟨dx, hp⟩ := O.ob
      exact ⟨dx, dR, dU, l, dN, hp⟩
    obtain ⟨xR, xU, xl, xN, hp⟩ := hp
    refine ⟨_, rfl, p, dx, _, rfl, hp, pF_no _ _ _ _ (by decide +kernel), _, rfl, _, rfl, _, rfl, _, rfl, _, rfl, p, own, n, rs, os, b, z, key, a, u, rfl, O, pa, rz, fun q H1 s1 hq => ?_⟩
    refine ⟨_, rfl, p, dx, _, rfl, s1 _ _ hp, pF_no _ _ _ _ (by decide +kernel), _, rfl, p, own, n, rs, os, key, rfl, O.same s1, fun v hv => ?_⟩
    obtain ⟨dR, dU, l, dN, as, gs, O1⟩ := O.same s1
    obtain ⟨dx1, hp1⟩ := O1.ob
    rcases hv with rfl | ⟨i, rfl, hi⟩
    · obtain ⟨rk, e3, e3l, e3r⟩ := O1.du
      obtain ⟨nk, e5, e5l, e5r⟩ := O1.dn
      have losn := O1.osn
      have alen : as.length = os.length := O1.al
      have nd := O1.nd
      rw [O1.own_] at nd
      obtain ⟨⟨m1, m2, m3, m4⟩, ⟨m5, m6, m7⟩, ⟨m8, m9⟩, m10, m11, m12⟩ := nd5 nd
      refine ⟨_, rfl, _, rfl, ifF rfl ?_⟩
      refine ⟨_, rfl, p, A.C, dx1, _, _, rfl, hp1, T.clC, T.cPl, pF_placed _ _ _ _, l, _, rfl, .inl (SqL.of O1.pl), _, _, rfl, rfl, _, rfl, ifF (decide_eq_false (by rw [List.length_map]; omega)) ?_⟩
      refine ⟨_, rfl, _, rfl, _, rfl, _, rfl, _, rfl, ?_⟩
      intro x dxx nx ndx nex
      refine ⟨x, dxx, b, z, key, a, u, rfl, upd_same, fun g H3 ng oa3 keep3 => ⟨rfl, ?_⟩⟩
      have s13 : Same H1 H3 := Same.made nx ndx keep3
      have nxg : x ≠ g := ne_of_none upd_same ng
      have ng1 : H1 g = none := by
        have e : Same H1 (upd (upd H1 dxx (.own x)) x (.ins A.D dxx [])) := fun c o q => by
          rw [upd_ne (ne_of_none q nx), upd_ne (ne_of_none q ndx)]
          exact q
        exact e.free ng
      have xno : ¬ x ∈ own := fun h => O1.tracked x h nx
      have gno : ¬ g ∈ own := fun h => O1.tracked g h ng1
      refine ⟨_, rfl, p, dx1, _, rfl, s13 _ _ hp1, pF_no _ _ _ _ (by decide +kernel), _, rfl, _, rfl, p, own, n, rs, os, z, a, rfl, ⟨dR, dU, l, dN, as, gs, O1.same s13⟩, fun t q2 r H4 s34 ht ask => ?_⟩
      refine ⟨t, _, rfl, SqT.of ht, rfl, _, _, rfl, _, _, rfl, rfl, ?_⟩
      have s14 := s13.trans s34
      have oa4 := oa3.same s34
      obtain ⟨dy, h1⟩ := oa4.ins
      refine ⟨_, rfl, x, dy, _, rfl, h1, oF_no _ _ (by decide +kernel), _, rfl, _, rfl, x, g, _, q2, r, rfl, oa4, fun H5 oa5 k5 => ?_⟩
      have k15 : ∀ c o, H1 c = some o → H5 c = some o := fun c o e => k5 c o (s14 c o e) (ne_of_none e nx)
      have hp5 := k15 _ _ hp1
      have hl5 := k15 _ _ O1.pl
      refine ⟨_, rfl, p, A.C, dx1, _, _, rfl, hp5, T.clC, T.cPl, pF_placed _ _ _ _, .inl ⟨rfl, _, SqL.of hl5⟩, _, rfl, l, _, _, rfl, rfl, hl5, small1000 (by rw [List.length_map]; omega), ?_⟩
      have hp6 : (upd H5 l (.lst (as.map V.ref ++ [V.ref x]))) p = some (.ins A.C dx1 (pF dR dU l dN)) := (upd_ne m3).trans hp5
      have hN6 : (upd H5 l (.lst (as.map V.ref ++ [V.ref x]))) dN = some (.dK nk) := (upd_ne m10.symm).trans (k15 _ _ e5)
      refine ⟨_, rfl, p, A.C, dx1, _, _, rfl, hp6, T.clC, T.cPl, pF_placed _ _ _ _, l, _, rfl, .inl (SqL.of upd_same), _, rfl, p, A.C, dx1, _, _, rfl, hp6, T.clC, T.cNk, pF_keys _ _ _ _, _, rfl, dN, _, rfl, DPut.k (k := Sum.inr key) hN6 (small1000 (by omega)), ?_⟩
      generalize hH7 : (upd (upd H5 l (.lst (as.map V.ref ++ [V.ref x]))) dN (.dK (putK nk (Sum.inr key : Key) (.int ((as.map V.ref ++ [V.ref x]).length : Int))))) = H7
      have k17 : ∀ c o, H1 c = some o → c ≠ l → c ≠ dN → H7 c = some o := fun c o e n1 n2 => by
        rw [← hH7, upd_ne n2, upd_ne n1]
        exact k15 c o e
      have hp7 := k17 _ _ hp1 m3 m4
      have hl7 : H7 l = some (.lst (as.map V.ref ++ [V.ref x])) := by rw [← hH7, upd_ne m10, upd_same]
      refine ⟨_, rfl, p, A.C, dx1, _, _, rfl, hp7, T.clC, T.cPl, pF_placed _ _ _ _, l, _, rfl, .inl (SqL.of hl7), ?_⟩
      have iown : ∀ c, c ∈ own ↔ c = p ∨ c = dR ∨ c = dU ∨ c = l ∨ c = dN ∨ c ∈ as ++ gs := fun c => by rw [O1.own_]; simp
      have sf : Same (off own H1) (off (p :: dR :: dU :: l :: dN :: ((as ++ [x]) ++ (gs ++ [g]))) H7) := fun c o e => by
        obtain ⟨nc, hc⟩ := off_some e
        have nc2 := fun h => nc ((iown c).mpr h)
        have c1 : c ≠ l := fun z => nc2 (by simp [z])
        have c2 : c ≠ dN := fun z => nc2 (by simp [z])
        rw [off_out]
        · exact k17 c o hc c1 c2
        · intro h
          have c3 : c ≠ x := ne_of_none hc nx
          have c4 : c ≠ g := ne_of_none hc ng1
          simp [c3, c4] at h
          apply nc2
          simp only [List.mem_append]
          exact h
      have fresh : FreshOrd rs (required (newOrd b z a key u) q2 r) := by
        by_cases c : 0 < q2
        · have e : required (newOrd b z a key u) q2 r = { newOrd b z a key u with req := q2, role := r, state := "waiting" } := if_pos c
          rw [e]
          refine ⟨⟨q, hq⟩, rfl, .inr ?_⟩
          rcases ask with ⟨e0, _⟩ | ⟨_, e5, r', er, ir⟩
          · omega
          · exact ⟨(by show 1 ≤ q2; omega), e5, ⟨r', er, ir⟩, rfl⟩
        · have e : required (newOrd b z a key u) q2 r = newOrd b z a key u := if_neg c
          rw [e]
          exact ⟨⟨q, hq⟩, rfl, .inl ⟨rfl, rfl, rfl⟩⟩
      have okF : OrdOk rs (required (newOrd b z a key u) q2 r) := by
        have sb := (O1.rol _ _ hq).2
        by_cases c : 0 < q2
        · have e : required (newOrd b z a key u) q2 r = { newOrd b z a key u with req := q2, role := r, state := "waiting" } := if_pos c
          rw [e]
          refine ⟨?_, (by show (0 : Int) ≤ q2; omega), fun _ => c, fun w => absurd w w_not, fun w => by simp [newOrd] at w, List.nodup_nil, sb, pa.z.sok, pa.ks, (by decide +kernel : PyData.strOk ("waiting" : Str) = true), fun x hx => by simp [newOrd] at hx⟩
          rcases ask with ⟨e0, _⟩ | ⟨_, e5, r', er, ir⟩
          · omega
          · exact .inr ⟨(by show 1 ≤ q2; omega), e5, r', er, ir, fun x hx => by simp [newOrd] at hx⟩
        · have e : required (newOrd b z a key u) q2 r = newOrd b z a key u := if_neg c
          rw [e]
          exact ⟨.inl ⟨rfl, rfl, rfl, r_not⟩, Int.le_refl 0, fun w => absurd w r_not, fun _ => rfl, fun w => by simp [newOrd] at w, List.nodup_nil, sb, pa.z.sok, pa.ks, (by decide +kernel : PyData.strOk ("ready" : Str) = true), fun x hx => by simp [newOrd] at hx⟩
      have oa7 : OrdAt A.D H7 x g (required (newOrd b z a key u) q2 r) := by
        obtain ⟨dw, hw⟩ := oa5.ins
        have x1 : x ≠ l := fun z => xno ((iown x).mpr (by simp [z]))
        have x2 : x ≠ dN := fun z => xno ((iown x).mpr (by simp [z]))
        have g1 : g ≠ l := fun z => gno ((iown g).mpr (by simp [z]))
        have g2 : g ≠ dN := fun z => gno ((iown g).mpr (by simp [z]))
        exact ⟨⟨dw, by rw [← hH7, upd_ne x2, upd_ne x1]; exact hw⟩, by rw [← hH7, upd_ne g2, upd_ne g1]; exact oa5.gl⟩
      refine kk1 (p :: dR :: dU :: l :: dN :: ((as ++ [x]) ++ (gs ++ [g]))) H7 _ _ ⟨dR, dU, l, dN, as ++ [x], gs ++ [g], ?_⟩ fresh ((off_same s1).trans sf)
      obtain ⟨ndA, ndG, dis⟩ := List.nodup_append.mp m12
      have xas : ¬ x ∈ as ++ gs := fun h => xno ((iown x).mpr (by simp only [h, or_true]))
      have gas : ¬ g ∈ as ++ gs := fun h => gno ((iown g).mpr (by simp only [h, or_true]))
      have xas1 : ¬ x ∈ as := fun h => xas (List.mem_append_left _ h)
      have xas2 : ¬ x ∈ gs := fun h => xas (List.mem_append_right _ h)
      have gas1 : ¬ g ∈ as := fun h => gas (List.mem_append_left _ h)
      have gas2 : ¬ g ∈ gs := fun h => gas (List.mem_append_right _ h)
      refine ⟨rfl, ⟨dx1, hp7⟩, k17 _ _ O1.dr m6 m7, ⟨rk, k17 _ _ e3 m8 m9, Nat.le_succ_of_le e3l, fun c v e => (e3r c v e).same sf⟩,
        ⟨_, by rw [← hH7, upd_same], Nat.le_trans (length_putK _ _ _) (Nat.succ_le_succ e5l), fun c v e => ?_⟩, by rw [hl7, List.map_append]; rfl, by simp [alen], by simp [O1.gll], by rw [List.length_append]; exact Nat.succ_le_succ losn,
        fun i o c d h1 h2 h3 => ?_, ?_, fun o ho => ?_, O1.rol, O1.rsn⟩
      · rw [valV_put] at e
        by_cases w : c = Sum.inr key
        · rw [if_pos w] at e
          cases e
          exact ⟨os.length, by rw [List.length_append, List.length_map, alen]; rfl, by simp⟩
        · rw [if_neg w] at e
          obtain ⟨j, e1, e2⟩ := e5r c v e
          exact ⟨j, e1, by rw [List.length_append]; omega⟩
      · by_cases hi : i < os.length
        · rw [List.getElem?_append_left hi] at h1
          rw [List.getElem?_append_left (by omega)] at h2
          rw [List.getElem?_append_left (by rw [O1.gll]; exact hi)] at h3
          have oa := O1.at_ i o c d h1 h2 h3
          obtain ⟨dw, hw⟩ := oa.ins
          have y1 := m11 c (List.mem_append_left _ (List.mem_of_getElem? h2))
          have y2 := m11 d (List.mem_append_right _ (List.mem_of_getElem? h3))
          exact ⟨⟨dw, k17 _ _ hw y1.2.2.2.1 y1.2.2.2.2⟩, k17 _ _ oa.gl y2.2.2.2.1 y2.2.2.2.2⟩
        · have hi2 : i = os.length := by
            have := (List.getElem?_eq_some_iff.mp h1).1
            rw [List.length_append] at this
            have e1 : ([required (newOrd b z a key u) q2 r] : List Ord).length = 1 := rfl
            omega
          subst hi2
          rw [List.getElem?_append_right (Nat.le_refl _), Nat.sub_self] at h1
          have e1 := (Option.some.inj h1).symm
          rw [List.getElem?_append_right (by omega), alen, Nat.sub_self] at h2
          have e2 := (Option.some.inj h2).symm
          rw [List.getElem?_append_right (by rw [O1.gll]; exact Nat.le_refl _), O1.gll, Nat.sub_self] at h3
          have e3 := (Option.some.inj h3).symm
          rw [e1, e2, e3]
          exact oa7
      · have n1 : ((as ++ [x]) ++ (gs ++ [g])).Nodup := by
          refine List.nodup_append.mpr ⟨nd_snoc ndA xas1, nd_snoc ndG gas2, fun c hc d hd e => ?_⟩
          subst e
          rcases List.mem_append.mp hc with hc | hc
          · rcases List.mem_append.mp hd with hd | hd
            · exact dis _ hc _ hd rfl
            · exact gas1 (List.mem_singleton.mp hd ▸ hc)
          · rcases List.mem_append.mp hd with hd | hd
            · exact xas2 (List.mem_singleton.mp hc ▸ hd)
            · exact nxg ((List.mem_singleton.mp hc).symm.trans (List.mem_singleton.mp hd))
        have all5 : ∀ c, c ∈ (as ++ [x]) ++ (gs ++ [g]) → c ≠ p ∧ c ≠ dR ∧ c ≠ dU ∧ c ≠ l ∧ c ≠ dN := fun c hc => by
          have : c ∈ as ++ gs ∨ c = x ∨ c = g := by
            simp only [List.mem_append, List.mem_singleton] at hc ⊢
            rcases hc with (h | h) | h | h
            · exact .inl (.inl h)
            · exact .inr (.inl h)
            · exact .inl (.inr h)
            · exact .inr (.inr h)
          rcases this with h | rfl | rfl
          · exact m11 c h
          · exact ⟨fun w => xno ((iown c).mpr (by simp [w])), fun w => xno ((iown c).mpr (by simp [w])), fun w => xno ((iown c).mpr (by simp [w])), fun w => xno ((iown c).mpr (by simp [w])), fun w => xno ((iown c).mpr (by simp [w]))⟩
          · exact ⟨fun w => gno ((iown c).mpr (by simp [w])), fun w => gno ((iown c).mpr (by simp [w])), fun w => gno ((iown c).mpr (by simp [w])), fun w => gno ((iown c).mpr (by simp [w])), fun w => gno ((iown c).mpr (by simp [w]))⟩
        refine List.nodup_cons.mpr ⟨fun h => ?_, List.nodup_cons.mpr ⟨fun h => ?_, List.nodup_cons.mpr ⟨fun h => ?_, List.nodup_cons.mpr ⟨fun h => ?_, List.nodup_cons.mpr ⟨fun h => ?_, n1⟩⟩⟩⟩⟩
        · simp only [List.mem_cons] at h
          rcases h with h | h | h | h | h
          · exact m1 h
          · exact m2 h
          · exact m3 h
          · exact m4 h
          · exact (all5 _ h).1 rfl
        · simp only [List.mem_cons] at h
          rcases h with h | h | h | h
          · exact m5 h
          · exact m6 h
          · exact m7 h
          · exact (all5 _ h).2.1 rfl
        · simp only [List.mem_cons] at h
          rcases h with h | h | h
          · exact m8 h
          · exact m9 h
          · exact (all5 _ h).2.2.1 rfl
        · simp only [List.mem_cons] at h
          rcases h with h | h
          · exact m10 h
          · exact (all5 _ h).2.2.2.1 rfl
        · exact (all5 _ h).2.2.2.2 rfl
      · rcases List.mem_append.mp ho with h | h
        · exact O1.ok o h
        · rw [List.mem_singleton.mp h]; exact okF
    · obtain ⟨o, ho⟩ : ∃ o, os[i]? = some o := ⟨os[i], List.getElem?_eq_getElem hi⟩
      obtain ⟨ai, ha⟩ : ∃ ai, as[i]? = some ai := ⟨as[i]'(by rw [O1.al]; exact hi), List.getElem?_eq_getElem _⟩
      obtain ⟨o2, g, ho2, hg, oa, ok, _⟩ := O1.get ha
      rw [ho] at ho2
      cases ho2
      obtain ⟨dy, h1⟩ := oa.ins
      refine ⟨_, rfl, _, rfl, ifT rfl ?_⟩
      refine ⟨_, rfl, p, A.C, dx1, _, _, rfl, hp1, T.clC, T.cPl, pF_placed _ _ _ _, _, rfl, _, _, rfl, rfl, l, _, _, _, rfl, rfl, SqL.of O1.pl, at_of (j := i) (v := V.ref ai) (by omega) (by rw [List.getElem?_map, ha]; rfl), ?_⟩
      refine ⟨_, rfl, ai, A.D, dy, _, _, rfl, h1, T.clD, T.dMk, oF_maker _ _, _, rfl, ai, A.D, dy, _, _, rfl, h1, T.clD, T.dKi, oF_kind _ _, _, rfl, ai, A.D, dy, _, _, rfl, h1, T.clD, T.dAm, oF_amount _ _, (by show 3 ≤ sizeLine; decide), fun t1 n1 => ?_⟩
      refine ⟨_, rfl, _, rfl, _, rfl, (by show 3 ≤ sizeLine; decide), fun t2 n2 => ?_⟩
      have s2 := same_upd (o := .tup [V.str o.maker, V.str o.kind, V.int o.amount]) n1
      have s3 := same_upd (o := .tup [V.str b, V.str z, V.int a]) n2
      refine ⟨_, _, .tup (SqT.of (s3 _ _ upd_same)) (.cons (.str _) (.cons (.str _) (.cons (.int _) .nil))), .tup (SqT.of upd_same) (.cons (.str _) (.cons (.str _) (.cons (.int _) .nil))), sh3 ok.sok.1 ok.sok.2.1 _, sh3 (O1.rol _ _ hq).2 pa.z.sok _, _, rfl, ifB (fun _ => ?_) (fun _ => ?_)⟩
      · exact rz eR _ ER.e (s1.trans (s2.trans s3))
      · refine ⟨_, rfl, ?_⟩
        exact kk0 _ _ (s1.trans (s2.trans s3))
end
end K51
namespace K51
open PySem L2
section
variable {P : Program} {w : World} {K : PySem.W.Frag} {mg : Str → Option Value} {base : Heap} {A : Cl}
theorem scNumbers : FnScope ["_law_cell", "_law_count_here", "_law_seed", "_law_rest", "_law_numbers_here", "_law_k", "_law_mixed"] ["_law_cell", "_law_count_here"] (defScope sNumbers) := ⟨rfl, rfl, rfl, by decide +kernel, rfl, by decide +kernel, by decide +kernel⟩
theorem ok_numbers {f : Addr} {fd : FuncData} (F : Fun K "_law_numbers" "_law_numbers" sNumbers f fd) (T : Txt K mg A) : FnOk P w K mg base CX0 1 f fd ["_law_cell", "_law_count_here"] spNumbers := by
  refine F.ok scNumbers (fun vs H Q E h => ?_) (fun cdv AA outer s H vs Q E hr h => ?_)
  · obtain ⟨c, n, rfl, _⟩ := h
    rfl
  · obtain ⟨c, n, rfl, hn, kk⟩ := h
    refine ⟨_, pss_cons (ps_set (i := 2) scNumbers.nd rfl (Or.inl rfl) (pe_op op_mul pe_int (pe_callTy call_int1 (by rfl) T.int (by decide +kernel) (pa_cons (pv 0) pa_nil))))
      (pss_cons (ps_if (pt_cmpR op_lt (pv 2) pe_int (nomark _)) (pss_one (ps_set (i := 2) scNumbers.nd rfl (Or.inl rfl) (pe_op op_sub (pe_op op_sub pe_int (pv 2)) pe_int))) pss_nil)
      (pss_cons (ps_set (i := 3) scNumbers.nd rfl (Or.inl rfl) pe_int)
      (pss_cons (ps_if (pt_cmpR op_ge (pv 2) (pe_op op_pow pe_int pe_int) (nomark _)) (pss_one (ps_set (i := 3) scNumbers.nd rfl (Or.inl rfl) (pv 2))) pss_nil)
      (pss_cons (ps_set (i := 4) scNumbers.nd rfl (Or.inl rfl) (pe_lst pa_nil))
      (pss_cons (ps_for PassesOwn.never rfl (pi_range1 rfl T.range (pa_cons (pv 1) pa_nil)) (pg_name (i := 5) scNumbers.nd rfl (Or.inl rfl))
        (pss_one (ps_if (pt_cmpR op_gt (pv 3) pe_int (nomark _))
          (pss_cons (ps_expr (pe_bm PySem.F.plainAttrs_list PySem.F.slot_list_append PySem.F.type_list_append mt_append (pv 4) (pa_cons (pe_op op_mod (pe_callTy call_int1 (by rfl) T.int (by decide +kernel) (pa_cons (pv 3) pa_nil)) pe_int) pa_nil)))
          (pss_one (ps_set (i := 3) scNumbers.nd rfl (Or.inl rfl) (pe_op op_fdivW (pv 3) pe_int))))
          (pss_cons (ps_set (i := 6) scNumbers.nd rfl (Or.inl rfl) (pe_op op_mod (pe_callTy call_int1 (by rfl) T.int (by decide +kernel) (pa_cons (pe_op op_add (pe_op op_add (pe_op op_mul (pv 2) pe_int) (pe_op op_mul (pv 5) pe_int)) pe_int) pa_nil)) pe_int))
          (pss_cons (ps_set (i := 6) scNumbers.nd rfl (Or.inl rfl) (pe_op op_mul (pe_op op_mul (pe_op op_add (pe_op op_mod (pe_callTy call_int1 (by rfl) T.int (by decide +kernel) (pa_cons (pv 6) pa_nil)) pe_int) pe_int)
              (pe_op op_add (pe_op op_add (pe_op op_fdiv (pv 6) pe_int) (pe_op op_mul pe_int (pv 5))) pe_int)) pe_int))
          (pss_one (ps_expr (pe_bm PySem.F.plainAttrs_list PySem.F.slot_list_append PySem.F.type_list_append mt_append (pv 4) (pa_cons (pe_op op_fdiv (pe_op op_mod (pe_callTy call_int1 (by rfl) T.int (by decide +kernel) (pa_cons (pv 6) pa_nil)) pe_int) pe_int) pa_nil)))))))))
      (pss_one (ps_ret (pv 4)))))))), ?_⟩
    refine ⟨_, rfl, .inl ⟨_, rfl, _, _, rfl, rfl, .inl ⟨by decide, by decide⟩, ?_⟩⟩
    refine ⟨_, rfl, _, _, rfl, rfl, _, rfl, ifB (fun _ => ?_) (fun _ => ?_)⟩
    rotate_left
    all_goals first | refine ⟨_, rfl, _, _, rfl, rfl, _, _, rfl, rfl, ?_⟩ | skip
    all_goals
      refine ⟨_, rfl, _, _, rfl, rfl, ⟨by decide, by decide, by decide⟩, _, _, rfl, rfl, _, rfl, ifB (fun _ => ?_) (fun _ => ?_)⟩
      rotate_left
      all_goals first | refine ⟨_, rfl, ?_⟩ | skip
    all_goals
      refine ⟨Nat.zero_le _, fun l nl => ?_⟩
      refine ⟨_, rfl, (n : Int), rfl, by omega, by omega, for_range (n := n) (fun i σ H' => Same H H' ∧ ∃ (seed rest : Int) (v5 v6 : Option V) (zs : List Int), σ = [some (.int c), some (.int (n : Int)), some (.int seed), some (.int rest), some (.ref l), v5, v6] ∧ H' l = some (.lst (zs.map V.int)) ∧ zs.length = i)
        ⟨same_upd nl, _, _, none, none, [], rfl, upd_same, rfl⟩ ?_ ?_⟩
      · rintro i σ H' hi ⟨sh, seed, rest, v5, v6, zs, rfl, hl, hz⟩
        have small : (zs.map V.int).length < sizeLine := small1000 (by rw [List.length_map]; omega)
        have fin : ∀ y : Int, Same H (upd H' l (.lst (zs.map V.int ++ [V.int y]))) ∧ (upd H' l (.lst (zs.map V.int ++ [V.int y]))) l = some (.lst ((zs ++ [y]).map V.int)) ∧ (zs ++ [y]).length = i + 1 := fun y => by
          refine ⟨fun b o e => ?_, by rw [upd_same, List.map_append]; rfl, by rw [List.length_append, hz]; rfl⟩
          rw [upd_ne (ne_of_none e nl)]
          exact sh b o e
        refine ⟨_, rfl, _, _, rfl, rfl, _, rfl, ifB (fun _ => ?_) (fun _ => ?_)⟩
        · refine ⟨_, rfl, .inl ⟨rfl, _, SqL.of hl⟩, _, rfl, .inl ⟨_, rfl, _, _, rfl, rfl, (by show (0 : Int) < 4000000007; decide), l, _, _, rfl, rfl, hl, small, ?_⟩⟩
          refine ⟨_, rfl, _, _, rfl, rfl, ⟨by decide, by decide +kernel⟩, ?_⟩
          obtain ⟨f1, f2, f3⟩ := fin (rest % 4000000007)
          exact ⟨f1, seed, _, _, _, _, rfl, f2, f3⟩
        · refine ⟨_, rfl, _, _, rfl, rfl, .inr ⟨by decide, by decide⟩, _, rfl, _, _, rfl, rfl, .inr ⟨by decide, by decide⟩, _, _, rfl, rfl, _, _, rfl, rfl, .inl ⟨_, rfl, _, _, rfl, rfl, (by show (0 : Int) < 2147483647; decide), ?_⟩⟩
          refine ⟨_, rfl, .inl ⟨_, rfl, _, _, rfl, rfl, (by show (0 : Int) < 46337; decide), _, _, rfl, rfl, ?_⟩⟩
          refine ⟨_, rfl, _, _, rfl, rfl, ⟨by decide, by decide⟩, _, rfl, _, _, rfl, rfl, .inl ⟨by decide, by decide⟩, _, _, rfl, rfl, _, _, rfl, rfl, _, _, rfl, rfl, ?_, _, _, rfl, rfl, .inr ⟨by decide, by decide⟩, ?_⟩
          · exact .inl ⟨by omega, by omega⟩
          · refine ⟨_, rfl, .inl ⟨rfl, _, SqL.of hl⟩, _, rfl, .inl ⟨_, rfl, _, _, rfl, rfl, (by show (0 : Int) < 2147483629; decide), _, _, rfl, rfl, ⟨by decide, by decide⟩, l, _, _, rfl, rfl, hl, small, ?_⟩⟩
            exact ⟨(fin _).1, seed, _, _, _, _, rfl, (fin _).2.1, (fin _).2.2⟩
      · rintro σ H' ⟨sh, seed, rest, v5, v6, zs, rfl, hl, hz⟩
        refine ⟨_, rfl, ?_⟩
        exact kk l zs H' sh nl hl hz
end
end K51
namespace K51
open PySem L2
def signsL : List Nat := ("abcdefghijklmnopqrstuvwxyz0123456789" : Str).cps.toList
theorem signs_at : ∀ k, k < 36 → ∃ c, signsL[k]? = some c ∧ (c ∈ lettersL ∨ c ∈ digitsL) ∧ (k < 26 → c ∈ lettersL) := by
  have h : ∀ k, k < 36 → ((signsL[k]?).any fun c => (decide (c ∈ lettersL) || decide (c ∈ digitsL)) && (decide (26 ≤ k) || decide (c ∈ lettersL))) = true := by decide +kernel
  intro k hk
  have q := h k hk
  cases e : signsL[k]? with
  | none => rw [e] at q; cases q
  | some c =>
    rw [e] at q
    have q : ((decide (c ∈ lettersL) || decide (c ∈ digitsL)) && (decide (26 ≤ k) || decide (c ∈ lettersL))) = true := q
    simp only [Bool.and_eq_true, Bool.or_eq_true, decide_eq_true_eq] at q
    exact ⟨c, rfl, q.1, fun z => q.2.resolve_left (by omega)⟩
theorem at_any {α : Type} {xs : List α} {z : Int} {j : Nat} {v : α} (e : z = (j : Int)) (h : xs[j]? = some v) : atI xs z = some v := by
  rw [e]
  exact atI_nat h
theorem app_codes (a b : Str) : (a ++ b).cps.toList = a.cps.toList ++ b.cps.toList := by
  show (a.cps ++ b.cps).toList = _
  rw [Array.toList_append]
theorem len_codes (z : Str) : z.length = z.cps.toList.length := Array.length_toList.symm
/-- a text whose first k signs are drawn -/
structure Half (z : Str) (k : Nat) : Prop where
  n : z.cps.toList.length = k
  first : ∀ c, z.cps.toList[0]? = some c → c ∈ lettersL
  every : ∀ c, c ∈ z.cps.toList → c ∈ lettersL ∨ c ∈ digitsL
section
variable {P : Program} {w : World} {K : PySem.W.Frag} {mg : Str → Option Value} {base : Heap} {A : Cl}
theorem scName : FnScope ["_law_n", "_law_size", "_law_signs", "_law_text", "_law_rest", "_law_at"] ["_law_n", "_law_size"] (defScope sName) := ⟨rfl, rfl, rfl, by decide +kernel, rfl, by decide +kernel, by decide +kernel⟩
theorem ok_name {f : Addr} {fd : FuncData} (F : Fun K "_law_name" "_law_name" sName f fd) (T : Txt K mg A) : FnOk P w K mg base CX0 1 f fd ["_law_n", "_law_size"] spName := by
  refine F.ok scName (fun vs H Q E h => ?_) (fun cdv AA outer s H vs Q E hr h => ?_)
  · obtain ⟨n, k, rfl, _⟩ := h
    rfl
  · obtain ⟨n, k, rfl, k2, k12, kk⟩ := h
    refine ⟨_, pss_cons (ps_set (i := 2) scName.nd rfl (Or.inl rfl) pe_str)
      (pss_cons (ps_set (i := 3) scName.nd rfl (Or.inl rfl) (pe_ix ix_str (pv 2) (pe_op op_mod (pe_callTy call_int1 (by rfl) T.int (by decide +kernel) (pa_cons (pv 0) pa_nil)) pe_int) (fun _ _ => rfl)))
      (pss_cons (ps_set (i := 4) scName.nd rfl (Or.inl rfl) (pe_op op_fdiv (pv 0) pe_int))
      (pss_cons (ps_for PassesOwn.never rfl (pi_range1 rfl T.range (pa_cons (pe_op op_sub (pv 1) pe_int) pa_nil)) (pg_name (i := 5) scName.nd rfl (Or.inl rfl))
        (pss_cons (ps_set (i := 3) scName.nd rfl (Or.inl rfl) (pe_op op_add_str (pv 3) (pe_ix ix_str (pv 2) (pe_op op_mod (pe_callTy call_int1 (by rfl) T.int (by decide +kernel) (pa_cons (pe_op op_add (pv 4) (pe_op op_mul pe_int (pv 5))) pa_nil)) pe_int) (fun _ _ => rfl))))
        (pss_one (ps_set (i := 4) scName.nd rfl (Or.inl rfl) (pe_op op_fdiv (pv 4) pe_int)))))
      (pss_one (ps_ret (pv 3)))))), ?_⟩
    obtain ⟨j0, e0, h0⟩ : ∃ j : Nat, n % 26 = (j : Int) ∧ j < 26 := ⟨(n % 26).toNat, by omega, by omega⟩
    obtain ⟨c0, a0, b0, d0⟩ := signs_at j0 (by omega)
    have sl : ("abcdefghijklmnopqrstuvwxyz0123456789" : Str).length ≤ sizeLine := by rw [len_codes]; exact (by decide +kernel : signsL.length ≤ sizeLine)
    refine ⟨_, rfl, _, rfl, .inl ⟨_, rfl, _, _, rfl, rfl, (by show (0 : Int) < 26; decide), _, _, c0, rfl, rfl, sl, at_any (j := j0) e0 a0, ?_⟩⟩
    refine ⟨_, rfl, _, _, rfl, rfl, ⟨by decide, by decide⟩, ?_⟩
    refine ⟨_, rfl, _, _, rfl, rfl, (k : Int) - 1, rfl, by omega, by omega, for_range (n := ((k : Int) - 1).toNat) (fun i σ H' => H' = H ∧ ∃ (z : Str) (rest : Int) (v5 : Option V), σ = [some (.int n), some (.int (k : Int)), some (.str "abcdefghijklmnopqrstuvwxyz0123456789"), some (.str z), some (.int rest), v5] ∧ Half z (i + 1))
      ⟨rfl, ⟨#[c0]⟩, _, none, rfl, rfl, fun c hc => ?_, fun c hc => ?_⟩ ?_ ?_⟩
    · have e : c0 = c := Option.some.inj hc
      rw [← e]; exact d0 h0
    · have e : c = c0 := List.mem_singleton.mp hc
      rw [e]; exact b0
    · rintro i σ H' hi ⟨rfl, z, rest, v5, rfl, hz⟩
      obtain ⟨j1, e1, h1⟩ : ∃ j : Nat, (rest + 7 * (0 + (i : Int))) % 36 = (j : Int) ∧ j < 36 := ⟨((rest + 7 * (0 + (i : Int))) % 36).toNat, by omega, by omega⟩
      obtain ⟨c1, a1, b1, d1⟩ := signs_at j1 h1
      have zl : z.length + (⟨#[c1]⟩ : Str).length ≤ sizeLine := by
        rw [len_codes, hz.n]
        show i + 1 + 1 ≤ sizeLine
        exact Nat.le_trans (by omega : i + 1 + 1 ≤ 12) (by decide)
      refine ⟨_, rfl, _, rfl, _, rfl, _, rfl, _, _, rfl, rfl, .inl ⟨by decide, by decide⟩, _, _, rfl, rfl, .inl ⟨_, rfl, _, _, rfl, rfl, (by show (0 : Int) < 36; decide), _, _, c1, rfl, rfl, sl, at_any (j := j1) e1 a1, _, _, rfl, rfl, zl, ?_⟩⟩
      refine ⟨_, rfl, _, _, rfl, rfl, ⟨by decide, by decide⟩, ?_⟩
      refine ⟨rfl, z ++ ⟨#[c1]⟩, _, _, rfl, ?_, fun c hc => ?_, fun c hc => ?_⟩
      · rw [app_codes, List.length_append, hz.n]; rfl
      · rw [app_codes, List.getElem?_append_left (by rw [hz.n]; omega)] at hc
        exact hz.first c hc
      · rw [app_codes] at hc
        rcases List.mem_append.mp hc with h | h
        · exact hz.every c h
        · rw [List.mem_singleton.mp h]; exact b1
    · rintro σ H' ⟨rfl, z, rest, v5, rfl, hz⟩
      have ek : ((k : Int) - 1).toNat + 1 = k := by omega
      have hn := hz.n
      rw [ek] at hn
      refine ⟨_, rfl, ?_⟩
      exact kk z ⟨by rw [hn]; omega, by rw [hn]; exact k12, hz.first, hz.every⟩ hn
theorem scOther : FnScope ["_law_text", "_law_n", "_law_new", "_law_second", "_law_place"] ["_law_text", "_law_n", "_law_new", "_law_second"] (defScope sOther) := ⟨rfl, rfl, rfl, by decide +kernel, rfl, by decide +kernel, by decide +kernel⟩
theorem cut_to (z : Str) (j : Nat) (h : j ≤ z.cps.toList.length) : (cutS z none (some (j : Int))).cps.toList = z.cps.toList.take j := by
  show (((z.cps.toList.drop (HT.sIx z.length 0 none)).take (HT.sIx z.length z.length (some (j : Int)) - HT.sIx z.length 0 none)).toArray).toList = _
  rw [HT.sIx_none, HT.sIx_nat, len_codes, Nat.min_eq_left h, List.drop_zero, Nat.sub_zero]
theorem cut_from (z : Str) (j : Nat) (h : j ≤ z.cps.toList.length) : (cutS z (some (j : Int)) none).cps.toList = z.cps.toList.drop j := by
  show (((z.cps.toList.drop (HT.sIx z.length 0 (some (j : Int)))).take (HT.sIx z.length z.length none - HT.sIx z.length 0 (some (j : Int)))).toArray).toList = _
  rw [HT.sIx_none, HT.sIx_nat, len_codes, Nat.min_eq_left h]
  show (z.cps.toList.drop j).take (z.cps.toList.length - j) = _
  rw [List.take_of_length_le (by rw [List.length_drop]; exact Nat.le_refl _)]
theorem ok_other {f : Addr} {fd : FuncData} (F : Fun K "_law_other" "_law_other" sOther f fd) (T : Txt K mg A) : FnOk P w K mg base CX0 1 f fd ["_law_text", "_law_n", "_law_new", "_law_second"] spOther := by
  refine F.ok scOther (fun vs H Q E h => ?_) (fun cdv AA outer s H vs Q E hr h => ?_)
  · obtain ⟨z, n, c, d, rfl, _⟩ := h
    rfl
  · obtain ⟨z, n, c, d, rfl, l1, l12, ncd, kk⟩ := h
    refine ⟨_, pss_cons (ps_set (i := 4) scOther.nd rfl (Or.inl rfl) (pe_op op_mod (pe_callTy call_int1 (by rfl) T.int (by decide +kernel) (pa_cons (pv 1) pa_nil)) (pe_callB call_len_str (by rfl) T.len PySem.boot_len (pa_cons (pv 0) pa_nil))))
      (pss_cons (ps_if (pt_cmpR op_eq (pe_ix ix_str (pv 0) (pv 4) (fun _ _ => rfl)) (pv 2) (nomark _))
        (pss_one (ps_ret (pe_op op_add_str (pe_op op_add_str (pe_slice sl_str (pv 0) po_none (po_some (pv 4))) (pv 3)) (pe_slice sl_str (pv 0) (po_some (pe_op op_add (pv 4) pe_int)) po_none)))) pss_nil)
      (pss_one (ps_ret (pe_op op_add_str (pe_op op_add_str (pe_slice sl_str (pv 0) po_none (po_some (pv 4))) (pv 2)) (pe_slice sl_str (pv 0) (po_some (pe_op op_add (pv 4) pe_int)) po_none))))), ?_⟩
    have zl : z.length = z.cps.toList.length := len_codes z
    have zs : z.length ≤ sizeLine := Nat.le_trans (by omega : z.length ≤ 12) (by decide)
    have zpos : (0 : Int) < (z.length : Int) := by omega
    obtain ⟨j, ej, hj⟩ : ∃ j : Nat, n % (z.length : Int) = (j : Int) ∧ j < z.length := by
      have h1 := Int.emod_nonneg n (by omega : (z.length : Int) ≠ 0)
      have h2 := Int.emod_lt_of_pos n zpos
      exact ⟨(n % (z.length : Int)).toNat, by omega, by omega⟩
    obtain ⟨x, hx⟩ : ∃ x, z.cps.toList[j]? = some x := ⟨z.cps.toList[j]'(by omega), List.getElem?_eq_getElem _⟩
    refine ⟨_, rfl, .inl ⟨_, rfl, _, rfl, z, rfl, zs, _, _, rfl, rfl, zpos, ?_⟩⟩
    refine ⟨_, rfl, _, rfl, z, _, x, rfl, rfl, zs, at_any (j := j) ej hx, _, rfl, rfl, _, rfl, ?_⟩
    have ej1 : n % (z.length : Int) + 1 = ((j + 1 : Nat) : Int) := by omega
    have tl : ∀ e : Nat, (cutS z none (some (n % (z.length : Int)))).length + (⟨#[e]⟩ : Str).length ≤ sizeLine := fun e => by
      rw [ej, len_codes, cut_to z j (by omega), List.length_take]
      show _ + 1 ≤ sizeLine
      exact Nat.le_trans (by omega : _ ≤ 13) (by decide)
    have tl2 : ∀ e : Nat, (cutS z none (some (n % (z.length : Int))) ++ (⟨#[e]⟩ : Str)).length + (cutS z (some (n % (z.length : Int) + 1)) none).length ≤ sizeLine := fun e => by
      rw [ej1, ej, len_codes, app_codes, cut_to z j (by omega), len_codes (cutS z (some (((j + 1 : Nat)) : Int)) none), cut_from z (j + 1) (by omega), List.length_append, List.length_take, List.length_drop]
      show _ + 1 + _ ≤ sizeLine
      exact Nat.le_trans (by omega : _ ≤ 26) (by decide)
    have val : ∀ e : Nat, (cutS z none (some (n % (z.length : Int))) ++ (⟨#[e]⟩ : Str) ++ cutS z (some (n % (z.length : Int) + 1)) none).cps.toList = z.cps.toList.set j e := fun e => by
      rw [ej1, ej, app_codes, app_codes, cut_to z j (by omega), cut_from z (j + 1) (by omega), List.set_eq_take_append_cons_drop, if_pos (by omega), List.append_assoc]
      rfl
    by_cases exc : x = c
    · refine ifT (by show decide (V.str ⟨#[x]⟩ = V.str ⟨#[c]⟩) = true; rw [exc]; exact decide_eq_true rfl) ?_
      refine ⟨_, rfl, _, rfl, _, rfl, z, rfl, zs, _, rfl, _, _, rfl, rfl, tl d, ?_⟩
      refine ⟨_, rfl, _, rfl, _, _, rfl, rfl, _, rfl, z, rfl, zs, _, _, rfl, rfl, tl2 d, ?_⟩
      exact kk _ j d (by omega) (.inr rfl) (by rw [hx, exc]; exact fun q => ncd (Option.some.inj q)) (val d)
    · refine ifF (by show decide (V.str ⟨#[x]⟩ = V.str ⟨#[c]⟩) = false; refine decide_eq_false fun q => exc ?_; injection q with q; injection q with q; injection q with q; injection q) ?_
      refine ⟨_, rfl, _, rfl, _, rfl, z, rfl, zs, _, rfl, _, _, rfl, rfl, tl c, ?_⟩
      refine ⟨_, rfl, _, rfl, _, _, rfl, rfl, _, rfl, z, rfl, zs, _, _, rfl, rfl, tl2 c, ?_⟩
      exact kk _ j c (by omega) (.inl rfl) (by rw [hx]; exact fun q => exc (Option.some.inj q)) (val c)
theorem scRank : FnScope ["_law_role"] ["_law_role"] (defScope sRank) := ⟨rfl, rfl, rfl, by decide +kernel, rfl, by decide +kernel, by decide +kernel⟩
theorem ok_rank {f : Addr} {fd : FuncData} (F : Fun K "_law_rank" "_law_rank" sRank f fd) (T : Txt K mg A) : FnOk P w K mg base CX0 1 f fd ["_law_role"] spRank := by
  refine F.ok scRank (fun vs H Q E h => ?_) (fun cdv AA outer s H vs Q E hr h => ?_)
  · obtain ⟨r, rfl, _⟩ := h
    rfl
  · obtain ⟨r, rfl, ir, kk⟩ := h
    refine ⟨_, pss_one (ps_ret (pe_bm PySem.F.plainAttrs_list PySem.F.slot_list_index PySem.F.type_list_index mt_index (pe_lst (pa_cons pe_str (pa_cons pe_str (pa_cons pe_str pa_nil)))) (pa_cons (pv 0) pa_nil))), ?_⟩
    refine ⟨(by show 3 ≤ sizeLine; decide), fun l nl => ?_⟩
    have hL := SqL.of (K := K) (upd_same (H := H) (a := l) (o := .lst [V.str "teller", V.str "officer", V.str "chief"]))
    refine ⟨.inl ⟨rfl, _, hL⟩, _, rfl, l, _, .str r, rank r, .str r, rfl, rfl, hL, rfl, rfl, ?_, beq_self_eq_true r, ?_, ?_⟩
    · rcases ir with rfl | rfl | rfl <;> decide +kernel
    · intro m z hm hz
      rcases ir with rfl | rfl | rfl
      · exact absurd hm (by rw [(by decide +kernel : rank "teller" = 0)]; omega)
      · have e : m = 0 := by rw [(by decide +kernel : rank "officer" = 1)] at hm; omega
        subst e
        cases hz
        decide +kernel
      · rw [(by decide +kernel : rank "chief" = 2)] at hm
        have e : m = 0 ∨ m = 1 := by omega
        rcases e with rfl | rfl <;> cases hz <;> decide +kernel
    · exact kk _ (same_upd nl)
end
end K51
namespace K51
open PySem L2
/-! ### a try whose body's term is told at its reading; a method called at the slots as they stand -/
section
variable {X : Cx} {x : Str} {c : Value} {body suite : List Stmt} {b0 : Stmt} {np pos pos' : Pos} {ts : Addr → Value → Option Addr → TS} {Wout : WX}
theorem try_at (hs : X.stack = X.env :: X.outer) (hf : X.env.frame = some X.env.locals) (hc : Names X x c) (tk : Takes X Wout)
    (hsu : ∀ (a : Addr) (oe : Obj) (cls : Value) (d : Option Addr) (pn : List (Addr × Obj)), PSs (X.suite a ((a, oe) :: pn)) (b0 :: suite) (ts a cls d)) :
    PS X (.Try body [.ExceptHandler (some (.Name x np)) none (b0 :: suite) pos'] [] [] pos)
      (fun D σ H => ∀ pn xe, Takes (X.tr pn xe) (wOnly X.K c ts Wout D) → PassesOwn (model X.prog X.w) X.A X.env xe → ∃ t : TS, PSs (X.tr pn xe) body t ∧ t D σ H) := by
  have base := ps_try_only (X := X) (body := body) (suite := suite) (b₀ := b0) (np := np) (pos := pos) (pos' := pos') (ts := ts) (Wout := Wout)
    (tb := fun W D σ H => ∀ pn xe, Takes (X.tr pn xe) W → PassesOwn (model X.prog X.w) X.A X.env xe → ∃ t : TS, PSs (X.tr pn xe) body t ∧ t D σ H)
    hs hf hc tk (fun W pn xe tk2 ho => ⟨fun pins s σ H D I h => by
      obtain ⟨t, ht, q⟩ := h pn xe tk2 ho
      exact ht.run pins s σ H D I q⟩) (fun a oe cls d pn _ _ => hsu a oe cls d pn)
  exact base
end
section
variable {X : Cx} {k : Nat} {f C : Addr} {fd : FuncData} {ps : List Str} {sp : Sp} {E : L2.St → XK} {m : Str} {pos apos : Pos} {o e : Expr} {es : List Expr} {to : TE} {ta : TA}
def tMethAt (C : Addr) (m : Str) (sp : Sp) (E : L2.St → XK) (to : TE) (ta : TA) : TE := fun σ H Q =>
  to σ H fun v H1 => ∃ (a dx : Addr) (fs : List (Str × V)), v = .ref a ∧ H1 a = some (.ins C dx fs) ∧ fs.lookup m = none ∧ ta σ H1 fun vs H2 => sp (v :: vs) H2 Q (E σ)
theorem pe_methAt {pl : Sem Bool} (ho : PE X o to) (cl : Cls X.K C) (hm : Meth X.K C m f) (F : FnOk X.prog X.w X.K X.mg X.base (L2.CX X.prog X.w) k f fd ps sp) (hr : Room k X.A) (hb : Binds X.K fd ps [])
    (hx : ∀ σ, PassesAt (L2.CX X.prog X.w) X σ (E σ)) (ha : PA X (e :: es) ta)
    (h1 : starEach (e :: es) X.env = (false, eval e X.env) :: starEach es X.env := by rfl) (h2 : (backTo pos (starEach es X.env)).any (·.1) = false := by rfl)
    (h3 : eval (.Call (.Attribute o m apos) (e :: es) [] pos) X.env = (do
      let recv ← eval o X.env
      standAt apos.atName
      let (g, pre) ← holding [recv] (getMethod recv m pl)
      callWith pos g pre (backTo pos (starEach (e :: es) X.env)) (backToKw pos (keywordEach [] X.env))) := by rfl) :
    PE X (.Call (.Attribute o m apos) (e :: es) [] pos) (tMethAt C m sp E to ta) := by
  constructor
  intro pins s σ H Q I h
  refine PySem.W.methodCall_KW (pl := pl) (thn (ho.run pins s σ H _ I h) fun u s1 got => ?_) h3
  obtain ⟨v, H1, I1, rv, a, dx, fs, rfl, hobj, hno, rest⟩ := got
  cases (show u = Value.ref a from rv)
  refine getmeth_ok I1 hobj cl hm hno ?_
  refine PySem.W.callWith_K (first := [.ref a]) (h₀ := X.base) I1.ok.mod.kin hm.kp (thn (ha.run pos pins s1 σ H1 _ I1 rest) fun us s2 got2 => ?_) h1 h2
  obtain ⟨vs, H2, I2, rvs, hsp⟩ := got2
  exact ⟨I2.kIn, run_fnS (us := .ref a :: us) (vs := .ref a :: vs) F hr hb (hx σ) I2 (.cons rfl rvs) hsp⟩
end

theorem eq_str {x y : Str} (h : x = y) : decide (V.str x = V.str y) = true := decide_eq_true (by rw [h])
theorem ne_str {x y : Str} (h : x ≠ y) : decide (V.str x = V.str y) = false := decide_eq_false fun z => h (V.str.inj z)
/-! ### what a call does -/
theorem CallRel.same {what b : Str} {num day : Int} {rs : List (Str × Str)} {os : List Ord} {k : Bool} (h : what ≠ "expire") : CallRel what b num day rs os k os :=
  ⟨fun i o ho => ⟨o, ho, .inl rfl, fun e => absurd e h⟩, .inl rfl⟩
theorem CallRel.act {what b : Str} {num day : Int} {rs : List (Str × Str)} {os : List Ord} {i : Nat} {o nn : Ord} (h : what ≠ "expire") (ei : num = (i : Int) + 1) (ho : os[i]? = some o) (c : Chg what b rs 0 o nn) :
    CallRel what b num day rs os true (os.set i nn) := by
  refine ⟨fun j q hq => ?_, .inl (List.length_set ..)⟩
  by_cases e : j = i
  · subst e
    rw [ho] at hq
    cases hq
    refine ⟨nn, List.getElem?_set_self (List.getElem?_eq_some_iff.mp ho).1, .inr ⟨rfl, .inr ei.symm, ?_⟩, fun z => absurd z h⟩
    rcases c with q | q | q | q | q | q
    · exact .inl q
    · exact .inr (.inl q)
    · exact .inr (.inr (.inl q))
    · exact absurd q.1 h
    · exact .inr (.inr (.inr (.inr (.inl q))))
    · exact .inr (.inr (.inr (.inr (.inr q))))
  · exact ⟨q, by rw [List.getElem?_set_ne (Ne.symm e)]; exact hq, .inl rfl, fun z => absurd z h⟩
theorem CallRel.place {b : Str} {num day : Int} {rs : List (Str × Str)} {os : List Ord} {f : Ord} (h : FreshOrd rs f) : CallRel "place" b num day rs os true (os ++ [f]) := by
  refine ⟨fun j q hq => ⟨q, by rw [List.getElem?_append_left (List.getElem?_eq_some_iff.mp hq).1]; exact hq, .inl rfl, fun z => absurd z (by decide +kernel)⟩, .inr ⟨by rw [List.length_append]; rfl, rfl, rfl, f, ?_, h⟩⟩
  rw [List.getElem?_append_right (Nat.le_refl _), Nat.sub_self]
  rfl
theorem CallRel.expire {b : Str} {num day : Int} {rs : List (Str × Str)} {os : List Ord} : CallRel "expire" b num day rs os true (os.map (expOne day)) := by
  refine ⟨fun j q hq => ⟨expOne day q, by rw [List.getElem?_map, hq]; rfl, ?_, fun _ h1 h2 => ?_⟩, .inl (List.length_map ..)⟩
  · by_cases c : Open q ∧ q.til < day
    · exact .inr ⟨rfl, .inl rfl, .inr (.inr (.inr (.inl ⟨rfl, c.1, c.2, if_pos c⟩)))⟩
    · exact .inl (if_neg c)
  · have e : expOne day q = { q with state := "expired" } := if_pos ⟨h1, h2⟩
    rw [e]

/-! ### the kinds and the keys -/
def kindL : List Str := ["pay", "fee", "loan"]
theorem nameOk_by {z : Str} (h1 : 1 ≤ z.cps.toList.length) (h2 : z.cps.toList.length ≤ 12) (h3 : (z.cps.toList[0]?).all (fun c => decide (c ∈ lettersL)) = true) (h4 : ∀ c, c ∈ z.cps.toList → c ∈ lettersL ∨ c ∈ digitsL) : NameOk z := by
  refine ⟨h1, h2, fun c hc => ?_, h4⟩
  rw [hc] at h3
  exact of_decide_eq_true h3
theorem kind_at : ∀ j, j < 3 → ∃ z, kindL[j]? = some z ∧ NameOk z := by
  intro j hj
  have h : j = 0 ∨ j = 1 ∨ j = 2 := by omega
  rcases h with rfl | rfl | rfl
  · exact ⟨"pay", rfl, nameOk_by (by decide +kernel) (by decide +kernel) (by decide +kernel) (by decide +kernel)⟩
  · exact ⟨"fee", rfl, nameOk_by (by decide +kernel) (by decide +kernel) (by decide +kernel) (by decide +kernel)⟩
  · exact ⟨"loan", rfl, nameOk_by (by decide +kernel) (by decide +kernel) (by decide +kernel) (by decide +kernel)⟩
theorem role_at : ∀ j, j < 3 → ∃ z, roleList[j]? = some z ∧ IsRole z := by
  intro j hj
  have h : j = 0 ∨ j = 1 ∨ j = 2 := by omega
  rcases h with rfl | rfl | rfl
  · exact ⟨"teller", rfl, .inl rfl⟩
  · exact ⟨"officer", rfl, .inr (.inl rfl)⟩
  · exact ⟨"chief", rfl, .inr (.inr rfl)⟩
def keyOf (n : Int) : Str := ("k" : Str) ++ (Str.ofString (toString n))
theorem key_at : ∀ j : Nat, j < 40 → ((j : Int).natAbs.log2 < 1920 ∧ ("k" : Str).length + (Str.ofString (toString (j : Int))).length ≤ 20 ∧ 1 ≤ (keyOf (j : Int)).length ∧ (keyOf (j : Int)).length ≤ 20 ∧ PyData.strOk (keyOf (j : Int)) = true) := by
  decide +kernel
end K51
namespace K51
open PySem L2
section
variable {P : Program} {w : World} {K : PySem.W.Frag} {mg : Str → Option Value} {base : Heap} {A : Cl}
/-- the methods that the law calls -/
structure Mths (P : Program) (w : World) (K : PySem.W.Frag) (mg : Str → Option Value) (base : Heap) (A : Cl) : Prop where
  setRule : ∃ f fd, Mth P w K mg base CX0 3 A.C "set_rule" ["self", "kind", "rows"] (spSetRule A) f fd
  place : ∃ f fd, Mth P w K mg base (L2.CX P w) 4 A.C "place" ["self", "by", "kind", "amount", "key", "until"] (spPlace K A) f fd
  grant : ∃ f fd, Mth P w K mg base (L2.CX P w) 3 A.C "grant" ["self", "by", "number"] (spBy K A "grant") f fd
  reject : ∃ f fd, Mth P w K mg base (L2.CX P w) 3 A.C "reject" ["self", "by", "number"] (spBy K A "reject") f fd
  withdraw : ∃ f fd, Mth P w K mg base (L2.CX P w) 2 A.C "withdraw" ["self", "by", "number"] (spBy K A "withdraw") f fd
  complete : ∃ f fd, Mth P w K mg base (L2.CX P w) 3 A.C "complete" ["self", "number"] (spNo K A "complete") f fd
  fail : ∃ f fd, Mth P w K mg base (L2.CX P w) 3 A.C "fail" ["self", "number"] (spNo K A "fail") f fd
  expire : ∃ f fd, Mth P w K mg base CX0 1 A.C "expire" ["self", "day"] (spExpire A) f fd
theorem whats_cases {what : Str} (h : what ∈ whats) : what = "rule" ∨ what = "place" ∨ what = "grant" ∨ what = "reject" ∨ what = "withdraw" ∨ what = "complete" ∨ what = "fail" ∨ what = "expire" := by
  simpa [whats] using h
theorem scCall : FnScope ["_law_orders", "_law_row", "_law_what", "_law_by", "_law_number", "_law_kind", "_law_rows", "_law_k", "_law_role"] ["_law_orders", "_law_row", "_law_what", "_law_by", "_law_number"] (defScope sCall) := ⟨rfl, rfl, rfl, by decide +kernel, rfl, by decide +kernel, by decide +kernel⟩
theorem ok_call {f : Addr} {fd : FuncData} (F : Fun K "_law_call" "_law_call" sCall f fd) (T : Txt K mg A) (M : Mths P w K mg base A) : FnOk P w K mg base CX0 5 f fd ["_law_orders", "_law_row", "_law_what", "_law_by", "_law_number"] (spCall A) := by
  obtain ⟨f1, fd1, M1⟩ := M.setRule
  obtain ⟨f2, fd2, M2⟩ := M.place
  obtain ⟨f3, fd3, M3⟩ := M.grant
  obtain ⟨f4, fd4, M4⟩ := M.reject
  obtain ⟨f5, fd5, M5⟩ := M.withdraw
  obtain ⟨f6, fd6, M6⟩ := M.complete
  obtain ⟨f7, fd7, M7⟩ := M.fail
  obtain ⟨f8, fd8, M8⟩ := M.expire
  refine F.ok scCall (fun vs H Q E h => ?_) (fun cdv AA outer s H vs Q E hr h => ?_)
  · obtain ⟨p, q, own, n, rs, os, zs, what, b, num, z7, rfl, _⟩ := h
    rfl
  · obtain ⟨p, q, own, n, rs, os, zs, what, b, num, z7, rfl, O, hn, hq, hz, hw, h7, kk⟩ := h
    refine ⟨_, pss_cons (ps_set (i := 5) scCall.nd rfl (Or.inl rfl) (pe_ix ix_tup (pe_tup (pa_cons pe_str (pa_cons pe_str (pa_cons pe_str pa_nil)))) (pe_op op_mod (pe_callTy call_int1 (by rfl) T.int (by decide +kernel) (pa_cons (pe_ix ix_list (pv 1) pe_int (fun _ _ => rfl)) pa_nil)) pe_int) (fun _ _ => rfl)))
      (pss_cons (try_at rfl rfl ⟨rfl, by decide, .inl T.mgB⟩ takes0 (fun a oe cls d pn => pss_one (ps_ret pe_bl)))
      (pss_one (ps_ret pe_bl))), ?_⟩
    have at_ : ∀ j, j < 10 → ∃ z, zs[j]? = some z := fun j hj => ⟨zs[j]'(by omega), List.getElem?_eq_getElem _⟩
    obtain ⟨z3, h3⟩ := at_ 3 (by omega)
    obtain ⟨z4, h4⟩ := at_ 4 (by omega)
    obtain ⟨z5, h5⟩ := at_ 5 (by omega)
    obtain ⟨z6, h6⟩ := at_ 6 (by omega)
    obtain ⟨z8, h8⟩ := at_ 8 (by omega)
    have row : ∀ {j : Nat} {z : Int}, zs[j]? = some z → (zs.map V.int)[j]? = some (V.int z) := fun h => by rw [List.getElem?_map, h]; rfl
    obtain ⟨j3, e3, l3⟩ : ∃ j : Nat, z3 % 3 = (j : Int) ∧ j < 3 := ⟨(z3 % 3).toNat, by omega, by omega⟩
    obtain ⟨kd, hkd, nkd⟩ := kind_at j3 l3
    refine ⟨(by show 3 ≤ sizeLine; decide), fun t0 nt0 => ?_⟩
    have s1 := same_upd (o := .tup [V.str "pay", V.str "fee", V.str "loan"]) nt0
    have hq1 := off_same s1 _ _ hq
    have O1 := O.same s1
    generalize hH1 : upd H t0 (.tup [V.str "pay", V.str "fee", V.str "loan"]) = H1 at *
    refine ⟨_, rfl, q, _, _, _, rfl, rfl, SqL.of (off_le _ _ hq1), at_of (j := 3) rfl (row h3), .inl ⟨_, rfl, _, _, rfl, rfl, (by show (0 : Int) < 3; decide), t0, _, _, .str kd, rfl, rfl, SqT.of (by rw [← hH1]; exact upd_same), at_of (j := j3) e3 ?_, ?_⟩⟩
    · have : (kindL.map V.str)[j3]? = some (V.str kd) := by rw [List.getElem?_map, hkd]; rfl
      exact this
    have rfz : ∀ (D : Ends) (H2 : Hp) (σ : L2.St), Same H1 H2 → (∀ H3, Same H1 H3 → D.rt (.bl false) H3) → Rz K A.BE H2 (WE (wOnly K (.ref A.BE) (fun _ _ _ => tRet (tC (.bl false))) (fun _ _ _ _ => False) D) σ) := fun D H2 σ s12 hD c H3 e s23 =>
      ⟨true, e, fun _ _ _ => hD H3 (s12.trans s23), fun z => Bool.noConfusion z⟩
    have refuse : what ≠ "expire" → ∀ H3, Same H1 H3 → Q (.bl false) H3 := fun h H3 s => kk own H3 os false ((O1.same s).mono (Nat.le_succ n)) ((off_same s1).trans (off_same s)) (.same h)
    intro pn xe tk ho
    refine ⟨_, pss_one (ps_if (pt_cmpR op_eq (pv 2) pe_str (nomark _))
        (pss_cons (ps_set (i := 6) scCall.nd rfl (Or.inl rfl) (pe_lst pa_nil))
        (pss_cons (ps_for ho rfl (pi_range1 rfl T.range (pa_cons (pe_op op_add pe_int (pe_op op_mod (pe_callTy call_int1 (by rfl) T.int (by decide +kernel) (pa_cons (pe_ix ix_list (pv 1) pe_int (fun _ _ => rfl)) pa_nil)) pe_int)) pa_nil)) (pg_name (i := 7) scCall.nd rfl (Or.inl rfl))
          (pss_cons (ps_set (i := 8) scCall.nd rfl (Or.inl rfl) (pe_ix ix_tup (pe_tup (pa_cons pe_str (pa_cons pe_str (pa_cons pe_str pa_nil)))) (pe_op op_mod (pe_callTy call_int1 (by rfl) T.int (by decide +kernel) (pa_cons (pe_ix ix_list (pv 1) (pe_op op_add pe_int (pv 7)) (fun _ _ => rfl)) pa_nil)) pe_int) (fun _ _ => rfl)))
          (pss_one (ps_expr (pe_bm PySem.F.plainAttrs_list PySem.F.slot_list_append PySem.F.type_list_append mt_append (pv 6) (pa_cons (pe_tup
            (pa_cons (pe_op op_mul (pv 7) (pe_op op_add pe_int (pe_op op_mod (pe_callTy call_int1 (by rfl) T.int (by decide +kernel) (pa_cons (pe_ix ix_list (pv 1) pe_int (fun _ _ => rfl)) pa_nil)) pe_int)))
            (pa_cons (pe_op op_mod (pe_callTy call_int1 (by rfl) T.int (by decide +kernel) (pa_cons (pe_op op_fdiv (pe_ix ix_list (pv 1) pe_int (fun _ _ => rfl)) (pe_op op_add pe_int (pe_op op_mul pe_int (pv 7)))) pa_nil)) pe_int)
            (pa_cons (pv 8) pa_nil)))) pa_nil))))))
        (pss_one (ps_expr (pe_meth (pv 0) T.clC M1.m M1.ok (hr.mono (by decide)) M1.b .nil pass0 (pa_cons (pv 5) (pa_cons (pv 6) pa_nil)))))))
      (pss_one (ps_if (pt_cmpR op_eq (pv 2) pe_str (nomark _))
        (pss_one (ps_expr (pe_methAt (pv 0) T.clC M2.m M2.ok hr M2.b (fun σ => passAt tk σ) (pa_cons (pv 3) (pa_cons (pv 5) (pa_cons (pe_op op_add pe_int (pe_op op_mod (pe_callTy call_int1 (by rfl) T.int (by decide +kernel) (pa_cons (pe_ix ix_list (pv 1) pe_int (fun _ _ => rfl)) pa_nil)) pe_int))
          (pa_cons (pe_op op_add_str pe_str (pe_callTy call_str_int (by rfl) T.str (by decide +kernel) (pa_cons (pe_op op_mod (pe_callTy call_int1 (by rfl) T.int (by decide +kernel) (pa_cons (pe_ix ix_list (pv 1) pe_int (fun _ _ => rfl)) pa_nil)) pe_int) pa_nil)))
          (pa_cons (pe_op op_mod (pe_callTy call_int1 (by rfl) T.int (by decide +kernel) (pa_cons (pe_ix ix_list (pv 1) pe_int (fun _ _ => rfl)) pa_nil)) pe_int) pa_nil))))))))
      (pss_one (ps_if (pt_cmpR op_eq (pv 2) pe_str (nomark _))
        (pss_one (ps_expr (pe_methAt (pv 0) T.clC M3.m M3.ok (hr.mono (by decide)) M3.b (fun σ => passAt tk σ) (pa_cons (pv 3) (pa_cons (pv 4) pa_nil)))))
      (pss_one (ps_if (pt_cmpR op_eq (pv 2) pe_str (nomark _))
        (pss_one (ps_expr (pe_methAt (pv 0) T.clC M4.m M4.ok (hr.mono (by decide)) M4.b (fun σ => passAt tk σ) (pa_cons (pv 3) (pa_cons (pv 4) pa_nil)))))
      (pss_one (ps_if (pt_cmpR op_eq (pv 2) pe_str (nomark _))
        (pss_one (ps_expr (pe_methAt (pv 0) T.clC M5.m M5.ok (hr.mono (by decide)) M5.b (fun σ => passAt tk σ) (pa_cons (pv 3) (pa_cons (pv 4) pa_nil)))))
      (pss_one (ps_if (pt_cmpR op_eq (pv 2) pe_str (nomark _))
        (pss_one (ps_expr (pe_methAt (pv 0) T.clC M6.m M6.ok (hr.mono (by decide)) M6.b (fun σ => passAt tk σ) (pa_cons (pv 4) pa_nil))))
      (pss_one (ps_if (pt_cmpR op_eq (pv 2) pe_str (nomark _))
        (pss_one (ps_expr (pe_methAt (pv 0) T.clC M7.m M7.ok (hr.mono (by decide)) M7.b (fun σ => passAt tk σ) (pa_cons (pv 4) pa_nil))))
        (pss_one (ps_expr (pe_meth (pv 0) T.clC M8.m M8.ok (hr.mono (by decide)) M8.b .nil pass0 (pa_cons (pe_op op_mod (pe_callTy call_int1 (by rfl) T.int (by decide +kernel) (pa_cons (pe_ix ix_list (pv 1) pe_int (fun _ _ => rfl)) pa_nil)) pe_int) pa_nil))))))))))))))))), ?_⟩
    obtain ⟨dxp, xR, xU, xl, xN, hp1⟩ : ∃ dx dR dU l dN, H1 p = some (.ins A.C dx (pF dR dU l dN)) := by
      obtain ⟨dR, dU, l, dN, as, gs, O⟩ := O1
      obtain ⟨dx, hp⟩ := O.ob
      exact ⟨dx, dR, dU, l, dN, hp⟩
    have hq1' := off_le _ _ hq1
    have hn3 : n ≤ 300 := by omega
    rcases whats_cases hw with rfl | rfl | rfl | rfl | rfl | rfl | rfl | rfl
    · refine ⟨_, rfl, rfl, _, rfl, ifT (eq_str rfl) ?_⟩
      refine ⟨Nat.zero_le _, fun l nl => ?_⟩
      have s2 : Same H1 (upd H1 l (.lst [])) := same_upd nl
      have lno : ¬ l ∈ own := fun h => O1.tracked l h nl
      have m0 : 1 ≤ 1 + z4 % 3 ∧ 1 + z4 % 3 ≤ 3 := by omega
      refine ⟨_, rfl, q, _, _, _, rfl, rfl, SqL.of (s2 _ _ hq1'), at_of (j := 4) rfl (row h4), .inl ⟨_, rfl, _, _, rfl, rfl, (by show (0 : Int) < 3; decide), _, _, rfl, rfl, ?_⟩⟩
      refine ⟨1 + z4 % 3, rfl, by omega, by omega, ?_⟩
      obtain ⟨m, em⟩ : ∃ m : Nat, (1 + z4 % 3).toNat = m := ⟨_, rfl⟩
      rw [em]
      refine for_range (n := m) (fun i σ H' => Same H1 H' ∧ ∃ (rows : List V) (v7 v8 : Option V), σ = [some (.ref p), some (.ref q), some (.str "rule"), some (.str b), some (.int num), some (.str kd), some (.ref l), v7, v8] ∧
          off own H' l = some (.lst rows) ∧ rows.length = i ∧ RowsGood (off own H') (1 + z4 % 700) rows)
        ⟨s2, [], none, none, rfl, by rw [off_out lno, upd_same], rfl, fun i r e => by simp at e⟩ ?_ ?_
      · rintro i σ H2 hi ⟨s12, rows, v7, v8, rfl, hl2, hlen, good⟩
        have hi3 : i < 3 := by omega
        obtain ⟨zi, hzi⟩ := at_ (5 + i) (by omega)
        obtain ⟨jr, er, lr⟩ : ∃ j : Nat, zi % 3 = (j : Int) ∧ j < 3 := ⟨(zi % 3).toNat, by omega, by omega⟩
        obtain ⟨ro, hro, iro⟩ := role_at jr lr
        refine ⟨(by show 3 ≤ sizeLine; decide), fun t2 nt2 => ?_⟩
        have s23 := same_upd (o := .tup [V.str "teller", V.str "officer", V.str "chief"]) nt2
        have s13 := s12.trans s23
        refine ⟨_, rfl, _, rfl, _, _, rfl, rfl, q, _, _, _, rfl, rfl, SqL.of (s13 _ _ hq1'), at_of (j := 5 + i) (by omega) (row hzi), .inl ⟨_, rfl, _, _, rfl, rfl, (by show (0 : Int) < 3; decide), t2, _, _, .str ro, rfl, rfl, SqT.of upd_same, at_of (j := jr) er ?_, ?_⟩⟩
        · have : (roleList.map V.str)[jr]? = some (V.str ro) := by rw [List.getElem?_map, hro]; rfl
          exact this
        have hl3 := off_same (own := own) s23 _ _ hl2
        have good3 := good.same (off_same (own := own) s23)
        generalize hH3 : upd H2 t2 (.tup [V.str "teller", V.str "officer", V.str "chief"]) = H3 at *
        refine ⟨_, rfl, .inl ⟨rfl, _, SqL.of (off_le _ _ hl3)⟩, ?_⟩
        refine ⟨_, rfl, _, rfl, q, _, _, _, rfl, rfl, SqL.of (s13 _ _ hq1'), at_of (j := 4) rfl (row h4), .inl ⟨_, rfl, _, _, rfl, rfl, (by show (0 : Int) < 700; decide), _, _, rfl, rfl, _, _, rfl, rfl, .inl ⟨by omega, by omega⟩, ?_⟩⟩
        refine ⟨_, rfl, q, _, _, _, rfl, rfl, SqL.of (s13 _ _ hq1'), at_of (j := 8) rfl (row h8), _, rfl, _, _, rfl, rfl, .inl ⟨by decide, by decide⟩, _, _, rfl, rfl, _, _, rfl, rfl, ⟨by omega, by omega⟩, .inl ⟨_, rfl, _, _, rfl, rfl, (by show (0 : Int) < 6; decide), ?_⟩⟩
        refine ⟨_, rfl, (by show 3 ≤ sizeLine; decide), fun t3 nt3 => ?_⟩
        have e0 : (0 + (i : Int)) * (1 + z4 % 700) = (i : Int) * (1 + z4 % 700) := by rw [Int.zero_add]
        have s34 := same_upd (o := .tup [V.int ((0 + (i : Int)) * (1 + z4 % 700)), V.int (z8 / (1 + 5 * (0 + (i : Int))) % 6), V.str ro]) nt3
        have hl4 := off_same (own := own) s34 _ _ hl3
        have good4 := good3.same (off_same (own := own) s34)
        have tno : ¬ t3 ∈ own := fun h => (O1.same s13).tracked t3 h nt3
        refine ⟨l, rows, _, rfl, rfl, off_le _ _ hl4, small1000 (by omega), ?_⟩
        have keep : ∀ (t : Addr) (us : List V), off own (upd H3 t3 (.tup [V.int ((0 + (i : Int)) * (1 + z4 % 700)), V.int (z8 / (1 + 5 * (0 + (i : Int))) % 6), V.str ro])) t = some (.tup us) →
            off own (upd (upd H3 t3 (.tup [V.int ((0 + (i : Int)) * (1 + z4 % 700)), V.int (z8 / (1 + 5 * (0 + (i : Int))) % 6), V.str ro])) l (.lst (rows ++ [V.ref t3]))) t = some (.tup us) := fun t us e => by
          obtain ⟨n1, e1⟩ := off_some e
          rw [off_out n1, upd_ne (ne_of e1 (off_le _ _ hl4) (by intro z; cases z))]
          exact e1
        refine ⟨fun c o e => ?_, rows ++ [V.ref t3], _, _, rfl, by rw [off_out lno, upd_same], by rw [List.length_append, hlen]; rfl, fun j r e => ?_⟩
        · rw [upd_ne (ne_of_none e nl)]
          exact (s13.trans s34) c o e
        · by_cases hj : j < rows.length
          · rw [List.getElem?_append_left hj] at e
            obtain ⟨t, gr, role, e1, e2, g⟩ := good4 j r e
            exact ⟨t, gr, role, e1, keep _ _ e2, g⟩
          · have hj2 : j = rows.length := by
              have := (List.getElem?_eq_some_iff.mp e).1
              rw [List.length_append] at this
              have e1 : ([V.ref t3] : List V).length = 1 := rfl
              omega
            subst hj2
            rw [List.getElem?_append_right (Nat.le_refl _), Nat.sub_self] at e
            have e1 := (Option.some.inj e).symm
            refine ⟨t3, z8 / (1 + 5 * (0 + (i : Int))) % 6, ro, e1, keep _ _ ?_, by omega, by omega, iro⟩
            rw [off_out tno, upd_same, e0, hlen]
      · rintro σ H2 ⟨s12, rows, v7, v8, rfl, hl2, hlen, good⟩
        refine ⟨_, rfl, p, dxp, _, rfl, s12 _ _ hp1, pF_no _ _ _ _ (by decide +kernel), _, rfl, _, rfl, p, own, n, rs, os, kd, l, rows, 1 + z4 % 700, rfl, O1.same s12, nkd, hn, hl2, by omega, by omega, by omega, by omega, good, fun H' O' so' => ?_⟩
        exact kk own H' os true O' ((off_same s1).trans ((off_same s12).trans so')) (.same (by decide +kernel))
    · refine ⟨_, rfl, rfl, _, rfl, ifF (ne_str (by decide +kernel)) ?_⟩
      refine ⟨_, rfl, rfl, _, rfl, ifT (eq_str rfl) ?_⟩
      obtain ⟨j6, e6, l6⟩ : ∃ j : Nat, z6 % 40 = (j : Int) ∧ j < 40 := ⟨(z6 % 40).toNat, by omega, by omega⟩
      obtain ⟨k1, k2, k3, k4, k5⟩ := key_at j6 l6
      rw [← e6] at k1 k2 k3 k4 k5
      refine ⟨_, rfl, p, dxp, _, rfl, hp1, pF_no _ _ _ _ (by decide +kernel), _, rfl, _, rfl, _, rfl, q, _, _, _, rfl, rfl, SqL.of hq1', at_of (j := 5) rfl (row h5), .inl ⟨_, rfl, _, _, rfl, rfl, (by show (0 : Int) < 1500; decide), _, _, rfl, rfl, ?_⟩⟩
      refine ⟨_, rfl, q, _, _, _, rfl, rfl, SqL.of hq1', at_of (j := 6) rfl (row h6), .inl ⟨_, rfl, _, _, rfl, rfl, (by show (0 : Int) < 40; decide), _, rfl, k1, _, _, rfl, rfl, Nat.le_trans k2 (by decide), ?_⟩⟩
      refine ⟨_, rfl, q, _, _, _, rfl, rfl, SqL.of hq1', at_of (j := 7) rfl (row h7), .inl ⟨_, rfl, _, _, rfl, rfl, (by show (0 : Int) < 30; decide), ?_⟩⟩
      have pa : PlaceArgs kd (1 + z5 % 1500) (keyOf (z6 % 40)) (z7 % 30) := ⟨nkd, by omega, by omega, k3, k4, by omega, by omega, k5⟩
      refine ⟨p, own, n, rs, os, b, kd, keyOf (z6 % 40), 1 + z5 % 1500, z7 % 30, rfl, O1, hn, pa, rfz _ H1 _ (Same.refl H1) (refuse (by decide +kernel)), fun v H' s2 => ?_, fun own' H' fo v O' fr so' => ?_⟩
      · exact kk own H' os true ((O1.same s2).mono (Nat.le_succ n)) ((off_same s1).trans (off_same s2)) (.same (by decide +kernel))
      · exact kk own' H' _ true O' ((off_same s1).trans so') (.place fr)
    · refine ⟨_, rfl, rfl, _, rfl, ifF (ne_str (by decide +kernel)) ⟨_, rfl, rfl, _, rfl, ifF (ne_str (by decide +kernel)) ?_⟩⟩
      refine ⟨_, rfl, rfl, _, rfl, ifT (eq_str rfl) ?_⟩
      refine ⟨_, rfl, p, dxp, _, rfl, hp1, pF_no _ _ _ _ (by decide +kernel), _, rfl, _, rfl, p, own, n, rs, os, b, num, rfl, O1, hn3, rfz _ H1 _ (Same.refl H1) (refuse (by decide +kernel)), fun i o nn v H' ei ho2 chg O' so' => ?_⟩
      exact kk own H' _ true (O'.mono (Nat.le_succ n)) ((off_same s1).trans so') (.act (by decide +kernel) ei ho2 chg)
    · refine ⟨_, rfl, rfl, _, rfl, ifF (ne_str (by decide +kernel)) ⟨_, rfl, rfl, _, rfl, ifF (ne_str (by decide +kernel)) ⟨_, rfl, rfl, _, rfl, ifF (ne_str (by decide +kernel)) ?_⟩⟩⟩
      refine ⟨_, rfl, rfl, _, rfl, ifT (eq_str rfl) ?_⟩
      refine ⟨_, rfl, p, dxp, _, rfl, hp1, pF_no _ _ _ _ (by decide +kernel), _, rfl, _, rfl, p, own, n, rs, os, b, num, rfl, O1, hn3, rfz _ H1 _ (Same.refl H1) (refuse (by decide +kernel)), fun i o nn v H' ei ho2 chg O' so' => ?_⟩
      exact kk own H' _ true (O'.mono (Nat.le_succ n)) ((off_same s1).trans so') (.act (by decide +kernel) ei ho2 chg)
    · refine ⟨_, rfl, rfl, _, rfl, ifF (ne_str (by decide +kernel)) ⟨_, rfl, rfl, _, rfl, ifF (ne_str (by decide +kernel)) ⟨_, rfl, rfl, _, rfl, ifF (ne_str (by decide +kernel)) ⟨_, rfl, rfl, _, rfl, ifF (ne_str (by decide +kernel)) ?_⟩⟩⟩⟩
      refine ⟨_, rfl, rfl, _, rfl, ifT (eq_str rfl) ?_⟩
      refine ⟨_, rfl, p, dxp, _, rfl, hp1, pF_no _ _ _ _ (by decide +kernel), _, rfl, _, rfl, p, own, n, rs, os, b, num, rfl, O1, hn3, rfz _ H1 _ (Same.refl H1) (refuse (by decide +kernel)), fun i o nn v H' ei ho2 chg O' so' => ?_⟩
      exact kk own H' _ true (O'.mono (Nat.le_succ n)) ((off_same s1).trans so') (.act (by decide +kernel) ei ho2 chg)
    · refine ⟨_, rfl, rfl, _, rfl, ifF (ne_str (by decide +kernel)) ⟨_, rfl, rfl, _, rfl, ifF (ne_str (by decide +kernel)) ⟨_, rfl, rfl, _, rfl, ifF (ne_str (by decide +kernel)) ⟨_, rfl, rfl, _, rfl, ifF (ne_str (by decide +kernel)) ⟨_, rfl, rfl, _, rfl, ifF (ne_str (by decide +kernel)) ?_⟩⟩⟩⟩⟩
      refine ⟨_, rfl, rfl, _, rfl, ifT (eq_str rfl) ?_⟩
      refine ⟨_, rfl, p, dxp, _, rfl, hp1, pF_no _ _ _ _ (by decide +kernel), _, rfl, p, own, n, rs, os, b, num, rfl, O1, hn3, rfz _ H1 _ (Same.refl H1) (refuse (by decide +kernel)), fun i o nn v H' ei ho2 chg O' so' => ?_⟩
      exact kk own H' _ true (O'.mono (Nat.le_succ n)) ((off_same s1).trans so') (.act (by decide +kernel) ei ho2 chg)
    · refine ⟨_, rfl, rfl, _, rfl, ifF (ne_str (by decide +kernel)) ⟨_, rfl, rfl, _, rfl, ifF (ne_str (by decide +kernel)) ⟨_, rfl, rfl, _, rfl, ifF (ne_str (by decide +kernel)) ⟨_, rfl, rfl, _, rfl, ifF (ne_str (by decide +kernel)) ⟨_, rfl, rfl, _, rfl, ifF (ne_str (by decide +kernel)) ⟨_, rfl, rfl, _, rfl, ifF (ne_str (by decide +kernel)) ?_⟩⟩⟩⟩⟩⟩
      refine ⟨_, rfl, rfl, _, rfl, ifT (eq_str rfl) ?_⟩
      refine ⟨_, rfl, p, dxp, _, rfl, hp1, pF_no _ _ _ _ (by decide +kernel), _, rfl, p, own, n, rs, os, b, num, rfl, O1, hn3, rfz _ H1 _ (Same.refl H1) (refuse (by decide +kernel)), fun i o nn v H' ei ho2 chg O' so' => ?_⟩
      exact kk own H' _ true (O'.mono (Nat.le_succ n)) ((off_same s1).trans so') (.act (by decide +kernel) ei ho2 chg)
    · refine ⟨_, rfl, rfl, _, rfl, ifF (ne_str (by decide +kernel)) ⟨_, rfl, rfl, _, rfl, ifF (ne_str (by decide +kernel)) ⟨_, rfl, rfl, _, rfl, ifF (ne_str (by decide +kernel)) ⟨_, rfl, rfl, _, rfl, ifF (ne_str (by decide +kernel)) ⟨_, rfl, rfl, _, rfl, ifF (ne_str (by decide +kernel)) ⟨_, rfl, rfl, _, rfl, ifF (ne_str (by decide +kernel)) ⟨_, rfl, rfl, _, rfl, ifF (ne_str (by decide +kernel)) ?_⟩⟩⟩⟩⟩⟩⟩
      refine ⟨_, rfl, p, dxp, _, rfl, hp1, pF_no _ _ _ _ (by decide +kernel), _, rfl, q, _, _, _, rfl, rfl, SqL.of hq1', at_of (j := 7) rfl (row h7), .inl ⟨_, rfl, _, _, rfl, rfl, (by show (0 : Int) < 33; decide), p, own, n, rs, os, z7 % 33, rfl, O1, hn3, fun v H' O' so' => ?_⟩⟩
      exact kk own H' _ true (O'.mono (Nat.le_succ n)) ((off_same s1).trans so') .expire
end
end K51
namespace K51
open PySem L2
def viewHp (H2 : Hp) (o : Ord) (fa g v : Addr) : Hp := upd (upd (upd H2 fa (.tup (factsV o))) g (.lst (o.grants.map V.str))) v (.tup [.ref fa, .ref g, .str o.state])
section
variable {P : Program} {w : World} {K : PySem.W.Frag} {mg : Str → Option Value} {base : Heap} {A : Cl}
theorem scView : FnScope ["_law_orders", "_law_count_here", "_law_views", "_law_k", "_law_by", "_law_kind", "_law_amount", "_law_key", "_law_until", "_law_required", "_law_role", "_law_grants", "_law_state"] ["_law_orders", "_law_count_here"] (defScope sView) := ⟨rfl, rfl, rfl, by decide +kernel, rfl, by decide +kernel, by decide +kernel⟩
theorem ok_view {f f1 : Addr} {fd fd1 : FuncData} (F : Fun K "_law_view" "_law_view" sView f fd) (T : Txt K mg A) (M : Mth P w K mg base (L2.CX P w) 2 A.C "order" ["self", "number"] (spOrder K A) f1 fd1) :
    FnOk P w K mg base CX0 3 f fd ["_law_orders", "_law_count_here"] (spView A) := by
  refine F.ok scView (fun vs H Q E h => ?_) (fun cdv AA outer s H vs Q E hr h => ?_)
  · obtain ⟨p, own, n, rs, os, rfl, _⟩ := h
    rfl
  · obtain ⟨p, own, n, rs, os, rfl, O, hn, kk⟩ := h
    obtain ⟨dxp, xR, xU, xl, xN, hp, losn⟩ : ∃ dx dR dU l dN, H p = some (.ins A.C dx (pF dR dU l dN)) ∧ os.length ≤ n := by
      obtain ⟨dR, dU, l, dN, as, gs, O⟩ := O
      obtain ⟨dx, hp⟩ := O.ob
      exact ⟨dx, dR, dU, l, dN, hp, O.osn⟩
    refine ⟨_, pss_cons (ps_set (i := 2) scView.nd rfl (Or.inl rfl) (pe_lst pa_nil))
      (pss_cons (ps_for PassesOwn.never rfl (pi_range1 rfl T.range (pa_cons (pv 1) pa_nil)) (pg_name (i := 3) scView.nd rfl (Or.inl rfl))
        (pss_cons (ps_asg (pe_meth (pv 0) T.clC M.m M.ok hr M.b .nil passL (pa_cons (pe_op op_add (pv 3) pe_int) pa_nil))
          (pg_tup rfl (pgs_cons (pg_name (i := 4) scView.nd rfl (Or.inl rfl)) (pgs_cons (pg_name (i := 5) scView.nd rfl (Or.inl rfl)) (pgs_cons (pg_name (i := 6) scView.nd rfl (Or.inl rfl)) (pgs_cons (pg_name (i := 7) scView.nd rfl (Or.inl rfl))
            (pgs_cons (pg_name (i := 8) scView.nd rfl (Or.inl rfl)) (pgs_cons (pg_name (i := 9) scView.nd rfl (Or.inl rfl)) (pgs_cons (pg_name (i := 10) scView.nd rfl (Or.inl rfl)) (pgs_cons (pg_name (i := 11) scView.nd rfl (Or.inl rfl)) (pgs_cons (pg_name (i := 12) scView.nd rfl (Or.inl rfl)) pgs_nil)))))))))))
        (pss_one (ps_expr (pe_bm PySem.F.plainAttrs_list PySem.F.slot_list_append PySem.F.type_list_append mt_append (pv 2) (pa_cons (pe_tup
          (pa_cons (pe_tup (pa_cons (pv 4) (pa_cons (pv 5) (pa_cons (pv 6) (pa_cons (pv 7) (pa_cons (pv 8) (pa_cons (pv 9) (pa_cons (pv 10) pa_nil))))))))
          (pa_cons (pe_callTy call_list_of (by rfl) T.list (by decide +kernel) (pa_cons (pv 11) pa_nil)) (pa_cons (pv 12) pa_nil)))) pa_nil))))))
      (pss_one (ps_ret (pv 2)))), ?_⟩
    refine ⟨Nat.zero_le _, fun l nl => ?_⟩
    refine ⟨_, rfl, (os.length : Int), rfl, by omega, by omega, for_range (n := os.length) (fun i σ H' => Same H H' ∧ ∃ (ws : List Addr) (v3 v4 v5 v6 v7 v8 v9 v10 v11 v12 : Option V),
        σ = [some (.ref p), some (.int (os.length : Int)), some (.ref l), v3, v4, v5, v6, v7, v8, v9, v10, v11, v12] ∧ H' l = some (.lst (ws.map V.ref)) ∧ ws.length = i ∧
        ∀ (j : Nat) (v : Addr) (o : Ord), ws[j]? = some v → os[j]? = some o → VAt (off [l] (nw H H')) v o)
      ⟨same_upd nl, [], none, none, none, none, none, none, none, none, none, none, rfl, upd_same, rfl, fun j v o e => by simp at e⟩ ?_ ?_⟩
    · rintro i σ H1 hi ⟨s1, ws, v3, v4, v5, v6, v7, v8, v9, v10, v11, v12, rfl, hl1, hlen, hv⟩
      obtain ⟨o, ho⟩ : ∃ o, os[i]? = some o := ⟨os[i], List.getElem?_eq_getElem hi⟩
      refine ⟨_, rfl, p, dxp, _, rfl, s1 _ _ hp, pF_no _ _ _ _ (by decide +kernel), _, rfl, _, _, rfl, rfl, p, own, n, rs, os, 0 + (i : Int) + 1, rfl, O.same s1, hn, fun z => absurd ⟨by omega, by omega⟩ z, fun i2 o2 t g' H2 ei ho2 s12 ht hg' => ?_⟩
      have ei2 : i2 = i := by omega
      subst ei2
      rw [ho] at ho2
      cases ho2
      refine ⟨t, _, rfl, SqT.of ht, rfl, _, _, rfl, _, _, rfl, _, _, rfl, _, _, rfl, _, _, rfl, _, _, rfl, _, _, rfl, _, _, rfl, _, _, rfl, rfl, ?_⟩
      have hl2 := s12 _ _ hl1
      refine ⟨_, rfl, .inl ⟨rfl, _, SqL.of hl2⟩, _, rfl, _, rfl, _, rfl, _, rfl, _, rfl, _, rfl, _, rfl, (by show 7 ≤ sizeLine; decide), fun fa nf => ?_⟩
      have s23 : Same H2 (upd H2 fa (.tup (factsV o))) := same_upd nf
      refine ⟨_, rfl, g', _, rfl, .inl (SqL.of (s23 _ _ hg')), fun g ng => ?_⟩
      have s34 : Same (upd H2 fa (.tup (factsV o))) (upd (upd H2 fa (.tup (factsV o))) g (.lst (o.grants.map V.str))) := same_upd ng
      refine ⟨_, rfl, (by show 3 ≤ sizeLine; decide), fun v nv => ?_⟩
      have s45 : Same (upd (upd H2 fa (.tup (factsV o))) g (.lst (o.grants.map V.str))) (viewHp H2 o fa g v) := same_upd nv
      have s15 := s12.trans (s23.trans (s34.trans s45))
      have hl5 := s15 _ _ hl1
      have nfl : fa ≠ l := (ne_of_none hl2 nf).symm
      have ngl : g ≠ l := (ne_of_none (s23 _ _ hl2) ng).symm
      have nvl : v ≠ l := (ne_of_none (s34 _ _ (s23 _ _ hl2)) nv).symm
      have hf0 : H fa = none := (s1.trans s12).free nf
      have hg0 : H g = none := (s1.trans (s12.trans s23)).free ng
      have hv0 : H v = none := (s1.trans (s12.trans (s23.trans s34))).free nv
      have af : (viewHp H2 o fa g v) fa = some (.tup (factsV o)) := by
        exact s45 _ _ (s34 _ _ upd_same)
      have ag : (viewHp H2 o fa g v) g = some (.lst (o.grants.map V.str)) := by
        exact s45 _ _ upd_same
      have av : (viewHp H2 o fa g v) v = some (.tup [.ref fa, .ref g, .str o.state]) := upd_same
      have step : Same (off [l] (nw H (viewHp H2 o fa g v))) (off [l] (nw H (upd (viewHp H2 o fa g v) l (.lst (ws.map V.ref ++ [.ref v]))))) := fun c u e => by
        obtain ⟨n1, e1⟩ := off_some e
        obtain ⟨e2, e3⟩ := nw_some e1
        have ncl : c ≠ l := fun z => n1 (by simp [z])
        rw [off_out n1]
        exact nw_of e2 (by rw [upd_ne ncl]; exact e3)
      have old : Same (off [l] (nw H H1)) (off [l] (nw H (viewHp H2 o fa g v))) := off_same (nw_right s15)
      refine ⟨l, _, _, rfl, rfl, hl5, small1000 (by rw [List.length_map]; omega), ?_⟩
      refine ⟨fun c u e => ?_, ws ++ [v], _, _, _, _, _, _, _, _, _, _, rfl, by rw [upd_same, List.map_append]; rfl, by rw [List.length_append, hlen]; rfl, fun j x q e1 e2 => ?_⟩
      · rw [upd_ne (ne_of_none e nl)]
        exact (s1.trans s15) c u e
      · refine VAt.same step ?_
        by_cases hj : j < ws.length
        · rw [List.getElem?_append_left hj] at e1
          exact (hv j x q e1 e2).same old
        · have hj2 : j = ws.length := by
            have := (List.getElem?_eq_some_iff.mp e1).1
            rw [List.length_append] at this
            have e3 : ([v] : List Addr).length = 1 := rfl
            omega
          subst hj2
          rw [List.getElem?_append_right (Nat.le_refl _), Nat.sub_self] at e1
          have e3 := (Option.some.inj e1).symm
          rw [hlen, ho] at e2
          cases e2
          rw [e3]
          have out : ∀ {c : Addr} {u : HO}, c ≠ l → H c = none → (viewHp H2 o fa g v) c = some u → off [l] (nw H (viewHp H2 o fa g v)) c = some u := fun n1 e3 e4 => by
            rw [off_out (by simp [n1])]
            exact nw_of e3 e4
          exact ⟨fa, g, out nvl hv0 av, out nfl hf0 af, out ngl hg0 ag⟩
    · rintro σ H1 ⟨s1, ws, v3, v4, v5, v6, v7, v8, v9, v10, v11, v12, rfl, hl1, hlen, hv⟩
      refine ⟨_, rfl, ?_⟩
      exact kk l ws H1 s1 ⟨nw_of nl hl1, hlen, fun j v o e1 e2 => (hv j v o e1 e2).same off_le⟩
theorem scCount : FnScope ["_law_orders", "_law_count_here"] ["_law_orders", "_law_count_here"] (defScope sCount) := ⟨rfl, rfl, rfl, by decide +kernel, rfl, by decide +kernel, by decide +kernel⟩
theorem ok_count {f f1 : Addr} {fd fd1 : FuncData} (F : Fun K "_law_count" "_law_count" sCount f fd) (T : Txt K mg A) (M : Mth P w K mg base (L2.CX P w) 2 A.C "order" ["self", "number"] (spOrder K A) f1 fd1) :
    FnOk P w K mg base CX0 3 f fd ["_law_orders", "_law_count_here"] (spCount A) := by
  refine F.ok scCount (fun vs H Q E h => ?_) (fun cdv AA outer s H vs Q E hr h => ?_)
  · obtain ⟨p, own, n, rs, os, c, rfl, _⟩ := h
    rfl
  · obtain ⟨p, own, n, rs, os, c, rfl, O, hn, hc, kk⟩ := h
    obtain ⟨dxp, xR, xU, xl, xN, hp⟩ : ∃ dx dR dU l dN, H p = some (.ins A.C dx (pF dR dU l dN)) := by
      obtain ⟨dR, dU, l, dN, as, gs, O⟩ := O
      obtain ⟨dx, hp⟩ := O.ob
      exact ⟨dx, dR, dU, l, dN, hp⟩
    refine ⟨_, pss_cons (try_at (ts := fun _ _ _ => tRet (tVar 1)) rfl rfl ⟨rfl, by decide, .inl T.mgB⟩ takes0 (fun a oe cls d pn => pss_one (ps_ret (pv 1))))
      (pss_one (ps_ret (pe_op op_add (pv 1) pe_int))), ?_⟩
    intro pn xe tk ho
    refine ⟨_, pss_one (ps_expr (pe_methAt (pv 0) T.clC M.m M.ok hr M.b (fun σ => passAt tk σ) (pa_cons (pe_op op_add (pv 1) pe_int) pa_nil))), ?_⟩
    refine ⟨_, rfl, p, dxp, _, rfl, hp, pF_no _ _ _ _ (by decide +kernel), _, rfl, _, _, rfl, rfl, p, own, n, rs, os, (c : Int) + 1, rfl, O, hn, fun z e H' ee ss => ?_, fun i o t g' H' ei ho2 s1 ht hg' => ?_⟩
    · refine ⟨true, ee, fun _ _ _ => ⟨_, rfl, ?_⟩, fun q => Bool.noConfusion q⟩
      have ec : os.length = c := by
        rcases hc with h | h
        · exact h
        · exact absurd ⟨by omega, by omega⟩ z
      have q := kk H' ss
      rw [ec] at q
      exact q
    · have hi := (List.getElem?_eq_some_iff.mp ho2).1
      have ec : os.length = c + 1 := by omega
      refine ⟨_, rfl, _, _, rfl, rfl, ?_⟩
      have q := kk H' s1
      rw [ec] at q
      exact q
theorem scFresh : FnScope ["_law_view_here", "_law_roles", "_law_facts", "_law_grants", "_law_state"] ["_law_view_here", "_law_roles"] (defScope sFresh) := ⟨rfl, rfl, rfl, by decide +kernel, rfl, by decide +kernel, by decide +kernel⟩
theorem ok_fresh {f : Addr} {fd : FuncData} (F : Fun K "_law_fresh" "_law_fresh" sFresh f fd) (T : Txt K mg A) : FnOk P w K mg base CX0 1 f fd ["_law_view_here", "_law_roles"] spFresh := by
  refine F.ok scFresh (fun vs H Q E h => ?_) (fun cdv AA outer s H vs Q E hr h => ?_)
  · obtain ⟨v, dL, fo, rs, rfl, _⟩ := h
    rfl
  · obtain ⟨v, dL, fo, rs, rfl, ⟨fa, g, hv, hf, hg⟩, ⟨hd, _⟩, ⟨⟨qr, hqr⟩, fg, fsh⟩, kk⟩ := h
    have hu := hu_of hr
    refine ⟨_, pss_cons (ps_asg (pv 0) (pg_tup rfl (pgs_cons (pg_name (i := 2) scFresh.nd rfl (Or.inl rfl)) (pgs_cons (pg_name (i := 3) scFresh.nd rfl (Or.inl rfl)) (pgs_cons (pg_name (i := 4) scFresh.nd rfl (Or.inl rfl)) pgs_nil)))))
      (pss_cons (ps_if (PW.pt (pw_or (pt_cmp (pc_dnotin hu (pe_ix ix_tup (pv 2) pe_int (fun _ _ => rfl)) (pv 1))) (pw_or1 (pt_cmpR (op_neD hr.units) (pv 3) (pe_lst pa_nil) (nomark _))))) (pss_one (ps_ret pe_bl)) pss_nil)
      (pss_cons (ps_if (pt_cmpR op_eq (pe_ix ix_tup (pv 2) pe_int (fun _ _ => rfl)) pe_int (nomark _))
        (pss_one (ps_ret (pe_and (pe_cmp (pc_isN (pe_ix ix_tup (pv 2) pe_int (fun _ _ => rfl))) rfl) (pe_one (pe_cmpR op_eq (pv 4) pe_str (nomark _)))))) pss_nil)
      (pss_one (ps_ret (pe_and (pe_chain op_le op_le pe_int (pe_ix ix_tup (pv 2) pe_int (fun _ _ => rfl)) pe_int) (pe_and (pe_cmpR op_in_seq (pe_ix ix_tup (pv 2) pe_int (fun _ _ => rfl)) (pe_tup (pa_cons pe_str (pa_cons pe_str (pa_cons pe_str pa_nil)))) (by rfl))
        (pe_one (pe_cmpR op_eq (pv 4) pe_str (nomark _))))))))), ?_⟩
    refine ⟨_, rfl, v, _, rfl, SqT.of hv, rfl, _, _, rfl, _, _, rfl, _, _, rfl, rfl, ?_⟩
    have ev := valV_roles rs fo.maker
    rw [hqr] at ev
    have dg : DGet H dL (V.str fo.maker) (some (V.str qr)) := by
      have z := DGet.k (k := Sum.inr fo.maker) hd
      rw [ev] at z
      exact z
    refine ⟨_, rfl, fa, _, _, _, rfl, rfl, SqT.of hf, at_of (j := 0) (v := V.str fo.maker) rfl rfl, _, rfl, dL, _, rfl, dg, _, rfl, ifF rfl ?_⟩
    refine ⟨_, rfl, Nat.zero_le _, fun l0 nl0 => ?_⟩
    have s1 : Same H (upd H l0 (.lst [])) := same_upd nl0
    have hg1 := s1 _ _ hg
    rw [fg] at hg1
    refine ⟨.list [], .list [], .lst (SqL.of hg1) .nil, .lst (SqL.of upd_same) .nil, rfl, rfl, _, rfl, ifF rfl ?_⟩
    have hf1 := s1 _ _ hf
    refine ⟨_, rfl, fa, _, _, _, rfl, rfl, SqT.of hf1, at_of (j := 5) (v := V.int fo.req) rfl rfl, rfl, _, rfl, ?_⟩
    rcases fsh with ⟨e0, er, es⟩ | ⟨e1, e5, ⟨r, er, ir⟩, es⟩
    · refine ifT (by show decide (V.int fo.req = V.int 0) = true; rw [e0]; exact decide_eq_true rfl) ?_
      refine ⟨_, rfl, fa, _, _, _, rfl, rfl, SqT.of hf1, at_of (j := 6) (v := roleV fo.role) rfl rfl, _, rfl, ?_⟩
      refine ifT (by show decide (roleV fo.role = V.non) = true; rw [er]; exact decide_eq_true rfl) ?_
      refine ⟨_, rfl, rfl, ?_⟩
      show Q (.bl (decide (V.str fo.state = V.str "ready"))) _
      rw [es, eq_str rfl]
      exact kk _ s1
    · refine ifF (by show decide (V.int fo.req = V.int 0) = false; exact decide_eq_false fun z => by have := V.int.inj z; omega) ?_
      refine ⟨_, rfl, fa, _, _, _, rfl, rfl, SqT.of hf1, at_of (j := 5) (v := V.int fo.req) rfl rfl, _, _, rfl, rfl, _, rfl, ?_⟩
      refine ifT (decide_eq_true e1) ⟨_, _, rfl, rfl, _, rfl, ?_⟩
      refine ifT (decide_eq_true e5) ?_
      refine ⟨_, rfl, fa, _, _, _, rfl, rfl, SqT.of hf1, at_of (j := 6) (v := V.str r) rfl (by show some (roleV fo.role) = _; rw [er]; rfl), (by show 3 ≤ sizeLine; decide), fun t nt => ?_⟩
      have s2 := s1.trans (same_upd (o := .tup [V.str "teller", V.str "officer", V.str "chief"]) nt)
      refine ⟨t, _, rfl, .inr (SqT.of upd_same), rfl, rfl, _, rfl, ?_⟩
      refine ifT (by show inV (V.str r) (roleList.map V.str) = true; rcases ir with rfl | rfl | rfl <;> decide +kernel) ?_
      refine ⟨_, rfl, rfl, ?_⟩
      show Q (.bl (decide (V.str fo.state = V.str "waiting"))) _
      rw [es, eq_str rfl]
      exact kk _ s2
end
end K51
namespace K51
open PySem L2
/-! ### views as data -/
def rD : Option Str → PyData
  | none => .none
  | some r => .str r
def fD (o : Ord) : PyData := .tuple [.str o.maker, .str o.kind, .int o.amount, .str o.key, .int o.til, .int o.req, rD o.role]
def gD (l : List Str) : PyData := .list (l.map PyData.str)
def vD (o : Ord) : PyData := .tuple [fD o, gD o.grants, .str o.state]
theorem dp_strs {K : PySem.W.Frag} {H : Hp} : ∀ l : List Str, DpAll K H (l.map V.str) (l.map PyData.str)
  | [] => .nil
  | x :: l => .cons (.str x) (dp_strs l)
theorem dp_role {K : PySem.W.Frag} {H : Hp} (r : Option Str) : Dp K H (roleV r) (rD r) := by
  cases r with
  | none => exact .non
  | some x => exact .str x
theorem dp_facts {K : PySem.W.Frag} {H : Hp} {f : Addr} {o : Ord} (h : H f = some (.tup (factsV o))) : Dp K H (.ref f) (fD o) :=
  .tup (SqT.of h) (.cons (.str _) (.cons (.str _) (.cons (.int _) (.cons (.str _) (.cons (.int _) (.cons (.int _) (.cons (dp_role _) .nil)))))))
theorem dp_list {K : PySem.W.Frag} {H : Hp} {g : Addr} {l : List Str} (h : H g = some (.lst (l.map V.str))) : Dp K H (.ref g) (gD l) := .lst (SqL.of h) (dp_strs l)
theorem dp_view {K : PySem.W.Frag} {H : Hp} {v : Addr} {o : Ord} (h : VAt H v o) : Dp K H (.ref v) (vD o) := by
  obtain ⟨f, g, a, b, c⟩ := h.ex
  exact .tup (SqT.of a) (.cons (dp_facts b) (.cons (dp_list c) (.cons (.str _) .nil)))
theorem lay_strs : ∀ l : List Str, (∀ x ∈ l, SOk x) → PyData.canLayAll0 (l.map PyData.str) = true
  | [], _ => by simp [PyData.canLayAll0]
  | x :: l, h => by
    have h1 : PyData.strOk x = true := h x (List.mem_cons_self ..)
    have h2 := lay_strs l fun y hy => h y (List.mem_cons_of_mem _ hy)
    simp [PyData.canLayAll0, PyData.canLay0, h1, h2]
theorem depth_strs : ∀ l : List Str, PyData.depthAll (l.map PyData.str) = 0
  | [] => by simp [PyData.depthAll]
  | x :: l => by simp [PyData.depthAll, PyData.depth, depth_strs l]
theorem OrdOk.roleOk {rs : List (Str × Str)} {o : Ord} (h : OrdOk rs o) : (rD o.role).canLay0 = true ∧ (rD o.role).depth = 0 := by
  rcases h.shape with ⟨_, e, _⟩ | ⟨_, _, r, e, ir, _⟩
  · rw [e]; exact ⟨by simp [rD, PyData.canLay0], by simp [rD, PyData.depth]⟩
  · rw [e]
    have hr : PyData.strOk r = true := by rcases ir with rfl | rfl | rfl <;> decide +kernel
    exact ⟨by simp [rD, PyData.canLay0, hr], by simp [rD, PyData.depth]⟩
theorem gD_lay {l : List Str} (h : ∀ x ∈ l, SOk x) : (gD l).canLay0 = true ∧ (gD l).depth = 1 := by
  unfold gD
  exact ⟨by simp [PyData.canLay0, lay_strs l h], by simp [PyData.depth, depth_strs]⟩
theorem fD_lay {rs : List (Str × Str)} {o : Ord} (h : OrdOk rs o) : (fD o).canLay0 = true ∧ (fD o).depth = 1 := by
  obtain ⟨h1, h2, h3, h4, h5⟩ := h.sok
  have h1 : PyData.strOk o.maker = true := h1
  have h2 : PyData.strOk o.kind = true := h2
  have h3 : PyData.strOk o.key = true := h3
  obtain ⟨r1, r2⟩ := h.roleOk
  unfold fD
  exact ⟨by simp [PyData.canLay0, PyData.canLayAll0, h1, h2, h3, r1], by simp [PyData.depth, PyData.depthAll, r2]⟩
theorem vD_lay {rs : List (Str × Str)} {o : Ord} (h : OrdOk rs o) : (vD o).canLay0 = true ∧ (vD o).depth = 2 := by
  obtain ⟨a1, a2⟩ := fD_lay h
  obtain ⟨b1, b2⟩ := gD_lay h.sok.2.2.2.2
  have h4 : PyData.strOk o.state = true := h.sok.2.2.2.1
  unfold vD
  exact ⟨by simp [PyData.canLay0, PyData.canLayAll0, a1, b1, h4], by simp [PyData.depth, PyData.depthAll, a2, b2]⟩
theorem sh_of {d : PyData} {k : Nat} (h : d.canLay0 = true ∧ d.depth = k) (hk : k ≤ 64 := by decide) : SeqAt.shaped d = true := by
  show (d.canLay0 && decide (d.depth ≤ 64)) = true
  rw [h.1, h.2, decide_eq_true hk]
  rfl
theorem refl_of {d : PyData} {k : Nat} (h : d.canLay0 = true ∧ d.depth = k) : PyData.eqv d d = true := SeqAt.eqv_refl d h.1
theorem Chg.facts {what b : Str} {rs : List (Str × Str)} {day : Int} {o n : Ord} (c : Chg what b rs day o n) : factsV n = factsV o ∧ fD n = fD o := by
  rcases c with ⟨_, _, _, _, _, rfl⟩ | ⟨_, _, _, _, rfl⟩ | ⟨_, _, _, rfl⟩ | ⟨_, _, _, rfl⟩ | ⟨_, _, rfl⟩ | ⟨_, _, rfl⟩ <;> exact ⟨rfl, rfl⟩
section
variable {P : Program} {w : World} {K : PySem.W.Frag} {mg : Str → Option Value} {base : Heap} {A : Cl}
theorem scStep : FnScope ["_law_old", "_law_new", "_law_what", "_law_by", "_law_roles", "_law_day", "_law_facts"] ["_law_old", "_law_new", "_law_what", "_law_by", "_law_roles", "_law_day"] (defScope sStep) := ⟨rfl, rfl, rfl, by decide +kernel, rfl, by decide +kernel, by decide +kernel⟩
theorem ok_step {f f1 : Addr} {fd fd1 : FuncData} (F : Fun K "_law_step" "_law_step" sStep f fd) (T : Txt K mg A) (D1 : Dfn P w K mg base CX0 1 "_law_rank" ["_law_role"] spRank f1 fd1) :
    FnOk P w K mg base CX0 2 f fd ["_law_old", "_law_new", "_law_what", "_law_by", "_law_roles", "_law_day"] spStep := by
  refine F.ok scStep (fun vs H Q E h => ?_) (fun cdv AA outer s H vs Q E hr h => ?_)
  · obtain ⟨v1, v2, dL, o, n, rs, what, b, day, rfl, _⟩ := h
    rfl
  · obtain ⟨v1, v2, dL, o, n, rs, what, b, day, rfl, V1, V2, R, ok, cg, kk⟩ := h
    have hu := hu_of hr
    refine ⟨_, pss_cons (ps_if (pt_cmpR (op_eqD hr.units) (pv 0) (pv 1) (nomark _)) (pss_one (ps_ret pe_bl)) pss_nil)
      (pss_cons (ps_set (i := 6) scStep.nd rfl (Or.inl rfl) (pe_ix ix_tup (pv 0) pe_int (fun _ _ => rfl)))
      (pss_cons (ps_if (pt_cmpR (op_neD hr.units) (pe_ix ix_tup (pv 1) pe_int (fun _ _ => rfl)) (pv 6) (nomark _)) (pss_one (ps_ret pe_bl)) pss_nil)
      (pss_cons (ps_if (PW.pt (pw_and (pt_cmpR op_in_seq (pv 2) (pe_tup (pa_cons pe_str (pa_cons pe_str pa_nil))) (by rfl)) (pw_and1 (PW.pt (pw_or (pt_cmpR op_ne (pe_ix ix_tup (pv 0) pe_int (fun _ _ => rfl)) pe_str (nomark _))
          (pw_or (pt_cmp (pc_dnotin hu (pv 3) (pv 4))) (pw_or1 (pt_cmpR op_eq (pv 3) (pe_ix ix_tup (pv 6) pe_int (fun _ _ => rfl)) (nomark _))))))))) (pss_one (ps_ret pe_bl)) pss_nil)
      (pss_cons (ps_if (PW.pt (pw_and (pt_cmpR op_in_seq (pv 2) (pe_tup (pa_cons pe_str (pa_cons pe_str pa_nil))) (by rfl)) (pw_and1 (pt_cmpR op_lt (pe_call D1.ok hr rfl D1.m D1.kp D1.b .nil pass0 (pa_cons (pe_dget hu (pv 4) (pv 3) (fun _ _ => rfl)) pa_nil))
          (pe_call D1.ok hr rfl D1.m D1.kp D1.b .nil pass0 (pa_cons (pe_ix ix_tup (pv 6) pe_int (fun _ _ => rfl)) pa_nil)) (nomark _))))) (pss_one (ps_ret pe_bl)) pss_nil)
      (pss_cons (ps_if (pt_cmpR op_eq (pv 2) pe_str (nomark _))
        (pss_cons (ps_if (PW.pt (pw_or (pt_cmpR op_in_seq (pv 3) (pe_ix ix_tup (pv 0) pe_int (fun _ _ => rfl)) (by rfl))
            (pw_or (pt_cmpR (op_neD hr.units) (pe_ix ix_tup (pv 1) pe_int (fun _ _ => rfl)) (pe_op op_cat (pe_ix ix_tup (pv 0) pe_int (fun _ _ => rfl)) (pe_lst (pa_cons (pv 3) pa_nil))) (nomark _))
            (pw_or1 (pt_cmpR op_gt (pe_callB call_len_seq (by rfl) T.len PySem.boot_len (pa_cons (pe_ix ix_tup (pv 1) pe_int (fun _ _ => rfl)) pa_nil)) (pe_ix ix_tup (pv 6) pe_int (fun _ _ => rfl)) (nomark _)))))) (pss_one (ps_ret pe_bl)) pss_nil)
        (pss_one (ps_ret (pe_cmpR op_eq (pe_ix ix_tup (pv 1) pe_int (fun _ _ => rfl))
            (pe_ifExp (pt_cmpR op_eq (pe_callB call_len_seq (by rfl) T.len PySem.boot_len (pa_cons (pe_ix ix_tup (pv 1) pe_int (fun _ _ => rfl)) pa_nil)) (pe_ix ix_tup (pv 6) pe_int (fun _ _ => rfl)) (nomark _)) pe_str pe_str) (nomark _))))) pss_nil)
      (pss_cons (ps_if (pt_cmpR (op_neD hr.units) (pe_ix ix_tup (pv 1) pe_int (fun _ _ => rfl)) (pe_ix ix_tup (pv 0) pe_int (fun _ _ => rfl)) (nomark _)) (pss_one (ps_ret pe_bl)) pss_nil)
      (pss_cons (ps_if (pt_cmpR op_eq (pv 2) pe_str (nomark _)) (pss_one (ps_ret (pe_cmpR op_eq (pe_ix ix_tup (pv 1) pe_int (fun _ _ => rfl)) pe_str (nomark _)))) pss_nil)
      (pss_cons (ps_if (pt_cmpR op_eq (pv 2) pe_str (nomark _)) (pss_one (ps_ret (pe_and (pe_cmpR op_eq (pv 3) (pe_ix ix_tup (pv 6) pe_int (fun _ _ => rfl)) (nomark _))
          (pe_and (pe_cmpR op_in_seq (pe_ix ix_tup (pv 0) pe_int (fun _ _ => rfl)) (pe_tup (pa_cons pe_str (pa_cons pe_str pa_nil))) (by rfl)) (pe_one (pe_cmpR op_eq (pe_ix ix_tup (pv 1) pe_int (fun _ _ => rfl)) pe_str (nomark _))))))) pss_nil)
      (pss_cons (ps_if (pt_cmpR op_eq (pv 2) pe_str (nomark _)) (pss_one (ps_ret (pe_and (pe_cmpR op_in_seq (pe_ix ix_tup (pv 0) pe_int (fun _ _ => rfl)) (pe_tup (pa_cons pe_str (pa_cons pe_str pa_nil))) (by rfl))
          (pe_and (pe_cmpR op_lt (pe_ix ix_tup (pv 6) pe_int (fun _ _ => rfl)) (pv 5) (nomark _)) (pe_one (pe_cmpR op_eq (pe_ix ix_tup (pv 1) pe_int (fun _ _ => rfl)) pe_str (nomark _))))))) pss_nil)
      (pss_cons (ps_if (pt_cmpR op_eq (pv 2) pe_str (nomark _)) (pss_one (ps_ret (pe_and (pe_cmpR op_eq (pe_ix ix_tup (pv 0) pe_int (fun _ _ => rfl)) pe_str (nomark _)) (pe_one (pe_cmpR op_eq (pe_ix ix_tup (pv 1) pe_int (fun _ _ => rfl)) pe_str (nomark _)))))) pss_nil)
      (pss_one (ps_ret (pe_and (pe_cmpR op_eq (pv 2) pe_str (nomark _)) (pe_and (pe_cmpR op_eq (pe_ix ix_tup (pv 0) pe_int (fun _ _ => rfl)) pe_str (nomark _)) (pe_one (pe_cmpR op_eq (pe_ix ix_tup (pv 1) pe_int (fun _ _ => rfl)) pe_str (nomark _))))))))))))))))), ?_⟩
    have ok2 : OrdOk rs n := by
      rcases cg with rfl | c
      · exact ok
      · exact ok.chg c fun q e => (R.rol b q e).2
    refine ⟨_, rfl, _, rfl, vD o, vD n, dp_view V1, dp_view V2, sh_of (vD_lay ok), sh_of (vD_lay ok2), _, rfl, ifB (fun _ => kk H (Same.refl H)) (fun hne => ?_)⟩
    have c : Chg what b rs day o n := by
      rcases cg with rfl | c
      · have e := refl_of (vD_lay ok)
        rw [hne] at e
        cases e
      · exact c
    obtain ⟨f1, g1, a1, b1, c1⟩ := V1.ex
    obtain ⟨f2, g2, a2, b2, c2⟩ := V2.ex
    obtain ⟨ef, efD⟩ := c.facts
    refine ⟨_, rfl, v1, _, _, _, rfl, rfl, SqT.of a1, at_of (j := 0) rfl rfl, ?_⟩
    refine ⟨_, rfl, v2, _, _, _, rfl, rfl, SqT.of a2, at_of (j := 0) rfl rfl, _, rfl, fD n, fD o, dp_facts b2, dp_facts b1, sh_of (fD_lay ok2), sh_of (fD_lay ok), _, rfl, ifF (by show (!PyData.eqv (fD n) (fD o)) = false; rw [efD, refl_of (fD_lay ok)]; rfl) ?_⟩
    by_cases hgr : what = "grant" ∨ what = "reject"
    · obtain ⟨ew, em, r, er, q, hq, hle⟩ : o.state = "waiting" ∧ ¬ b = o.maker ∧ ∃ r, o.role = some r ∧ ∃ q, rs.lookup b = some q ∧ rank r ≤ rank q := by
        rcases c with ⟨_, e, m, _, ⟨r, er, q, hq, hle⟩, _⟩ | ⟨_, e, m, ⟨r, er, q, hq, hle⟩, _⟩ | ⟨e, _⟩ | ⟨e, _⟩ | ⟨e, _⟩ | ⟨e, _⟩
        · exact ⟨e, m, r, er, q, hq, hle⟩
        · exact ⟨e, m, r, er, q, hq, hle⟩
        all_goals (exfalso; rw [e] at hgr; exact absurd hgr (by decide +kernel))
      have ir : IsRole r := by
        rcases ok.shape with ⟨_, e, _⟩ | ⟨_, _, r', er', ir, _⟩
        · rw [er] at e; cases e
        · rw [er] at er'; cases er'; exact ir
      have iq := (R.rol b q hq).1
      have einV : inV (V.str what) [V.str "grant", V.str "reject"] = true := by
        rw [show [V.str "grant", V.str "reject"] = (["grant", "reject"] : List Str).map V.str from rfl, inV_str]
        exact decide_eq_true (by simpa using hgr)
      have ev := valV_roles rs b
      rw [hq] at ev
      have dg : ∀ H' : Hp, Same H H' → DGet H' dL (V.str b) (some (V.str q)) := fun H' ss => by
        have z := DGet.k (k := Sum.inr b) (ss _ _ R.d)
        rw [ev] at z
        exact z
      refine ⟨_, rfl, (by show 2 ≤ sizeLine; decide), fun t1 n1 => ?_⟩
      have s1 := same_upd (o := .tup [V.str "grant", V.str "reject"]) n1
      refine ⟨t1, _, rfl, .inr (SqT.of upd_same), rfl, rfl, _, rfl, ifT einV ?_⟩
      refine ⟨_, rfl, v1, _, _, _, rfl, rfl, SqT.of (s1 _ _ a1), at_of (j := 2) (v := V.str o.state) rfl rfl, rfl, _, rfl, ifF (by show (!decide (V.str o.state = V.str "waiting")) = false; rw [ew]; decide +kernel) ?_⟩
      refine ⟨_, rfl, _, rfl, dL, _, rfl, dg _ s1, _, rfl, ifF rfl ?_⟩
      refine ⟨_, rfl, _, rfl, f1, _, _, _, rfl, rfl, SqT.of (s1 _ _ b1), at_of (j := 0) (v := V.str o.maker) rfl rfl, rfl, _, rfl, ifF (ne_str em) ?_⟩
      refine ⟨_, rfl, (by show 2 ≤ sizeLine; decide), fun t2 n2 => ?_⟩
      have s2 := s1.trans (same_upd (o := .tup [V.str "grant", V.str "reject"]) n2)
      refine ⟨t2, _, rfl, .inr (SqT.of upd_same), rfl, rfl, _, rfl, ifT einV ?_⟩
      refine ⟨_, rfl, _, rfl, dL, V.str q, rfl, dg _ s2, q, rfl, iq, fun H3 s23 => ?_⟩
      have s3 := s2.trans s23
      refine ⟨_, rfl, f1, _, _, _, rfl, rfl, SqT.of (s3 _ _ b1), at_of (j := 6) (v := V.str r) rfl (by show some (roleV o.role) = _; rw [er]; rfl), r, rfl, ir, fun H4 s34 => ?_⟩
      have s4 := s3.trans s34
      refine ⟨_, _, rfl, rfl, _, rfl, ifF (decide_eq_false (by omega)) ?_⟩
      have a1' := s4 _ _ a1
      have a2' := s4 _ _ a2
      have b1' := s4 _ _ b1
      have c1' := s4 _ _ c1
      have c2' := s4 _ _ c2
      rcases c with ⟨rfl, _, _, ni, _, rfl⟩ | ⟨rfl, _, _, _, rfl⟩ | ⟨e, _⟩ | ⟨e, _⟩ | ⟨e, _⟩ | ⟨e, _⟩
      · refine ⟨_, rfl, rfl, _, rfl, ifT (eq_str rfl) ?_⟩
        refine ⟨_, rfl, _, rfl, v1, _, _, _, rfl, rfl, SqT.of a1', at_of (j := 1) (v := V.ref g1) rfl rfl, g1, _, rfl, .inl (SqL.of c1'), rfl, flat_str _, _, rfl, ifF (by show inV (V.str b) (o.grants.map V.str) = false; rw [inV_str]; exact decide_eq_false ni) ?_⟩
        have l5 : (o.grants.length : Int) < o.req := ok.wait ew
        have l6 : o.req ≤ 5 := by
          rcases ok.shape with ⟨e, _⟩ | ⟨_, e, _⟩ <;> omega
        refine ⟨_, rfl, v2, _, _, _, rfl, rfl, SqT.of a2', at_of (j := 1) (v := V.ref g2) rfl rfl, _, rfl, v1, _, _, _, rfl, rfl, SqT.of a1', at_of (j := 1) (v := V.ref g1) rfl rfl, _, rfl, (by show 1 ≤ sizeLine; decide), fun l nl => ?_⟩
        have s5 := same_upd (o := .lst [V.str b]) nl
        refine ⟨g1, l, _, _, rfl, rfl, s5 _ _ c1', upd_same, Nat.le_trans (by rw [List.length_map]; exact (by omega : o.grants.length + 1 ≤ 1000)) (by decide), fun p np => ?_⟩
        have s6 := s5.trans (same_upd (o := .lst (o.grants.map V.str ++ [V.str b])) np)
        have egl : (o.grants ++ [b]).map V.str = o.grants.map V.str ++ [V.str b] := by rw [List.map_append]; rfl
        have lg := gD_lay ok2.sok.2.2.2.2
        refine ⟨gD (granted o b).grants, gD (granted o b).grants, dp_list (s6 _ _ c2'), dp_list (upd_same.trans (congrArg (fun z => some (HO.lst z)) egl.symm)), sh_of lg, sh_of lg, _, rfl, ifF (by show (!PyData.eqv (gD (granted o b).grants) (gD (granted o b).grants)) = false; rw [refl_of lg]; rfl) ?_⟩
        have elen : (((granted o b).grants.map V.str).length : Int) = ((o.grants.length + 1 : Nat) : Int) := by
          rw [List.length_map]
          show ((o.grants ++ [b]).length : Int) = _
          rw [List.length_append]
          rfl
        refine ⟨_, rfl, v2, _, _, _, rfl, rfl, SqT.of (s6 _ _ a2'), at_of (j := 1) (v := V.ref g2) rfl rfl, g2, _, rfl, .inl (SqL.of (s6 _ _ c2')), _, rfl, f1, _, _, _, rfl, rfl, SqT.of (s6 _ _ b1'), at_of (j := 5) (v := V.int o.req) rfl rfl, _, _, rfl, rfl, _, rfl, ifF (decide_eq_false (by rw [elen]; omega)) ?_⟩
        refine ⟨_, rfl, v2, _, _, _, rfl, rfl, SqT.of (s6 _ _ a2'), at_of (j := 2) (v := V.str (granted o b).state) rfl rfl, ?_⟩
        refine ⟨_, rfl, v2, _, _, _, rfl, rfl, SqT.of (s6 _ _ a2'), at_of (j := 1) (v := V.ref g2) rfl rfl, g2, _, rfl, .inl (SqL.of (s6 _ _ c2')), _, rfl, f1, _, _, _, rfl, rfl, SqT.of (s6 _ _ b1'), at_of (j := 5) (v := V.int o.req) rfl rfl, rfl, _, rfl, ?_⟩
        by_cases e : ((o.grants.length + 1 : Nat) : Int) = o.req
        · refine ifT (by show decide (V.int (((granted o b).grants.map V.str).length : Int) = V.int o.req) = true; rw [elen, e]; exact decide_eq_true rfl) ?_
          refine ⟨rfl, ?_⟩
          have es : (granted o b).state = "ready" := if_pos e
          show Q (.bl (decide (V.str (granted o b).state = V.str "ready"))) _
          rw [es, eq_str rfl]
          exact kk _ (s4.trans s6)
        · refine ifF (by show decide (V.int (((granted o b).grants.map V.str).length : Int) = V.int o.req) = false; rw [elen]; exact decide_eq_false fun z => e (V.int.inj z)) ?_
          refine ⟨rfl, ?_⟩
          have es : (granted o b).state = "waiting" := (if_neg e).trans ew
          show Q (.bl (decide (V.str (granted o b).state = V.str "waiting"))) _
          rw [es, eq_str rfl]
          exact kk _ (s4.trans s6)
      · refine ⟨_, rfl, rfl, _, rfl, ifF (ne_str (by decide +kernel)) ?_⟩
        have lg := gD_lay ok.sok.2.2.2.2
        refine ⟨_, rfl, v2, _, _, _, rfl, rfl, SqT.of a2', at_of (j := 1) (v := V.ref g2) rfl rfl, _, rfl, v1, _, _, _, rfl, rfl, SqT.of a1', at_of (j := 1) (v := V.ref g1) rfl rfl, gD o.grants, gD o.grants, dp_list c2', dp_list c1', sh_of lg, sh_of lg, _, rfl, ifF (by show (!PyData.eqv (gD o.grants) (gD o.grants)) = false; rw [refl_of lg]; rfl) ?_⟩
        refine ⟨_, rfl, rfl, _, rfl, ifT (eq_str rfl) ?_⟩
        refine ⟨_, rfl, v2, _, _, _, rfl, rfl, SqT.of a2', at_of (j := 2) (v := V.str "rejected") rfl rfl, rfl, ?_⟩
        show Q (.bl (decide (V.str "rejected" = V.str "rejected"))) _
        rw [eq_str rfl]
        exact kk _ s4
      all_goals (exfalso; rw [e] at hgr; exact absurd hgr (by decide +kernel))
    · have einV : inV (V.str what) [V.str "grant", V.str "reject"] = false := by
        rw [show [V.str "grant", V.str "reject"] = (["grant", "reject"] : List Str).map V.str from rfl, inV_str]
        exact decide_eq_false (by simpa using hgr)
      refine ⟨_, rfl, (by show 2 ≤ sizeLine; decide), fun t1 n1 => ?_⟩
      have s1 := same_upd (o := .tup [V.str "grant", V.str "reject"]) n1
      refine ⟨t1, _, rfl, .inr (SqT.of upd_same), rfl, rfl, _, rfl, ifF einV (ifF rfl ?_)⟩
      refine ⟨_, rfl, (by show 2 ≤ sizeLine; decide), fun t2 n2 => ?_⟩
      have s4 := s1.trans (same_upd (o := .tup [V.str "grant", V.str "reject"]) n2)
      refine ⟨t2, _, rfl, .inr (SqT.of upd_same), rfl, rfl, _, rfl, ifF einV (ifF rfl ?_)⟩
      have a1' := s4 _ _ a1
      have a2' := s4 _ _ a2
      have b1' := s4 _ _ b1
      have c1' := s4 _ _ c1
      have c2' := s4 _ _ c2
      refine ⟨_, rfl, rfl, _, rfl, ifF (ne_str fun z => hgr (.inl z)) ?_⟩
      have eg : n.grants = o.grants := by
        rcases c with ⟨e, _⟩ | ⟨e, _⟩ | ⟨_, _, _, rfl⟩ | ⟨_, _, _, rfl⟩ | ⟨_, _, rfl⟩ | ⟨_, _, rfl⟩
        · exact absurd (.inl e) hgr
        · exact absurd (.inr e) hgr
        all_goals rfl
      have lg := gD_lay ok.sok.2.2.2.2
      rw [eg] at c2'
      refine ⟨_, rfl, v2, _, _, _, rfl, rfl, SqT.of a2', at_of (j := 1) (v := V.ref g2) rfl rfl, _, rfl, v1, _, _, _, rfl, rfl, SqT.of a1', at_of (j := 1) (v := V.ref g1) rfl rfl, gD o.grants, gD o.grants, dp_list c2', dp_list c1', sh_of lg, sh_of lg, _, rfl, ifF (by show (!PyData.eqv (gD o.grants) (gD o.grants)) = false; rw [refl_of lg]; rfl) ?_⟩
      refine ⟨_, rfl, rfl, _, rfl, ifF (ne_str fun z => hgr (.inr z)) ?_⟩
      rcases c with ⟨e, _⟩ | ⟨e, _⟩ | ⟨rfl, em, eo, rfl⟩ | ⟨rfl, eo, ed, rfl⟩ | ⟨rfl, ew, rfl⟩ | ⟨rfl, ew, rfl⟩
      · exact absurd (.inl e) hgr
      · exact absurd (.inr e) hgr
      · refine ⟨_, rfl, rfl, _, rfl, ifT (eq_str rfl) ?_⟩
        refine ⟨_, rfl, _, rfl, f1, _, _, _, rfl, rfl, SqT.of b1', at_of (j := 0) (v := V.str o.maker) rfl rfl, rfl, _, rfl, ifT (eq_str em) ?_⟩
        refine ⟨_, rfl, v1, _, _, _, rfl, rfl, SqT.of a1', at_of (j := 2) (v := V.str o.state) rfl rfl, (by show 2 ≤ sizeLine; decide), fun t3 n3 => ?_⟩
        have s5 := same_upd (o := .tup [V.str "waiting", V.str "ready"]) n3
        refine ⟨t3, _, rfl, .inr (SqT.of upd_same), rfl, rfl, _, rfl, ifT (by show inV (V.str o.state) [V.str "waiting", V.str "ready"] = true; rw [open_in, decide_eq_true eo]) ?_⟩
        refine ⟨_, rfl, v2, _, _, _, rfl, rfl, SqT.of (s5 _ _ a2'), at_of (j := 2) (v := V.str "withdrawn") rfl rfl, rfl, ?_⟩
        show Q (.bl (decide (V.str "withdrawn" = V.str "withdrawn"))) _
        rw [eq_str rfl]
        exact kk _ (s4.trans s5)
      · refine ⟨_, rfl, rfl, _, rfl, ifF (ne_str (by decide +kernel)) ⟨_, rfl, rfl, _, rfl, ifT (eq_str rfl) ?_⟩⟩
        refine ⟨_, rfl, v1, _, _, _, rfl, rfl, SqT.of a1', at_of (j := 2) (v := V.str o.state) rfl rfl, (by show 2 ≤ sizeLine; decide), fun t3 n3 => ?_⟩
        have s5 := same_upd (o := .tup [V.str "waiting", V.str "ready"]) n3
        refine ⟨t3, _, rfl, .inr (SqT.of upd_same), rfl, rfl, _, rfl, ifT (by show inV (V.str o.state) [V.str "waiting", V.str "ready"] = true; rw [open_in, decide_eq_true eo]) ?_⟩
        refine ⟨_, rfl, f1, _, _, _, rfl, rfl, SqT.of (s5 _ _ b1'), at_of (j := 4) (v := V.int o.til) rfl rfl, _, rfl, _, _, rfl, rfl, _, rfl, ifT (decide_eq_true ed) ?_⟩
        refine ⟨_, rfl, v2, _, _, _, rfl, rfl, SqT.of (s5 _ _ a2'), at_of (j := 2) (v := V.str "expired") rfl rfl, rfl, ?_⟩
        show Q (.bl (decide (V.str "expired" = V.str "expired"))) _
        rw [eq_str rfl]
        exact kk _ (s4.trans s5)
      · refine ⟨_, rfl, rfl, _, rfl, ifF (ne_str (by decide +kernel)) ⟨_, rfl, rfl, _, rfl, ifF (ne_str (by decide +kernel)) ⟨_, rfl, rfl, _, rfl, ifT (eq_str rfl) ?_⟩⟩⟩
        refine ⟨_, rfl, v1, _, _, _, rfl, rfl, SqT.of a1', at_of (j := 2) (v := V.str o.state) rfl rfl, rfl, _, rfl, ifT (eq_str ew) ?_⟩
        refine ⟨_, rfl, v2, _, _, _, rfl, rfl, SqT.of a2', at_of (j := 2) (v := V.str "done") rfl rfl, rfl, ?_⟩
        show Q (.bl (decide (V.str "done" = V.str "done"))) _
        rw [eq_str rfl]
        exact kk _ s4
      · refine ⟨_, rfl, rfl, _, rfl, ifF (ne_str (by decide +kernel)) ⟨_, rfl, rfl, _, rfl, ifF (ne_str (by decide +kernel)) ⟨_, rfl, rfl, _, rfl, ifF (ne_str (by decide +kernel)) ?_⟩⟩⟩
        refine ⟨_, rfl, rfl, _, rfl, ifT (eq_str rfl) ?_⟩
        refine ⟨_, rfl, v1, _, _, _, rfl, rfl, SqT.of a1', at_of (j := 2) (v := V.str o.state) rfl rfl, rfl, _, rfl, ifT (eq_str ew) ?_⟩
        refine ⟨_, rfl, v2, _, _, _, rfl, rfl, SqT.of a2', at_of (j := 2) (v := V.str "failed") rfl rfl, rfl, ?_⟩
        show Q (.bl (decide (V.str "failed" = V.str "failed"))) _
        rw [eq_str rfl]
        exact kk _ s4
end
end K51
namespace K51
open PySem L2
section
variable {P : Program} {w : World} {K : PySem.W.Frag} {mg : Str → Option Value} {base : Heap} {A : Cl}
theorem scSteps : FnScope ["_law_old", "_law_new", "_law_what", "_law_by", "_law_number", "_law_roles", "_law_day", "_law_done", "_law_k"] ["_law_old", "_law_new", "_law_what", "_law_by", "_law_number", "_law_roles", "_law_day", "_law_done"] (defScope sSteps) := ⟨rfl, rfl, rfl, by decide +kernel, rfl, by decide +kernel, by decide +kernel⟩
theorem ok_steps {f f1 f2 : Addr} {fd fd1 fd2 : FuncData} (F : Fun K "_law_steps" "_law_steps" sSteps f fd) (T : Txt K mg A)
    (D1 : Dfn P w K mg base CX0 2 "_law_step" ["_law_old", "_law_new", "_law_what", "_law_by", "_law_roles", "_law_day"] spStep f1 fd1) (D2 : Dfn P w K mg base CX0 1 "_law_fresh" ["_law_view_here", "_law_roles"] spFresh f2 fd2) :
    FnOk P w K mg base CX0 3 f fd ["_law_old", "_law_new", "_law_what", "_law_by", "_law_number", "_law_roles", "_law_day", "_law_done"] spSteps := by
  refine F.ok scSteps (fun vs H Q E h => ?_) (fun cdv AA outer s H vs Q E hr h => ?_)
  · obtain ⟨q1, q2, dL, ws1, ws2, os, ns, rs, what, b, num, day, k, rfl, _⟩ := h
    rfl
  · obtain ⟨q1, q2, dL, ws1, ws2, os, ns, rs, what, b, num, day, k, rfl, V1, V2, R, oks, nlen, cr, kk⟩ := h
    refine ⟨_, pss_cons (ps_for PassesOwn.never rfl (pi_range1 rfl T.range (pa_cons (pe_callB call_len_seq (by rfl) T.len PySem.boot_len (pa_cons (pv 0) pa_nil)) pa_nil)) (pg_name (i := 8) scSteps.nd rfl (Or.inl rfl))
        (pss_cons (ps_if (pt_not (pt_val (pe_call D1.ok hr rfl D1.m D1.kp D1.b .nil pass0 (pa_cons (pe_ix ix_list (pv 0) (pv 8) (fun _ _ => rfl)) (pa_cons (pe_ix ix_list (pv 1) (pv 8) (fun _ _ => rfl)) (pa_cons (pv 2) (pa_cons (pv 3) (pa_cons (pv 5) (pa_cons (pv 6) pa_nil))))))))) (pss_one (ps_ret pe_bl)) pss_nil)
        (pss_cons (ps_if (PW.pt (pw_and (pt_cmpR (op_neD hr.units) (pe_ix ix_list (pv 0) (pv 8) (fun _ _ => rfl)) (pe_ix ix_list (pv 1) (pv 8) (fun _ _ => rfl)) (nomark _)) (pw_and1 (PW.pt (pw_or (pt_not (pt_val (pv 7)))
            (pw_or1 (PW.pt (pw_and (pt_cmpR op_ne (pv 2) pe_str (nomark _)) (pw_and1 (pt_cmpR op_ne (pe_op op_add (pv 8) pe_int) (pv 4) (nomark _))))))))))) (pss_one (ps_ret pe_bl)) pss_nil)
        (pss_one (ps_if (PW.pt (pw_and (pt_cmpR op_eq (pv 2) pe_str (nomark _)) (pw_and (pt_cmpR op_in_seq (pe_ix ix_tup (pe_ix ix_list (pv 0) (pv 8) (fun _ _ => rfl)) pe_int (fun _ _ => rfl)) (pe_tup (pa_cons pe_str (pa_cons pe_str pa_nil))) (by rfl))
            (pw_and (pt_cmpR op_lt (pe_ix ix_tup (pe_ix ix_tup (pe_ix ix_list (pv 0) (pv 8) (fun _ _ => rfl)) pe_int (fun _ _ => rfl)) pe_int (fun _ _ => rfl)) (pv 6) (nomark _)) (pw_and1 (pt_cmpR op_ne (pe_ix ix_tup (pe_ix ix_list (pv 1) (pv 8) (fun _ _ => rfl)) pe_int (fun _ _ => rfl)) pe_str (nomark _)))))))
            (pss_one (ps_ret pe_bl)) pss_nil)))))
      (pss_cons (ps_if (PW.pt (pw_or (pt_cmpR op_gt (pe_callB call_len_seq (by rfl) T.len PySem.boot_len (pa_cons (pv 1) pa_nil)) (pe_op op_add (pe_callB call_len_seq (by rfl) T.len PySem.boot_len (pa_cons (pv 0) pa_nil)) pe_int) (nomark _))
          (pw_or1 (PW.pt (pw_and (pt_cmpR op_gt (pe_callB call_len_seq (by rfl) T.len PySem.boot_len (pa_cons (pv 1) pa_nil)) (pe_callB call_len_seq (by rfl) T.len PySem.boot_len (pa_cons (pv 0) pa_nil)) (nomark _))
            (pw_and1 (pt_not (PW.pt (pw_and (pt_cmpR op_eq (pv 2) pe_str (nomark _)) (pw_and1 (pt_val (pv 7)))))))))))) (pss_one (ps_ret pe_bl)) pss_nil)
      (pss_one (ps_ret (pe_or (pe_cmpR op_eq (pe_callB call_len_seq (by rfl) T.len PySem.boot_len (pa_cons (pv 1) pa_nil)) (pe_callB call_len_seq (by rfl) T.len PySem.boot_len (pa_cons (pv 0) pa_nil)) (nomark _))
        (pe_one (pe_call D2.ok (hr.mono (by decide)) rfl D2.m D2.kp D2.b .nil pass0 (pa_cons (pe_ix ix_list (pv 1) (pe_un un_neg pe_int) (fun _ _ => rfl)) (pa_cons (pv 5) pa_nil)))))))), ?_⟩
    have e1 : (ws1.map V.ref).length = os.length := by rw [List.length_map, V1.n]
    have e2 : (ws2.map V.ref).length = ns.length := by rw [List.length_map, V2.n]
    have olen : os.length ≤ ns.length := by
      rcases cr.more with h | ⟨h, _⟩ <;> omega
    have item : ∀ {ws : List Addr} {j : Nat} {v : Addr}, ws[j]? = some v → (ws.map V.ref)[j]? = some (V.ref v) := fun h => by rw [List.getElem?_map, h]; rfl
    refine ⟨_, rfl, q1, _, rfl, .inl (SqL.of V1.l), ((ws1.map V.ref).length : Int), rfl, by omega, by omega, ?_⟩
    rw [e1, Int.toNat_natCast]
    refine for_range (n := os.length) (fun i σ H' => Same H H' ∧ ∃ v8 : Option V, σ = [some (.ref q1), some (.ref q2), some (.str what), some (.str b), some (.int num), some (.ref dL), some (.int day), some (.bl k), v8]) ⟨Same.refl H, none, rfl⟩ ?_ ?_
    · rintro i σ H1 hi ⟨s1, v8, rfl⟩
      obtain ⟨o, ho⟩ : ∃ o, os[i]? = some o := ⟨os[i], List.getElem?_eq_getElem hi⟩
      obtain ⟨n, hn, hst, hex⟩ := cr.each i o ho
      obtain ⟨a, ha⟩ : ∃ a, ws1[i]? = some a := ⟨ws1[i]'(by rw [V1.n]; exact hi), List.getElem?_eq_getElem _⟩
      obtain ⟨c, hc⟩ : ∃ c, ws2[i]? = some c := ⟨ws2[i]'(by rw [V2.n]; omega), List.getElem?_eq_getElem _⟩
      have W1 := V1.same s1
      have W2 := V2.same s1
      have ok := oks o (List.mem_of_getElem? ho)
      have ok2 : OrdOk rs n := by
        rcases hst with rfl | ⟨_, _, cg⟩
        · exact ok
        · exact ok.chg cg fun q e => (R.rol b q e).2
      have cg : n = o ∨ Chg what b rs day o n := hst.imp id fun h => h.2.2
      refine ⟨_, rfl, _, rfl, q1, _, _, _, rfl, rfl, SqL.of W1.l, at_of (j := i) (by omega) (item ha), _, rfl, _, rfl, q2, _, _, _, rfl, rfl, SqL.of W2.l, at_of (j := i) (by omega) (item hc), _, rfl, _, rfl, _, rfl, _, rfl,
        a, c, dL, o, n, rs, what, b, day, rfl, W1.at_ i a o ha ho, W2.at_ i c n hc hn, R.same s1, ok, cg, fun H2 s12 => ⟨_, rfl, ifF rfl ?_⟩⟩
      have s2 := s1.trans s12
      have X1 := V1.same s2
      have X2 := V2.same s2
      obtain ⟨f1, g1, a1, b1, c1⟩ := (X1.at_ i a o ha ho).ex
      obtain ⟨f3, g3, a3, b3, c3⟩ := (X2.at_ i c n hc hn).ex
      refine ⟨_, rfl, _, rfl, q1, _, _, _, rfl, rfl, SqL.of X1.l, at_of (j := i) (by omega) (item ha), _, rfl, _, rfl, q2, _, _, _, rfl, rfl, SqL.of X2.l, at_of (j := i) (by omega) (item hc), vD o, vD n, dp_view (X1.at_ i a o ha ho), dp_view (X2.at_ i c n hc hn), sh_of (vD_lay ok), sh_of (vD_lay ok2), _, rfl, ?_⟩
      have goon : ¬ n = o → (k = true ∧ (what = "expire" ∨ (i : Int) + 1 = num)) := fun e => by
        rcases hst with h | ⟨h1, h2, _⟩
        · exact absurd h e
        · exact ⟨h1, h2⟩
      have differ : (!PyData.eqv (vD o) (vD n)) = true → ¬ n = o := fun z e => by
        rw [e, refl_of (vD_lay ok)] at z
        cases z
      by_cases ew : what = "expire"
      · refine ifB (fun hne => ?A) (fun _ => ifF rfl ?B)
        case' A =>
          obtain ⟨rfl, hw⟩ := goon (differ hne)
          refine ⟨_, rfl, _, rfl, ifF rfl ?_⟩
          refine ⟨_, rfl, rfl, _, rfl, ifF (by show (!decide (V.str what = V.str "expire")) = false; rw [eq_str ew]; rfl) (ifF rfl ?_)⟩
        all_goals
          refine ⟨_, rfl, rfl, _, rfl, ifT (eq_str ew) ?_⟩
          refine ⟨_, rfl, _, rfl, q1, _, _, _, rfl, rfl, SqL.of X1.l, at_of (j := i) (by omega) (item ha), a, _, _, _, rfl, rfl, SqT.of a1, at_of (j := 2) (v := V.str o.state) rfl rfl, (by show 2 ≤ sizeLine; decide), fun t nt => ?_⟩
          have s3 := same_upd (o := .tup [V.str "waiting", V.str "ready"]) nt
          refine ⟨t, _, rfl, .inr (SqT.of upd_same), rfl, rfl, _, rfl, ?_⟩
          by_cases eo : Open o
          · refine ifT (by show inV (V.str o.state) [V.str "waiting", V.str "ready"] = true; rw [open_in, decide_eq_true eo]) ?_
            refine ⟨_, rfl, _, rfl, q1, _, _, _, rfl, rfl, SqL.of (s3 _ _ X1.l), at_of (j := i) (by omega) (item ha), a, _, _, _, rfl, rfl, SqT.of (s3 _ _ a1), at_of (j := 0) (v := V.ref f1) rfl rfl, f1, _, _, _, rfl, rfl, SqT.of (s3 _ _ b1), at_of (j := 4) (v := V.int o.til) rfl rfl, _, rfl, _, _, rfl, rfl, _, rfl, ?_⟩
            by_cases ed : o.til < day
            · refine ifT (decide_eq_true ed) ?_
              have es := hex ew eo ed
              refine ⟨_, rfl, _, rfl, q2, _, _, _, rfl, rfl, SqL.of (s3 _ _ X2.l), at_of (j := i) (by omega) (item hc), c, _, _, _, rfl, rfl, SqT.of (s3 _ _ a3), at_of (j := 2) (v := V.str n.state) rfl rfl, rfl, _, rfl, ifF (by show (!decide (V.str n.state = V.str "expired")) = false; rw [eq_str es]; rfl) ?_⟩
              exact ⟨s2.trans s3, _, rfl⟩
            · refine ifF (decide_eq_false ed) (ifF rfl ?_)
              exact ⟨s2.trans s3, _, rfl⟩
          · refine ifF (by show inV (V.str o.state) [V.str "waiting", V.str "ready"] = false; rw [open_in, decide_eq_false eo]) (ifF rfl ?_)
            exact ⟨s2.trans s3, _, rfl⟩
      · refine ifB (fun hne => ?A2) (fun _ => ifF rfl ?B2)
        case' A2 =>
          obtain ⟨rfl, hw⟩ := goon (differ hne)
          have en := hw.resolve_left ew
          refine ⟨_, rfl, _, rfl, ifF rfl ?_⟩
          refine ⟨_, rfl, rfl, _, rfl, ifT (by show (!decide (V.str what = V.str "expire")) = true; rw [ne_str ew]; rfl) ?_⟩
          refine ⟨_, rfl, _, _, rfl, rfl, _, rfl, rfl, _, rfl, ifF (by show (!decide (V.int (0 + (i : Int) + 1) = V.int num)) = false; rw [decide_eq_true (by rw [Int.zero_add, en])]; rfl) ?_⟩
        all_goals
          refine ⟨_, rfl, rfl, _, rfl, ifF (ne_str ew) (ifF rfl ?_)⟩
          exact ⟨s2, _, rfl⟩
    · rintro σ H1 ⟨s1, v8, rfl⟩
      have W1 := V1.same s1
      have W2 := V2.same s1
      refine ⟨_, rfl, q2, _, rfl, .inl (SqL.of W2.l), _, rfl, q1, _, rfl, .inl (SqL.of W1.l), _, _, rfl, rfl, _, _, rfl, rfl, _, rfl, ifF (decide_eq_false ?_) ?_⟩
      · rw [e1, e2]
        rcases cr.more with h | ⟨h, _⟩ <;> omega
      refine ⟨_, rfl, q2, _, rfl, .inl (SqL.of W2.l), _, rfl, q1, _, rfl, .inl (SqL.of W1.l), _, _, rfl, rfl, _, rfl, ?_⟩
      rcases cr.more with h | ⟨h, rfl, rfl, fo, hfo, fr⟩
      · refine ifF (decide_eq_false (by rw [e1, e2]; omega)) (ifF rfl ?_)
        refine ⟨_, rfl, q2, _, rfl, .inl (SqL.of W2.l), _, rfl, q1, _, rfl, .inl (SqL.of W1.l), rfl, _, rfl, ?_⟩
        refine ifT (by show decide (V.int ((ws2.map V.ref).length : Int) = V.int ((ws1.map V.ref).length : Int)) = true; rw [e1, e2, h]; exact decide_eq_true rfl) ?_
        exact kk H1 s1
      · refine ifT (decide_eq_true (by rw [e1, e2]; omega)) ?_
        refine ⟨_, rfl, rfl, _, rfl, ifT (eq_str rfl) ?_⟩
        refine ⟨_, rfl, _, rfl, ifF rfl ?_⟩
        refine ⟨_, rfl, q2, _, rfl, .inl (SqL.of W2.l), _, rfl, q1, _, rfl, .inl (SqL.of W1.l), rfl, _, rfl, ?_⟩
        refine ifF (by show decide (V.int ((ws2.map V.ref).length : Int) = V.int ((ws1.map V.ref).length : Int)) = false; rw [e1, e2]; exact decide_eq_false fun z => by have := V.int.inj z; omega) ?_
        obtain ⟨c, hc⟩ : ∃ c, ws2[os.length]? = some c := ⟨ws2[os.length]'(by rw [V2.n]; omega), List.getElem?_eq_getElem _⟩
        refine ⟨_, rfl, _, rfl, q2, _, _, .ref c, rfl, rfl, SqL.of W2.l, ?_, _, rfl, c, dL, fo, rs, rfl, W2.at_ _ c fo hc hfo, R.same s1, fr, fun H2 s12 => kk H2 (s1.trans s12)⟩
        have el : ws2.map V.ref = (ws2.map V.ref).take os.length ++ [V.ref c] := by
          have hl : (ws2.map V.ref).length = os.length + 1 := by rw [e2, h]
          have h1 : (ws2.map V.ref)[os.length]? = some (V.ref c) := item hc
          have h2 := List.take_append_drop os.length (ws2.map V.ref)
          have h3 : (ws2.map V.ref).drop os.length = [V.ref c] := by
            rw [List.drop_eq_getElem_cons (by omega), List.drop_of_length_le (by omega)]
            have h4 := (List.getElem?_eq_some_iff.mp h1).2
            rw [h4]
          rw [h3] at h2
          exact h2.symm
        rw [el]
        exact atI_last _ _
end
end K51
namespace K51
open PySem L2 PyProof.Rows
/-! ### len(set(texts)), the texts all different, of any number below the scan's bound -/
section
variable {prog : Program} {w : World} {A : Around} {R : Result → Shared → Prop} {I S : Addr} {fp wr : List Addr} {G : Array GenState → Array GenState → Prop} {P : Nat → Value → Prop} {St : Nat → Shared → Prop}
/-- what a set holds stays where its object stays -/
theorem setOf_stays {h h' : Heap} {a : Addr} {f : Str → Bool} {n : Nat} (k : ∀ o, h.get? a = some o → h'.get? a = some o) (x : h.SetOf (PySem.strKind prog w) a f n) : h'.SetOf (PySem.strKind prog w) a f n := by
  obtain ⟨ob, es, ep, t, here, more⟩ := x
  exact ⟨ob, es, ep, t, k ob here, more⟩
theorem fill_set {n : Nat} (xs : List Str) (hn : n = xs.length) (W : WalksS prog w A.in1 I fp wr G n P St) (out : S ∉ fp) (nd : xs.Nodup) (small : xs.length + 1 < scanBound)
    (val : ∀ (i : Nat) (v : Value) (x : Str), P i v → xs[i]? = some x → ∃ t, v = .str x t) :
    ∀ (rest pre : List Str) (s : Shared), xs = pre ++ rest → St pre.length s → s.heap.SetOf (PySem.strKind prog w) S (fun z => decide (z ∈ pre)) pre.length →
      (∀ s', Moved (S :: wr) G s s' → s'.heap.SetOf (PySem.strKind prog w) S (fun z => decide (z ∈ xs)) xs.length → R (.ok (.ret .none)) s') →
      codeAny (model prog w) A (.builtin "set.update.loop" ⟨[.ref S, .ref I], []⟩) R s := by
  subst hn
  have notWr : S ∉ wr := fun m => out (W.sub S m)
  have wider : ∀ b ∈ wr, b ∈ S :: wr := fun b m => .tail _ m
  intro rest
  induction rest with
  | nil =>
    intro pre s split at_ holds fin
    have whole : xs = pre := split.trans (List.append_nil pre)
    rw [← whole] at at_ holds
    refine codeAny_builtin F.entry_set_update_loop ?_
    rw [Around.under_plainId F.plain_set_update_loop _]
    refine wpAny_bind (m := pyNext (.ref I)) (W.done s _ _ at_ fun s1 moved => ?_)
    refine wpAny_pure (fin s1 (moved.mono wider) (setOf_stays (fun o e => moved.heap S o notWr e) holds))
  | cons x rest more =>
    intro pre s split at_ holds fin
    have lt : pre.length < xs.length := by rw [split, List.length_append]; exact Nat.lt_add_of_pos_right (Nat.succ_pos _)
    have here : xs[pre.length]? = some x := by rw [split, List.getElem?_append_right (Nat.le_refl _), Nat.sub_self]; rfl
    have fresh : ¬ x ∈ pre := fun m => by
      rw [split] at nd
      exact (List.nodup_append.mp nd).2.2 x m x (List.mem_cons_self ..) rfl
    refine codeAny_builtin F.entry_set_update_loop ?_
    rw [Around.under_plainId F.plain_set_update_loop _]
    refine wpAny_bind (m := pyNext (.ref I)) (W.item pre.length s _ _ lt at_ fun v s1 hv at1 moved => ?_)
    obtain ⟨t, rfl⟩ := val pre.length v x hv here
    have holds1 := setOf_stays (fun o e => moved.heap S o notWr e) holds
    show wpAny _ A.in1 (holding [Value.str x t] (setAdd S (.str x t)) >>= _) _ _ s1
    refine wpAny_bind (wpAny_holding ?_)
    unfold setAdd
    refine wpAny_holding (wpAny_bind ((PySem.strKind prog w).pyHash (k := x) (strKind_is _ _ _ _) ?_))
    refine wpAny_setAddHashed_of (knd := PySem.strKind prog w) (s := { s1 with toks := s1.toks + 1 }) (strKind_is _ _ _ _) rfl holds1 (by omega) fun h2 same2 holds2 => ?_
    have el : (pre ++ [x]).length = pre.length + 1 := by rw [List.length_append]; rfl
    have holds3 : h2.SetOf (PySem.strKind prog w) S (fun z => decide (z ∈ pre ++ [x])) (pre ++ [x]).length := by
      refine SetOf_congr holds2 (fun z => ?_) ?_
      · simp only [List.mem_append, List.mem_singleton, Bool.decide_or]
      · rw [el, if_neg (by rw [decide_eq_false fresh]; exact Bool.false_ne_true)]
    have other : ∀ (b : Addr) (o : Obj), b ≠ S → s1.heap.get? b = some o → h2.get? b = some o := fun b o hb e => (same2.2 b hb).trans e
    refine wpAny_pure ⟨plainId_quiet F.plain_set_update_loop _, more (pre ++ [x]) _ (by rw [split, List.append_assoc]; rfl) ?_ holds3 fun s4 moved4 holds4 => ?_⟩
    · rw [el]
      exact W.frame _ s1 _ _ at1 (Nat.le_succ _) fun b hb o e => other b o (fun z => out (z ▸ hb)) e
    · refine fin s4 (Moved.trans W.gtrans ((moved.mono wider).then_heap (Nat.le_succ _) fun b o hb e => other b o (fun z => hb (z ▸ List.mem_cons_self ..)) e) moved4) holds4
end
section
variable {prog : Program} {w : World} {A : Around} {E : Value → Shared → Prop} {s : Shared}
/-- set(l) of a list of different texts: a new set of them -/
theorem set_of_texts {l : Addr} {items : Array Value} {xs : List Str} {Q : Value → Shared → Prop} (calm : A.handled = none) (isl : s.heap.IsList l items) (are : StrsAre items.toList xs) (nd : xs.Nodup) (small : xs.length + 1 < scanBound)
    (goal : ∀ (h' : Heap) (tk : Nat), h'.SetOf (PySem.strKind prog w) s.heap.objs.size (fun z => decide (z ∈ xs)) xs.length → (∀ b o, b < s.heap.objs.size → s.heap.get? b = some o → h'.get? b = some o) → Q (.ref s.heap.objs.size) { s with heap := h', toks := tk }) :
    wpAny (model prog w) A (call (.type "set") [.ref l]) Q E s := by
  have sz : xs.length = items.size := by rw [← StrsAre.len_eq are, Array.length_toList]
  have inSet : ∀ {h : Heap} {led : Bool}, (h.push { cls := .type "set", dict := none, data := .set #[] 0 (.fresh 0 0 led) }).get? h.objs.size = some { cls := .type "set", dict := none, data := .set #[] 0 (.fresh 0 0 led) } := Heap.get?_push_size _ rfl
  -- type.__call__
  have ⟨_, _, fMro⟩ := PySem.F.called_set.mro
  have ⟨fMade, fSub, fNot, fNew⟩ := And.intro PySem.F.called_set.made (And.intro PySem.F.called_set.sub (And.intro PySem.F.called_set.notType PySem.F.called_set.canCreate))
  have fCheck := PySem.F.typeCall_set_1 (.ref l)
  refine wpAny_call (codeAny_of_tree (show wpAny _ _ (callAny (.type "set") _) _ _ _ from wpAny_pure ⟨Code.quiet_builtin _ (by decide +kernel), codeAny_builtin PySem.F.entry_type_call ?_⟩))
  rw [Around.under_plain (weight_type_call_type "set" [.ref l] []) rfl]
  repeat (any_goals (first | assumption | wp_step))
  -- set.__new__
  refine codeAny_mono (code_set_new_1 (.ref l) (E := E) (Q₁ := fun v s1 => ∃ led : Bool, v = .ref s.heap.objs.size ∧ s1 = { s with heap := s.heap.push { cls := .type "set", dict := none, data := .set #[] 0 (.fresh 0 0 led) } }) fun led => ⟨led, rfl, rfl⟩) fun r s1 got => ?_
  match r, got with
  | .error e, got => exact got
  | .ok .next, got => exact got.elim
  | .ok .brk, got => exact got.elim
  | .ok .cont, got => exact got.elim
  | .ok (.ret v), got =>
    obtain ⟨led, rfl, rfl⟩ := got
    have tyS : Shared.TypeIs { s with heap := s.heap.push { cls := .type "set", dict := none, data := .set #[] 0 (.fresh 0 0 led) } } (.ref s.heap.objs.size) "set" := ⟨_, inSet, rfl⟩
    have fLook := PySem.F.called_set.init.lookup
    have fBind := PySem.F.called_set.init.bind (.ref s.heap.objs.size)
    repeat (any_goals (first | assumption | wp_step))
    -- set.__init__
    refine codeAny_mono (codeAny_call_builtin (R := wants (fun v2 s2 => v2 = .none ∧ ∃ (h2 : Heap) (tk : Nat), s2 = { s with heap := h2, toks := tk } ∧ h2.SetOf (PySem.strKind prog w) s.heap.objs.size (fun z => decide (z ∈ xs)) xs.length ∧
      ∀ b o, b < s.heap.objs.size → s.heap.get? b = some o → h2.get? b = some o) E) PySem.F.called_set.init.plain PySem.F.entry_set_init (check_set_init_1 tyS ?init)) fun r2 s2 got2 => ?after
    case after =>
      match r2, got2 with
      | .error e, got2 => exact got2
      | .ok .next, got2 => exact got2.elim
      | .ok .brk, got2 => exact got2.elim
      | .ok .cont, got2 => exact got2.elim
      | .ok (.ret v2), got2 =>
        obtain ⟨rfl, h2, tk, rfl, holds, kept⟩ := got2
        repeat (any_goals (first | assumption | wp_step))
        exact goal h2 tk holds kept
    case init =>
      have islS := isl.push { cls := .type "set", dict := none, data := .set #[] 0 (.fresh 0 0 led) }
      obtain ⟨⟨lcls, ldict, ldata, lslots⟩, lget, lc, ln, ld⟩ := isl
      simp only at lc ld
      subst lc ld
      have lgetS : (s.heap.push { cls := .type "set", dict := none, data := .set #[] 0 (.fresh 0 0 led) }).get? l = some { cls := .type "list", dict := ldict, data := .seq items ln, slots := lslots } := Heap.get?_push_of_some _ lget
      have lt : l < s.heap.objs.size := Heap.lt_size lget
      have fNotSet := PySem.F.sub_list_set
      have fNotFrozen := PySem.F.sub_list_frozenset
      have fNotDict : (Value.type "list" == Value.type "dict") = false := by decide
      unfold Builtin.«set.__init__» noKeywords Builtin.Frozenset.updateFrom
      generalize hIter : pyIter = iter
      wp_walk
      subst hIter
      refine wpAny_pyIter_list islS (wpAny_bind (wpAny_runValue ?_))
      have calm3 : A.in1.in1.in1.handled = none := by simp [calm]
      have itNew : l ≠ (s.heap.push { cls := .type "set", dict := none, data := .set #[] 0 (.fresh 0 0 led) }).objs.size := by
        rw [Heap.size_push]
        exact Nat.ne_of_lt (Nat.lt_succ_of_lt lt)
      have setOut : s.heap.objs.size ∉ [(s.heap.push { cls := .type "set", dict := none, data := .set #[] 0 (.fresh 0 0 led) }).objs.size, l] := by
        rw [Heap.size_push]
        simp only [List.mem_cons, List.not_mem_nil, or_false, not_or]
        exact ⟨Nat.ne_of_lt (Nat.lt_succ_self _), Nat.ne_of_gt lt⟩
      refine fill_set xs sz.symm (Walks.list calm3 _ l itNew items).toS setOut nd small (fun i v x hv hx => ?_) xs [] _ rfl ⟨⟨_, Heap.get?_push_size _ rfl, rfl, rfl⟩, islS.push _⟩ ?_ fun s3 moved holds => ?_
      · obtain ⟨t, e⟩ := SS.strs_at are i v (by rw [Array.getElem?_toList]; exact hv)
        refine ⟨t, e.trans ?_⟩
        rw [List.getD_eq_getElem?_getD, hx]
        rfl
      · exact SetOf_congr ((setObjOf_fresh (knd := PySem.strKind prog w) led).setOf (Heap.get?_push_of_some _ inSet) (by unfold scanBound; omega)) (fun _ => rfl) rfl
      · obtain ⟨h3, g3, d3, k3, o3⟩ := s3
        obtain rfl : g3 = s.gens := moved.gens
        obtain rfl : d3 = s.drawn := moved.drawn
        obtain rfl : o3 = s.os := moved.os
        show wpAny _ _ _ _ _ _
        refine wpAny_pure ?_
        show wpAny _ _ (ret Value.none) _ _ _
        refine wpAny_pure ⟨rfl, h3, k3, rfl, holds, fun b o hb e => ?_⟩
        refine moved.heap b o ?_ (Heap.get?_push_of_some _ (Heap.get?_push_of_some _ e))
        rw [Heap.size_push]
        simp only [List.mem_cons, List.not_mem_nil, or_false, not_or]
        exact ⟨Nat.ne_of_lt hb, Nat.ne_of_lt (Nat.lt_succ_of_lt hb)⟩
end
end K51
namespace K51
open PySem L2
theorem strs_are : ∀ {xs : List Str} {us : List Value}, Vals (xs.map V.str) us → PyProof.Rows.StrsAre us xs
  | [], _, .nil => .nil
  | x :: xs, _, .cons ⟨k, e⟩ t => by
    subst e
    exact .cons x k (strs_are t)
section
variable {X : Cx} {a : Expr} {ta : TE} {p1 p2 q1 q2 : Pos}
/-- len(set(x)), x a list of texts that all differ -/
def tLenS (K : PySem.W.Frag) (ta : TE) : TE := fun σ H Q => ta σ H fun x H1 => ∃ (l : Addr) (xs : List Str), x = .ref l ∧ SqL K H1 l (xs.map V.str) ∧ xs.Nodup ∧ xs.length ≤ 4000 ∧ Q (.int (xs.length : Nat)) H1
theorem pe_lenS (calm : X.calm = true) (gl : Gl X "len") (ml : X.mg "len" = none) (gs : Gl X "set") (ms : X.mg "set" = none) (ha : PE X a ta)
    (one : starEach [a] X.env = (false, eval a X.env) :: starEach [] X.env := by rfl) : PE X (.Call (.Name "len" p1) [.Call (.Name "set" p2) [a] [] q2] [] q1) (tLenS X.K ta) := by
  constructor
  intro pins s σ H Q I h
  refine PyProof.Rows.Call_ (ld_blt I gl ml boot_len (PyProof.Rows.callWith_builtin1 (PyProof.Rows.args_cons ?_ rfl) rfl rfl))
  refine PyProof.Rows.Call_ (ld_blt I gs ms PyProof.Rows.boot_set (PyProof.Rows.callWith_type1 (PyProof.Rows.args_cons (thn (ha.run pins s σ H _ I h) fun v s1 got => PyProof.Rows.args_nil ?_) one) one rfl))
  obtain ⟨x, H1, I1, rx, l, xs, rfl, hL, nd, few, q⟩ := got
  cases rx
  obtain ⟨its, rv, pl, hz⟩ := I1.list hL
  refine set_of_texts (I1.ok.hd calm) pl.isList (by simpa using strs_are rv) nd (by unfold scanBound; omega) fun h2 tk holds kept => PyProof.Rows.args_nil ?_
  obtain ⟨o, es, ep, t, here, exact_, data, _, _, _, fits, size⟩ := holds
  have I2 : Inv X pins σ H1 { s1 with heap := h2, toks := tk } := I1.kept fun b o e => kept b o (Heap.lt_size e) e
  exact call_len_set here exact_ data fits (by rw [size]; omega) ⟨.int (xs.length : Nat), H1, I2.tok _, ⟨_, by rw [size]⟩, q⟩
end
theorem states_in (z : Str) : inV (V.str z) [V.str "ready", V.str "done", V.str "failed"] = decide (z = "ready" ∨ z = "done" ∨ z = "failed") := by
  refine Eq.trans (inV_str z ["ready", "done", "failed"]) (decide_eq_decide.mpr ?_)
  simp
section
variable {P : Program} {w : World} {K : PySem.W.Frag} {mg : Str → Option Value} {base : Heap} {A : Cl}
theorem scCovered : FnScope ["_law_views", "_law_roles", "_law_facts", "_law_grants", "_law_state", "_law_by"] ["_law_views", "_law_roles"] (defScope sCovered) := ⟨rfl, rfl, rfl, by decide +kernel, rfl, by decide +kernel, by decide +kernel⟩
theorem ok_covered {f f1 : Addr} {fd fd1 : FuncData} (F : Fun K "_law_covered" "_law_covered" sCovered f fd) (T : Txt K mg A) (D1 : Dfn P w K mg base CX0 1 "_law_rank" ["_law_role"] spRank f1 fd1) :
    FnOk P w K mg base CX0 2 f fd ["_law_views", "_law_roles"] spCovered := by
  refine F.ok scCovered (fun vs H Q E h => ?_) (fun cdv AA outer s H vs Q E hr h => ?_)
  · obtain ⟨q, dL, ws, os, rs, rfl, _⟩ := h
    rfl
  · obtain ⟨q, dL, ws, os, rs, rfl, Vs, R, oks, olen, kk⟩ := h
    have hu := hu_of hr
    refine ⟨_, pss_cons (ps_for PassesOwn.never rfl (pi_list (pv 0)) (pg_tup rfl (pgs_cons (pg_name (i := 2) scCovered.nd rfl (Or.inr rfl)) (pgs_cons (pg_name (i := 3) scCovered.nd rfl (Or.inl rfl)) (pgs_cons (pg_name (i := 4) scCovered.nd rfl (Or.inl rfl)) pgs_nil))))
        (pss_cons (ps_if (PW.pt (pw_and (pt_cmpR op_in_seq (pv 4) (pe_tup (pa_cons pe_str (pa_cons pe_str (pa_cons pe_str pa_nil)))) (by rfl)) (pw_and1 (pt_cmpR op_ne (pe_callB call_len_seq (by rfl) T.len PySem.boot_len (pa_cons (pv 3) pa_nil)) (pe_ix ix_tup (pv 2) pe_int (fun _ _ => rfl)) (nomark _))))) (pss_one (ps_ret pe_bl)) pss_nil)
        (pss_cons (ps_if (PW.pt (pw_or (pt_cmpR op_in_seq (pe_ix ix_tup (pv 2) pe_int (fun _ _ => rfl)) (pv 3) (by rfl)) (pw_or1 (pt_cmpR op_ne (pe_lenS rfl (by rfl) T.len (by rfl) T.set (pv 3)) (pe_callB call_len_seq (by rfl) T.len PySem.boot_len (pa_cons (pv 3) pa_nil)) (nomark _))))) (pss_one (ps_ret pe_bl)) pss_nil)
        (pss_one (ps_if (pt_cmpR op_gt (pe_callB call_len_seq (by rfl) T.len PySem.boot_len (pa_cons (pe_lc (own := [("_law_by", 5)]) (g := gName 5) rfl scCovered.nd (pi_list (pv 3)) (blkOk_by (N := ["_law_views", "_law_roles", "_law_facts", "_law_grants", "_law_state", "_law_by"]) (sc := defScope sCovered) (by decide +kernel))
            (fun _ _ _ _ _ => pg_name (i := 5) scCovered.nd rfl (Or.inl rfl))
            (fun _ _ _ _ _ => pts_one (pt_cmpR op_lt (pe_call D1.ok hr rfl D1.m D1.kp D1.b .nil pass0 (pa_cons (pe_dget hu (pv 1) (pv 5) (fun _ _ => rfl)) pa_nil)) (pe_call D1.ok hr rfl D1.m D1.kp D1.b .nil pass0 (pa_cons (pe_ix (r := rIxT K) ix_tup (pv 2) pe_int (fun _ _ => rfl)) pa_nil)) (nomark _)))
            (fun _ _ _ _ _ => pv 5)) pa_nil)) pe_int (nomark _)) (pss_one (ps_ret pe_bl)) pss_nil)))))
      (pss_one (ps_ret pe_bl)), ?_⟩
    refine ⟨_, rfl, q, rfl, ⟨_, SqL.of Vs.l⟩, for_list (K := K) (a := q) (xs := ws.map V.ref) (fun i σ H' => Same H H' ∧ ∃ v2 v3 v4 v5 : Option V, σ = [some (.ref q), some (.ref dL), v2, v3, v4, v5])
      ⟨Same.refl H, none, none, none, none, rfl⟩ (fun i σ H' _ ⟨ss, _⟩ => SqL.of (ss _ _ Vs.l)) ?_ ?_⟩
    · rintro i x σ H1 hx ⟨s1, v2, v3, v4, v5, rfl⟩
      obtain ⟨v, hv, rfl⟩ : ∃ v, ws[i]? = some v ∧ x = V.ref v := by
        rw [List.getElem?_map] at hx
        cases e : ws[i]? with
        | none => rw [e] at hx; cases hx
        | some v => rw [e] at hx; exact ⟨v, rfl, (Option.some.inj hx).symm⟩
      have hi : i < os.length := by rw [← Vs.n]; exact (List.getElem?_eq_some_iff.mp hv).1
      obtain ⟨o, ho⟩ : ∃ o, os[i]? = some o := ⟨os[i], List.getElem?_eq_getElem hi⟩
      have ok := oks o (List.mem_of_getElem? ho)
      obtain ⟨f2, g, a1, b1, c1⟩ := ((Vs.same s1).at_ i v o hv ho).ex
      have g5 : o.grants.length ≤ 5 := by
        have := ok.len
        rcases ok.shape with ⟨a, _⟩ | ⟨_, a, _⟩ <;> omega
      refine ⟨v, _, rfl, SqT.of a1, rfl, _, _, rfl, _, _, rfl, _, _, rfl, rfl, ?_⟩
      refine ⟨_, rfl, (by show 3 ≤ sizeLine; decide), fun t nt => ?_⟩
      have s2 := same_upd (o := .tup [V.str "ready", V.str "done", V.str "failed"]) nt
      have b2 := s2 _ _ b1
      have c2 := s2 _ _ c1
      have elen : ((o.grants.map V.str).length : Int) = (o.grants.length : Int) := by rw [List.length_map]
      refine ⟨t, _, rfl, .inr (SqT.of upd_same), rfl, rfl, _, rfl, ?_⟩
      refine ifB (fun hs => ?A) (fun _ => ifF rfl ?B)
      case' A =>
        have hs : o.state = "ready" ∨ o.state = "done" ∨ o.state = "failed" := by
          have z : inV (V.str o.state) [V.str "ready", V.str "done", V.str "failed"] = true := hs
          rw [states_in] at z
          exact of_decide_eq_true z
        refine ⟨_, rfl, g, _, rfl, .inl (SqL.of c2), _, rfl, f2, _, _, _, rfl, rfl, SqT.of b2, at_of (j := 5) (v := V.int o.req) rfl rfl, rfl, _, rfl, ifF (by show (!decide (V.int ((o.grants.map V.str).length : Int) = V.int o.req)) = false; rw [elen, ok.full hs, decide_eq_true rfl]; rfl) ?_⟩
      all_goals
        refine ⟨_, rfl, f2, _, _, _, rfl, rfl, SqT.of b2, at_of (j := 0) (v := V.str o.maker) rfl rfl, _, rfl, g, _, rfl, .inl (SqL.of c2), rfl, flat_str _, _, rfl, ifF (by show inV (V.str o.maker) (o.grants.map V.str) = false; rw [inV_str]; exact decide_eq_false ok.nomk) ?_⟩
        refine ⟨_, rfl, g, o.grants, rfl, SqL.of c2, ok.nd, by omega, _, rfl, g, _, rfl, .inl (SqL.of c2), rfl, _, rfl, ifF (by show (!decide (V.int (o.grants.length : Int) = V.int ((o.grants.map V.str).length : Int))) = false; rw [elen, decide_eq_true rfl]; rfl) ?_⟩
        refine ⟨_, rfl, g, rfl, ⟨_, SqL.of c2⟩, fun D hD => lc_list (K := K) (a := g) (xs := o.grants.map V.str) (fun i H'' => Same (upd H1 t (.tup [V.str "ready", V.str "done", V.str "failed"])) H'' ∧ H'' D = some (.lst []))
          ⟨same_upd hD, upd_same⟩ (fun i H'' _ hh => SqL.of (hh.1 _ _ c2)) ?_ ?_⟩
        · rintro j y H2 hy ⟨s3, hD2⟩
          obtain ⟨by_, hby, rfl⟩ : ∃ z, o.grants[j]? = some z ∧ y = V.str z := by
            rw [List.getElem?_map] at hy
            cases e : o.grants[j]? with
            | none => rw [e] at hy; cases hy
            | some z => rw [e] at hy; exact ⟨z, rfl, (Option.some.inj hy).symm⟩
          have mby := List.mem_of_getElem? hby
          obtain ⟨r, er, ir, qr, hq, hle⟩ : ∃ r, o.role = some r ∧ IsRole r ∧ ∃ q, rs.lookup by_ = some q ∧ rank r ≤ rank q := by
            rcases ok.shape with ⟨_, _, e, _⟩ | ⟨_, _, r, er, ir, all⟩
            · rw [e] at mby; cases mby
            · obtain ⟨q, hq, hle⟩ := all by_ mby
              exact ⟨r, er, ir, q, hq, hle⟩
          have iq := (R.rol by_ qr hq).1
          have ev := valV_roles rs by_
          rw [hq] at ev
          have dg : DGet H2 dL (V.str by_) (some (V.str qr)) := by
            have z := DGet.k (k := Sum.inr by_) ((s1.trans (s2.trans s3)) _ _ R.d)
            rw [ev] at z
            exact z
          refine ⟨rfl, ?_⟩
          refine ⟨_, rfl, _, rfl, dL, V.str qr, rfl, dg, qr, rfl, iq, fun H3 s34 => ?_⟩
          refine ⟨_, rfl, f2, _, _, _, rfl, rfl, SqT.of ((s3.trans s34) _ _ b2), at_of (j := 6) (v := V.str r) rfl (by show some (roleV o.role) = _; rw [er]; rfl), r, rfl, ir, fun H4 s45 => ?_⟩
          refine ⟨_, _, rfl, rfl, _, rfl, ifF (decide_eq_false (by omega)) ?_⟩
          exact ⟨s3.trans (s34.trans s45), (s34.trans s45) _ _ hD2⟩
        · rintro H2 ⟨s3, hD2⟩
          refine ⟨D, [], rfl, .inl (SqL.of hD2), _, _, rfl, rfl, _, rfl, ifF (decide_eq_false (by decide)) ?_⟩
          exact ⟨s1.trans (s2.trans s3), _, _, _, _, rfl⟩
    · rintro σ H1 ⟨s1, v2, v3, v4, v5, rfl⟩
      exact kk H1 s1
end
end K51
namespace K51
open PySem L2
/-! ### the six users -/
structure UserAt (nm : Str) (j : Nat) (u : Str) : Prop where
  ex : ∃ i e, i < nm.cps.toList.length ∧ (e = 97 + j ∨ e = 103 + j) ∧ nm.cps.toList[i]? ≠ some e ∧ u.cps.toList = nm.cps.toList.set i e
theorem UserAt.ne {nm u u' : Str} {j j' : Nat} (h : UserAt nm j u) (h' : UserAt nm j' u') (l : j < 6) (l' : j' < 6) (d : j ≠ j') : u ≠ u' := by
  intro e
  subst e
  obtain ⟨i, c, hi, hc, hn, hu⟩ := h.ex
  obtain ⟨i', c', hi', hc', hn', hu'⟩ := h'.ex
  have q : nm.cps.toList.set i c = nm.cps.toList.set i' c' := hu.symm.trans hu'
  by_cases ei : i = i'
  · subst ei
    have z : (nm.cps.toList.set i c)[i]? = (nm.cps.toList.set i c')[i]? := by rw [q]
    rw [List.getElem?_set_self hi, List.getElem?_set_self hi] at z
    have z := Option.some.inj z
    omega
  · have z : (nm.cps.toList.set i c)[i]? = (nm.cps.toList.set i' c')[i]? := by rw [q]
    rw [List.getElem?_set_self hi, List.getElem?_set_ne (Ne.symm ei)] at z
    exact hn z.symm
theorem letter_of {e : Nat} (h1 : 97 ≤ e) (h2 : e ≤ 122) : e ∈ lettersL := by
  have h : ∀ e : Nat, e < 123 → 97 ≤ e → e ∈ lettersL := by decide +kernel
  exact h e (by omega) h1
theorem UserAt.ok {nm u : Str} {j : Nat} (h : UserAt nm j u) (hn : NameOk nm) (l : j < 6) : NameOk u := by
  obtain ⟨i, e, hi, he, _, hu⟩ := h.ex
  have le : e ∈ lettersL := letter_of (by omega) (by omega)
  refine ⟨by rw [hu, List.length_set]; exact hn.lo, by rw [hu, List.length_set]; exact hn.hi, fun c hc => ?_, fun c hc => ?_⟩
  · rw [hu] at hc
    by_cases ei : i = 0
    · subst ei
      rw [List.getElem?_set_self hi] at hc
      exact Option.some.inj hc ▸ le
    · rw [List.getElem?_set_ne ei] at hc
      exact hn.first c hc
  · rw [hu] at hc
    rcases List.mem_or_eq_of_mem_set hc with h | h
    · exact hn.every c h
    · exact .inl (h ▸ le)
theorem abc_at : ∀ j, j < 6 → ("abcdef" : Str).cps.toList[j]? = some (97 + j) := by decide +kernel
theorem ghi_at : ∀ j, j < 6 → ("ghijkl" : Str).cps.toList[j]? = some (103 + j) := by decide +kernel
def role4 : List Str := ["teller", "officer", "chief", "chief"]
theorem role4_at : ∀ j, j < 4 → ∃ z, role4[j]? = some z ∧ IsRole z := by
  intro j hj
  have h : j = 0 ∨ j = 1 ∨ j = 2 ∨ j = 3 := by omega
  rcases h with rfl | rfl | rfl | rfl
  · exact ⟨"teller", rfl, .inl rfl⟩
  · exact ⟨"officer", rfl, .inr (.inl rfl)⟩
  · exact ⟨"chief", rfl, .inr (.inr rfl)⟩
  · exact ⟨"chief", rfl, .inr (.inr rfl)⟩
def menuL : List Str := ["place", "place", "place", "rule", "grant", "grant", "grant", "grant", "grant", "grant", "reject", "withdraw", "complete", "complete", "fail", "expire"]
theorem menu_at {j : Nat} (h : j < 16) : ∃ z, menuL[j]? = some z ∧ z ∈ whats := by
  have q : ∀ z ∈ menuL, z ∈ whats := by decide +kernel
  have l : j < menuL.length := h
  exact ⟨menuL[j], List.getElem?_eq_getElem l, q _ (List.getElem_mem l)⟩
theorem lookup_no {rs : List (Str × Str)} {u : Str} (h : ∀ p ∈ rs, p.1 ≠ u) : rs.lookup u = none := by
  induction rs with
  | nil => rfl
  | cons p rs ih =>
    have hne : (u == p.1) = false := by simpa using fun z : u = p.1 => h p (List.mem_cons_self ..) z.symm
    obtain ⟨a, b⟩ := p
    rw [List.lookup_cons, hne]
    exact ih fun q hq => h q (List.mem_cons_of_mem _ hq)
theorem SqL.same {K : PySem.W.Frag} {H H' : Hp} {a : Addr} {xs : List V} (e : Same H H') (h : SqL K H a xs) : SqL K H' a xs := by
  rcases h with (h | ⟨o, h⟩) | h
  · exact .inl (.inl (e _ _ h))
  · exact .inl (.inr ⟨o, e _ _ h⟩)
  · exact .inr h
/-- something else is changed, no tuple -/
theorem OrsAt.out {A : Cl} {n : Nat} {own : List Addr} {H : Hp} {p dR dU l dN : Addr} {as gs : List Addr} {rs : List (Str × Str)} {os : List Ord} {b : Addr} {o : HO} (hb : ¬ b ∈ own) (ht : ∀ xs, H b ≠ some (.tup xs)) (h : OrsAt A n own H p dR dU l dN as gs rs os) :
    OrsAt A n own (upd H b o) p dR dU l dN as gs rs os := by
  have ne : ∀ x ∈ own, x ≠ b := fun x hx e => hb (e ▸ hx)
  rw [h.own_] at ne
  obtain ⟨dx, e1⟩ := h.ob
  obtain ⟨rk, e3, e3l, e3r⟩ := h.du
  obtain ⟨nk, e5, e5l, e5r⟩ := h.dn
  have keep : ∀ (t : Addr) (xs : List V), off own H t = some (.tup xs) → off own (upd H b o) t = some (.tup xs) := fun t xs e => by
    obtain ⟨n1, e1⟩ := off_some e
    rw [off_out n1, upd_ne fun z => ht xs (by rw [← z]; exact e1)]
    exact e1
  refine ⟨h.own_, ⟨dx, by rw [upd_ne (ne p (by simp))]; exact e1⟩, by rw [upd_ne (ne dR (by simp))]; exact h.dr, ⟨rk, by rw [upd_ne (ne dU (by simp))]; exact e3, e3l, fun k v e => ?_⟩, ⟨nk, by rw [upd_ne (ne dN (by simp))]; exact e5, e5l, e5r⟩,
    by rw [upd_ne (ne l (by simp))]; exact h.pl, h.al, h.gll, h.osn, fun i o' a g q1 q2 q3 => ?_, h.nd, h.ok, h.rol, h.rsn⟩
  · obtain ⟨t, rows, e4, e5, e6⟩ := e3r k v e
    refine ⟨t, rows, e4, keep _ _ e5, fun r hr => ?_⟩
    obtain ⟨t2, a, g, ro, q1, q2, q3⟩ := e6 r hr
    exact ⟨t2, a, g, ro, q1, keep _ _ q2, q3⟩
  · obtain ⟨⟨dx2, h1⟩, h2⟩ := h.at_ i o' a g q1 q2 q3
    have ma := List.mem_of_getElem? q2
    have mg := List.mem_of_getElem? q3
    exact ⟨⟨dx2, by rw [upd_ne (ne a (by simp [ma]))]; exact h1⟩, by rw [upd_ne (ne g (by simp [mg]))]; exact h2⟩
theorem OA.out {A : Cl} {n : Nat} {own : List Addr} {H : Hp} {p : Addr} {rs : List (Str × Str)} {os : List Ord} {b : Addr} {o : HO} (hb : ¬ b ∈ own) (ht : ∀ xs, H b ≠ some (.tup xs)) (h : OA A n own H p rs os) : OA A n own (upd H b o) p rs os := by
  obtain ⟨dR, dU, l, dN, as, gs, q⟩ := h
  exact ⟨dR, dU, l, dN, as, gs, q.out hb ht⟩
theorem OA.ok {A : Cl} {n : Nat} {own : List Addr} {H : Hp} {p : Addr} {rs : List (Str × Str)} {os : List Ord} (h : OA A n own H p rs os) : (∀ o ∈ os, OrdOk rs o) ∧ (∀ b q, rs.lookup b = some q → IsRole q ∧ SOk b) ∧ os.length ≤ n := by
  obtain ⟨dR, dU, l, dN, as, gs, q⟩ := h
  exact ⟨q.ok, q.rol, q.osn⟩
/-- what is kept outside stays where another thing is changed -/
theorem off_upd_ne {own : List Addr} {H : Hp} {a b : Addr} {o u : HO} (h : off own H b = some u) (hn : b ≠ a) : off own (upd H a o) b = some u := by
  obtain ⟨n1, e1⟩ := off_some h
  rw [off_out n1, upd_ne hn]
  exact e1
section
variable {P : Program} {w : World} {K : PySem.W.Frag} {mg : Str → Option Value} {base : Heap} {A : Cl}
theorem scLaw : FnScope ["_law_script", "_law_numbers_here", "_law_name_here", "_law_users", "_law_roles", "_law_orders", "_law_k", "_law_old", "_law_menu", "_law_cell", "_law_row", "_law_what", "_law_by", "_law_number", "_law_done", "_law_new"] ["_law_script"] (defScope sLaw) := ⟨rfl, rfl, rfl, by decide +kernel, rfl, by decide +kernel, by decide +kernel⟩
/-- the def law, by what it calls -/
structure Dfs (P : Program) (w : World) (K : PySem.W.Frag) (mg : Str → Option Value) (base : Heap) (A : Cl) : Prop where
  numbers : ∃ f fd, Dfn P w K mg base CX0 1 "_law_numbers" ["_law_cell", "_law_count_here"] spNumbers f fd
  name : ∃ f fd, Dfn P w K mg base CX0 1 "_law_name" ["_law_n", "_law_size"] spName f fd
  other : ∃ f fd, Dfn P w K mg base CX0 1 "_law_other" ["_law_text", "_law_n", "_law_new", "_law_second"] spOther f fd
  call : ∃ f fd, Dfn P w K mg base CX0 5 "_law_call" ["_law_orders", "_law_row", "_law_what", "_law_by", "_law_number"] (spCall A) f fd
  view : ∃ f fd, Dfn P w K mg base CX0 3 "_law_view" ["_law_orders", "_law_count_here"] (spView A) f fd
  count : ∃ f fd, Dfn P w K mg base CX0 3 "_law_count" ["_law_orders", "_law_count_here"] (spCount A) f fd
  steps : ∃ f fd, Dfn P w K mg base CX0 3 "_law_steps" ["_law_old", "_law_new", "_law_what", "_law_by", "_law_number", "_law_roles", "_law_day", "_law_done"] spSteps f fd
  covered : ∃ f fd, Dfn P w K mg base CX0 2 "_law_covered" ["_law_views", "_law_roles"] spCovered f fd
  init : ∃ f fd, Mk K A.C f ∧ FnOk P w K mg base CX0 1 f fd ["self"] (spOrsInit A) ∧ Binds K fd ["self"] []
  add : ∃ f fd, Mth P w K mg base CX0 3 A.C "add_user" ["self", "name", "role"] (spAddUser A) f fd
theorem ok_law {f : Addr} {fd : FuncData} (F : Fun K "law" "law" sLaw f fd) (T : Txt K mg A) (M : Dfs P w K mg base A) : FnOk P w K mg base CX0 6 f fd ["_law_script"] (spLaw K) := by
  obtain ⟨f1, fd1, D1⟩ := M.numbers
  obtain ⟨f2, fd2, D2⟩ := M.name
  obtain ⟨f3, fd3, D3⟩ := M.other
  obtain ⟨f4, fd4, D4⟩ := M.call
  obtain ⟨f5, fd5, D5⟩ := M.view
  obtain ⟨f6, fd6, D6⟩ := M.count
  obtain ⟨f7, fd7, D7⟩ := M.steps
  obtain ⟨f8, fd8, D8⟩ := M.covered
  obtain ⟨f9, fd9, MK, D9, B9⟩ := M.init
  obtain ⟨fa, fda, MA⟩ := M.add
  refine F.ok scLaw (fun vs H Q E h => ?_) (fun cdv AA outer s H vs Q E hr h => ?_)
  · obtain ⟨a, ns, rfl, _⟩ := h
    rfl
  · obtain ⟨a, ns, rfl, ha, hns, kk⟩ := h
    have hu := hu_of hr
    refine ⟨_, pss_cons (ps_set (i := 1) scLaw.nd rfl (Or.inl rfl) (pe_call D1.ok (hr.mono (by decide)) rfl D1.m D1.kp D1.b .nil pass0 (pa_cons pe_int (pa_cons pe_int pa_nil))))
      (C8.pss_cut (ps_if (pt_cmpR op_gt (pe_callB call_len_seq (by rfl) T.len PySem.boot_len (pa_cons (pv 0) pa_nil)) pe_int (nomark _)) (pss_one (ps_set (i := 1) scLaw.nd rfl (Or.inl rfl) (pe_call D1.ok (hr.mono (by decide)) rfl D1.m D1.kp D1.b .nil pass0 (pa_cons (pe_ix ix_list (pv 0) pe_int (fun _ _ => rfl)) (pa_cons pe_int pa_nil))))) pss_nil)
      (pss_cons (ps_set (i := 2) scLaw.nd rfl (Or.inl rfl) (pe_call D2.ok (hr.mono (by decide)) rfl D2.m D2.kp D2.b .nil pass0 (pa_cons (pe_ix ix_list (pv 1) pe_int (fun _ _ => rfl)) (pa_cons (pe_op op_add pe_int (pe_op op_mod (pe_callTy call_int1 (by rfl) T.int (by decide +kernel) (pa_cons (pe_ix ix_list (pv 1) pe_int (fun _ _ => rfl)) pa_nil)) pe_int)) pa_nil))))
      (pss_cons (ps_set (i := 3) scLaw.nd rfl (Or.inl rfl) (pe_lst pa_nil))
      (pss_cons (ps_set (i := 4) scLaw.nd rfl (Or.inl rfl) pe_dnewK)
      (pss_cons (ps_set (i := 5) scLaw.nd rfl (Or.inl rfl) (pe_make0 MK D9 (hr.mono (by decide)) rfl T.mgC B9 .nil pass0))
      (pss_cons (ps_for PassesOwn.never rfl (pi_range1 rfl T.range (pa_cons pe_int pa_nil)) (pg_name (i := 6) scLaw.nd rfl (Or.inl rfl))
        (pss_cons (ps_expr (pe_bm PySem.F.plainAttrs_list PySem.F.slot_list_append PySem.F.type_list_append mt_append (pv 3) (pa_cons (pe_call D3.ok (hr.mono (by decide)) rfl D3.m D3.kp D3.b .nil pass0 (pa_cons (pv 2) (pa_cons (pe_ix ix_list (pv 1) (pe_op op_add pe_int (pv 6)) (fun _ _ => rfl)) (pa_cons (pe_ix ix_str pe_str (pv 6) (fun _ _ => rfl)) (pa_cons (pe_ix ix_str pe_str (pv 6) (fun _ _ => rfl)) pa_nil))))) pa_nil)))
        (pss_cons (ps_dput hu (pv 4) (pe_ix ix_list (pv 3) (pv 6) (fun _ _ => rfl)) (pe_ix ix_tup (pe_tup (pa_cons pe_str (pa_cons pe_str (pa_cons pe_str (pa_cons pe_str pa_nil))))) (pe_op op_mod (pe_callTy call_int1 (by rfl) T.int (by decide +kernel) (pa_cons (pe_ix ix_list (pv 1) (pe_op op_add pe_int (pv 6)) (fun _ _ => rfl)) pa_nil)) pe_int) (fun _ _ => rfl)) rfl)
        (pss_one (ps_expr (pe_meth (pv 5) T.clC MA.m MA.ok (hr.mono (by decide)) MA.b .nil pass0 (pa_cons (pe_ix ix_list (pv 3) (pv 6) (fun _ _ => rfl)) (pa_cons (pe_dget hu (pv 4) (pe_ix ix_list (pv 3) (pv 6) (fun _ _ => rfl)) (by intro x y; rfl)) pa_nil))))))))
      (C8.pss_cut (ps_expr (pe_bm PySem.F.plainAttrs_list PySem.F.slot_list_append PySem.F.type_list_append mt_append (pv 3) (pa_cons (pe_ifExp (pt_cmpR op_lt (pe_callB call_len_str (by rfl) T.len PySem.boot_len (pa_cons (pv 2) pa_nil)) pe_int (nomark _)) (pe_op op_add_str (pv 2) pe_str) (pe_slice sl_str (pv 2) (po_some pe_int) po_none)) pa_nil)))
      (pss_cons (ps_set (i := 7) scLaw.nd rfl (Or.inl rfl) (pe_lst pa_nil))
      (pss_cons (ps_set (i := 8) scLaw.nd rfl (Or.inl rfl) (pe_tup (pa_cons pe_str (pa_cons pe_str (pa_cons pe_str (pa_cons pe_str (pa_cons pe_str (pa_cons pe_str (pa_cons pe_str (pa_cons pe_str (pa_cons pe_str (pa_cons pe_str (pa_cons pe_str (pa_cons pe_str pa_nil))))))))))))))
      (pss_cons (ps_set (i := 8) scLaw.nd rfl (Or.inl rfl) (pe_op op_catT (pv 8) (pe_tup (pa_cons pe_str (pa_cons pe_str (pa_cons pe_str (pa_cons pe_str pa_nil)))))))
      (pss_cons (ps_for PassesOwn.never rfl (pi_list (pe_op op_cat (pe_lst (pa_cons pe_int pa_nil)) (pe_slice sl_list (pv 0) po_none (po_some pe_int)))) (pg_name (i := 9) scLaw.nd rfl (Or.inl rfl))
        (pss_cons (ps_set (i := 10) scLaw.nd rfl (Or.inl rfl) (pe_call D1.ok (hr.mono (by decide)) rfl D1.m D1.kp D1.b .nil pass0 (pa_cons (pv 9) (pa_cons pe_int pa_nil))))
        (pss_cons (ps_set (i := 11) scLaw.nd rfl (Or.inl rfl) (pe_ix ix_tup (pv 8) (pe_op op_mod (pe_callTy call_int1 (by rfl) T.int (by decide +kernel) (pa_cons (pe_ix ix_list (pv 10) pe_int (fun _ _ => rfl)) pa_nil)) pe_int) (fun _ _ => rfl)))
        (pss_cons (ps_set (i := 12) scLaw.nd rfl (Or.inl rfl) (pe_ix ix_list (pv 3) (pe_op op_mod (pe_callTy call_int1 (by rfl) T.int (by decide +kernel) (pa_cons (pe_ix ix_list (pv 10) pe_int (fun _ _ => rfl)) pa_nil)) pe_int) (fun _ _ => rfl)))
        (pss_cons (ps_set (i := 13) scLaw.nd rfl (Or.inl rfl) (pe_op op_mod (pe_callTy call_int1 (by rfl) T.int (by decide +kernel) (pa_cons (pe_ix ix_list (pv 10) pe_int (fun _ _ => rfl)) pa_nil)) (pe_op op_add (pe_callB call_len_seq (by rfl) T.len PySem.boot_len (pa_cons (pv 7) pa_nil)) pe_int)))
        (pss_cons (ps_set (i := 14) scLaw.nd rfl (Or.inl rfl) (pe_call D4.ok (hr.mono (by decide)) rfl D4.m D4.kp D4.b .nil pass0 (pa_cons (pv 5) (pa_cons (pv 10) (pa_cons (pv 11) (pa_cons (pv 12) (pa_cons (pv 13) pa_nil)))))))
        (pss_cons (ps_set (i := 15) scLaw.nd rfl (Or.inl rfl) (pe_call D5.ok (hr.mono (by decide)) rfl D5.m D5.kp D5.b .nil pass0 (pa_cons (pv 5) (pa_cons (pe_call D6.ok (hr.mono (by decide)) rfl D6.m D6.kp D6.b .nil pass0 (pa_cons (pv 5) (pa_cons (pe_callB call_len_seq (by rfl) T.len PySem.boot_len (pa_cons (pv 7) pa_nil)) pa_nil))) pa_nil))))
        (pss_cons (ps_if (pt_not (pt_val (pe_call D7.ok (hr.mono (by decide)) rfl D7.m D7.kp D7.b .nil pass0 (pa_cons (pv 7) (pa_cons (pv 15) (pa_cons (pv 11) (pa_cons (pv 12) (pa_cons (pv 13) (pa_cons (pv 4) (pa_cons (pe_op op_mod (pe_callTy call_int1 (by rfl) T.int (by decide +kernel) (pa_cons (pe_ix ix_list (pv 10) pe_int (fun _ _ => rfl)) pa_nil)) pe_int) (pa_cons (pv 14) pa_nil))))))))))) (pss_one (ps_ret pe_bl)) pss_nil)
        (pss_one (ps_set (i := 7) scLaw.nd rfl (Or.inl rfl) (pv 15)))))))))))
      (pss_one (ps_ret (pe_call D8.ok (hr.mono (by decide)) rfl D8.m D8.kp D8.b .nil pass0 (pa_cons (pv 7) (pa_cons (pv 4) pa_nil)))))))))))))))), ?_⟩
    refine ⟨0, 14, rfl, by decide, fun q0 zs0 H1 s1 nq0 hq0 hz0 => ?_⟩
    refine ⟨fun σ' H' => Same H H' ∧ ∃ (q : Addr) (zs : List Int), σ' = [some (.ref a), some (.ref q), none, none, none, none, none, none, none, none, none, none, none, none, none, none] ∧ H' q = some (.lst (zs.map V.int)) ∧ zs.length = 14, ?_, ?_⟩
    · refine ⟨_, rfl, a, _, rfl, .inl (SqL.same s1 ha), _, _, rfl, rfl, _, rfl, ifB (fun hg => ?_) (fun _ => ?_)⟩
      · have hpos : 0 < ns.length := by
          have z := of_decide_eq_true hg
          rw [List.length_map] at z
          omega
        obtain ⟨c0, hc0⟩ : ∃ c, ns[0]? = some c := ⟨ns[0], List.getElem?_eq_getElem hpos⟩
        refine ⟨_, rfl, a, _, _, _, rfl, rfl, SqL.same s1 ha, at_of (j := 0) rfl (by rw [List.getElem?_map, hc0]; rfl), c0, 14, rfl, by decide, fun q2 zs2 H2 s2 nq2 hq2 hz2 => ?_⟩
        exact ⟨s1.trans s2, q2, zs2, rfl, hq2, hz2⟩
      · exact ⟨s1, q0, zs0, rfl, hq0, hz0⟩
    rintro σ1 H2 ⟨s2, q, zs, rfl, hq, hz⟩
    have row : ∀ {zs : List Int} {j : Nat} {z : Int}, zs[j]? = some z → (zs.map V.int)[j]? = some (V.int z) := fun h => by rw [List.getElem?_map, h]; rfl
    have at_ : ∀ j, j < 14 → ∃ z, zs[j]? = some z := fun j hj => ⟨zs[j]'(by omega), List.getElem?_eq_getElem _⟩
    obtain ⟨z0, h0⟩ := at_ 0 (by omega)
    obtain ⟨z1, h1⟩ := at_ 1 (by omega)
    obtain ⟨k1, ek1, hk1, hk2⟩ : ∃ k : Nat, 2 + z1 % 11 = (k : Int) ∧ 2 ≤ k ∧ k ≤ 12 := ⟨(2 + z1 % 11).toNat, by omega, by omega, by omega⟩
    refine ⟨_, rfl, q, _, _, _, rfl, rfl, SqL.of hq, at_of (j := 0) rfl (row h0), _, rfl, q, _, _, _, rfl, rfl, SqL.of hq, at_of (j := 1) rfl (row h1), .inl ⟨_, rfl, _, _, rfl, rfl, (by show (0 : Int) < 11; decide), _, _, rfl, rfl, z0, k1, (by show [V.int z0, V.int (2 + z1 % 11)] = [V.int z0, V.int (k1 : Int)]; rw [ek1]), hk1, hk2, fun nm hnm lnm => ?_⟩⟩
    refine ⟨Nat.zero_le _, fun ul nul => ?_⟩
    refine fun dL ndL => ?_
    refine fun p dx np ndx npdx => ?_
    refine ⟨p, dx, rfl, upd_same, fun own H3 O3 own3 fr3 => ⟨rfl, ?_⟩⟩
    have nuldL : ul ≠ dL := ne_of_none upd_same ndL
    have sA : Same H2 (upd H2 ul (.lst [])) := same_upd nul
    have sB := same_upd (o := .dK []) ndL
    have S3 : Same (upd (upd H2 ul (.lst [])) dL (.dK [])) (off own H3) := fun b o e => by
      have n1 : b ≠ p := ne_of_none e np
      have n2 : b ≠ dx := ne_of_none e ndx
      have e2 : (upd (upd (upd (upd H2 ul (.lst [])) dL (.dK [])) dx (.own p)) p (.ins A.C dx [])) b = some o := by rw [upd_ne n1, upd_ne n2]; exact e
      rw [off_out fun z => ?_]
      · exact fr3 b o e2 n1
      · rcases own3 b z with y | y
        · exact n1 y
        · rw [e2] at y; cases y
    have S2 : Same H (off own H3) := (s2.trans (sA.trans sB)).trans S3
    have G3q := S3 _ _ (sB _ _ (sA _ _ hq))
    have G3u : off own H3 ul = some (.lst []) := S3 _ _ (by rw [upd_ne nuldL, upd_same])
    have G3d : off own H3 dL = some (.dK []) := S3 _ _ upd_same
    have nulH : H ul = none := s2.free nul
    have ndLH : H dL = none := (s2.trans sA).free ndL
    clear S3 sA sB own3 fr3
    refine ⟨6, rfl, (by decide), (by decide), ?_⟩
    refine for_range (n := 6) (fun i σ H' => ∃ (v6 : Option V) (us : List Str) (rs : List (Str × Str)), σ = [some (.ref a), some (.ref q), some (.str nm), some (.ref ul), some (.ref dL), some (.ref p), v6, none, none, none, none, none, none, none, none, none] ∧
        OA A 0 own H' p rs [] ∧ Same H (off own H') ∧ off own H' q = some (.lst (zs.map V.int)) ∧ off own H' ul = some (.lst (us.map V.str)) ∧ off own H' dL = some (.dK (rolesKV rs)) ∧ rs.map Prod.fst = us ∧ us.length = i ∧ ∀ j u, us[j]? = some u → UserAt nm j u)
      ⟨none, [], [], rfl, O3, S2, G3q, G3u, G3d, rfl, rfl, fun j u e => by simp at e⟩ ?_ ?_
    · rintro i σ H4 hi ⟨v6, us, rs, rfl, O, S, Gq, Gu, Gd, eus, lus, uat⟩
      obtain ⟨za, hza⟩ := at_ (2 + i) (by omega)
      obtain ⟨zb, hzb⟩ := at_ (8 + i) (by omega)
      have lrs : rs.length = i := by rw [← eus, List.length_map] at lus; exact lus
      refine ⟨_, rfl, .inl ⟨rfl, _, SqL.of (off_le _ _ Gu)⟩, ?_⟩
      refine ⟨_, rfl, _, rfl, _, rfl, _, _, rfl, rfl, q, _, _, _, rfl, rfl, SqL.of (off_le _ _ Gq), at_of (j := 2 + i) (by omega) (row hza), _, rfl, _, _, _, rfl, rfl, (by decide), at_any (j := i) (by omega) (abc_at i hi), _, rfl, _, _, _, rfl, rfl, (by decide), at_any (j := i) (by omega) (ghi_at i hi),
        nm, za, 97 + i, 103 + i, rfl, hnm.lo, hnm.hi, by omega, fun u j e hj he hne hu2 => ?_⟩
      have ua : UserAt nm i u := ⟨j, e, hj, he, hne, hu2⟩
      have uok := ua.ok hnm hi
      refine ⟨ul, _, _, rfl, rfl, off_le _ _ Gu, small1000 (by rw [List.length_map]; omega), ?_⟩
      have nqu : q ≠ ul := ne_of_none hq nul
      have ndu : dL ≠ ul := nuldL.symm
      have ulo : ¬ ul ∈ own := (off_some Gu).1
      have dLo : ¬ dL ∈ own := (off_some Gd).1
      -- behind the append
      have O5 : OA A 0 own (upd H4 ul (.lst (us.map V.str ++ [V.str u]))) p rs [] := O.out ulo (fun xs z => by rw [off_le _ _ Gu] at z; cases z)
      have S5 : Same H (off own (upd H4 ul (.lst (us.map V.str ++ [V.str u])))) := fun b o e => off_upd_ne (S b o e) (ne_of_none e nulH)
      have Gq5 := off_upd_ne (a := ul) (o := .lst (us.map V.str ++ [V.str u])) Gq nqu
      have Gd5 := off_upd_ne (a := ul) (o := .lst (us.map V.str ++ [V.str u])) Gd ndu
      have Gu5 : off own (upd H4 ul (.lst (us.map V.str ++ [V.str u]))) ul = some (.lst ((us ++ [u]).map V.str)) := by rw [off_out ulo, upd_same, List.map_append]; rfl
      clear O S Gq Gd Gu
      generalize upd H4 ul (.lst (us.map V.str ++ [V.str u])) = H5 at *
      obtain ⟨jr, er, lr⟩ : ∃ j : Nat, zb % 4 = (j : Int) ∧ j < 4 := ⟨(zb % 4).toNat, by omega, by omega⟩
      obtain ⟨ro, hro, iro⟩ := role4_at jr lr
      have hlast : (us ++ [u])[i]? = some u := by rw [List.getElem?_append_right (by omega), lus, Nat.sub_self]; rfl
      refine ⟨(by show 4 ≤ sizeLine; decide), fun t nt => ?_⟩
      have s56 := same_upd (o := .tup [V.str "teller", V.str "officer", V.str "chief", V.str "chief"]) nt
      have ht : (upd H5 t (.tup [V.str "teller", V.str "officer", V.str "chief", V.str "chief"])) t = some (.tup (role4.map V.str)) := upd_same
      have o56 := off_same (own := own) s56
      replace O5 := O5.same s56
      replace S5 := S5.trans o56
      replace Gq5 := o56 _ _ Gq5
      replace Gd5 := o56 _ _ Gd5
      replace Gu5 := o56 _ _ Gu5
      clear s56 o56 nt
      generalize upd H5 t (.tup [V.str "teller", V.str "officer", V.str "chief", V.str "chief"]) = H6 at *
      have us_at : ((us ++ [u]).map V.str)[i]? = some (V.str u) := by rw [List.getElem?_map, hlast]; rfl
      refine ⟨_, rfl, _, rfl, _, _, rfl, rfl, q, _, _, _, rfl, rfl, SqL.of (off_le _ _ Gq5), at_of (j := 8 + i) (by omega) (row hzb), .inl ⟨_, rfl, _, _, rfl, rfl, (by show (0 : Int) < 4; decide), t, _, _, .str ro, rfl, rfl, SqT.of ht, at_of (j := jr) er (by rw [List.getElem?_map, hro]; rfl), ?_⟩⟩
      have hno : rs.lookup u = none := lookup_no fun pr hp ee => by
        obtain ⟨j2, hj2⟩ := List.mem_iff_getElem?.mp hp
        have l2 := (List.getElem?_eq_some_iff.mp hj2).1
        have h3 : us[j2]? = some pr.1 := by rw [← eus, List.getElem?_map, hj2]; rfl
        exact (uat j2 pr.1 h3).ne ua (by omega) hi (by omega) ee
      have hnoV : valV (rolesKV rs) (Sum.inr u : Key) = none := by rw [valV_roles, hno]; rfl
      have hlen : (rolesKV rs).length < sizeLine := by
        unfold rolesKV
        rw [List.length_map]
        exact small1000 (by omega)
      refine ⟨_, rfl, _, rfl, _, rfl, ul, _, _, _, rfl, rfl, SqL.of (off_le _ _ Gu5), at_of (j := i) (by omega) us_at, dL, _, rfl, DPut.k (k := Sum.inr u) (off_le _ _ Gd5) hlen, ?_⟩
      have ek : putK (rolesKV rs) (Sum.inr u : Key) (V.str ro) = rolesKV (rs ++ [(u, ro)]) := by
        rw [putK_new _ hnoV]
        unfold rolesKV
        rw [List.map_append]
        rfl
      rw [ek]
      have nqd : q ≠ dL := fun z => by
        rw [z, Gd5] at Gq5
        cases Gq5
      have O7 : OA A 0 own (upd H6 dL (.dK (rolesKV (rs ++ [(u, ro)])))) p rs [] := O5.out dLo (fun xs z => by rw [off_le _ _ Gd5] at z; cases z)
      have S7 : Same H (off own (upd H6 dL (.dK (rolesKV (rs ++ [(u, ro)]))))) := fun b o e => off_upd_ne (S5 b o e) (ne_of_none e ndLH)
      have Gq7 := off_upd_ne (a := dL) (o := .dK (rolesKV (rs ++ [(u, ro)]))) Gq5 nqd
      have Gu7 := off_upd_ne (a := dL) (o := .dK (rolesKV (rs ++ [(u, ro)]))) Gu5 nuldL
      have Gd7 : off own (upd H6 dL (.dK (rolesKV (rs ++ [(u, ro)])))) dL = some (.dK (rolesKV (rs ++ [(u, ro)]))) := by rw [off_out dLo, upd_same]
      clear O5 S5 Gq5 Gd5 Gu5 ht
      generalize upd H6 dL (.dK (rolesKV (rs ++ [(u, ro)]))) = H7 at *
      obtain ⟨dR, dU, l, dN, as, gs, O8⟩ := id O7
      obtain ⟨dxp, hp⟩ := O8.ob
      have dg : DGet H7 dL (V.str u) (some (V.str ro)) := by
        have z := DGet.k (k := Sum.inr u) (off_le _ _ Gd7)
        have ev : valV (rolesKV (rs ++ [(u, ro)])) (Sum.inr u : Key) = some (V.str ro) := by
          rw [valV_roles, List.lookup_append, hno]
          simp
        rw [ev] at z
        exact z
      refine ⟨_, rfl, p, dxp, _, rfl, hp, pF_no _ _ _ _ (by decide +kernel), _, rfl, _, rfl, ul, _, _, _, rfl, rfl, SqL.of (off_le _ _ Gu7), at_of (j := i) (by omega) us_at, _, rfl, _, rfl, _, rfl, ul, _, _, _, rfl, rfl, SqL.of (off_le _ _ Gu7), at_of (j := i) (by omega) us_at, dL, V.str ro, rfl, dg,
        p, own, 0, rs, u, ro, rfl, O7, uok, iro, hno, by omega, fun H8 O9 s78 => ?_⟩
      refine ⟨_, us ++ [u], rs ++ [(u, ro)], rfl, O9, S7.trans s78, s78 _ _ Gq7, s78 _ _ Gu7, s78 _ _ Gd7, by rw [List.map_append, eus]; rfl, by rw [List.length_append, lus]; rfl, fun j2 u2 e2 => ?_⟩
      by_cases hj2 : j2 < us.length
      · rw [List.getElem?_append_left hj2] at e2
        exact uat j2 u2 e2
      · have l2 := (List.getElem?_eq_some_iff.mp e2).1
        rw [List.length_append] at l2
        have l1 : [u].length = 1 := rfl
        have : j2 = i := by omega
        subst this
        rw [hlast] at e2
        cases e2
        exact ua
    · rintro σ H4 ⟨v6, us, rs, rfl, O, S, Gq, Gu, Gd, eus, lus, uat⟩
      have ulo : ¬ ul ∈ own := (off_some Gu).1
      refine ⟨fun σ' H' => ∃ (v6 : Option V) (us : List Str) (rs : List (Str × Str)), σ' = [some (.ref a), some (.ref q), some (.str nm), some (.ref ul), some (.ref dL), some (.ref p), v6, none, none, none, none, none, none, none, none, none] ∧
        OA A 0 own H' p rs [] ∧ Same H (off own H') ∧ off own H' ul = some (.lst (us.map V.str)) ∧ off own H' dL = some (.dK (rolesKV rs)) ∧ us.length = 7, ?_, ?_⟩
      · have zl : nm.length = nm.cps.toList.length := len_codes nm
        have hi12 := hnm.hi
        have zs12 : nm.length ≤ sizeLine := Nat.le_trans (by omega : nm.length ≤ 12) (by decide)
        refine ⟨_, rfl, .inl ⟨rfl, _, SqL.of (off_le _ _ Gu)⟩, ?_⟩
        have go : ∀ z : Str, ∃ (l : Addr) (xs : List V) (y : V), V.ref ul = .ref l ∧ [V.str z] = [y] ∧ H4 l = some (.lst xs) ∧ xs.length < sizeLine ∧ ∃ (v6' : Option V) (us : List Str) (rs : List (Str × Str)), ([some (.ref a), some (.ref q), some (.str nm), some (.ref ul), some (.ref dL), some (.ref p), v6, none, none, none, none, none, none, none, none, none] : L2.St) = [some (.ref a), some (.ref q), some (.str nm), some (.ref ul), some (.ref dL), some (.ref p), v6', none, none, none, none, none, none, none, none, none] ∧
            OA A 0 own (upd H4 l (.lst (xs ++ [y]))) p rs [] ∧ Same H (off own (upd H4 l (.lst (xs ++ [y])))) ∧ off own (upd H4 l (.lst (xs ++ [y]))) ul = some (.lst (us.map V.str)) ∧ off own (upd H4 l (.lst (xs ++ [y]))) dL = some (.dK (rolesKV rs)) ∧ us.length = 7 := fun z => by
          refine ⟨ul, us.map V.str, .str z, rfl, rfl, off_le _ _ Gu, small1000 (by rw [List.length_map]; omega), v6, us ++ [z], rs, rfl, O.out ulo (fun xs y => by rw [off_le _ _ Gu] at y; cases y), fun b o e => off_upd_ne (S b o e) (ne_of_none e nulH), ?_, off_upd_ne Gd nuldL.symm, by rw [List.length_append, lus]; rfl⟩
          rw [off_out ulo, upd_same, List.map_append]
          rfl
        refine ⟨_, rfl, nm, rfl, zs12, _, _, rfl, rfl, _, rfl, ifB (fun hlt => ?_) (fun _ => ?_)⟩
        · refine ⟨_, rfl, _, _, rfl, rfl, ?_, ?_⟩
          · rw [zl]
            exact Nat.le_trans (show nm.cps.toList.length + 1 ≤ 13 by omega) (by decide)
          · exact go _
        · refine ⟨_, rfl, _, rfl, nm, rfl, zs12, ?_⟩
          exact go _
      · rintro σ3 H5 ⟨w6, us, rs, rfl, O, S, Gu, Gd, lus⟩
        clear uat eus
        have ha5 : SqL K H5 a (ns.map V.int) := SqL.same (S.trans off_le) ha
        refine ⟨Nat.zero_le _, fun lo nlo => ?_⟩
        have s6 := same_upd (o := .lst []) nlo
        have hlo : (upd H5 lo (.lst [])) lo = some (.lst []) := upd_same
        have lono : ¬ lo ∈ own := fun z => O.tracked lo z nlo
        generalize upd H5 lo (.lst []) = H6 at *
        refine ⟨(by show 12 ≤ sizeLine; decide), fun m1 nm1 => ?_⟩
        have s7 := same_upd (o := .tup [V.str "place", V.str "place", V.str "place", V.str "rule", V.str "grant", V.str "grant", V.str "grant", V.str "grant", V.str "grant", V.str "grant", V.str "reject", V.str "withdraw"]) nm1
        have hm1 := upd_same (H := H6) (a := m1) (o := .tup [V.str "place", V.str "place", V.str "place", V.str "rule", V.str "grant", V.str "grant", V.str "grant", V.str "grant", V.str "grant", V.str "grant", V.str "reject", V.str "withdraw"])
        generalize upd H6 m1 (.tup [V.str "place", V.str "place", V.str "place", V.str "rule", V.str "grant", V.str "grant", V.str "grant", V.str "grant", V.str "grant", V.str "grant", V.str "reject", V.str "withdraw"]) = H7 at *
        refine ⟨_, rfl, (by show 4 ≤ sizeLine; decide), fun m2 nm2 => ?_⟩
        have s8 := same_upd (o := .tup [V.str "complete", V.str "complete", V.str "fail", V.str "expire"]) nm2
        have hm2 := upd_same (H := H7) (a := m2) (o := .tup [V.str "complete", V.str "complete", V.str "fail", V.str "expire"])
        generalize upd H7 m2 (.tup [V.str "complete", V.str "complete", V.str "fail", V.str "expire"]) = H8 at *
        refine ⟨m1, m2, _, _, rfl, rfl, SqT.of (s8 _ _ hm1), SqT.of hm2, (fun z => by cases z), (by show 16 ≤ sizeLine; decide), (fun z => by cases z), fun _ mn nmn => ?_⟩
        have s9 := same_upd (o := .tup (menuL.map V.str)) nmn
        have hmn := upd_same (H := H8) (a := mn) (o := .tup (menuL.map V.str))
        have em : [V.str "place", V.str "place", V.str "place", V.str "rule", V.str "grant", V.str "grant", V.str "grant", V.str "grant", V.str "grant", V.str "grant", V.str "reject", V.str "withdraw"] ++ [V.str "complete", V.str "complete", V.str "fail", V.str "expire"] = menuL.map V.str := rfl
        rw [em]
        generalize upd H8 mn (.tup (menuL.map V.str)) = H9 at *
        refine ⟨(by show 1 ≤ sizeLine; decide), fun c1 nc1 => ?_⟩
        have s10 := same_upd (o := .lst [V.int 5]) nc1
        have hc1 := upd_same (H := H9) (a := c1) (o := .lst [V.int 5])
        generalize upd H9 c1 (.lst [V.int 5]) = H10 at *
        have s510 := s6.trans (s7.trans (s8.trans (s9.trans s10)))
        refine ⟨_, rfl, _, rfl, a, _, rfl, SqL.same s510 ha5, fun c2 nc2 => ?_⟩
        have s11 := same_upd (o := .lst (cutV (ns.map V.int) none (some 63))) nc2
        have hc2 := upd_same (H := H10) (a := c2) (o := .lst (cutV (ns.map V.int) none (some 63)))
        generalize upd H10 c2 (.lst (cutV (ns.map V.int) none (some 63))) = H11 at *
        have lcut : (cutV (ns.map V.int) none (some 63)).length ≤ 63 := by
          have z := cutV_length (ns.map V.int) none (some 63)
          rw [List.length_map] at z
          omega
        refine ⟨c1, c2, _, _, rfl, rfl, s11 _ _ hc1, hc2, Nat.le_of_lt (small1000 (by show 1 + _ ≤ 1000; omega)), fun cl ncl => ?_⟩
        obtain ⟨cs, ecs, lcs⟩ : ∃ cs : List Int, [V.int 5] ++ cutV (ns.map V.int) none (some 63) = cs.map V.int ∧ cs.length ≤ 64 := by
          refine ⟨5 :: ((ns.drop (HT.sIx (ns.map V.int).length 0 none)).take (HT.sIx (ns.map V.int).length (ns.map V.int).length (some 63) - HT.sIx (ns.map V.int).length 0 none)), ?_, ?_⟩
          · unfold cutV
            rw [List.map_cons, List.map_take, List.map_drop]
            rfl
          · rw [List.length_cons, List.length_take, List.length_drop]
            omega
        rw [ecs]
        have s12 := same_upd (o := .lst (cs.map V.int)) ncl
        have hcl := upd_same (H := H11) (a := cl) (o := .lst (cs.map V.int))
        generalize upd H11 cl (.lst (cs.map V.int)) = H12 at *
        have s912 := s10.trans (s11.trans s12)
        have s512 := s510.trans (s11.trans s12)
        have mno : ¬ mn ∈ own := fun z => ((O.same (s6.trans (s7.trans s8))).tracked mn z) nmn
        have clo : ¬ cl ∈ own := fun z => ((O.same (s510.trans s11)).tracked cl z) ncl
        have O12 := O.same s512
        have o12 := off_same (own := own) s512
        have Gu12 := o12 _ _ Gu
        have Gd12 := o12 _ _ Gd
        have Gm12 : off own H12 mn = some (.tup (menuL.map V.str)) := by rw [off_out mno]; exact s912 _ _ hmn
        have Gc12 : off own H12 cl = some (.lst (cs.map V.int)) := by rw [off_out clo]; exact hcl
        have Go12 : off own H12 lo = some (.lst []) := by rw [off_out lono]; exact ((s7.trans s8).trans (s9.trans s912)) _ _ hlo
        have V12 : VsAt (off own H12) lo [] [] := ⟨Go12, rfl, fun i v o e => by simp at e⟩
        clear s6 s7 s8 s9 s10 s11 s12 s510 s912 s512 o12 O Gu Gd S hm1 hm2 hmn hc1 hc2 hcl hlo
        refine ⟨cl, rfl, ⟨_, SqL.of (off_le _ _ Gc12)⟩, ?_⟩
        refine for_list (K := K) (a := cl) (xs := cs.map V.int) (fun i σ H' => ∃ (own' : List Addr) (os : List Ord) (old : Addr) (ws : List Addr) (v9 v10 v11 v12 v13 v14 v15 : Option V),
            σ = [some (.ref a), some (.ref q), some (.str nm), some (.ref ul), some (.ref dL), some (.ref p), w6, some (.ref old), some (.ref mn), v9, v10, v11, v12, v13, v14, v15] ∧
            OA A i own' H' p rs os ∧ Same (off own H12) (off own' H') ∧ VsAt (off own' H') old ws os)
          ⟨own, [], lo, [], none, none, none, none, none, none, none, rfl, O12, Same.refl _, V12⟩
          (fun i σ H' _ ⟨own', os, old, ws, _, _, _, _, _, _, _, _, _, ss, _⟩ => SqL.of (off_le _ _ (ss _ _ Gc12))) ?_ ?_
        · rintro i x σ H1 hx ⟨own1, os, old, ws, v9, v10, v11, v12, v13, v14, v15, rfl, O1, S1, V1⟩
          obtain ⟨c, hc, rfl⟩ : ∃ c, cs[i]? = some c ∧ x = V.int c := by
            rw [List.getElem?_map] at hx
            cases e : cs[i]? with
            | none => rw [e] at hx; cases hx
            | some c => rw [e] at hx; exact ⟨c, rfl, (Option.some.inj hx).symm⟩
          have hi : i < 64 := by
            have := (List.getElem?_eq_some_iff.mp hc).1
            omega
          obtain ⟨oks, rols, osn⟩ := O1.ok
          refine ⟨_, rfl, c, 10, rfl, by decide, fun r zr H2 s12 nr hr2 lr => ?_⟩
          have rno : ¬ r ∈ own1 := fun z => O1.tracked r z nr
          have O2 := O1.same s12
          have o12 := off_same (own := own1) s12
          have S2 := S1.trans o12
          have V2 := V1.same o12
          have Gr2 : off own1 H2 r = some (.lst (zr.map V.int)) := by rw [off_out rno]; exact hr2
          have rat : ∀ j, j < 10 → ∃ z, zr[j]? = some z := fun j hj => ⟨zr[j]'(by omega), List.getElem?_eq_getElem _⟩
          obtain ⟨y0, g0⟩ := rat 0 (by omega)
          obtain ⟨y1, g1⟩ := rat 1 (by omega)
          obtain ⟨y2, g2⟩ := rat 2 (by omega)
          obtain ⟨y7, g7⟩ := rat 7 (by omega)
          obtain ⟨jw, ew, lw⟩ : ∃ j : Nat, y0 % 16 = (j : Int) ∧ j < 16 := ⟨(y0 % 16).toNat, by omega, by omega⟩
          obtain ⟨jb, eb, lb⟩ : ∃ j : Nat, y1 % 7 = (j : Int) ∧ j < 7 := ⟨(y1 % 7).toNat, by omega, by omega⟩
          obtain ⟨what, hwhat, inw⟩ := menu_at lw
          obtain ⟨b, hb⟩ : ∃ b, us[jb]? = some b := ⟨us[jb]'(by omega), List.getElem?_eq_getElem _⟩
          have L2r := SqL.of (K := K) (off_le _ _ Gr2)
          refine ⟨_, rfl, _, rfl, r, _, _, _, rfl, rfl, L2r, at_of (j := 0) rfl (row g0), .inl ⟨_, rfl, _, _, rfl, rfl, (by show (0 : Int) < 16; decide), mn, _, _, .str what, rfl, rfl, SqT.of (off_le _ _ (S2 _ _ Gm12)), at_of (j := jw) ew (by rw [List.getElem?_map, hwhat]; rfl), ?_⟩⟩
          refine ⟨_, rfl, _, rfl, r, _, _, _, rfl, rfl, L2r, at_of (j := 1) rfl (row g1), .inl ⟨_, rfl, _, _, rfl, rfl, (by show (0 : Int) < 7; decide), ul, _, _, .str b, rfl, rfl, SqL.of (off_le _ _ (S2 _ _ Gu12)), at_of (j := jb) eb (by rw [List.getElem?_map, hb]; rfl), ?_⟩⟩
          have ews : (ws.map V.ref).length = os.length := by rw [List.length_map, V1.n]
          refine ⟨_, rfl, r, _, _, _, rfl, rfl, L2r, at_of (j := 2) rfl (row g2), .inl ⟨_, rfl, _, rfl, old, _, rfl, .inl (SqL.of (off_le _ _ V2.l)), _, _, rfl, rfl, _, _, rfl, rfl, (by omega), ?_⟩⟩
          refine ⟨_, rfl, _, rfl, _, rfl, _, rfl, _, rfl, p, r, own1, i, rs, os, zr, what, b, y2 % (((ws.map V.ref).length : Int) + 2), y7, rfl, O2, by omega, Gr2, lr, inw, g7, fun own3 H3 ns3 k O3 s23 cr => ?_⟩
          have S3 := S2.trans s23
          have V3 := V2.same s23
          have R3 := s23 _ _ Gr2
          have lns : ns3.length = os.length ∨ ns3.length = os.length + 1 := by
            rcases cr.more with h | h
            · exact .inl h
            · exact .inr h.1
          refine ⟨_, rfl, _, rfl, _, rfl, old, _, rfl, .inl (SqL.of (off_le _ _ V3.l)), p, own3, i + 1, rs, ns3, os.length, (by rw [ews]; rfl), O3, by omega, lns, fun H4 s34 => ?_⟩
          have O4 := O3.same s34
          refine ⟨p, own3, i + 1, rs, ns3, rfl, O4, by omega, fun nq nws H5 s45 Vn => ?_⟩
          have o35 := off_same (own := own3) (s34.trans s45)
          have S5 := S3.trans o35
          have V5 := V3.same o35
          have Vn5 : VsAt (off own3 H5) nq nws ns3 := Vn.same (nw_off O4.tracked)
          have R5 := o35 _ _ R3
          have O5 := O4.same s45
          refine ⟨_, rfl, _, rfl, _, rfl, _, rfl, _, rfl, _, rfl, _, rfl, r, _, _, _, rfl, rfl, SqL.of (off_le _ _ R5), at_of (j := 7) rfl (row g7), .inl ⟨_, rfl, _, _, rfl, rfl, (by show (0 : Int) < 33; decide), _, rfl,
            old, nq, dL, ws, nws, os, ns3, rs, what, b, y2 % (((ws.map V.ref).length : Int) + 2), y7 % 33, k, rfl, V5.same off_le, Vn5.same off_le, ⟨off_le _ _ (S5 _ _ Gd12), rols⟩, oks, by omega, cr, fun H6 s56 => ⟨_, rfl, ifF rfl ?_⟩⟩⟩
          have o56 := off_same (own := own3) s56
          refine ⟨_, rfl, own3, ns3, nq, nws, _, _, _, _, _, _, _, rfl, O5.same s56, S5.trans o56, Vn5.same o56⟩
        · rintro σ H1 ⟨own1, os, old, ws, v9, v10, v11, v12, v13, v14, v15, rfl, O1, S1, V1⟩
          obtain ⟨oks, rols, osn⟩ := O1.ok
          rw [List.length_map] at osn
          exact ⟨_, rfl, _, rfl, old, dL, ws, os, rs, rfl, V1.same off_le, ⟨off_le _ _ (S1 _ _ Gd12), rols⟩, oks, by omega, fun H2 s12 => kk H2⟩
end
end K51
namespace K51
open PySem L2
/-! ### what the top has written -/
section
variable (K : PySem.W.Frag)
abbrev DefAt (x : Str) (st : Stmt) : Prop := ∃ (f : Addr) (oc : Value) (od : Option Addr) (kV dc pm : Value) (an : Option Addr) (cd ct : Value) (sl : Array (Option Value)),
  PySem.W.nsIn K mainGlobals x = some (some (.ref f)) ∧ K.lookup f = some ⟨oc, od, .func (PySem.W.fnOf x x (defArgs st) (defBody st) (defScope st) .none kV dc pm an cd ct), sl⟩ ∧ PySem.W.codeIn K cd x = true ∧ PySem.W.keepIn K (.ref f) = true
abbrev MethAt (C : Addr) (x q : Str) (st : Stmt) : Prop := ∃ (f : Addr) (oc : Value) (od : Option Addr) (kV dc pm : Value) (an : Option Addr) (cd ct : Value) (sl : Array (Option Value)),
  PySem.W.findIn K (.ref C) x = some (some (.ref f)) ∧ PySem.W.isFn K (.ref f) = true ∧ K.lookup f = some ⟨oc, od, .func (PySem.W.fnOf x q (defArgs st) (defBody st) (defScope st) .none kV dc pm an cd ct), sl⟩ ∧ PySem.W.codeIn K cd q = true ∧ PySem.W.keepIn K (.ref f) = true
abbrev ClsAt (C : Addr) : Prop := PySem.W.plainGet K C Str.empty = true ∧ PySem.W.hasDictIn K C = true ∧ PySem.W.plainOver K C = true ∧ PySem.W.findIn K (.ref C) "__setattr__" = some (some (.builtin "object.__setattr__")) ∧ PySem.W.makesIn K C = true ∧ PySem.W.keepIn K (.ref C) = true
abbrev ErAt (BE : Addr) (x : Str) : Prop := ∃ c : Addr, PySem.W.nsIn K mainGlobals x = some (some (.ref c)) ∧ PySem.W.excIn K c [.type "ValueError", .type "Exception", .type "BaseException", .type "object"] "ValueError.__new__" = true ∧
  PySem.W.keepIn K (.ref c) = true ∧ PySem.W.subIn K (.ref c) (.type "BaseException") = some true ∧ PySem.W.typeIn K (.ref c) = some (.type "type") ∧ PySem.W.subIn K (.ref c) (.ref BE) = some true
end
section
variable {K : PySem.W.Frag} {h : Heap} {mg : Str → Option Value}
theorem DefAt.mk {x : Str} {st : Stmt} {f : Addr} {oc : Value} {od : Option Addr} {kV dc pm : Value} {an : Option Addr} {cd ct : Value} {sl : Array (Option Value)} (a : PySem.W.nsIn K mainGlobals x = some (some (.ref f)))
    (l : K.lookup f = some ⟨oc, od, .func (PySem.W.fnOf x x (defArgs st) (defBody st) (defScope st) .none kV dc pm an cd ct), sl⟩) (c : PySem.W.codeIn K cd x = true) (k : PySem.W.keepIn K (.ref f) = true) : DefAt K x st :=
  ⟨f, oc, od, kV, dc, pm, an, cd, ct, sl, a, l, c, k⟩
theorem MethAt.mk {C : Addr} {x q : Str} {st : Stmt} {f : Addr} {oc : Value} {od : Option Addr} {kV dc pm : Value} {an : Option Addr} {cd ct : Value} {sl : Array (Option Value)} (a : PySem.W.findIn K (.ref C) x = some (some (.ref f))) (i : PySem.W.isFn K (.ref f) = true)
    (l : K.lookup f = some ⟨oc, od, .func (PySem.W.fnOf x q (defArgs st) (defBody st) (defScope st) .none kV dc pm an cd ct), sl⟩) (c : PySem.W.codeIn K cd q = true) (k : PySem.W.keepIn K (.ref f) = true) : MethAt K C x q st :=
  ⟨f, oc, od, kV, dc, pm, an, cd, ct, sl, a, i, l, c, k⟩
theorem ErAt.mk {BE c : Addr} {x : Str} (a : PySem.W.nsIn K mainGlobals x = some (some (.ref c))) (e : PySem.W.excIn K c [.type "ValueError", .type "Exception", .type "BaseException", .type "object"] "ValueError.__new__" = true)
    (k : PySem.W.keepIn K (.ref c) = true) (b : PySem.W.subIn K (.ref c) (.type "BaseException") = some true) (t : PySem.W.typeIn K (.ref c) = some (.type "type")) (s : PySem.W.subIn K (.ref c) (.ref BE) = some true) : ErAt K BE x := ⟨c, a, e, k, b, t, s⟩
theorem DefAt.out {x : Str} {st : Stmt} (X : K.In h) (G : h.Ns mainGlobals mg) (d : DefAt K x st) : ∃ f fd, Fun K x x st f fd ∧ mg x = some (.ref f) := by
  obtain ⟨f, oc, od, kV, dc, pm, an, cd, ct, sl, a, l, c, k⟩ := d
  exact ⟨f, _, fun_mk l c k, PySem.W.mg_of X G a⟩
theorem MethAt.out {C : Addr} {x q : Str} {st : Stmt} (d : MethAt K C x q st) : ∃ f fd, Fun K x q st f fd ∧ Meth K C x f := by
  obtain ⟨f, oc, od, kV, dc, pm, an, cd, ct, sl, a, i, l, c, k⟩ := d
  exact ⟨f, _, fun_mk l c k, ⟨a, i, k⟩⟩
/-- an error of the class at c is what «except BankError» names -/
theorem exm_of {c S : Addr} (h1 : PySem.W.subIn K (.ref S) (.type "BaseException") = some true) (h2 : PySem.W.isClsIn K S = true) (h3 : PySem.W.typeIn K (.ref S) = some (.type "type")) (h4 : PySem.W.subIn K (.ref c) (.ref S) = some true) :
    PySem.W.exmOne K (.ref c) (.ref S) = some true := by
  have e1 : (PySem.W.subIn K (.ref S) (.type "BaseException") == some true) = true := by rw [h1] <;> rfl
  have e2 : ((PySem.W.clsIn K S).isSome && PySem.W.typeIn K (.ref S) == some (.type "type")) = true := by
    have h2' : (PySem.W.clsIn K S).isSome = true := h2
    rw [h2', h3] <;> rfl
  show (if (PySem.W.subIn K (.ref S) (.type "BaseException") == some true) = true then (if ((PySem.W.clsIn K S).isSome && PySem.W.typeIn K (.ref S) == some (.type "type")) = true then PySem.W.subIn K (.ref c) (.ref S) else none) else none) = some true
  rw [if_pos e1, if_pos e2]
  exact h4
theorem ErAt.out {BE : Addr} {x : Str} (X : K.In h) (G : h.Ns mainGlobals mg) (h1 : PySem.W.subIn K (.ref BE) (.type "BaseException") = some true) (h2 : PySem.W.isClsIn K BE = true) (h3 : PySem.W.typeIn K (.ref BE) = some (.type "type")) (e : ErAt K BE x) :
    ∃ c, Er K mg BE x c := by
  obtain ⟨c, a, x, k, b, t, s⟩ := e
  exact ⟨c, PySem.W.mg_of X G a, x, k, b, t, exm_of h1 h2 h3 s⟩
end
theorem all_mk {l : PySem.W.OpenLaw} {w : World} {K : PySem.W.Frag} {h : Heap} {mg : Str → Option Value} {fa D C BE ra : Addr} (X : K.In h) (G : h.Ns mainGlobals mg) (hfa : mg "law" = some (.ref fa))
    {tI1 tI2 tI3 : Tok} {tS1 tS2 tR1 tR2 tR3 : Tok} {nR : Nat} {slR : Array (Option Value)}
    (aD : PySem.W.nsIn K mainGlobals "Order" = some (some (.ref D)))
    (aC : PySem.W.nsIn K mainGlobals "Orders" = some (some (.ref C)))
    (aB : PySem.W.nsIn K mainGlobals "BankError" = some (some (.ref BE)))
    (cD : ClsAt K D)
    (cC : ClsAt K C)
    (nD_maker : PySem.W.findIn K (.ref D) "maker" = some none)
    (nD_kind : PySem.W.findIn K (.ref D) "kind" = some none)
    (nD_amount : PySem.W.findIn K (.ref D) "amount" = some none)
    (nD_key : PySem.W.findIn K (.ref D) "key" = some none)
    (nD_until : PySem.W.findIn K (.ref D) "until" = some none)
    (nD_required : PySem.W.findIn K (.ref D) "required" = some none)
    (nD_role : PySem.W.findIn K (.ref D) "role" = some none)
    (nD_grants : PySem.W.findIn K (.ref D) "grants" = some none)
    (nD_state : PySem.W.findIn K (.ref D) "state" = some none)
    (nC_roles : PySem.W.findIn K (.ref C) "roles" = some none)
    (nC_rules : PySem.W.findIn K (.ref C) "rules" = some none)
    (nC_placed : PySem.W.findIn K (.ref C) "placed" = some none)
    (nC_numbers_by_key : PySem.W.findIn K (.ref C) "numbers_by_key" = some none)
    (b1 : PySem.W.subIn K (.ref BE) (.type "BaseException") = some true)
    (b2 : PySem.W.isClsIn K BE = true)
    (b3 : PySem.W.typeIn K (.ref BE) = some (.type "type"))
    (eNotAllowed : ErAt K BE "NotAllowed")
    (eMissing : ErAt K BE "Missing")
    (eRefused : ErAt K BE "Refused")
    (z_len : PySem.W.nsIn K mainGlobals "len" = some none)
    (z_all : PySem.W.nsIn K mainGlobals "all" = some none)
    (z_range : PySem.W.nsIn K mainGlobals "range" = some none)
    (z_list : PySem.W.nsIn K mainGlobals "list" = some none)
    (z_tuple : PySem.W.nsIn K mainGlobals "tuple" = some none)
    (z_enum : PySem.W.nsIn K mainGlobals "enumerate" = some none)
    (z_set : PySem.W.nsIn K mainGlobals "set" = some none)
    (z_int : PySem.W.nsIn K mainGlobals "int" = some none)
    (z_str : PySem.W.nsIn K mainGlobals "str" = some none)
    (kLim : PySem.W.nsIn K mainGlobals "LIMIT" = some (some (.int 1000000000 tI1)))
    (kDay : PySem.W.nsIn K mainGlobals "LAST_DAY" = some (some (.int 36524 tI2)))
    (kMost : PySem.W.nsIn K mainGlobals "MOST_ORDERS" = some (some (.int 500 tI3)))
    (kLet : PySem.W.nsIn K mainGlobals "LETTERS" = some (some (.str "abcdefghijklmnopqrstuvwxyz" tS1)))
    (kDig : PySem.W.nsIn K mainGlobals "DIGITS" = some (some (.str "0123456789" tS2)))
    (kRol : PySem.W.nsIn K mainGlobals "ROLES" = some (some (.ref ra)))
    (lRol : K.lookup ra = some ⟨.type "tuple", none, .seq #[.str "teller" tR1, .str "officer" tR2, .str "chief" tR3] nR, slR⟩)
    (d_isAmount : DefAt K "is_amount" sIsAmount)
    (d_isDay : DefAt K "is_day" sIsDay)
    (d_isName : DefAt K "is_name" sIsName)
    (d_checkName : DefAt K "check_name" sCheckName)
    (d_checkRule : DefAt K "check_rule" sCheckRule)
    (d_numbers : DefAt K "_law_numbers" sNumbers)
    (d_name : DefAt K "_law_name" sName)
    (d_other : DefAt K "_law_other" sOther)
    (d_rank : DefAt K "_law_rank" sRank)
    (d_call : DefAt K "_law_call" sCall)
    (d_view : DefAt K "_law_view" sView)
    (d_step : DefAt K "_law_step" sStep)
    (d_fresh : DefAt K "_law_fresh" sFresh)
    (d_steps : DefAt K "_law_steps" sSteps)
    (d_covered : DefAt K "_law_covered" sCovered)
    (d_count : DefAt K "_law_count" sCount)
    (d_law : DefAt K "law" sLaw)
    (m_ordInit : MethAt K D "__init__" "Order.__init__" sOrdInit)
    (m_require : MethAt K D "require" "Order.require" sRequire)
    (m_told : MethAt K D "told" "Order.told" sTold)
    (m_orsInit : MethAt K C "__init__" "Orders.__init__" sOrsInit)
    (m_addUser : MethAt K C "add_user" "Orders.add_user" sAddUser)
    (m_may : MethAt K C "may" "Orders.may" sMay)
    (m_setRule : MethAt K C "set_rule" "Orders.set_rule" sSetRule)
    (m_rowFor : MethAt K C "row_for" "Orders.row_for" sRowFor)
    (m_checkPlace : MethAt K C "check_place" "Orders.check_place" sCheckPlace)
    (m_place : MethAt K C "place" "Orders.place" sPlace)
    (m_atNumber : MethAt K C "at_number" "Orders.at_number" sAtNumber)
    (m_waitingFor : MethAt K C "waiting_for" "Orders.waiting_for" sWaitingFor)
    (m_grant : MethAt K C "grant" "Orders.grant" sGrant)
    (m_reject : MethAt K C "reject" "Orders.reject" sReject)
    (m_withdraw : MethAt K C "withdraw" "Orders.withdraw" sWithdraw)
    (m_expire : MethAt K C "expire" "Orders.expire" sExpire)
    (m_end : MethAt K C "end" "Orders.end" sEnd)
    (m_complete : MethAt K C "complete" "Orders.complete" sComplete)
    (m_fail : MethAt K C "fail" "Orders.fail" sFail)
    (m_order : MethAt K C "order" "Orders.order" sOrder)
    (m_byKey : MethAt K C "by_key" "Orders.by_key" sByKey)
    : ∃ fd : FuncData, (∀ (s : Shared) (v : Value), BindsTo s fd ⟨[v], []⟩ [("_law_script", v)]) ∧ ∀ base : Heap, K.In base → base.Ns mainGlobals mg → FnOk l.prog w K mg base CX0 6 fa fd ["_law_script"] (spLaw K) := by
  obtain ⟨f_isAmount, fd_isAmount, F_isAmount, g_isAmount⟩ := d_isAmount.out X G
  have b_isAmount := F_isAmount.binds (ps := ["number"]) fun _ _ _ _ _ _ us hl => match us, hl with | [_], _ => rfl
  obtain ⟨f_isDay, fd_isDay, F_isDay, g_isDay⟩ := d_isDay.out X G
  have b_isDay := F_isDay.binds (ps := ["number"]) fun _ _ _ _ _ _ us hl => match us, hl with | [_], _ => rfl
  obtain ⟨f_isName, fd_isName, F_isName, g_isName⟩ := d_isName.out X G
  have b_isName := F_isName.binds (ps := ["text"]) fun _ _ _ _ _ _ us hl => match us, hl with | [_], _ => rfl
  obtain ⟨f_checkName, fd_checkName, F_checkName, g_checkName⟩ := d_checkName.out X G
  have b_checkName := F_checkName.binds (ps := ["text"]) fun _ _ _ _ _ _ us hl => match us, hl with | [_], _ => rfl
  obtain ⟨f_checkRule, fd_checkRule, F_checkRule, g_checkRule⟩ := d_checkRule.out X G
  have b_checkRule := F_checkRule.binds (ps := ["rows"]) fun _ _ _ _ _ _ us hl => match us, hl with | [_], _ => rfl
  obtain ⟨f_numbers, fd_numbers, F_numbers, g_numbers⟩ := d_numbers.out X G
  have b_numbers := F_numbers.binds (ps := ["_law_cell", "_law_count_here"]) fun _ _ _ _ _ _ us hl => match us, hl with | [_, _], _ => rfl
  obtain ⟨f_name, fd_name, F_name, g_name⟩ := d_name.out X G
  have b_name := F_name.binds (ps := ["_law_n", "_law_size"]) fun _ _ _ _ _ _ us hl => match us, hl with | [_, _], _ => rfl
  obtain ⟨f_other, fd_other, F_other, g_other⟩ := d_other.out X G
  have b_other := F_other.binds (ps := ["_law_text", "_law_n", "_law_new", "_law_second"]) fun _ _ _ _ _ _ us hl => match us, hl with | [_, _, _, _], _ => rfl
  obtain ⟨f_rank, fd_rank, F_rank, g_rank⟩ := d_rank.out X G
  have b_rank := F_rank.binds (ps := ["_law_role"]) fun _ _ _ _ _ _ us hl => match us, hl with | [_], _ => rfl
  obtain ⟨f_call, fd_call, F_call, g_call⟩ := d_call.out X G
  have b_call := F_call.binds (ps := ["_law_orders", "_law_row", "_law_what", "_law_by", "_law_number"]) fun _ _ _ _ _ _ us hl => match us, hl with | [_, _, _, _, _], _ => rfl
  obtain ⟨f_view, fd_view, F_view, g_view⟩ := d_view.out X G
  have b_view := F_view.binds (ps := ["_law_orders", "_law_count_here"]) fun _ _ _ _ _ _ us hl => match us, hl with | [_, _], _ => rfl
  obtain ⟨f_step, fd_step, F_step, g_step⟩ := d_step.out X G
  have b_step := F_step.binds (ps := ["_law_old", "_law_new", "_law_what", "_law_by", "_law_roles", "_law_day"]) fun _ _ _ _ _ _ us hl => match us, hl with | [_, _, _, _, _, _], _ => rfl
  obtain ⟨f_fresh, fd_fresh, F_fresh, g_fresh⟩ := d_fresh.out X G
  have b_fresh := F_fresh.binds (ps := ["_law_view_here", "_law_roles"]) fun _ _ _ _ _ _ us hl => match us, hl with | [_, _], _ => rfl
  obtain ⟨f_steps, fd_steps, F_steps, g_steps⟩ := d_steps.out X G
  have b_steps := F_steps.binds (ps := ["_law_old", "_law_new", "_law_what", "_law_by", "_law_number", "_law_roles", "_law_day", "_law_done"]) fun _ _ _ _ _ _ us hl => match us, hl with | [_, _, _, _, _, _, _, _], _ => rfl
  obtain ⟨f_covered, fd_covered, F_covered, g_covered⟩ := d_covered.out X G
  have b_covered := F_covered.binds (ps := ["_law_views", "_law_roles"]) fun _ _ _ _ _ _ us hl => match us, hl with | [_, _], _ => rfl
  obtain ⟨f_count, fd_count, F_count, g_count⟩ := d_count.out X G
  have b_count := F_count.binds (ps := ["_law_orders", "_law_count_here"]) fun _ _ _ _ _ _ us hl => match us, hl with | [_, _], _ => rfl
  obtain ⟨f_law, fd_law, F_law, g_law⟩ := d_law.out X G
  obtain ⟨f_ordInit, fd_ordInit, F_ordInit, m_ordInit⟩ := m_ordInit.out
  have b_ordInit := F_ordInit.binds (ps := ["self", "maker", "kind", "amount", "key", "until"]) fun _ _ _ _ _ _ us hl => match us, hl with | [_, _, _, _, _, _], _ => rfl
  obtain ⟨f_require, fd_require, F_require, m_require⟩ := m_require.out
  have b_require := F_require.binds (ps := ["self", "required", "role"]) fun _ _ _ _ _ _ us hl => match us, hl with | [_, _, _], _ => rfl
  obtain ⟨f_told, fd_told, F_told, m_told⟩ := m_told.out
  have b_told := F_told.binds (ps := ["self"]) fun _ _ _ _ _ _ us hl => match us, hl with | [_], _ => rfl
  obtain ⟨f_orsInit, fd_orsInit, F_orsInit, m_orsInit⟩ := m_orsInit.out
  have b_orsInit := F_orsInit.binds (ps := ["self"]) fun _ _ _ _ _ _ us hl => match us, hl with | [_], _ => rfl
  obtain ⟨f_addUser, fd_addUser, F_addUser, m_addUser⟩ := m_addUser.out
  have b_addUser := F_addUser.binds (ps := ["self", "name", "role"]) fun _ _ _ _ _ _ us hl => match us, hl with | [_, _, _], _ => rfl
  obtain ⟨f_may, fd_may, F_may, m_may⟩ := m_may.out
  have b_may := F_may.binds (ps := ["self", "name", "role"]) fun _ _ _ _ _ _ us hl => match us, hl with | [_, _, _], _ => rfl
  obtain ⟨f_setRule, fd_setRule, F_setRule, m_setRule⟩ := m_setRule.out
  have b_setRule := F_setRule.binds (ps := ["self", "kind", "rows"]) fun _ _ _ _ _ _ us hl => match us, hl with | [_, _, _], _ => rfl
  obtain ⟨f_rowFor, fd_rowFor, F_rowFor, m_rowFor⟩ := m_rowFor.out
  have b_rowFor := F_rowFor.binds (ps := ["self", "kind", "amount"]) fun _ _ _ _ _ _ us hl => match us, hl with | [_, _, _], _ => rfl
  obtain ⟨f_checkPlace, fd_checkPlace, F_checkPlace, m_checkPlace⟩ := m_checkPlace.out
  have b_checkPlace := F_checkPlace.binds (ps := ["self", "by", "kind", "amount", "key", "until"]) fun _ _ _ _ _ _ us hl => match us, hl with | [_, _, _, _, _, _], _ => rfl
  obtain ⟨f_place, fd_place, F_place, m_place⟩ := m_place.out
  have b_place := F_place.binds (ps := ["self", "by", "kind", "amount", "key", "until"]) fun _ _ _ _ _ _ us hl => match us, hl with | [_, _, _, _, _, _], _ => rfl
  obtain ⟨f_atNumber, fd_atNumber, F_atNumber, m_atNumber⟩ := m_atNumber.out
  have b_atNumber := F_atNumber.binds (ps := ["self", "number"]) fun _ _ _ _ _ _ us hl => match us, hl with | [_, _], _ => rfl
  obtain ⟨f_waitingFor, fd_waitingFor, F_waitingFor, m_waitingFor⟩ := m_waitingFor.out
  have b_waitingFor := F_waitingFor.binds (ps := ["self", "by", "number"]) fun _ _ _ _ _ _ us hl => match us, hl with | [_, _, _], _ => rfl
  obtain ⟨f_grant, fd_grant, F_grant, m_grant⟩ := m_grant.out
  have b_grant := F_grant.binds (ps := ["self", "by", "number"]) fun _ _ _ _ _ _ us hl => match us, hl with | [_, _, _], _ => rfl
  obtain ⟨f_reject, fd_reject, F_reject, m_reject⟩ := m_reject.out
  have b_reject := F_reject.binds (ps := ["self", "by", "number"]) fun _ _ _ _ _ _ us hl => match us, hl with | [_, _, _], _ => rfl
  obtain ⟨f_withdraw, fd_withdraw, F_withdraw, m_withdraw⟩ := m_withdraw.out
  have b_withdraw := F_withdraw.binds (ps := ["self", "by", "number"]) fun _ _ _ _ _ _ us hl => match us, hl with | [_, _, _], _ => rfl
  obtain ⟨f_expire, fd_expire, F_expire, m_expire⟩ := m_expire.out
  have b_expire := F_expire.binds (ps := ["self", "day"]) fun _ _ _ _ _ _ us hl => match us, hl with | [_, _], _ => rfl
  obtain ⟨f_end, fd_end, F_end, m_end⟩ := m_end.out
  have b_end := F_end.binds (ps := ["self", "number", "state"]) fun _ _ _ _ _ _ us hl => match us, hl with | [_, _, _], _ => rfl
  obtain ⟨f_complete, fd_complete, F_complete, m_complete⟩ := m_complete.out
  have b_complete := F_complete.binds (ps := ["self", "number"]) fun _ _ _ _ _ _ us hl => match us, hl with | [_, _], _ => rfl
  obtain ⟨f_fail, fd_fail, F_fail, m_fail⟩ := m_fail.out
  have b_fail := F_fail.binds (ps := ["self", "number"]) fun _ _ _ _ _ _ us hl => match us, hl with | [_, _], _ => rfl
  obtain ⟨f_order, fd_order, F_order, m_order⟩ := m_order.out
  have b_order := F_order.binds (ps := ["self", "number"]) fun _ _ _ _ _ _ us hl => match us, hl with | [_, _], _ => rfl
  obtain ⟨f_byKey, fd_byKey, F_byKey, m_byKey⟩ := m_byKey.out
  have b_byKey := F_byKey.binds (ps := ["self", "key"]) fun _ _ _ _ _ _ us hl => match us, hl with | [_, _], _ => rfl
  obtain ⟨pgD, hdD, poD, saD, mkD, kpD⟩ := cD
  obtain ⟨pgC, hdC, poC, saC, mkC, kpC⟩ := cC
  obtain ⟨cN, EN⟩ := eNotAllowed.out X G b1 b2 b3
  obtain ⟨cM, EM⟩ := eMissing.out X G b1 b2 b3
  obtain ⟨cR, ER⟩ := eRefused.out X G b1 b2 b3
  have T : Txt K mg ⟨D, C, BE⟩ := ⟨⟨pgD, hdD, poD, saD⟩, nD_maker, nD_kind, nD_amount, nD_key, nD_until, nD_required, nD_role, nD_grants, nD_state, PySem.W.mg_of X G aD, ⟨pgC, hdC, poC, saC⟩, nC_roles, nC_rules, nC_placed, nC_numbers_by_key, PySem.W.mg_of X G aC, PySem.W.mg_of X G aB,
    PySem.W.mg_none_of X G z_len, PySem.W.mg_none_of X G z_all, PySem.W.mg_none_of X G z_range, PySem.W.mg_none_of X G z_list, PySem.W.mg_none_of X G z_tuple, PySem.W.mg_none_of X G z_enum, PySem.W.mg_none_of X G z_set, PySem.W.mg_none_of X G z_int, PySem.W.mg_none_of X G z_str, ⟨_, PySem.W.mg_of X G kLim⟩, ⟨_, PySem.W.mg_of X G kDay⟩, ⟨_, PySem.W.mg_of X G kMost⟩, ⟨_, PySem.W.mg_of X G kLet⟩, ⟨_, PySem.W.mg_of X G kDig⟩,
    ra, PySem.W.mg_of X G kRol, fun H => .inr ⟨_, _, _, lRol, rfl, rfl, (by show 3 ≤ sizeLine; decide), .cons ⟨_, rfl⟩ (.cons ⟨_, rfl⟩ (.cons ⟨_, rfl⟩ .nil))⟩, _, lRol, rfl, rfl⟩
  cases hfa.symm.trans g_law
  obtain ⟨oc, od, kV, doc, pm, an, cdv, ct, osl, rfl, lk, hcd⟩ := id F_law.ex
  refine ⟨PySem.W.fnOf "law" "law" (defArgs sLaw) (defBody sLaw) (defScope sLaw) .none kV doc pm an cdv ct, fun s v => .of_eq rfl, fun base _ _ => ?_⟩
  have D_isAmount := Dfn.mk (P := l.prog) (w := w) (base := base) (ok_isAmount F_isAmount T) g_isAmount F_isAmount.kp b_isAmount
  have D_isDay := Dfn.mk (P := l.prog) (w := w) (base := base) (ok_isDay F_isDay T) g_isDay F_isDay.kp b_isDay
  have D_isName := Dfn.mk (P := l.prog) (w := w) (base := base) (ok_isName F_isName T) g_isName F_isName.kp b_isName
  have D_checkName := Dfn.mk (P := l.prog) (w := w) (base := base) (ok_checkName F_checkName D_isName) g_checkName F_checkName.kp b_checkName
  have D_checkRule := Dfn.mk (P := l.prog) (w := w) (base := base) (ok_checkRule F_checkRule T) g_checkRule F_checkRule.kp b_checkRule
  have M_require := Mth.mk (P := l.prog) (w := w) (base := base) (ok_require F_require T) m_require b_require
  have M_told := Mth.mk (P := l.prog) (w := w) (base := base) (ok_told F_told T) m_told b_told
  have M_addUser := Mth.mk (P := l.prog) (w := w) (base := base) (ok_addUser F_addUser T D_checkName) m_addUser b_addUser
  have M_may := Mth.mk (P := l.prog) (w := w) (base := base) (ok_may F_may T) m_may b_may
  have M_setRule := Mth.mk (P := l.prog) (w := w) (base := base) (ok_setRule F_setRule T D_checkName D_checkRule) m_setRule b_setRule
  have M_rowFor := Mth.mk (P := l.prog) (w := w) (base := base) (ok_rowFor F_rowFor T) m_rowFor b_rowFor
  have M_byKey := Mth.mk (P := l.prog) (w := w) (base := base) (ok_byKey F_byKey T) m_byKey b_byKey
  have M_checkPlace := Mth.mk (P := l.prog) (w := w) (base := base) (ok_checkPlace F_checkPlace T D_checkName D_isAmount D_isDay EN) m_checkPlace b_checkPlace
  have G_ordInit := ok_ordInit (P := l.prog) (w := w) (base := base) F_ordInit T
  have M_place := Mth.mk (P := l.prog) (w := w) (base := base) (ok_place F_place T M_checkPlace M_byKey M_rowFor M_require ⟨mkD, m_ordInit.at_, m_ordInit.fn, kpD⟩ G_ordInit b_ordInit ER) m_place b_place
  have M_atNumber := Mth.mk (P := l.prog) (w := w) (base := base) (ok_atNumber F_atNumber T EM) m_atNumber b_atNumber
  have M_waitingFor := Mth.mk (P := l.prog) (w := w) (base := base) (ok_waitingFor F_waitingFor T M_atNumber M_may EN ER) m_waitingFor b_waitingFor
  have M_grant := Mth.mk (P := l.prog) (w := w) (base := base) (ok_grant F_grant T M_waitingFor EN) m_grant b_grant
  have M_reject := Mth.mk (P := l.prog) (w := w) (base := base) (ok_reject F_reject T M_waitingFor) m_reject b_reject
  have M_withdraw := Mth.mk (P := l.prog) (w := w) (base := base) (ok_withdraw F_withdraw T M_atNumber EN ER) m_withdraw b_withdraw
  have M_expire := Mth.mk (P := l.prog) (w := w) (base := base) (ok_expire F_expire T) m_expire b_expire
  have M_end := Mth.mk (P := l.prog) (w := w) (base := base) (ok_end F_end T M_atNumber ER) m_end b_end
  have M_complete := Mth.mk (P := l.prog) (w := w) (base := base) (ok_complete F_complete T M_end) m_complete b_complete
  have M_fail := Mth.mk (P := l.prog) (w := w) (base := base) (ok_fail F_fail T M_end) m_fail b_fail
  have M_order := Mth.mk (P := l.prog) (w := w) (base := base) (ok_order F_order T M_atNumber M_told) m_order b_order
  have D_numbers := Dfn.mk (P := l.prog) (w := w) (base := base) (ok_numbers F_numbers T) g_numbers F_numbers.kp b_numbers
  have D_name := Dfn.mk (P := l.prog) (w := w) (base := base) (ok_name F_name T) g_name F_name.kp b_name
  have D_other := Dfn.mk (P := l.prog) (w := w) (base := base) (ok_other F_other T) g_other F_other.kp b_other
  have D_rank := Dfn.mk (P := l.prog) (w := w) (base := base) (ok_rank F_rank T) g_rank F_rank.kp b_rank
  have MM : Mths l.prog w K mg base ⟨D, C, BE⟩ := ⟨⟨_, _, M_setRule⟩, ⟨_, _, M_place⟩, ⟨_, _, M_grant⟩, ⟨_, _, M_reject⟩, ⟨_, _, M_withdraw⟩, ⟨_, _, M_complete⟩, ⟨_, _, M_fail⟩, ⟨_, _, M_expire⟩⟩
  have D_call := Dfn.mk (P := l.prog) (w := w) (base := base) (ok_call F_call T MM) g_call F_call.kp b_call
  have D_view := Dfn.mk (P := l.prog) (w := w) (base := base) (ok_view F_view T M_order) g_view F_view.kp b_view
  have D_count := Dfn.mk (P := l.prog) (w := w) (base := base) (ok_count F_count T M_order) g_count F_count.kp b_count
  have D_fresh := Dfn.mk (P := l.prog) (w := w) (base := base) (ok_fresh F_fresh T) g_fresh F_fresh.kp b_fresh
  have D_step := Dfn.mk (P := l.prog) (w := w) (base := base) (ok_step F_step T D_rank) g_step F_step.kp b_step
  have D_steps := Dfn.mk (P := l.prog) (w := w) (base := base) (ok_steps F_steps T D_step D_fresh) g_steps F_steps.kp b_steps
  have D_covered := Dfn.mk (P := l.prog) (w := w) (base := base) (ok_covered F_covered T D_rank) g_covered F_covered.kp b_covered
  exact ok_law F_law T ⟨⟨_, _, D_numbers⟩, ⟨_, _, D_name⟩, ⟨_, _, D_other⟩, ⟨_, _, D_call⟩, ⟨_, _, D_view⟩, ⟨_, _, D_count⟩, ⟨_, _, D_steps⟩, ⟨_, _, D_covered⟩, ⟨_, _, ⟨mkC, m_orsInit.at_, m_orsInit.fn, kpC⟩, ok_orsInit F_orsInit T, b_orsInit⟩, ⟨_, _, M_addUser⟩⟩
theorem walk {l : PySem.W.OpenLaw} {q : Program} {loose : List Str} {XP : (Str → Option Value) → Heap → Prop} {YP : World → Heap → Prop} {d : DefRec} {K : Params → PySem.W.Frag} (hn : l.most = some 63) (hdf : d.params.defaults = [])
    (hY : ∀ (w : World) (h : Heap), YP w h → (K w.params).In h)
    (F : ∀ (w : World) (mg : Str → Option Value) (fa : Addr) (h : Heap), (K w.params).In h → h.Ns mainGlobals mg → mg d.name = some (.ref fa) →
      ∃ fd : FuncData, (∀ (s : Shared) (u : Value), BindsTo s fd ⟨[u], []⟩ [("_law_script", u)]) ∧ ∀ base : Heap, (K w.params).In base → base.Ns mainGlobals mg → FnOk l.prog w (K w.params) mg base CX0 6 fa fd ["_law_script"] (spLaw (K w.params))) :
    PySem.W.WalkO q loose XP YP l.row.toRowW d [] (fun f vs => PySem.call f vs) :=
  L2.walk_of (n := 63) (k := 6) (x := "_law_script") (CX := fun _ => CX0) (sp := fun w => spLaw (K w.params)) hn (by decide) hdf ⟨rfl, by decide, by decide⟩ hY F (fun _ _ a ns hl _ hS => ⟨a, ns, rfl, hS, hl, fun _ => rfl⟩) fun _ _ _ _ _ z => z
end K51
open PySem PySem.W PyProof.Rows in
set_option maxRecDepth 100000 in
set_option maxHeartbeats 0 in
theorem PySem.Challenge.cw_corebank_k51_whole_life_of_orders_holds : PySem.Challenge.rw_corebank_k51_whole_life_of_orders.Holds := by
  w_on; o_law; k_head; (case hw => w_witness2)
  k_fill
  refine K51.walk (l := PySem.Challenge.rw_corebank_k51_whole_life_of_orders) rfl rfl (fun w h Y => PySem.W.kIn_of Y) ?F
  case F =>
    intro w mg fa h KX G hmg
    refine' K51.all_mk KX G hmg ?aD ?aC ?aB ?cD ?cC ?nD_maker ?nD_kind ?nD_amount ?nD_key ?nD_until ?nD_required ?nD_role ?nD_grants ?nD_state ?nC_roles ?nC_rules ?nC_placed ?nC_numbers_by_key ?b1 ?b2 ?b3 ?eNotAllowed ?eMissing ?eRefused ?z_len ?z_all ?z_range ?z_list ?z_tuple ?z_enum ?z_set ?z_int ?z_str ?kLim ?kDay ?kMost ?kLet ?kDig ?kRol ?lRol ?d_isAmount ?d_isDay ?d_isName ?d_checkName ?d_checkRule ?d_numbers ?d_name ?d_other ?d_rank ?d_call ?d_view ?d_step ?d_fresh ?d_steps ?d_covered ?d_count ?d_law ?m_ordInit ?m_require ?m_told ?m_orsInit ?m_addUser ?m_may ?m_setRule ?m_rowFor ?m_checkPlace ?m_place ?m_atNumber ?m_waitingFor ?m_grant ?m_reject ?m_withdraw ?m_expire ?m_end ?m_complete ?m_fail ?m_order ?m_byKey
    (case aD => k_is)
    (case aC => k_is)
    (case aB => k_is)
    (case cD => exact ⟨by k_is, by k_is, by k_is, by k_is, by k_is, by k_is⟩)
    (case cC => exact ⟨by k_is, by k_is, by k_is, by k_is, by k_is, by k_is⟩)
    (case nD_maker => k_is)
    (case nD_kind => k_is)
    (case nD_amount => k_is)
    (case nD_key => k_is)
    (case nD_until => k_is)
    (case nD_required => k_is)
    (case nD_role => k_is)
    (case nD_grants => k_is)
    (case nD_state => k_is)
    (case nC_roles => k_is)
    (case nC_rules => k_is)
    (case nC_placed => k_is)
    (case nC_numbers_by_key => k_is)
    (case b1 => k_is)
    (case b2 => k_is)
    (case b3 => k_is)
    (case eNotAllowed => refine' K51.ErAt.mk ?eNotAlloweda ?eNotAllowedx ?eNotAllowedk ?eNotAllowedb ?eNotAllowedt ?eNotAlloweds; (case eNotAlloweda => k_is); (case eNotAllowedx => k_exc); (case eNotAllowedk => k_is); (case eNotAllowedb => k_is); (case eNotAllowedt => k_is); (case eNotAlloweds => k_is))
    (case eMissing => refine' K51.ErAt.mk ?eMissinga ?eMissingx ?eMissingk ?eMissingb ?eMissingt ?eMissings; (case eMissinga => k_is); (case eMissingx => k_exc); (case eMissingk => k_is); (case eMissingb => k_is); (case eMissingt => k_is); (case eMissings => k_is))
    (case eRefused => refine' K51.ErAt.mk ?eRefuseda ?eRefusedx ?eRefusedk ?eRefusedb ?eRefusedt ?eRefuseds; (case eRefuseda => k_is); (case eRefusedx => k_exc); (case eRefusedk => k_is); (case eRefusedb => k_is); (case eRefusedt => k_is); (case eRefuseds => k_is))
    (case z_len => k_is)
    (case z_all => k_is)
    (case z_range => k_is)
    (case z_list => k_is)
    (case z_tuple => k_is)
    (case z_enum => k_is)
    (case z_set => k_is)
    (case z_int => k_is)
    (case z_str => k_is)
    (case kLim => k_is)
    (case kDay => k_is)
    (case kMost => k_is)
    (case kLet => k_is)
    (case kDig => k_is)
    (case kRol => k_is)
    (case lRol => k_is)
    (case d_isAmount => refine' K51.DefAt.mk ?d_isAmounta ?d_isAmountl ?d_isAmountc ?d_isAmountk; (case d_isAmounta => k_is); (case d_isAmountl => k_is); (case d_isAmountc => k_is); (case d_isAmountk => k_is))
    (case d_isDay => refine' K51.DefAt.mk ?d_isDaya ?d_isDayl ?d_isDayc ?d_isDayk; (case d_isDaya => k_is); (case d_isDayl => k_is); (case d_isDayc => k_is); (case d_isDayk => k_is))
    (case d_isName => refine' K51.DefAt.mk ?d_isNamea ?d_isNamel ?d_isNamec ?d_isNamek; (case d_isNamea => k_is); (case d_isNamel => k_is); (case d_isNamec => k_is); (case d_isNamek => k_is))
    (case d_checkName => refine' K51.DefAt.mk ?d_checkNamea ?d_checkNamel ?d_checkNamec ?d_checkNamek; (case d_checkNamea => k_is); (case d_checkNamel => k_is); (case d_checkNamec => k_is); (case d_checkNamek => k_is))
    (case d_checkRule => refine' K51.DefAt.mk ?d_checkRulea ?d_checkRulel ?d_checkRulec ?d_checkRulek; (case d_checkRulea => k_is); (case d_checkRulel => k_is); (case d_checkRulec => k_is); (case d_checkRulek => k_is))
    (case d_numbers => refine' K51.DefAt.mk ?d_numbersa ?d_numbersl ?d_numbersc ?d_numbersk; (case d_numbersa => k_is); (case d_numbersl => k_is); (case d_numbersc => k_is); (case d_numbersk => k_is))
    (case d_name => refine' K51.DefAt.mk ?d_namea ?d_namel ?d_namec ?d_namek; (case d_namea => k_is); (case d_namel => k_is); (case d_namec => k_is); (case d_namek => k_is))
    (case d_other => refine' K51.DefAt.mk ?d_othera ?d_otherl ?d_otherc ?d_otherk; (case d_othera => k_is); (case d_otherl => k_is); (case d_otherc => k_is); (case d_otherk => k_is))
    (case d_rank => refine' K51.DefAt.mk ?d_ranka ?d_rankl ?d_rankc ?d_rankk; (case d_ranka => k_is); (case d_rankl => k_is); (case d_rankc => k_is); (case d_rankk => k_is))
    (case d_call => refine' K51.DefAt.mk ?d_calla ?d_calll ?d_callc ?d_callk; (case d_calla => k_is); (case d_calll => k_is); (case d_callc => k_is); (case d_callk => k_is))
    (case d_view => refine' K51.DefAt.mk ?d_viewa ?d_viewl ?d_viewc ?d_viewk; (case d_viewa => k_is); (case d_viewl => k_is); (case d_viewc => k_is); (case d_viewk => k_is))
    (case d_step => refine' K51.DefAt.mk ?d_stepa ?d_stepl ?d_stepc ?d_stepk; (case d_stepa => k_is); (case d_stepl => k_is); (case d_stepc => k_is); (case d_stepk => k_is))
    (case d_fresh => refine' K51.DefAt.mk ?d_fresha ?d_freshl ?d_freshc ?d_freshk; (case d_fresha => k_is); (case d_freshl => k_is); (case d_freshc => k_is); (case d_freshk => k_is))
    (case d_steps => refine' K51.DefAt.mk ?d_stepsa ?d_stepsl ?d_stepsc ?d_stepsk; (case d_stepsa => k_is); (case d_stepsl => k_is); (case d_stepsc => k_is); (case d_stepsk => k_is))
    (case d_covered => refine' K51.DefAt.mk ?d_covereda ?d_coveredl ?d_coveredc ?d_coveredk; (case d_covereda => k_is); (case d_coveredl => k_is); (case d_coveredc => k_is); (case d_coveredk => k_is))
    (case d_count => refine' K51.DefAt.mk ?d_counta ?d_countl ?d_countc ?d_countk; (case d_counta => k_is); (case d_countl => k_is); (case d_countc => k_is); (case d_countk => k_is))
    (case d_law => refine' K51.DefAt.mk ?d_lawa ?d_lawl ?d_lawc ?d_lawk; (case d_lawa => k_is); (case d_lawl => k_is); (case d_lawc => k_is); (case d_lawk => k_is))
    (case m_ordInit => refine' K51.MethAt.mk ?m_ordInita ?m_ordIniti ?m_ordInitl ?m_ordInitc ?m_ordInitk; (case m_ordInita => k_is); (case m_ordIniti => k_is); (case m_ordInitl => k_is); (case m_ordInitc => k_is); (case m_ordInitk => k_is))
    (case m_require => refine' K51.MethAt.mk ?m_requirea ?m_requirei ?m_requirel ?m_requirec ?m_requirek; (case m_requirea => k_is); (case m_requirei => k_is); (case m_requirel => k_is); (case m_requirec => k_is); (case m_requirek => k_is))
    (case m_told => refine' K51.MethAt.mk ?m_tolda ?m_toldi ?m_toldl ?m_toldc ?m_toldk; (case m_tolda => k_is); (case m_toldi => k_is); (case m_toldl => k_is); (case m_toldc => k_is); (case m_toldk => k_is))
    (case m_orsInit => refine' K51.MethAt.mk ?m_orsInita ?m_orsIniti ?m_orsInitl ?m_orsInitc ?m_orsInitk; (case m_orsInita => k_is); (case m_orsIniti => k_is); (case m_orsInitl => k_is); (case m_orsInitc => k_is); (case m_orsInitk => k_is))
    (case m_addUser => refine' K51.MethAt.mk ?m_addUsera ?m_addUseri ?m_addUserl ?m_addUserc ?m_addUserk; (case m_addUsera => k_is); (case m_addUseri => k_is); (case m_addUserl => k_is); (case m_addUserc => k_is); (case m_addUserk => k_is))
    (case m_may => refine' K51.MethAt.mk ?m_maya ?m_mayi ?m_mayl ?m_mayc ?m_mayk; (case m_maya => k_is); (case m_mayi => k_is); (case m_mayl => k_is); (case m_mayc => k_is); (case m_mayk => k_is))
    (case m_setRule => refine' K51.MethAt.mk ?m_setRulea ?m_setRulei ?m_setRulel ?m_setRulec ?m_setRulek; (case m_setRulea => k_is); (case m_setRulei => k_is); (case m_setRulel => k_is); (case m_setRulec => k_is); (case m_setRulek => k_is))
    (case m_rowFor => refine' K51.MethAt.mk ?m_rowFora ?m_rowFori ?m_rowForl ?m_rowForc ?m_rowFork; (case m_rowFora => k_is); (case m_rowFori => k_is); (case m_rowForl => k_is); (case m_rowForc => k_is); (case m_rowFork => k_is))
    (case m_checkPlace => refine' K51.MethAt.mk ?m_checkPlacea ?m_checkPlacei ?m_checkPlacel ?m_checkPlacec ?m_checkPlacek; (case m_checkPlacea => k_is); (case m_checkPlacei => k_is); (case m_checkPlacel => k_is); (case m_checkPlacec => k_is); (case m_checkPlacek => k_is))
    (case m_place => refine' K51.MethAt.mk ?m_placea ?m_placei ?m_placel ?m_placec ?m_placek; (case m_placea => k_is); (case m_placei => k_is); (case m_placel => k_is); (case m_placec => k_is); (case m_placek => k_is))
    (case m_atNumber => refine' K51.MethAt.mk ?m_atNumbera ?m_atNumberi ?m_atNumberl ?m_atNumberc ?m_atNumberk; (case m_atNumbera => k_is); (case m_atNumberi => k_is); (case m_atNumberl => k_is); (case m_atNumberc => k_is); (case m_atNumberk => k_is))
    (case m_waitingFor => refine' K51.MethAt.mk ?m_waitingFora ?m_waitingFori ?m_waitingForl ?m_waitingForc ?m_waitingFork; (case m_waitingFora => k_is); (case m_waitingFori => k_is); (case m_waitingForl => k_is); (case m_waitingForc => k_is); (case m_waitingFork => k_is))
    (case m_grant => refine' K51.MethAt.mk ?m_granta ?m_granti ?m_grantl ?m_grantc ?m_grantk; (case m_granta => k_is); (case m_granti => k_is); (case m_grantl => k_is); (case m_grantc => k_is); (case m_grantk => k_is))
    (case m_reject => refine' K51.MethAt.mk ?m_rejecta ?m_rejecti ?m_rejectl ?m_rejectc ?m_rejectk; (case m_rejecta => k_is); (case m_rejecti => k_is); (case m_rejectl => k_is); (case m_rejectc => k_is); (case m_rejectk => k_is))
    (case m_withdraw => refine' K51.MethAt.mk ?m_withdrawa ?m_withdrawi ?m_withdrawl ?m_withdrawc ?m_withdrawk; (case m_withdrawa => k_is); (case m_withdrawi => k_is); (case m_withdrawl => k_is); (case m_withdrawc => k_is); (case m_withdrawk => k_is))
    (case m_expire => refine' K51.MethAt.mk ?m_expirea ?m_expirei ?m_expirel ?m_expirec ?m_expirek; (case m_expirea => k_is); (case m_expirei => k_is); (case m_expirel => k_is); (case m_expirec => k_is); (case m_expirek => k_is))
    (case m_end => refine' K51.MethAt.mk ?m_enda ?m_endi ?m_endl ?m_endc ?m_endk; (case m_enda => k_is); (case m_endi => k_is); (case m_endl => k_is); (case m_endc => k_is); (case m_endk => k_is))
    (case m_complete => refine' K51.MethAt.mk ?m_completea ?m_completei ?m_completel ?m_completec ?m_completek; (case m_completea => k_is); (case m_completei => k_is); (case m_completel => k_is); (case m_completec => k_is); (case m_completek => k_is))
    (case m_fail => refine' K51.MethAt.mk ?m_faila ?m_faili ?m_faill ?m_failc ?m_failk; (case m_faila => k_is); (case m_faili => k_is); (case m_faill => k_is); (case m_failc => k_is); (case m_failk => k_is))
    (case m_order => refine' K51.MethAt.mk ?m_ordera ?m_orderi ?m_orderl ?m_orderc ?m_orderk; (case m_ordera => k_is); (case m_orderi => k_is); (case m_orderl => k_is); (case m_orderc => k_is); (case m_orderk => k_is))
    (case m_byKey => refine' K51.MethAt.mk ?m_byKeya ?m_byKeyi ?m_byKeyl ?m_byKeyc ?m_byKeyk; (case m_byKeya => k_is); (case m_byKeyi => k_is); (case m_byKeyl => k_is); (case m_byKeyc => k_is); (case m_byKeyk => k_is))
