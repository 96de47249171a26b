/-
  Contracts, in plain Lean: what may be one, what comes of it, who gets what.
-/
import Derived.Test.YtpppiliakgoihaaG
namespace Go.XG
structure D where
  id : Int
  kind : Int
  iss : Int
  div : Int
  man : Int
  to : Int
  place : Int
  dest : Int
  pay : Int
  pledge : Int
  lasts : Int
  days : Int
  fee : Int
  gives : List Stack
  wants : List Stack
  st : Int
  due : Int
  taker : Int
  into : Int
  deriving DecidableEq
def D0 : D := ⟨0, 0, 0, 0, 0, 0, 0, 0, 0, 0, 0, 0, 0, [], [], 0, 0, 0, 0⟩
abbrev dcs (d : D) (a b : Option Addr) (c e : Nat) : List Value :=
  [.int .i64 d.id, .int .i64 d.kind, .int .i64 d.iss, .int .i64 d.div, .int .i64 d.man, .int .i64 d.to, .int .i64 d.place, .int .i64 d.dest, .int .i64 d.pay, .int .i64 d.pledge, .int .i64 d.lasts, .int .i64 d.days, .int .i64 d.fee,
   .slice a d.gives.length c, .slice b d.wants.length e, .int .i64 d.st, .int .i64 d.due, .int .i64 d.taker, .int .i64 d.into]
abbrev dv (d : D) (a b : Option Addr) (c e : Nat) : Value := .agg (dcs d a b c e).toArray
def Free (d : D) : Prop := d.taker = 0 ∧ d.into = 0
def Taken (d : D) : Prop := 1 ≤ d.taker ∧ d.taker ≤ 1099511627776 ∧ d.taker ≠ d.iss ∧ 0 ≤ d.into ∧ d.into ≤ 4
def Due (d : D) : Prop := 1 ≤ d.due ∧ d.due ≤ 2199023255552
def Stands (d : D) : Prop :=
  d.st = 1 ∧ Due d ∧ Free d ∨ d.st = 2 ∧ d.kind = 1 ∧ Due d ∧ Taken d ∨ d.st = 3 ∧ d.due = 0 ∧ Taken d ∨ d.st = 4 ∧ d.kind = 1 ∧ d.due = 0 ∧ Taken d ∨
  d.st = 5 ∧ d.to ≠ 0 ∧ d.due = 0 ∧ Free d ∨ (d.st = 6 ∨ d.st = 7) ∧ d.due = 0 ∧ Free d
instance (d : D) : Decidable (Stands d) := by unfold Stands Due Free Taken; infer_instance
def Who (d : D) : Prop := (1 ≤ d.id ∧ d.id ≤ 1099511627776) ∧ (1 ≤ d.iss ∧ d.iss ≤ 1099511627776) ∧ (1 ≤ d.man ∧ d.man ≤ 1099511627776) ∧ (0 ≤ d.div ∧ d.div ≤ 4) ∧ (0 ≤ d.to ∧ d.to ≤ 1099511627776) ∧ d.to ≠ d.iss
instance (d : D) : Decidable (Who d) := by unfold Who; infer_instance
def What (d : D) : Prop := (1 ≤ d.place ∧ d.place ≤ 8) ∧ (0 ≤ d.pay ∧ d.pay ≤ 1152921504606846976) ∧ (0 ≤ d.fee ∧ d.fee ≤ 1152921504606846976) ∧ (1 ≤ d.lasts ∧ d.lasts ≤ 1048576)
instance (d : D) : Decidable (What d) := by unfold What; infer_instance
def Lists (d : D) : Prop := Goods d.gives 32 ∧ Goods d.wants 32
instance (d : D) : Decidable (Lists d) := by unfold Lists; infer_instance
def Kin (d : D) : Prop :=
  d.kind = 1 ∧ (1 ≤ d.dest ∧ d.dest ≤ 8) ∧ (1 ≤ d.days ∧ d.days ≤ 1048576) ∧ (0 ≤ d.pledge ∧ d.pledge ≤ 1152921504606846976) ∧ 0 < d.gives.length ∧ d.wants.length = 0 ∨
  d.kind = 2 ∧ d.dest = 0 ∧ d.days = 0 ∧ d.pledge = 0 ∧ 0 < d.gives.length + d.wants.length
instance (d : D) : Decidable (Kin d) := by unfold Kin; infer_instance
def Good (d : D) : Prop := Who d ∧ What d ∧ Lists d ∧ Kin d ∧ Stands d
instance (d : D) : Decidable (Good d) := by unfold Good; infer_instance
end Go.XG
