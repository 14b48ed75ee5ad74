/-
  entitle.Total of the examples of law55.
-/
import Derived.Test.YtbdaaopebgcnaaaGreatDoorSaneHM
set_option linter.all false
namespace Go.Proofs.YtbdaaopebgcnaaaGreatDoor
open Go.Ideal
noncomputable def QR:List (Nat×bQ):=[(202,.cells [.int .i64 (.ofNat 0),.int .i64 (.ofNat 0),.int .i64 (.ofNat 0),.int .i64 (.ofNat 0),.int .i64 (.ofNat 0),.bool true]),(203,.cells [.int .i64 (.ofNat 0),.int .i64 (.ofNat 3),.int .i64 (.ofNat 0),.int .i64 (.ofNat 5),.slice none 0 0]),(837,.cells [.int .i64 (.ofNat 10),.int .i64 (.ofNat 3)]),(839,.cells [.int .i64 (.ofNat 1)]),(840,.cells [.int .i64 (.ofNat 1)]),(841,.cells [.int .i64 (.ofNat 1),.int .i64 (.ofNat 1)]),(842,.cells [.bool false])]
noncomputable def QS:List Value:=[.agg ⟨[.int .i64 (.ofNat 2),.int .i64 (.ofNat 1),.slice (some ⟨839,0,some 0⟩) 1 1,.slice (some ⟨840,0,some 0⟩) 1 1,.slice (some ⟨841,0,some 0⟩) 1 1,.slice (some ⟨837,0,some 0⟩) 2 2]⟩,.slice (some ⟨202,0,some 0⟩) 1 1,.slice (some ⟨842,0,some 0⟩) 1 1,.slice (some ⟨203,0,some 0⟩) 1 1,.int .i64 (.ofNat 5)]
noncomputable def FE:Value:=.tuple ⟨[.agg ⟨[.int .i64 (.ofNat 12),.int .i64 (.ofNat 13)]⟩,.int .i64 (.ofNat 0)]⟩
theorem abL:tT FE=true:=by simp[FE,tT,bE,gV,cellV]
theorem abM:(Ak Ke 1000000).call ⟨.func 14,QS,[],none⟩ ⟨heapT QR,843,843⟩ (gives FE 843)=true:=by kernel_rfl
