/-
  entitle.Total of the examples of law55.
-/
import Derived.Test.YtbdaaopebgcnaaaGreatDoorSaneHM
set_option linter.all false
namespace Go.Proofs.YtbdaaopebgcnaaaGreatDoor
open Go.Ideal
noncomputable def Ui:List (Nat×di):=[(202,.cells [.int .i64 (.ofNat 0),.int .i64 (.ofNat 0),.int .i64 (.ofNat 0),.int .i64 (.ofNat 0),.int .i64 (.ofNat 0),.bool true]),(203,.cells [.int .i64 (.ofNat 0),.int .i64 (.ofNat 3),.int .i64 (.ofNat 0),.int .i64 (.ofNat 5),.slice none 0 0]),(837,.cells [.int .i64 (.ofNat 10),.int .i64 (.ofNat 3)]),(839,.cells [.int .i64 (.ofNat 1)]),(840,.cells [.int .i64 (.ofNat 1)]),(841,.cells [.int .i64 (.ofNat 1),.int .i64 (.ofNat 1)]),(842,.cells [.bool false])]
noncomputable def Uj:List Value:=[.agg ⟨[.int .i64 (.ofNat 2),.int .i64 (.ofNat 1),.slice (some ⟨839,0,some 0⟩) 1 1,.slice (some ⟨840,0,some 0⟩) 1 1,.slice (some ⟨841,0,some 0⟩) 1 1,.slice (some ⟨837,0,some 0⟩) 2 2]⟩,.slice (some ⟨202,0,some 0⟩) 1 1,.slice (some ⟨842,0,some 0⟩) 1 1,.slice (some ⟨203,0,some 0⟩) 1 1,.int .i64 (.ofNat 5)]
noncomputable def Io:Value:=.tuple ⟨[.agg ⟨[.int .i64 (.ofNat 12),.int .i64 (.ofNat 13)]⟩,.int .i64 (.ofNat 0)]⟩
theorem aeq:vN Io=true:=by simp[Io,vN,bM,iB,cellV]
theorem aer:(Ch MZ 1000000).call ⟨.func 14,Uj,[],none⟩ ⟨heapT Ui,843,843⟩ (gives Io 843)=true:=by kernel_rfl
