/-
  Own work: pieces of the evaluation of the fixed examples.
-/
import Derived.Test.YtmngppcmhfhgaaaGreatDoorCh5E1
set_option maxHeartbeats 8000000
set_option maxRecDepth 20000
namespace Go.Ab.Ch5
set_option maxRecDepth 1000000
def Ay:bA:=⟨216,[.str [49,48,48,48,48,48]],(nn 41),⟨.agg [.int .i64 (100000),.ab],(nn 41),[]⟩⟩
def Az:List bA:=e9::T9
theorem zh:Shown Az Ay:=by
 show _=_;kernel_rfl
def AA:bA:=⟨137,[.str [49,48,48,48,48,48],.bool false],(nn 40),⟨.int .i64 (0),(nn 40),[]⟩⟩
def AB:List bA:=Ay::Az
theorem zj:Shown AB AA:=by
 show _=_;kernel_rfl
def AD:bA:=⟨137,[.str [53],.bool true],(nn 40),⟨.int .i64 (0),(nn 40),[]⟩⟩
def AE:List bA:=AA::AB
theorem Rs:Shown AE AD:=by
 show _=_;kernel_rfl
def AF:bA:=⟨216,[.str [49,48,48,48,48,48]],(nn 43),⟨.agg [.int .i64 (100000),.ab],(nn 43),[]⟩⟩
def AG:List bA:=AD::AE
theorem Rt:Shown AG AF:=by
 show _=_;kernel_rfl
def AH:bA:=⟨100,[.agg [.int .i64 (100000),.ab,.int .i64 (1),.ab,.int .i64 (5),.ab,.int .i64 (1),.ab],.int .i64 (2)],(nn 40),⟨.agg [.int .i64 (100010),.ab,.int .i64 (1),.ab,.int .i64 (100015),.ab,.int .i64 (1),.ab],(nn 40),[]⟩⟩
def AI:List bA:=AF::AG
theorem Ru:Shown AI AH:=by
 show _=_;kernel_rfl
end Go.Ab.Ch5
