/-
  Places in lists, by number; printed. No condition.
-/
import Derived.Test.YtgbilchfljlbeaaDoorTw2
set_option linter.all false
namespace Go.Eng
open Go
theorem mp0 {α:Type} {x:α} {L:List α}:x∈x::L := .head _
theorem mp1 {α:Type} {x y1:α} {L:List α}:x∈y1::x::L := .tail _ (.head _)
theorem tl1 {L:List It} {y1:It}:∀ e,e∈L→e∈y1::L:=fun _ h => .tail _ (h)
theorem ro1 {w0 w:World} {L:List It} {y1 x:It} (h:Ho w0 w (y1::x::L)):Ho w0 w (x::y1::L):=h.pick (A:=[_,_]) [1,0] rfl
theorem mp2 {α:Type} {x y1 y2:α} {L:List α}:x∈y1::y2::x::L := .tail _ (.tail _ (.head _))
theorem tl2 {L:List It} {y1 y2:It}:∀ e,e∈L→e∈y1::y2::L:=fun _ h => .tail _ (.tail _ (h))
theorem ro2 {w0 w:World} {L:List It} {y1 y2 x:It} (h:Ho w0 w (y1::y2::x::L)):Ho w0 w (x::y1::y2::L):=h.pick (A:=[_,_,_]) [2,0,0] rfl
theorem mp3 {α:Type} {x y1 y2 y3:α} {L:List α}:x∈y1::y2::y3::x::L := .tail _ (.tail _ (.tail _ (.head _)))
theorem tl3 {L:List It} {y1 y2 y3:It}:∀ e,e∈L→e∈y1::y2::y3::L:=fun _ h => .tail _ (.tail _ (.tail _ (h)))
theorem ro3 {w0 w:World} {L:List It} {y1 y2 y3 x:It} (h:Ho w0 w (y1::y2::y3::x::L)):Ho w0 w (x::y1::y2::y3::L):=h.pick (A:=[_,_,_,_]) [3,0,0,0] rfl
theorem mp4 {α:Type} {x y1 y2 y3 y4:α} {L:List α}:x∈y1::y2::y3::y4::x::L := .tail _ (.tail _ (.tail _ (.tail _ (.head _))))
theorem tl4 {L:List It} {y1 y2 y3 y4:It}:∀ e,e∈L→e∈y1::y2::y3::y4::L:=fun _ h => .tail _ (.tail _ (.tail _ (.tail _ (h))))
theorem ro4 {w0 w:World} {L:List It} {y1 y2 y3 y4 x:It} (h:Ho w0 w (y1::y2::y3::y4::x::L)):Ho w0 w (x::y1::y2::y3::y4::L):=h.pick (A:=[_,_,_,_,_]) [4,0,0,0,0] rfl
theorem mp5 {α:Type} {x y1 y2 y3 y4 y5:α} {L:List α}:x∈y1::y2::y3::y4::y5::x::L := .tail _ (.tail _ (.tail _ (.tail _ (.tail _ (.head _)))))
theorem tl5 {L:List It} {y1 y2 y3 y4 y5:It}:∀ e,e∈L→e∈y1::y2::y3::y4::y5::L:=fun _ h => .tail _ (.tail _ (.tail _ (.tail _ (.tail _ (h)))))
theorem ro5 {w0 w:World} {L:List It} {y1 y2 y3 y4 y5 x:It} (h:Ho w0 w (y1::y2::y3::y4::y5::x::L)):Ho w0 w (x::y1::y2::y3::y4::y5::L):=h.pick (A:=[_,_,_,_,_,_]) [5,0,0,0,0,0] rfl
theorem mp6 {α:Type} {x y1 y2 y3 y4 y5 y6:α} {L:List α}:x∈y1::y2::y3::y4::y5::y6::x::L := .tail _ (.tail _ (.tail _ (.tail _ (.tail _ (.tail _ (.head _))))))
theorem tl6 {L:List It} {y1 y2 y3 y4 y5 y6:It}:∀ e,e∈L→e∈y1::y2::y3::y4::y5::y6::L:=fun _ h => .tail _ (.tail _ (.tail _ (.tail _ (.tail _ (.tail _ (h))))))
theorem ro6 {w0 w:World} {L:List It} {y1 y2 y3 y4 y5 y6 x:It} (h:Ho w0 w (y1::y2::y3::y4::y5::y6::x::L)):Ho w0 w (x::y1::y2::y3::y4::y5::y6::L):=h.pick (A:=[_,_,_,_,_,_,_]) [6,0,0,0,0,0,0] rfl
theorem mp7 {α:Type} {x y1 y2 y3 y4 y5 y6 y7:α} {L:List α}:x∈y1::y2::y3::y4::y5::y6::y7::x::L := .tail _ (.tail _ (.tail _ (.tail _ (.tail _ (.tail _ (.tail _ (.head _)))))))
theorem ro7 {w0 w:World} {L:List It} {y1 y2 y3 y4 y5 y6 y7 x:It} (h:Ho w0 w (y1::y2::y3::y4::y5::y6::y7::x::L)):Ho w0 w (x::y1::y2::y3::y4::y5::y6::y7::L):=h.pick (A:=[_,_,_,_,_,_,_,_]) [7,0,0,0,0,0,0,0] rfl
theorem mp8 {α:Type} {x y1 y2 y3 y4 y5 y6 y7 y8:α} {L:List α}:x∈y1::y2::y3::y4::y5::y6::y7::y8::x::L := .tail _ (.tail _ (.tail _ (.tail _ (.tail _ (.tail _ (.tail _ (.tail _ (.head _))))))))
theorem tl8 {L:List It} {y1 y2 y3 y4 y5 y6 y7 y8:It}:∀ e,e∈L→e∈y1::y2::y3::y4::y5::y6::y7::y8::L:=fun _ h => .tail _ (.tail _ (.tail _ (.tail _ (.tail _ (.tail _ (.tail _ (.tail _ (h))))))))
theorem ro8 {w0 w:World} {L:List It} {y1 y2 y3 y4 y5 y6 y7 y8 x:It} (h:Ho w0 w (y1::y2::y3::y4::y5::y6::y7::y8::x::L)):Ho w0 w (x::y1::y2::y3::y4::y5::y6::y7::y8::L):=h.pick (A:=[_,_,_,_,_,_,_,_,_]) [8,0,0,0,0,0,0,0,0] rfl
theorem mp9 {α:Type} {x y1 y2 y3 y4 y5 y6 y7 y8 y9:α} {L:List α}:x∈y1::y2::y3::y4::y5::y6::y7::y8::y9::x::L := .tail _ (.tail _ (.tail _ (.tail _ (.tail _ (.tail _ (.tail _ (.tail _ (.tail _ (.head _)))))))))
theorem tl9 {L:List It} {y1 y2 y3 y4 y5 y6 y7 y8 y9:It}:∀ e,e∈L→e∈y1::y2::y3::y4::y5::y6::y7::y8::y9::L:=fun _ h => .tail _ (.tail _ (.tail _ (.tail _ (.tail _ (.tail _ (.tail _ (.tail _ (.tail _ (h)))))))))
theorem mp10 {α:Type} {x y1 y2 y3 y4 y5 y6 y7 y8 y9 y10:α} {L:List α}:x∈y1::y2::y3::y4::y5::y6::y7::y8::y9::y10::x::L := .tail _ (.tail _ (.tail _ (.tail _ (.tail _ (.tail _ (.tail _ (.tail _ (.tail _ (.tail _ (.head _))))))))))
theorem tl10 {L:List It} {y1 y2 y3 y4 y5 y6 y7 y8 y9 y10:It}:∀ e,e∈L→e∈y1::y2::y3::y4::y5::y6::y7::y8::y9::y10::L:=fun _ h => .tail _ (.tail _ (.tail _ (.tail _ (.tail _ (.tail _ (.tail _ (.tail _ (.tail _ (.tail _ (h))))))))))
theorem mp11 {α:Type} {x y1 y2 y3 y4 y5 y6 y7 y8 y9 y10 y11:α} {L:List α}:x∈y1::y2::y3::y4::y5::y6::y7::y8::y9::y10::y11::x::L := .tail _ (.tail _ (.tail _ (.tail _ (.tail _ (.tail _ (.tail _ (.tail _ (.tail _ (.tail _ (.tail _ (.head _)))))))))))
theorem tl11 {L:List It} {y1 y2 y3 y4 y5 y6 y7 y8 y9 y10 y11:It}:∀ e,e∈L→e∈y1::y2::y3::y4::y5::y6::y7::y8::y9::y10::y11::L:=fun _ h => .tail _ (.tail _ (.tail _ (.tail _ (.tail _ (.tail _ (.tail _ (.tail _ (.tail _ (.tail _ (.tail _ (h)))))))))))
theorem mp12 {α:Type} {x y1 y2 y3 y4 y5 y6 y7 y8 y9 y10 y11 y12:α} {L:List α}:x∈y1::y2::y3::y4::y5::y6::y7::y8::y9::y10::y11::y12::x::L := .tail _ (.tail _ (.tail _ (.tail _ (.tail _ (.tail _ (.tail _ (.tail _ (.tail _ (.tail _ (.tail _ (.tail _ (.head _))))))))))))
theorem tl12 {L:List It} {y1 y2 y3 y4 y5 y6 y7 y8 y9 y10 y11 y12:It}:∀ e,e∈L→e∈y1::y2::y3::y4::y5::y6::y7::y8::y9::y10::y11::y12::L:=fun _ h => .tail _ (.tail _ (.tail _ (.tail _ (.tail _ (.tail _ (.tail _ (.tail _ (.tail _ (.tail _ (.tail _ (.tail _ (h))))))))))))
theorem mp14 {α:Type} {x y1 y2 y3 y4 y5 y6 y7 y8 y9 y10 y11 y12 y13 y14:α} {L:List α}:x∈y1::y2::y3::y4::y5::y6::y7::y8::y9::y10::y11::y12::y13::y14::x::L := .tail _ (.tail _ (.tail _ (.tail _ (.tail _ (.tail _ (.tail _ (.tail _ (.tail _ (.tail _ (.tail _ (.tail _ (.tail _ (.tail _ (.head _))))))))))))))
theorem tl14 {L:List It} {y1 y2 y3 y4 y5 y6 y7 y8 y9 y10 y11 y12 y13 y14:It}:∀ e,e∈L→e∈y1::y2::y3::y4::y5::y6::y7::y8::y9::y10::y11::y12::y13::y14::L:=fun _ h => .tail _ (.tail _ (.tail _ (.tail _ (.tail _ (.tail _ (.tail _ (.tail _ (.tail _ (.tail _ (.tail _ (.tail _ (.tail _ (.tail _ (h))))))))))))))
theorem tl16 {L:List It} {y1 y2 y3 y4 y5 y6 y7 y8 y9 y10 y11 y12 y13 y14 y15 y16:It}:∀ e,e∈L→e∈y1::y2::y3::y4::y5::y6::y7::y8::y9::y10::y11::y12::y13::y14::y15::y16::L:=fun _ h => .tail _ (.tail _ (.tail _ (.tail _ (.tail _ (.tail _ (.tail _ (.tail _ (.tail _ (.tail _ (.tail _ (.tail _ (.tail _ (.tail _ (.tail _ (.tail _ (h))))))))))))))))
end Go.Eng
