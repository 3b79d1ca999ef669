/- In the text of a program, however long, a wrong line is named: for every program, line and way the law TopTextsRefused answers true, and its arguments read afterwards as before. Conditions: those of the given statement alone (the card, tied). -/
import Derived.Test.YtapjdlcdgnochaaGreatDoorMc1
import Derived.Test.YtapjdlcdgnochaaGreatDoorMd3
namespace Mini
theorem plain : Plain := fun p l w _ _ _ => (top_ev p l w).at
end Mini
namespace Go.Proofs.YtapjdlcdgnochaaGreatDoor
theorem topTextsRefused_holds : Rows.TopTextsRefusedCardSaid := Mini.card_holds Mini.plain
end Go.Proofs.YtapjdlcdgnochaaGreatDoor
